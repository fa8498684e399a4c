import PyProof.Rows.All
import Wide.All
import OpenK.AllK
import KE.KNestM
import HandS.Head2
import HandS.HeadHook1
import HandS.HeadHook2
import HandS.HeadHook3
import HandS.HeadHook4
import HandS.Property
import HandS.Words
import HandS.Exc
import KE.KSuper
import KE.KTryMore
import Wide.FinOn
import HandS.ForMost
import HandS.Wide
import HandS.TupAny
import HandS.TupMul
import HandS.Style
import HandS.Walk
import HandS.Zip
import HandS.Conv
import HandS.Defaults
import HandS.Flow
import HandS.ExcInit
import HandS.Lambda
import PyProof.StrOps2
import HandS.NoneIn
import PyProof.ReprRoads
import HandS.Deep
import HandS.IsInst
import KE.KExcIs
import HandS.Codes
import HandS.RaiseMore
import PyProof.ListStr
import PyProof.TupleOfStr
import KE.GoesNew
import HandS.Star
import HandS.Head0
import HandS.Head1
import HandS.HeadEnd
import HandS.WordsExc
import HandS.Iter
import HandS.Strs
import HandS.SetFor
import HandS.SortInts
import KE.SortData
import KE.DataCmp
import KE.DataMinMax
import HandS.OwnEq
import HandS.Replace
import HandS.Nested
import HandS.ExcField
import HandS.ExcIs
import KE.KExcSuper
import HandS.ExcValue
import PyProof.Rows.SortShellAny
import HandS.Text
import PyProof.Rows.StrSplitMax
import PyProof.NeKinds
import HandS.MakeKwOnly
import HandS.ListItems
import HandS.Small
import HandS.ReplaceLit
import PyProof.StrLawsReplace
import KE.KIntText
import KE.KStrOpen
import PySem.Challenge.RW_showncut_k50_whole_rows_told_back
set_option Elab.async false
set_option linter.all false
set_option maxRecDepth 100000
set_option maxHeartbeats 0
set_option autoImplicit false
namespace Pd
open PySem
def tabOf (o : Obj) : Option (Addr × Str) := match o.cls, o.data with
  | .type "code", .fields vs => match (vs[11]? : Option Value), (vs[1]? : Option Value) with
    | some (.ref P), some (.str q _) => some (P, q ++ ".<locals>." ++ "<lambda>")
    | _, _ => none
  | _, _ => none
def tabsK (K : PySem.W.Frag) : List (Addr × Str) := K.filterMap fun p => if (tabOf p.2).isSome then (K.lookup p.1).bind tabOf else none
def isTab0 (o : Obj) : Bool := match o.cls, o.dict, o.data with
  | .none, none, .fields vs => vs.isEmpty && o.slots.isEmpty
  | _, _, _ => false
def noTab (g : Addr → Option Obj) : Addr → Option Obj := fun a => match g a with
  | some o => if isTab0 o then none else some o
  | none => none
def nodupB : List Addr → Bool
  | [] => true
  | a :: r => !r.contains a && nodupB r
def tabsB (g : Addr → Option Obj) (K : PySem.W.Frag) : Bool :=
  ((tabsK K).all fun p => (match g p.1 with
    | some o => isTab0 o
    | none => false) && (K.lookup p.1).isNone) && (nodupB ((tabsK K).map (·.1)) && K.all fun p => match tabOf p.2 with
    | some q => PySem.W.codeHdIn K p.1 q.1
    | none => true)
structure TabAt (h : Heap) (K : PySem.W.Frag) : Prop where
  obj : ∀ p ∈ tabsK K, h.get? p.1 = some { cls := .none, data := .fields #[] }
  out : ∀ p ∈ tabsK K, K.lookup p.1 = none
  one : ∀ p ∈ tabsK K, ∀ q ∈ tabsK K, p.1 = q.1 → p = q
  code : ∀ (c P : Addr) (q : Str) (o : Obj), K.lookup c = some o → tabOf o = some (P, q) → PySem.W.codeHdIn K c P = true
theorem TabAt.keeps {h h' : Heap} {K : PySem.W.Frag} (t : TabAt h K) (k : ∀ b o, h.get? b = some o → h'.get? b = some o) : TabAt h' K := ⟨fun p hp => k _ _ (t.obj p hp), t.out, t.one, t.code⟩
theorem isTab0_eq {o : Obj} (h : isTab0 o = true) : o = { cls := .none, data := .fields #[] } := by
  obtain ⟨c, d, dt, sl⟩ := o
  unfold isTab0 at h
  split at h
  · rename_i vs h1 h2 h3
    dsimp only at h1 h2 h3
    subst h1 h2 h3
    rw [Bool.and_eq_true] at h
    have e1 : vs = #[] := by simpa using h.1
    have e2 : sl = #[] := by simpa using h.2
    rw [e1, e2]
  · cases h
theorem nodupB_ok : ∀ {l : List Addr}, nodupB l = true → l.Nodup
  | [], _ => .nil
  | a :: r, h => by
    unfold nodupB at h
    rw [Bool.and_eq_true, Bool.not_eq_true'] at h
    exact List.nodup_cons.mpr ⟨by simpa using h.1, nodupB_ok h.2⟩
theorem nodup_one {α : Type} {f : α → Addr} : ∀ {l : List α}, (l.map f).Nodup → ∀ p ∈ l, ∀ q ∈ l, f p = f q → p = q
  | [], _, p, hp, _, _, _ => by cases hp
  | a :: r, nd, p, hp, q, hq, e => by
    rw [List.map_cons, List.nodup_cons] at nd
    rcases List.mem_cons.mp hp with h1 | h1
    · rcases List.mem_cons.mp hq with h2 | h2
      · rw [h1, h2]
      · exact absurd (show f a ∈ r.map f from List.mem_map.mpr ⟨q, h2, by rw [← e, h1]⟩) nd.1
    · rcases List.mem_cons.mp hq with h2 | h2
      · exact absurd (show f a ∈ r.map f from List.mem_map.mpr ⟨p, h1, by rw [e, h2]⟩) nd.1
      · exact nodup_one nd.2 p h1 q h2 e
theorem look_mem : ∀ {K : PySem.W.Frag} {c : Addr} {o : Obj}, K.lookup c = some o → (c, o) ∈ K
  | [], _, _, h => by cases h
  | (b, u) :: r, c, o, h => by
    rw [List.lookup_cons] at h
    cases e : c == b with
    | true =>
      rw [e] at h
      cases h
      rw [beq_iff_eq.mp e]
      exact List.mem_cons_self
    | false =>
      rw [e] at h
      exact List.mem_cons_of_mem _ (look_mem h)
theorem tabs_mem {K : PySem.W.Frag} {c P : Addr} {q : Str} {o : Obj} (h : K.lookup c = some o) (t : tabOf o = some (P, q)) : (P, q) ∈ tabsK K := List.mem_filterMap.mpr ⟨(c, o), look_mem h, by
  dsimp only
  rw [h, t]
  exact t⟩
theorem tabs_of {K : PySem.W.Frag} {p : Addr × Str} (h : p ∈ tabsK K) : ∃ c o, K.lookup c = some o ∧ tabOf o = some p := by
  obtain ⟨q, hq, e⟩ := List.mem_filterMap.mp h
  split at e
  · cases z : K.lookup q.1 with
    | none => rw [z] at e; cases e
    | some o =>
      rw [z] at e
      exact ⟨q.1, o, z, e⟩
  · cases e
theorem tabsB_ok {h : Heap} {K : PySem.W.Frag} (e : tabsB h.get? K = true) : TabAt h K := by
  unfold tabsB at e
  rw [Bool.and_eq_true, Bool.and_eq_true, List.all_eq_true, List.all_eq_true] at e
  obtain ⟨e1, e2, e3⟩ := e
  refine ⟨fun p hp => ?_, fun p hp => ?_, nodup_one (nodupB_ok e2), fun c P q o hl ht => ?_⟩
  · have z := e1 p hp
    rw [Bool.and_eq_true] at z
    have z := z.1
    split at z
    · rename_i o ho
      rw [ho, isTab0_eq z]
    · cases z
  · have z := e1 p hp
    rw [Bool.and_eq_true] at z
    simpa using z.2
  · have z := e3 (c, o) (look_mem hl)
    dsimp only at z
    rw [ht] at z
    exact z
end Pd
namespace Pd
open PySem PyProof.Rows L2
structure PDef where
  loc : PySem.W.Frag → Addr
  name : Str
  qual : Str
  params : Arguments
  body : List Stmt
  scope : Scope
  dfl : List He.Dv := []
  clo : List Str := []
abbrev PSg : Type := Option (Str × Str × Arguments × FuncBody × Scope × Addr × List Str × Addr)
def psg (K : PySem.W.Frag) (a : Addr) : PSg := match K.lookup a with
  | some ⟨_, _, .func q, _⟩ => some (q.name, q.qualname, q.params, q.body, q.scope, q.globals, q.closure.map (·.1), q.builtins)
  | _ => none
def PDef.said (d : PDef) : PSg := some (d.name, d.qual, d.params, .stmts d.body, d.scope, mainGlobals, d.clo, builtinsNs)
def PDef.dvs (K : PySem.W.Frag) (d : PDef) : List V := d.dfl.map (He.Dv.v K)
def PDef.good (K : PySem.W.Frag) (d : PDef) : Bool := PySem.W.keepIn K (.ref (d.loc K)) && (match K.lookup (d.loc K) with
  | some ⟨_, _, .func q, _⟩ => PySem.W.codeIn K q.code d.qual && (He.dflB K q.defaults (d.dvs K) && (He.kwdB K q.kwdefaults [] && (match q.code with
    | .ref c => (match K.lookup c with
      | some o => (tabOf o).isSome
      | none => false)
    | _ => false)))
  | _ => false)
inductive Fx where
  | old (f : He.Fa)
  | prop (C f : Str)
  | ins (C : Str)
  | isi (t : Value) (c : Str ⊕ String) (b : Bool)
  | isiC (C : Str) (c : Str ⊕ String) (b : Bool)
  | begin (x : Str)
  | eqn (C : Str)
  | exc (C : Str)
  | sup (file : Str)
  | sysd
  | errs (D : Str) (Cs : List Str)
def oexB (K : PySem.W.Frag) (C : Addr) : Bool := match K.lookup C with
  | some ⟨.type "type", _, .cls cd, sl⟩ => (match cd.mro, sl.toList with
    | .ref C' :: bm, [_, _, _, _, some (.builtin n), _] => C' == C && (n == "ValueError.__new__" && (!cd.hasDel && (cd.hasDict && PySem.HandSPX.refsVE bm)))
    | _, _ => false)
  | _ => false
def excB (K : PySem.W.Frag) (D fI C : Addr) : Bool :=
  oexB K C && (decide (PySem.W.findIn K (.ref C) "__setattr__" = some (some (.builtin "object.__setattr__"))) && (decide (PySem.W.subIn K (.ref C) (.type "BaseException") = some true) && (decide (PySem.W.typeIn K (.ref C) = some (.type "type")) && (PySem.W.keepIn K (.ref C) &&
  (decide (PySem.W.mroIn K C (.ref D) = some true) && (decide (PySem.W.ks_superIn K C D "__init__" = some (some (.builtin "ValueError.__init__"))) && (decide (PySem.W.subIn K (.ref C) (.type "ValueError") = some true) && (decide (PySem.W.findIn K (.ref C) "value" = some none) &&
  (decide (PySem.W.findIn K (.ref C) "__init__" = some (some (.ref fI))) && (decide (PySem.W.typeIn K (.ref fI) = some (.type "function")) && (decide (PySem.W.exmOne K (.ref C) (.ref D) = some true) &&
  (decide (PySem.W.findIn K (.ref C) "__getattribute__" = some (some (.builtin "BaseException.__getattribute__"))) && (decide (PySem.W.findIn K (.ref C) "__getattr__" = some none) && (PySem.W.hasDictIn K C && ((PySem.W.clsIn K C).isSome &&
  (decide (PySem.W.findIn K (.ref C) "__class__" = some (some (.builtin "object.__class__"))) && (decide (PySem.W.specialIn K (.builtin "object.__class__") "__get__" = some (some (.builtin "getset_descriptor.__get__"))) && (decide (PySem.W.takesIn K (.builtin "object.__class__") = some true) && decide (PySem.W.mroIn K C (.type "object") = some true)))))))))))))))))))
def supB (K : PySem.W.Frag) (D fI : Addr) (file : Str) : Bool := (match K.lookup fI with
  | some ⟨_, _, .func q, _⟩ => (match q.closure, q.code with
    | [(x, cc)], .ref cda => (x == ("__class__" : Str)) && (PySem.W.codeIn K (.ref cda) "CutError.__init__" && ((match K.lookup cda with
      | some ⟨_, _, .fields vs, _⟩ => (match (vs[2]? : Option Value) with
        | some (.str f _) => f == file
        | _ => false)
      | _ => false) && (match K.lookup cc with
      | some ⟨_, _, .cell (some (.ref D')), _⟩ => D' == D
      | _ => false)))
    | _, _ => false)
  | _ => false) && ((PySem.W.clsIn K D).isSome && decide (PySem.W.nsIn K cStatics "thirdparty.any" = some none))
def propAt (K : PySem.W.Frag) (C f : Str) : Addr := match PySem.W.findIn K (.ref (He.ga K C)) f with
  | some (some (.ref p)) => p
  | _ => 0
def globAt (x : Str) (K : PySem.W.Frag) : Addr := He.ga K x
def clsOf (K : PySem.W.Frag) : Str ⊕ String → Value
  | .inl C => .ref (He.ga K C)
  | .inr T => .type T
def Fx.ok (K : PySem.W.Frag) : Fx → Bool
  | .old f => f.ok K
  | .prop C f => decide (PySem.W.findIn K (.ref (He.ga K C)) f = some (some (.ref (propAt K C f)))) && (decide (PySem.W.specialIn K (.ref (propAt K C f)) "__get__" = some (some (.builtin "property.__get__"))) &&
      (decide (PySem.W.takesIn K (.ref (propAt K C f)) = some true) && (match PySem.W.recIn K (propAt K C f) "property" with
        | some (.ref _ :: _) => true
        | _ => false)))
  | .ins C => decide (PySem.W.findIn K (.ref (He.ga K C)) "__class__" = some (some (.builtin "object.__class__"))) && (decide (PySem.W.specialIn K (.builtin "object.__class__") "__get__" = some (some (.builtin "getset_descriptor.__get__"))) &&
      (decide (PySem.W.takesIn K (.builtin "object.__class__") = some true) && decide (PySem.W.mroIn K (He.ga K C) (.type "object") = some true)))
  | .isi t c b => decide (PySem.W.kitOne K t (clsOf K c) = some b)
  | .isiC C c b => decide (PySem.W.kitOne K (.ref (He.ga K C)) (clsOf K c) = some b)
  | .begin x => decide (PySem.W.nsIn K PySem.mainGlobals x = some (some (.ref (He.ga K x)))) && (match K.lookup (He.ga K x) with
    | some ⟨.type n, _, .seq ⟨[.ref b, .int i _, .int j _, .int k _]⟩ _, _⟩ => (decide (n = "tuple") && decide (i = 0)) && ((decide (j = 0) && decide (k = 0)) && (match K.lookup b with
      | some ⟨.type m, _, .seq ⟨[]⟩ _, _⟩ => decide (m = "tuple")
      | _ => false))
    | _ => false)
  | .exc C => excB K (He.ga K "CutError") (He.ma K (He.ga K "CutError") "__init__") (He.ga K C)
  | .sup file => supB K (He.ga K "CutError") (He.ma K (He.ga K "CutError") "__init__") file
  | .sysd => (match K.lookup sysModules with
    | some ⟨.type n, _, _, _⟩ => decide (n = "dict")
    | _ => false)
  | .errs D Cs => (D :: Cs).all fun A => (decide (PySem.W.kitOne K (.ref (He.ga K A)) (.ref (He.ga K D)) = some true) && decide (PySem.W.kitOne K (.ref (He.ga K A)) (.type "ValueError") = some true)) &&
      ((Cs.all fun B => decide (PySem.W.kitOne K (.ref (He.ga K A)) (.ref (He.ga K B)) = some (decide (A = B)))) &&
      (["NoneType", "bool", "int", "str", "list", "tuple", "dict"].all fun S => decide (PySem.W.kitOne K (.type S) (.ref (He.ga K A)) = some false)))
  | .eqn C => decide (PySem.W.findIn K (.ref (He.ga K C)) "__ne__" = some (some (.builtin "object.__ne__"))) && decide (PySem.W.mroIn K (He.ga K C) (.type "object") = some true)
abbrev AlP : Type := Bool × List PSg
def obsP (fx : List Fx) (fn : List PDef) (K : PySem.W.Frag) : AlP := ((fx.all fun f => f.ok K) && fn.all fun d => d.good K, fn.map fun d => psg K (d.loc K))
def SaysP (fx : List Fx) (fn : List PDef) (K : PySem.W.Frag) : Prop := obsP fx fn K = (true, fn.map PDef.said)
def frT (g : Addr → Option Obj) (n : Nat) : PySem.W.Frag := He.frG (noTab g) (cStatics :: sysModules :: He.asD g n)
def obsPG (n : Nat) (fx : List Fx) (fn : List PDef) (g : Addr → Option Obj) : AlP := let K := frT g n; ((fx.all fun f => f.ok K) && ((fn.all fun d => d.good K) && tabsB g K), fn.map fun d => psg K (d.loc K))
theorem noTab_of {g : Addr → Option Obj} {a : Addr} {o : Obj} (h : noTab g a = some o) : g a = some o := by
  unfold noTab at h
  cases e : g a with
  | none => rw [e] at h; cases h
  | some u =>
    rw [e] at h
    dsimp only at h
    split at h
    · cases h
    · exact h
theorem obsPG_says {n : Nat} {fx : List Fx} {fn : List PDef} {h : Heap} (e : obsPG n fx fn h.get? = (true, fn.map PDef.said)) : (frT h.get? n).In h ∧ SaysP fx fn (frT h.get? n) ∧ TabAt h (frT h.get? n) := by
  have e1 := (Prod.mk.inj e).1
  have e2 := (Prod.mk.inj e).2
  rw [Bool.and_eq_true, Bool.and_eq_true] at e1
  refine ⟨fun a o hl => noTab_of (He.frG_at _ hl), ?_, tabsB_ok e1.2.2⟩
  unfold SaysP obsP
  rw [e1.1, e1.2.1, e2]
  rfl
def hookP (n : Nat) (fx : List Fx) (fn : List PDef) : PySem.W.Hook where
  α := AlP
  obs := fun s => obsPG n fx fn s.heap.get?
  val := fun _ => (true, fn.map PDef.said)
  says := fun _ h => ∃ K : PySem.W.Frag, K.In h ∧ SaysP fx fn K ∧ TabAt h K
  of := fun _ _ e => ⟨_, obsPG_says e⟩
  keeps := fun _ _ _ ⟨K, hK, c, t⟩ k => ⟨K, PySem.W.Frag.In.keeps hK k, c, t.keeps k⟩
theorem obsPG_eq {n : Nat} {fx : List Fx} {fn : List PDef} {g : Addr → Option Obj} {s : Shared} (h : ∀ a, g a = s.heap.get? a) : obsPG n fx fn g = (hookP n fx fn).obs s := by
  have e : g = s.heap.get? := funext h
  rw [e]
  rfl
end Pd
namespace LW
open PySem L2 Pd
abbrev pw : Program := PySem.Challenge.pw_showncut_k50_whole_rows_told_back
def top (i : Nat) : Stmt := pw.main.body.getD i (.Pass ⟨0, 0, 0, 0⟩)
abbrev S_is_integer : Stmt := top 5
def D_is_integer : Pd.PDef := ⟨Pd.globAt "is_integer", "is_integer", "is_integer", defArgs S_is_integer, defBody S_is_integer, defScope S_is_integer, [.non], []⟩
abbrev S_is_tuple : Stmt := top 6
def D_is_tuple : Pd.PDef := ⟨Pd.globAt "is_tuple", "is_tuple", "is_tuple", defArgs S_is_tuple, defBody S_is_tuple, defScope S_is_tuple, [.non], []⟩
abbrev S_all_spelled : Stmt := top 11
def D_all_spelled : Pd.PDef := ⟨Pd.globAt "all_spelled", "all_spelled", "all_spelled", defArgs S_all_spelled, defBody S_all_spelled, defScope S_all_spelled, [], []⟩
abbrev S_is_repeat : Stmt := top 12
def D_is_repeat : Pd.PDef := ⟨Pd.globAt "is_repeat", "is_repeat", "is_repeat", defArgs S_is_repeat, defBody S_is_repeat, defScope S_is_repeat, [], []⟩
abbrev S_row_of : Stmt := top 13
def D_row_of : Pd.PDef := ⟨Pd.globAt "row_of", "row_of", "row_of", defArgs S_row_of, defBody S_row_of, defScope S_row_of, [], []⟩
abbrev S_told_back : Stmt := top 14
def D_told_back : Pd.PDef := ⟨Pd.globAt "told_back", "told_back", "told_back", defArgs S_told_back, defBody S_told_back, defScope S_told_back, [], []⟩
abbrev S__law_pot : Stmt := top 16
def D__law_pot : Pd.PDef := ⟨Pd.globAt "_law_pot", "_law_pot", "_law_pot", defArgs S__law_pot, defBody S__law_pot, defScope S__law_pot, [], []⟩
abbrev S__law_take : Stmt := top 17
def D__law_take : Pd.PDef := ⟨Pd.globAt "_law_take", "_law_take", "_law_take", defArgs S__law_take, defBody S__law_take, defScope S__law_take, [], []⟩
abbrev S__law_of : Stmt := top 18
def D__law_of : Pd.PDef := ⟨Pd.globAt "_law_of", "_law_of", "_law_of", defArgs S__law_of, defBody S__law_of, defScope S__law_of, [], []⟩
abbrev S__law_cells : Stmt := top 19
def D__law_cells : Pd.PDef := ⟨Pd.globAt "_law_cells", "_law_cells", "_law_cells", defArgs S__law_cells, defBody S__law_cells, defScope S__law_cells, [], []⟩
abbrev S__law_random : Stmt := top 20
def D__law_random : Pd.PDef := ⟨Pd.globAt "_law_random", "_law_random", "_law_random", defArgs S__law_random, defBody S__law_random, defScope S__law_random, [], []⟩
abbrev S__law_letters : Stmt := top 21
def D__law_letters : Pd.PDef := ⟨Pd.globAt "_law_letters", "_law_letters", "_law_letters", defArgs S__law_letters, defBody S__law_letters, defScope S__law_letters, [], []⟩
abbrev S__law_any_letters : Stmt := top 22
def D__law_any_letters : Pd.PDef := ⟨Pd.globAt "_law_any_letters", "_law_any_letters", "_law_any_letters", defArgs S__law_any_letters, defBody S__law_any_letters, defScope S__law_any_letters, [], []⟩
abbrev S__law_blocks : Stmt := top 23
def D__law_blocks : Pd.PDef := ⟨Pd.globAt "_law_blocks", "_law_blocks", "_law_blocks", defArgs S__law_blocks, defBody S__law_blocks, defScope S__law_blocks, [], []⟩
abbrev S__law_is_repeat : Stmt := top 24
def D__law_is_repeat : Pd.PDef := ⟨Pd.globAt "_law_is_repeat", "_law_is_repeat", "_law_is_repeat", defArgs S__law_is_repeat, defBody S__law_is_repeat, defScope S__law_is_repeat, [], []⟩
abbrev S__law_shortest : Stmt := top 25
def D__law_shortest : Pd.PDef := ⟨Pd.globAt "_law_shortest", "_law_shortest", "_law_shortest", defArgs S__law_shortest, defBody S__law_shortest, defScope S__law_shortest, [], []⟩
abbrev S__law_row : Stmt := top 26
def D__law_row : Pd.PDef := ⟨Pd.globAt "_law_row", "_law_row", "_law_row", defArgs S__law_row, defBody S__law_row, defScope S__law_row, [], []⟩
abbrev S__law_all_words : Stmt := top 27
def D__law_all_words : Pd.PDef := ⟨Pd.globAt "_law_all_words", "_law_all_words", "_law_all_words", defArgs S__law_all_words, defBody S__law_all_words, defScope S__law_all_words, [], []⟩
abbrev S__law_table : Stmt := top 28
def D__law_table : Pd.PDef := ⟨Pd.globAt "_law_table", "_law_table", "_law_table", defArgs S__law_table, defBody S__law_table, defScope S__law_table, [], []⟩
abbrev S__law_due : Stmt := top 29
def D__law_due : Pd.PDef := ⟨Pd.globAt "_law_due", "_law_due", "_law_due", defArgs S__law_due, defBody S__law_due, defScope S__law_due, [], []⟩
abbrev S__law_right : Stmt := top 30
def D__law_right : Pd.PDef := ⟨Pd.globAt "_law_right", "_law_right", "_law_right", defArgs S__law_right, defBody S__law_right, defScope S__law_right, [], []⟩
abbrev S_law : Stmt := top 31
def D_law : Pd.PDef := ⟨Pd.globAt "law", "law", "law", defArgs S_law, defBody S_law, defScope S_law, [], []⟩
def fn : List Pd.PDef := [D_is_integer, D_is_tuple, D_all_spelled, D_is_repeat, D_row_of, D_told_back, D__law_pot, D__law_take, D__law_of, D__law_cells, D__law_random, D__law_letters, D__law_any_letters, D__law_blocks, D__law_is_repeat, D__law_shortest, D__law_row, D__law_all_words, D__law_table, D__law_due, D__law_right, D_law]
def fx : List Fx := [
  .old (.glo "_law_all_words"),
  .old (.glo "_law_any_letters"),
  .old (.glo "_law_blocks"),
  .old (.glo "_law_cells"),
  .old (.glo "_law_due"),
  .old (.glo "_law_is_repeat"),
  .old (.glo "_law_letters"),
  .old (.glo "_law_of"),
  .old (.glo "_law_pot"),
  .old (.glo "_law_random"),
  .old (.glo "_law_right"),
  .old (.glo "_law_row"),
  .old (.glo "_law_shortest"),
  .old (.glo "_law_table"),
  .old (.glo "_law_take"),
  .old (.glo "all_spelled"),
  .old (.glo "is_integer"),
  .old (.glo "is_repeat"),
  .old (.glo "is_tuple"),
  .old (.glo "row_of"),
  .old (.glo "told_back"),
  .old (.glo "law"),
  .old (.int "MOST" 7),
  .old (.str "LETTERS" ⟨List.toArray [97, 98, 99, 100, 101, 102, 103, 104, 105, 106, 107, 108, 109, 110, 111, 112, 113, 114, 115, 116, 117, 118, 119, 120, 121, 122]⟩),
  .old (.str "NONE" ⟨List.toArray [110, 111, 110, 101]⟩),
  .old (.str "WORDS" ⟨List.toArray [119, 111, 114, 100, 115]⟩),
  .old (.free "abs"),
  .old (.free "all"),
  .old (.free "bool"),
  .old (.free "int"),
  .old (.free "isinstance"),
  .old (.free "len"),
  .old (.free "list"),
  .old (.free "max"),
  .old (.free "min"),
  .old (.free "range"),
  .old (.free "repr"),
  .old (.free "set"),
  .old (.free "tuple"),
  .sysd,
  .isi (.type "NoneType") (.inr "bool") false,
  .isi (.type "bool") (.inr "bool") true,
  .isi (.type "int") (.inr "bool") false,
  .isi (.type "str") (.inr "bool") false,
  .isi (.type "list") (.inr "bool") false,
  .isi (.type "tuple") (.inr "bool") false,
  .isi (.type "dict") (.inr "bool") false,
  .isi (.type "NoneType") (.inr "int") false,
  .isi (.type "bool") (.inr "int") true,
  .isi (.type "int") (.inr "int") true,
  .isi (.type "str") (.inr "int") false,
  .isi (.type "list") (.inr "int") false,
  .isi (.type "tuple") (.inr "int") false,
  .isi (.type "dict") (.inr "int") false,
  .isi (.type "NoneType") (.inr "tuple") false,
  .isi (.type "bool") (.inr "tuple") false,
  .isi (.type "int") (.inr "tuple") false,
  .isi (.type "str") (.inr "tuple") false,
  .isi (.type "list") (.inr "tuple") false,
  .isi (.type "tuple") (.inr "tuple") true,
  .isi (.type "dict") (.inr "tuple") false]
abbrev loose : List Str := ["is_integer", "is_tuple", "all_spelled", "is_repeat", "row_of", "told_back", "_law_pot", "_law_take", "_law_of", "_law_cells", "_law_random", "_law_letters", "_law_any_letters", "_law_blocks", "_law_is_repeat", "_law_shortest", "_law_row", "_law_all_words", "_law_table", "_law_due", "_law_right", "CutError", "BadRow", "__name__", "LETTERS", "MOST", "WORDS", "NONE"]
abbrev R : PySem.W.OpenRow := PySem.W.OpenLaw.row PySem.Challenge.rw_showncut_k50_whole_rows_told_back
def ob (s : PySem.W.SharedT) : AlP := obsPG 6 fx fn (HandSHeadRun.getT s)
theorem ob_eq (s : PySem.W.SharedT) : ob s = (hookP 6 fx fn).obs s.abs := obsPG_eq (HandSHeadRun.getT_eq s)
theorem run (w : World) : HandSHeadRun.RunEq R (PySem.W.view R.prog [31]) (hookP 6 fx fn) ob 8000 loose w := by
  intro os
  kernel_rfl
abbrev DL := HandSHeadRun.topDef R.prog 31
theorem early (call : PySem.W.WalkO (PySem.W.view R.prog [31]) loose (PySem.W.XL (PySem.W.view R.prog [31]) []) (hookP 6 fx fn).says R.toRowW DL [] fun f vs => PySem.call f vs) : PySem.Challenge.rw_showncut_k50_whole_rows_told_back.Holds := by
  w_on; o_law
  refine HandSHeadRun.head_any (r := R) (q := PySem.W.view R.prog [31]) (H := hookP 6 fx fn) (ob := ob) (M := 8000) (loose := loose) (d := DL) (kwd := []) ob_eq (by kernel_rfl) (fun s => by kernel_rfl) run (by rfl) (by rfl) (by rfl) (by rfl) (by first | assumption | decide +kernel) (by decide +kernel) ⟨rfl, rfl, rfl, rfl, rfl, by decide +kernel⟩ ?hw call
  case hw => w_witness2
end LW
namespace Pd
open PySem L2
inductive D where
  | non | bl (b : Bool) | int (i : Int) | str (s : List Nat) | lst (xs : List D) | tup (xs : List D)
  | obj (C : Addr) (fs : List (Str × D)) | pot | scr (ns : List Int) | ref (a : Addr) | tupK (xs : List D) | tupF (xs : List D)
  | err (C : Addr) (d : D) | dic (ks : List (List Nat)) (vs : List D)
  | cel (C : Option Addr) (i : Nat)
inductive OD where
  | lst (ds : List D) | ins (C : Addr) (fs : List (Str × D)) | dic (ks : List (List Nat)) (vs : List D)
  | dct (ks : List (List Nat)) (vs : List D)
def OD.cls : OD → Option Addr
  | .lst _ => none
  | .ins C _ => some C
  | .dic _ _ => none
  | .dct _ _ => none
def pr (a b : Nat) : Nat := 2 ^ a * (2 * b + 1)
theorem pr_pos (a b : Nat) : 0 < pr a b := Nat.mul_pos (Nat.pow_pos (by decide)) (by omega)
theorem pr_inj : ∀ {a b c d : Nat}, pr a b = pr c d → a = c ∧ b = d
  | 0, b, 0, d, h => by
    unfold pr at h
    omega
  | 0, b, c + 1, d, h => by
    unfold pr at h
    rw [Nat.pow_succ, Nat.mul_comm (2 ^ c) 2, Nat.mul_assoc] at h
    omega
  | a + 1, b, 0, d, h => by
    unfold pr at h
    rw [Nat.pow_succ, Nat.mul_comm (2 ^ a) 2, Nat.mul_assoc] at h
    omega
  | a + 1, b, c + 1, d, h => by
    have h2 : pr a b = pr c d := by
      unfold pr at h ⊢
      rw [Nat.pow_succ, Nat.pow_succ, Nat.mul_comm (2 ^ a) 2, Nat.mul_comm (2 ^ c) 2, Nat.mul_assoc, Nat.mul_assoc] at h
      omega
    obtain ⟨h3, h4⟩ := pr_inj h2
    exact ⟨by omega, h4⟩
def eI : Int → Nat
  | .ofNat n => pr 0 n
  | .negSucc n => pr 1 n
theorem eI_inj {i j : Int} (h : eI i = eI j) : i = j := by
  cases i <;> cases j <;> (unfold eI at h; obtain ⟨h1, h2⟩ := pr_inj h; first | (cases h1; done) | (cases h2; rfl))
def eL {α : Type} (f : α → Nat) : List α → Nat
  | [] => 0
  | x :: r => pr (f x) (eL f r)
theorem eL_inj {α : Type} {f : α → Nat} : ∀ {xs ys : List α}, (∀ x ∈ xs, ∀ y, f x = f y → x = y) → eL f xs = eL f ys → xs = ys
  | [], [], _, _ => rfl
  | [], y :: ys, _, h => absurd h (Nat.ne_of_lt (pr_pos _ _))
  | x :: xs, [], _, h => absurd h.symm (Nat.ne_of_lt (pr_pos _ _))
  | x :: xs, y :: ys, hf, h => by
    obtain ⟨h1, h2⟩ := pr_inj h
    rw [hf x (List.mem_cons_self ..) y h1, eL_inj (fun z hz => hf z (List.mem_cons_of_mem _ hz)) h2]
def eS (s : Str) : Nat := eL id s.cps.toList
theorem id_inj {xs : List Nat} : ∀ x ∈ xs, ∀ y, id x = id y → x = y := fun _ _ _ h => h
theorem eS_inj {s t : Str} (h : eS s = eS t) : s = t := by
  have := eL_inj id_inj h
  cases s
  cases t
  congr 1
  exact Array.toList_inj.mp this
def eO : Option Addr → Nat
  | none => 0
  | some a => a + 1
theorem eO_inj : ∀ {a b : Option Addr}, eO a = eO b → a = b
  | none, none, _ => rfl
  | none, some b, h => absurd h.symm (Nat.succ_ne_zero _)
  | some a, none, h => absurd h (Nat.succ_ne_zero _)
  | some a, some b, h => congrArg some (Nat.succ.inj h)
mutual
def eD : D → Nat
  | .non => pr 0 0
  | .bl b => pr 1 (if b then 1 else 0)
  | .int i => pr 2 (eI i)
  | .str s => pr 3 (eL id s)
  | .lst xs => pr 4 (eDs xs)
  | .tup xs => pr 5 (eDs xs)
  | .obj C fs => pr 6 (pr C (eFs fs))
  | .pot => pr 7 0
  | .scr ns => pr 8 (eL eI ns)
  | .ref a => pr 9 a
  | .tupK xs => pr 10 (eDs xs)
  | .tupF xs => pr 11 (eDs xs)
  | .err C d => pr 12 (pr C (eD d))
  | .dic ks vs => pr 13 (pr (eL (eL id) ks) (eDs vs))
  | .cel C i => pr 14 (pr (eO C) i)
def eDs : List D → Nat
  | [] => 0
  | x :: r => pr (eD x) (eDs r)
def eFs : List (Str × D) → Nat
  | [] => 0
  | (s, x) :: r => pr (eS s) (pr (eD x) (eFs r))
end
mutual
theorem eD_inj : ∀ {x y : D}, eD x = eD y → x = y
  | .non, y, h => by
    cases y <;> first | rfl | (simp only [eD] at h; obtain ⟨h1, h2⟩ := pr_inj h; cases h1; done)
  | .bl b, y, h => by
    cases y <;> simp only [eD] at h <;> obtain ⟨h1, h2⟩ := pr_inj h <;> first | (cases h1; done) | skip
    rename_i c
    cases b <;> cases c <;> first | rfl | (simp at h2)
  | .int i, y, h => by
    cases y <;> simp only [eD] at h <;> obtain ⟨h1, h2⟩ := pr_inj h <;> first | (cases h1; done) | rw [eI_inj h2]
  | .str s, y, h => by
    cases y <;> simp only [eD] at h <;> obtain ⟨h1, h2⟩ := pr_inj h <;> first | (cases h1; done) | rw [eL_inj id_inj h2]
  | .lst xs, y, h => by
    cases y <;> simp only [eD] at h <;> obtain ⟨h1, h2⟩ := pr_inj h <;> first | (cases h1; done) | rw [eDs_inj h2]
  | .tup xs, y, h => by
    cases y <;> simp only [eD] at h <;> obtain ⟨h1, h2⟩ := pr_inj h <;> first | (cases h1; done) | rw [eDs_inj h2]
  | .obj C fs, y, h => by
    cases y <;> simp only [eD] at h <;> obtain ⟨h1, h2⟩ := pr_inj h <;> first | (cases h1; done) | skip
    obtain ⟨h3, h4⟩ := pr_inj h2
    rw [h3, eFs_inj h4]
  | .pot, y, h => by
    cases y <;> first | rfl | (simp only [eD] at h; obtain ⟨h1, h2⟩ := pr_inj h; cases h1; done)
  | .scr ns, y, h => by
    cases y <;> simp only [eD] at h <;> obtain ⟨h1, h2⟩ := pr_inj h <;> first | (cases h1; done) | rw [eL_inj (fun _ _ _ h => eI_inj h) h2]
  | .ref a, y, h => by
    cases y <;> simp only [eD] at h <;> obtain ⟨h1, h2⟩ := pr_inj h <;> first | (cases h1; done) | rw [h2]
  | .tupK xs, y, h => by
    cases y <;> simp only [eD] at h <;> obtain ⟨h1, h2⟩ := pr_inj h <;> first | (cases h1; done) | rw [eDs_inj h2]
  | .tupF xs, y, h => by
    cases y <;> simp only [eD] at h <;> obtain ⟨h1, h2⟩ := pr_inj h <;> first | (cases h1; done) | rw [eDs_inj h2]
  | .err C d, y, h => by
    cases y <;> simp only [eD] at h <;> obtain ⟨h1, h2⟩ := pr_inj h <;> first | (cases h1; done) | skip
    obtain ⟨h3, h4⟩ := pr_inj h2
    rw [h3, eD_inj h4]
  | .dic ks vs, y, h => by
    cases y <;> simp only [eD] at h <;> obtain ⟨h1, h2⟩ := pr_inj h <;> first | (cases h1; done) | skip
    obtain ⟨h3, h4⟩ := pr_inj h2
    rw [eL_inj (fun _ _ _ h => eL_inj id_inj h) h3, eDs_inj h4]
  | .cel C i, y, h => by
    cases y <;> simp only [eD] at h <;> obtain ⟨h1, h2⟩ := pr_inj h <;> first | (cases h1; done) | skip
    obtain ⟨h3, h4⟩ := pr_inj h2
    rw [eO_inj h3, h4]
theorem eDs_inj : ∀ {xs ys : List D}, eDs xs = eDs ys → xs = ys
  | [], [], _ => rfl
  | [], y :: ys, h => absurd h (by simp only [eDs]; exact Nat.ne_of_lt (pr_pos _ _))
  | x :: xs, [], h => absurd h.symm (by simp only [eDs]; exact Nat.ne_of_lt (pr_pos _ _))
  | x :: xs, y :: ys, h => by
    simp only [eDs] at h
    obtain ⟨h1, h2⟩ := pr_inj h
    rw [eD_inj h1, eDs_inj h2]
theorem eFs_inj : ∀ {xs ys : List (Str × D)}, eFs xs = eFs ys → xs = ys
  | [], [], _ => rfl
  | [], (s, y) :: ys, h => absurd h (by simp only [eFs]; exact Nat.ne_of_lt (pr_pos _ _))
  | (s, x) :: xs, [], h => absurd h.symm (by simp only [eFs]; exact Nat.ne_of_lt (pr_pos _ _))
  | (s, x) :: xs, (t, y) :: ys, h => by
    simp only [eFs] at h
    obtain ⟨h1, h2⟩ := pr_inj h
    obtain ⟨h3, h4⟩ := pr_inj h2
    rw [eS_inj h1, eD_inj h3, eFs_inj h4]
end
def eOD : OD → Nat
  | .lst ds => pr 0 (eDs ds)
  | .ins C fs => pr 1 (pr C (eFs fs))
  | .dic ks vs => pr 2 (pr (eL (eL id) ks) (eDs vs))
  | .dct ks vs => pr 3 (pr (eL (eL id) ks) (eDs vs))
theorem eOD_inj {x y : OD} (h : eOD x = eOD y) : x = y := by
  cases x <;> cases y <;> simp only [eOD] at h <;> obtain ⟨h1, h2⟩ := pr_inj h <;> first | (cases h1; done) | skip
  · rw [eDs_inj h2]
  · obtain ⟨h3, h4⟩ := pr_inj h2
    rw [h3, eFs_inj h4]
  · obtain ⟨h3, h4⟩ := pr_inj h2
    rw [eL_inj (fun _ _ _ h => eL_inj (fun _ _ _ h => h) h) h3, eDs_inj h4]
  · obtain ⟨h3, h4⟩ := pr_inj h2
    rw [eL_inj (fun _ _ _ h => eL_inj (fun _ _ _ h => h) h) h3, eDs_inj h4]
def stN (m : Nat) (cs : List OD) : Nat := pr m (eL eOD cs)
theorem stN_inj {m m' : Nat} {cs cs' : List OD} (h : stN m cs = stN m' cs') : m = m' ∧ cs = cs' := by
  obtain ⟨h1, h2⟩ := pr_inj h
  exact ⟨h1, eL_inj (fun _ _ _ h => eOD_inj h) h2⟩
open Classical in
noncomputable def dr (n : Nat) : Nat := if h : ∃ m cs, stN m cs = n then h.choose else 0
open Classical in
noncomputable def cs (n : Nat) : List OD := if h : ∃ cs m, stN m cs = n then h.choose else []
theorem dr_stN (m : Nat) (l : List OD) : dr (stN m l) = m := by
  unfold dr
  have h : ∃ m' cs, stN m' cs = stN m l := ⟨m, l, rfl⟩
  rw [dif_pos h]
  exact (stN_inj h.choose_spec.choose_spec).1
theorem cs_stN (m : Nat) (l : List OD) : cs (stN m l) = l := by
  unfold cs
  have h : ∃ cs m', stN m' cs = stN m l := ⟨l, m, rfl⟩
  rw [dif_pos h]
  exact (stN_inj h.choose_spec.choose_spec).2
noncomputable def drw (ℓ : Bool) (n : Nat) : Nat := match ℓ with
  | true => dr n
  | false => n
noncomputable def csw (ℓ : Bool) (n : Nat) : List OD := match ℓ with
  | true => cs n
  | false => []
end Pd
namespace Pd
variable {ℓ : Bool}
open PySem L2
def Exq (a C dx : Addr) : HO := .ext fun h => ∃ (oe : Obj) (vs : Array Value), h.get? a = some oe ∧ oe.cls = .ref C ∧ oe.dict = some dx ∧ oe.data = .fields vs
structure Gh where
  G : Hp
  pot : Addr → Prop
  cel : List (Addr × Option Addr)
def NoT (K : PySem.W.Frag) (g : Gh) (a : Addr) : Prop := (∀ q, (a, q) ∉ tabsK K) ∧ ∀ C, (a, C) ∉ g.cel
mutual
inductive Den (K : PySem.W.Frag) (g : Gh) : V → D → Prop
  | non : Den K g .non .non
  | bl (b : Bool) : Den K g (.bl b) (.bl b)
  | int (i : Int) : Den K g (.int i) (.int i)
  | str (l : List Nat) : Den K g (.str ⟨l.toArray⟩) (.str l)
  | lst {a : Addr} {vs : List V} {ds : List D} : g.G a = some (.lst vs) → Dens K g vs ds → Den K g (.ref a) (.lst ds)
  | tup {a : Addr} {vs : List V} {ds : List D} : Rd g.G a (.tup vs) → Dens K g vs ds → Den K g (.ref a) (.tup ds)
  | obj {a C dx : Addr} {fvs : List (Str × V)} {fs : List (Str × D)} : g.G a = some (.ins C dx fvs) → Flds K g fvs fs → Den K g (.ref a) (.obj C fs)
  | pot {a : Addr} : g.pot a → NoT K g a → Den K g (.ref a) .pot
  | scr {a : Addr} {ns : List Int} : SqL K g.G a (ns.map V.int) → Den K g (.ref a) (.scr ns)
  | ref (a : Addr) : Den K g (.ref a) (.ref a)
  | tupK {a : Addr} {vs : List V} {ds : List D} : (∀ H : Hp, SqT K H a vs) → Dens K g vs ds → Den K g (.ref a) (.tupK ds)
  | tupF {a : Addr} {vs : List V} {ds : List D} {o : Obj} : g.G a = some (.frz o (.tup vs)) → o.cls = .type "tuple" → o.dict = none → Dens K g vs ds → Den K g (.ref a) (.tupF ds)
  | err {a C dx : Addr} {v : V} {d : D} : g.G a = some (Exq a C dx) → g.G dx = some (.xd [("value", v)]) → Den K g v d → Den K g (.ref a) (.err C d)
  | dic {a : Addr} {kvs : List (Key × V)} {ks : List (List Nat)} {ds : List D} : g.G a = some (.dK kvs) → kvs.map (·.1) = ks.map (fun x => Sum.inr ⟨x.toArray⟩) → Dens K g (kvs.map (·.2)) ds → Den K g (.ref a) (.dic ks ds)
  | cel {a : Addr} {C : Option Addr} {i : Nat} : g.cel[i]? = some (a, C) → Den K g (.ref a) (.cel C i)
inductive Dens (K : PySem.W.Frag) (g : Gh) : List V → List D → Prop
  | nil : Dens K g [] []
  | cons {v : V} {d : D} {vs : List V} {ds : List D} : Den K g v d → Dens K g vs ds → Dens K g (v :: vs) (d :: ds)
inductive Flds (K : PySem.W.Frag) (g : Gh) : List (Str × V) → List (Str × D) → Prop
  | nil : Flds K g [] []
  | cons {x : Str} {v : V} {d : D} {vs : List (Str × V)} {ds : List (Str × D)} : Den K g v d → Flds K g vs ds → Flds K g ((x, v) :: vs) ((x, d) :: ds)
end
theorem _root_.L2.Rd.same {G H : Hp} {a : Addr} {u : HO} (h : Rd G a u) (sm : Same G H) : Rd H a u := h.elim (fun h => .inl (sm _ _ h)) fun ⟨o, h⟩ => .inr ⟨o, sm _ _ h⟩
structure Ext (g g' : Gh) : Prop where
  G : Same g.G g'.G
  p : ∀ a, g.pot a → g'.pot a
  c : ∃ l, g'.cel = g.cel ++ l ∧ ∀ a C, (a, C) ∈ l → ¬ g.pot a
theorem Ext.refl (g : Gh) : Ext g g := ⟨Same.refl _, fun _ h => h, [], (List.append_nil _).symm, fun _ _ h => by cases h⟩
theorem Ext.trans {g g1 g2 : Gh} (a : Ext g g1) (b : Ext g1 g2) : Ext g g2 := by
  refine ⟨a.G.trans b.G, fun x h => b.p x (a.p x h), ?_⟩
  obtain ⟨l, e, n⟩ := a.c
  obtain ⟨l2, e2, n2⟩ := b.c
  refine ⟨l ++ l2, by rw [e2, e, List.append_assoc], fun x C h => ?_⟩
  rcases List.mem_append.mp h with z | z
  · exact n x C z
  · exact fun w => n2 x C z (a.p x w)
theorem Ext.cel {g g' : Gh} (e : Ext g g') {i : Nat} {x : Addr × Option Addr} (h : g.cel[i]? = some x) : g'.cel[i]? = some x := by
  obtain ⟨l, z, _⟩ := e.c
  rw [z, List.getElem?_append_left (List.getElem?_eq_some_iff.mp h).1]
  exact h
theorem NoT.mono {K : PySem.W.Frag} {g g' : Gh} {a : Addr} (e : Ext g g') (h : g.pot a) (n : NoT K g a) : NoT K g' a := by
  refine ⟨n.1, fun C z => ?_⟩
  obtain ⟨l, q, w⟩ := e.c
  rw [q] at z
  rcases List.mem_append.mp z with z | z
  · exact n.2 C z
  · exact w a C z h
section
variable {K : PySem.W.Frag} {g g' : Gh}
mutual
theorem Den.mono (e : Ext g g') : ∀ {v : V} {d : D}, Den K g v d → Den K g' v d
  | _, _, .non => .non
  | _, _, .bl b => .bl b
  | _, _, .int i => .int i
  | _, _, .str l => .str l
  | _, _, .lst h1 h2 => .lst (e.G _ _ h1) (Dens.mono e h2)
  | _, _, .tup h1 h2 => .tup (h1.same e.G) (Dens.mono e h2)
  | _, _, .obj h1 h2 => .obj (e.G _ _ h1) (Flds.mono e h2)
  | _, _, .pot h hn => .pot (e.p _ h) (hn.mono e h)
  | _, _, .cel h => .cel (e.cel h)
  | _, _, .scr h => .scr (e.G.seq h)
  | _, _, .ref a => .ref a
  | _, _, .tupK h1 h2 => .tupK h1 (Dens.mono e h2)
  | _, _, .tupF h1 c d h2 => .tupF (e.G _ _ h1) c d (Dens.mono e h2)
  | _, _, .err h1 h2 h3 => .err (e.G _ _ h1) (e.G _ _ h2) (Den.mono e h3)
  | _, _, .dic h1 h2 h3 => .dic (e.G _ _ h1) h2 (Dens.mono e h3)
theorem Dens.mono (e : Ext g g') : ∀ {vs : List V} {ds : List D}, Dens K g vs ds → Dens K g' vs ds
  | _, _, .nil => .nil
  | _, _, .cons h t => .cons (Den.mono e h) (Dens.mono e t)
theorem Flds.mono (e : Ext g g') : ∀ {vs : List (Str × V)} {ds : List (Str × D)}, Flds K g vs ds → Flds K g' vs ds
  | _, _, .nil => .nil
  | _, _, .cons h t => .cons (Den.mono e h) (Flds.mono e t)
end
theorem Dens.length : ∀ {vs : List V} {ds : List D}, Dens K g vs ds → vs.length = ds.length
  | _, _, .nil => rfl
  | _, _, .cons _ t => congrArg Nat.succ (Dens.length t)
theorem Dens.append : ∀ {vs ws : List V} {ds es : List D}, Dens K g vs ds → Dens K g ws es → Dens K g (vs ++ ws) (ds ++ es)
  | _, _, _, _, .nil, s => s
  | _, _, _, _, .cons h t, s => .cons h (Dens.append t s)
theorem Dens.get : ∀ {vs : List V} {ds : List D} {i : Nat} {d : D}, Dens K g vs ds → ds[i]? = some d → ∃ v, vs[i]? = some v ∧ Den K g v d
  | _, _, _, _, .nil, e => by simp at e
  | _, _, 0, _, .cons h _, e => by simp at e; subst e; exact ⟨_, rfl, h⟩
  | _, _, i + 1, d, .cons _ t, e => by
    obtain ⟨v, h1, h2⟩ := Dens.get (i := i) (d := d) t (by simpa using e)
    exact ⟨v, by simpa using h1, h2⟩
theorem Dens.getV : ∀ {vs : List V} {ds : List D} {i : Nat} {v : V}, Dens K g vs ds → vs[i]? = some v → ∃ d, ds[i]? = some d ∧ Den K g v d
  | _, _, _, _, .nil, e => by simp at e
  | _, _, 0, _, .cons h _, e => by simp at e; subst e; exact ⟨_, rfl, h⟩
  | _, _, i + 1, v, .cons _ t, e => by
    obtain ⟨d, h1, h2⟩ := Dens.getV (i := i) (v := v) t (by simpa using e)
    exact ⟨d, by simpa using h1, h2⟩
theorem Dens.set {v : V} {d : D} (h : Den K g v d) : ∀ {vs : List V} {ds : List D} (i : Nat), Dens K g vs ds → Dens K g (vs.set i v) (ds.set i d)
  | _, _, _, .nil => .nil
  | _, _, 0, .cons _ t => .cons h t
  | _, _, i + 1, .cons q t => .cons q (Dens.set h i t)
theorem Dens.take : ∀ {vs : List V} {ds : List D} (n : Nat), Dens K g vs ds → Dens K g (vs.take n) (ds.take n)
  | _, _, 0, _ => .nil
  | _, _, _ + 1, .nil => .nil
  | _, _, n + 1, .cons h t => .cons h (Dens.take n t)
theorem Dens.drop : ∀ {vs : List V} {ds : List D} (n : Nat), Dens K g vs ds → Dens K g (vs.drop n) (ds.drop n)
  | _, _, 0, r => r
  | _, _, _ + 1, .nil => .nil
  | _, _, n + 1, .cons _ t => Dens.drop n t
theorem Dens.reverse : ∀ {vs : List V} {ds : List D}, Dens K g vs ds → Dens K g vs.reverse ds.reverse
  | _, _, .nil => .nil
  | _, _, .cons h t => by
    rw [List.reverse_cons, List.reverse_cons]
    exact (Dens.reverse t).append (.cons h .nil)
theorem Dens.ints : ∀ {vs : List V} {ns : List Int}, Dens K g vs (ns.map D.int) → vs = ns.map V.int
  | _, [], .nil => rfl
  | _, n :: ns, .cons (.int _) t => by
    rw [Dens.ints t]
    rfl
theorem Dens.bls : ∀ {vs : List V} {ns : List Bool}, Dens K g vs (ns.map D.bl) → vs = ns.map V.bl
  | _, [], .nil => rfl
  | _, n :: ns, .cons (.bl _) t => by
    rw [Dens.bls t]
    rfl
theorem Dens.strs : ∀ {vs : List V} {ns : List (List Nat)}, Dens K g vs (ns.map D.str) → vs = (ns.map fun l => (⟨l.toArray⟩ : Str)).map V.str
  | _, [], .nil => rfl
  | _, n :: ns, .cons (.str _) t => by
    rw [Dens.strs t]
    rfl
end
def PotH (n : Nat) (o : Option HO) : Prop := ∃ x y z : Int, o = some (.lst [.int x, .int y, .int z]) ∧ 0 ≤ x ∧ x.natAbs < 2 ^ 1100 ∧ 0 ≤ y ∧ y < 2 ^ 61 ∧ 0 ≤ z ∧ z + n ≤ 1000000000
def Lite (u : HO) : Prop := (∃ vs, u = .lst vs) ∨ (∃ C dx fs, u = .ins C dx fs) ∨ (∃ kvs, u = .dK kvs) ∨ ∃ kvs, u = .dT kvs
structure TOk (T : List (Addr × Str)) (pot : Addr → Prop) (H : Hp) : Prop where
  tabs : LamX.Tabs T H
  tp : ∀ p, p ∈ T → pot p.1
  all : ∀ a ps, H a = some (.tbl ps) → ∃ q, (a, q) ∈ T
theorem codeO_lite {c : Addr} {q : Str} (h : Lite (LamX.CodeO c q)) : False := by
  unfold LamX.CodeO at h
  rcases h with ⟨vs, h⟩ | ⟨C, dx, fs, h⟩ | ⟨kvs, h⟩ | ⟨kvs, h⟩ <;> cases h
theorem TOk.at {T : List (Addr × Str)} {pot : Addr → Prop} {H H' : Hp} (t : TOk T pot H) (h1 : ∀ a ps, H' a = some (.tbl ps) → H a = some (.tbl ps)) (h2 : ∀ a u, H a = some u → ¬ Lite u → H' a = some u) : TOk T pot H' := by
  refine ⟨fun p hp => ?_, t.tp, fun a ps e => t.all a ps (h1 a ps e)⟩
  obtain ⟨ps, a1, a2, a3⟩ := t.tabs p hp
  refine ⟨ps, h2 _ _ a1 (by rintro (⟨vs, z⟩ | ⟨C, dx, fs, z⟩ | ⟨kvs, z⟩ | ⟨kvs, z⟩) <;> cases z), a2, fun pos cv hc => ?_⟩
  obtain ⟨c, b1, b2⟩ := a3 pos cv hc
  exact ⟨c, b1, h2 _ _ b2 fun z => codeO_lite z⟩
theorem TOk.upd {T : List (Addr × Str)} {pot : Addr → Prop} {H : Hp} (t : TOk T pot H) {p : Addr} {o : HO} (hp : ∀ u, H p = some u → Lite u) (ho : ∀ ps, o ≠ .tbl ps) : TOk T pot (L2.upd H p o) := by
  refine t.at (fun a ps e => ?_) fun a u e n => ?_
  · by_cases q : a = p
    · subst q
      rw [upd_same] at e
      cases e
      exact (ho ps rfl).elim
    · rw [upd_ne q] at e
      exact e
  · rw [upd_ne fun q => n (hp u (by rw [← q]; exact e))]
    exact e
theorem TOk.new {T : List (Addr × Str)} {pot : Addr → Prop} {H : Hp} (t : TOk T pot H) {p : Addr} {o : HO} (hp : H p = none) (ho : ∀ ps, o ≠ .tbl ps) : TOk T pot (L2.upd H p o) :=
  t.upd (fun u e => by rw [hp] at e; cases e) ho
theorem TOk.no {T : List (Addr × Str)} {pot : Addr → Prop} {H : Hp} (t : TOk T pot H) {p : Addr} (h : ∀ ps, H p ≠ some (.tbl ps)) (q : Str) : (p, q) ∉ T := fun z => by
  obtain ⟨ps, a1, _⟩ := t.tabs _ z
  exact h ps a1
theorem TOk.pots {T : List (Addr × Str)} {pot pot' : Addr → Prop} {H : Hp} (t : TOk T pot H) (h : ∀ a, pot a → pot' a) : TOk T pot' H := ⟨t.tabs, fun p hp => h _ (t.tp p hp), t.all⟩
def OD.d : OD → D
  | .lst ds => .lst ds
  | .ins C fs => .obj C fs
  | .dic ks vs => .dic ks vs
  | .dct _ _ => .non
def OwnH (K : PySem.W.Frag) (g : Gh) : OD → HO → Prop
  | .lst ds, o => ∃ vs, o = .lst vs ∧ Dens K g vs ds
  | .ins C fs, o => ∃ dx fvs, o = .ins C dx fvs ∧ Flds K g fvs fs
  | .dic ks vs, o => ∃ kvs : List (Key × V), o = .dK kvs ∧ kvs.map (·.1) = ks.map (fun x => Sum.inr ⟨x.toArray⟩) ∧ Dens K g (kvs.map (·.2)) vs
  | .dct _ _, _ => False
theorem OwnH.lite {K : PySem.W.Frag} {g : Gh} {d : OD} {o : HO} (h : OwnH K g d o) : Lite o := by
  cases d with
  | lst ds =>
    obtain ⟨vs, e1, _⟩ := h
    exact .inl ⟨vs, e1⟩
  | ins C fs =>
    obtain ⟨dx, fvs, e1, _⟩ := h
    exact .inr (.inl ⟨C, dx, fvs, e1⟩)
  | dic ks vs =>
    obtain ⟨kvs, e1, _⟩ := h
    exact .inr (.inr (.inl ⟨kvs, e1⟩))
  | dct ks vs => exact h.elim
theorem Lite.nt {o : HO} (h : Lite o) (ps : Array Value) : o ≠ .tbl ps := by
  rcases h with ⟨vs, rfl⟩ | ⟨C, dx, fs, rfl⟩ | ⟨kvs, rfl⟩ | ⟨kvs, rfl⟩ <;> intro z <;> cases z
theorem OwnH.mono {K : PySem.W.Frag} {g g' : Gh} {d : OD} {o : HO} (h : OwnH K g d o) (e : Ext g g') : OwnH K g' d o := by
  cases d with
  | lst ds =>
    obtain ⟨vs, e1, e2⟩ := h
    exact ⟨vs, e1, e2.mono e⟩
  | ins C fs =>
    obtain ⟨dx, fvs, e1, e2⟩ := h
    exact ⟨dx, fvs, e1, e2.mono e⟩
  | dic ks vs =>
    obtain ⟨kvs, e1, e2, e3⟩ := h
    exact ⟨kvs, e1, e2, e3.mono e⟩
  | dct ks vs => exact h.elim
theorem OwnH.den {K : PySem.W.Frag} {g : Gh} {d : OD} {o : HO} {p : Addr} (h : OwnH K g d o) (e : g.G p = some o) : Den K g (.ref p) d.d := by
  cases d with
  | lst ds =>
    obtain ⟨vs, e1, e2⟩ := h
    subst e1
    exact .lst e e2
  | ins C fs =>
    obtain ⟨dx, fvs, e1, e2⟩ := h
    subst e1
    exact .obj e e2
  | dic ks vs =>
    obtain ⟨kvs, e1, e2, e3⟩ := h
    subst e1
    exact .dic e e2 e3
  | dct ks vs => exact h.elim
abbrev tupKey (x : List Nat) : List Key := x.map fun (k : Nat) => (Sum.inl ((k : Nat) : Int) : Key)
def CelH (K : PySem.W.Frag) (g : Gh) : OD → HO → Prop
  | .dct ks vs, o => ∃ kvs : List (List Key × V), o = .dT kvs ∧ kvs.map (·.1) = ks.map tupKey ∧ Dens K g (kvs.map (·.2)) vs
  | .lst ds, o => OwnH K g (.lst ds) o
  | .ins C fs, o => OwnH K g (.ins C fs) o
  | .dic ks vs, o => OwnH K g (.dic ks vs) o
theorem CelH.lite {K : PySem.W.Frag} {g : Gh} {d : OD} {o : HO} (h : CelH K g d o) : Lite o := by
  cases d with
  | lst ds => exact OwnH.lite (d := .lst ds) h
  | ins C fs => exact OwnH.lite (d := .ins C fs) h
  | dic ks vs => exact OwnH.lite (d := .dic ks vs) h
  | dct ks vs =>
    obtain ⟨kvs, e1, _⟩ := h
    exact .inr (.inr (.inr ⟨kvs, e1⟩))
theorem CelH.mono {K : PySem.W.Frag} {g g' : Gh} {d : OD} {o : HO} (h : CelH K g d o) (e : Ext g g') : CelH K g' d o := by
  cases d with
  | lst ds => exact OwnH.mono (d := .lst ds) h e
  | ins C fs => exact OwnH.mono (d := .ins C fs) h e
  | dic ks vs => exact OwnH.mono (d := .dic ks vs) h e
  | dct ks vs =>
    obtain ⟨kvs, e1, e2, e3⟩ := h
    exact ⟨kvs, e1, e2, e3.mono e⟩
structure CelOk (K : PySem.W.Frag) (g : Gh) (H : Hp) (l : List (Addr × Option Addr)) (cs : List OD) : Prop where
  len : l.length = cs.length
  at_ : ∀ (i : Nat) (a : Addr) (C : Option Addr), l[i]? = some (a, C) → g.pot a ∧ (∀ q, (a, q) ∉ tabsK K) ∧ ∃ od o, cs[i]? = some od ∧ od.cls = C ∧ H a = some o ∧ CelH K g od o
  nd : ∀ (i j : Nat) (a : Addr) (C C' : Option Addr), l[i]? = some (a, C) → l[j]? = some (a, C') → i = j
theorem CelOk.nil {K : PySem.W.Frag} {g : Gh} {H : Hp} : CelOk K g H [] [] := ⟨rfl, fun i a C h => by simp at h, fun i j a C C' h => by simp at h⟩
theorem CelOk.step {K : PySem.W.Frag} {g g' : Gh} {H H' : Hp} {l : List (Addr × Option Addr)} {cs : List OD} (c : CelOk K g H l cs) (e : Ext g g') (h : ∀ a C, (a, C) ∈ l → H' a = H a) : CelOk K g' H' l cs :=
  ⟨c.len, fun i a C q => by
    obtain ⟨h1, h2, od, o, h3, h4, h5, h6⟩ := c.at_ i a C q
    exact ⟨e.p _ h1, h2, od, o, h3, h4, (h a C (List.mem_of_getElem? q)).trans h5, h6.mono e⟩, c.nd⟩
theorem CelOk.mem {K : PySem.W.Frag} {g : Gh} {H : Hp} {l : List (Addr × Option Addr)} {cs : List OD} (c : CelOk K g H l cs) {a : Addr} {C : Option Addr} (h : (a, C) ∈ l) : g.pot a ∧ (∀ q, (a, q) ∉ tabsK K) ∧ ∃ od o, H a = some o ∧ CelH K g od o := by
  obtain ⟨i, e⟩ := List.getElem?_of_mem h
  obtain ⟨h1, h2, od, o, h3, h4, h5, h6⟩ := c.at_ i a C e
  exact ⟨h1, h2, od, o, h5, h6⟩
theorem CelOk.upd {K : PySem.W.Frag} {g : Gh} {H : Hp} {l : List (Addr × Option Addr)} {cs : List OD} (c : CelOk K g H l cs) {p : Addr} {o : HO} (h : ¬ g.pot p) : CelOk K g (L2.upd H p o) l cs :=
  c.step (Ext.refl g) fun a C m => upd_ne fun q => h (by rw [← q]; exact (c.mem m).1)
structure Ok (ℓ : Bool) (K : PySem.W.Frag) (g : Gh) (H : Hp) (n : Nat) : Prop where
  sub : Same g.G H
  pot : ∀ a, g.pot a → g.G a = none ∧ (((∃ q, (a, q) ∈ tabsK K) ∨ ∃ C, (a, C) ∈ g.cel) ∨ PotH (drw ℓ n) (H a))
  t : TOk (tabsK K) g.pot H
  cel : CelOk K g H g.cel (csw ℓ n)
theorem Ok.nocel {K : PySem.W.Frag} {g : Gh} {H : Hp} {n : Nat} (ok : Ok false K g H n) : g.cel = [] := List.length_eq_zero_iff.mp ok.cel.len
structure Stp (g : Gh) (H : Hp) (g' : Gh) (H' : Hp) : Prop where
  ext : Ext g g'
  gro : ∀ a, H a ≠ none → g.G a = none → g'.G a = none
  grp : ∀ a, H a ≠ none → g'.pot a → g.pot a
  kep : ∀ a o, H a = some o → ¬ g.pot a → H' a = some o
  dom : ∀ a, H a ≠ none → H' a ≠ none
theorem Stp.refl (g : Gh) (H : Hp) : Stp g H g H := ⟨Ext.refl g, fun _ _ h => h, fun _ _ h => h, fun _ _ h _ => h, fun _ h => h⟩
theorem Stp.trans {g g1 g2 : Gh} {H H1 H2 : Hp} (a : Stp g H g1 H1) (b : Stp g1 H1 g2 H2) : Stp g H g2 H2 :=
  ⟨a.ext.trans b.ext, fun x h q => b.gro x (a.dom x h) (a.gro x h q), fun x h q => a.grp x h (b.grp x (a.dom x h) q),
    fun x o h q => b.kep x o (a.kep x o h q) fun z => q (a.grp x (by rw [h]; exact Option.some_ne_none o) z), fun x h => b.dom x (a.dom x h)⟩
def Gh.add (g : Gh) (p : Addr) (o : HO) : Gh := ⟨upd g.G p o, g.pot, g.cel⟩
theorem Ext.addN {g : Gh} {p : Addr} {o : HO} (h : g.G p = none) : Ext g (g.add p o) := ⟨fun a u q => by
  show upd g.G p o a = some u
  rw [upd_ne (ne_of_none q h)]
  exact q, fun _ z => z, [], (List.append_nil _).symm, fun _ _ h => by cases h⟩
theorem Ok.gnone {K : PySem.W.Frag} {g : Gh} {H : Hp} {n : Nat} (ok : Ok ℓ K g H n) {p : Addr} (h : H p = none) : g.G p = none := by
  cases q : g.G p with
  | none => rfl
  | some o =>
    rw [ok.sub p o q] at h
    cases h
theorem Ok.npot {K : PySem.W.Frag} {g : Gh} {H : Hp} {n : Nat} (ok : Ok ℓ K g H n) {p : Addr} (h : H p = none) : ¬ g.pot p := fun z => by
  obtain ⟨_, (⟨q, w⟩ | ⟨C, w⟩) | ⟨x, y, w, e, _⟩⟩ := ok.pot p z
  · obtain ⟨ps, e, _⟩ := ok.t.tabs _ w
    have e : H p = some (.tbl ps) := e
    rw [h] at e
    cases e
  · obtain ⟨_, _, od, o, e, _⟩ := ok.cel.mem w
    rw [h] at e
    cases e
  · rw [h] at e
    cases e
theorem Ok.potH {K : PySem.W.Frag} {g : Gh} {H : Hp} {n : Nat} (ok : Ok ℓ K g H n) {p : Addr} (h : g.pot p) (hn : NoT K g p) : PotH (drw ℓ n) (H p) := (ok.pot p h).2.elim (fun z => z.elim (fun ⟨q, z⟩ => absurd z (hn.1 q)) fun ⟨C, z⟩ => absurd z (hn.2 C)) id
theorem Ok.add {K : PySem.W.Frag} {g : Gh} {H : Hp} {n : Nat} (ok : Ok ℓ K g H n) {p : Addr} {o : HO} (h : H p = none) (ho : ∀ ps, o ≠ .tbl ps := by (intro ps z; cases z)) : Ok ℓ K (g.add p o) (upd H p o) n := by
  refine ⟨fun a u e => ?_, fun a z => ?_, ok.t.new h ho, ok.cel.step (Ext.addN (ok.gnone h)) fun a C m => upd_ne fun q => by
    obtain ⟨_, _, od, o2, e, _⟩ := ok.cel.mem m
    rw [q, h] at e
    cases e⟩
  · by_cases q : a = p
    · subst q
      have e2 : upd g.G a o a = some u := e
      rw [upd_same] at e2 ⊢
      exact e2
    · have e2 : upd g.G p o a = some u := e
      rw [upd_ne q] at e2 ⊢
      exact ok.sub a u e2
  · have z2 : g.pot a := z
    have q : a ≠ p := fun e => ok.npot h (by rw [← e]; exact z2)
    obtain ⟨h1, h2⟩ := ok.pot a z2
    refine ⟨?_, ?_⟩
    · show upd g.G p o a = none
      rw [upd_ne q]
      exact h1
    · rw [upd_ne q]
      exact h2
theorem Stp.add {K : PySem.W.Frag} {g : Gh} {H : Hp} {n : Nat} (ok : Ok ℓ K g H n) {p : Addr} {o : HO} (h : H p = none) : Stp g H (g.add p o) (upd H p o) := by
  refine ⟨Ext.addN (ok.gnone h), fun a d e => ?_, fun _ _ z => z, fun a u e _ => ?_, fun a d => ?_⟩
  · show upd g.G p o a = none
    rw [upd_ne fun q => d (by rw [q]; exact h)]
    exact e
  · rw [upd_ne (ne_of_none e h)]
    exact e
  · rw [upd_ne fun q => d (by rw [q]; exact h)]
    exact d
theorem Gh.at {g : Gh} {p : Addr} {o : HO} : (g.add p o).G p = some o := upd_same
inductive Sl where
  | no | val (d : D) | own (o : OD)
abbrev Ev := List Sl
def SlOk (K : PySem.W.Frag) (O : OD → Addr → Prop) (g : Gh) (H : Hp) (s : Option (Option V)) : Sl → Prop
  | .no => True
  | .val d => ∃ v, s = some (some v) ∧ Den K g v d
  | .own d => ∃ p o, s = some (some (.ref p)) ∧ O d p ∧ g.G p = none ∧ ¬ g.pot p ∧ H p = some o ∧ OwnH K g d o
structure Rp (ℓ : Bool) (K : PySem.W.Frag) (O : OD → Addr → Prop) (g : Gh) (H : Hp) (n : Nat) (σ : L2.St) (ε : Ev) : Prop where
  ok : Ok ℓ K g H n
  len : σ.length = ε.length
  sl : ∀ (i : Nat) (s : Sl), ε[i]? = some s → SlOk K O g H σ[i]? s
  dis : ∀ (i j : Nat) (p : Addr) (ds es : OD), i ≠ j → ε[i]? = some (.own ds) → ε[j]? = some (.own es) → σ[i]? = some (some (.ref p)) → σ[j]? = some (some (.ref p)) → False
section
variable {K : PySem.W.Frag} {O : OD → Addr → Prop} {g g' : Gh} {H H' : Hp} {n n' : Nat} {σ : L2.St} {ε : Ev}
theorem SlOk.step {s : Option (Option V)} {x : Sl} (h : SlOk K O g H s x) (st : Stp g H g' H') : SlOk K O g' H' s x := by
  cases x with
  | no => trivial
  | val d =>
    obtain ⟨v, e, q⟩ := h
    exact ⟨v, e, q.mono st.ext⟩
  | own ds =>
    obtain ⟨p, vs, e, o, h1, h2, h3, h4⟩ := h
    have d : H p ≠ none := by rw [h3]; exact Option.some_ne_none _
    exact ⟨p, vs, e, o, st.gro p d h1, fun z => h2 (st.grp p d z), st.kep p _ h3 h2, h4.mono st.ext⟩
theorem Rp.step (r : Rp ℓ K O g H n σ ε) (st : Stp g H g' H') (ok : Ok ℓ K g' H' n') : Rp ℓ K O g' H' n' σ ε :=
  ⟨ok, r.len, fun i s e => (r.sl i s e).step st, r.dis⟩
theorem Rp.set (r : Rp ℓ K O g H n σ ε) {i : Nat} {v : V} {d : D} (h : Den K g v d) : Rp ℓ K O g H n (σ.set i (some v)) (ε.set i (.val d)) := by
  refine ⟨r.ok, by rw [List.length_set, List.length_set]; exact r.len, fun j s e => ?_, fun j k p ds es hjk e1 e2 e3 e4 => ?_⟩
  · by_cases q : i = j
    · subst q
      have hl : i < ε.length := by
        rcases Nat.lt_or_ge i ε.length with z | z
        · exact z
        · rw [List.getElem?_eq_none (by rw [List.length_set]; exact z)] at e
          cases e
      rw [List.getElem?_set_self hl] at e
      cases e
      exact ⟨v, List.getElem?_set_self (by rw [r.len]; exact hl), h⟩
    · rw [List.getElem?_set_ne q] at e ⊢
      exact r.sl j s e
  · have nown : ∀ {m : Nat} {fs : OD}, (ε.set i (.val d))[m]? = some (.own fs) → i ≠ m := fun {m fs} z q => by
      subst q
      rw [List.getElem?_set] at z
      simp at z
    have q1 := nown e1
    have q2 := nown e2
    rw [List.getElem?_set_ne q1] at e1 e3
    rw [List.getElem?_set_ne q2] at e2 e4
    exact r.dis j k p ds es hjk e1 e2 e3 e4
def wipeE (ε : Ev) : List Nat → Ev
  | [] => ε
  | v :: vs => (wipeE ε vs).set v .no
theorem Rp.unset (r : Rp ℓ K O g H n σ ε) (i : Nat) : Rp ℓ K O g H n (σ.set i none) (ε.set i .no) := by
  refine ⟨r.ok, by rw [List.length_set, List.length_set]; exact r.len, fun j s e => ?_, fun j k p ds es hjk e1 e2 e3 e4 => ?_⟩
  · by_cases q : i = j
    · subst q
      have hl : i < ε.length := by
        rcases Nat.lt_or_ge i ε.length with z | z
        · exact z
        · rw [List.getElem?_eq_none (by rw [List.length_set]; exact z)] at e
          cases e
      rw [List.getElem?_set_self hl] at e
      cases e
      trivial
    · rw [List.getElem?_set_ne q] at e ⊢
      exact r.sl j s e
  · have nown : ∀ {m : Nat} {fs : OD}, (ε.set i .no)[m]? = some (.own fs) → i ≠ m := fun {m fs} z q => by
      subst q
      rw [List.getElem?_set] at z
      simp at z
    have q1 := nown e1
    have q2 := nown e2
    rw [List.getElem?_set_ne q1] at e1 e3
    rw [List.getElem?_set_ne q2] at e2 e4
    exact r.dis j k p ds es hjk e1 e2 e3 e4
theorem Rp.wipe (r : Rp ℓ K O g H n σ ε) : ∀ vs : List Nat, Rp ℓ K O g H n (wipe σ vs) (wipeE ε vs)
  | [] => r
  | v :: vs => (Rp.wipe r vs).unset v
def frzE (ε : Ev) (i : Nat) : Ev := match ε[i]? with
  | some (.own d) => ε.set i (.val d.d)
  | _ => ε
theorem Ok.addOld (ok : Ok ℓ K g H n) {p : Addr} {o : HO} (h : H p = some o) (h2 : ¬ g.pot p) : Ok ℓ K (g.add p o) H n := by
  refine ⟨fun a u e => ?_, fun a z => ?_, ok.t, ok.cel.step ⟨fun a u q => ?_, fun _ z => z, [], (List.append_nil _).symm, fun _ _ h => by cases h⟩ fun _ _ _ => rfl⟩
  rotate_right
  · show upd g.G p o a = some u
    by_cases w : a = p
    · subst w
      rw [upd_same, ← h]
      exact ok.sub a u q
    · rw [upd_ne w]
      exact q
  · by_cases q : a = p
    · subst q
      have e2 : upd g.G a o a = some u := e
      rw [upd_same] at e2
      rw [h]
      exact e2
    · have e2 : upd g.G p o a = some u := e
      rw [upd_ne q] at e2
      exact ok.sub a u e2
  · have z2 : g.pot a := z
    obtain ⟨h3, h4⟩ := ok.pot a z2
    refine ⟨?_, h4⟩
    show upd g.G p o a = none
    rw [upd_ne fun e => h2 (by rw [← e]; exact z2)]
    exact h3
theorem Ext.addOld {p : Addr} {o : HO} (h : g.G p = none) : Ext g (g.add p o) := Ext.addN h
theorem frz_own {i : Nat} {ds : OD} (e : ε[i]? = some (.own ds)) : frzE ε i = ε.set i (.val ds.d) := by
  unfold frzE
  rw [e]
theorem Rp.freezeAt (r : Rp ℓ K O g H n σ ε) {i : Nat} {p : Addr} {vs : HO} {ds : OD} (e : ε[i]? = some (.own ds)) (e1 : σ[i]? = some (some (.ref p))) (h1 : g.G p = none) (h2 : ¬ g.pot p) (h3 : H p = some vs) (h4 : OwnH K g ds vs) :
    Rp ℓ K O (g.add p vs) H n σ (ε.set i (.val ds.d)) := by
  have ex : Ext g (g.add p vs) := Ext.addOld h1
  have hl : i < ε.length := (List.getElem?_eq_some_iff.mp e).1
  refine ⟨r.ok.addOld h3 h2, by rw [List.length_set]; exact r.len, fun j s q => ?_, fun j k q es fs hjk e2 e3 e4 e5 => ?_⟩
  · by_cases hj : i = j
    · subst hj
      rw [List.getElem?_set_self hl] at q
      cases q
      exact ⟨_, e1, (h4.mono ex).den upd_same⟩
    · rw [List.getElem?_set_ne hj] at q
      have w := r.sl j s q
      cases s with
      | no => trivial
      | val d =>
        obtain ⟨v, w1, w2⟩ := w
        exact ⟨v, w1, w2.mono ex⟩
      | own es =>
        obtain ⟨p2, vs2, w1, o2, w2, w3, w4, w5⟩ := w
        refine ⟨p2, vs2, w1, o2, ?_, w3, w4, w5.mono ex⟩
        show upd g.G p vs p2 = none
        rw [upd_ne fun z => r.dis i j p ds es hj e q e1 (by rw [← z]; exact w1)]
        exact w2
  · have nown : ∀ {m : Nat} {fs : OD}, (ε.set i (.val ds.d))[m]? = some (.own fs) → i ≠ m := fun {m fs} z q => by
      subst q
      rw [List.getElem?_set] at z
      simp at z
    have q1 := nown e2
    have q2 := nown e3
    rw [List.getElem?_set_ne q1] at e2
    rw [List.getElem?_set_ne q2] at e3
    exact r.dis j k q es fs hjk e2 e3 e4 e5
theorem Rp.freeze {g0 : Gh} {H0 : Hp} {U : OD → Addr → Prop} (r : Rp ℓ K (fun d p => H0 p = none ∧ U d p) g H n σ ε) (st : Stp g0 H0 g H) (i : Nat) : ∃ g', Stp g0 H0 g' H ∧ Rp ℓ K (fun d p => H0 p = none ∧ U d p) g' H n σ (frzE ε i) := by
  cases e : ε[i]? with
  | none =>
    have z : frzE ε i = ε := by unfold frzE; rw [e]
    rw [z]
    exact ⟨g, st, r⟩
  | some s =>
    cases s with
    | no =>
      have z : frzE ε i = ε := by unfold frzE; rw [e]
      rw [z]
      exact ⟨g, st, r⟩
    | val d =>
      have z : frzE ε i = ε := by unfold frzE; rw [e]
      rw [z]
      exact ⟨g, st, r⟩
    | own ds =>
      rw [frz_own e]
      obtain ⟨p, vs, e1, o, h1, h2, h3, h4⟩ := r.sl i _ e
      refine ⟨g.add p vs, ⟨st.ext.trans (Ext.addOld h1), fun a d q => ?_, st.grp, st.kep, st.dom⟩, r.freezeAt e e1 h1 h2 h3 h4⟩
      show upd g.G p vs a = none
      have o2 : H0 p = none := o.1
      rw [upd_ne fun z => d (by rw [z]; exact o2)]
      exact st.gro a d q
theorem Rp.tmp (r : Rp false K O g H n σ ε) (i : Nat) : ∃ g1, Rp false K O g1 H n σ (frzE ε i) ∧ ∀ g' H' n', Stp g1 H g' H' → Ok false K g' H' n' → ∃ g'', Stp g H g'' H' ∧ Ok false K g'' H' n' := by
  cases e : ε[i]? with
  | none =>
    have z : frzE ε i = ε := by unfold frzE; rw [e]
    rw [z]
    exact ⟨g, r, fun g' H' n' a b => ⟨g', a, b⟩⟩
  | some s =>
    cases s with
    | no =>
      have z : frzE ε i = ε := by unfold frzE; rw [e]
      rw [z]
      exact ⟨g, r, fun g' H' n' a b => ⟨g', a, b⟩⟩
    | val d =>
      have z : frzE ε i = ε := by unfold frzE; rw [e]
      rw [z]
      exact ⟨g, r, fun g' H' n' a b => ⟨g', a, b⟩⟩
    | own ds =>
      rw [frz_own e]
      obtain ⟨p, vs, e1, o, h1, h2, h3, h4⟩ := r.sl i _ e
      refine ⟨g.add p vs, r.freezeAt e e1 h1 h2 h3 h4, fun g' H' n' a b => ⟨⟨fun x => if x = p then none else g'.G x, g'.pot, g'.cel⟩, ⟨⟨fun x u q => ?_, a.ext.p, a.ext.c⟩, fun x d q => ?_, a.grp, a.kep, a.dom⟩, ⟨fun x u q => ?_, fun x z => ?_, b.t, by rw [b.nocel]; exact CelOk.nil⟩⟩⟩
      · show (if x = p then none else g'.G x) = some u
        rw [if_neg (ne_of_none q h1)]
        exact a.ext.G x u ((Ext.addOld (o := vs) h1).G x u q)
      · show (if x = p then none else g'.G x) = none
        by_cases w : x = p
        · rw [if_pos w]
        · rw [if_neg w]
          refine a.gro x d ?_
          show upd g.G p vs x = none
          rw [upd_ne w]
          exact q
      · have q2 : (if x = p then none else g'.G x) = some u := q
        by_cases w : x = p
        · rw [if_pos w] at q2
          cases q2
        · rw [if_neg w] at q2
          exact b.sub x u q2
      · obtain ⟨z1, z2⟩ := b.pot x z
        refine ⟨?_, z2⟩
        show (if x = p then none else g'.G x) = none
        by_cases w : x = p
        · rw [if_pos w]
        · rw [if_neg w]
          exact z1
end
end Pd
namespace Pd
variable {ℓ : Bool}
open PySem L2
abbrev DE := Nat → Ev → (Nat → D → Prop) → Prop
abbrev DT := Nat → Ev → (Nat → Bool → Prop) → Prop
abbrev DA := Nat → Ev → (Nat → List D → Prop) → Prop
structure DN where
  nx : Nat → Ev → Prop
  rt : Nat → D → Prop
  bk : Nat → Ev → Prop := fun _ _ => False
  ct : Nat → Ev → Prop := fun _ _ => False
  slf : Option Addr := none
  ret : Nat → Ev → D → Prop := fun _ _ _ => False
  rs : Nat → Ev → Nat → Prop := fun _ _ _ => False
  xc : Nat → Ev → Addr → D → Prop := fun _ _ _ _ => False
abbrev DS := DN → Nat → Ev → Prop
def liftE (ℓ : Bool) (K : PySem.W.Frag) (d : DE) : TE := fun σ H Q => ∃ O g n ε P, Rp ℓ K O g H n σ ε ∧ d n ε P ∧ ∀ v g' H' n' r, P n' r → Stp g H g' H' → Ok ℓ K g' H' n' → Den K g' v r → Q v H'
def liftT (ℓ : Bool) (K : PySem.W.Frag) (d : DT) : TT := fun σ H Q => ∃ O g n ε P, Rp ℓ K O g H n σ ε ∧ d n ε P ∧ ∀ b g' H' n', P n' b → Stp g H g' H' → Ok ℓ K g' H' n' → Q b H'
def liftA (ℓ : Bool) (K : PySem.W.Frag) (d : DA) : TA := fun σ H Q => ∃ O g n ε P, Rp ℓ K O g H n σ ε ∧ d n ε P ∧ ∀ vs g' H' n' rs, P n' rs → Stp g H g' H' → Ok ℓ K g' H' n' → Dens K g' vs rs → Q vs H'
structure UOk (s : Option Addr) (U : OD → Addr → Prop) : Prop where
  lst : ∀ ds p, U (.lst ds) p
  ins : ∀ C fs fs' p, U (.ins C fs) p → U (.ins C fs') p
  new : ∀ C fs p, s ≠ some C → U (.ins C fs) p
  dic : ∀ ks vs p, U (.dic ks vs) p
abbrev W0 : WX := fun _ _ _ _ => False
def liftS (ℓ : Bool) (W : WX) (K : PySem.W.Frag) (d : DS) : TS := fun E σ H => ∃ U g0 H0 g n ε N, UOk N.slf U ∧ Rp ℓ K (fun d p => H0 p = none ∧ U d p) g H n σ ε ∧ Stp g0 H0 g H ∧ d N n ε ∧
  (∀ σ' g' H' n' ε', N.nx n' ε' → Rp ℓ K (fun d p => H0 p = none ∧ U d p) g' H' n' σ' ε' → Stp g0 H0 g' H' → E.nx σ' H') ∧
  (∀ σ' g' H' n' ε', N.bk n' ε' → Rp ℓ K (fun d p => H0 p = none ∧ U d p) g' H' n' σ' ε' → Stp g0 H0 g' H' → E.bk σ' H') ∧
  (∀ σ' g' H' n' ε', N.ct n' ε' → Rp ℓ K (fun d p => H0 p = none ∧ U d p) g' H' n' σ' ε' → Stp g0 H0 g' H' → E.ct σ' H') ∧
  (∀ v g' H' n' r, N.rt n' r → Stp g0 H0 g' H' → Ok ℓ K g' H' n' → Den K g' v r → E.rt v H') ∧
  (∀ v σ' g' H' n' ε' r, N.ret n' ε' r → Rp ℓ K (fun d p => H0 p = none ∧ U d p) g' H' n' σ' ε' → Stp g0 H0 g' H' → Den K g' v r → E.rt v H') ∧
  (∀ σ' g' H' n' ε' i p, N.rs n' ε' i → Rp ℓ K (fun d p => H0 p = none ∧ U d p) g' H' n' σ' ε' → Stp g0 H0 g' H' → σ'[i]? = some (some (.ref p)) → E.rt (.ref p) H') ∧
  (∀ σ' g' H' n' ε' C dx r v, N.xc n' ε' C r → Rp ℓ K (fun d p => H0 p = none ∧ U d p) g' H' n' σ' ε' → Stp g0 H0 g' H' → g'.G dx = some (.xd [("value", v)]) → Den K g' v r → W (.ref C) (some dx) σ' H')
section
variable {X : Cx} {e : Expr} {es : List Expr} {st : Stmt} {sts : List Stmt}
theorem pe_w {t t' : TE} (h : PE X e t) (w : ∀ σ H Q, t' σ H Q → t σ H Q) : PE X e t' := ⟨fun pins s σ H Q I q => h.run pins s σ H Q I (w σ H Q q)⟩
theorem pt_w {t t' : TT} (h : PT X e t) (w : ∀ σ H Q, t' σ H Q → t σ H Q) : PT X e t' := ⟨fun pins s σ H Q I q => h.run pins s σ H Q I (w σ H Q q)⟩
theorem pw_w {t t' : TT} (h : PW X e t) (w : ∀ σ H Q, t' σ H Q → t σ H Q) : PW X e t' := ⟨fun wh pins s σ H Q I q => h.run wh pins s σ H Q I (w σ H Q q)⟩
theorem pa_w {t t' : TA} (h : PA X es t) (w : ∀ σ H Q, t' σ H Q → t σ H Q) : PA X es t' := ⟨fun pos pins s σ H Q I q => h.run pos pins s σ H Q I (w σ H Q q)⟩
theorem ps_w {t t' : TS} (h : PS X st t) (w : ∀ E σ H, t' E σ H → t E σ H) : PS X st t' := ⟨fun pins s σ H E I q => h.run pins s σ H E I (w E σ H q)⟩
theorem pss_w {t t' : TS} (h : PSs X sts t) (w : ∀ E σ H, t' E σ H → t E σ H) : PSs X sts t' := ⟨fun pins s σ H E I q => h.run pins s σ H E I (w E σ H q)⟩
end
def Fin (ℓ : Bool) (K : PySem.W.Frag) (g : Gh) (H : Hp) (n : Nat) (P : D → Prop) (Q : VK) : Prop := ∀ v g' H' r, P r → Stp g H g' H' → Ok ℓ K g' H' n → Den K g' v r → Q v H'
section
variable {K : PySem.W.Frag} {g : Gh} {H : Hp} {n : Nat} {P : D → Prop} {Q : VK}
theorem Fin.flat (f : Fin ℓ K g H n P Q) (ok : Ok ℓ K g H n) {v : V} {d : D} (p : P d) (h : Den K g v d) : Q v H := f v g H d p (Stp.refl g H) ok h
theorem Fin.newL (f : Fin ℓ K g H n P Q) (ok : Ok ℓ K g H n) {vs : List V} {ds : List D} (p : P (.lst ds)) (h : Dens K g vs ds) {a : Addr} (ha : H a = none) : Q (.ref a) (upd H a (.lst vs)) :=
  f _ _ _ _ p (Stp.add ok ha) (ok.add ha) (.lst Gh.at (h.mono (Stp.add ok ha).ext))
theorem Fin.newT (f : Fin ℓ K g H n P Q) (ok : Ok ℓ K g H n) {vs : List V} {ds : List D} (p : P (.tup ds)) (h : Dens K g vs ds) {a : Addr} (ha : H a = none) : Q (.ref a) (upd H a (.tup vs)) :=
  f _ _ _ _ p (Stp.add ok ha) (ok.add ha) (.tup (.inl Gh.at) (h.mono (Stp.add ok ha).ext))
end
theorem sz {n : Nat} (h : n ≤ 16777216) : n ≤ sizeLine := by
  rw [sizeLine_eq]
  exact h
def dVar (i : Nat) : DE := fun n ε P => match ε[i]? with
  | some (.val d) => P n d
  | _ => False
def dC (d : D) : DE := fun n _ P => P n d
section
variable {X : Cx} {pos : Pos}
theorem de_of {e : Expr} {t : TE} {d : DE} (h : PE X e t) (w : ∀ O g H n σ ε P Q, Rp ℓ X.K O g H n σ ε → d n ε P → (∀ v g' H' n' r, P n' r → Stp g H g' H' → Ok ℓ X.K g' H' n' → Den X.K g' v r → Q v H') → t σ H Q) : PE X e (liftE ℓ X.K d) :=
  pe_w h fun σ H Q ⟨O, g, n, ε, P, r, q, k⟩ => w O g H n σ ε P Q r q k
theorem de_var (i : Nat) {x : Str} (hN : X.N[i]? = some x := by rfl) (hv : Vis X.env.scope x := by first | exact Or.inl rfl | exact Or.inr (Or.inl rfl) | exact Or.inr (Or.inr rfl)) (hd : (x == ("__debug__" : Str)) = false := by decide)
    (hcd : (x == ("__classdict__" : Str)) = false := by decide) : PE X (.Name x pos) (liftE ℓ X.K (dVar i)) :=
  de_of (pe_var hN hv hd hcd) fun O g H n σ ε P Q r q k => by
    unfold dVar at q
    split at q
    · rename_i d e
      obtain ⟨v, e1, e2⟩ := r.sl i _ e
      exact ⟨v, e1, k v g H n d q (Stp.refl g H) r.ok e2⟩
    · exact q.elim
theorem de_c {e : Expr} {v : V} {d : D} (h : PE X e (tC v)) (hd : ∀ g, Den X.K g v d) : PE X e (liftE ℓ X.K (dC d)) :=
  de_of h fun O g H n σ ε P Q r q k => k v g H n d q (Stp.refl g H) r.ok (hd g)
theorem de_int {i : Int} {j : Nat} : PE X (.Constant (.int i) j pos) (liftE ℓ X.K (dC (.int i))) := de_c pe_int fun _ => .int i
theorem de_bl {i : Bool} {j : Nat} : PE X (.Constant (.bool i) j pos) (liftE ℓ X.K (dC (.bl i))) := de_c pe_bl fun _ => .bl i
theorem de_non {j : Nat} : PE X (.Constant .none j pos) (liftE ℓ X.K (dC .non)) := de_c pe_non fun _ => .non
theorem de_str (l : List Nat) {x : Str} {j : Nat} (h : x = ⟨l.toArray⟩ := by decide +kernel) : PE X (.Constant (.str x) j pos) (liftE ℓ X.K (dC (.str l))) := by
  subst h
  exact de_c pe_str fun _ => .str l
theorem de_gint {x : Str} {i : Int} (hg : Gl X x) (hm : ∃ t, X.mg x = some (.int i t)) (hd : (x == ("__debug__" : Str)) = false := by decide) : PE X (.Name x pos) (liftE ℓ X.K (dC (.int i))) := by
  obtain ⟨t, e⟩ := hm
  exact de_c (pe_glob (v := .int i) hg e ⟨t, rfl⟩ hd) fun _ => .int i
theorem de_gstr {x : Str} (l : List Nat) (hg : Gl X x) (hm : ∃ t, X.mg x = some (.str ⟨l.toArray⟩ t)) (hd : (x == ("__debug__" : Str)) = false := by decide) : PE X (.Name x pos) (liftE ℓ X.K (dC (.str l))) := by
  obtain ⟨t, e⟩ := hm
  exact de_c (pe_glob (v := .str ⟨l.toArray⟩) hg e ⟨t, rfl⟩ hd) fun _ => .str l
end
abbrev G2 := D → D → (D → Prop) → Prop
structure SOp (ℓ : Bool) (K : PySem.W.Frag) (r : R2) (go : G2) : Prop where
  ok : ∀ {g : Gh} {H : Hp} {n : Nat} {x y : V} {dx dy : D} {P : D → Prop} {Q : VK}, Ok ℓ K g H n → Den K g x dx → Den K g y dy → go dx dy P → Fin ℓ K g H n P Q → r x y H Q
def dOp (go : G2) (da db : DE) : DE := fun n ε P => da n ε fun n1 x => db n1 ε fun n2 y => go x y (P n2)
theorem two_ok {K : PySem.W.Frag} {da db : DE} {σ : L2.St} {H : Hp} {O : OD → Addr → Prop} {g : Gh} {n : Nat} {ε : Ev} {R : Nat → D → D → Prop} {S : V → V → Hp → Prop} (r : Rp ℓ K O g H n σ ε) (q : da n ε fun n1 x => db n1 ε fun n2 y => R n2 x y)
    (k : ∀ x y g' H' n' dx dy, R n' dx dy → Stp g H g' H' → Ok ℓ K g' H' n' → Den K g' x dx → Den K g' y dy → S x y H') : liftE ℓ K da σ H fun x H1 => liftE ℓ K db σ H1 fun y H2 => S x y H2 :=
  ⟨O, g, n, ε, _, r, q, fun v1 g1 H1 n1 d1 q1 s1 o1 e1 => ⟨O, g1, n1, ε, _, r.step s1 o1, q1, fun v2 g2 H2 n2 d2 q2 s2 o2 e2 => k v1 v2 g2 H2 n2 d1 d2 q2 (s1.trans s2) o2 (e1.mono s2.ext) e2⟩⟩
section
variable {X : Cx} {pos : Pos} {a b c : Expr} {da db dc : DE}
theorem Fin.of {K : PySem.W.Frag} {g g' : Gh} {H H' : Hp} {n' : Nat} {P : Nat → D → Prop} {Q : VK} (k : ∀ v g' H' n' r, P n' r → Stp g H g' H' → Ok ℓ K g' H' n' → Den K g' v r → Q v H') (s : Stp g H g' H') : Fin ℓ K g' H' n' (P n') Q :=
  fun v g2 H2 r p s2 o2 e2 => k v g2 H2 n' r p (s.trans s2) o2 e2
theorem de_op {op : Operator} {r : R2} {go : G2} (ho : OpR X (binaryOp op) r) (hs : SOp ℓ X.K r go) (ha : PE X a (liftE ℓ X.K da)) (hb : PE X b (liftE ℓ X.K db)) : PE X (.BinOp a op b pos) (liftE ℓ X.K (dOp go da db)) :=
  de_of (pe_op ho ha hb) fun O g H n σ ε P Q r q k => two_ok r q fun x y g' H' n' dx dy q2 s o e1 e2 => hs.ok o e1 e2 q2 (Fin.of k s)
theorem de_cmp {op : CmpOp} {r : R2} {go : G2} (ho : OpR X (compareOp op) r) (hs : SOp ℓ X.K r go) (ha : PE X a (liftE ℓ X.K da)) (hb : PE X b (liftE ℓ X.K db)) (hm : behindInMarks op b = false := by first | exact nomark _ | rfl) : PE X (.Compare a [op] [b] pos) (liftE ℓ X.K (dOp go da db)) :=
  de_of (pe_cmpR ho ha hb hm) fun O g H n σ ε P Q r q k => two_ok r q fun x y g' H' n' dx dy q2 s o e1 e2 => hs.ok o e1 e2 q2 (Fin.of k s)
def dTB (d : DE) : DT := fun n ε P => d n ε fun n' x => match x with
  | .bl b => P n' b
  | _ => False
theorem dtb_ok {K : PySem.W.Frag} {O : OD → Addr → Prop} {g : Gh} {H : Hp} {n : Nat} {σ : L2.St} {ε : Ev} {d : DE} {P : Nat → Bool → Prop} {Q : Bool → Hp → Prop} (r : Rp ℓ K O g H n σ ε) (q : dTB d n ε P) (k : ∀ b g' H' n', P n' b → Stp g H g' H' → Ok ℓ K g' H' n' → Q b H') :
    liftE ℓ K d σ H fun x H' => ∃ k, x = .bl k ∧ Q k H' :=
  ⟨O, g, n, ε, _, r, q, fun v g' H' n' x q s o e => by
    cases x with
    | bl b =>
      cases e
      exact ⟨b, rfl, k b g' H' n' q s o⟩
    | _ => exact q.elim⟩
theorem dt_cmp {op : CmpOp} {r : R2} {go : G2} (ho : OpR X (compareOp op) r) (hs : SOp ℓ X.K r go) (ha : PE X a (liftE ℓ X.K da)) (hb : PE X b (liftE ℓ X.K db)) (hm : behindInMarks op b = false := by first | exact nomark _ | rfl) : PT X (.Compare a [op] [b] pos) (liftT ℓ X.K (dTB (dOp go da db))) :=
  pt_w (pt_cmpR ho ha hb hm) fun σ H Q ⟨O, g, n, ε, P, r, q, k⟩ => two_ok r q fun x y g' H' n' dx dy q2 s o e1 e2 => hs.ok o e1 e2 q2 (Fin.of (P := fun n' x => match x with
    | .bl b => P n' b
    | _ => False) (fun v g2 H2 n2 z p s2 o2 e3 => by
      cases z with
      | bl b =>
        cases e3
        exact ⟨b, rfl, k b g2 H2 n2 p s2 o2⟩
      | _ => exact p.elim) s)
theorem dt_val (ha : PE X a (liftE ℓ X.K da)) (he : ∀ whole, isTrue a X.env whole = (do let v ← whole; standAt a.pos; holding [v] (truthy v)) := by intro _; rfl) : PT X a (liftT ℓ X.K (dTB da)) :=
  pt_w (pt_val ha he) fun σ H Q ⟨O, g, n, ε, P, r, q, k⟩ => dtb_ok r q k
end
def dAnd (s t : DT) : DT := fun n ε P => s n ε fun n1 b => (b = true → t n1 ε P) ∧ (b = false → P n1 false)
def dOr (s t : DT) : DT := fun n ε P => s n ε fun n1 b => (b = true → P n1 true) ∧ (b = false → t n1 ε P)
def dNot (s : DT) : DT := fun n ε P => s n ε fun n1 b => P n1 (!b)
def dBV (s : DT) : DE := fun n ε P => s n ε fun n1 b => P n1 (.bl b)
section
variable {X : Cx} {pos : Pos} {a b c : Expr} {da db dc : DE} {s t : DT} {rest : List Expr}
theorem and_ok {K : PySem.W.Frag} : ∀ σ H Q, liftT ℓ K (dAnd s t) σ H Q → tAnd (liftT ℓ K s) (liftT ℓ K t) σ H Q := fun σ H Q ⟨O, g, n, ε, P, r, q, k⟩ =>
  ⟨O, g, n, ε, _, r, q, fun b g1 H1 n1 q1 s1 o1 => by
    cases b with
    | true => exact ⟨O, g1, n1, ε, P, r.step s1 o1, q1.1 rfl, fun b2 g2 H2 n2 q2 s2 o2 => k b2 g2 H2 n2 q2 (s1.trans s2) o2⟩
    | false => exact k false g1 H1 n1 (q1.2 rfl) s1 o1⟩
theorem or_ok {K : PySem.W.Frag} : ∀ σ H Q, liftT ℓ K (dOr s t) σ H Q → tOr (liftT ℓ K s) (liftT ℓ K t) σ H Q := fun σ H Q ⟨O, g, n, ε, P, r, q, k⟩ =>
  ⟨O, g, n, ε, _, r, q, fun b g1 H1 n1 q1 s1 o1 => by
    cases b with
    | false => exact ⟨O, g1, n1, ε, P, r.step s1 o1, q1.2 rfl, fun b2 g2 H2 n2 q2 s2 o2 => k b2 g2 H2 n2 q2 (s1.trans s2) o2⟩
    | true => exact k true g1 H1 n1 (q1.1 rfl) s1 o1⟩
theorem dw_and1 (ha : PT X a (liftT ℓ X.K s)) : PW X (.BoolOp .And [a] pos) (liftT ℓ X.K s) := pw_and1 ha
theorem dw_or1 (ha : PT X a (liftT ℓ X.K s)) : PW X (.BoolOp .Or [a] pos) (liftT ℓ X.K s) := pw_or1 ha
theorem dw_and (ha : PT X a (liftT ℓ X.K s)) (hb : PW X (.BoolOp .And (b :: rest) pos) (liftT ℓ X.K t)) : PW X (.BoolOp .And (a :: b :: rest) pos) (liftT ℓ X.K (dAnd s t)) := pw_w (pw_and ha hb) and_ok
theorem dw_or (ha : PT X a (liftT ℓ X.K s)) (hb : PW X (.BoolOp .Or (b :: rest) pos) (liftT ℓ X.K t)) : PW X (.BoolOp .Or (a :: b :: rest) pos) (liftT ℓ X.K (dOr s t)) := pw_w (pw_or ha hb) or_ok
theorem dt_w (h : PW X a (liftT ℓ X.K s)) : PT X a (liftT ℓ X.K s) := h.pt
theorem dt_not (ha : PT X a (liftT ℓ X.K s)) : PT X (.UnaryOp .Not a pos) (liftT ℓ X.K (dNot s)) := pt_w (pt_not ha) fun σ H Q ⟨O, g, n, ε, P, r, q, k⟩ =>
  ⟨O, g, n, ε, _, r, q, fun b g1 H1 n1 q1 s1 o1 => k (!b) g1 H1 n1 q1 s1 o1⟩
def dAndV (s : DT) (d : DE) : DE := fun n ε P => s n ε fun n1 b => (b = true → d n1 ε P) ∧ (b = false → P n1 (.bl false))
def dOrV (s : DT) (d : DE) : DE := fun n ε P => s n ε fun n1 b => (b = true → P n1 (.bl true)) ∧ (b = false → d n1 ε P)
theorem de_one {op : BoolOp} (h : PE X a (liftE ℓ X.K da)) : PE X (.BoolOp op [a] pos) (liftE ℓ X.K da) := pe_one h
theorem de_and (ha : PE X a (liftE ℓ X.K da)) (hb : PE X (.BoolOp .And (b :: rest) pos) (liftE ℓ X.K db)) : PE X (.BoolOp .And (a :: b :: rest) pos) (liftE ℓ X.K (dAndV (dTB da) db)) :=
  de_of (pe_and ha hb) fun O g H n σ ε P Q r q k => ⟨O, g, n, ε, _, r, q, fun v g1 H1 n1 x q1 s1 o1 e1 => by
    cases x with
    | bl c =>
      cases e1
      refine ⟨c, rfl, ?_⟩
      cases c with
      | true => exact ⟨O, g1, n1, ε, P, r.step s1 o1, q1.1 rfl, fun v2 g2 H2 n2 d2 q2 s2 o2 e2 => k v2 g2 H2 n2 d2 q2 (s1.trans s2) o2 e2⟩
      | false => exact k _ g1 H1 n1 _ (q1.2 rfl) s1 o1 (.bl false)
    | _ => exact q1.elim⟩
theorem de_or (ha : PE X a (liftE ℓ X.K da)) (hb : PE X (.BoolOp .Or (b :: rest) pos) (liftE ℓ X.K db)) : PE X (.BoolOp .Or (a :: b :: rest) pos) (liftE ℓ X.K (dOrV (dTB da) db)) :=
  de_of (pe_or ha hb) fun O g H n σ ε P Q r q k => ⟨O, g, n, ε, _, r, q, fun v g1 H1 n1 x q1 s1 o1 e1 => by
    cases x with
    | bl c =>
      cases e1
      refine ⟨c, rfl, ?_⟩
      cases c with
      | false => exact ⟨O, g1, n1, ε, P, r.step s1 o1, q1.2 rfl, fun v2 g2 H2 n2 d2 q2 s2 o2 e2 => k v2 g2 H2 n2 d2 q2 (s1.trans s2) o2 e2⟩
      | true => exact k _ g1 H1 n1 _ (q1.1 rfl) s1 o1 (.bl true)
    | _ => exact q1.elim⟩
def dIte (t : DT) (da db : DE) : DE := fun n ε P => t n ε fun n1 c => (c = true → da n1 ε P) ∧ (c = false → db n1 ε P)
theorem de_ite (hc : PT X c (liftT ℓ X.K t)) (ha : PE X a (liftE ℓ X.K da)) (hb : PE X b (liftE ℓ X.K db)) : PE X (.IfExp c a b pos) (liftE ℓ X.K (dIte t da db)) :=
  de_of (pe_ifExp hc ha hb) fun O g H n σ ε P Q r q k => ⟨O, g, n, ε, _, r, q, fun c g1 H1 n1 q1 s1 o1 => by
    cases c with
    | true => exact ⟨O, g1, n1, ε, P, r.step s1 o1, q1.1 rfl, fun v2 g2 H2 n2 d2 q2 s2 o2 e2 => k v2 g2 H2 n2 d2 q2 (s1.trans s2) o2 e2⟩
    | false => exact ⟨O, g1, n1, ε, P, r.step s1 o1, q1.2 rfl, fun v2 g2 H2 n2 d2 q2 s2 o2 e2 => k v2 g2 H2 n2 d2 q2 (s1.trans s2) o2 e2⟩⟩
def dChain (go go' : G2) (da db dc : DE) : DE := fun n ε P => da n ε fun n1 x => db n1 ε fun n2 y => go x y fun z => match z with
  | .bl k => (k = true → dc n2 ε fun n3 w => go' y w (P n3)) ∧ (k = false → P n2 (.bl false))
  | _ => False
end
def dNil : DA := fun n _ P => P n []
def dCons (d : DE) (t : DA) : DA := fun n ε P => d n ε fun n1 x => t n1 ε fun n2 xs => P n2 (x :: xs)
def dLst (t : DA) : DE := fun n ε P => t n ε fun n1 xs => xs.length ≤ 16777216 ∧ P n1 (.lst xs)
def dTup (t : DA) : DE := fun n ε P => t n ε fun n1 xs => xs.length ≤ 16777216 ∧ P n1 (.tup xs)
section
variable {X : Cx} {pos : Pos} {e : Expr} {es : List Expr} {d : DE} {t : DA}
theorem da_nil : PA X [] (liftA ℓ X.K dNil) := pa_w pa_nil fun σ H Q ⟨O, g, n, ε, P, r, q, k⟩ => k [] g H n [] q (Stp.refl g H) r.ok .nil
theorem da_cons (ha : PE X e (liftE ℓ X.K d)) (hr : PA X es (liftA ℓ X.K t)) (hs : starEach (e :: es) X.env = (false, eval e X.env) :: starEach es X.env := by rfl) : PA X (e :: es) (liftA ℓ X.K (dCons d t)) :=
  pa_w (pa_cons ha hr hs) fun σ H Q ⟨O, g, n, ε, P, r, q, k⟩ => ⟨O, g, n, ε, _, r, q, fun v1 g1 H1 n1 d1 q1 s1 o1 e1 => ⟨O, g1, n1, ε, _, r.step s1 o1, q1, fun vs g2 H2 n2 ds q2 s2 o2 e2 => k _ g2 H2 n2 _ q2 (s1.trans s2) o2 (.cons (e1.mono s2.ext) e2)⟩⟩
theorem de_lst (h : PA X es (liftA ℓ X.K t)) : PE X (.List es pos) (liftE ℓ X.K (dLst t)) :=
  de_of (pe_lst h) fun O g H n σ ε P Q r q k => ⟨O, g, n, ε, _, r, q, fun vs g1 H1 n1 ds q1 s1 o1 e1 => ⟨by rw [e1.length]; exact sz q1.1, fun p hp => k _ _ _ n1 _ q1.2 (s1.trans (Stp.add o1 hp)) (o1.add hp) (.lst Gh.at (e1.mono (Stp.add o1 hp).ext))⟩⟩
theorem de_tup {x1 : Nat} (h : PA X es (liftA ℓ X.K t)) : PE X (.Tuple es x1 pos) (liftE ℓ X.K (dTup t)) :=
  de_of (pe_tup h) fun O g H n σ ε P Q r q k => ⟨O, g, n, ε, _, r, q, fun vs g1 H1 n1 ds q1 s1 o1 e1 => ⟨by rw [e1.length]; exact sz q1.1, fun p hp => k _ _ _ n1 _ q1.2 (s1.trans (Stp.add o1 hp)) (o1.add hp) (.tup (.inl Gh.at) (e1.mono (Stp.add o1 hp).ext))⟩⟩
end
end Pd
namespace Pd
variable {ℓ : Bool}
open PySem L2
variable {W : WX}
abbrev DO := Nat → Ev → (Nat → List D → Prop) → Prop
def liftO (ℓ : Bool) (K : PySem.W.Frag) (d : DO) : TE := fun σ H Q => ∃ O g n ε P, Rp ℓ K O g H n σ ε ∧ d n ε P ∧ ∀ p vs g' H' n' ds, P n' ds → Stp g H g' H' → Ok ℓ K g' H' n' → H p = none → g'.G p = none → ¬ g'.pot p → H' p = some (.lst vs) → Dens K g' vs ds → Q (.ref p) H'
def dO (d : DO) : DE := fun n ε P => d n ε fun n' ds => P n' (.lst ds)
def dLstO (t : DA) : DO := fun n ε P => t n ε fun n1 xs => xs.length ≤ 16777216 ∧ P n1 xs
theorem new_own {K : PySem.W.Frag} {g : Gh} {H : Hp} {n : Nat} (ok : Ok ℓ K g H n) {p : Addr} (hp : H p = none) (o : HO) (ho : ∀ ps, o ≠ .tbl ps := by (intro ps z; cases z)) : Stp g H g (upd H p o) ∧ Ok ℓ K g (upd H p o) n ∧ g.G p = none ∧ ¬ g.pot p := by
  have h1 := ok.gnone hp
  have h2 := ok.npot hp
  refine ⟨⟨Ext.refl g, fun _ _ z => z, fun _ _ z => z, fun a u e _ => ?_, fun a d => ?_⟩, ⟨fun a u e => ?_, fun a z => ?_, ok.t.new hp ho, ok.cel.step (Ext.refl g) fun a C m => upd_ne fun q => (ok.cel.mem m).1 |> fun z => h2 (by rw [← q]; exact z)⟩, h1, h2⟩
  · rw [upd_ne (ne_of_none e hp)]
    exact e
  · rw [upd_ne fun q => d (by rw [q]; exact hp)]
    exact d
  · rw [upd_ne (ne_of_none e h1)]
    exact ok.sub a u e
  · rw [upd_ne fun q => h2 (by rw [← q]; exact z)]
    exact ok.pot a z
section
variable {X : Cx} {pos : Pos} {e : Expr} {es : List Expr} {d : DO} {t : DA}
theorem do_lst (h : PA X es (liftA ℓ X.K t)) : PE X (.List es pos) (liftO ℓ X.K (dLstO t)) :=
  pe_w (pe_lst h) fun σ H Q ⟨O, g, n, ε, P, r, q, k⟩ => ⟨O, g, n, ε, _, r, q, fun vs g1 H1 n1 ds q1 s1 o1 e1 => ⟨by rw [e1.length]; exact sz q1.1, fun p hp => by
    obtain ⟨z1, z2, z3, z4⟩ := new_own o1 hp (.lst vs)
    have hp0 : H p = none := by
      cases w : H p with
      | none => rfl
      | some u => exact absurd hp (s1.dom p (by rw [w]; exact Option.some_ne_none u))
    exact k p vs g1 _ n1 ds q1.2 (s1.trans z1) z2 hp0 z3 z4 upd_same e1⟩⟩
theorem de_own (h : PE X e (liftO ℓ X.K d)) : PE X e (liftE ℓ X.K (dO d)) :=
  pe_w h fun σ H Q ⟨O, g, n, ε, P, r, q, k⟩ => ⟨O, g, n, ε, _, r, q, fun p vs g' H' n' ds q1 s1 o1 h0 h1 h2 h3 h4 => by
    have ex : Ext g' (g'.add p (.lst vs)) := Ext.addOld h1
    have st : Stp g H (g'.add p (.lst vs)) H' := ⟨s1.ext.trans ex, fun a dd z => by
      show upd g'.G p (.lst vs) a = none
      rw [upd_ne fun w => dd (by rw [w]; exact h0)]
      exact s1.gro a dd z, s1.grp, s1.kep, s1.dom⟩
    exact k _ _ H' n' _ q1 st (o1.addOld h3 h2) (.lst Gh.at (h4.mono ex))⟩
end
abbrev DB := Nat → Ev → (Nat → List Sl → Prop) → Prop
inductive Sls (K : PySem.W.Frag) (g : Gh) (H0 H : Hp) : List V → List Sl → Prop
  | nil : Sls K g H0 H [] []
  | val {v : V} {d : D} {vs : List V} {ss : List Sl} : Den K g v d → Sls K g H0 H vs ss → Sls K g H0 H (v :: vs) (.val d :: ss)
  | own {p : Addr} {o : HO} {d : List D} {vs : List V} {ss : List Sl} : H0 p = none → g.G p = none → ¬ g.pot p → H p = some o → OwnH K g (.lst d) o → (∀ (i : Nat) (d' : OD), ss[i]? = some (.own d') → vs[i]? ≠ some (.ref p)) → Sls K g H0 H vs ss → Sls K g H0 H (.ref p :: vs) (.own (.lst d) :: ss)
def liftB (ℓ : Bool) (K : PySem.W.Frag) (d : DB) : TA := fun σ H Q => ∃ O g n ε P, Rp ℓ K O g H n σ ε ∧ d n ε P ∧ ∀ vs g' H' n' ss, P n' ss → Stp g H g' H' → Ok ℓ K g' H' n' → Sls K g' H H' vs ss → Q vs H'
section
variable {K : PySem.W.Frag} {g g' : Gh} {H0 H1 H H' : Hp}
theorem Sls.length : ∀ {vs : List V} {ss : List Sl}, Sls K g H0 H vs ss → vs.length = ss.length
  | _, _, .nil => rfl
  | _, _, .val _ t => congrArg Nat.succ (Sls.length t)
  | _, _, .own _ _ _ _ _ _ t => congrArg Nat.succ (Sls.length t)
theorem Sls.back (h : ∀ p, H1 p = none → H0 p = none) : ∀ {vs : List V} {ss : List Sl}, Sls K g H1 H vs ss → Sls K g H0 H vs ss
  | _, _, .nil => .nil
  | _, _, .val a t => .val a (Sls.back h t)
  | _, _, .own a b c d e f t => .own (h _ a) b c d e f (Sls.back h t)
theorem Sls.fresh : ∀ {vs : List V} {ss : List Sl} {i : Nat} {d : OD} {p : Addr}, Sls K g H0 H vs ss → ss[i]? = some (.own d) → vs[i]? = some (.ref p) → H0 p = none
  | _, _, _, _, _, .nil, e, _ => by simp at e
  | _, _, 0, _, _, .val _ _, e, _ => by simp at e
  | _, _, i + 1, _, _, .val _ t, e, q => Sls.fresh (i := i) t (by simpa using e) (by simpa using q)
  | _, _, 0, _, _, .own a _ _ _ _ _ _, _, q => by
    simp at q
    rw [← q]
    exact a
  | _, _, i + 1, _, _, .own _ _ _ _ _ _ t, e, q => Sls.fresh (i := i) t (by simpa using e) (by simpa using q)
end
theorem Stp.back0 {g g' : Gh} {H H' : Hp} (s : Stp g H g' H') {p : Addr} (h : H' p = none) : H p = none := by
  cases w : H p with
  | none => rfl
  | some u => exact absurd h (s.dom p (by rw [w]; exact Option.some_ne_none u))
def bNil : DB := fun n _ P => P n []
def bCons (d : DE) (t : DB) : DB := fun n ε P => d n ε fun n1 x => t n1 ε fun n2 xs => P n2 (.val x :: xs)
def bOwn (d : DO) (t : DB) : DB := fun n ε P => d n ε fun n1 x => t n1 ε fun n2 xs => P n2 (.own (.lst x) :: xs)
section
variable {X : Cx} {pos : Pos} {e : Expr} {es : List Expr} {d : DE} {o : DO} {t : DB}
theorem db_nil : PA X [] (liftB ℓ X.K bNil) := pa_w pa_nil fun σ H Q ⟨O, g, n, ε, P, r, q, k⟩ => k [] g H n [] q (Stp.refl g H) r.ok .nil
theorem db_cons (ha : PE X e (liftE ℓ X.K d)) (hr : PA X es (liftB ℓ X.K t)) (hs : starEach (e :: es) X.env = (false, eval e X.env) :: starEach es X.env := by rfl) : PA X (e :: es) (liftB ℓ X.K (bCons d t)) :=
  pa_w (pa_cons ha hr hs) fun σ H Q ⟨O, g, n, ε, P, r, q, k⟩ => ⟨O, g, n, ε, _, r, q, fun v1 g1 H1 n1 d1 q1 s1 o1 e1 => ⟨O, g1, n1, ε, _, r.step s1 o1, q1, fun vs g2 H2 n2 ds q2 s2 o2 e2 =>
    k _ g2 H2 n2 _ q2 (s1.trans s2) o2 (.val (e1.mono s2.ext) (e2.back fun p z => s1.back0 z))⟩⟩
end
def setV (σ : L2.St) : List Nat → List V → L2.St
  | [], _ => σ
  | _ :: _, [] => σ
  | i :: is, v :: vs => setV (σ.set i (some v)) is vs
def setL (ε : Ev) : List Nat → List Sl → Ev
  | [], _ => ε
  | _ :: _, [] => ε
  | i :: is, s :: ss => setL (ε.set i s) is ss
theorem setV_nil {σ : L2.St} {vs : List V} : setV σ [] vs = σ := by cases vs <;> rfl
theorem setL_nil {ε : Ev} {ss : List Sl} : setL ε [] ss = ε := by cases ss <;> rfl
section
variable {K : PySem.W.Frag} {O : OD → Addr → Prop} {g : Gh} {H Hb : Hp} {n : Nat}
theorem Rp.setOwn {σ : L2.St} {ε : Ev} (r : Rp ℓ K O g H n σ ε) {i : Nat} {p : Addr} {o : HO} {d : OD} (ho : O d p) (h1 : g.G p = none) (h2 : ¬ g.pot p) (h3 : H p = some o) (h4 : OwnH K g d o)
    (h5 : ∀ (j : Nat) (d' : OD), ε[j]? = some (.own d') → σ[j]? ≠ some (some (.ref p))) : Rp ℓ K O g H n (σ.set i (some (.ref p))) (ε.set i (.own d)) := by
  refine ⟨r.ok, by rw [List.length_set, List.length_set]; exact r.len, fun j s e => ?_, fun j k q ds es hjk e1 e2 e3 e4 => ?_⟩
  · by_cases q : i = j
    · subst q
      have hl : i < ε.length := by
        rcases Nat.lt_or_ge i ε.length with z | z
        · exact z
        · rw [List.getElem?_eq_none (by rw [List.length_set]; exact z)] at e
          cases e
      rw [List.getElem?_set_self hl] at e
      cases e
      exact ⟨p, o, List.getElem?_set_self (by rw [r.len]; exact hl), ho, h1, h2, h3, h4⟩
    · rw [List.getElem?_set_ne q] at e ⊢
      exact r.sl j s e
  · by_cases a : i = j
    · subst a
      have hk : i ≠ k := hjk
      rw [List.getElem?_set_ne hk] at e2 e4
      have hl : i < σ.length := by
        rcases Nat.lt_or_ge i σ.length with z | z
        · exact z
        · rw [List.getElem?_eq_none (by rw [List.length_set]; exact z)] at e3
          cases e3
      rw [List.getElem?_set_self hl] at e3
      cases e3
      exact h5 k _ e2 e4
    · rw [List.getElem?_set_ne a] at e1 e3
      by_cases b : i = k
      · subst b
        have hl : i < σ.length := by
          rcases Nat.lt_or_ge i σ.length with z | z
          · exact z
          · rw [List.getElem?_eq_none (by rw [List.length_set]; exact z)] at e4
            cases e4
        rw [List.getElem?_set_self hl] at e4
        cases e4
        exact h5 j _ e1 e3
      · rw [List.getElem?_set_ne b] at e2 e4
        exact r.dis j k q ds es hjk e1 e2 e3 e4
theorem Rp.mut {σ : L2.St} {ε : Ev} (r : Rp ℓ K O g H n σ ε) {i : Nat} {p : Addr} {o : HO} {d d' : OD} (e : ε[i]? = some (.own d)) (e1 : σ[i]? = some (some (.ref p))) (h4 : OwnH K g d' o) (hO : O d p → O d' p) :
    Rp ℓ K O g (upd H p o) n σ (ε.set i (.own d')) := by
  obtain ⟨p', o', e1', ho, h1, h2, h3, hl0⟩ := r.sl i _ e
  rw [e1] at e1'
  cases e1'
  have hl : i < ε.length := (List.getElem?_eq_some_iff.mp e).1
  refine ⟨⟨fun a u q => ?_, fun a z => ?_, r.ok.t.upd (fun u z => ?_) h4.lite.nt, r.ok.cel.step (Ext.refl g) fun a C m => upd_ne fun w => h2 (by rw [← w]; exact (r.ok.cel.mem m).1)⟩, by rw [List.length_set]; exact r.len, fun j s q => ?_, fun j k q ds es hjk e2 e3 e4 e5 => ?_⟩
  · rw [upd_ne (ne_of_none q h1)]
    exact r.ok.sub a u q
  · rw [upd_ne fun w => h2 (by rw [← w]; exact z)]
    exact r.ok.pot a z
  · rw [h3] at z
    cases z
    exact hl0.lite
  · by_cases w : i = j
    · subst w
      rw [List.getElem?_set_self hl] at q
      cases q
      exact ⟨p, o, e1, hO ho, h1, h2, upd_same, h4⟩
    · rw [List.getElem?_set_ne w] at q
      have z := r.sl j s q
      cases s with
      | no => trivial
      | val d => exact z
      | own d =>
        obtain ⟨p2, o2, w1, w2, w3, w4, w5, w6⟩ := z
        refine ⟨p2, o2, w1, w2, w3, w4, ?_, w6⟩
        rw [upd_ne fun z => r.dis i j p _ _ w e q e1 (by rw [← z]; exact w1)]
        exact w5
  · have back : ∀ {m : Nat} {f : OD}, (ε.set i (.own d'))[m]? = some (.own f) → ∃ f', ε[m]? = some (.own f') := fun {m f} z => by
      by_cases w : i = m
      · subst w
        exact ⟨d, e⟩
      · rw [List.getElem?_set_ne w] at z
        exact ⟨f, z⟩
    obtain ⟨f1, z1⟩ := back e2
    obtain ⟨f2, z2⟩ := back e3
    exact r.dis j k q f1 f2 hjk z1 z2 e4 e5
theorem Stp.mut {g0 : Gh} {H0 : Hp} (s : Stp g0 H0 g H) {p : Addr} {o : HO} (h : H0 p = none) : Stp g0 H0 g (upd H p o) :=
  ⟨s.ext, s.gro, s.grp, fun a u q z => by
    rw [upd_ne (ne_of_none q h)]
    exact s.kep a u q z, fun a q => by
    rw [upd_ne fun w => q (by rw [w]; exact h)]
    exact s.dom a q⟩
theorem Rp.setLs : ∀ (is : List Nat) {vs : List V} {ss : List Sl} {σ : L2.St} {ε : Ev}, Rp ℓ K O g H n σ ε → Sls K g Hb H vs ss → (∀ ds p, Hb p = none → O (.lst ds) p) →
    (∀ (i : Nat) (d : OD) (p : Addr) (j : Nat) (d' : OD), ε[i]? = some (.own d) → σ[i]? = some (some (.ref p)) → ss[j]? = some (.own d') → vs[j]? ≠ some (.ref p)) → Rp ℓ K O g H n (setV σ is vs) (setL ε is ss)
  | [], _, _, _, _, r, _, _, _ => by
    rw [setV_nil, setL_nil]
    exact r
  | i :: is, _, _, σ, ε, r, .nil, _, _ => r
  | i :: is, _, _, σ, ε, r, .val (v := v) (d := d) (vs := vs) (ss := ss) h t, hO, ap => by
    refine Rp.setLs is (r.set h) t hO fun i' d1 p j d' e1 e2 e3 => ?_
    by_cases w : i = i'
    · subst w
      rw [List.getElem?_set] at e1
      simp at e1
    · rw [List.getElem?_set_ne w] at e1 e2
      have z := ap i' d1 p (j + 1) d' e1 e2 (by simpa using e3)
      simpa using z
  | i :: is, _, _, σ, ε, r, .own (p := p) (o := o) (d := d) (vs := vs) (ss := ss) a b c e f nx t, hO, ap => by
    refine Rp.setLs is (r.setOwn (hO d p a) b c e f fun j d' z w => ?_) t hO fun i' d1 q j d' e1 e2 e3 => ?_
    · exact ap j d' p 0 (.lst d) z w rfl rfl
    · by_cases w : i = i'
      · subst w
        have hl : i < σ.length := by
          rcases Nat.lt_or_ge i σ.length with z | z
          · exact z
          · rw [List.getElem?_eq_none (by rw [List.length_set]; exact z)] at e2
            cases e2
        rw [List.getElem?_set_self hl] at e2
        cases e2
        exact nx j d' e3
      · rw [List.getElem?_set_ne w] at e1 e2
        have z := ap i' d1 q (j + 1) d' e1 e2 (by simpa using e3)
        simpa using z
end
def dSeq (s t : DS) : DS := fun N n ε => s { N with nx := t N } n ε
def dNx : DS := fun N n ε => N.nx n ε
def dBrk : DS := fun N n ε => N.bk n ε
def dNev : DS := fun _ _ _ => False
def dDrop (d : DE) : DS := fun N n ε => d n ε fun n1 _ => N.nx n1 ε
def dRet (d : DE) : DS := fun N n ε => d n ε N.rt
def dRetN : DS := fun N n _ => N.rt n .non
def dIf (t : DT) (a b : DS) : DS := fun N n ε => t n ε fun n1 c => (c = true → a N n1 ε) ∧ (c = false → b N n1 ε)
def dSet (i : Nat) (d : DE) : DS := fun N n ε => d n ε fun n1 r => N.nx n1 (ε.set i (.val r))
def dMul (is : List Nat) (t : DB) : DS := fun N n ε => t n ε fun n1 ss => ss.length = is.length ∧ N.nx n1 (setL ε is ss)
def dFrz (is : List Nat) (s : DS) : DS := fun N n ε => s N n (is.foldl frzE ε)
section
variable {X : Cx} {pos : Pos} {e c : Expr} {es : List Expr} {st : Stmt} {rest a b : List Stmt} {d : DE} {s t : DS} {u : DT} {tb : DB}
theorem dss_nil : PSs X [] (liftS ℓ W X.K dNx) := pss_w pss_nil fun E σ H ⟨U, g0, H0, g, n, ε, N, uo, r, s0, q, k1, k2, k3, k4⟩ => k1 σ g H n ε q r s0
theorem dss_cons (h1 : PS X st (liftS ℓ W X.K s)) (h2 : PSs X rest (liftS ℓ W X.K t)) : PSs X (st :: rest) (liftS ℓ W X.K (dSeq s t)) :=
  pss_w (pss_cons h1 h2) fun E σ H ⟨U, g0, H0, g, n, ε, N, uo, r, s0, q, k1, k2, k3, k4⟩ =>
    ⟨U, g0, H0, g, n, ε, { N with nx := t N }, uo, r, s0, q, fun σ' g' H' n' ε' q' r' s' => ⟨U, g0, H0, g', n', ε', N, uo, r', s', q', k1, k2, k3, k4⟩, k2, k3, k4⟩
theorem dss_one (h1 : PS X st (liftS ℓ W X.K s)) : PSs X [st] (liftS ℓ W X.K s) := pss_one h1
theorem ds_break : PS X (.Break pos) (liftS ℓ W X.K dBrk) := ps_w ps_break fun E σ H ⟨U, g0, H0, g, n, ε, N, uo, r, s0, q, k1, k2, k3, k4⟩ => k2 σ g H n ε q r s0
theorem ds_never : PS X st (liftS ℓ W X.K dNev) := ps_w ps_never fun E σ H ⟨U, g0, H0, g, n, ε, N, uo, r, s0, q, k1, k2, k3, k4⟩ => q
theorem ds_ret (he : PE X e (liftE ℓ X.K d)) : PS X (.Return (some e) pos) (liftS ℓ W X.K (dRet d)) :=
  ps_w (ps_ret he) fun E σ H ⟨U, g0, H0, g, n, ε, N, uo, r, s0, q, k1, k2, k3, k4⟩ => ⟨_, g, n, ε, _, r, q, fun v g1 H1 n1 x q1 s1 o1 e1 => k4.1 v g1 H1 n1 x q1 (s0.trans s1) o1 e1⟩
theorem ds_if (hc : PT X c (liftT ℓ X.K u)) (ha : PSs X a (liftS ℓ W X.K s)) (hb : PSs X b (liftS ℓ W X.K t)) : PS X (.If c a b pos) (liftS ℓ W X.K (dIf u s t)) :=
  ps_w (ps_if hc ha hb) fun E σ H ⟨U, g0, H0, g, n, ε, N, uo, r, s0, q, k1, k2, k3, k4⟩ => ⟨_, g, n, ε, _, r, q, fun b g1 H1 n1 q1 s1 o1 => by
    cases b with
    | true => exact ⟨U, g0, H0, g1, n1, ε, N, uo, r.step s1 o1, s0.trans s1, q1.1 rfl, k1, k2, k3, k4⟩
    | false => exact ⟨U, g0, H0, g1, n1, ε, N, uo, r.step s1 o1, s0.trans s1, q1.2 rfl, k1, k2, k3, k4⟩⟩
theorem ds_set {i : Nat} {x : Str} {pos' : Pos} (hN : X.N.Nodup) (hi : X.N[i]? = some x) (hx : Loc X.env.scope x) (he : PE X e (liftE ℓ X.K d)) (hs : swapsWith e (some (.Name x pos')) pos.line X.env = pure false := by rfl)
    (hf : X.fn x = true ∨ X.env.scope.names.lookup x = some .local := by first | exact .inl rfl | exact .inr rfl | assumption) : PS X (.Assign [.Name x pos'] e pos) (liftS ℓ W X.K (dSet i d)) :=
  ps_w (ps_set hN hi hx he hs hf) fun E σ H ⟨U, g0, H0, g, n, ε, N, uo, r, s0, q, k1, k2, k3, k4⟩ => ⟨_, g, n, ε, _, r, q, fun v g1 H1 n1 x q1 s1 o1 e1 => k1 _ g1 H1 n1 _ q1 ((r.step s1 o1).set e1) (s0.trans s1)⟩
def dSetO (i : Nat) (d : DO) : DS := fun N n ε => d n ε fun n1 ds => N.nx n1 (ε.set i (.own (.lst ds)))
theorem ds_setO {i : Nat} {x : Str} {pos' : Pos} {o : DO} (hN : X.N.Nodup) (hi : X.N[i]? = some x) (hx : Loc X.env.scope x) (he : PE X e (liftO ℓ X.K o)) (hs : swapsWith e (some (.Name x pos')) pos.line X.env = pure false := by rfl)
    (hf : X.fn x = true ∨ X.env.scope.names.lookup x = some .local := by first | exact .inl rfl | exact .inr rfl | assumption) : PS X (.Assign [.Name x pos'] e pos) (liftS ℓ W X.K (dSetO i o)) :=
  ps_w (ps_set hN hi hx he hs hf) fun E σ H ⟨U, g0, H0, g, n, ε, N, uo, r, s0, q, k1, k2, k3, k4⟩ => ⟨_, g, n, ε, _, r, q, fun p vs g1 H1 n1 ds q1 s1 o1 h0 h1 h2 h3 h4 =>
    k1 _ g1 H1 n1 _ q1 ((r.step s1 o1).setOwn ⟨s0.back0 h0, uo.lst _ _⟩ h1 h2 h3 ⟨vs, rfl, h4⟩ fun j d' z w => by
      obtain ⟨p', o', w1, _, _, _, w5, _⟩ := r.sl j _ z
      rw [w] at w1
      cases w1
      rw [h0] at w5
      cases w5) (s0.trans s1)⟩
theorem mul_ok {is : List Nat} {E : Ends} {σ : L2.St} {H : Hp} (h : liftS ℓ W X.K (dMul is tb) E σ H) : liftB ℓ X.K tb σ H fun vs H1 => vs.length = is.length ∧ E.nx (setV σ is vs) H1 := by
  obtain ⟨U, g0, H0, g, n, ε, N, uo, r, s0, q, k1, k2, k3, k4⟩ := h
  refine ⟨_, g, n, ε, _, r, q, fun vs g1 H1 n1 ss q1 s1 o1 e1 => ⟨by rw [e1.length]; exact q1.1, k1 _ g1 H1 n1 _ q1.2 ((r.step s1 o1).setLs is e1 (fun ds p z => ⟨s0.back0 z, uo.lst _ _⟩) fun i d p j d' w1 w2 w3 w4 => ?_) (s0.trans s1)⟩⟩
  obtain ⟨p', o', x1, _, _, _, x5, _⟩ := r.sl i _ w1
  rw [w2] at x1
  cases x1
  rw [e1.fresh w3 w4] at x5
  cases x5
theorem dss_frz (is : List Nat) (h : PSs X rest (liftS ℓ W X.K s)) : PSs X rest (liftS ℓ W X.K (dFrz is s)) :=
  pss_w h fun E σ H ⟨U, g0, H0, g, n, ε, N, uo, r, s0, q, k1, k2, k3, k4⟩ => by
    have z : ∀ (is : List Nat) (g : Gh) (ε : Ev), Rp ℓ X.K (fun d p => H0 p = none ∧ U d p) g H n σ ε → Stp g0 H0 g H → ∃ g', Rp ℓ X.K (fun d p => H0 p = none ∧ U d p) g' H n σ (is.foldl frzE ε) ∧ Stp g0 H0 g' H := fun is => by
      induction is with
      | nil => exact fun g ε r s => ⟨g, r, s⟩
      | cons i is ih =>
        intro g ε r s
        obtain ⟨g1, s1, r1⟩ := r.freeze s i
        exact ih g1 _ r1 s1
    obtain ⟨g1, r1, s1⟩ := z is g ε r s0
    exact ⟨U, g0, H0, g1, n, _, N, uo, r1, s1, q, k1, k2, k3, k4⟩
end
end Pd
namespace Pd
variable {ℓ : Bool}
open PySem L2
variable {W : WX}
abbrev DG := D → Ev → (Ev → Prop) → Prop
abbrev DGs := List D → Ev → (Ev → Prop) → Prop
def gNm (i : Nat) : DG := fun d ε P => P (ε.set i (.val d))
def gsNil : DGs := fun ds ε P => match ds with
  | [] => P ε
  | _ :: _ => False
def gsCons (g : DG) (gs : DGs) : DGs := fun ds ε P => match ds with
  | [] => False
  | d :: ds => g d ε fun ε' => gs ds ε' P
def gTp (n : Nat) (gs : DGs) : DG := fun d ε P => match d with
  | .tup ds => ds.length = n ∧ gs ds ε P
  | .lst ds => ds.length = n ∧ gs ds ε P
  | .tupK ds => ds.length = n ∧ gs ds ε P
  | _ => False
def Only (ws : List Nat) (σ σ' : L2.St) : Prop := σ'.length = σ.length ∧ ∀ j, j ∉ ws → σ'[j]? = σ[j]?
theorem Only.refl (ws : List Nat) (σ : L2.St) : Only ws σ σ := ⟨rfl, fun _ _ => rfl⟩
theorem Only.trans {ws ws' : List Nat} {σ σ1 σ2 : L2.St} (a : Only ws σ σ1) (b : Only ws' σ1 σ2) : Only (ws ++ ws') σ σ2 :=
  ⟨b.1.trans a.1, fun j h => (b.2 j fun z => h (List.mem_append_right _ z)).trans (a.2 j fun z => h (List.mem_append_left _ z))⟩
theorem wipe_at (σ : L2.St) : ∀ (vs : List Nat) (j : Nat), (wipe σ vs)[j]? = if j ∈ vs ∧ j < σ.length then some none else σ[j]?
  | [], j => by simp [wipe]
  | v :: vs, j => by
    unfold wipe
    rw [List.getElem?_set]
    by_cases h : v = j
    · subst h
      rw [if_pos rfl, wipe_length]
      by_cases q : v < σ.length
      · rw [if_pos q, if_pos ⟨List.mem_cons_self, q⟩]
      · rw [if_neg q, if_neg fun z => q z.2, List.getElem?_eq_none (Nat.le_of_not_lt q)]
    · rw [if_neg h, wipe_at σ vs j]
      have e : (j ∈ v :: vs) ↔ j ∈ vs := ⟨fun z => (List.mem_cons.mp z).elim (fun z => absurd z.symm h) id, List.mem_cons_of_mem _⟩
      simp only [e]
theorem Only.wipe {ws vs : List Nat} {σ σ' : L2.St} (h : Only ws σ σ') (s : ∀ i ∈ ws, i ∈ vs) : wipe σ' vs = wipe σ vs := by
  apply List.ext_getElem?
  intro j
  rw [wipe_at, wipe_at, h.1]
  by_cases q : j ∈ vs
  · by_cases r : j < σ.length
    · rw [if_pos ⟨q, r⟩, if_pos ⟨q, r⟩]
    · rw [if_neg fun z => r z.2, if_neg fun z => r z.2, List.getElem?_eq_none (by rw [h.1]; exact Nat.le_of_not_lt r), List.getElem?_eq_none (Nat.le_of_not_lt r)]
  · rw [if_neg fun z => q z.1, if_neg fun z => q z.1]
    exact h.2 j fun z => q (s j z)
theorem wipe_idem (σ : L2.St) (vs : List Nat) : wipe (wipe σ vs) vs = wipe σ vs := by
  apply List.ext_getElem?
  intro j
  rw [wipe_at, wipe_at, wipe_length]
  by_cases q : j ∈ vs ∧ j < σ.length
  · rw [if_pos q, if_pos q]
  · rw [if_neg q, if_neg q]
def liftG (ℓ : Bool) (K : PySem.W.Frag) (ws : List Nat) (dg : DG) : TG := fun v σ H Q => ∃ O g n ε d P, Rp ℓ K O g H n σ ε ∧ Den K g v d ∧ dg d ε P ∧ ∀ σ' ε', P ε' → Rp ℓ K O g H n σ' ε' → Only ws σ σ' → Q σ' H
def liftGs (ℓ : Bool) (K : PySem.W.Frag) (ws : List Nat) (dg : DGs) : TGs := fun vs σ H Q => ∃ O g n ε ds P, Rp ℓ K O g H n σ ε ∧ Dens K g vs ds ∧ dg ds ε P ∧ ∀ σ' ε', P ε' → Rp ℓ K O g H n σ' ε' → Only ws σ σ' → Q σ' H
section
variable {X : Cx} {pos : Pos} {e : Expr} {es : List Expr} {ws ws' : List Nat} {dg : DG} {dgs : DGs}
theorem pg_w {t t' : TG} (h : PG X e t) (w : ∀ v σ H Q, t' v σ H Q → t v σ H Q) : PG X e t' := ⟨fun pins s σ H v u Q I r q => h.run pins s σ H v u Q I r (w v σ H Q q)⟩
theorem pgs_w {t t' : TGs} (h : PGs X es t) (w : ∀ v σ H Q, t' v σ H Q → t v σ H Q) : PGs X es t' := ⟨fun pins s σ H v u Q I r q => h.run pins s σ H v u Q I r (w v σ H Q q)⟩
theorem pg_or {t t' : TG} (h : PG X e t) (h' : PG X e t') : PG X e (fun v σ H Q => t v σ H Q ∨ t' v σ H Q) := ⟨fun pins s σ H v u Q I r q => q.elim (h.run pins s σ H v u Q I r) (h'.run pins s σ H v u Q I r)⟩
theorem dg_nm {i : Nat} {x : Str} (hN : X.N.Nodup) (hi : X.N[i]? = some x) (hx : Loc X.env.scope x) (hf : X.fn x = true ∨ X.env.scope.names.lookup x = some .local := by first | exact .inl rfl | exact .inr rfl | assumption) : PG X (.Name x pos) (liftG ℓ X.K [i] (gNm i)) :=
  pg_w (pg_name hN hi hx hf) fun v σ H Q ⟨O, g, n, ε, d, P, r, dd, q, k⟩ => k _ _ q (r.set dd) ⟨List.length_set, fun j h => List.getElem?_set_ne fun z => h (by rw [z]; exact List.mem_singleton.mpr rfl)⟩
theorem gs_nil : PGs X [] (liftGs ℓ X.K [] gsNil) :=
  pgs_w pgs_nil fun v σ H Q ⟨O, g, n, ε, d, P, r, dd, q, k⟩ => by
    cases dd with
    | nil => exact ⟨rfl, k _ _ q r (Only.refl _ _)⟩
    | cons _ _ => exact q.elim
theorem gs_cons (h1 : PG X e (liftG ℓ X.K ws dg)) (h2 : PGs X es (liftGs ℓ X.K ws' dgs)) (hs : (assignEach (e :: es) X.env).map (·.2) = assign e X.env :: (assignEach es X.env).map (·.2) := by rfl) : PGs X (e :: es) (liftGs ℓ X.K (ws ++ ws') (gsCons dg dgs)) :=
  pgs_w (pgs_cons h1 h2 hs) fun v σ H Q ⟨O, g, n, ε, d, P, r, dd, q, k⟩ => by
    cases dd with
    | nil => exact q.elim
    | cons d1 dt => exact ⟨_, _, rfl, O, g, n, ε, _, _, r, d1, q, fun σ1 ε1 q1 r1 o1 => ⟨O, g, n, ε1, _, P, r1, dt, q1, fun σ2 ε2 q2 r2 o2 => k σ2 ε2 q2 r2 (o1.trans o2)⟩⟩
theorem dg_tup {k n : Nat} (hc : X.calm = true) (h : PGs X es (liftGs ℓ X.K ws dgs)) (hn : (assignEach es X.env).length = n := by rfl) (hst : (assignEach es X.env).findIdx? (·.1) = none := by rfl) : PG X (.Tuple es k pos) (liftG ℓ X.K ws (gTp n dgs)) :=
  pg_w (pg_or (pg_tup hc h hn hst) (pg_unl hc h hn hst)) fun v σ H Q ⟨O, g, m, ε, d, P, r, dd, q, k⟩ => by
    cases dd with
    | tup h1 h2 => exact .inl ⟨_, _, rfl, Or.inl (h1.same r.ok.sub), h2.length.trans q.1, O, g, m, ε, _, P, r, h2, q.2, k⟩
    | lst h1 h2 => exact .inr ⟨_, _, rfl, SqL.of (r.ok.sub _ _ h1), h2.length.trans q.1, O, g, m, ε, _, P, r, h2, q.2, k⟩
    | tupK h1 h2 => exact .inl ⟨_, _, rfl, h1 _, h2.length.trans q.1, O, g, m, ε, _, P, r, h2, q.2, k⟩
    | _ => exact q.elim
end
def dAsg (d : DE) (dg : DG) : DS := fun N n ε => d n ε fun n1 r => dg r ε fun ε' => N.nx n1 ε'
section
variable {X : Cx} {pos : Pos} {e e2 e3 tg : Expr} {es ts : List Expr} {ws : List Nat} {dg : DG} {d : DE} {tb : DB}
theorem ds_par {i j : Nat} {x y : Str} {a b : Expr} {px py pt : Pos} {kt k2 : Nat} {pt2 : Pos} (hc : X.calm = true) (hN : X.N.Nodup) (hi : X.N[i]? = some x) (hj : X.N[j]? = some y) (hij : i ≠ j)
    (hx : X.env.scope.names.lookup x = some .local) (hy : X.env.scope.names.lookup y = some .local) (ha : PA X [a, b] (liftB ℓ X.K tb))
    (hw : swappedStores [.Tuple [.Name x px, .Name y py] kt pt] (.Tuple [a, b] k2 pt2) X.env = pure (some [x, y]) := by rfl)
    (hs : swapsWithSole [.Tuple [.Name x px, .Name y py] kt pt] (.Tuple [a, b] k2 pt2) pos.line X.env = pure false := by rfl) :
    PS X (.Assign [.Tuple [.Name x px, .Name y py] kt pt] (.Tuple [a, b] k2 pt2) pos) (liftS ℓ W X.K (dMul [i, j] tb)) :=
  ps_w (ps_par hc hN hi hj hij hx hy ha hw hs) fun E σ H h => by
    obtain ⟨O, g, n, ε, P, r, q, k⟩ := mul_ok h
    refine ⟨O, g, n, ε, P, r, q, fun vs g' H' n' ss a b c d => ?_⟩
    obtain ⟨h1, h2⟩ := k vs g' H' n' ss a b c d
    match vs, h1, h2 with
    | [v, w], _, h2 => exact ⟨v, w, rfl, h2⟩
end
abbrev DI := Nat → Ev → (Nat → List D → Prop) → Prop
structure WalkD (ℓ : Bool) (K : PySem.W.Frag) (g : Gh) (J : It) (xs : List D) : Prop where
  go : ∀ i H, i < xs.length → Same g.G H → J.go i H
  stop : ∀ H, Same g.G H → J.stop xs.length H
  yld : ∀ i x H H' g1 n, i < xs.length → Ext g g1 → Ok ℓ K g1 H n → J.yld i H x H' → ∃ g2 d, xs[i]? = some d ∧ Stp g1 H g2 H' ∧ Ok ℓ K g2 H' n ∧ Den K g2 x d
def liftI (ℓ : Bool) (K : PySem.W.Frag) (di : DI) : TI := fun σ H R => ∃ O g n ε P, Rp ℓ K O g H n σ ε ∧ di n ε P ∧ ∀ J g' H' n' xs, P n' xs → Stp g H g' H' → Ok ℓ K g' H' n' → WalkD ℓ K g' J xs → R J H'
def forW (dg : DG) (b : DS) (N : DN) : List D → Nat → Ev → Prop
  | [], n, ε => N.nx n ε
  | x :: xs, n, ε => dg x ε fun ε' => b { N with nx := fun n' ε'' => forW dg b N xs n' ε'', ct := fun n' ε'' => forW dg b N xs n' ε'', bk := N.nx } n ε'
def dFor (di : DI) (dg : DG) (b : DS) : DS := fun N n ε => di n ε fun n1 xs => forW dg b N xs n1 ε
theorem snap {K : PySem.W.Frag} {U : OD → Addr → Prop} {g0 g : Gh} {H0 H : Hp} (s : Stp g0 H0 g H) : ∃ Hs : Hp, Stp g Hs g H ∧ (∀ n σ ε, Rp ℓ K (fun d p => H0 p = none ∧ U d p) g H n σ ε → Rp ℓ K (fun d p => Hs p = none ∧ U d p) g H n σ ε) ∧
    (∀ g' H', Stp g Hs g' H' → Stp g0 H0 g' H') ∧ (∀ g' H' n σ ε, Rp ℓ K (fun d p => Hs p = none ∧ U d p) g' H' n σ ε → Rp ℓ K (fun d p => H0 p = none ∧ U d p) g' H' n σ ε) := by
  classical
  have hs0 : ∀ a, H0 a ≠ none → (if H0 a = none ∧ g.G a = none ∧ ¬ g.pot a then none else H a) = H a := fun a h => if_neg fun z => h z.1
  refine ⟨fun a => if H0 a = none ∧ g.G a = none ∧ ¬ g.pot a then none else H a, ⟨Ext.refl g, fun _ _ z => z, fun _ _ z => z, fun a o e _ => ?_, fun a e => ?_⟩, fun n σ ε r => ⟨r.ok, r.len, fun i x e => ?_, r.dis⟩, fun g' H' s' => ⟨s.ext.trans s'.ext, fun a h q => ?_, fun a h q => ?_, fun a o h q => ?_, fun a h => ?_⟩, fun g' H' n σ ε r => ⟨r.ok, r.len, fun i x e => ?_, r.dis⟩⟩
  · have e2 : (if H0 a = none ∧ g.G a = none ∧ ¬ g.pot a then none else H a) = some o := e
    split at e2
    · cases e2
    · exact e2
  · intro z
    refine e ?_
    show (if H0 a = none ∧ g.G a = none ∧ ¬ g.pot a then none else H a) = none
    rw [z]
    split <;> rfl
  · have w := r.sl i x e
    cases x with
    | no => trivial
    | val d => exact w
    | own d =>
      obtain ⟨p, o, w1, w2, w3, w4, w5, w6⟩ := w
      exact ⟨p, o, w1, ⟨if_pos ⟨w2.1, w3, w4⟩, w2.2⟩, w3, w4, w5, w6⟩
  · exact s'.gro a (by rw [hs0 a h]; exact s.dom a h) (s.gro a h q)
  · exact s.grp a h (s'.grp a (by rw [hs0 a h]; exact s.dom a h) q)
  · exact s'.kep a o (by rw [hs0 a (by rw [h]; exact Option.some_ne_none o)]; exact s.kep a o h q) fun z => q (s.grp a (by rw [h]; exact Option.some_ne_none o) z)
  · exact s'.dom a (by rw [hs0 a h]; exact s.dom a h)
  · have w := r.sl i x e
    cases x with
    | no => trivial
    | val d => exact w
    | own d =>
      obtain ⟨p, o, w1, w2, w3, w4, w5, w6⟩ := w
      refine ⟨p, o, w1, ⟨?_, w2.2⟩, w3, w4, w5, w6⟩
      cases z : H0 p with
      | none => rfl
      | some u =>
        have zn : H0 p ≠ none := by rw [z]; exact Option.some_ne_none u
        have w2' : (if H0 p = none ∧ g.G p = none ∧ ¬ g.pot p then none else H p) = none := w2.1
        rw [hs0 p zn] at w2'
        exact absurd w2' (s.dom p zn)
section
variable {X : Cx} {pos : Pos} {e c tg iter : Expr} {body : List Stmt} {ws : List Nat} {dg : DG} {di : DI} {d : DE} {t : DT} {b : DS}
theorem ds_for (hp : PassesOwn (model X.prog X.w) X.A X.env X.xe) (hc : X.calm = true) (hi : PI X tg iter (liftI ℓ X.K di)) (hg : PG X tg (liftG ℓ X.K ws dg)) (hb : PSs X body (liftS ℓ W X.K b))
    (hs : ∀ x, foldedSetIterable iter X.env x = pure x := by intro _; rfl) : PS X (.For tg iter body [] pos) (liftS ℓ W X.K (dFor di dg b)) :=
  ps_w (ps_for hp hc hi hg hb hs) fun E σ H ⟨U, g0, H0, g, n, ε, N, uo, r, s0, q, k1, k2, k3, k4⟩ => by
    refine ⟨_, g, n, ε, _, r, q, fun J gI HI nI xs q1 s1 o1 wk => ?_⟩
    refine ⟨fun i m σ H => m = xs.length - i ∧ i ≤ xs.length ∧ ∃ g n ε, Rp ℓ X.K (fun d p => H0 p = none ∧ U d p) g H n σ ε ∧ Stp g0 H0 g H ∧ Ext gI g ∧ forW dg b N (xs.drop i) n ε, ⟨xs.length, by simp, Nat.zero_le _, gI, nI, ε, r.step s1 o1, s0.trans s1, Ext.refl _, by simpa using q1⟩, ?_⟩
    rintro i m σ H ⟨rfl, hi, g, n, ε, r, s, ex, fw⟩
    have sm : Same gI.G H := ex.G.trans r.ok.sub
    by_cases hlt : i < xs.length
    · refine .inr ⟨wk.go i H hlt sm, fun σ' H' => ∃ g n ε, Rp ℓ X.K (fun d p => H0 p = none ∧ U d p) g H' n σ' ε ∧ Stp g0 H0 g H' ∧ Ext gI g ∧ forW dg b N (xs.drop (i + 1)) n ε, fun σ' H' z => ⟨xs.length - (i + 1), by omega, rfl, hlt, z⟩, fun x H' y => ?_⟩
      obtain ⟨g2, dx, ed, s2, o2, e2⟩ := wk.yld i x H H' g n hlt ex r.ok y
      have el : xs.drop i = dx :: xs.drop (i + 1) := by
        rw [List.drop_eq_getElem_cons hlt]
        congr 1
        rw [List.getElem?_eq_getElem hlt] at ed
        exact Option.some.inj ed
      rw [el] at fw
      refine ⟨_, g2, n, ε, dx, _, r.step s2 o2, e2, fw, fun σ2 ε2 q2 r2 _ => ?_⟩
      have st2 := s.trans s2
      obtain ⟨Hs, a1, a2, a3, a4⟩ := snap (K := X.K) (U := U) st2
      have again : ∀ σ3 g3 H3 n3 ε3, forW dg b N (xs.drop (i + 1)) n3 ε3 → Rp ℓ X.K (fun d p => Hs p = none ∧ U d p) g3 H3 n3 σ3 ε3 → Stp g2 Hs g3 H3 → ∃ g n ε, Rp ℓ X.K (fun d p => H0 p = none ∧ U d p) g H3 n σ3 ε ∧ Stp g0 H0 g H3 ∧ Ext gI g ∧ forW dg b N (xs.drop (i + 1)) n ε :=
        fun σ3 g3 H3 n3 ε3 q3 r3 s3 => ⟨g3, n3, ε3, a4 _ _ _ _ _ r3, a3 _ _ s3, (ex.trans s2.ext).trans s3.ext, q3⟩
      exact ⟨U, g2, Hs, g2, n, ε2, { N with nx := fun n' ε'' => forW dg b N (xs.drop (i + 1)) n' ε'', ct := fun n' ε'' => forW dg b N (xs.drop (i + 1)) n' ε'', bk := N.nx }, uo, a2 _ _ _ r2, a1, q2, again, fun σ3 g3 H3 n3 ε3 q3 r3 s3 => k1 σ3 g3 H3 n3 ε3 q3 (a4 _ _ _ _ _ r3) (a3 _ _ s3), again, fun v g3 H3 n3 z q3 s3 o3 e3 => k4.1 v g3 H3 n3 z q3 (a3 _ _ s3) o3 e3, fun v σ3 g3 H3 n3 ε3 z q3 r3 s3 e3 => k4.2.1 v σ3 g3 H3 n3 ε3 z q3 (a4 _ _ _ _ _ r3) (a3 _ _ s3) e3, fun σ3 g3 H3 n3 ε3 j p q3 r3 s3 e3 => k4.2.2.1 σ3 g3 H3 n3 ε3 j p q3 (a4 _ _ _ _ _ r3) (a3 _ _ s3) e3, fun σ3 g3 H3 n3 ε3 C dx z v q3 r3 s3 e3 e4 => k4.2.2.2 σ3 g3 H3 n3 ε3 C dx z v q3 (a4 _ _ _ _ _ r3) (a3 _ _ s3) e3 e4⟩
    · have e : i = xs.length := by omega
      subst e
      rw [List.drop_length] at fw
      exact .inl ⟨wk.stop H sm, k1 σ g H n ε fw r s⟩
def compW (dg : DG) (t : DT) (d : DE) (ε : Ev) (P : Nat → List D → Prop) : List D → List D → Nat → Prop
  | [], acc, n => P n acc
  | x :: xs, acc, n => dg x ε fun ε' => t n ε' fun n1 k => (k = true → d n1 ε' fun n2 y => compW dg t d ε P xs (acc ++ [y]) n2) ∧ (k = false → compW dg t d ε P xs acc n1)
def dComp (di : DI) (dg : DG) (t : DT) (d : DE) (vs : List Nat) : DO := fun n ε P => di n ε fun n1 xs => xs.length ≤ 16777216 ∧ compW dg t d (wipeE ε vs) P xs [] n1
def dYes : DT := fun n _ P => P n true
variable {ifs : List Expr} {elt : Expr} {scope : Scope} {own : List (Str × Nat)} {wi : TI} {gg : TG} {tt : TT} {te : TE}
theorem dts_nil : PTs X [] (liftT ℓ X.K dYes) := ⟨fun pins s σ H Q I ⟨O, g, n, ε, P, r, q, k⟩ => (pts_nil (X := X)).run pins s σ H Q I (k true g H n q (Stp.refl g H) r.ok)⟩
theorem dts_one (h : PT X c (liftT ℓ X.K t)) : PTs X [c] (liftT ℓ X.K t) := pts_one h
theorem comp_ok {K : PySem.W.Frag} {vs : List Nat} (hv : ∀ i ∈ ws, i ∈ vs) : ∀ σ H Q, liftO ℓ K (dComp di dg t d vs) σ H Q → tLc (liftI ℓ K di) (liftG ℓ K ws dg) (liftT ℓ K t) (liftE ℓ K d) vs σ H Q := fun σ H Q ⟨O, g, n, ε, P, r, q, k⟩ => by
  refine ⟨O, g, n, ε, _, r, q, fun J gI HI nI xs q1 s1 o1 wk => ?_⟩
  obtain ⟨hz, q1⟩ := q1
  intro D hD
  have hz2 := sz hz
  obtain ⟨z1, z2, z3, z4⟩ := new_own o1 hD (.lst [])
  refine ⟨fun i m H => m = xs.length - i ∧ i ≤ xs.length ∧ ∃ g n acc vsL, Ok ℓ K g H n ∧ Stp gI HI g H ∧ g.G D = none ∧ ¬ g.pot D ∧ H D = some (.lst vsL) ∧ Dens K g vsL acc ∧ acc.length ≤ i ∧ compW dg t d (wipeE ε vs) P (xs.drop i) acc n,
    ⟨xs.length, by simp, Nat.zero_le _, gI, nI, [], [], z2, z1, z3, z4, upd_same, .nil, Nat.le_refl _, by simpa using q1⟩, ?_⟩
  rintro i m H ⟨rfl, hi, g, n, acc, vsL, o, s, h1, h2, h3, h4, h5, cw⟩
  have sm : Same gI.G H := s.ext.G.trans o.sub
  by_cases hlt : i < xs.length
  · refine .inr ⟨wk.go i H hlt sm, fun H' => ∃ g n acc vsL, Ok ℓ K g H' n ∧ Stp gI HI g H' ∧ g.G D = none ∧ ¬ g.pot D ∧ H' D = some (.lst vsL) ∧ Dens K g vsL acc ∧ acc.length ≤ i + 1 ∧ compW dg t d (wipeE ε vs) P (xs.drop (i + 1)) acc n, fun H' z => ⟨xs.length - (i + 1), by omega, rfl, hlt, z⟩, fun x H' y => ?_⟩
    obtain ⟨g2, dx, ed, s2, o2, e2⟩ := wk.yld i x H H' g n hlt s.ext o y
    have el : xs.drop i = dx :: xs.drop (i + 1) := by
      rw [List.drop_eq_getElem_cons hlt]
      congr 1
      rw [List.getElem?_eq_getElem hlt] at ed
      exact Option.some.inj ed
    rw [el] at cw
    have stI := s.trans s2
    have rw2 := ((r.step s1 o1).step stI o2).wipe vs
    refine ⟨O, g2, n, _, dx, _, rw2, e2, cw, fun σ2 ε2 q2 r2 on => ⟨by rw [on.wipe hv, wipe_idem], O, g2, n, ε2, _, r2, q2, fun b g3 H3 n3 q3 s3 o3 => ?_⟩⟩
    have s23 := s2.trans s3
    have dH : H D ≠ none := by rw [h3]; exact Option.some_ne_none _
    cases b with
    | true =>
      refine iteT ?_
      refine ⟨O, g3, n3, ε2, _, r2.step s3 o3, q3.1 rfl, fun v g4 H4 n4 y q4 s4 o4 e4 => ?_⟩
      have s24 := s23.trans s4
      have hD4 : H4 D = some (.lst vsL) := s24.kep D _ h3 h2
      have g4D : g4.G D = none := s24.gro D dH h1
      have p4D : ¬ g4.pot D := fun z => h2 (s24.grp D dH z)
      refine ⟨vsL, hD4, by rw [h4.length]; omega, g4, n4, acc ++ [y], vsL ++ [v], ⟨fun a u w => ?_, fun a z => ?_, o4.t.upd (fun u z => by rw [hD4] at z; cases z; exact .inl ⟨_, rfl⟩) (fun ps z => by cases z), o4.cel.upd p4D⟩, ?_, g4D, p4D, upd_same, (h4.mono s24.ext).append (.cons e4 .nil), by rw [List.length_append, List.length_singleton]; omega, q4⟩
      · rw [upd_ne (ne_of_none w g4D)]
        exact o4.sub a u w
      · rw [upd_ne fun w => p4D (by rw [← w]; exact z)]
        exact o4.pot a z
      · exact (s.trans s24).mut hD
    | false =>
      refine iteF ?_
      exact ⟨g3, n3, acc, vsL, o3, s.trans s23, s23.gro D dH h1, fun z => h2 (s23.grp D dH z), s23.kep D _ h3 h2, h4.mono s23.ext, Nat.le_succ_of_le h5, q3.2 rfl⟩
  · have e : i = xs.length := by omega
    subst e
    rw [List.drop_length] at cw
    exact .inl ⟨wk.stop H sm, k D vsL g H n acc cw (s1.trans s) o (s1.back0 hD) h1 h2 h3 h4⟩
theorem do_comp {vs : List Nat} (hc : X.calm = true) (hN : X.N.Nodup) (hi : PI X tg iter (liftI ℓ X.K di)) (ok : BlkOk X.N X.env.scope scope own) (hv : ∀ i ∈ ws, i ∈ vs)
    (hg : ∀ (s : Shared) (H : Hp) (C : Addr) (cl : List (Str × Addr)) (fp : List Addr), PG (X.blk s H scope (compEnvC scope cl C X.env) fp) tg (liftG ℓ X.K ws dg)) (ht : ∀ (s : Shared) (H : Hp) (C : Addr) (cl : List (Str × Addr)) (fp : List Addr), PTs (X.blk s H scope (compEnvC scope cl C X.env) fp) ifs (liftT ℓ X.K t))
    (he : ∀ (s : Shared) (H : Hp) (C : Addr) (cl : List (Str × Addr)) (fp : List Addr), PE (X.blk s H scope (compEnvC scope cl C X.env) fp) elt (liftE ℓ X.K d)) (hs : ∀ x, foldedSetIterable iter X.env x = pure x := by intro _; rfl) (hvs : own.map (·.2) = vs := by rfl) :
    PE X (.ListComp elt [⟨tg, iter, ifs, 0⟩] scope pos) (liftO ℓ X.K (dComp di dg t d vs)) := by
  subst hvs
  exact pe_w (pe_lc hc hN hi ok hg ht he hs) (comp_ok hv)
variable {i : Nat} {y : Str} {py spos : Pos}
theorem setLc_ok {K : PySem.W.Frag} {o : DO} : ∀ E σ H, liftS ℓ W K (dSet i (dO o)) E σ H → tAsg (liftO ℓ K o) (gName i) E σ H := fun E σ H ⟨U, g0, H0, g, n, ε, N, uo, r, s0, q, k1, k2, k3, k4⟩ =>
  ⟨_, g, n, ε, _, r, q, fun p vs g' H' n' ds q1 s1 o1 h0 h1 h2 h3 h4 => by
    have ex : Ext g' (g'.add p (.lst vs)) := Ext.addOld h1
    have st : Stp g H (g'.add p (.lst vs)) H' := ⟨s1.ext.trans ex, fun a dd z => by
      show upd g'.G p (.lst vs) a = none
      rw [upd_ne fun w => dd (by rw [w]; exact h0)]
      exact s1.gro a dd z, s1.grp, s1.kep, s1.dom⟩
    have ok2 := o1.addOld h3 h2
    exact k1 _ _ H' n' _ q1 ((r.step st ok2).set (.lst Gh.at (h4.mono ex))) (s0.trans st)⟩
theorem ps_setComp {vs : List Nat} (hc : X.calm = true) (hN : X.N.Nodup) (hy : X.N[i]? = some y) (hyl : X.env.scope.names.lookup y = some .local) (hsw : swapsWith (.ListComp elt [⟨tg, iter, ifs, 0⟩] scope pos) (some (.Name y py)) spos.line X.env = pure true)
    (hi : PI X tg iter (liftI ℓ X.K di)) (ok : BlkOk X.N X.env.scope scope own) (hv : ∀ i ∈ ws, i ∈ vs)
    (hg : ∀ (s : Shared) (H : Hp) (C : Addr) (cl : List (Str × Addr)) (fp : List Addr), PG (X.blk s H scope (compEnvC scope cl C X.env) fp) tg (liftG ℓ X.K ws dg)) (ht : ∀ (s : Shared) (H : Hp) (C : Addr) (cl : List (Str × Addr)) (fp : List Addr), PTs (X.blk s H scope (compEnvC scope cl C X.env) fp) ifs (liftT ℓ X.K t))
    (he : ∀ (s : Shared) (H : Hp) (C : Addr) (cl : List (Str × Addr)) (fp : List Addr), PE (X.blk s H scope (compEnvC scope cl C X.env) fp) elt (liftE ℓ X.K d)) (hs : ∀ x, foldedSetIterable iter X.env x = pure x := by intro _; rfl) (hvs : own.map (·.2) = vs := by rfl) :
    PS X (.Assign [.Name y py] (.ListComp elt [⟨tg, iter, ifs, 0⟩] scope pos) spos) (tAsg (liftO ℓ X.K (dComp di dg t d vs)) (gName i)) := by
  subst hvs
  exact ps_w (ps_setLc hc hN hy hyl hsw hi ok hg ht he hs) fun E σ H h => comp_ok hv σ H _ h
theorem ds_setComp {o : DO} (h : PS X (.Assign [.Name y py] e spos) (tAsg (liftO ℓ X.K o) (gName i))) : PS X (.Assign [.Name y py] e spos) (liftS ℓ W X.K (dSet i (dO o))) := ps_w h setLc_ok
end
end Pd
namespace Pd
variable {ℓ : Bool}
open PySem L2
variable {W : WX}
abbrev FD := List D → Nat → (Nat → D → Prop) → Prop
def liftF (ℓ : Bool) (K : PySem.W.Frag) (f : FD) : Sp := fun vs H Q _ => ∃ g n ds P, Ok ℓ K g H n ∧ Dens K g vs ds ∧ f ds n P ∧ ∀ v g' H' n' r, P n' r → Stp g H g' H' → Ok ℓ K g' H' n' → Den K g' v r → Q v H'
def envOf (N : Nat) (ds : List D) : Ev := ds.map Sl.val ++ List.replicate (N - ds.length) Sl.no
def dFn (N np : Nat) (b : DS) : FD := fun ds n P => ds.length = np ∧ b { nx := fun n _ => P n .non, rt := P } n (envOf N ds)
theorem envOf_at {N : Nat} {ds : List D} {i : Nat} {s : Sl} (h : (envOf N ds)[i]? = some s) : s = .no ∨ ∃ d, ds[i]? = some d ∧ s = .val d := by
  unfold envOf at h
  rw [List.getElem?_append] at h
  split at h
  · rw [List.getElem?_map] at h
    cases e : ds[i]? with
    | none =>
      rw [e] at h
      cases h
    | some d =>
      rw [e] at h
      cases h
      exact .inr ⟨d, rfl, rfl⟩
  · rw [List.getElem?_replicate] at h
    split at h
    · cases h
      exact .inl rfl
    · cases h
theorem start_at {names : List Str} {vs : List V} {i : Nat} {v : V} (h : vs[i]? = some v) : (L2.start names vs)[i]? = some (some v) := by
  unfold L2.start
  have hi : i < vs.length := (List.getElem?_eq_some_iff.mp h).1
  rw [List.getElem?_append_left (by rw [List.length_map]; exact hi), List.getElem?_map, h]
  rfl
theorem Rp.start {K : PySem.W.Frag} {O : OD → Addr → Prop} {g : Gh} {H : Hp} {n : Nat} {names : List Str} {vs : List V} {ds : List D} (ok : Ok ℓ K g H n) (h : Dens K g vs ds) : Rp ℓ K O g H n (L2.start names vs) (envOf names.length ds) := by
  refine ⟨ok, ?_, fun i s e => ?_, fun i j p d1 d2 _ e1 _ _ _ => ?_⟩
  · unfold L2.start envOf
    rw [List.length_append, List.length_append, List.length_map, List.length_map, List.length_replicate, List.length_replicate, h.length]
  · rcases envOf_at e with z | ⟨d, z, w⟩
    · rw [z]
      trivial
    · rw [w]
      obtain ⟨v, v1, v2⟩ := h.get z
      exact ⟨v, start_at v1, v2⟩
  · rcases envOf_at e1 with z | ⟨d, _, z⟩
    · cases z
    · cases z
theorem liftF_body {K : PySem.W.Frag} {b : DS} {names : List Str} {np : Nat} {vs : List V} {H : Hp} {Q : VK} {E : XK} (h : liftF ℓ K (dFn names.length np b) vs H Q E) : liftS ℓ W0 K b { nx := fun _ H' => Q .non H', rt := Q } (L2.start names vs) H := by
  obtain ⟨g, n, ds, P, ok, dd, ⟨_, q⟩, k⟩ := h
  exact ⟨fun _ _ => True, g, H, g, n, _, _, ⟨fun _ _ => trivial, fun _ _ _ _ _ => trivial, fun _ _ _ _ => trivial, fun _ _ _ => trivial⟩, Rp.start ok dd, Stp.refl g H, q, fun σ' g' H' n' ε' q' r' s' => k .non g' H' n' .non q' s' r'.ok .non, fun _ _ _ _ _ q' _ _ => q'.elim, fun _ _ _ _ _ q' _ _ => q'.elim, k, fun _ _ _ _ _ _ _ q' _ _ _ => q'.elim, fun _ _ _ _ _ _ _ q' _ _ _ => q'.elim, fun _ _ _ _ _ _ _ _ _ q' _ _ _ _ => q'.elim⟩
theorem liftF_len {K : PySem.W.Frag} {b : DS} {N np : Nat} {vs : List V} {H : Hp} {Q : VK} {E : XK} (h : liftF ℓ K (dFn N np b) vs H Q E) : vs.length = np := by
  obtain ⟨g, n, ds, P, ok, dd, ⟨q, _⟩, k⟩ := h
  rw [dd.length]
  exact q
theorem liftF_mono {K : PySem.W.Frag} {f f' : FD} (h : ∀ ds n P, f' ds n P → f ds n P) : ∀ vs H Q E, liftF ℓ K f' vs H Q E → liftF ℓ K f vs H Q E := fun vs H Q E ⟨g, n, ds, P, ok, dd, q, k⟩ => ⟨g, n, ds, P, ok, dd, h _ _ _ q, k⟩
structure FnG (P : Program) (w : World) (K : PySem.W.Frag) (mg : Str → Option Value) (base : Heap) (k : Nat) (f : Addr) (fd : FuncData) (ps : List Str) (sp : Sp) : Prop where
  len : ∀ vs H Q E, sp vs H Q E → vs.length = ps.length
  run : ∀ (A : Around) (outer : List Env) (s : Shared) (H : Hp) (args : Args) (us : List Value) (vs : List V) (Q : VK) (E : XK), Room k A → A.guards = some [] → Env0 P w K mg base A outer s H → BindsTo s fd args (ps.zip us) → Vals vs us → sp vs H Q E →
    codeAny (model P w) A (.call (.ref f) args) (CR CX0 outer P w H s Q E) s
section
variable {P : Program} {w : World} {K : PySem.W.Frag} {mg : Str → Option Value} {base : Heap} {k : Nat} {f : Addr} {fd : FuncData} {ps : List Str} {sp sp' : Sp}
theorem FnG.imp (F : FnG P w K mg base k f fd ps sp) (h : ∀ vs H Q E, sp' vs H Q E → sp vs H Q E) : FnG P w K mg base k f fd ps sp' :=
  ⟨fun vs H Q E q => F.len vs H Q E (h _ _ _ _ q), fun A outer s H args us vs Q E hr hg he hb hv hs => F.run A outer s H args us vs Q E hr hg he hb hv (h _ _ _ _ hs)⟩
theorem FnG.mono {j : Nat} (F : FnG P w K mg base j f fd ps sp) (h : j ≤ k) : FnG P w K mg base k f fd ps sp := ⟨F.len, fun A outer s H args us vs Q E hr => F.run A outer s H args us vs Q E (hr.mono h)⟩
theorem FnG.of (F : FnOk P w K mg base CX0 k f fd ps sp) : FnG P w K mg base k f fd ps sp := ⟨F.len, fun A outer s H args us vs Q E hr _ => F.run A outer s H args us vs Q E hr⟩
theorem FnG.mk' {x qual : Str} {params : Arguments} {body : List Stmt} {scope : Scope} {dvs : List V} {kws : List (Str × V)} {N : List Str} (F : FunD K x qual params body scope dvs kws f fd) (S : FnScope N ps scope) (len : ∀ vs H Q E, sp vs H Q E → vs.length = ps.length)
    (hb : ∀ (cdv : Value), cdv = fd.code → ∀ (A : Around) (outer : List Env) (s : Shared) (H : Hp) (vs : List V) (Q : VK) (E : XK), Room k (A.deeper (PyProof.Rows.envOfC qual scope s.heap.objs.size f cdv)) → A.guards = some [] → sp vs H Q E →
      ∃ t, PSs (cxOf CX0 P w K mg base N qual scope f cdv A outer s H E) body t ∧ t { nx := fun _ H' => Q .non H', rt := Q } (L2.start N vs) H) : FnG P w K mg base (k + 1) f fd ps sp := by
  obtain ⟨oc, od, dV, kV, doc, pm, an, cdv, ct, osl, rfl, lk, hcd, _, _⟩ := F.ex
  refine ⟨len, ?_⟩
  intro A outer s H args us vs Q E room guards e0 hbind rel hsp
  have hlen := len _ _ _ _ hsp
  have kept : ∀ b o, base.get? b = some o → s.heap.get? b = some o := fun b o e => (e0.bs b o e).1
  have hK : K.In s.heap := e0.mod.kin.keeps kept
  refine codeAny_call_function room.depth (hK _ _ lk) rfl S.co S.gen rfl (PySem.W.codeRec_of hK hcd) (hbind _ _ _ _ (wpAny_newFunctionEnv_cells S.kind (fun y hy => ?_) fun env he s1 x => ?_))
  · rcases S.par y.1 (List.of_mem_zip (a := y.1) (b := y.2) hy).1 with z | z
    · exact .inl z
    · exact .inr ⟨z, PySem.W.cellsFrom_some _ _ _ (.inl z)⟩
  · subst he
    refine ⟨(e0.mod.nolimit.keeps kept).keeps x.toInCall.keep, codeAny_func ?_⟩
    obtain ⟨t, ht, ok⟩ := hb cdv rfl A outer s H vs Q E (room.deeper _) guards hsp
    refine wpAny_mono (ht.run [] s1 (L2.start N vs) H _ (inv_start S room.hd e0 hlen rel x) ok) (fun fl s' z => ?_) fun _ _ z => z
    cases fl with
    | next =>
      obtain ⟨σ', H', J, q⟩ := z
      exact ⟨.non, H', J.os, J.bare, J.base, J.hok, rfl, q⟩
    | ret u =>
      obtain ⟨v, σ', H', J, r, q⟩ := z
      exact ⟨v, H', J.os, J.bare, J.base, J.hok, r, q⟩
    | brk =>
      obtain ⟨_, _, _, q⟩ := z
      exact False.elim q
    | cont =>
      obtain ⟨_, _, _, q⟩ := z
      exact False.elim q
end
section
variable {P : Program} {w : World} {K : PySem.W.Frag} {mg : Str → Option Value} {base : Heap} {k : Nat} {f : Addr} {fd : FuncData} {ps : List Str}
theorem fn_ok {x qual : Str} {params : Arguments} {body : List Stmt} {scope : Scope} {dvs : List V} {kws : List (Str × V)} {N : List Str} {b : DS} {sp : FD} (F : FunD K x qual params body scope dvs kws f fd) (S : FnScope N ps scope)
    (hb : ∀ (cdv : Value) (A : Around) (outer : List Env) (s : Shared) (H : Hp) (E : XK), Room k (A.deeper (PyProof.Rows.envOfC qual scope s.heap.objs.size f cdv)) → PSs (cxOf CX0 P w K mg base N qual scope f cdv A outer s H E).nox body (liftS ℓ W0 K b))
    (hs : ∀ ds n Q, sp ds n Q → dFn N.length ps.length b ds n Q) : FnOk P w K mg base CX0 (k + 1) f fd ps (liftF ℓ K sp) :=
  (F.ok (sp := liftF ℓ K (dFn N.length ps.length b)) S (fun vs H Q E h => liftF_len h) fun cdv A outer s H vs Q E hr h => ⟨_, PSs.nox (hb cdv A outer s H E hr), liftF_body h⟩).imp (liftF_mono hs)
theorem fnG_ok {x qual : Str} {params : Arguments} {body : List Stmt} {scope : Scope} {dvs : List V} {kws : List (Str × V)} {N : List Str} {b : DS} {sp : FD} (F : FunD K x qual params body scope dvs kws f fd) (S : FnScope N ps scope)
    (hb : ∀ (cdv : Value), cdv = fd.code → ∀ (A : Around) (outer : List Env) (s : Shared) (H : Hp) (E : XK), Room k (A.deeper (PyProof.Rows.envOfC qual scope s.heap.objs.size f cdv)) → (A.deeper (PyProof.Rows.envOfC qual scope s.heap.objs.size f cdv)).guards = some [] → PSs (cxOf CX0 P w K mg base N qual scope f cdv A outer s H E).nox body (liftS ℓ W0 K b))
    (hs : ∀ ds n Q, sp ds n Q → dFn N.length ps.length b ds n Q) : FnG P w K mg base (k + 1) f fd ps (liftF ℓ K sp) :=
  (FnG.mk' (sp := liftF ℓ K (dFn N.length ps.length b)) F S (fun vs H Q E h => liftF_len h) fun cdv hcd A outer s H vs Q E hr hg h => ⟨_, PSs.nox (hb cdv hcd A outer s H E hr hg), liftF_body h⟩).imp (liftF_mono hs)
end
def dCall (f : FD) (dd : List D) (t : DA) : DE := fun n ε P => t n ε fun n1 ds => f (ds ++ dd) n1 P
section
variable {X : Cx} {k : Nat} {f C : Addr} {fd : FuncData} {ps : List Str} {sp : FD} {dvs : List V} {dd : List D} {ds : List Value} {E : XK} {x m : Str} {p pos apos : Pos} {e o : Expr} {es : List Expr} {da : DE} {t : DA}
theorem call_ok {K : PySem.W.Frag} (hd : ∀ g, Dens K g dvs dd) : ∀ σ H Q, liftE ℓ K (dCall sp dd t) σ H Q → tCall (liftF ℓ K sp) dvs E (liftA ℓ K t) σ H Q := fun σ H Q ⟨O, g, n, ε, P, r, q, kk⟩ =>
  ⟨O, g, n, ε, _, r, q, fun vs g1 H1 n1 d1 q1 s1 o1 e1 => ⟨g1, n1, d1 ++ dd, P, o1, e1.append (hd g1), q1, fun v g2 H2 n2 z q2 s2 o2 e2 => kk v g2 H2 n2 z q2 (s1.trans s2) o2 e2⟩⟩
theorem de_call (F : FnOk X.prog X.w X.K X.mg X.base CX0 k f fd ps (liftF ℓ X.K sp)) (hr : Room k X.A) (hg : Gl X x) (hm : X.mg x = some (.ref f)) (hk : PySem.W.keepIn X.K (.ref f) = true) (hb : Binds X.K fd ps ds) (hv : Vals dvs ds) (hd : ∀ g, Dens X.K g dvs dd)
    (ha : PA X (e :: es) (liftA ℓ X.K t)) (hdb : (x == ("__debug__" : Str)) = false := by decide) (he : starEach (e :: es) X.env = (false, eval e X.env) :: starEach es X.env := by rfl) (hpl : (backTo pos (starEach es X.env)).any (·.1) = false := by rfl) :
    PE X (.Call (.Name x p) (e :: es) [] pos) (liftE ℓ X.K (dCall sp dd t)) := pe_w (pe_call F hr hg hm hk hb hv pass0 ha hdb he hpl) (call_ok (E := E0) hd)
theorem de_callG (F : FnG X.prog X.w X.K X.mg X.base k f fd ps (liftF ℓ X.K sp)) (hr : Room k X.A) (hgd : X.A.guards = some []) (hg : Gl X x) (hm : X.mg x = some (.ref f)) (hk : PySem.W.keepIn X.K (.ref f) = true) (hb : Binds X.K fd ps ds) (hv : Vals dvs ds) (hd : ∀ g, Dens X.K g dvs dd)
    (ha : PA X (e :: es) (liftA ℓ X.K t)) (hdb : (x == ("__debug__" : Str)) = false := by decide) (he : starEach (e :: es) X.env = (false, eval e X.env) :: starEach es X.env := by rfl) (hpl : (backTo pos (starEach es X.env)).any (·.1) = false := by rfl) :
    PE X (.Call (.Name x p) (e :: es) [] pos) (liftE ℓ X.K (dCall sp dd t)) := by
  refine pe_w (t := tCall (liftF ℓ X.K sp) dvs E0 (liftA ℓ X.K t)) ⟨fun pins s σ H Q I h => ?_⟩ (call_ok hd)
  refine wpAny_Call_Name_kw (ld_glob I hg hm (PySem.W.callWith_K (h₀ := X.base) I.ok.mod.kin hk (thn (ha.run pos pins s σ H _ I h) fun us s1 ⟨vs, H1, I1, r, q⟩ => ⟨I1.kIn, ?_⟩) he hpl) hdb)
  have q' : liftF ℓ X.K sp (vs ++ dvs) H1 Q E0 := q
  have r2 : Vals (vs ++ dvs) (us ++ ds) := r.append hv
  have hl : (us ++ ds).length = ps.length := by
    rw [← r2.length]
    exact F.len _ _ _ _ q'
  refine wpAny_call (codeAny_mono (F.run X.A X.stack s1 H1 ⟨us, []⟩ (us ++ ds) (vs ++ dvs) Q E0 hr hgd I1.env0 (hb s1 us I1.kIn hl) r2 q') fun z s' hz => ?_)
  cases z with
  | error er =>
    have hf : CX0 X.stack H1 s1 E0 er s' := hz
    exact hf.elim
  | ok fl =>
    cases fl with
    | ret u => exact I1.after hz
    | next => exact False.elim hz
    | brk => exact False.elim hz
    | cont => exact False.elim hz
theorem Flds.lookup {K : PySem.W.Frag} {g : Gh} {f : Str} : ∀ {fvs : List (Str × V)} {fs : List (Str × D)} {d : D}, Flds K g fvs fs → fs.lookup f = some d → ∃ v, fvs.lookup f = some v ∧ Den K g v d
  | _, _, _, .nil, e => by simp at e
  | _, _, _, .cons (x := x) (v := v) (d := d') (vs := vs) (ds := ds) h t, e => by
    rw [List.lookup_cons] at e ⊢
    cases z : f == x with
    | true =>
      rw [z] at e
      cases e
      exact ⟨v, rfl, h⟩
    | false =>
      rw [z] at e
      exact Flds.lookup t e
def dFld (C : Addr) (f : Str) (d : DE) : DE := fun n ε P => d n ε fun n1 x => match x with
  | .obj C' fs => C' = C ∧ ∃ y, fs.lookup f = some y ∧ P n1 y
  | _ => False
def dProp (C : Addr) (sp : FD) (d : DE) : DE := fun n ε P => d n ε fun n1 x => match x with
  | .obj C' fs => C' = C ∧ sp [.obj C' fs] n1 P
  | _ => False
def dMeth (C : Addr) (m : Str) (sp : FD) (dd : List D) (d : DE) (t : DA) : DE := fun n ε P => d n ε fun n1 x => match x with
  | .obj C' fs => C' = C ∧ fs.lookup m = none ∧ t n1 ε fun n2 ds => sp (.obj C' fs :: (ds ++ dd)) n2 P
  | _ => False
abbrev FI := List D → Nat → (Nat → List (Str × D) → Prop) → Prop
def rem (H : Hp) (x : Addr) : Hp := fun a => if a = x then none else H a
def liftInit (ℓ : Bool) (K : PySem.W.Frag) (C : Addr) (f : FI) : Sp := fun vs H Q _ => ∃ g n x dx vs' ds P, vs = .ref x :: vs' ∧ H x = some (.ins C dx []) ∧ g.G x = none ∧ ¬ g.pot x ∧ Ok ℓ K g H n ∧ Dens K g vs' ds ∧ f ds n P ∧
  ∀ g' H' n' fs dx' fvs, P n' fs → Stp g (rem H x) g' H' → Ok ℓ K g' H' n' → g'.G x = none → ¬ g'.pot x → H' x = some (.ins C dx' fvs) → Flds K g' fvs fs → Q .non H'
def dMake (C : Addr) (f : FI) (dd : List D) (t : DA) : DE := fun n ε P => t n ε fun n1 ds => f (ds ++ dd) n1 fun n2 fs => P n2 (.obj C fs)
end
def iniEnd (C : Addr) (P : Nat → List (Str × D) → Prop) (n : Nat) (ε : Ev) : Prop := match (ε : List Sl)[(0 : Nat)]? with
  | some (.own (.ins C' fs)) => C' = C ∧ P n fs
  | _ => False
def putFD (f : Str) (v : D) : List (Str × D) → List (Str × D)
  | [] => [(f, v)]
  | (g, x) :: r => if g = f then (g, v) :: r else (g, x) :: putFD f v r
theorem Flds.put {K : PySem.W.Frag} {g : Gh} {f : Str} {v : V} {d : D} (h : Den K g v d) : ∀ {fvs : List (Str × V)} {fs : List (Str × D)}, Flds K g fvs fs → Flds K g (putF f v fvs) (putFD f d fs)
  | _, _, .nil => .cons h .nil
  | _, _, .cons (x := x) a t => by
    unfold putF putFD
    by_cases z : x = f
    · rw [if_pos z, if_pos z]
      exact .cons h t
    · rw [if_neg z, if_neg z]
      exact .cons a (Flds.put h t)
theorem Flds.length {K : PySem.W.Frag} {g : Gh} : ∀ {fvs : List (Str × V)} {fs : List (Str × D)}, Flds K g fvs fs → fvs.length = fs.length
  | _, _, .nil => rfl
  | _, _, .cons _ t => congrArg Nat.succ (Flds.length t)
def dFst (C : Addr) (i : Nat) (f : Str) (d : DE) : DS := fun N n ε => d n ε fun n1 r => match ε[i]? with
  | some (.own (.ins C' fs)) => C' = C ∧ fs.length < 1000 ∧ N.nx n1 (ε.set i (.own (.ins C' (putFD f r fs))))
  | _ => False
end Pd
namespace Pd
variable {ℓ : Bool}
open PySem L2
mutual
def toPD : D → PyData
  | .non => .none
  | .bl b => .bool b
  | .int i => .int i
  | .str l => .str ⟨l.toArray⟩
  | .lst xs => .list (toPDs xs)
  | .tup xs => .tuple (toPDs xs)
  | .obj _ _ => .none
  | .pot => .none
  | .scr _ => .none
  | .ref _ => .none
  | .tupK xs => .tuple (toPDs xs)
  | .tupF _ => .none
  | .err _ _ => .none
  | .cel _ _ => .none
  | .dic ks vs => .dict ((ks.map fun x => PyData.str ⟨x.toArray⟩).zip (toPDs vs))
def toPDs : List D → List PyData
  | [] => []
  | x :: xs => toPD x :: toPDs xs
end
mutual
def isPd : D → Bool
  | .non => true
  | .bl _ => true
  | .int _ => true
  | .str l => l.all (· < 1114112)
  | .lst xs => isPds xs
  | .tup xs => isPds xs
  | .obj _ _ => false
  | .pot => false
  | .scr _ => false
  | .ref _ => false
  | .tupK xs => isPds xs
  | .tupF _ => false
  | .err _ _ => false
  | .cel _ _ => false
  | .dic _ _ => false
def isPds : List D → Bool
  | [] => true
  | x :: xs => isPd x && isPds xs
end
mutual
def dpt : D → Nat
  | .lst xs => dpts xs + 1
  | .tup xs => dpts xs + 1
  | .non => 0
  | .bl _ => 0
  | .int _ => 0
  | .str _ => 0
  | .obj _ _ => 0
  | .pot => 0
  | .scr _ => 0
  | .ref _ => 0
  | .tupK xs => dpts xs + 1
  | .tupF _ => 0
  | .err _ _ => 0
  | .cel _ _ => 0
  | .dic ks vs => (toPD (.dic ks vs)).depth
def dpts : List D → Nat
  | [] => 0
  | x :: xs => max (dpt x) (dpts xs)
end
mutual
def eqD : D → D → Bool
  | .non, .non => true
  | .bl a, .bl b => a == b
  | .bl a, .int j => (if a then 1 else 0) == j
  | .int i, .bl b => i == (if b then 1 else 0)
  | .int i, .int j => i == j
  | .str x, .str y => x == y
  | .lst xs, .lst ys => eqDs xs ys
  | .tup xs, .tup ys => eqDs xs ys
  | .tup xs, .tupK ys => eqDs xs ys
  | .tupK xs, .tup ys => eqDs xs ys
  | .tupK xs, .tupK ys => eqDs xs ys
  | _, _ => false
def eqDs : List D → List D → Bool
  | [], [] => true
  | x :: xs, y :: ys => eqD x y && eqDs xs ys
  | _, _ => false
end
theorem str_beq (a b : List Nat) : ((⟨a.toArray⟩ : Str) == ⟨b.toArray⟩) = (a == b) := by
  rw [Bool.eq_iff_iff]
  simp
mutual
theorem eqv_eqD : ∀ (x y : D), isPd x = true → isPd y = true → PyData.eqv (toPD x) (toPD y) = eqD x y
  | .non, y, _, hy => by cases y <;> first | (simp [isPd] at hy; done) | simp [toPD, PyData.eqv, eqD]
  | .bl a, y, _, hy => by cases y <;> first | (simp [isPd] at hy; done) | simp [toPD, PyData.eqv, eqD]
  | .int i, y, _, hy => by cases y <;> first | (simp [isPd] at hy; done) | simp [toPD, PyData.eqv, eqD]
  | .str l, y, _, hy => by
    cases y with
    | str l' =>
      show ((⟨l.toArray⟩ : Str) == ⟨l'.toArray⟩) = _
      rw [str_beq]
      simp [eqD]
    | _ => first | (simp [isPd] at hy; done) | simp [toPD, PyData.eqv, eqD]
  | .lst xs, y, hx, hy => by
    cases y with
    | lst ys =>
      simp only [toPD, PyData.eqv, eqD]
      exact eqvs_eqDs xs ys (by simpa [isPd] using hx) (by simpa [isPd] using hy)
    | _ => first | (simp [isPd] at hy; done) | simp [toPD, PyData.eqv, eqD]
  | .tup xs, y, hx, hy => by
    cases y with
    | tup ys =>
      simp only [toPD, PyData.eqv, eqD]
      exact eqvs_eqDs xs ys (by simpa [isPd] using hx) (by simpa [isPd] using hy)
    | tupK ys =>
      simp only [toPD, PyData.eqv, eqD]
      exact eqvs_eqDs xs ys (by simpa [isPd] using hx) (by simpa [isPd] using hy)
    | _ => first | (simp [isPd] at hy; done) | simp [toPD, PyData.eqv, eqD]
  | .tupK xs, y, hx, hy => by
    cases y with
    | tup ys =>
      simp only [toPD, PyData.eqv, eqD]
      exact eqvs_eqDs xs ys (by simpa [isPd] using hx) (by simpa [isPd] using hy)
    | tupK ys =>
      simp only [toPD, PyData.eqv, eqD]
      exact eqvs_eqDs xs ys (by simpa [isPd] using hx) (by simpa [isPd] using hy)
    | _ => first | (simp [isPd] at hy; done) | simp [toPD, PyData.eqv, eqD]
  | .obj _ _, _, h, _ => by simp [isPd] at h
  | .pot, _, h, _ => by simp [isPd] at h
  | .scr _, _, h, _ => by simp [isPd] at h
  | .ref _, _, h, _ => by simp [isPd] at h
  | .tupF _, _, h, _ => by simp [isPd] at h
  | .err _ _, _, h, _ => by simp [isPd] at h
  | .cel _ _, _, h, _ => by simp [isPd] at h
  | .dic _ _, _, h, _ => by simp [isPd] at h
theorem eqvs_eqDs : ∀ (xs ys : List D), isPds xs = true → isPds ys = true → PyData.eqvAll (toPDs xs) (toPDs ys) = eqDs xs ys
  | [], [], _, _ => by simp [toPDs, PyData.eqvAll, eqDs]
  | [], _ :: _, _, _ => by simp [toPDs, PyData.eqvAll, eqDs]
  | _ :: _, [], _, _ => by simp [toPDs, PyData.eqvAll, eqDs]
  | x :: xs, y :: ys, hx, hy => by
    rw [isPds, Bool.and_eq_true] at hx hy
    simp only [toPDs, PyData.eqvAll, eqDs]
    rw [eqv_eqD x y hx.1 hy.1, eqvs_eqDs xs ys hx.2 hy.2]
end
mutual
theorem lay_toPD : ∀ x : D, isPd x = true → (toPD x).canLay0 = true
  | .non, _ => by simp [toPD, PyData.canLay0]
  | .bl _, _ => by simp [toPD, PyData.canLay0]
  | .int _, _ => by simp [toPD, PyData.canLay0]
  | .str l, h => by
    simp only [toPD, PyData.canLay0]
    simp only [isPd] at h
    unfold PySem.PyData.strOk
    simpa using h
  | .lst xs, h => by
    simp only [toPD, PyData.canLay0]
    exact lay_toPDs xs (by simpa [isPd] using h)
  | .tup xs, h => by
    simp only [toPD, PyData.canLay0]
    exact lay_toPDs xs (by simpa [isPd] using h)
  | .tupK xs, h => by
    simp only [toPD, PyData.canLay0]
    exact lay_toPDs xs (by simpa [isPd] using h)
  | .obj _ _, _ => by simp [toPD, PyData.canLay0]
  | .pot, _ => by simp [toPD, PyData.canLay0]
  | .scr _, _ => by simp [toPD, PyData.canLay0]
  | .ref _, _ => by simp [toPD, PyData.canLay0]
  | .tupF _, h => by simp [isPd] at h
  | .err _ _, h => by simp [isPd] at h
  | .cel _ _, h => by simp [isPd] at h
  | .dic _ _, h => by simp [isPd] at h
theorem lay_toPDs : ∀ xs : List D, isPds xs = true → PyData.canLayAll0 (toPDs xs) = true
  | [], _ => by simp [toPDs, PyData.canLayAll0]
  | x :: xs, h => by
    rw [isPds, Bool.and_eq_true] at h
    simp only [toPDs, PyData.canLayAll0]
    rw [lay_toPD x h.1, lay_toPDs xs h.2]
    rfl
end
mutual
theorem dpt_toPD : ∀ x : D, (toPD x).depth = dpt x
  | .non => by simp [toPD, PyData.depth, dpt]
  | .bl _ => by simp [toPD, PyData.depth, dpt]
  | .int _ => by simp [toPD, PyData.depth, dpt]
  | .str _ => by simp [toPD, PyData.depth, dpt]
  | .lst xs => by simp only [toPD, PyData.depth, dpt]; rw [dpts_toPDs xs]
  | .tup xs => by simp only [toPD, PyData.depth, dpt]; rw [dpts_toPDs xs]
  | .obj _ _ => by simp [toPD, PyData.depth, dpt]
  | .pot => by simp [toPD, PyData.depth, dpt]
  | .scr _ => by simp [toPD, PyData.depth, dpt]
  | .ref _ => by simp [toPD, PyData.depth, dpt]
  | .tupK xs => by simp only [toPD, PyData.depth, dpt]; rw [dpts_toPDs xs]
  | .tupF _ => by simp [toPD, PyData.depth, dpt]
  | .err _ _ => by simp [toPD, PyData.depth, dpt]
  | .cel _ _ => by simp [toPD, PyData.depth, dpt]
  | .dic _ _ => by simp [dpt]
theorem dpts_toPDs : ∀ xs : List D, PyData.depthAll (toPDs xs) = dpts xs
  | [] => by simp [toPDs, PyData.depthAll, dpts]
  | x :: xs => by simp only [toPDs, PyData.depthAll, dpts]; rw [dpt_toPD x, dpts_toPDs xs]
end
def okD (x : D) : Bool := isPd x && decide (dpt x ≤ 50)
theorem okD_shaped {x : D} (h : okD x = true) : SeqAt.shaped (toPD x) = true := by
  unfold okD at h
  rw [Bool.and_eq_true] at h
  unfold SeqAt.shaped
  rw [lay_toPD x h.1, dpt_toPD]
  simp only [Bool.true_and, decide_eq_true_eq]
  have := of_decide_eq_true h.2
  omega
theorem okD_pd {x : D} (h : okD x = true) : isPd x = true := (Bool.and_eq_true_iff.mp h).1
section
variable {K : PySem.W.Frag} {g : Gh} {H : Hp}
mutual
theorem Den.dp (sm : Same g.G H) : ∀ {v : V} {d : D}, Den K g v d → isPd d = true → Dp K H v (toPD d)
  | _, _, .non, _ => .non
  | _, _, .bl b, _ => .bl b
  | _, _, .int i, _ => .int i
  | _, _, .str l, _ => .str _
  | _, _, .lst h1 h2, h => .lst (SqL.of (sm _ _ h1)) (Dens.dp sm h2 (by simpa [isPd] using h))
  | _, _, .tup h1 h2, h => .tup (Or.inl (h1.same sm)) (Dens.dp sm h2 (by simpa [isPd] using h))
  | _, _, .obj h1 h2, h => by simp [isPd] at h
  | _, _, .pot h1 _, h => by simp [isPd] at h
  | _, _, .scr h1, h => by simp [isPd] at h
  | _, _, .ref a, h => by simp [isPd] at h
  | _, _, .tupK h1 h2, h => .tup (h1 _) (Dens.dp sm h2 (by simpa [isPd] using h))
  | _, _, .tupF _ _ _ _, h => by simp [isPd] at h
  | _, _, .err _ _ _, h => by simp [isPd] at h
  | _, _, .cel _, h => by simp [isPd] at h
  | _, _, .dic _ _ _, h => by simp [isPd] at h
theorem Dens.dp (sm : Same g.G H) : ∀ {vs : List V} {ds : List D}, Dens K g vs ds → isPds ds = true → DpAll K H vs (toPDs ds)
  | _, _, .nil, _ => .nil
  | _, _, .cons h t, q => by
    rw [isPds, Bool.and_eq_true] at q
    exact .cons (Den.dp sm h q.1) (Dens.dp sm t q.2)
end
end
def flatD : D → Bool
  | .non => true
  | .bl _ => true
  | .int _ => true
  | .str _ => true
  | _ => false
theorem Den.flat {K : PySem.W.Frag} {g g' : Gh} {v : V} {d : D} (h : Den K g v d) (f : flatD d = true) : Den K g' v d := by
  cases h with
  | non => exact .non
  | bl b => exact .bl b
  | int i => exact .int i
  | str l => exact .str l
  | _ => simp [flatD] at f
def gI (C : Int → Int → Prop) (f : Int → Int → D) : G2 := fun x y P => match x, y with
  | .int i, .int j => C i j ∧ P (f i j)
  | _, _ => False
def TC : Int → Int → Prop := fun _ _ => True
section
variable {K : PySem.W.Frag} {C : Int → Int → Prop} {fv : Int → Int → V} {f : Int → Int → D}
theorem so_i (h : ∀ g i j, Den K g (fv i j) (f i j)) : SOp ℓ K (rI C fv) (gI C f) := ⟨fun {g H n x y dx dy P Q} ok ex ey q k => by
  cases ex with
  | int i =>
    cases ey with
    | int j => exact ⟨i, j, rfl, rfl, q.1, k.flat ok q.2 (h g i j)⟩
    | _ => exact q.elim
  | _ => exact q.elim⟩
theorem so_i0 (h : ∀ g i j, Den K g (fv i j) (f i j)) : SOp ℓ K (rI0 fv) (gI TC f) := ⟨fun {g H n x y dx dy P Q} ok ex ey q k => by
  cases ex with
  | int i =>
    cases ey with
    | int j => exact ⟨i, j, rfl, rfl, k.flat ok q.2 (h g i j)⟩
    | _ => exact q.elim
  | _ => exact q.elim⟩
end
abbrev gSub : G2 := gI TC fun i j => .int (i - j)
abbrev gFdiv : G2 := gI CDivW fun i j => .int (i / j)
abbrev gMod : G2 := gI (fun _ j => 0 < j) fun i j => .int (i % j)
abbrev gLt : G2 := gI TC fun i j => .bl (decide (i < j))
abbrev gLe : G2 := gI TC fun i j => .bl (decide (i ≤ j))
abbrev gGt : G2 := gI TC fun i j => .bl (decide (j < i))
abbrev gGe : G2 := gI TC fun i j => .bl (decide (j ≤ i))
def CPowW (i j : Int) : Prop := 0 ≤ j ∧ j ≤ 1000000 ∧ (Builtin.Int.intBits i : Int) * j ≤ 2 ^ 27
abbrev gPow : G2 := gI CPowW fun i j => .int (i ^ j.toNat)
section
variable {X : Cx}
theorem op_powW : OpR X (binaryOp .Pow) (rI CPowW fun i j => .int (i ^ j.toNat)) := by
  intro pins s σ H x y v u Q I rx ry h
  obtain ⟨i, j, rfl, rfl, hc, q⟩ := h
  obtain ⟨t, rfl⟩ := rx
  obtain ⟨t', rfl⟩ := ry
  exact PyProof.Rows.pow_int hc.1 hc.2.2 ⟨.int _, H, I.tok _, ⟨_, rfl⟩, q⟩
theorem so_sub : SOp ℓ X.K (rI0 fun i j => .int (i - j)) gSub := so_i0 fun _ _ _ => .int _
theorem so_mod : SOp ℓ X.K (rI (fun _ j => 0 < j) fun i j => .int (i % j)) gMod := so_i fun _ _ _ => .int _
theorem so_pow : SOp ℓ X.K (rI CPowW fun i j => .int (i ^ j.toNat)) gPow := so_i fun _ _ _ => .int _
theorem so_lt : SOp ℓ X.K (rI0 fun i j => .bl (decide (i < j))) gLt := so_i0 fun _ _ _ => .bl _
theorem so_le : SOp ℓ X.K (rI0 fun i j => .bl (decide (i ≤ j))) gLe := so_i0 fun _ _ _ => .bl _
theorem so_gt : SOp ℓ X.K (rI0 fun i j => .bl (decide (j < i))) gGt := so_i0 fun _ _ _ => .bl _
theorem so_ge : SOp ℓ X.K (rI0 fun i j => .bl (decide (j ≤ i))) gGe := so_i0 fun _ _ _ => .bl _
end
def gAdd : G2 := fun x y P => match x, y with
  | .int i, .int j => P (.int (i + j))
  | .str a, .str b => a.length + b.length ≤ 16777216 ∧ P (.str (a ++ b))
  | .lst a, .lst b => a.length + b.length ≤ 16777216 ∧ P (.lst (a ++ b))
  | .tup a, .tup b => a.length + b.length ≤ 16777216 ∧ P (.tup (a ++ b))
  | _, _ => False
def rAddS : R2 := fun x y H Q => ∃ i j : Str, x = .str i ∧ y = .str j ∧ i.length + j.length ≤ sizeLine ∧ Q (.str (i ++ j)) H
def rAdd (K : PySem.W.Frag) : R2 := fun x y H Q => rI0 (fun i j => .int (i + j)) x y H Q ∨ rAddS x y H Q ∨ rCat x y H Q ∨ rCatA K x y H Q
theorem str_app (a b : List Nat) : ((⟨a.toArray⟩ : Str) ++ ⟨b.toArray⟩) = ⟨(a ++ b).toArray⟩ := by
  show (⟨a.toArray ++ b.toArray⟩ : Str) = _
  simp
section
variable {X : Cx}
theorem op_addA : OpR X (binaryOp .Add) (rAdd X.K) := op_add.or (op_add_str.or (op_cat.or op_catA))
theorem so_add : SOp ℓ X.K (rAdd X.K) gAdd := ⟨fun {g H n x y dx dy P Q} ok ex ey q k => by
  cases ex with
  | int i =>
    cases ey with
    | int j => exact .inl ⟨i, j, rfl, rfl, k.flat ok q (.int _)⟩
    | _ => exact q.elim
  | str a =>
    cases ey with
    | str b => exact .inr (.inl ⟨_, _, rfl, rfl, sz q.1, by rw [str_app]; exact k.flat ok q.2 (.str _)⟩)
    | _ => exact q.elim
  | lst h1 h2 =>
    cases ey with
    | lst h3 h4 => exact .inr (.inr (.inl ⟨_, _, _, _, rfl, rfl, ok.sub _ _ h1, ok.sub _ _ h3, by rw [h2.length, h4.length]; exact sz q.1, fun p hp => k.newL ok q.2 (h2.append h4) hp⟩))
    | _ => exact q.elim
  | tup h1 h2 =>
    rename_i pa vs ds
    cases ey with
    | tup h3 h4 =>
      rename_i pb ws es
      refine .inr (.inr (.inr ⟨_, _, _, _, rfl, rfl, Or.inl (h1.same ok.sub), Or.inl (h3.same ok.sub), by rw [h2.length, h4.length]; exact sz q.1, fun e => ?_, fun _ e => ?_, fun _ _ p hp => k.newT ok q.2 (h2.append h4) hp⟩))
      · subst e
        cases h2
        exact k.flat ok q.2 (.tup h3 h4)
      · subst e
        cases h4
        have q2 := q.2
        rw [List.append_nil] at q2
        exact k.flat ok q2 (.tup h1 h2)
    | _ => exact q.elim
  | _ => exact q.elim⟩
end
def rMulS : R2 := fun x y H Q => ∃ (i : Str) (j : Int), x = .str i ∧ y = .int j ∧ -1000000 ≤ j ∧ j ≤ 1000000 ∧ i.length * j.toNat ≤ 16777216 ∧ Q (.str ⟨((List.replicate j.toNat i.cps.toList).flatten).toArray⟩) H
theorem rep_arr (x : Array Nat) (n : Nat) : (List.replicate n x).foldl (· ++ ·) #[] = ((List.replicate n x.toList).flatten).toArray := by
  have h : ∀ (n : Nat) (acc : Array Nat), (List.replicate n x).foldl (· ++ ·) acc = (acc.toList ++ (List.replicate n x.toList).flatten).toArray := by
    intro n
    induction n with
    | zero => intro acc; simp
    | succ n ih =>
      intro acc
      rw [List.replicate_succ, List.foldl_cons, ih, List.replicate_succ]
      simp
  rw [h]
  simp
section
variable {X : Cx}
theorem op_mulS : OpR X (binaryOp .Mult) rMulS := by
  intro pins s σ H x y v u Q I rx ry h
  obtain ⟨i, j, rfl, rfl, h1, h2, h3, q⟩ := h
  obtain ⟨t, rfl⟩ := rx
  obtain ⟨t', rfl⟩ := ry
  have hz : i.length * j.toNat ≤ sizeLine := sz h3
  have hlen : i.length = i.cps.toList.length := by simp [Str.length]
  refine P.mul_str ?_ (fun hn _ hc => ?_) (fun hn hc => ?_) ?_
  · have a1 : ¬ j < -(2 ^ 63) := by omega
    have a2 : ¬ j ≥ 2 ^ 63 := by omega
    rw [decide_eq_false a1, decide_eq_false a2]
    rfl
  · have e1 : (i.length : Int) * j ≤ 16777216 := by
      have : (((i.length * j.toNat : Nat)) : Int) ≤ ((16777216 : Nat) : Int) := Int.ofNat_le.mpr h3
      rw [Int.natCast_mul, Int.toNat_of_nonneg (by omega)] at this
      exact this
    have e2 : (2 ^ 63 - 1) / j < (i.length : Int) := hc
    have e3 : (2 ^ 63 - 1 : Int) < (i.length : Int) * j := by
      exact Int.lt_mul_of_ediv_lt (show (0 : Int) < j by omega) e2
    omega
  · unfold Builtin.Str.tooLong
    exact decide_eq_false (by omega)
  · by_cases hn : j < 1
    · rw [if_pos hn]
      refine ⟨by decide, ?_⟩
      have e : j.toNat = 0 := by omega
      rw [e] at q
      exact ⟨.str _, H, I.tok _, ⟨_, rfl⟩, q⟩
    · rw [if_neg hn]
      by_cases hc : (j == 1 || i.length == 0) = true
      · rw [if_pos hc]
        refine ⟨.str i, H, I, ⟨_, rfl⟩, ?_⟩
        have e : (⟨((List.replicate j.toNat i.cps.toList).flatten).toArray⟩ : Str) = i := by
          rcases Bool.or_eq_true_iff.mp hc with z | z
          · have e1 : j = 1 := by simpa using z
            subst e1
            cases i
            simp
          · have e1 : i.cps.toList = [] := by
              have : i.length = 0 := by simpa using z
              rw [hlen] at this
              exact List.length_eq_zero_iff.mp this
            rw [e1]
            have e2 : (List.replicate j.toNat ([] : List Nat)).flatten = [] := by simp
            rw [e2]
            cases i with
            | mk c =>
              have : c = #[] := by
                apply Array.toList_inj.mp
                exact e1
              rw [this]
        rw [e] at q
        exact q
      · rw [if_neg hc, rep_arr]
        refine ⟨?_, ⟨.str _, H, I.tok _, ⟨_, rfl⟩, q⟩⟩
        have e : (⟨((List.replicate j.toNat i.cps.toList).flatten).toArray⟩ : Str).length = i.length * j.toNat := by
          show ((List.replicate j.toNat i.cps.toList).flatten.toArray).size = _
          rw [List.size_toArray, List.length_flatten, List.map_replicate, List.sum_replicate_nat, ← hlen, Nat.mul_comm]
        rw [e]
        exact hz
end
def gMul : G2 := fun x y P => match x, y with
  | .int i, .int j => CMulW i j ∧ P (.int (i * j))
  | .str a, .int j => -1000000 ≤ j ∧ j ≤ 1000000 ∧ a.length * j.toNat ≤ 16777216 ∧ P (.str (List.replicate j.toNat a).flatten)
  | .lst a, .int j => -1000000 ≤ j ∧ j ≤ 1000000 ∧ a.length * j.toNat ≤ 16777216 ∧ P (.lst (List.replicate j.toNat a).flatten)
  | .tup a, .int j => a ≠ [] ∧ 2 ≤ j ∧ j ≤ 1000 ∧ a.length ≤ 1000 ∧ P (.tup (List.replicate j.toNat a).flatten)
  | _, _ => False
def rMul (K : PySem.W.Frag) : R2 := fun x y H Q => rI CMulW (fun i j => .int (i * j)) x y H Q ∨ rMulS x y H Q ∨ rRep x y H Q ∨ rRepT K x y H Q
theorem Dens.rep {K : PySem.W.Frag} {g : Gh} {vs : List V} {ds : List D} (h : Dens K g vs ds) : ∀ n : Nat, Dens K g (List.replicate n vs).flatten (List.replicate n ds).flatten
  | 0 => .nil
  | n + 1 => by
    rw [List.replicate_succ, List.replicate_succ, List.flatten_cons, List.flatten_cons]
    exact h.append (Dens.rep h n)
section
variable {X : Cx}
theorem op_mulA : OpR X (binaryOp .Mult) (rMul X.K) := op_mulW.or (op_mulS.or (op_rep.or op_repT))
theorem so_mul : SOp ℓ X.K (rMul X.K) gMul := ⟨fun {g H n x y dx dy P Q} ok ex ey q k => by
  cases ex with
  | int i =>
    cases ey with
    | int j => exact .inl ⟨i, j, rfl, rfl, q.1, k.flat ok q.2 (.int _)⟩
    | _ => exact q.elim
  | str a =>
    cases ey with
    | int j => exact .inr (.inl ⟨_, j, rfl, rfl, q.1, q.2.1, q.2.2.1, k.flat ok q.2.2.2 (.str _)⟩)
    | _ => exact q.elim
  | lst h1 h2 =>
    cases ey with
    | int j => exact .inr (.inr (.inl ⟨_, j, _, rfl, rfl, ok.sub _ _ h1, by have := q.1; omega, by have := q.2.1; omega, by rw [h2.length]; exact sz q.2.2.1, fun p hp => k.newL ok q.2.2.2 (h2.rep _) hp⟩))
    | _ => exact q.elim
  | tup h1 h2 =>
    cases ey with
    | int j =>
      refine .inr (.inr (.inr ⟨_, j, _, rfl, rfl, Or.inl (h1.same ok.sub), fun e => q.1 ?_, q.2.1, q.2.2.1, by rw [h2.length]; exact q.2.2.2.1, fun p hp => k.newT ok q.2.2.2.2 (h2.rep _) hp⟩))
      have := h2.length
      rw [e] at this
      exact List.length_eq_zero_iff.mp this.symm
    | _ => exact q.elim
  | _ => exact q.elim⟩
end
def okEq (x y : D) : Bool := match x, y with
  | .non, _ => flatD y || okD y
  | .int _, .int _ => true
  | .str _, .str _ => true
  | .bl _, .bl _ => true
  | _, _ => okD x && okD y
def gEq : G2 := fun x y P => okEq x y = true ∧ P (.bl (eqD x y))
def gNe : G2 := fun x y P => okEq x y = true ∧ P (.bl (!eqD x y))
def rEqA (K : PySem.W.Frag) : R2 := fun x y H Q => rEq x y H Q ∨ rEqD K x y H Q
def rNeA (K : PySem.W.Frag) : R2 := fun x y H Q => rNe x y H Q ∨ rNeD K x y H Q
section
variable {X : Cx}
theorem op_eqA (hu : X.A.units + 64 < cLine) : OpR X (compareOp .Eq) (rEqA X.K) := op_eq.or (op_eqD hu)
theorem op_neA (hu : X.A.units + 64 < cLine) : OpR X (compareOp .NotEq) (rNeA X.K) := op_ne.or (op_neD hu)
theorem eq_cases {K : PySem.W.Frag} {g : Gh} {H : Hp} {n : Nat} {x y : V} {dx dy : D} (ok : Ok ℓ K g H n) (ex : Den K g x dx) (ey : Den K g y dy) (h : okEq dx dy = true) :
    (scal x y = true ∧ decide (x = y) = eqD dx dy) ∨ (∃ d e, Dp K H x d ∧ Dp K H y e ∧ SeqAt.shaped d = true ∧ SeqAt.shaped e = true ∧ PyData.eqv d e = eqD dx dy) := by
  have deep : okD dx = true → okD dy = true → (∃ d e, Dp K H x d ∧ Dp K H y e ∧ SeqAt.shaped d = true ∧ SeqAt.shaped e = true ∧ PyData.eqv d e = eqD dx dy) := fun h1 h2 =>
    ⟨_, _, ex.dp ok.sub (okD_pd h1), ey.dp ok.sub (okD_pd h2), okD_shaped h1, okD_shaped h2, eqv_eqD dx dy (okD_pd h1) (okD_pd h2)⟩
  have okn : okD .non = true := by decide
  cases ex with
  | non =>
    cases ey with
    | non => exact .inr (deep okn okn)
    | int i => exact .inl ⟨rfl, by simp [eqD]⟩
    | bl i => exact .inl ⟨rfl, by simp [eqD]⟩
    | str i => exact .inl ⟨rfl, by simp [eqD]⟩
    | _ => exact .inr (deep okn (by simpa [okEq, flatD] using h))
  | int i =>
    cases ey with
    | int j => exact .inl ⟨rfl, dec_int⟩
    | _ =>
      simp only [okEq, Bool.and_eq_true] at h
      exact .inr (deep h.1 h.2)
  | bl i =>
    cases ey with
    | bl j => exact .inl ⟨rfl, dec_bl⟩
    | _ =>
      simp only [okEq, Bool.and_eq_true] at h
      exact .inr (deep h.1 h.2)
  | str i =>
    cases ey with
    | str j => exact .inl ⟨rfl, by rw [dec_str, str_beq]; simp [eqD]⟩
    | _ =>
      simp only [okEq, Bool.and_eq_true] at h
      exact .inr (deep h.1 h.2)
  | _ =>
    simp only [okEq, Bool.and_eq_true] at h
    exact .inr (deep h.1 h.2)
theorem so_eq : SOp ℓ X.K (rEqA X.K) gEq := ⟨fun {g H n x y dx dy P Q} ok ex ey q k => by
  have z : Q (.bl (eqD dx dy)) H := k.flat ok q.2 (.bl _)
  rcases eq_cases ok ex ey q.1 with ⟨h1, h2⟩ | ⟨d, e, h1, h2, h3, h4, h5⟩
  · exact .inl ⟨h1, by rw [h2]; exact z⟩
  · exact .inr ⟨d, e, h1, h2, h3, h4, by rw [h5]; exact z⟩⟩
theorem so_ne : SOp ℓ X.K (rNeA X.K) gNe := ⟨fun {g H n x y dx dy P Q} ok ex ey q k => by
  have z : Q (.bl (!eqD dx dy)) H := k.flat ok q.2 (.bl _)
  rcases eq_cases ok ex ey q.1 with ⟨h1, h2⟩ | ⟨d, e, h1, h2, h3, h4, h5⟩
  · exact .inl ⟨h1, by rw [h2]; exact z⟩
  · exact .inr ⟨d, e, h1, h2, h3, h4, by rw [h5]; exact z⟩⟩
end
def isNon : D → Bool
  | .non => true
  | _ => false
def gIs : G2 := fun x y P => match y with
  | .non => P (.bl (isNon x))
  | _ => False
def gIsNot : G2 := fun x y P => match y with
  | .non => P (.bl (!isNon x))
  | _ => False
theorem isNon_of {K : PySem.W.Frag} {g : Gh} {v : V} {d : D} (h : Den K g v d) : decide (v = .non) = isNon d := by
  cases h <;> simp [isNon]
section
variable {X : Cx}
theorem so_is : SOp ℓ X.K (fun x y H Q => y = .non ∧ Q (.bl (decide (x = .non))) H) gIs := ⟨fun {g H n x y dx dy P Q} ok ex ey q k => by
  cases ey with
  | non => exact ⟨rfl, by rw [isNon_of ex]; exact k.flat ok q (.bl _)⟩
  | _ => exact q.elim⟩
end
end Pd
namespace L2
open PySem PySem.Spec PyProof.Rows
section
variable {prog : Program} {w : World} {A : Around} {E : Value → Shared → Prop} {s : Shared}
theorem sliceApplied_rev {sl : Addr} {vl vu vs : Value} {n : Nat} {Q : Int × Int × Nat → Shared → Prop} (hs : s.heap.IsSliceOf sl vl vu vs) (pl : IsPart vl none) (pu : IsPart vu none) (ps : IsPart vs (some (-1)))
    (h : Q ((n : Int) - 1, -1, n) s) : wpAny (model prog w) A (Builtin.Slice.sliceApplied (.ref sl) (pure (n : Int))) Q E s := by
  obtain ⟨os, hos, hcs, hds⟩ := id hs
  unfold Builtin.Slice.sliceApplied Builtin.Slice.sliceFields
  refine wpAny_bind (wpAny_bind (wpAny_field hos hds (x := vl) rfl (wpAny_bind (wpAny_field hos hds (x := vu) rfl (wpAny_bind (wpAny_field hos hds (x := vs) rfl (wpAny_pure ?_)))))))
  refine wpAny_bind (HT.slicePart_ ps ?_)
  show wpAny _ _ (if ((-1 : Int) == 0) = true then _ else _) _ _ s
  rw [if_neg (by decide)]
  refine wpAny_bind (HT.slicePart_ pl (wpAny_bind (HT.slicePart_ pu (wpAny_bind (wpAny_pure ?_)))))
  show wpAny _ _ (match Builtin.Slice.sliceAdjust none none (-1) (n : Int) with | (lo, hi) => pure (lo, (-1 : Int), Builtin.Slice.slicePlaces lo hi (-1))) _ _ s
  have e : Builtin.Slice.sliceAdjust none none (-1) (n : Int) = ((n : Int) - 1, -1) := by
    unfold Builtin.Slice.sliceAdjust
    simp
  rw [e]
  show wpAny _ _ (pure ((n : Int) - 1, (-1 : Int), Builtin.Slice.slicePlaces ((n : Int) - 1) (-1) (-1))) _ _ s
  have e2 : Builtin.Slice.slicePlaces ((n : Int) - 1) (-1) (-1) = n := by
    unfold Builtin.Slice.slicePlaces
    have h1 : ¬ ((-1 : Int) > 0) := by omega
    simp only [h1, if_false]
    rw [show (- -1 : Int) = 1 by decide, Int.ediv_one]
    split <;> omega
  rw [e2]
  exact wpAny_pure h
theorem pick_rev (xs : Array Value) : ((List.range xs.size).filterMap fun (m : Nat) => xs[((xs.size : Int) - 1 + (m : Int) * (-1)).toNat]?).toArray = xs.toList.reverse.toArray := by
  have e : ((List.range xs.size).filterMap fun (m : Nat) => xs[((xs.size : Int) - 1 + (m : Int) * (-1)).toNat]?) = ((List.range xs.size).map fun k => xs.size - 1 - k).filterMap (xs[·]?) := by
    rw [List.filterMap_map]
    congr 1
    funext m
    show xs[((xs.size : Int) - 1 + (m : Int) * (-1)).toNat]? = xs[xs.size - 1 - m]?
    congr 1
    omega
  rw [e, PySem.W.krv_range, List.filterMap_reverse, PySem.W.krv_all]
theorem getItem_tuple_rev {t sl : Addr} {items : Array Value} {vl vu vs : Value} {Q : Value → Shared → Prop} (ht : IsTup s.heap t items) (hs : s.heap.IsSliceOf sl vl vu vs) (pl : IsPart vl none) (pu : IsPart vu none) (ps : IsPart vs (some (-1)))
    (h : Q (.ref s.heap.objs.size) { s with heap := s.heap.push { cls := .type "tuple", data := .seq items.toList.reverse.toArray } })
    (hsz : items.size ≤ sizeLine) : wpAny (model prog w) A (getItem (.ref t) (.ref sl)) Q E s := by
  have htake : sizeOk (.seq items.toList.reverse.toArray) := by
    show items.toList.reverse.toArray.size ≤ sizeLine
    rw [List.size_toArray, List.length_reverse, Array.length_toList]
    exact hsz
  obtain ⟨os, hos, hcs, hds⟩ := id hs
  have hTs : s.TypeIs (.ref sl) "slice" := ⟨os, hos, hcs⟩
  unfold getItem
  try with_reducible refine wpAny_holding ?_
  first | refine wpAny_bind (wpAny_pure ?_) | skip
  refine wpAny_bind (wpAny_sequenceKey ht.typeIs (by decide) ?_)
  refine wpAny_bind (wpAny_callSpecial?_slot (name := Str.ofString "__getitem__") ht.typeIs PyProof.Rows.slot_tuple_getitem
    (wpAny_call_entry PyProof.Rows.slot_tuple_getitem ht.typeIs entry_tuple_getitem ?_ (args_tuple_getitem _ _)))
  show wpAny _ _ (Builtin.Tuple.tupleItemsOf (.ref t) >>= _) _ _ s
  refine wpAny_bind (tupleItemsOf_ ht ?_)
  refine wpAny_bind (wpAny_typeOf hTs ?_)
  rw [if_pos (by decide)]
  refine wpAny_bind (sliceApplied_rev hs pl pu ps ?_)
  have hno : ¬ ((((items.size : Int) - 1) == 0 && (-1 : Int) == 1 && items.size == items.size) = true) := by
    simp
  show wpAny _ _ (if (((items.size : Int) - 1) == 0 && (-1 : Int) == 1 && items.size == items.size) = true then _ else _) _ _ s
  rw [if_neg hno, pick_rev]
  first
    | exact wpAny_bind (m := Builtin.Tuple.tupleExact _) (wpAny_newObj_type (wpAny_pure ⟨_, rfl, wpAny_pure h⟩) htake)
    | exact wpAny_bind (m := Builtin.Tuple.tupleExact _) (wpAny_newObj_type (wpAny_bind (wpAny_pure (wpAny_pure ⟨_, rfl, wpAny_pure h⟩))) htake)
    | exact wpAny_bind (wpAny_bind (m := Builtin.Tuple.tupleExact _) (wpAny_newObj_type (wpAny_pure (wpAny_pure ⟨_, rfl, wpAny_pure h⟩)) htake))
    | exact wpAny_bind (wpAny_bind (m := Builtin.Tuple.tupleExact _) (wpAny_newObj_type (wpAny_pure ⟨_, rfl, wpAny_pure h⟩) htake))
end
end L2
namespace L2
open PySem PySem.Spec PyProof.Rows
theorem str_rev_idx (z : Str) : (Builtin.Str.strSliceIndices none none (-1) z.length).filterMap (z.cps[·]?) = z.cps.toList.reverse := by
  have e : Builtin.Str.strSliceIndices none none (-1) z.length = (List.range z.cps.size).map fun k => z.cps.size - 1 - k := by
    show Builtin.Str.strSliceIndices none none (-1) z.cps.size = _
    unfold Builtin.Str.strSliceIndices
    have h1 : ¬ ((-1 : Int) > 0) := by decide
    simp only [h1, if_false]
    exact PySem.W.krv_sliceRange _
  rw [e, PySem.W.krv_range, List.filterMap_reverse, PySem.W.krv_all]
def tRevA (K : PySem.W.Frag) (te : TE) : TE := fun σ H Q => te σ H fun x H1 => (∃ a xs, x = .ref a ∧ SqL K H1 a xs ∧ ∀ p, H1 p = none → Q (.ref p) (upd H1 p (.lst xs.reverse))) ∨
  (∃ a xs, x = .ref a ∧ SqT K H1 a xs ∧ ∀ p, H1 p = none → Q (.ref p) (upd H1 p (.tup xs.reverse))) ∨ ∃ z : Str, x = .str z ∧ z.length ≤ sizeLine ∧ Q (.str ⟨z.cps.toList.reverse.toArray⟩) H1
theorem pe_revA {X : Cx} {e : Expr} {te : TE} {k : Nat} {p1 p2 p3 pos : Pos} (he : PE X e te) : PE X (.Subscript e (.Slice none none (some (.UnaryOp .USub (.Constant (.int 1) k p1) p2)) p3) pos) (tRevA X.K te) := by
  refine ⟨fun pins s σ H Q I h => ?_⟩
  refine Subscript_ (thn (he.run pins s σ H _ I h) fun v s1 ⟨x, H1, I1, r1, q1⟩ => ?_)
  have hst : PO X (some (.UnaryOp .USub (.Constant (.int 1) k p1) p2)) (tPart (tUn (rU fun i => .int (-i)) (tC (.int 1)))) := po_some (pe_un un_neg pe_int)
  refine wpAny_Slice (thn (po_none.run pins s1 σ H1 (fun o H2 => o = none ∧ H2 = H1) I1 ⟨rfl, rfl⟩) fun vl s2 ⟨l, H2, I2, pl, el, e2⟩ => ?_)
  subst el e2
  refine thn (po_none.run pins s2 σ H2 (fun o H3 => o = none ∧ H3 = H2) I2 ⟨rfl, rfl⟩) fun vu s3 ⟨u, H3, I3, pu, eu, e3⟩ => ?_
  subst eu e3
  refine thn (hst.run pins s3 σ H3 (fun o H4 => o = some (-1) ∧ H4 = H3) I3 ⟨1, rfl, -1, rfl, rfl, rfl⟩) fun vs s4 ⟨o, H4, I4, ps, eo, e4⟩ => ?_
  subst eo e4
  have I5 : Inv X pins σ H4 { s4 with heap := s4.heap.push { cls := .type "slice", data := .fields #[vl, vu, vs] } } := I4.kept (t' := s4.toks) fun b ob q => Heap.get?_push_of_some _ q
  show wpAny (model X.prog X.w) X.A (subscriptTail e (.Slice none none (some (.UnaryOp .USub (.Constant (.int 1) k p1) p2)) p3) v (.ref s4.heap.objs.size)) (EP X pins σ Q) X.xe { s4 with heap := s4.heap.push { cls := .type "slice", data := .fields #[vl, vu, vs] } }
  rcases q1 with ⟨a, xs, ex, hx, q⟩ | ⟨a, xs, ex, hx, q⟩ | ⟨z, ex, hz, q⟩
  · subst ex
    cases r1
    obtain ⟨its, r, ht, hz⟩ := I5.list hx
    have hlen := r.length
    refine tail_any (ops := [.ref a, .ref s4.heap.objs.size]) ht.isList.typeIs (PySem.slot_list_getitem.lookup) ?_ (by with_unfolding_all rfl)
    refine wpAny_getItem_list_slice ht.isList (Heap.IsSliceOf.new _ vl vu vs) pl pu ps (by decide) ?_ (by rw [List.size_toArray]; omega)
    rw [PySem.W.krv_pick]
    refine ⟨.ref _, _, I5.laid (t' := s4.toks) (o := .lst xs.reverse) (fun b ob q => Heap.get?_push_of_some _ q) (Nat.le_refl _) ?_, rfl, q _ (I5.hok.fresh (Nat.le_refl _))⟩
    exact ⟨by rw [List.length_reverse]; exact hz, _, 0, r.reverse, Heap.get?_push_size _ rfl⟩
  · subst ex
    cases r1
    obtain ⟨its, r, ht, hz⟩ := I5.tuple hx
    have hlen := r.length
    refine tail_any (ops := [.ref a, .ref s4.heap.objs.size]) ht.typeIs (PyProof.Rows.slot_tuple_getitem.lookup) ?_ (by with_unfolding_all rfl)
    refine getItem_tuple_rev ht (Heap.IsSliceOf.new _ vl vu vs) pl pu ps ?_ (by rw [List.size_toArray]; omega)
    refine ⟨.ref _, _, I5.laid (t' := s4.toks) (o := .tup xs.reverse) (fun b ob q => Heap.get?_push_of_some _ q) (Nat.le_refl _) ?_, rfl, q _ (I5.hok.fresh (Nat.le_refl _))⟩
    exact ⟨by rw [List.length_reverse]; exact hz, _, r.reverse, IsTup.new _ _⟩
  · subst ex
    obtain ⟨t, rfl⟩ := r1
    obtain ⟨l', rfl, el⟩ := IsPart.raw pl
    obtain ⟨u', rfl, eu⟩ := IsPart.raw pu
    obtain ⟨s', rfl, es⟩ := IsPart.raw ps
    have l0 : l' = none := by cases l' with
      | none => rfl
      | some _ => cases el
    have u0 : u' = none := by cases u' with
      | none => rfl
      | some _ => cases eu
    subst l0 u0
    refine tail_any (ops := [.str z t, .ref s4.heap.objs.size]) (typeIs_str _ _ _) F.slot_str_getitem.lookup ?_ (by with_unfolding_all rfl)
    refine wpAny_getItem_str_slice (l := none) (u := none) (st := s') ⟨_, Heap.get?_push_size _ rfl, rfl, rfl⟩ (by rw [es]; rfl) ?_
    unfold sliceMade
    have hn : ¬ (((s'.map (·.1)).getD 1 == 1 && (slicePicked z none none s').length == z.length) = true) := by
      rw [es]
      simp
    rw [if_neg hn]
    have e5 : (slicePicked z none none s').filterMap (z.cps[·]?) = z.cps.toList.reverse := by
      have : slicePicked z none none s' = Builtin.Str.strSliceIndices none none ((s'.map (·.1)).getD 1) z.length := rfl
      rw [this, es]
      exact str_rev_idx z
    rw [e5]
    refine ⟨?_, .str _, H4, I5.tok _, ⟨_, rfl⟩, q⟩
    show z.cps.toList.reverse.toArray.size ≤ sizeLine
    rw [List.size_toArray, List.length_reverse, Array.length_toList]
    exact hz
end L2
namespace Pd
variable {ℓ : Bool}
open PySem L2
variable {W : WX}
theorem Dens.atI {K : PySem.W.Frag} {g : Gh} {vs : List V} {ds : List D} (h : Dens K g vs ds) {i : Int} {d : D} (e : L2.atI ds i = some d) : ∃ v, L2.atI vs i = some v ∧ Den K g v d := by
  unfold L2.atI at e ⊢
  rw [h.length]
  cases z : ixN ds.length i with
  | none =>
    rw [z] at e
    cases e
  | some j =>
    rw [z] at e
    exact h.get e
def gIx : G2 := fun x y P => match y with
  | .int i => match x with
    | .lst xs => ∃ d, L2.atI xs i = some d ∧ P d
    | .tup xs => ∃ d, L2.atI xs i = some d ∧ P d
    | .tupK xs => ∃ d, L2.atI xs i = some d ∧ P d
    | .str l => l.length ≤ 16777216 ∧ ∃ c, L2.atI l i = some c ∧ P (.str [c])
    | .scr ns => ∃ k, L2.atI ns i = some k ∧ P (.int k)
    | _ => False
  | _ => False
theorem atI_map {α β : Type} (f : α → β) {xs : List α} {i : Int} {x : α} (h : L2.atI xs i = some x) : L2.atI (xs.map f) i = some (f x) := by
  unfold L2.atI at h ⊢
  rw [List.length_map]
  cases z : ixN xs.length i with
  | none =>
    rw [z] at h
    cases h
  | some j =>
    rw [z] at h
    have h' : xs[j]? = some x := h
    show (xs.map f)[j]? = some (f x)
    rw [List.getElem?_map, h']
    rfl
theorem so_ix {K : PySem.W.Frag} : SOp ℓ K (rIx K) gIx := ⟨fun {g H n x y dx dy P Q} ok ex ey q k => by
  cases ey with
  | int i =>
    cases ex with
    | lst h1 h2 =>
      obtain ⟨d, q1, q2⟩ := q
      obtain ⟨v, e, dv⟩ := h2.atI q1
      exact .inl ⟨_, _, i, v, rfl, rfl, SqL.of (ok.sub _ _ h1), e, k.flat ok q2 dv⟩
    | tup h1 h2 =>
      obtain ⟨d, q1, q2⟩ := q
      obtain ⟨v, e, dv⟩ := h2.atI q1
      exact .inr (.inl ⟨_, _, i, v, rfl, rfl, Or.inl (h1.same ok.sub), e, k.flat ok q2 dv⟩)
    | tupK h1 h2 =>
      obtain ⟨d, q1, q2⟩ := q
      obtain ⟨v, e, dv⟩ := h2.atI q1
      exact .inr (.inl ⟨_, _, i, v, rfl, rfl, h1 _, e, k.flat ok q2 dv⟩)
    | str l =>
      obtain ⟨hl, c, q1, q2⟩ := q
      exact .inr (.inr ⟨_, i, c, rfl, rfl, sz hl, q1, k.flat ok q2 (.str [c])⟩)
    | scr h =>
      obtain ⟨c, q1, q2⟩ := q
      exact .inl ⟨_, _, i, .int c, rfl, rfl, ok.sub.seq h, atI_map V.int q1, k.flat ok q2 (.int c)⟩
    | _ => exact q.elim
  | _ => exact q.elim⟩
def cut {α : Type} (xs : List α) (lo hi : Option Int) : List α := (xs.drop (HT.sIx xs.length 0 lo)).take (HT.sIx xs.length xs.length hi - HT.sIx xs.length 0 lo)
theorem cut_length {α : Type} (xs : List α) (lo hi : Option Int) : (cut xs lo hi).length ≤ xs.length := by
  unfold cut
  rw [List.length_take, List.length_drop]
  omega
abbrev DP := Nat → Ev → (Nat → Option Int → Prop) → Prop
def liftP (ℓ : Bool) (K : PySem.W.Frag) (d : DP) : TO := fun σ H Q => ∃ O g n ε P, Rp ℓ K O g H n σ ε ∧ d n ε P ∧ ∀ o g' H' n', P n' o → Stp g H g' H' → Ok ℓ K g' H' n' → Q o H'
def pNo : DP := fun n _ P => P n none
def pSome (d : DE) : DP := fun n ε P => d n ε fun n' x => match x with
  | .int i => P n' (some i)
  | _ => False
def gSl : D → Option Int → Option Int → (D → Prop) → Prop := fun x lo hi P => match x with
  | .lst xs => P (.lst (cut xs lo hi))
  | .tup xs => P (.tup (cut xs lo hi))
  | .str l => l.length ≤ 16777216 ∧ P (.str (cut l lo hi))
  | _ => False
def dSl (d : DE) (l h : DP) : DE := fun n ε P => d n ε fun n1 x => l n1 ε fun n2 lo => h n2 ε fun n3 hi => gSl x lo hi (P n3)
def rSl (K : PySem.W.Frag) : V → Option Int → Option Int → Hp → VK → Prop := fun x lo hi H Q => rSlL K x lo hi H Q ∨ rSlA K x lo hi H Q ∨ rSlS x lo hi H Q
theorem Dens.cut {K : PySem.W.Frag} {g : Gh} {vs : List V} {ds : List D} (h : Dens K g vs ds) (lo hi : Option Int) : Dens K g (cutV vs lo hi) (Pd.cut ds lo hi) := by
  unfold cutV Pd.cut
  rw [h.length]
  exact (h.drop _).take _
theorem cut_whole {α : Type} {xs : List α} {lo hi : Option Int} (h : HT.sIx xs.length 0 lo = 0 ∧ HT.sIx xs.length xs.length hi = xs.length) : cut xs lo hi = xs := by
  unfold cut
  rw [h.1, h.2]
  simp
section
variable {X : Cx} {pos p2 : Pos} {e : Expr} {lo hi : Option Expr} {a b : Expr} {d da db : DE} {dl dh : DP}
theorem dp_no : PO X none (liftP ℓ X.K pNo) := ⟨fun pins s σ H Q I ⟨O, g, n, ε, P, r, q, k⟩ => po_none.run pins s σ H Q I (k none g H n q (Stp.refl g H) r.ok)⟩
theorem dp_some (h : PE X e (liftE ℓ X.K d)) : PO X (some e) (liftP ℓ X.K (pSome d)) := ⟨fun pins s σ H Q I ⟨O, g, n, ε, P, r, q, k⟩ => (po_some h).run pins s σ H Q I ⟨O, g, n, ε, _, r, q, fun v g1 H1 n1 x q1 s1 o1 e1 => by
  cases e1 with
  | int i => exact ⟨i, rfl, k _ g1 H1 n1 q1 s1 o1⟩
  | _ => exact q1.elim⟩⟩
theorem de_ix (ha : PE X a (liftE ℓ X.K da)) (hb : PE X b (liftE ℓ X.K db)) (hs : PlainIx b := by intro _ _; rfl) : PE X (.Subscript a b pos) (liftE ℓ X.K (dOp gIx da db)) :=
  de_of (pe_ix ix_seq ha hb hs) fun O g H n σ ε P Q r q k => two_ok r q fun x y g' H' n' dx dy q2 s o e1 e2 => so_ix.ok o e1 e2 q2 (Fin.of k s)
theorem sl_ok {K : PySem.W.Frag} {g : Gh} {H : Hp} {n : Nat} {x : V} {dx : D} {l u : Option Int} {P : D → Prop} {Q : VK} (ok : Ok ℓ K g H n) (ex : Den K g x dx) (q : gSl dx l u P) (k : Fin ℓ K g H n P Q) : rSl K x l u H Q := by
  cases ex with
  | lst h1 h2 => exact .inl ⟨_, _, rfl, SqL.of (ok.sub _ _ h1), fun p hp => k.newL ok q (h2.cut l u) hp⟩
  | tup h1 h2 =>
    refine .inr (.inl ⟨_, _, rfl, Or.inl (h1.same ok.sub), fun w => ?_, fun _ p hp => k.newT ok q (h2.cut l u) hp⟩)
    rw [h2.length] at w
    have q' : P _ := q
    rw [cut_whole w] at q'
    exact k.flat ok q' (.tup h1 h2)
  | str s =>
    refine .inr (.inr ⟨_, rfl, sz q.1, ?_⟩)
    have q' := k.flat ok q.2 (.str _)
    have e : cutS ⟨s.toArray⟩ l u = ⟨(Pd.cut s l u).toArray⟩ := by
      unfold cutS Pd.cut
      rfl
    rw [e]
    exact q'
  | _ => exact q.elim
theorem de_sl (he : PE X e (liftE ℓ X.K d)) (hl : PO X lo (liftP ℓ X.K dl)) (hu : PO X hi (liftP ℓ X.K dh)) : PE X (.Subscript e (.Slice lo hi none p2) pos) (liftE ℓ X.K (dSl d dl dh)) :=
  de_of (pe_slice (r := rSl X.K) (sl_list.or (sl_tupA.or sl_str)) he hl hu) fun O g H n σ ε P Q r q k => ⟨O, g, n, ε, _, r, q, fun v g1 H1 n1 x q1 s1 o1 e1 => ⟨O, g1, n1, ε, _, r.step s1 o1, q1, fun l g2 H2 n2 q2 s2 o2 => ⟨O, g2, n2, ε, _, (r.step s1 o1).step s2 o2, q2, fun u g3 H3 n3 q3 s3 o3 =>
    sl_ok o3 (e1.mono (s2.trans s3).ext) q3 (Fin.of k ((s1.trans s2).trans s3))⟩⟩⟩
def dRev (d : DE) : DE := fun n ε P => d n ε fun n1 x => match x with
  | .lst xs => P n1 (.lst xs.reverse)
  | .tup xs => P n1 (.tup xs.reverse)
  | .str l => l.length ≤ 16777216 ∧ P n1 (.str l.reverse)
  | _ => False
theorem de_rev {k : Nat} {p1 p3 : Pos} (he : PE X e (liftE ℓ X.K d)) : PE X (.Subscript e (.Slice none none (some (.UnaryOp .USub (.Constant (.int 1) k p1) p2)) p3) pos) (liftE ℓ X.K (dRev d)) :=
  de_of (pe_revA he) fun O g H n σ ε P Q r q kk => ⟨O, g, n, ε, _, r, q, fun v g1 H1 n1 x q1 s1 o1 e1 => by
    have f : Fin ℓ X.K g1 H1 n1 (P n1) Q := Fin.of kk s1
    cases e1 with
    | lst h1 h2 => exact .inl ⟨_, _, rfl, SqL.of (o1.sub _ _ h1), fun p hp => f.newL o1 q1 h2.reverse hp⟩
    | tup h1 h2 => exact .inr (.inl ⟨_, _, rfl, Or.inl (h1.same o1.sub), fun p hp => f.newT o1 q1 h2.reverse hp⟩)
    | str s => exact .inr (.inr ⟨_, rfl, sz q1.1, f.flat o1 q1.2 (.str _)⟩)
    | _ => exact q1.elim⟩
def dTmp (i : Nat) (d : DE) : DE := fun n ε P => d n (frzE ε i) fun n' r => flatD r = true ∧ P n' r
def dTmpT (i : Nat) (t : DT) : DT := fun n ε P => t n (frzE ε i) P
theorem dt_tmp {t : DT} (i : Nat) (h : PT X e (liftT false X.K t)) : PT X e (liftT false X.K (dTmpT i t)) := pt_w h fun σ H Q ⟨O, g, n, ε, P, r, q, k⟩ => by
  obtain ⟨g1, r1, back⟩ := r.tmp i
  exact ⟨O, g1, n, _, _, r1, q, fun v g' H' n' q1 s1 o1 => by
    obtain ⟨g2, s2, o2⟩ := back g' H' n' s1 o1
    exact k v g2 H' n' q1 s2 o2⟩
def dIxO (i : Nat) (d : DE) : DE := fun n ε P => match ε[i]? with
  | some (.own (.lst ds)) => d n ε fun n1 x => match x with
    | .int j => ∃ y, L2.atI ds j = some y ∧ P n1 y
    | _ => False
  | _ => False
theorem de_ixO {i : Nat} (ha : PE X a (tVar i)) (hb : PE X b (liftE ℓ X.K db)) (hs : PlainIx b := by intro _ _; rfl) : PE X (.Subscript a b pos) (liftE ℓ X.K (dIxO i db)) :=
  de_of (pe_ix ix_seq ha hb hs) fun O g H n σ ε P Q r q k => by
    unfold dIxO at q
    split at q
    · rename_i ds ei
      obtain ⟨p, o, w1, w2, w3, w4, w5, w6⟩ := r.sl i _ ei
      refine ⟨_, w1, O, g, n, ε, _, r, q, fun v g1 H1 n1 x q1 s1 o1 e1 => ?_⟩
      cases e1 with
      | int j =>
        obtain ⟨y, q2, q3⟩ := q1
        obtain ⟨vs, rfl, dd⟩ := w6
        obtain ⟨u, e, du⟩ := (dd.mono s1.ext).atI q2
        have hp : H1 p = some (.lst vs) := s1.kep p _ w5 w4
        exact .inl ⟨p, vs, j, u, rfl, rfl, SqL.of hp, e, k u g1 H1 n1 y q3 s1 o1 du⟩
      | _ => exact q1.elim
    · exact q.elim
def dSlO (i : Nat) (l h : DP) : DE := fun n ε P => match ε[i]? with
  | some (.own (.lst ds)) => l n ε fun n2 lo => h n2 ε fun n3 hi => P n3 (.lst (cut ds lo hi))
  | _ => False
theorem de_slO {i : Nat} (he : PE X e (tVar i)) (hl : PO X lo (liftP ℓ X.K dl)) (hu : PO X hi (liftP ℓ X.K dh)) : PE X (.Subscript e (.Slice lo hi none p2) pos) (liftE ℓ X.K (dSlO i dl dh)) :=
  de_of (pe_slice sl_list he hl hu) fun O g H n σ ε P Q r q k => by
    unfold dSlO at q
    split at q
    · rename_i ds ei
      obtain ⟨p, o, w1, w2, w3, w4, w5, w6⟩ := r.sl i _ ei
      refine ⟨_, w1, O, g, n, ε, _, r, q, fun l g2 H2 n2 q2 s2 o2 => ⟨O, g2, n2, ε, _, r.step s2 o2, q2, fun u g3 H3 n3 q3 s3 o3 => ?_⟩⟩
      obtain ⟨vs, rfl, dd⟩ := w6
      have s23 := s2.trans s3
      have hp : H3 p = some (.lst vs) := s23.kep p _ w5 w4
      exact ⟨p, vs, rfl, SqL.of hp, fun a ha => (Fin.of k s23).newL o3 q3 ((dd.mono s23.ext).cut l u) ha⟩
    · exact q.elim
def dApp (i : Nat) (d : DE) : DS := fun N n ε => match ε[i]? with
  | some (.own (.lst ds)) => d n ε fun n1 x => ds.length < 16777216 ∧ N.nx n1 (ε.set i (.own (.lst (ds ++ [x]))))
  | _ => False
def dExt (i : Nat) (d : DE) : DS := fun N n ε => match ε[i]? with
  | some (.own (.lst ds)) => d n ε fun n1 x => match x with
    | .lst es => ds.length + es.length ≤ 16777216 ∧ N.nx n1 (ε.set i (.own (.lst (ds ++ es))))
    | _ => False
  | _ => False
def dSetI (i : Nat) (dk d : DE) : DS := fun N n ε => match ε[i]? with
  | some (.own (.lst ds)) => d n ε fun n1 x => dk n1 ε fun n2 y => match y with
    | .int k => ∃ j, ixN ds.length k = some j ∧ N.nx n2 (ε.set i (.own (.lst (ds.set j x))))
    | _ => False
  | _ => False
def dAugI (f : Int → Int → Int) (i : Nat) (d : DE) : DS := fun N n ε => match ε[i]? with
  | some (.val (.int a)) => d n ε fun n1 y => match y with
    | .int b => N.nx n1 (ε.set i (.val (.int (f a b))))
    | _ => False
  | _ => False
end
theorem tyV_own {K : PySem.W.Frag} {H : Hp} {p : Addr} {vs : List V} (h : H p = some (.lst vs)) : tyV K "list" (.ref p) H := .inl ⟨rfl, vs, SqL.of h⟩
section
variable {X : Cx} {pos apos p2 : Pos} {o e : Expr} {d di : DE} {i : Nat}
theorem ds_app (ho : PE X o (tVar i)) (he : PE X e (liftE ℓ X.K d)) (hs : swapsWith (.Call (.Attribute o "append" apos) [e] [] pos) none p2.line X.env = pure false := by rfl)
    (hbase : attributeBase o "append" X.env (eval o X.env) = eval o X.env := by rfl)
    (hfew : ((backTo pos (starEach [e] X.env)).all (fun x => !x.1) && (backToKw pos (keywordEach [] X.env)).all (fun x => x.1.isSome)
      && decide (([e] : List Expr).length + ([] : List Keyword).length + (if ([] : List Keyword).isEmpty then 0 else 1) < 30)) = true := by rfl)
    (hline : (apos.endLine == pos.line) = true := by rfl) (hst : starEach [e] X.env = (false, eval e X.env) :: starEach [] X.env := by rfl) : PS X (.Expr (.Call (.Attribute o "append" apos) [e] [] pos) p2) (liftS ℓ W X.K (dApp i d)) :=
  ps_w (ps_expr (pe_bm PySem.F.plainAttrs_list PySem.F.slot_list_append PySem.F.type_list_append mt_append ho (pa_cons he pa_nil hst) hbase hfew hline hst) hs) fun E σ H ⟨U, g0, H0, g, n, ε, N, uo, r, s0, q, k1, k2, k3, k4⟩ => by
    unfold dApp at q
    split at q
    · rename_i ds ei
      obtain ⟨p, ob, w1, w2, w3, w4, w5, w6⟩ := r.sl i _ ei
      obtain ⟨vs, rfl, dd⟩ := w6
      refine ⟨_, w1, tyV_own w5, _, g, n, ε, _, r, q, fun v g1 H1 n1 x q1 s1 o1 e1 => ?_⟩
      obtain ⟨hl, q2⟩ := q1
      have hp : H1 p = some (.lst vs) := s1.kep p _ w5 w4
      refine ⟨p, vs, v, rfl, rfl, hp, by rw [dd.length, sizeLine_eq]; exact hl, ?_⟩
      have r1 := r.step s1 o1
      exact k1 σ g1 _ n1 _ q2 (r1.mut ei w1 ⟨_, rfl, (dd.mono s1.ext).append (.cons e1 .nil)⟩ fun z => ⟨z.1, uo.lst _ _⟩) ((s0.trans s1).mut w2.1)
    · exact q.elim
theorem ds_ext (ho : PE X o (tVar i)) (he : PE X e (liftE ℓ X.K d)) (hs : swapsWith (.Call (.Attribute o "extend" apos) [e] [] pos) none p2.line X.env = pure false := by rfl)
    (hbase : attributeBase o "extend" X.env (eval o X.env) = eval o X.env := by rfl)
    (hfew : ((backTo pos (starEach [e] X.env)).all (fun x => !x.1) && (backToKw pos (keywordEach [] X.env)).all (fun x => x.1.isSome)
      && decide (([e] : List Expr).length + ([] : List Keyword).length + (if ([] : List Keyword).isEmpty then 0 else 1) < 30)) = true := by rfl)
    (hline : (apos.endLine == pos.line) = true := by rfl) (hst : starEach [e] X.env = (false, eval e X.env) :: starEach [] X.env := by rfl) : PS X (.Expr (.Call (.Attribute o "extend" apos) [e] [] pos) p2) (liftS ℓ W X.K (dExt i d)) :=
  ps_w (ps_expr (pe_bm PySem.F.plainAttrs_list PySem.F.slot_list_extend PySem.F.type_list_extend mt_extend ho (pa_cons he pa_nil hst) hbase hfew hline hst) hs) fun E σ H ⟨U, g0, H0, g, n, ε, N, uo, r, s0, q, k1, k2, k3, k4⟩ => by
    unfold dExt at q
    split at q
    · rename_i ds ei
      obtain ⟨p, ob, w1, w2, w3, w4, w5, w6⟩ := r.sl i _ ei
      obtain ⟨vs, rfl, dd⟩ := w6
      refine ⟨_, w1, tyV_own w5, _, g, n, ε, _, r, q, fun v g1 H1 n1 x q1 s1 o1 e1 => ?_⟩
      cases e1 with
      | lst h1 h2 =>
        obtain ⟨hl, q2⟩ := q1
        have hp : H1 p = some (.lst vs) := s1.kep p _ w5 w4
        refine ⟨p, _, vs, _, rfl, rfl, hp, o1.sub _ _ h1, by rw [dd.length, h2.length]; exact sz hl, ?_⟩
        have r1 := r.step s1 o1
        exact k1 σ g1 _ n1 _ q2 (r1.mut ei w1 ⟨_, rfl, (dd.mono s1.ext).append h2⟩ fun z => ⟨z.1, uo.lst _ _⟩) ((s0.trans s1).mut w2.1)
      | _ => exact q1.elim
    · exact q.elim
theorem Dens.len {K : PySem.W.Frag} {g : Gh} {vs : List V} {ds : List D} (h : Dens K g vs ds) : vs.length = ds.length := h.length
theorem ds_setI {ix : Expr} (ho : PE X o (tVar i)) (hi : PE X ix (liftE ℓ X.K di)) (he : PE X e (liftE ℓ X.K d)) (hs : swapsWithSole [.Subscript o ix pos] e p2.line X.env = pure false := by rfl) (hw : swappedStores [.Subscript o ix pos] e X.env = pure none := by rfl)
    (h1 : (assignEach [.Subscript o ix pos] X.env).map (·.2) = [assign (.Subscript o ix pos) X.env] := by rfl)
    (ha : ∀ v, assign (.Subscript o ix pos) X.env v = (do
      let ov ← holding [v] (eval o X.env)
      let iv ← holding [v, ov] (eval ix X.env)
      standAt pos
      holding [v, ov, iv] (setItem ov iv v)
      release [v, ov, iv] []) := by intro _; rfl) : PS X (.Assign [.Subscript o ix pos] e p2) (liftS ℓ W X.K (dSetI i di d)) :=
  ps_w (ps_asg he (pg_sub ho hi set_list ha) hs hw h1) fun E σ H ⟨U, g0, H0, g, n, ε, N, uo, r, s0, q, k1, k2, k3, k4⟩ => by
    unfold dSetI at q
    split at q
    · rename_i ds ei
      obtain ⟨p, ob, w1, w2, w3, w4, w5, w6⟩ := r.sl i _ ei
      obtain ⟨vs, rfl, dd⟩ := w6
      refine ⟨_, g, n, ε, _, r, q, fun v g1 H1 n1 x q1 s1 o1 e1 => ⟨_, w1, _, g1, n1, ε, _, r.step s1 o1, q1, fun y g2 H2 n2 z q2 s2 o2 e2 => ?_⟩⟩
      cases e2 with
      | int k =>
        obtain ⟨j, hj, q3⟩ := q2
        have s12 := s1.trans s2
        have hp : H2 p = some (.lst vs) := s12.kep p _ w5 w4
        refine ⟨p, vs, k, j, rfl, rfl, hp, by rw [dd.length]; exact hj, ?_⟩
        have r1 := r.step s12 o2
        exact k1 σ g2 _ n2 _ q3 (r1.mut ei w1 ⟨_, rfl, (dd.mono s12.ext).set (e1.mono s2.ext) j⟩ fun z => ⟨z.1, uo.lst _ _⟩) ((s0.trans s12).mut w2.1)
      | _ => exact q2.elim
    · exact q.elim
end
abbrev GC := List D → (D → Prop) → Prop
structure SCall (ℓ : Bool) (K : PySem.W.Frag) (r : List V → Hp → VK → Prop) (go : GC) : Prop where
  ok : ∀ {g : Gh} {H : Hp} {n : Nat} {xs : List V} {ds : List D} {P : D → Prop} {Q : VK}, Ok ℓ K g H n → Dens K g xs ds → go ds P → Fin ℓ K g H n P Q → r xs H Q
def dBi (go : GC) (t : DA) : DE := fun n ε P => t n ε fun n1 ds => go ds (P n1)
section
variable {X : Cx} {pos p : Pos} {e : Expr} {es : List Expr} {r : List V → Hp → VK → Prop} {go : GC} {t : DA} {id T : String} {x : Str}
theorem bi_ok {K : PySem.W.Frag} (hs : SCall ℓ K r go) : ∀ {σ : L2.St} {H : Hp} {Q : VK}, liftE ℓ K (dBi go t) σ H Q → liftA ℓ K t σ H fun xs H1 => r xs H1 Q := fun {σ H Q} ⟨O, g, n, ε, P, rr, q, k⟩ =>
  ⟨O, g, n, ε, _, rr, q, fun vs g1 H1 n1 ds q1 s1 o1 e1 => hs.ok o1 e1 q1 (Fin.of k s1)⟩
theorem de_bi (hc : CallR X (.builtin id) r) (hs : SCall ℓ X.K r go) (hg : Gl X x) (hm : X.mg x = none) (hv : bootBuiltins x = some (.builtin id)) (ha : PA X (e :: es) (liftA ℓ X.K t)) (hn : x ≠ "__name__" := by decide) (hdb : (x == ("__debug__" : Str)) = false := by decide)
    (he : starEach (e :: es) X.env = (false, eval e X.env) :: starEach es X.env := by rfl) (hpl : (backTo pos (starEach es X.env)).any (·.1) = false := by rfl) : PE X (.Call (.Name x p) (e :: es) [] pos) (liftE ℓ X.K (dBi go t)) :=
  pe_w (pe_callB hc hg hm hv ha hn hdb he hpl) fun σ H Q h => bi_ok hs h
theorem de_ty (hc : CallR X (.type T) r) (hs : SCall ℓ X.K r go) (hg : Gl X x) (hm : X.mg x = none) (hv : bootBuiltins x = some (.type T)) (ha : PA X (e :: es) (liftA ℓ X.K t)) (hn : x ≠ "__name__" := by decide) (hdb : (x == ("__debug__" : Str)) = false := by decide)
    (he : starEach (e :: es) X.env = (false, eval e X.env) :: starEach es X.env := by rfl) (hpl : (backTo pos (starEach es X.env)).any (·.1) = false := by rfl) : PE X (.Call (.Name x p) (e :: es) [] pos) (liftE ℓ X.K (dBi go t)) :=
  pe_w (pe_callTy hc hg hm hv ha hn hdb he hpl) fun σ H Q h => bi_ok hs h
end
end Pd
namespace Pd
variable {ℓ : Bool}
open PySem L2
def gAbs : GC := fun ds P => match ds with
  | [.int i] => P (.int (if i < 0 then -i else i))
  | _ => False
def gInt : GC := fun ds P => match ds with
  | [.int i] => P (.int i)
  | [.bl b] => P (.int (if b then 1 else 0))
  | [.str l] => l.length ≤ 640 ∧ ∃ n, PySem.intText? ⟨l.toArray⟩ = some n ∧ P (.int n)
  | _ => False
def numD (i : Int) : List Nat := (toString i : Str).cps.toList
def gStr : GC := fun ds P => match ds with
  | [.int i] => i.natAbs.log2 < 1920 ∧ P (.str (numD i))
  | [.str l] => P (.str l)
  | _ => False
def gLen : GC := fun ds P => match ds with
  | [.lst xs] => P (.int xs.length)
  | [.tup xs] => P (.int xs.length)
  | [.str l] => l.length ≤ 16777216 ∧ P (.int l.length)
  | [.scr ns] => P (.int ns.length)
  | _ => False
def sgn (l : List Nat) : List D := l.map fun c => .str [c]
def gList : GC := fun ds P => match ds with
  | [.lst xs] => P (.lst xs)
  | [.tup xs] => P (.lst xs)
  | [.tupK xs] => P (.lst xs)
  | [.str l] => l.length ≤ 16777216 ∧ P (.lst (sgn l))
  | _ => False
def gTuple : GC := fun ds P => match ds with
  | [.lst xs] => P (.tup xs)
  | [.tup xs] => P (.tup xs)
  | [.str l] => l.length ≤ 16777216 ∧ P (.tup (sgn l))
  | _ => False
def isInts : List D → Option (List Int)
  | [] => some []
  | .int i :: r => (isInts r).map (i :: ·)
  | _ :: _ => none
theorem isInts_map : ∀ {ds : List D} {ns : List Int}, isInts ds = some ns → ds = ns.map D.int
  | [], ns, h => by
    cases h
    rfl
  | .int i :: r, ns, h => by
    rw [isInts] at h
    cases e : isInts r with
    | none =>
      rw [e] at h
      cases h
    | some ms =>
      rw [e] at h
      cases h
      rw [isInts_map e]
      rfl
  | .non :: _, _, h => by cases h
  | .bl _ :: _, _, h => by cases h
  | .str _ :: _, _, h => by cases h
  | .lst _ :: _, _, h => by cases h
  | .tup _ :: _, _, h => by cases h
  | .obj _ _ :: _, _, h => by cases h
  | .pot :: _, _, h => by cases h
  | .cel _ _ :: _, _, h => by cases h
  | .scr _ :: _, _, h => by cases h
  | .ref _ :: _, _, h => by cases h
def isBls : List D → Option (List Bool)
  | [] => some []
  | .bl i :: r => (isBls r).map (i :: ·)
  | _ :: _ => none
theorem isBls_map : ∀ {ds : List D} {ns : List Bool}, isBls ds = some ns → ds = ns.map D.bl
  | [], ns, h => by
    cases h
    rfl
  | .bl i :: r, ns, h => by
    rw [isBls] at h
    cases e : isBls r with
    | none =>
      rw [e] at h
      cases h
    | some ms =>
      rw [e] at h
      cases h
      rw [isBls_map e]
      rfl
  | .non :: _, _, h => by cases h
  | .int _ :: _, _, h => by cases h
  | .str _ :: _, _, h => by cases h
  | .lst _ :: _, _, h => by cases h
  | .tup _ :: _, _, h => by cases h
  | .obj _ _ :: _, _, h => by cases h
  | .pot :: _, _, h => by cases h
  | .cel _ _ :: _, _, h => by cases h
  | .scr _ :: _, _, h => by cases h
  | .ref _ :: _, _, h => by cases h
theorem map_isBls : ∀ (ns : List Bool), isBls (ns.map D.bl) = some ns
  | [] => rfl
  | n :: ns => by
    rw [List.map_cons, isBls, map_isBls ns]
    rfl
def isStrs : List D → Option (List (List Nat))
  | [] => some []
  | .str i :: r => (isStrs r).map (i :: ·)
  | _ :: _ => none
theorem isStrs_map : ∀ {ds : List D} {ns : List (List Nat)}, isStrs ds = some ns → ds = ns.map D.str
  | [], ns, h => by
    cases h
    rfl
  | .str i :: r, ns, h => by
    rw [isStrs] at h
    cases e : isStrs r with
    | none =>
      rw [e] at h
      cases h
    | some ms =>
      rw [e] at h
      cases h
      rw [isStrs_map e]
      rfl
  | .non :: _, _, h => by cases h
  | .int _ :: _, _, h => by cases h
  | .bl _ :: _, _, h => by cases h
  | .lst _ :: _, _, h => by cases h
  | .tup _ :: _, _, h => by cases h
  | .obj _ _ :: _, _, h => by cases h
  | .pot :: _, _, h => by cases h
  | .cel _ _ :: _, _, h => by cases h
  | .scr _ :: _, _, h => by cases h
  | .ref _ :: _, _, h => by cases h
theorem map_isStrs : ∀ (ns : List (List Nat)), isStrs (ns.map D.str) = some ns
  | [] => rfl
  | n :: ns => by
    rw [List.map_cons, isStrs, map_isStrs ns]
    rfl
def gMax : GC := fun ds P => match ds with
  | [.int i, .int j] => P (.int (if j > i then j else i))
  | [.lst xs] => ∃ ns, isInts xs = some ns ∧ 0 < ns.length ∧ ∀ m, m ∈ ns → (∀ y, y ∈ ns → y ≤ m) → P (.int m)
  | _ => False
def gMin : GC := fun ds P => match ds with
  | [.int i, .int j] => P (.int (if j < i then j else i))
  | [.lst xs] => ∃ ns, isInts xs = some ns ∧ 0 < ns.length ∧ ∀ m, m ∈ ns → (∀ y, y ∈ ns → m ≤ y) → P (.int m)
  | _ => False
def gAny : GC := fun ds P => match ds with
  | [.lst xs] => ∃ ns, isBls xs = some ns ∧ P (.bl (ns.any id))
  | _ => False
def gAll : GC := fun ds P => match ds with
  | [.lst xs] => ∃ ns, isBls xs = some ns ∧ P (.bl (ns.all id))
  | _ => False
section
variable {X : Cx}
theorem so_abs : SCall ℓ X.K (fun xs H Q => ∃ i, xs = [.int i] ∧ Q (.int (if i < 0 then -i else i)) H) gAbs := ⟨fun {g H n xs ds P Q} ok ex q k => by
  match ds, ex, q with
  | [.int i], .cons (.int _) .nil, q => exact ⟨i, rfl, k.flat ok q (.int _)⟩⟩
def rIntA : List V → Hp → VK → Prop := fun xs H Q => ((∃ i, xs = [.int i] ∧ Q (.int i) H) ∨ ∃ k, xs = [.bl k] ∧ Q (.int (if k then 1 else 0)) H) ∨ ∃ a n, xs = [.str a] ∧ PySem.intText? a = some n ∧ a.length ≤ 640 ∧ Q (.int n) H
theorem call_intA : CallR X (.type "int") rIntA := call_int1.or call_int_str
theorem so_int : SCall ℓ X.K rIntA gInt := ⟨fun {g H n xs ds P Q} ok ex q k => by
  match ds, ex, q with
  | [.int i], .cons (.int _) .nil, q => exact .inl (.inl ⟨i, rfl, k.flat ok q (.int _)⟩)
  | [.bl b], .cons (.bl _) .nil, q => exact .inl (.inr ⟨b, rfl, k.flat ok q (.int _)⟩)
  | [.str l], .cons (.str _) .nil, q =>
    obtain ⟨q0, n, q1, q2⟩ := q
    exact .inr ⟨_, n, rfl, q1, by simpa [Str.length] using q0, k.flat ok q2 (.int _)⟩⟩
def rLenA (K : PySem.W.Frag) : List V → Hp → VK → Prop := fun xs H Q => (∃ p ys, xs = [.ref p] ∧ (SqL K H p ys ∨ SqT K H p ys) ∧ Q (.int ys.length) H) ∨ ∃ z : Str, xs = [.str z] ∧ z.length ≤ sizeLine ∧ Q (.int z.length) H
theorem call_lenA : CallR X (.builtin "len") (rLenA X.K) := call_len_seq.or call_len_str
theorem so_len : SCall ℓ X.K (rLenA X.K) gLen := ⟨fun {g H n xs ds P Q} ok ex q k => by
  match ds, ex, q with
  | [.lst l], .cons (.lst h1 h2) .nil, q => exact .inl ⟨_, _, rfl, .inl (SqL.of (ok.sub _ _ h1)), by rw [h2.length]; exact k.flat ok q (.int _)⟩
  | [.tup l], .cons (.tup h1 h2) .nil, q => exact .inl ⟨_, _, rfl, .inr (Or.inl (h1.same ok.sub)), by rw [h2.length]; exact k.flat ok q (.int _)⟩
  | [.str l], .cons (.str _) .nil, q =>
    refine .inr ⟨_, rfl, sz (by simpa [Str.length] using q.1), ?_⟩
    rw [show ((⟨l.toArray⟩ : Str).length : Int) = (l.length : Int) by simp [Str.length]]
    exact k.flat ok q.2 (.int _)
  | [.scr ns], .cons (.scr h) .nil, q => exact .inl ⟨_, _, rfl, .inl (ok.sub.seq h), by rw [List.length_map]; exact k.flat ok q (.int _)⟩⟩
def sgnV (z : Str) : List V := z.cps.toList.map fun c => .str ⟨#[c]⟩
theorem vals_sgn {z : Str} {acc : Array Value} (h : ItemsOf (SignAt z) acc z.cps.size) : Vals (sgnV z) acc.toList := by
  refine vals_of_at (by unfold sgnV; rw [List.length_map, Array.length_toList, Array.length_toList, h.1]) fun j x u e1 e2 => ?_
  obtain ⟨c, t, e3, rfl⟩ := h.2 j u (by simpa using e2)
  unfold sgnV at e1
  rw [List.getElem?_map] at e1
  have e4 : z.cps.toList[j]? = some c := by simpa using e3
  rw [e4] at e1
  cases e1
  exact ⟨t, rfl⟩
def rListT : List V → Hp → VK → Prop := fun xs H Q => ∃ z : Str, xs = [.str z] ∧ z.length ≤ sizeLine ∧ ∀ p, H p = none → Q (.ref p) (upd H p (.lst (sgnV z)))
theorem call_listT (hc : X.calm = true) : CallR X (.type "list") rListT := by
  intro pins s σ H xs us Q I r h
  obtain ⟨z, rfl, hz, q⟩ := h
  cases r with
  | cons r0 r1 =>
    cases r1
    obtain ⟨t, rfl⟩ := r0
    refine call_list_str (I.ok.hd hc) z t (hn := hz) fun h' tk acc' c' hk hS' hacc => ?_
    refine ⟨.ref _, upd H s.heap.objs.size (.lst (sgnV z)), I.laid (t' := tk) hk (Nat.le_refl _) ⟨?_, acc'.toList, c', vals_sgn hacc, by simpa using hS'⟩, rfl, q _ (I.hok.fresh (Nat.le_refl _))⟩
    unfold sgnV
    rw [List.length_map, Array.length_toList]
    exact hz
def rListA (K : PySem.W.Frag) : List V → Hp → VK → Prop := fun xs H Q => (∃ p ys, xs = [.ref p] ∧ (SqL K H p ys ∨ SqT K H p ys) ∧ ∀ l, H l = none → Q (.ref l) (upd H l (.lst ys))) ∨ rListT xs H Q
theorem call_listA (hc : X.calm = true) : CallR X (.type "list") (rListA X.K) := call_list_of.or (call_listT hc)
theorem dens_sgn {K : PySem.W.Frag} {g : Gh} (l : List Nat) : Dens K g (sgnV ⟨l.toArray⟩) (sgn l) := by
  unfold sgnV sgn
  induction l with
  | nil => exact .nil
  | cons c l ih => exact .cons (.str [c]) (by simpa using ih)
def rTupT : List V → Hp → VK → Prop := fun xs H Q => ∃ z : Str, xs = [.str z] ∧ z.length ≤ sizeLine ∧ ∀ p, H p = none → Q (.ref p) (upd H p (.tup (sgnV z)))
theorem call_tupT (hc : X.calm = true) : CallR X (.type "tuple") rTupT := by
  intro pins s σ H xs us Q I r h
  obtain ⟨z, rfl, hz, q⟩ := h
  cases r with
  | cons r0 r1 =>
    cases r1
    obtain ⟨t, rfl⟩ := r0
    refine call_tuple_str (I.ok.hd hc) z t (hsz := hz) fun h' tk acc' hk hacc => ?_
    have hlen : (sgnV z).length ≤ sizeLine := by
      unfold sgnV
      rw [List.length_map, Array.length_toList]
      exact hz
    have I2 : Inv X pins σ H { s with heap := h', toks := tk } := I.kept hk
    refine ⟨.ref h'.objs.size, upd H h'.objs.size (.tup (sgnV z)), I2.laid (t' := tk) (fun c o e => Heap.get?_push_of_some _ e) (Nat.le_refl _) (show ObjOk X.prog X.w _ _ _ (.tup (sgnV z)) from ⟨hlen, acc'.toList, vals_sgn hacc, ?_⟩), rfl, q _ (I2.hok.fresh (Nat.le_refl _))⟩
    rw [Array.toArray_toList]
    exact PyProof.Rows.IsTup.new _ _
def rTupA (K : PySem.W.Frag) : List V → Hp → VK → Prop := fun xs H Q => (∃ p ys, xs = [.ref p] ∧ ((SqL K H p ys ∧ ∀ l, H l = none → Q (.ref l) (upd H l (.tup ys))) ∨ (SqT K H p ys ∧ Q (.ref p) H))) ∨ rTupT xs H Q
theorem call_tupA (hc : X.calm = true) : CallR X (.type "tuple") (rTupA X.K) := call_tuple_of.or (call_tupT hc)
theorem so_tuple : SCall ℓ X.K (rTupA X.K) gTuple := ⟨fun {g H n xs ds P Q} ok ex q k => by
  match ds, ex, q with
  | [.lst l], .cons (.lst h1 h2) .nil, q => exact .inl ⟨_, _, rfl, .inl ⟨SqL.of (ok.sub _ _ h1), fun p hp => k.newT ok q h2 hp⟩⟩
  | [.tup l], .cons (.tup h1 h2) .nil, q => exact .inl ⟨_, _, rfl, .inr ⟨Or.inl (h1.same ok.sub), k.flat ok q (.tup h1 h2)⟩⟩
  | [.str l], .cons (.str _) .nil, q => exact .inr ⟨_, rfl, sz (by simpa [Str.length] using q.1), fun p hp => k.newT ok q.2 (dens_sgn l) hp⟩⟩
def rMaxA (K : PySem.W.Frag) : List V → Hp → VK → Prop := fun xs H Q => (∃ i j, xs = [.int i, .int j] ∧ Q (.int (if j > i then j else i)) H) ∨ rMax K xs H Q
def rMinA (K : PySem.W.Frag) : List V → Hp → VK → Prop := fun xs H Q => (∃ i j, xs = [.int i, .int j] ∧ Q (.int (if j < i then j else i)) H) ∨ rMin K xs H Q
theorem call_maxA (hc : X.calm = true) : CallR X (.builtin "max") (rMaxA X.K) := (call_max2 hc).or (cr_max hc)
theorem call_minA (hc : X.calm = true) : CallR X (.builtin "min") (rMinA X.K) := (call_min2 hc).or (cr_min hc)
theorem so_max : SCall ℓ X.K (rMaxA X.K) gMax := ⟨fun {g H n xs ds P Q} ok ex q k => by
  match ds, ex, q with
  | [.int i, .int j], .cons (.int _) (.cons (.int _) .nil), q => exact .inl ⟨i, j, rfl, k.flat ok q (.int _)⟩
  | [.lst l], .cons (.lst h1 h2) .nil, q =>
    obtain ⟨ns, q0, q1, q2⟩ := q
    have e := isInts_map q0
    subst e
    have ev := h2.ints
    subst ev
    exact .inr ⟨_, ns, rfl, SqL.of (ok.sub _ _ h1), q1, fun m m1 m2 => k.flat ok (q2 m m1 m2) (.int _)⟩⟩
theorem so_min : SCall ℓ X.K (rMinA X.K) gMin := ⟨fun {g H n xs ds P Q} ok ex q k => by
  match ds, ex, q with
  | [.int i, .int j], .cons (.int _) (.cons (.int _) .nil), q => exact .inl ⟨i, j, rfl, k.flat ok q (.int _)⟩
  | [.lst l], .cons (.lst h1 h2) .nil, q =>
    obtain ⟨ns, q0, q1, q2⟩ := q
    have e := isInts_map q0
    subst e
    have ev := h2.ints
    subst ev
    exact .inr ⟨_, ns, rfl, SqL.of (ok.sub _ _ h1), q1, fun m m1 m2 => k.flat ok (q2 m m1 m2) (.int _)⟩⟩
theorem so_all : SCall ℓ X.K (rAll X.K) gAll := ⟨fun {g H n xs ds P Q} ok ex q k => by
  match ds, ex, q with
  | [.lst l], .cons (.lst h1 h2) .nil, q =>
    obtain ⟨ns, q0, q1⟩ := q
    have e := isBls_map q0
    subst e
    have ev := h2.bls
    subst ev
    exact ⟨_, ns, rfl, SqL.of (ok.sub _ _ h1), k.flat ok q1 (.bl _)⟩⟩
end
structure InsOk (K : PySem.W.Frag) (C : Addr) : Prop where
  cl : Cls K C
  ha : PySem.W.findIn K (.ref C) "__class__" = some (some (.builtin "object.__class__"))
  hn : PySem.W.specialIn K (.builtin "object.__class__") "__get__" = some (some (.builtin "getset_descriptor.__get__"))
  htk : PySem.W.takesIn K (.builtin "object.__class__") = some true
  hm : PySem.W.mroIn K C (.type "object") = some true
structure ErrI (K : PySem.W.Frag) (C : Addr) : Prop where
  hcl : (PySem.W.clsIn K C).isSome = true
  hga : PySem.W.findIn K (.ref C) "__getattribute__" = some (some (.builtin "BaseException.__getattribute__"))
  hgt : PySem.W.findIn K (.ref C) "__getattr__" = some none
  hsb : PySem.W.subIn K (.ref C) (.type "BaseException") = some true
  ha : PySem.W.findIn K (.ref C) "__class__" = some (some (.builtin "object.__class__"))
  hn : PySem.W.specialIn K (.builtin "object.__class__") "__get__" = some (some (.builtin "getset_descriptor.__get__"))
  htk : PySem.W.takesIn K (.builtin "object.__class__") = some true
  hm : PySem.W.mroIn K C (.type "object") = some true
inductive TyE (K : PySem.W.Frag) (H : Hp) : V → Value → Prop
  | old {x : V} {t : Value} : TyX K H x t → TyE K H x t
  | exc {a C dx : Addr} {fs : List (Str × V)} : H a = some (Exq a C dx) → H dx = some (.xd fs) → ErrI K C → TyE K H (.ref a) (.ref C)
def rIsE (K : PySem.W.Frag) : List V → Hp → VK → Prop := fun xs H Q => ∃ (x c : V) (t u : Value) (b : Bool), xs = [x, c] ∧ ClsV c u ∧ TyE K H x t ∧ PySem.W.kitOne K t u = some b ∧ Q (.bl b) H
theorem call_isE {X : Cx} : CallR X (.builtin "isinstance") (rIsE X.K) := by
  intro pins s σ H xs us Q I r h
  obtain ⟨x, c, t, u, b, rfl, k, ty, e, q⟩ := h
  cases ty with
  | old ty => exact call_isi pins s σ H _ us Q I r ⟨x, c, t, u, b, rfl, k, ty, e, q⟩
  | @exc a C dx fs h1 h2 T =>
    obtain ⟨u1, u2, rfl, r1, r2⟩ := vals2 r
    have e2 := k.eq r2
    subst e2
    cases (show u1 = Value.ref a from r1)
    obtain ⟨⟨⟨oc, od0, oda, osl⟩, vs, ho, h3, h4, h5⟩, _⟩ := I.hok a _ h1
    dsimp only at h3 h4 h5
    subst h3 h4 h5
    obtain ⟨mA, ⟨od, es, ep, hd, _⟩, _⟩ := I.hok dx _ h2
    exact PySem.W.kia_one (PySem.W.kitx_exc (od := some od) T.hcl T.hga T.hgt T.hsb T.ha T.hn T.htk T.hm) I.kIn (PySem.W.InstAt.mk ho rfl rfl hd) e (fun z => nomatch z) fun tk => ⟨.bl b, H, I.tok tk, rfl, q⟩
def tyD : D → Option Value
  | .non => some (.type "NoneType")
  | .bl _ => some (.type "bool")
  | .int _ => some (.type "int")
  | .str _ => some (.type "str")
  | .lst _ => some (.type "list")
  | .tup _ => some (.type "tuple")
  | .obj C _ => some (.ref C)
  | .tupF _ => some (.type "tuple")
  | .err C _ => some (.ref C)
  | .dic _ _ => some (.type "dict")
  | _ => none
def ClOk (K : PySem.W.Frag) : D → Prop
  | .obj C _ => InsOk K C
  | .err C _ => ErrI K C
  | _ => True
structure IsT (K : PySem.W.Frag) (c : V) (tb : D → Option Bool) : Prop where
  cl : ∃ u, ClsV c u ∧ ∀ d b, tb d = some b → ∃ t, tyD d = some t ∧ ClOk K d ∧ PySem.W.kitOne K t u = some b
theorem den_ty {K : PySem.W.Frag} {g : Gh} {H : Hp} {v : V} {d : D} {t : Value} (sm : Same g.G H) (h : Den K g v d) (e : tyD d = some t) (i : ClOk K d) : TyE K H v t := by
  cases h with
  | non => cases e; exact .old (.base .non)
  | bl b => cases e; exact .old (.base (.bl b))
  | int b => cases e; exact .old (.base (.int b))
  | str b => cases e; exact .old (.base (.str _))
  | lst h1 h2 => cases e; exact .old (.base (.lst (sm _ _ h1)))
  | tup h1 h2 =>
    cases e
    rcases h1 with h1 | ⟨o, h1⟩
    · exact .old (.base (.tup (sm _ _ h1)))
    · exact .old (.fTuple (sm _ _ h1))
  | obj h1 h2 =>
    cases e
    have z : InsOk K _ := i
    exact .old (.base (.ins (sm _ _ h1) z.cl z.ha z.hn z.htk z.hm))
  | tupF h1 _ _ _ => cases e; exact .old (.fTuple (sm _ _ h1))
  | err h1 h2 h3 => cases e; exact .exc (sm _ _ h1) (sm _ _ h2) i
  | dic h1 h2 h3 => cases e; exact .old (.base (.dK (sm _ _ h1)))
  | _ => cases e
def dIsi (tb : D → Option Bool) (d : DE) : DE := fun n ε P => d n ε fun n1 x => ∃ b, tb x = some b ∧ P n1 (.bl b)
section
variable {X : Cx} {pos p p2 : Pos} {a c : Expr} {d : DE} {v : V} {tb : D → Option Bool}
theorem de_isi (hT : IsT X.K v tb) (hg : Gl X "isinstance") (hm : X.mg "isinstance" = none) (ha : PE X a (liftE ℓ X.K d)) (hc : PE X c (tC v))
    (h1 : starEach [a, c] X.env = (false, eval a X.env) :: starEach [c] X.env := by rfl) (h2 : starEach [c] X.env = (false, eval c X.env) :: starEach [] X.env := by rfl) (hpl : (backTo pos (starEach [c] X.env)).any (·.1) = false := by rfl) :
    PE X (.Call (.Name "isinstance" p) [a, c] [] pos) (liftE ℓ X.K (dIsi tb d)) :=
  pe_w (pe_callB (r := rIsE X.K) call_isE hg hm PyProof.Rows.boot_isinstance (pa_cons ha (pa_cons hc pa_nil h2) h1) (by decide) (by decide) h1 hpl) fun σ H Q ⟨O, g, n, ε, P, r, q, k⟩ =>
    ⟨O, g, n, ε, _, r, q, fun w g1 H1 n1 x q1 s1 o1 e1 => by
      obtain ⟨b, q2, q3⟩ := q1
      obtain ⟨u, cu, f⟩ := hT.cl
      obtain ⟨t, t1, t2, t3⟩ := f x b q2
      exact ⟨w, v, t, u, b, rfl, cu, den_ty o1.sub e1 t1 t2, t3, k _ g1 H1 n1 _ q3 s1 o1 (.bl b)⟩⟩
theorem pe_tyN {x : Str} {T : String} (hg : Gl X x) (hm : X.mg x = none) (hv : bootBuiltins x = some (.type T)) (hn : x ≠ "__name__" := by decide) (hd : (x == ("__debug__" : Str)) = false := by decide) : PE X (.Name x pos) (tC (.ty T)) := pe_bltn hg hm hv rfl hn hd
end
def shownD (d : D) : List Nat := (toPD d).shown.cps.toList
def okRepr (d : D) : Bool := okD d && (toPD d).showable
section
variable {X : Cx}
def gRepr : GC := fun ds P => match ds with
  | [x] => okRepr x = true ∧ (shownD x).length ≤ 16777216 ∧ P (.str (shownD x))
  | _ => False
end
theorem joinL_nil : ∀ ys : List (List Nat), TL.joinL [] ys = ys.flatten
  | [] => rfl
  | [p] => by simp [TL.joinL]
  | p :: q :: r => by
    show p ++ ([] ++ TL.joinL [] (q :: r)) = _
    rw [joinL_nil (q :: r)]
    simp
def dJoin (da db : DE) : DE := fun n ε P => da n ε fun n1 x => match x with
  | .str a => db n1 ε fun n2 y => match y with
    | .lst xs => ∃ ls, isStrs xs = some ls ∧ (ls.map (·.length)).sum + ls.length * a.length ≤ 16777216 ∧ P n2 (.str (TL.joinL a ls))
    | .tup xs => ∃ ls, isStrs xs = some ls ∧ (ls.map (·.length)).sum + ls.length * a.length ≤ 16777216 ∧ P n2 (.str (TL.joinL a ls))
    | _ => False
  | _ => False
section
variable {X : Cx} {pos apos : Pos} {o e : Expr} {da db : DE}
theorem join_len (ls : List (List Nat)) : ((ls.map fun l => (⟨l.toArray⟩ : Str)).map (·.length)) = ls.map (·.length) := by
  rw [List.map_map]
  exact List.map_congr_left fun l _ => by simp [Str.length]
theorem de_join (ho : PE X o (liftE ℓ X.K da)) (he : PE X e (liftE ℓ X.K db)) (hs : starEach [e] X.env = [(false, eval e X.env)] := by rfl) (hbase : attributeBase o "join" X.env (eval o X.env) = eval o X.env := by rfl) (hline : (apos.endLine == pos.line) = true := by rfl) :
    PE X (.Call (.Attribute o "join" apos) [e] [] pos) (liftE ℓ X.K (dJoin da db)) :=
  de_of (pe_join ho he hs hbase hline) fun O g H n σ ε P Q r q k => ⟨O, g, n, ε, _, r, q, fun v g1 H1 n1 x q1 s1 o1 e1 => by
    cases e1 with
    | str a =>
      refine ⟨⟨_, rfl⟩, O, g1, n1, ε, _, r.step s1 o1, q1, fun w g2 H2 n2 y q2 s2 o2 e2 => ?_⟩
      cases e2 with
      | lst h1 h2 =>
        obtain ⟨ls, z1, z2, z3⟩ := q2
        have ez := isStrs_map z1
        subst ez
        have ev := h2.strs
        subst ev
        refine ⟨_, _, _, rfl, rfl, .inl (SqL.of (o2.sub _ _ h1)), ?_, ?_⟩
        · rw [join_len, List.length_map]
          simpa [Str.length] using z2
        · have ej := SX.join_S a ls
          have ej2 : Txt.join ⟨a.toArray⟩ (ls.map fun l => (⟨l.toArray⟩ : Str)) = ⟨(TL.joinL a ls).toArray⟩ := ej
          rw [ej2]
          exact k _ g2 H2 n2 _ z3 (s1.trans s2) o2 (.str _)
      | tup h1 h2 =>
        obtain ⟨ls, z1, z2, z3⟩ := q2
        have ez := isStrs_map z1
        subst ez
        have ev := h2.strs
        subst ev
        refine ⟨_, _, _, rfl, rfl, .inr (Or.inl (h1.same o2.sub)), ?_, ?_⟩
        · rw [join_len, List.length_map]
          simpa [Str.length] using z2
        · have ej := SX.join_S a ls
          have ej2 : Txt.join ⟨a.toArray⟩ (ls.map fun l => (⟨l.toArray⟩ : Str)) = ⟨(TL.joinL a ls).toArray⟩ := ej
          rw [ej2]
          exact k _ g2 H2 n2 _ z3 (s1.trans s2) o2 (.str _)
      | _ => exact q2.elim
    | _ => exact q1.elim⟩
end
abbrev DR := Nat → Ev → (Nat → Int → Int → Prop) → Prop
def liftR (ℓ : Bool) (K : PySem.W.Frag) (d : DR) : L2.St → Hp → (Int → Int → Hp → Prop) → Prop := fun σ H Q => ∃ O g n ε P, Rp ℓ K O g H n σ ε ∧ d n ε P ∧ ∀ a b g' H' n', P n' a b → Stp g H g' H' → Ok ℓ K g' H' n' → Q a b H'
def r1 (d : DE) : DR := fun n ε P => d n ε fun n1 x => match x with
  | .int i => P n1 0 i
  | _ => False
def r2 (d e : DE) : DR := fun n ε P => d n ε fun n1 x => e n1 ε fun n2 y => match x, y with
  | .int i, .int j => P n2 i j
  | _, _ => False
def rgD (a b : Int) : List D := (List.range (b - a).toNat).map fun i => D.int (a + (i : Nat))
def okRg (a b : Int) : Prop := -(2 ^ 62) ≤ a ∧ a < 2 ^ 62 ∧ -(2 ^ 62) ≤ b ∧ b < 2 ^ 62 ∧ (b - a).toNat ≤ 2 ^ 24
def dLRg (d : DR) : DE := fun n ε P => d n ε fun n1 a b => okRg a b ∧ P n1 (.lst (rgD a b))
section
variable {X : Cx} {pos p : Pos} {e a b : Expr} {d da db : DE} {dr : DR}
theorem dens_rg {K : PySem.W.Frag} {g : Gh} (a b : Int) : Dens K g (rgV a b) (rgD a b) := by
  unfold rgV rgD
  induction List.range (b - a).toNat with
  | nil => exact .nil
  | cons c l ih => exact .cons (.int _) ih
theorem prg_w {t t' : L2.St → Hp → (Int → Int → Hp → Prop) → Prop} (h : PRg X e t) (w : ∀ σ H Q, t' σ H Q → t σ H Q) : PRg X e t' := fun pins s σ H Q I q => h pins s σ H Q I (w σ H Q q)
theorem dr_1 (hg : Gl X "range") (hm : X.mg "range" = none) (ha : PE X a (liftE ℓ X.K da)) (na : starEach [a] X.env = (false, eval a X.env) :: starEach [] X.env := by rfl) : PRg X (.Call (.Name "range" p) [a] [] pos) (liftR ℓ X.K (r1 da)) :=
  prg_w (prg_1 hg hm ha na) fun σ H Q ⟨O, g, n, ε, P, r, q, k⟩ => ⟨O, g, n, ε, _, r, q, fun v g1 H1 n1 x q1 s1 o1 e1 => by
    cases e1 with
    | int i => exact ⟨i, rfl, k 0 i g1 H1 n1 q1 s1 o1⟩
    | _ => exact q1.elim⟩
theorem de_lrg (hc : X.calm = true) (hg : Gl X "list") (hm : X.mg "list" = none) (he : PRg X e (liftR ℓ X.K dr)) (na : starEach [e] X.env = (false, eval e X.env) :: starEach [] X.env := by rfl) : PE X (.Call (.Name "list" p) [e] [] pos) (liftE ℓ X.K (dLRg dr)) :=
  de_of (pe_listRg hc hg hm he na) fun O g H n σ ε P Q r q k => ⟨O, g, n, ε, _, r, q, fun a b g1 H1 n1 q1 s1 o1 => ⟨q1.1, fun p hp => (Fin.of k s1).newL o1 q1.2 (dens_rg a b) hp⟩⟩
end
end Pd
namespace L2
open PySem PySem.Spec PyProof.Rows
inductive Sk where
  | lst (a : Addr) | tup (a : Addr) | str (z : Str)
def Sk.v : Sk → V
  | .lst a => .ref a
  | .tup a => .ref a
  | .str z => .str z
def sgV (z : Str) : List V := z.cps.toList.map fun c => .str ⟨#[c]⟩
def Sk.at (H : Hp) : Sk → List V → Prop
  | .lst a, xs => H a = some (.lst xs)
  | .tup a, xs => Rd H a (.tup xs)
  | .str z, xs => xs = sgV z
def Sk.val (t : Tok) : Sk → Value
  | .lst a => .ref a
  | .tup a => .ref a
  | .str z => .str z t
def Sk.obj (t : Tok) : Sk → Obj
  | .lst a => { cls := .type "list_iterator", data := .fields #[.ref a, .int 0 0] }
  | .tup a => { cls := .type "tuple_iterator", data := .fields #[.ref a, .int 0 0] }
  | .str z => { cls := .type (strIterType z), data := .fields #[.str z t, .int 0 0] }
theorem Sk.len {X : Cx} {pins : List (Addr × Obj)} {σ : St} {H : Hp} {s : Shared} {k : Sk} {xs : List V} (I : Inv X pins σ H s) (h : k.at H xs) : True := trivial
end L2
namespace L2
open PySem PySem.Spec PyProof.Rows
section
variable {X : Cx}
def iAny (K : PySem.W.Frag) (te : TE) : TI := fun σ H R => te σ H fun v H1 => (∃ a, v = .ref a ∧ (∃ xs, SqL K H1 a xs) ∧ R (Itl K a) H1) ∨ (∃ a, v = .ref a ∧ (∃ xs, SqT K H1 a xs) ∧ R (Itt K a) H1) ∨ ∃ x, v = .str x ∧ R (Its x) H1
theorem pi_any {tg e : Expr} {te : TE} (he : PE X e te) : PI X tg e (iAny X.K te) := by
  refine ⟨fun pins s σ H R I h => ?_⟩
  refine thn (he.run pins s σ H _ I h) fun v s1 ⟨x, H1, I1, r1, q1⟩ => ?_
  rcases q1 with ⟨a, e, ⟨xs, hq⟩, q⟩ | ⟨a, e, ⟨xs, hq⟩, q⟩ | ⟨x, ex, q⟩
  · subst e
    cases r1
    obtain ⟨its, rv, p, hz⟩ := I1.list hq
    refine wpAny_pyIter_list p.isList ?_
    refine ⟨s1.heap.objs.size, [s1.heap.objs.size], _, _, H1, rfl, I1.kept (t' := s1.toks) fun b o e => Heap.get?_push_of_some _ e, turn_list a _, ⟨_, Heap.get?_push_size _ rfl, rfl, rfl⟩, fun b hb => ?_, q⟩
    have e : b = s1.heap.objs.size := by simpa using hb
    subst e
    exact I1.fpOk (Nat.le_refl _) (I1.hok.fresh (Nat.le_refl _))
  · subst e
    cases r1
    obtain ⟨its, rv, p, hz⟩ := I1.tuple hq
    refine wpAny_pyIter_tuple (show s1.heap.IsTuple a its.toArray from p) ?_
    refine ⟨s1.heap.objs.size, [s1.heap.objs.size], _, _, H1, rfl, I1.kept (t' := s1.toks) fun b o e => Heap.get?_push_of_some _ e, turn_tuple a _, ⟨_, Heap.get?_push_size _ rfl, rfl, rfl⟩, fun b hb => ?_, q⟩
    have e : b = s1.heap.objs.size := by simpa using hb
    subst e
    exact I1.fpOk (Nat.le_refl _) (I1.hok.fresh (Nat.le_refl _))
  · subst ex
    obtain ⟨t, rfl⟩ := r1
    cases ha : x.cps.all (· < 128)
    · exact wpAny_pyIter_wide ha (pi_one (tk := s1.toks) I1 _ (turn_str _ x t "str_iterator" (.inr rfl)) ⟨_, Heap.get?_push_size _ rfl, rfl, rfl⟩ q)
    · exact wpAny_pyIter_ascii ha (pi_one (tk := s1.toks) I1 _ (turn_str _ x t "str_ascii_iterator" (.inl rfl)) ⟨_, Heap.get?_push_size _ rfl, rfl, rfl⟩ q)
end
end L2
namespace Pd
variable {ℓ : Bool}
open PySem L2
def srcD : D → Option (List D)
  | .lst xs => some xs
  | .tup xs => some xs
  | .str l => some (sgn l)
  | _ => none
def iVal (d : DE) : DI := fun n ε P => d n ε fun n1 x => ∃ xs, srcD x = some xs ∧ P n1 xs
def rngD (lo : Int) (n : Nat) : List D := (List.range n).map fun i => D.int (lo + (i : Nat))
def iRg1 (d : DE) : DI := fun n ε P => d n ε fun n1 x => match x with
  | .int j => -(2 ^ 62) ≤ j ∧ j < 2 ^ 62 ∧ P n1 (rngD 0 j.toNat)
  | _ => False
def iRg2 (d e : DE) : DI := fun n ε P => d n ε fun n1 x => e n1 ε fun n2 y => match x, y with
  | .int i, .int j => (-(2 ^ 62) ≤ i ∧ i < 2 ^ 62 ∧ -(2 ^ 62) ≤ j ∧ j < 2 ^ 62) ∧ P n2 (rngD i (j - i).toNat)
  | _, _ => False
section
variable {K : PySem.W.Frag} {g : Gh}
theorem walk_flat {J : It} {xs : List D} (go : ∀ i H, i < xs.length → Same g.G H → J.go i H) (stop : ∀ H, Same g.G H → J.stop xs.length H) (yld : ∀ i x H H', i < xs.length → Same g.G H → J.yld i H x H' → H' = H ∧ ∃ d, xs[i]? = some d ∧ Den K g x d) : WalkD ℓ K g J xs :=
  ⟨go, stop, fun i x H H' g1 n hi ex ok y => by
    obtain ⟨rfl, d, e, dd⟩ := yld i x H H' hi (ex.G.trans ok.sub) y
    exact ⟨g1, d, e, Stp.refl _ _, ok, dd.mono ex⟩⟩
theorem walk_list {a : Addr} {vs : List V} {xs : List D} (h : g.G a = some (.lst vs)) (dd : Dens K g vs xs) : WalkD ℓ K g (Itl K a) xs :=
  walk_flat (fun i H hi sm => ⟨vs, vs[i]'(by rw [dd.length]; exact hi), SqL.of (sm _ _ h), List.getElem?_eq_getElem _⟩) (fun H sm => ⟨vs, SqL.of (sm _ _ h), by rw [dd.length]; exact Nat.le_refl _⟩) fun i x H H' hi sm y => ⟨y.1, dd.getV (y.2 vs (SqL.of (sm _ _ h)))⟩
theorem walk_tup {a : Addr} {vs : List V} {xs : List D} (h : Rd g.G a (.tup vs)) (dd : Dens K g vs xs) : WalkD ℓ K g (Itt K a) xs :=
  walk_flat (fun i H hi sm => ⟨vs, vs[i]'(by rw [dd.length]; exact hi), Or.inl (h.same sm), List.getElem?_eq_getElem _⟩) (fun H sm => ⟨vs, Or.inl (h.same sm), by rw [dd.length]; exact Nat.le_refl _⟩) fun i x H H' hi sm y => ⟨y.1, dd.getV (y.2 vs (Or.inl (h.same sm)))⟩
theorem sgn_length (l : List Nat) : (sgn l).length = l.length := by simp [sgn]
theorem walk_str (l : List Nat) : WalkD ℓ K g (Its ⟨l.toArray⟩) (sgn l) :=
  walk_flat (fun i H hi sm => by
    show i < l.toArray.size
    rw [List.size_toArray, ← sgn_length l]
    exact hi) (fun H sm => by
    show l.toArray.size ≤ _
    rw [List.size_toArray, sgn_length]
    exact Nat.le_refl _) fun i x H H' hi sm y => by
    obtain ⟨e, c, e1, rfl⟩ := y
    have e2 : l[i]? = some c := by simpa using e1
    refine ⟨e, .str [c], ?_, .str [c]⟩
    unfold sgn
    rw [List.getElem?_map, e2]
    rfl
theorem rngD_length (lo : Int) (n : Nat) : (rngD lo n).length = n := by simp [rngD]
theorem walk_rng (lo : Int) (n : Nat) : WalkD ℓ K g (Itr lo n) (rngD lo n) :=
  walk_flat (fun i H hi sm => by
    rw [rngD_length] at hi
    exact hi) (fun H sm => by
    show n ≤ _
    rw [rngD_length]
    exact Nat.le_refl _) fun i x H H' hi sm y => by
    obtain ⟨e, rfl⟩ := y
    rw [rngD_length] at hi
    refine ⟨e, .int (lo + i), ?_, .int _⟩
    unfold rngD
    rw [List.getElem?_map, List.getElem?_range hi]
    rfl
end
section
variable {X : Cx} {pos p tpos : Pos} {tg e a b c : Expr} {elts : List Expr} {kk : Nat} {d da db dc : DE}
theorem pi_w {wi wi' : TI} (h : PI X tg e wi) (w : ∀ σ H R, wi' σ H R → wi σ H R) : PI X tg e wi' := ⟨fun pins s σ H R I q => h.run pins s σ H R I (w σ H R q)⟩
theorem di_val (he : PE X e (liftE ℓ X.K d)) : PI X tg e (liftI ℓ X.K (iVal d)) :=
  pi_w (pi_any he) fun σ H R ⟨O, g, n, ε, P, r, q, k⟩ => ⟨O, g, n, ε, _, r, q, fun v g1 H1 n1 x q1 s1 o1 e1 => by
    obtain ⟨xs, e2, q2⟩ := q1
    cases e1 with
    | lst h1 h2 =>
      cases e2
      exact .inl ⟨_, rfl, ⟨_, SqL.of (o1.sub _ _ h1)⟩, k _ g1 H1 n1 _ q2 s1 o1 (walk_list h1 h2)⟩
    | tup h1 h2 =>
      cases e2
      exact .inr (.inl ⟨_, rfl, ⟨_, Or.inl (h1.same o1.sub)⟩, k _ g1 H1 n1 _ q2 s1 o1 (walk_tup h1 h2)⟩)
    | str l =>
      cases e2
      exact .inr (.inr ⟨_, rfl, k _ g1 H1 n1 _ q2 s1 o1 (walk_str l)⟩)
    | _ => cases e2⟩
theorem di_rg1 (hg : Gl X "range") (hm : X.mg "range" = none) (ha : PE X a (liftE ℓ X.K da)) (hs : starEach [a] X.env = [(false, eval a X.env)] := by rfl) : PI X tg (.Call (.Name "range" p) [a] [] pos) (liftI ℓ X.K (iRg1 da)) :=
  pi_w (pi_range1 hg hm (pa_cons ha pa_nil hs) hs) fun σ H R ⟨O, g, n, ε, P, r, q, k⟩ => ⟨O, g, n, ε, _, r, q, fun v g1 H1 n1 x q1 s1 o1 e1 => by
    cases e1 with
    | int j => exact ⟨j, rfl, q1.1, q1.2.1, k _ g1 H1 n1 _ q1.2.2 s1 o1 (walk_rng 0 _)⟩
    | _ => exact q1.elim⟩
theorem di_rg2 (hg : Gl X "range") (hm : X.mg "range" = none) (ha : PE X a (liftE ℓ X.K da)) (hb : PE X b (liftE ℓ X.K db)) (hs : starEach [a, b] X.env = [(false, eval a X.env), (false, eval b X.env)] := by rfl) (hs2 : starEach [b] X.env = [(false, eval b X.env)] := by rfl)
    (hs3 : starEach [a, b] X.env = (false, eval a X.env) :: starEach [b] X.env := by rfl) : PI X tg (.Call (.Name "range" p) [a, b] [] pos) (liftI ℓ X.K (iRg2 da db)) :=
  pi_w (pi_range2 hg hm (pa_cons ha (pa_cons hb pa_nil hs2) hs3) hs hs2) fun σ H R ⟨O, g, n, ε, P, r, q, k⟩ => two_ok r q fun x y g' H' n' dx dy q2 s o e1 e2 => by
    cases e1 with
    | int i =>
      cases e2 with
      | int j => exact ⟨i, j, rfl, q2.1, k _ g' H' n' _ q2.2 s o (walk_rng i _)⟩
      | _ => exact q2.elim
    | _ => exact q2.elim
def dNeg (d : DE) : DE := fun n ε P => d n ε fun n1 x => match x with
  | .int i => P n1 (.int (-i))
  | _ => False
theorem de_neg (ha : PE X a (liftE ℓ X.K da)) : PE X (.UnaryOp .USub a pos) (liftE ℓ X.K (dNeg da)) :=
  de_of (pe_un un_neg ha) fun O g H n σ ε P Q r q k => ⟨O, g, n, ε, _, r, q, fun v g1 H1 n1 x q1 s1 o1 e1 => by
    cases e1 with
    | int i => exact ⟨i, rfl, k _ g1 H1 n1 _ q1 s1 o1 (.int _)⟩
    | _ => exact q1.elim⟩
def dStar (d : DE) (t : DA) : DA := fun n ε P => d n ε fun n1 x => match x with
  | .lst xs => t n1 ε fun n2 ys => P n2 (xs ++ ys)
  | .tup xs => t n1 ε fun n2 ys => P n2 (xs ++ ys)
  | _ => False
end
end Pd
namespace Pd
variable {ℓ : Bool}
open PySem L2
structure HasF (ℓ : Bool) (P : Program) (w : World) (K : PySem.W.Frag) (mg : Str → Option Value) (base : Heap) (k : Nat) (f : Addr) (ps : List Str) (dd : List D) (sp : FD) : Prop where
  ex : ∃ fd dvs ds, FnOk P w K mg base CX0 k f fd ps (liftF ℓ K sp) ∧ PySem.W.keepIn K (.ref f) = true ∧ Binds K fd ps ds ∧ Vals dvs ds ∧ ∀ g, Dens K g dvs dd
structure HasG (ℓ : Bool) (P : Program) (w : World) (K : PySem.W.Frag) (mg : Str → Option Value) (base : Heap) (k : Nat) (f : Addr) (ps : List Str) (dd : List D) (sp : FD) : Prop where
  ex : ∃ fd dvs ds, FnG P w K mg base k f fd ps (liftF ℓ K sp) ∧ PySem.W.keepIn K (.ref f) = true ∧ Binds K fd ps ds ∧ Vals dvs ds ∧ ∀ g, Dens K g dvs dd
structure HasI (ℓ : Bool) (P : Program) (w : World) (K : PySem.W.Frag) (mg : Str → Option Value) (base : Heap) (k : Nat) (C : Addr) (ps : List Str) (dd : List D) (fi : FI) : Prop where
  ex : ∃ f fd dvs ds, FnOk P w K mg base CX0 k f fd ps (liftInit ℓ K C fi) ∧ Mk K C f ∧ Binds K fd ps ds ∧ Vals dvs ds ∧ ∀ g, Dens K g dvs dd
structure HasM (ℓ : Bool) (P : Program) (w : World) (K : PySem.W.Frag) (mg : Str → Option Value) (base : Heap) (k : Nat) (C : Addr) (m : Str) (ps : List Str) (dd : List D) (sp : FD) : Prop where
  ex : ∃ f fd dvs ds, FnOk P w K mg base CX0 k f fd ps (liftF ℓ K sp) ∧ Cls K C ∧ Meth K C m f ∧ Binds K fd ps ds ∧ Vals dvs ds ∧ ∀ g, Dens K g dvs dd
structure HasP (ℓ : Bool) (P : Program) (w : World) (K : PySem.W.Frag) (mg : Str → Option Value) (base : Heap) (k : Nat) (C : Addr) (m : Str) (ps : List Str) (sp : FD) : Prop where
  ex : ∃ p f fd, FnOk P w K mg base CX0 k f fd ps (liftF ℓ K sp) ∧ Cls K C ∧ PropOf K C m p f ∧ Binds K fd ps []
section
variable {X : Cx} {k : Nat} {f C : Addr} {ps : List Str} {sp : FD} {dd : List D} {x m : Str} {p pos apos : Pos} {e o : Expr} {es : List Expr} {da : DE} {t : DA} {fi : FI}
theorem de_callF (G : HasF ℓ X.prog X.w X.K X.mg X.base k f ps dd sp) (hr : Room k X.A) (hg : Gl X x) (hm : X.mg x = some (.ref f))
    (ha : PA X (e :: es) (liftA ℓ X.K t)) (hdb : (x == ("__debug__" : Str)) = false := by decide) (he : starEach (e :: es) X.env = (false, eval e X.env) :: starEach es X.env := by rfl) (hpl : (backTo pos (starEach es X.env)).any (·.1) = false := by rfl) :
    PE X (.Call (.Name x p) (e :: es) [] pos) (liftE ℓ X.K (dCall sp dd t)) := by
  obtain ⟨fd, dvs, ds, F, hk, hb, hv, hd⟩ := G.ex
  exact de_call F hr hg hm hk hb hv hd ha hdb he hpl
theorem de_callHG (G : HasG ℓ X.prog X.w X.K X.mg X.base k f ps dd sp) (hr : Room k X.A) (hgd : X.A.guards = some []) (hg : Gl X x) (hm : X.mg x = some (.ref f))
    (ha : PA X (e :: es) (liftA ℓ X.K t)) (hdb : (x == ("__debug__" : Str)) = false := by decide) (he : starEach (e :: es) X.env = (false, eval e X.env) :: starEach es X.env := by rfl) (hpl : (backTo pos (starEach es X.env)).any (·.1) = false := by rfl) :
    PE X (.Call (.Name x p) (e :: es) [] pos) (liftE ℓ X.K (dCall sp dd t)) := by
  obtain ⟨fd, dvs, ds, F, hk, hb, hv, hd⟩ := G.ex
  exact de_callG F hr hgd hg hm hk hb hv hd ha hdb he hpl
end
theorem bt_abs : bootBuiltins "abs" = some (.builtin "abs") := by decide +kernel
theorem bt_len : bootBuiltins "len" = some (.builtin "len") := by decide +kernel
theorem bt_max : bootBuiltins "max" = some (.builtin "max") := by decide +kernel
theorem bt_min : bootBuiltins "min" = some (.builtin "min") := by decide +kernel
theorem bt_all : bootBuiltins "all" = some (.builtin "all") := by decide +kernel
theorem bt_repr : bootBuiltins "repr" = some (.builtin "repr") := by decide +kernel
theorem bt_int : bootBuiltins "int" = some (.type "int") := by decide +kernel
theorem bt_bool : bootBuiltins "bool" = some (.type "bool") := by decide +kernel
theorem bt_list : bootBuiltins "list" = some (.type "list") := by decide +kernel
theorem bt_tuple : bootBuiltins "tuple" = some (.type "tuple") := by decide +kernel
def LamD (K : PySem.W.Frag) (qual : Str) (fd : FuncData) : Prop := ∃ (c P : Addr) (o : Obj), fd.code = .ref c ∧ K.lookup c = some o ∧ tabOf o = some (P, qual ++ ".<locals>." ++ "<lambda>")
theorem lamD_of {K : PySem.W.Frag} {qual : Str} {fd : FuncData} (h1 : PySem.W.codeIn K fd.code qual = true) (h2 : (match fd.code with
    | .ref c => (match K.lookup c with
      | some o => (tabOf o).isSome
      | none => false)
    | _ => false) = true) : LamD K qual fd := by
  unfold PySem.W.codeIn at h1
  split at h1
  · rename_i c hc
    rw [hc] at h2
    dsimp only at h2
    split at h1
    · rename_i oc od vs osl hl
      rw [hl] at h2
      dsimp only at h2
      split at h1
      · rename_i v0 n tn rest hv
        have e1 : vs[1]? = some (.str n tn) := by
          rw [← Array.getElem?_toList, hv]
          rfl
        have en : n = qual := beq_iff_eq.mp h1
        subst en
        cases z : tabOf (⟨oc, od, .fields vs, osl⟩ : Obj) with
        | none =>
          rw [z] at h2
          cases h2
        | some pq =>
          obtain ⟨P, q⟩ := pq
          refine ⟨c, P, _, hc, hl, ?_⟩
          have z' := z
          unfold tabOf at z'
          split at z'
          · rename_i vs' hcls hdat
            cases hdat
            split at z'
            · rename_i P' q' t' e11 e12
              rw [e1] at e12
              cases e12
              cases z'
              exact z
            · cases z'
          · cases z'
      · cases h1
    · cases h1
  · cases h1
theorem PDef.fun_ {K : PySem.W.Frag} {d : PDef} (e : psg K (d.loc K) = d.said) (c : d.good K = true) (hc : d.clo = []) : ∃ fd, FunD K d.name d.qual d.params d.body d.scope (d.dvs K) [] (d.loc K) fd ∧ LamD K d.qual fd := by
  unfold PDef.good at c
  rw [Bool.and_eq_true] at c
  obtain ⟨kp, c⟩ := c
  unfold psg PDef.said at e
  rw [hc] at e
  generalize d.loc K = a at *
  cases q : K.lookup a with
  | none => simp [q] at c
  | some o =>
    obtain ⟨oc, od, dt, osl⟩ := o
    rw [q] at c e
    cases dt with
    | func fd =>
      have c' := c
      dsimp only at c' e
      rw [Bool.and_eq_true, Bool.and_eq_true, Bool.and_eq_true] at c'
      obtain ⟨c1, c2, c3, c4⟩ := c'
      have cl := lamD_of c1 c4
      simp only [Option.some.injEq, Prod.mk.injEq, List.map_eq_nil_iff] at e
      obtain ⟨h1, h2, h3, h4, h5, h6, h7, h8⟩ := e
      cases fd
      dsimp only at h1 h2 h3 h4 h5 h6 h7 h8 c1 c2 c3
      subst h1 h2 h3 h4 h5 h6 h7 h8
      exact ⟨_, ⟨⟨oc, od, _, _, _, _, _, _, _, osl, rfl, q, c1, He.dflB_ok c2, He.kwdB_ok c3⟩, kp⟩, cl⟩
    | _ => simp at c
theorem isi_ok {K : PySem.W.Frag} {t : Value} {c : Str ⊕ String} {b : Bool} (h : (Fx.isi t c b).ok K = true) : PySem.W.kitOne K t (clsOf K c) = some b := of_decide_eq_true h
theorem SaysP.fx {fx : List Fx} {fn : List PDef} {K : PySem.W.Frag} (c : SaysP fx fn K) {f : Fx} (h : f ∈ fx) : f.ok K = true := by
  have c1 : ((fx.all fun f => f.ok K) && fn.all fun d => d.good K) = true := congrArg (fun z : AlP => z.1) c
  exact List.all_eq_true.mp (Bool.and_eq_true_iff.mp c1).1 f h
theorem SaysP.fnL {fx : List Fx} {fn : List PDef} {K : PySem.W.Frag} (c : SaysP fx fn K) {d : PDef} (i : Nat) (h : fn[i]? = some d := by rfl) (hc : d.clo = [] := by rfl) : ∃ fd, FunD K d.name d.qual d.params d.body d.scope (d.dvs K) [] (d.loc K) fd ∧ LamD K d.qual fd := by
  have c1 : ((fx.all fun f => f.ok K) && fn.all fun d => d.good K) = true := congrArg (fun z : AlP => z.1) c
  have c2 : (fn.map fun d => psg K (d.loc K)) = fn.map PDef.said := congrArg (fun z : AlP => z.2) c
  have c3 : (fn.map fun d => psg K (d.loc K))[i]? = (fn.map PDef.said)[i]? := by rw [c2]
  rw [List.getElem?_map, List.getElem?_map, h] at c3
  exact PDef.fun_ (Option.some.inj c3) (List.all_eq_true.mp (Bool.and_eq_true_iff.mp c1).2 d (List.mem_of_getElem? h)) hc
theorem SaysP.fn {fx : List Fx} {fn : List PDef} {K : PySem.W.Frag} (c : SaysP fx fn K) {d : PDef} (i : Nat) (h : fn[i]? = some d := by rfl) (hc : d.clo = [] := by rfl) : ∃ fd, FunD K d.name d.qual d.params d.body d.scope (d.dvs K) [] (d.loc K) fd :=
  let ⟨fd, F, _⟩ := c.fnL i h hc
  ⟨fd, F⟩
theorem SaysP.psg {fx : List Fx} {fn : List PDef} {K : PySem.W.Frag} (c : SaysP fx fn K) {d : PDef} (i : Nat) (h : fn[i]? = some d := by rfl) : Pd.psg K (d.loc K) = d.said := by
  have c2 : (fn.map fun d => Pd.psg K (d.loc K)) = fn.map PDef.said := congrArg (fun z : AlP => z.2) c
  have c3 : (fn.map fun d => Pd.psg K (d.loc K))[i]? = (fn.map PDef.said)[i]? := by rw [c2]
  rw [List.getElem?_map, List.getElem?_map, h] at c3
  exact Option.some.inj c3
end Pd
namespace Pd
variable {ℓ : Bool}
open PySem PyProof.Rows L2
theorem script_track {P : Program} {w : World} {K : PySem.W.Frag} {h : Heap} {a : Addr} {vs : List Value} {ns : List Int} (KX : K.In h) (ha : h.get? a = some { cls := .type "list", data := .seq vs.toArray }) (hi : IntsAre vs ns) (hl : ns.length ≤ sizeLine) :
    ∃ H : Hp, L2.Only H ∧ SqL K H a (ns.map V.int) ∧ HOk P w H h ∧ (∀ b, H b ≠ none → b = a ∧ K.lookup b = none) := by
  have rv := vals_ints hi
  by_cases hk : K.lookup a = none
  · refine ⟨fun b => if b = a then some (.frz { cls := .type "list", data := .seq vs.toArray } (.lst (ns.map V.int))) else none, fun b => ?_, .inl (.inr ⟨{ cls := .type "list", data := .seq vs.toArray }, if_pos rfl⟩), fun b u z => ?_, fun b z => ?_⟩
    · by_cases e : b = a
      · exact .inr ⟨_, _, if_pos e⟩
      · exact .inl (if_neg e)
    · dsimp only at z
      split at z
      · rename_i e
        cases z
        rw [e]
        exact ⟨ha, by rw [List.length_map]; exact hl, vs, _, rv, ha⟩
      · cases z
    · dsimp only at z
      split at z
      · rename_i e
        rw [e]
        exact ⟨rfl, hk⟩
      · exact absurd rfl z
  · obtain ⟨o, ho⟩ := Option.ne_none_iff_exists'.mp hk
    have e := KX a o ho
    rw [ha] at e
    cases e
    exact ⟨fun _ => none, fun _ => .inl rfl, .inr ⟨_, vs.toArray, _, ho, rfl, rfl, rfl, by rw [List.size_toArray, hi.length]; exact hl, by simpa using rv⟩, fun b u z => (by cases (show (none : Option HO) = some u from z)), fun b z => absurd rfl z⟩
end Pd
namespace Pd
variable {ℓ : Bool}
open PySem L2
variable {W : WX}
theorem ne_of_pot {K : PySem.W.Frag} {g : Gh} {H : Hp} {n : Nat} (ok : Ok ℓ K g H n) {p a : Addr} (h : g.pot p) {o : HO} (e : g.G a = some o) : a ≠ p := fun q => by
  rw [q, (ok.pot p h).1] at e
  cases e
theorem Ok.turn {K : PySem.W.Frag} {g : Gh} {H : Hp} {n m : Nat} (ok : Ok false K g H n) (hm : m ≤ n) {p : Addr} (h : g.pot p) (hn : NoT K g p) {o : HO} (ho : PotH m (some o)) : Ok false K g (upd H p o) m := by
  refine ⟨fun a u e => ?_, fun a z => ⟨(ok.pot a z).1, ?_⟩, ok.t.upd (fun u z => ?_) fun ps z => ?_, by rw [ok.nocel]; exact CelOk.nil⟩
  · rw [upd_ne (ne_of_pot ok h e)]
    exact ok.sub a u e
  · by_cases q : a = p
    · rw [q, upd_same]
      exact .inr ho
    · rw [upd_ne q]
      refine (ok.pot a z).2.imp id fun ⟨x, y, z, h1, h2, h3, h4, h5, h6, h7⟩ => ⟨x, y, z, h1, h2, h3, h4, h5, h6, ?_⟩
      have h8 : z + (n : Int) ≤ 1000000000 := h7
      show z + (m : Int) ≤ 1000000000
      omega
  · obtain ⟨x, y, w, e, _⟩ := ok.potH h hn
    rw [e] at z
    cases z
    exact .inl ⟨_, rfl⟩
  · obtain ⟨x, y, w, e, _⟩ := ho
    rw [z] at e
    cases e
theorem Stp.turn {g : Gh} {H : Hp} {p : Addr} {o : HO} (h : g.pot p) (hn : H p ≠ none) : Stp g H g (upd H p o) := by
  refine ⟨Ext.refl g, fun _ _ z => z, fun _ _ z => z, fun a u e z => ?_, fun a e => ?_⟩
  · rw [upd_ne fun q => z (by rw [q]; exact h)]
    exact e
  · by_cases q : a = p
    · rw [q, upd_same]
      exact Option.some_ne_none o
    · rw [upd_ne q]
      exact e
def takeF : FD := fun ds n P => ∃ u : Int, ds = [.pot, .int u] ∧ 0 < u ∧ u.natAbs < 2 ^ 200 ∧ ∃ m, n = m + 1 ∧ ∀ r : Int, 0 ≤ r → r < u → P m (.int r)
abbrev rInt1 : List V → Hp → VK → Prop := fun xs H Q => (∃ i, xs = [.int i] ∧ Q (.int i) H) ∨ ∃ k, xs = [.bl k] ∧ Q (.int (if k then 1 else 0)) H
abbrev tI (t : TE) : TE := tCB rInt1 (tCons t tNil)
abbrev ixP (K : PySem.W.Frag) (i : Int) : TE := tOp (rIx K) (tVar 0) (tC (.int i))
abbrev setP (i : Int) (t : TE) : TS := tAsg t (L2.gSub (tVar 0) (tC (.int i)) rSetL)
abbrev rGt0 : R2 := rI0 fun i j => .bl (decide (j < i))
abbrev rPls : R2 := rI0 fun i j => .int (i + j)
abbrev rTms : R2 := rI CMulW fun i j => .int (i * j)
abbrev rMd : R2 := rI (fun _ j => 0 < j) fun i j => .int (i % j)
abbrev rFd : R2 := rI CDivW fun i j => .int (i / j)
abbrev rPw : R2 := rI CPowW fun i j => .int (i ^ j.toNat)
def t_take (K : PySem.W.Frag) : TS :=
  tSeq (tIfS (tTest (tOp rGt0 (ixP K 0) (tC (.int 0))))
    (tSeq (tAsg (tOp rMd (tI (ixP K 0)) (tVar 1)) (gName 2)) (tSeq (setP 0 (tOp rFd (ixP K 0) (tVar 1))) (tRet (tVar 2)))) tNext)
  (tSeq (setP 2 (tOp rPls (ixP K 2) (tC (.int 1))))
  (tSeq (tAsg (tOp (rIx K) (tLst (tCons (tC (.int 2147483647)) (tCons (tC (.int 2147483629)) (tCons (tC (.int 2147483587)) (tCons (tC (.int 2147483579)) (tCons (tC (.int 2147483563)) tNil)))))) (tOp rMd (tI (ixP K 2)) (tC (.int 5)))) (gName 3))
  (tSeq (tAsg (tOp rMd (tI (tOp rPw (tI (tOp rPls (tOp rPls (ixP K 1) (tOp rTms (tOp rTms (tC (.int 98873)) (ixP K 2)) (ixP K 2))) (tC (.int 97)))) (tC (.int 3)))) (tVar 3)) (gName 4))
  (tSeq (tAsg (tOp rMd (tI (tOp rTms (tVar 4) (tOp rPls (tOp rMd (tI (tVar 4)) (tC (.int 10529))) (tOp rTms (tC (.int 193)) (ixP K 2))))) (tC (.int 2305843009213693907))) (gName 4))
  (tRet (tOp rMd (tI (tOp rFd (tVar 4) (tC (.int 173)))) (tVar 1)))))))
theorem bits_lt {a : Int} {n : Nat} (h : a.natAbs < 2 ^ n) (h0 : 0 < n) : a.natAbs.log2 < n := PySem.Flt.log2_lt_of h0 h
theorem mulW {a b : Int} (ha : a.natAbs < 2 ^ 400000) (hb : b.natAbs < 2 ^ 400000) : CMulW a b := wide_mul ha hb (by decide) (by decide) (by decide)
theorem pw {m n : Nat} {a : Nat} (h : a < 2 ^ m) (hmn : m ≤ n) : a < 2 ^ n := Nat.lt_of_lt_of_le h (Nat.pow_le_pow_right (by decide) hmn)
theorem take_ok {K : PySem.W.Frag} {vs : List V} {H : Hp} {Q : VK} {E : XK} {names : List Str} (hN : names.length = 5) (h : liftF false K takeF vs H Q E) : t_take K { nx := fun _ H' => Q .non H', rt := Q } (L2.start names vs) H := by
  obtain ⟨g, n, ds, P, ok, dd, ⟨u, rfl, u0, u1, m, rfl, hp⟩, kk⟩ := h
  cases dd with
  | cons d1 d2 =>
    cases d2 with
    | cons d2 d3 =>
      cases d3
      cases d1 with
      | pot hpot hnt =>
        rename_i p
        cases d2
        have hG := (ok.pot p hpot).1
        obtain ⟨x, y, z, hH, x0, x1, y0, y1, z0, z1⟩ := ok.potH hpot hnt
        have z1 : z + ((m + 1 : Nat) : Int) ≤ 1000000000 := z1
        have hs : L2.start names [.ref p, .int u] = [some (.ref p), some (.int u), none, none, none] := by
          unfold L2.start
          rw [hN]
          rfl
        rw [hs]
        have hn : H p ≠ none := by rw [hH]; exact Option.some_ne_none _
        have ix : ∀ (H : Hp) (a b c : Int), H p = some (.lst [.int a, .int b, .int c]) → ∀ (j : Nat) (v : V), ([.int a, .int b, .int c] : List V)[j]? = some v → ∀ (Q : VK), Q v H → rIx K (.ref p) (.int (j : Int)) H Q := fun H a b c e j v ev Q q =>
          .inl ⟨p, _, (j : Int), v, rfl, rfl, SqL.of e, atI_nat ev, q⟩
        have st : ∀ (H : Hp) (a b c : Int), H p = some (.lst [.int a, .int b, .int c]) → ∀ (j : Nat) (v : V), j < 3 → ∀ (R : Hp → Prop), R (upd H p (.lst (([.int a, .int b, .int c] : List V).set j v))) → rSetL (.ref p) (.int (j : Int)) v H R := fun H a b c e j v hj R q =>
          ⟨p, _, (j : Int), j, rfl, rfl, e, by unfold ixN; rw [if_pos (Int.natCast_nonneg j), if_pos (by show (j : Int) < 3; omega)]; simp, q⟩
        have fin : ∀ (H' : Hp) (o : HO) (r : Int), H' = upd H p o → PotH m (some o) → 0 ≤ r → r < u → Q (.int r) H' := fun H' o r e ho r0 r1 => by
          rw [e]
          exact kk _ g _ m _ (hp r r0 r1) (Stp.turn hpot hn) (ok.turn (by omega) hpot hnt ho) (.int r)
        refine ⟨_, rfl, ix H x y z hH 0 _ rfl _ ?_⟩
        refine ⟨x, 0, rfl, rfl, _, rfl, ?_⟩
        by_cases hx : (0 : Int) < x
        · rw [decide_eq_true hx]
          refine iteT ?_
          refine ⟨_, rfl, ix H x y z hH 0 _ rfl _ ?_⟩
          refine .inl ⟨x, rfl, _, rfl, x, u, rfl, rfl, u0, ?_⟩
          refine ⟨_, rfl, ix H x y z hH 0 _ rfl _ ⟨_, rfl, x, u, rfl, rfl, ⟨u0, Nat.lt_of_lt_of_le (bits_lt u1 (by decide)) (by decide)⟩, ?_⟩⟩
          refine ⟨_, rfl, st H x y z hH 0 _ (by decide) _ ?_⟩
          refine ⟨_, rfl, fin _ _ (x % u) rfl ⟨x / u, y, z, rfl, Int.ediv_nonneg x0 (Int.le_of_lt u0), ?_, y0, y1, z0, by omega⟩ (Int.emod_nonneg _ (by omega)) (Int.emod_lt_of_pos _ u0)⟩
          have h1 : x / u ≤ x := Int.ediv_le_self u x0
          have h2 : 0 ≤ x / u := Int.ediv_nonneg x0 (Int.le_of_lt u0)
          exact Nat.lt_of_le_of_lt (by omega) x1
        · rw [decide_eq_false hx]
          refine iteF ?_
          have z2 : z + 1 ≤ 1000000000 := by omega
          refine ⟨_, rfl, ix H x y z hH 2 _ rfl _ ⟨z, 1, rfl, rfl, ?_⟩⟩
          refine ⟨_, rfl, st H x y z hH 2 _ (by decide) _ ?_⟩
          have hH1 : upd H p (.lst (([.int x, .int y, .int z] : List V).set 2 (.int (z + 1)))) p = some (.lst [.int x, .int y, .int (z + 1)]) := upd_same
          have s1 : Stp g H g (upd H p (.lst (([.int x, .int y, .int z] : List V).set 2 (.int (z + 1))))) := Stp.turn hpot hn
          have o1 : Ok false K g (upd H p (.lst (([.int x, .int y, .int z] : List V).set 2 (.int (z + 1))))) m := ok.turn (by omega) hpot hnt ⟨x, y, z + 1, rfl, x0, x1, y0, y1, by omega, by omega⟩
          generalize upd H p (.lst (([.int x, .int y, .int z] : List V).set 2 (.int (z + 1)))) = H1 at hH1 s1 o1 ⊢
          refine ⟨by rw [sizeLine_eq]; decide, fun l hl => ?_⟩
          obtain ⟨a1, a2, _, _⟩ := new_own o1 hl (.lst [.int 2147483647, .int 2147483629, .int 2147483587, .int 2147483579, .int 2147483563])
          have hlp : p ≠ l := ne_of_none hH1 hl
          have hH2 : upd H1 l (.lst [.int 2147483647, .int 2147483629, .int 2147483587, .int 2147483579, .int 2147483563]) p = some (.lst [.int x, .int y, .int (z + 1)]) := by
            rw [upd_ne hlp]
            exact hH1
          have hl2 : upd H1 l (.lst [.int 2147483647, .int 2147483629, .int 2147483587, .int 2147483579, .int 2147483563]) l = some (.lst [.int 2147483647, .int 2147483629, .int 2147483587, .int 2147483579, .int 2147483563]) := upd_same
          have fin3 : ∀ r : Int, 0 ≤ r → r < u → Q (.int r) (upd H1 l (.lst [.int 2147483647, .int 2147483629, .int 2147483587, .int 2147483579, .int 2147483563])) := fun r r0 r1 => kk _ g _ m _ (hp r r0 r1) (s1.trans a1) a2 (.int r)
          generalize upd H1 l (.lst [.int 2147483647, .int 2147483629, .int 2147483587, .int 2147483579, .int 2147483563]) = H2 at hH2 hl2 fin3 ⊢
          refine ⟨_, rfl, ix H2 x y (z + 1) hH2 2 _ rfl _ (.inl ⟨_, rfl, _, _, rfl, rfl, (show (0 : Int) < 5 by decide), ?_⟩)⟩
          have q1 : 0 ≤ (z + 1) % 5 := Int.emod_nonneg _ (by decide)
          have q2 : (z + 1) % 5 < 5 := Int.emod_lt_of_pos _ (by decide)
          obtain ⟨j, ej⟩ : ∃ j : Nat, (z + 1) % 5 = j := ⟨((z + 1) % 5).toNat, by omega⟩
          have hj : j < 5 := by omega
          obtain ⟨pr, e1, e2, e3⟩ : ∃ pr : Int, ([.int 2147483647, .int 2147483629, .int 2147483587, .int 2147483579, .int 2147483563] : List V)[j]? = some (.int pr) ∧ 0 < pr ∧ pr ≤ 2147483647 := by
            match j, hj with
            | 0, _ => exact ⟨_, rfl, by decide, by decide⟩
            | 1, _ => exact ⟨_, rfl, by decide, by decide⟩
            | 2, _ => exact ⟨_, rfl, by decide, by decide⟩
            | 3, _ => exact ⟨_, rfl, by decide, by decide⟩
            | 4, _ => exact ⟨_, rfl, by decide, by decide⟩
          show rIx K (V.ref l) (V.int ((z + 1) % 5)) H2 _
          rw [ej]
          refine .inl ⟨l, _, _, _, rfl, rfl, SqL.of hl2, atI_nat e1, ?_⟩
          have zb : (z + 1).natAbs < 2 ^ 400000 := pw (m := 31) (by omega) (by decide)
          have zp : (z + 1) * (z + 1) ≤ 1000000000 * 1000000000 := Int.mul_le_mul (by omega) (by omega) (by omega) (by omega)
          have zq : 0 ≤ (z + 1) * (z + 1) := Int.mul_nonneg (by omega) (by omega)
          have ea : (98873 : Int) * (z + 1) * (z + 1) = 98873 * ((z + 1) * (z + 1)) := Int.mul_assoc _ _ _
          refine ⟨_, rfl, ix H2 x y (z + 1) hH2 1 _ rfl _ ?_⟩
          refine ⟨_, rfl, ix H2 x y (z + 1) hH2 2 _ rfl _ ⟨_, _, rfl, rfl, mulW (pw (m := 17) (by decide) (by decide)) zb, ?_⟩⟩
          refine ⟨_, rfl, ix H2 x y (z + 1) hH2 2 _ rfl _ ⟨_, _, rfl, rfl, mulW (pw (m := 50) (by omega) (by decide)) zb, ?_⟩⟩
          refine ⟨_, _, rfl, rfl, _, _, rfl, rfl, .inl ⟨_, rfl, ?_⟩⟩
          have bt : (y + 98873 * (z + 1) * (z + 1) + 97).natAbs < 2 ^ 90 := by
            rw [ea]
            omega
          refine ⟨_, _, rfl, rfl, ⟨by decide, by decide, ?_⟩, .inl ⟨_, rfl, ?_⟩⟩
          · have hb : Builtin.Int.intBits (y + 98873 * (z + 1) * (z + 1) + 97) ≤ 90 := PyProof.Rows.intBits_le bt
            omega
          refine ⟨_, rfl, _, _, rfl, rfl, e2, ?_⟩
          generalize (y + 98873 * (z + 1) * (z + 1) + 97) ^ (3 : Int).toNat = w
          have m0 : 0 ≤ w % pr := Int.emod_nonneg _ (by omega)
          have m1 : w % pr < pr := Int.emod_lt_of_pos _ e2
          have c0 : 0 ≤ w % pr % 10529 := Int.emod_nonneg _ (by decide)
          have c1 : w % pr % 10529 < 10529 := Int.emod_lt_of_pos _ (by decide)
          refine ⟨_, rfl, _, rfl, .inl ⟨_, rfl, _, _, rfl, rfl, (show (0 : Int) < 10529 by decide), ?_⟩⟩
          refine ⟨_, rfl, ix H2 x y (z + 1) hH2 2 _ rfl _ ⟨_, _, rfl, rfl, mulW (pw (m := 8) (by decide) (by decide)) zb, ?_⟩⟩
          refine ⟨_, _, rfl, rfl, _, _, rfl, rfl, mulW (pw (m := 31) (by omega) (by decide)) (pw (m := 60) (by omega) (by decide)), .inl ⟨_, rfl, _, _, rfl, rfl, (show (0 : Int) < 2305843009213693907 by decide), ?_⟩⟩
          refine ⟨_, rfl, _, _, rfl, rfl, (show CDivW _ 173 from ⟨by decide, by decide⟩), .inl ⟨_, rfl, _, rfl, _, _, rfl, rfl, u0, ?_⟩⟩
          exact fin3 _ (Int.emod_nonneg _ (by omega)) (Int.emod_lt_of_pos _ u0)
def dRetPot (d : DO) : DS := fun N n ε => d n ε fun n1 ds => ∃ x y z : Int, ds = [.int x, .int y, .int z] ∧ 0 ≤ x ∧ x.natAbs < 2 ^ 1100 ∧ 0 ≤ y ∧ y < 2 ^ 61 ∧ 0 ≤ z ∧ z + n1 ≤ 1000000000 ∧ N.rt n1 .pot
theorem ds_retPot {X : Cx} {e : Expr} {pos : Pos} {o : DO} (he : PE X e (liftO false X.K o)) : PS X (.Return (some e) pos) (liftS false W X.K (dRetPot o)) :=
  ps_w (ps_ret he) fun E σ H ⟨U, g0, H0, g, n, ε, N, uo, r, s0, q, k1, k2, k3, k4⟩ => ⟨_, g, n, ε, _, r, q, fun p vs g1 H1 n1 ds q1 s1 o1 h0 h1 h2 h3 h4 => by
    obtain ⟨x, y, z, rfl, x0, x1, y0, y1, z0, z1, q2⟩ := q1
    have ev : vs = [.int x, .int y, .int z] := Dens.ints (ns := [x, y, z]) h4
    subst ev
    have st := s0.trans s1
    refine k4.1 (.ref p) ⟨g1.G, fun a => g1.pot a ∨ a = p, g1.cel⟩ H1 n1 .pot q2 ⟨⟨st.ext.G, fun a z => .inl (st.ext.p a z), st.ext.c⟩, st.gro, fun a z w => ?_, st.kep, st.dom⟩ ⟨o1.sub, fun a w => ?_, o1.t.pots fun a z => .inl z, by rw [o1.nocel]; exact CelOk.nil⟩ (.pot (.inr rfl) ⟨o1.t.no fun ps z => (by rw [h3] at z; cases z), fun C z => by rw [show (⟨g1.G, fun a => g1.pot a ∨ a = p, g1.cel⟩ : Gh).cel = [] from o1.nocel] at z; cases z⟩)
    · rcases w with w | w
      · exact st.grp a z w
      · exact absurd (s0.back0 h0) (by rw [← w]; exact z)
    · rcases w with w | w
      · exact o1.pot a w
      · rw [w]
        exact ⟨h1, .inr ⟨x, y, z, h3, x0, x1, y0, y1, z0, z1⟩⟩⟩
def blkB (N : List Str) (sc scope : Scope) (own : List (Str × Nat)) : Bool :=
  decide (scope.kind = .function) && (decide (∀ y ∈ scope.names, scope.names.lookup y.1 = some y.2) && (decide (∀ p ∈ own, N[p.2]? = some p.1) &&
    (decide (∀ y ∈ scope.names, y.2 = .free → sc.names.lookup y.1 = some .cell ∨ sc.names.lookup y.1 = some .free) && decide (∀ y ∈ scope.names, y.2 = .local ∨ y.2 = .cell → y.1 ∈ own.map (·.1) ∨ y.1 ∉ N))))
theorem blk {N : List Str} {sc scope : Scope} {own : List (Str × Nat)} (h : blkB N sc scope own = true) : BlkOk N sc scope own := by
  unfold blkB at h
  simp only [Bool.and_eq_true, decide_eq_true_eq] at h
  obtain ⟨h1, h2, h3, h4, h5⟩ := h
  exact ⟨h1, h2, h3, h4, h5⟩
def isT (T : String) (cs : List Addr) : D → Option Bool
  | .obj C _ => if C ∈ cs then some false else none
  | .non => some (decide ("NoneType" = T))
  | .bl _ => some (decide ("bool" = T ∨ T = "int"))
  | .int _ => some (decide ("int" = T))
  | .str _ => some (decide ("str" = T))
  | .lst _ => some (decide ("list" = T))
  | .tup _ => some (decide ("tuple" = T))
  | .tupF _ => some (decide ("tuple" = T))
  | .dic _ _ => some (decide ("dict" = T))
  | _ => none
def isC (C0 : Addr) (cs : List Addr) : D → Option Bool
  | .obj C _ => if C = C0 then some true else if C ∈ cs then some false else none
  | .non => some false
  | .bl _ => some false
  | .int _ => some false
  | .str _ => some false
  | .lst _ => some false
  | .tup _ => some false
  | .tupF _ => some false
  | .dic _ _ => some false
  | _ => none
theorem isT_ok {K : PySem.W.Frag} {T : String} {cs : List Addr} (hb : ∀ S ∈ ["NoneType", "bool", "int", "str", "list", "tuple", "dict"], PySem.W.kitOne K (.type S) (.type T) = some (decide (S = T ∨ (S = "bool" ∧ T = "int"))))
    (hc : ∀ C ∈ cs, InsOk K C ∧ PySem.W.kitOne K (.ref C) (.type T) = some false) : IsT K (.ty T) (isT T cs) := by
  refine ⟨_, .ty T, fun d b e => ?_⟩
  cases d with
  | obj C fs =>
    simp only [isT] at e
    split at e
    · rename_i h
      cases e
      exact ⟨_, rfl, (hc C h).1, (hc C h).2⟩
    · cases e
  | non =>
    cases e
    refine ⟨_, rfl, trivial, ?_⟩
    rw [hb "NoneType" (by simp)]
    simp
  | bl x =>
    cases e
    refine ⟨_, rfl, trivial, ?_⟩
    rw [hb "bool" (by simp)]
    simp
  | int x =>
    cases e
    refine ⟨_, rfl, trivial, ?_⟩
    rw [hb "int" (by simp)]
    simp
  | str x =>
    cases e
    refine ⟨_, rfl, trivial, ?_⟩
    rw [hb "str" (by simp)]
    simp
  | lst x =>
    cases e
    refine ⟨_, rfl, trivial, ?_⟩
    rw [hb "list" (by simp)]
    simp
  | tup x =>
    cases e
    refine ⟨_, rfl, trivial, ?_⟩
    rw [hb "tuple" (by simp)]
    simp
  | tupF x =>
    cases e
    refine ⟨_, rfl, trivial, ?_⟩
    rw [hb "tuple" (by simp)]
    simp
  | dic x y =>
    cases e
    refine ⟨_, rfl, trivial, ?_⟩
    rw [hb "dict" (by simp)]
    simp
  | _ => cases e
section
variable {P : Program} {w : World} {K : PySem.W.Frag} {mg : Str → Option Value} {base : Heap} {k : Nat} {f : Addr} {ps : List Str} {x qual : Str} {params : Arguments} {body : List Stmt} {scope : Scope} {N : List Str} {b : DS} {sp : FD}
theorem has_f (D : ∃ fd, FunD K x qual params body scope [] [] f fd) (S : FnScope N ps scope)
    (hbind : ∀ (kV doc pm : Value) (an : Option Addr) (cdv ct : Value) (us : List Value), us.length = ps.length → bindArgs (PySem.W.fnOf x qual params body scope .none kV doc pm an cdv ct) ⟨us, []⟩ = pure (ps.zip us))
    (hb : ∀ (fd : FuncData) (cdv : Value) (A : Around) (outer : List Env) (s : Shared) (H : Hp) (E : XK), Room k (A.deeper (PyProof.Rows.envOfC qual scope s.heap.objs.size f cdv)) → PSs (cxOf CX0 P w K mg base N qual scope f cdv A outer s H E).nox body (liftS ℓ W0 K b))
    (hs : ∀ ds n Q, sp ds n Q → dFn N.length ps.length b ds n Q) : HasF ℓ P w K mg base (k + 1) f ps [] sp := by
  obtain ⟨fd, F⟩ := D
  exact ⟨fd, [], [], fn_ok F S (fun cdv A outer s H E hr => hb fd cdv A outer s H E hr) hs, F.kp, F.bindsN hbind, .nil, fun _ => .nil⟩
theorem has_g (D : ∃ fd, FunD K x qual params body scope [] [] f fd) (S : FnScope N ps scope)
    (hbind : ∀ (kV doc pm : Value) (an : Option Addr) (cdv ct : Value) (us : List Value), us.length = ps.length → bindArgs (PySem.W.fnOf x qual params body scope .none kV doc pm an cdv ct) ⟨us, []⟩ = pure (ps.zip us))
    (hb : ∀ (fd : FuncData) (cdv : Value) (A : Around) (outer : List Env) (s : Shared) (H : Hp) (E : XK), Room k (A.deeper (PyProof.Rows.envOfC qual scope s.heap.objs.size f cdv)) → (A.deeper (PyProof.Rows.envOfC qual scope s.heap.objs.size f cdv)).guards = some [] → PSs (cxOf CX0 P w K mg base N qual scope f cdv A outer s H E).nox body (liftS ℓ W0 K b))
    (hs : ∀ ds n Q, sp ds n Q → dFn N.length ps.length b ds n Q) : HasG ℓ P w K mg base (k + 1) f ps [] sp := by
  obtain ⟨fd, F⟩ := D
  exact ⟨fd, [], [], fnG_ok F S (fun cdv _ A outer s H E hr hg => hb fd cdv A outer s H E hr hg) hs, F.kp, F.bindsN hbind, .nil, fun _ => .nil⟩
theorem has_take (D : ∃ fd, FunD K x qual params body scope [] [] f fd) (S : FnScope N ps scope) (h2 : ps.length = 2) (h5 : N.length = 5)
    (hbind : ∀ (kV doc pm : Value) (an : Option Addr) (cdv ct : Value) (us : List Value), us.length = ps.length → bindArgs (PySem.W.fnOf x qual params body scope .none kV doc pm an cdv ct) ⟨us, []⟩ = pure (ps.zip us))
    (hb : ∀ (fd : FuncData) (cdv : Value) (A : Around) (outer : List Env) (s : Shared) (H : Hp) (E : XK), Room k (A.deeper (PyProof.Rows.envOfC qual scope s.heap.objs.size f cdv)) → PSs (cxOf CX0 P w K mg base N qual scope f cdv A outer s H E).nox body (t_take K)) :
    HasF false P w K mg base (k + 1) f ps [] takeF := by
  obtain ⟨fd, F⟩ := D
  refine ⟨fd, [], [], F.ok S (fun vs H Q E h => ?_) (fun cdv A outer s H vs Q E hr h => ⟨_, PSs.nox (hb fd cdv A outer s H E hr), take_ok h5 h⟩), F.kp, F.bindsN hbind, .nil, fun _ => .nil⟩
  obtain ⟨g, n, ds, P, ok, dd, ⟨u, rfl, _⟩, _⟩ := h
  rw [dd.length, h2]
  rfl
end
theorem SaysP.fact {fx : List Fx} {fn : List PDef} {K : PySem.W.Frag} (c : SaysP fx fn K) (i : Nat) {f : Fx} (h : fx[i]? = some f := by rfl) : f.ok K = true := c.fx (List.mem_of_getElem? h)
end Pd
namespace L2
open PySem PySem.Spec PyProof.Rows
section
variable {prog : Program} {w : World} {A : Around} {E : Value → Shared → Prop} {s : Shared} {z TI TO i1 i2 T : Addr} {fp1 fp2 : List Addr} {n1 n2 i : Nat} {P1 P2 : Nat → Value → Prop} {St1 St2 : Nat → Heap → Prop}
abbrev IsZipF (h : Heap) (z TI TO : Addr) (f0 : Value) (b : Bool) : Prop := h.get? z = some { cls := .type "zip", dict := none, data := .fields #[f0, .bool b, .bool false, .ref TI, .ref TO], slots := #[] }
def ZSt (h : Heap) (z TI TO : Addr) : Prop := ∃ f0 b, IsZipF h z TI TO f0 b ∧ (f0 = .none ∨ ∃ T : Addr, f0 = rawInt T)
theorem ZSt.typeIs (h : ZSt s.heap z TI TO) : s.TypeIs (.ref z) "zip" := by
  obtain ⟨f0, b, e, _⟩ := h
  exact ⟨_, e, rfl⟩
end
end L2
namespace Pd
open PySem L2
end Pd
namespace Pd
open PySem PyProof.Rows L2
def TabBs (K : PySem.W.Frag) (mg : Str → Option Value) (base : Heap) : Prop := ∀ (c P : Addr) (q : Str) (o : Obj), K.lookup c = some o → tabOf o = some (P, q) → LamX.TabB base mg c P
theorem law_calledG {P : Program} {w : World} {K : PySem.W.Frag} {mg mb : Str → Option Value} {k : Nat} {fa a : Addr} {x : Str} {sp : FD} {s : Shared} {vs : List Value} {ns : List Int}
    (KX : K.In s.heap) (TA : TabAt s.heap K) (hbm : ∃ (bm : Addr) (ob : Obj), mg "__builtins__" = some (.ref bm) ∧ bm ≠ builtinsNs ∧ s.heap.get? bm = some ob ∧ ob.cls = .type "module" ∧ ob.dict = some builtinsNs ∧ ob.data = .plain) (hns : s.heap.Ns mainGlobals mg) (hb : s.heap.Ns builtinsNs mb) (hbb : ∀ x : Str, x ≠ "__name__" → mb x = bootBuiltins x) (hlim : s.heap.NoLimit) (hg : s.gens = #[])
    (ha : s.heap.get? a = some { cls := .type "list", data := .seq vs.toArray }) (hi : IntsAre vs ns) (hl : ns.length ≤ sizeLine) (hr : Room k callerA)
    (F : ∀ base : Heap, K.In base → base.Ns mainGlobals mg → TabBs K mg base → HasG false P w K mg base k fa [x] [] sp)
    (hsp : sp [.scr ns] 1000000000 fun _ r => r = .bl true) :
    codeAny (model P w) callerA (.call (.ref fa) ⟨[.ref a], []⟩) (fun r s' => r = .ok (.ret (.bool true)) ∧ OldK s.heap s'.heap ∧ s'.os = s.os ∧ AllBare s'.gens) s := by
  obtain ⟨H0, hO0, hS0, hok0, hA0⟩ := script_track (P := P) (w := w) KX ha hi hl
  have atT : ∀ b, b ∈ (tabsK K).map (·.1) → s.heap.get? b = some { cls := .none, data := .fields #[] } := fun b hb => by
    obtain ⟨p, hp, rfl⟩ := List.mem_map.mp hb
    exact TA.obj p hp
  have aT : a ∉ (tabsK K).map (·.1) := fun z => by
    have q := atT a z
    rw [ha] at q
    have z' : Data.seq vs.toArray _ = Data.fields #[] := congrArg Obj.data (Option.some.inj q)
    cases z'
  obtain ⟨H, hH⟩ : ∃ H : Hp, H = fun b => if b ∈ (tabsK K).map (·.1) then some (.tbl #[]) else H0 b := ⟨_, rfl⟩
  have onT : ∀ b, b ∈ (tabsK K).map (·.1) → H b = some (.tbl #[]) := fun b hb => by rw [hH]; exact if_pos hb
  have offT : ∀ b, b ∉ (tabsK K).map (·.1) → H b = H0 b := fun b hb => by rw [hH]; exact if_neg hb
  have sm : Same H0 H := fun b u e => by
    rw [offT b (by rw [(hA0 b (by rw [e]; exact Option.some_ne_none u)).1]; exact aT)]
    exact e
  have hS : SqL K H a (ns.map V.int) := sm.seq hS0
  have hok : HOk P w H s.heap := fun b u e => by
    by_cases hb : b ∈ (tabsK K).map (·.1)
    · rw [onT b hb] at e
      cases e
      exact atT b hb
    · rw [offT b hb] at e
      exact (hok0 b u e).stay (fun _ _ _ q => q) (fun c q => sm _ _ q) fun c xs q => sm _ _ q
  have low : ∀ {b : Addr} {o : Obj}, s.heap.get? b = some o → H b = none → (hidT s.heap H).get? b = some o := fun e n => hidT_get e n
  have noH : ∀ {b : Addr} {o : Obj}, s.heap.get? b = some o → (∀ vs n, o.data ≠ .seq vs n) → o.data ≠ .fields #[] → H b = none := fun {b o} e d1 d2 => by
    by_cases hb : b ∈ (tabsK K).map (·.1)
    · rw [atT b hb] at e
      cases e
      exact (d2 rfl).elim
    · rw [offT b hb]
      refine Classical.byContradiction fun n => ?_
      rw [(hA0 b n).1, ha] at e
      cases e
      exact d1 _ _ rfl
  have dictOff : ∀ {b : Addr} {o : Obj} {es : Array DictEntry} {ep : Nat}, s.heap.get? b = some o → o.data = .dict es ep → H b = none := fun {b o es ep} e d => noH e (fun vs n z => by rw [d] at z; cases z) fun z => by rw [d] at z; cases z
  have nsUp : ∀ {b : Addr} {m : Str → Option Value}, s.heap.Ns b m → (hidT s.heap H).Ns b m := fun {b m} q => by
    obtain ⟨o, es, ep, e, d, r⟩ := q
    exact ⟨o, es, ep, low e (dictOff e d), d, r⟩
  have KB : K.In (hidT s.heap H) := fun b o e => low (KX b o e) (by
    by_cases hb : b ∈ (tabsK K).map (·.1)
    · obtain ⟨p, hp, rfl⟩ := List.mem_map.mp hb
      rw [TA.out p hp] at e
      cases e
    · rw [offT b hb]
      refine Classical.byContradiction fun n => ?_
      rw [(hA0 b n).2] at e
      cases e)
  have M : Mod K mg (hidT s.heap H) := by
    obtain ⟨mc, h1, h2⟩ := hlim
    exact ⟨KB, nsUp hns, ⟨mb, nsUp hb, hbb⟩, mc, nsUp h1, h2⟩
  have none0 : ∀ {b : Addr}, ¬ b ∈ ([] : List Addr) := fun z => nomatch z
  have e0 : Env0 P w K mg (hidT s.heap H) callerA [] s H := ⟨rfl, M, fun b o e => of_hidT e, Nat.le_of_eq (hidT_size _ _), trivial, fun b z => absurd (show b ∈ ([] : List Addr) from z) none0, hok, .of_eq hg⟩
  have TBs : TabBs K mg (hidT s.heap H) := fun c Pt q o hl ht => by
    have hm := tabs_mem hl ht
    have hP := TA.obj _ hm
    obtain ⟨bm, ob, b1, b2, b3, b4, b5, b6⟩ := hbm
    refine ⟨PySem.W.codeHd_of_K KB (TA.code c Pt q o hl ht), ⟨bm, ob, b1, b2, fun z => ?_, fun z => ?_, low b3 (noH b3 (fun vs n z => by rw [b6] at z; cases z) fun z => by rw [b6] at z; cases z), b4, b5, b6⟩, fun z => ?_⟩
    · obtain ⟨o, es, ep, e, hd, _⟩ := hns
      rw [z, e] at b3
      cases b3
      rw [hd] at b6
      cases b6
    · rw [z] at b3
      rw [show s.heap.get? Pt = _ from hP] at b3
      cases b3
      cases b6
    · obtain ⟨o, es, ep, e, hd, _⟩ := hns
      rw [z, show s.heap.get? Pt = _ from hP] at e
      cases e
      cases hd
  let g : Gh := ⟨H0, fun b => b ∈ (tabsK K).map (·.1), []⟩
  have ok : Ok false K g H 1000000000 := by
    refine ⟨sm, fun b hb => ⟨?_, ?_⟩, ⟨fun p hp => ?_, fun p hp => List.mem_map.mpr ⟨p, hp, rfl⟩, fun b ps e => ?_⟩, CelOk.nil⟩
    · refine Classical.byContradiction fun n => ?_
      exact aT (by rw [← (hA0 b n).1]; exact hb)
    · obtain ⟨p, hp, rfl⟩ := List.mem_map.mp hb
      exact .inl (.inl ⟨p.2, hp⟩)
    · exact LamX.TabS.nil (onT _ (List.mem_map.mpr ⟨p, hp, rfl⟩))
    · by_cases hb : b ∈ (tabsK K).map (·.1)
      · obtain ⟨p, hp, rfl⟩ := List.mem_map.mp hb
        exact ⟨p.2, hp⟩
      · rw [offT b hb] at e
        rcases hO0 b with z | ⟨ob, xs, z⟩ <;> (rw [z] at e; cases e)
  have L : liftF false K sp [.ref a] H (fun v _ => v = .bl true) E0 := ⟨g, 1000000000, [.scr ns], _, ok, .cons (.scr hS0) .nil, hsp, fun v g' H' n' r q _ _ d => by
    have q' : r = .bl true := q
    rw [q'] at d
    cases d
    rfl⟩
  obtain ⟨fd, dvs, ds, FG, _, B, hv, hd⟩ := (F _ KB (nsUp hns) TBs).ex
  have hdv : dvs = [] := by
    cases hd g
    rfl
  subst hdv
  have hds : ds = [] := by
    cases hv
    rfl
  subst hds
  refine codeAny_mono (FG.run callerA [] s H ⟨[.ref a], []⟩ [.ref a] [.ref a] _ E0 hr rfl e0 (B s [.ref a] KX rfl) (.cons rfl .nil) L) fun r s' z => ?_
  match r, z with
  | .error _, z => exact False.elim z
  | .ok .next, z => exact False.elim z
  | .ok .brk, z => exact False.elim z
  | .ok .cont, z => exact False.elim z
  | .ok (.ret u), z =>
    obtain ⟨v, H', os, bare, un, hok', rv, q⟩ := z
    have q' : v = .bl true := q
    rw [q'] at rv
    obtain rfl : u = Value.bool true := rv
    have same : ∀ b o, b ∉ (tabsK K).map (·.1) → s.heap.get? b = some o → s'.heap.get? b = some o := fun b o nb e => by
      rcases hO0 b with hz | ⟨ob, xs, hz⟩
      · exact un.keep b o e (by rw [offT b nb]; exact hz) (fun z => absurd (show b ∈ ([] : List Addr) from z) none0) (by simp)
      · have hz' : H b = some (.frz ob (.lst xs)) := sm _ _ hz
        obtain ⟨e1, _⟩ := hok b _ hz'
        obtain ⟨e2, _⟩ := hok' b _ (un.frzs b ob _ hz')
        rw [e] at e1
        cases e1
        exact e2
    have grown : ∀ b, b ∈ (tabsK K).map (·.1) → ∃ more : Array Value, s'.heap.get? b = some { cls := .none, data := .fields more } := fun b hb => by
      obtain ⟨more, z⟩ := un.tbls b #[] (onT b hb)
      exact ⟨_, hok' b _ z⟩
    refine ⟨rfl, ⟨fun b o e => ?_, fun b o e => ?_⟩, os, bare⟩
    · by_cases hb : b ∈ (tabsK K).map (·.1)
      · obtain ⟨more, hm⟩ := grown b hb
        obtain ⟨p, hp, ep⟩ := List.mem_map.mp hb
        obtain ⟨c, o1, hl1, ht1⟩ := tabs_of hp
        have CH := PySem.W.codeHd_of_K KX (TA.code c p.1 p.2 o1 hl1 ht1)
        have tb := atT b hb
        rw [tb] at e
        cases e
        rw [← ep] at hm tb ⊢
        exact .inr (.inl ⟨(CH.tab tb).isCodeTable, rfl, #[], more, rfl, by rw [Array.empty_append]; exact hm⟩)
      · exact .inl (same b o hb e)
    · by_cases hb : b ∈ (tabsK K).map (·.1)
      · obtain ⟨more, hm⟩ := grown b hb
        exact ⟨_, hm⟩
      · exact ⟨o, same b o hb e⟩
theorem law_walkG {l : PySem.W.OpenLaw} {n k : Nat} {q : Program} {loose : List Str} {XP : (Str → Option Value) → Heap → Prop} {YP : World → Heap → Prop} {d : DefRec} {x : Str}
    (hn : l.most = some n) (hn2 : n ≤ sizeLine) (hdf : d.params.defaults = []) (hr : Room k callerA)
    (F : ∀ (w : World) (mg : Str → Option Value) (fa : Addr) (h : Heap), YP w h → h.Ns mainGlobals mg → mg d.name = some (.ref fa) →
      ∃ (K : PySem.W.Frag) (sp : FD), K.In h ∧ TabAt h K ∧
        (∀ ns : List Int, ns.length ≤ n → sp [.scr ns] 1000000000 fun _ r => r = .bl true) ∧
        ∀ base : Heap, K.In base → base.Ns mainGlobals mg → TabBs K mg base → HasG false l.prog w K mg base k fa [x] [] sp) :
    PySem.W.WalkO q loose XP YP l.row.toRowW d [] (fun f vs => PySem.call f vs) := by
  refine Att.attach_call hn hdf fun w s₀ s₁ mg mb fa o pm cd doc a vs ns G Y ho hd hcd hmg hobj hints hlen hg => ?_
  obtain ⟨K, sp, KX, TA, hsp, hF⟩ := F w mg fa _ Y G.T.g hmg
  exact law_calledG KX TA G.T.bmain G.T.g G.T.b G.T.builtins G.T.nolimit hg hobj hints (Nat.le_trans hlen hn2) hr hF (hsp ns hlen)
end Pd
namespace PySem
end PySem
namespace L2
open PySem PySem.Spec PyProof.Rows
end L2
namespace Pd
open PySem L2
end Pd
namespace L2
open PySem PySem.Spec PyProof.Rows
end L2
namespace Pd
variable {ℓ : Bool}
open PySem L2 PyProof.Rows
variable {W : WX}
section
variable {X : Cx} {pos apos p2 : Pos} {o e a b cc : Expr} {d da db dc : DE} {i j : Nat}
def dLstOf (d : DE) : DO := fun n ε P => d n ε fun n1 x => match x with
  | .lst xs => P n1 xs
  | .tup xs => P n1 xs
  | .tupK xs => P n1 xs
  | .str l => l.length ≤ 16777216 ∧ P n1 (sgn l)
  | _ => False
theorem do_list {p : Pos} (hc : X.calm = true) (hg : Gl X "list") (hm : X.mg "list" = none) (ha : PE X a (liftE ℓ X.K d)) (na : starEach [a] X.env = (false, eval a X.env) :: starEach [] X.env := by rfl) :
    PE X (.Call (.Name "list" p) [a] [] pos) (liftO ℓ X.K (dLstOf d)) :=
  pe_w (pe_callTy (call_listA hc) hg hm bt_list (pa_cons ha pa_nil na) (by decide) (by decide) na) fun σ H Q ⟨O, g, n, ε, P, r, q, k⟩ => ⟨O, g, n, ε, _, r, q, fun v g1 H1 n1 x q1 s1 o1 e1 => by
    have fin : ∀ {vs : List V} {ds : List D}, Dens X.K g1 vs ds → P n1 ds → ∀ p, H1 p = none → Q (.ref p) (upd H1 p (.lst vs)) := fun {vs ds} dd q2 p hp => by
      obtain ⟨a1, a2, a3, a4⟩ := new_own o1 hp (.lst vs)
      exact k p vs g1 _ n1 ds q2 (s1.trans a1) a2 (s1.back0 hp) a3 a4 upd_same dd
    cases e1 with
    | lst h1 h2 => exact .inl ⟨_, _, rfl, .inl (SqL.of (o1.sub _ _ h1)), fin h2 q1⟩
    | tup h1 h2 => exact .inl ⟨_, _, rfl, .inr (Or.inl (h1.same o1.sub)), fin h2 q1⟩
    | tupK h1 h2 => exact .inl ⟨_, _, rfl, .inr (h1 _), fin h2 q1⟩
    | str l => exact .inr ⟨_, rfl, sz (by simpa [Str.length] using q1.1), fin (dens_sgn l) q1.2⟩
    | _ => exact q1.elim⟩
end
section
variable {P : Program} {w : World} {K : PySem.W.Frag} {mg : Str → Option Value} {base : Heap} {k : Nat} {f : Addr} {ps : List Str} {x qual : Str} {params : Arguments} {body : List Stmt} {scope : Scope} {N : List Str} {b : DS} {sp : FD} {dvs : List V} {dd : List D}
theorem has_fD (D : ∃ fd, FunD K x qual params body scope dvs [] f fd) (S : FnScope N ps scope) (n j : Nat) (hd : dvs ≠ []) (hn : n + (dvs.length - j) = ps.length)
    (hbind : ∀ (T : Addr) (kV doc pm : Value) (an : Option Addr) (cdv ct : Value) (us its : List Value), us.length = n → its.length = dvs.length →
      ∃ k, bindArgs (PySem.W.fnOf x qual params body scope (.ref T) kV doc pm an cdv ct) ⟨us, []⟩ = seqItems? (.ref T) >>= k ∧ k (some its.toArray) = pure (ps.zip (us ++ its.drop j)))
    (hdd : ∀ g, Dens K g (dvs.drop j) dd)
    (hb : ∀ (fd : FuncData) (cdv : Value) (A : Around) (outer : List Env) (s : Shared) (H : Hp) (E : XK), Room k (A.deeper (PyProof.Rows.envOfC qual scope s.heap.objs.size f cdv)) → PSs (cxOf CX0 P w K mg base N qual scope f cdv A outer s H E).nox body (liftS ℓ W0 K b))
    (hs : ∀ ds n Q, sp ds n Q → dFn N.length ps.length b ds n Q) : HasF ℓ P w K mg base (k + 1) f ps dd sp := by
  obtain ⟨fd, F⟩ := D
  obtain ⟨ds, hv, hB⟩ := F.binds1 n j hd hn hbind
  exact ⟨fd, _, ds, fn_ok F S (fun cdv A outer s H E hr => hb fd cdv A outer s H E hr) hs, F.kp, hB, hv, hdd⟩
end
def gIsB : G2 := fun x y P => match x, y with
  | .bl a, .bl b => P (.bl (decide (a = b)))
  | _, _ => False
def gIsNotB : G2 := fun x y P => match x, y with
  | .bl a, .bl b => P (.bl (!decide (a = b)))
  | _, _ => False
end Pd
namespace L2
open PySem PySem.Spec PyProof.Rows HT
end L2
namespace Pd
open PySem L2
end Pd
namespace Pd
open PySem L2
end Pd
namespace L2
open PySem PySem.Spec PyProof.Rows HT
abbrev sNew (w : World) : Obj := { cls := .type "set", dict := none, data := .set #[] 0 (.fresh 0 0 (!w.params.followText "set-order")) }
end L2
namespace Pd
variable {ℓ : Bool}
open PySem L2
theorem bt_set : bootBuiltins "set" = some (.type "set") := by decide +kernel
end Pd
namespace Pd
variable {ℓ : Bool}
open PySem L2
variable {W : WX}
mutual
def D.still : D → Bool
  | .non => true
  | .bl _ => true
  | .int _ => true
  | .str _ => true
  | .tup xs => D.stills xs
  | .tupK xs => D.stills xs
  | .tupF xs => D.stills xs
  | .pot => true
  | .cel _ _ => false
  | .ref _ => true
  | .err _ d => d.still
  | _ => false
def D.stills : List D → Bool
  | [] => true
  | x :: xs => x.still && D.stills xs
end
section
variable {K : PySem.W.Frag} {g g' : Gh}
structure Less (g g' : Gh) : Prop where
  G : ∀ a o, g.G a = some o → (∀ C dx fvs, o ≠ .ins C dx fvs) → (∀ vs, o ≠ .lst vs) → (∀ kvs, o ≠ .dK kvs) → g'.G a = some o
  p : ∀ a, g.pot a → g'.pot a
  c : g'.cel = g.cel
mutual
theorem Den.less (e : Less g g') : ∀ {v : V} {d : D}, Den K g v d → d.still = true → Den K g' v d
  | _, _, .non, _ => .non
  | _, _, .bl b, _ => .bl b
  | _, _, .int i, _ => .int i
  | _, _, .str l, _ => .str l
  | _, _, .lst h1 h2, h => by
    unfold D.still at h
    cases h
  | _, _, .tup (ds := ds) h1 h2, h => .tup (h1.elim (fun h1 => .inl (e.G _ _ h1 (fun _ _ _ => HO.noConfusion) (fun _ => HO.noConfusion) fun _ => HO.noConfusion)) fun ⟨o, h1⟩ => .inr ⟨o, e.G _ _ h1 (fun _ _ _ => HO.noConfusion) (fun _ => HO.noConfusion) fun _ => HO.noConfusion⟩) (Dens.less e h2 (by unfold D.still at h; exact h))
  | _, _, .obj h1 h2, h => by
    unfold D.still at h
    cases h
  | _, _, .pot h hn, _ => .pot (e.p _ h) ⟨hn.1, by rw [e.c]; exact hn.2⟩
  | _, _, .err h1 h2 h3, h => .err (e.G _ _ h1 (fun _ _ _ z => by unfold Exq at z; cases z) (fun _ z => by unfold Exq at z; cases z) fun _ z => by unfold Exq at z; cases z) (e.G _ _ h2 (fun _ _ _ => HO.noConfusion) (fun _ => HO.noConfusion) fun _ => HO.noConfusion) (Den.less e h3 (by unfold D.still at h; exact h))
  | _, _, .dic h1 h2 h3, h => by
    unfold D.still at h
    cases h
  | _, _, .scr h1, h => by
    unfold D.still at h
    cases h
  | _, _, .cel _, h => by
    unfold D.still at h
    cases h
  | _, _, .ref a, _ => .ref a
  | _, _, .tupK h1 h2, h => .tupK h1 (Dens.less e h2 (by unfold D.still at h; exact h))
  | _, _, .tupF h1 c d h2, h => .tupF (e.G _ _ h1 (fun _ _ _ => HO.noConfusion) (fun _ => HO.noConfusion) fun _ => HO.noConfusion) c d (Dens.less e h2 (by unfold D.still at h; exact h))
theorem Dens.less (e : Less g g') : ∀ {vs : List V} {ds : List D}, Dens K g vs ds → D.stills ds = true → Dens K g' vs ds
  | _, _, .nil, _ => .nil
  | _, _, .cons (d := d) (ds := ds) h t, z => by
    unfold D.stills at z
    rw [Bool.and_eq_true] at z
    exact .cons (Den.less e h z.1) (Dens.less e t z.2)
end
end
section
variable {X : Cx} {C : Addr} {pos pos' : Pos} {o e : Expr} {d : DE} {i : Nat} {f : Str}
def dTmq (i : Nat) (d : DE) : DE := fun n ε P => d n (frzE ε i) fun n' r => r.still = true ∧ P n' r
def dFldO (C : Addr) (i : Nat) (f : Str) : DE := fun n ε P => match ε[i]? with
  | some (.own (.ins C' fs)) => C' = C ∧ ∃ y, fs.lookup f = some y ∧ P n y
  | _ => False
end
abbrev DQ := Nat → Ev → (Nat → List (Str × D) → Prop) → Prop
def qMake (fi : FI) (dd : List D) (t : DA) : DQ := fun n ε P => t n ε fun n1 ds => fi (ds ++ dd) n1 P
section
variable {X : Cx} {C : Addr} {pos : Pos} {x : Str} {p : Pos} {e : Expr} {es : List Expr} {t : DA} {k : Nat} {ps : List Str} {dd : List D} {fi : FI} {dvs : List V} {E : XK}
def dSetQ (C : Addr) (i : Nat) (d : DQ) : DS := fun N n ε => N.slf ≠ some C ∧ d n ε fun n1 fs => N.nx n1 (ε.set i (.own (.ins C fs)))
variable {q : DQ} {i : Nat} {y : Str} {pos' : Pos} {a : Expr}
def dParQ (C : Addr) (i j : Nat) (q : DQ) (d : DE) : DS := fun N n ε => N.slf ≠ some C ∧ q n ε fun n1 fs => d n1 ε fun n2 y => N.nx n2 ((ε.set i (.own (.ins C fs))).set j (.val y))
end
abbrev FM := List (Str × D) → List D → Nat → (Nat → List (Str × D) → Prop) → Prop
def dMut (C : Addr) (i : Nat) (m : Str) (sp : FM) (dd : List D) (t : DA) : DS := fun N n ε => match ε[i]? with
  | some (.own (.ins C' fs)) => C' = C ∧ fs.lookup m = none ∧ t n ε fun n1 ds => sp fs (ds ++ dd) n1 fun n2 fs' => N.nx n2 (ε.set i (.own (.ins C fs')))
  | _ => False
end Pd
namespace Pd
open PySem L2
end Pd
namespace Pd
open PySem L2
end Pd
namespace Pd
variable {ℓ : Bool}
open PySem L2
variable {W : WX}
def rsz (i j c : Int) : Nat := (if i < j then (j - i - 1) / c + 1 else 0).toNat
theorem rsz_eq {i j c : Int} (hc : 0 < c) : Builtin.Range.rangeSize i j c = (rsz i j c : Nat) := by
  unfold Builtin.Range.rangeSize rsz
  rw [if_pos (by omega)]
  split
  · have := Int.ediv_nonneg (a := j - i - 1) (b := c) (by omega) (by omega)
    omega
  · rfl
theorem RgC.pos {i j c : Int} (hc : 0 < c) (hc' : c < 1073741824) (ha : -(2 ^ 60) ≤ i) (ha' : i < 2 ^ 60) (hb : -(2 ^ 60) ≤ j) (hb' : j < 2 ^ 60) : RgC i j c (rsz i j c) := by
  refine ⟨by omega, by omega, ?_, rsz_eq hc⟩
  have h1 : Builtin.Range.rangeSize i j c ≤ 2 ^ 62 ∧ 0 ≤ Builtin.Range.rangeSize i j c := by
    unfold Builtin.Range.rangeSize
    rw [if_pos (by omega)]
    split
    · have h1 := Int.ediv_le_self c (show (0 : Int) ≤ j - i - 1 by omega)
      have h2 := Int.ediv_nonneg (a := j - i - 1) (b := c) (by omega) (by omega)
      omega
    · omega
  unfold Builtin.Range.small
  simp only [Builtin.Range.rangeFitsLong, Bool.and_eq_true, Bool.or_eq_true, decide_eq_true_eq, beq_iff_eq, if_pos (show c > 0 from hc)]
  omega
end Pd
namespace Pd
open PySem L2
end Pd
namespace L2
open PySem PySem.Spec PyProof.Rows HT
theorem is_strT (P : Program) (w : World) (k : Str) (u : Tok) : (strKind P w).is k (.str k u) = true := by
  show Value.isStrOf k (.str k u) = true
  simp [Value.isStrOf]
def keyS (e : Int × Value) : Str := match e.2 with | .str k _ => k | _ => ⟨#[]⟩
def GoodT (w : World) (e : Int × Value) : Prop := ∃ k tk, e.2 = Value.str k tk ∧ e.1 = hashStr w k
def SetT (w : World) (h : Heap) (a : Addr) (S : Str → Bool) (n : Nat) : Prop :=
  ∃ o es ep t, h.get? a = some o ∧ o.ExactSet ∧ o.data = .set es ep t ∧ (∀ e ∈ es.toList, GoodT w e) ∧ (es.toList.map keyS).Nodup ∧ (∀ k, S k = true ↔ k ∈ es.toList.map keyS) ∧
    es.size < scanBound ∧ t.fits es.size = true ∧ es.size = n ∧ Ris t.place.toList ∧ (w.params.followText "set-order" = true ∨ t.led = true)
theorem strs_each : ∀ {us : List Value} {ks : List Str}, StrsAre us ks → PySem.W.EachIs (fun v k => ∃ t, v = Value.str k t) us ks
  | _, _, .nil => .nil
  | _, _, .cons k t h => .cons ⟨t, rfl⟩ (strs_each h)
theorem strsAt2 : ∀ {us : List Value} {ks : List Str}, StrsAre us ks → ∀ (i : Nat) (v : Value), us[i]? = some v → ∃ t, v = Value.str (ks.getD i ⟨#[]⟩) t
  | _, _, .nil, i, v, h => by simp at h
  | _, _, .cons k t h, 0, v, e => by
    simp at e
    exact ⟨t, by rw [← e]; rfl⟩
  | _, _, .cons k t h, i + 1, v, e => by
    simp at e
    exact strsAt2 h i v e
section
variable {P : Program} {w : World} {h h' : Heap} {a : Addr} {S : Str → Bool} {n : Nat}
theorem SetT.at (R : SetT w h a S n) (k : ∀ o, h.get? a = some o → h'.get? a = some o) : SetT w h' a S n := by
  obtain ⟨o, es, ep, t, ho, r⟩ := R
  exact ⟨o, es, ep, t, k o ho, r⟩
theorem SetT.congr {S' : Str → Bool} (R : SetT w h a S n) (e : ∀ k, S' k = S k) : SetT w h a S' n := by
  have q : S' = S := funext e
  rw [q]; exact R
theorem goodT_elems {l : List (Int × Value)} (g : ∀ e ∈ l, GoodT w e) : ElemsOf (strKind P w) l := fun e he => by
  obtain ⟨k, tk, h1, h2⟩ := g e he
  exact ⟨⟨k, by rw [h1]; exact is_strT P w k tk, h2⟩, by rw [h1] <;> rfl⟩
theorem goodT_is {e : Int × Value} (g : GoodT w e) (k : Str) : (strKind P w).is k e.2 = true ↔ keyS e = k := by
  obtain ⟨k0, tk, h1, _⟩ := g
  unfold keyS
  rw [h1]
  show Value.isStrOf k (.str k0 tk) = true ↔ k0 = k
  simp [Value.isStrOf]
theorem goodT_mem {l : List (Int × Value)} (g : ∀ e ∈ l, GoodT w e) (k : Str) : k ∈ l.map keyS ↔ ∃ e ∈ l, (strKind P w).is k e.2 = true := by
  rw [List.mem_map]
  constructor
  · rintro ⟨e, he, q⟩
    exact ⟨e, he, (goodT_is (g e he) k).2 q⟩
  · rintro ⟨e, he, q⟩
    exact ⟨e, he, (goodT_is (g e he) k).1 q⟩
end
section
variable {P : Program} {w : World} {A : Around} {E : Value → Shared → Prop} {s : Shared} {a : Addr} {S : Str → Bool} {n : Nat}
theorem setT_add_tail {g : Bool → Sem Unit} (hg : ∀ (b : Bool) (s₁ : Shared) (Q' : Unit → Shared → Prop), Q' () s₁ → wpAny (model P w) A (g b) Q' E s₁)
    {o : Obj} {es : Array (Int × Value)} {ep : Nat} {t : SetTable} (ho : s.heap.get? a = some o) (hex : o.ExactSet) (hd : o.data = .set es ep t)
    {es1 : Array (Int × Value)} {t2 : SetTable} {S' : Str → Bool} (g1 : ∀ e ∈ es1.toList, GoodT w e) (nd1 : (es1.toList.map keyS).Nodup) (m1 : ∀ k, S' k = true ↔ k ∈ es1.toList.map keyS)
    (hb1 : es1.size < scanBound) (hf2 : t2.fits es1.size = true) (hr : Ris t2.place.toList) (hl : w.params.followText "set-order" = true ∨ t2.led = true) {wasDummy : Bool} {R : Option Bool → Shared → Prop}
    (hR : ∀ h', Heap.SameBut a s.heap h' → SetT w h' a S' es1.size → R (some true) { s with heap := h' }) :
    wpAny (model P w) A (do
        storeSet a es1 t2
        if (!wasDummy && t2.tooFull) = true then do
            g (relayAll t2 es1 (SetTable.grown es1.size)).2.2
            storeSet a (relayAll t2 es1 (SetTable.grown es1.size)).1 (relayAll t2 es1 (SetTable.grown es1.size)).2.1
            pure (some true)
          else pure (some true)) R E s := by
  refine wpAny_bind (wpAny_storeSet_of ho hd ?_ (fits_of_scanBound hb1))
  have ho1 := store_at (es' := es1) (t' := t2) ho hd
  have sb1 := Heap.SameBut.update s.heap a (Obj.putSet es1 t2)
  split
  · have pm := relayAll_perm t2 es1 (SetTable.grown es1.size)
    have hf3 := relayAll_fits t2 es1 (SetTable.grown es1.size)
    have hr3 := relayAll_ris t2 es1 (SetTable.grown es1.size)
    have hl3 := relayAll_led t2 es1 (SetTable.grown es1.size)
    generalize relayAll t2 es1 (SetTable.grown es1.size) = Z at pm hf3 hr3 hl3 ⊢
    obtain ⟨es2, t3, gave⟩ := Z
    dsimp only at pm hf3 hr3 hl3 ⊢
    have hsz : es2.size = es1.size := by rw [← Array.length_toList, pm.length_eq, Array.length_toList]
    have hb2 : es2.size < scanBound := by rw [hsz]; exact hb1
    refine wpAny_bind (hg _ _ _ ?_)
    refine wpAny_bind (wpAny_storeSet_of ho1 rfl ?_ (fits_of_scanBound hb2))
    have ho2 := store_at (es' := es2) (t' := t3) ho1 rfl
    refine wpAny_pure (hR _ (sb1.trans (Heap.SameBut.update _ a _)) ?_)
    exact ⟨_, es2, _, t3, ho2, hex, rfl, fun e he => g1 e (pm.mem_iff.mp he), (pm.map keyS).nodup_iff.mpr nd1, fun k => (m1 k).trans (pm.map keyS).mem_iff.symm, hb2, hf3, hsz, hr3,
      hl.imp id fun z => by rw [hl3]; exact z⟩
  · exact wpAny_pure (hR _ sb1 ⟨_, es1, _, t2, ho1, hex, rfl, g1, nd1, m1, hb1, hf2, rfl, hr, hl⟩)
theorem setT_add_hashed {k : Str} {tk : Tok} {Q : Bool → Shared → Prop} (R : SetT w s.heap a S n) (room : n + 1 < scanBound)
    (hQ : ∀ h', Heap.SameBut a s.heap h' → SetT w h' a (fun j => S j || decide (j = k)) (if S k = true then n else n + 1) → Q (!S k) { s with heap := h' }) :
    wpAny (model P w) A (setAddHashed a (.str k tk) ((strKind P w).hash k)) Q E s := by
  obtain ⟨o, es, ep, t, ho, hex, hd, g, nd, hm, hb, hf, hn, hr, hl⟩ := R
  have hkey : (strKind P w).is k (.str k tk) = true := is_strT P w k tk
  have hsc : (Value.str k tk).scannable = true := rfl
  have hel : ElemsOf (strKind P w) es.toList := goodT_elems g
  unfold setAddHashed setAddHashedIn
  refine wpAny_holding (wpAny_bind (wpAny_setState_of ho hd hf ?_))
  dsimp only
  rw [byScan_of hsc hb hel]
  simp only [↓reduceIte]
  unfold setAddByScan
  refine wpAny_bind ?_
  refine wpAny_bind (wpAny_rule ?_)
  refine wpAny_bind (wpAny_setScan_of hkey ho hd hf hel ?_)
  cases hfi : List.findIdx? (fun e => (strKind P w).is k e.2) es.toList with
  | some j =>
    dsimp only
    obtain ⟨hj, pj, _⟩ := List.findIdx?_eq_some_iff_getElem.mp hfi
    have hSk : S k = true := (hm k).2 ((goodT_mem (P := P) (w := w) g k).2 ⟨es.toList[j], List.getElem_mem hj, pj⟩)
    refine wpAny_pure (wpAny_pure ?_)
    have q := hQ s.heap (Heap.SameBut.refl a s.heap) ⟨o, es, ep, t, ho, hex, hd, g, nd, fun i => by
      rw [Bool.or_eq_true, decide_eq_true_eq, ← hm i]
      exact ⟨fun z => z.elim id (fun e => e ▸ hSk), .inl⟩, hb, hf, by rw [if_pos hSk]; exact hn, hr, hl⟩
    rw [hSk] at q
    exact q
  | none =>
    dsimp only
    have hnk : k ∉ es.toList.map keyS := fun z => by
      obtain ⟨e, he, q⟩ := (goodT_mem (P := P) (w := w) g k).1 z
      have c := List.findIdx?_eq_none_iff.mp hfi e he
      rw [q] at c
      cases c
    have hSk : S k = false := by
      cases q : S k with
      | false => rfl
      | true => exact absurd ((hm k).1 q) hnk
    have hgw : ∀ (b : Bool) {s₁ : Shared} {Q' : Unit → Shared → Prop}, Q' () s₁ → wpAny (model P w) A (match b with | true => rule "set.scan.the-table-gave-way" | false => pure ()) Q' E s₁ :=
      fun b s₁ Q' q => by cases b <;> first | exact wpAny_pure q | exact wpAny_rule q
    have pm := layNew_perm t es ((strKind P w).hash k) (.str k tk)
    have hf1 := layNew_fits t es ((strKind P w).hash k) (.str k tk)
    have hr1 := layNew_ris t es ((strKind P w).hash k) (.str k tk) hr
    have hl1 := layNew_led t es ((strKind P w).hash k) (.str k tk)
    generalize layNew t es ((strKind P w).hash k) (.str k tk) = Z at pm hf1 hr1 hl1 ⊢
    obtain ⟨es1, t1, wasDummy, gave⟩ := Z
    dsimp only at pm hf1 hr1 hl1 ⊢
    rw [Array.toList_push] at pm
    have pc : es1.toList.Perm (((strKind P w).hash k, Value.str k tk) :: es.toList) := pm.trans (List.perm_append_singleton _ _)
    have pk : (es1.toList.map keyS).Perm (k :: es.toList.map keyS) := pc.map keyS
    have g1 : ∀ e ∈ es1.toList, GoodT w e := fun e he => by
      rcases List.mem_cons.mp (pc.mem_iff.mp he) with z | z
      · rw [z]; exact ⟨k, tk, rfl, rfl⟩
      · exact g e z
    have nd1 : (es1.toList.map keyS).Nodup := pk.nodup_iff.mpr (List.nodup_cons.mpr ⟨hnk, nd⟩)
    have m1 : ∀ i, (S i || decide (i = k)) = true ↔ i ∈ es1.toList.map keyS := fun i => by
      rw [Bool.or_eq_true, decide_eq_true_eq, hm i, pk.mem_iff, List.mem_cons]
      exact Or.comm
    have hsz : es1.size = n + 1 := by rw [← Array.length_toList, pc.length_eq, List.length_cons, Array.length_toList, hn]
    have hb1 : es1.size < scanBound := by rw [hsz]; exact room
    have hled : w.params.followText "set-order" = true ∨ t1.led = true := hl.imp id fun z => by rw [hl1]; exact z
    have fin : ∀ h', Heap.SameBut a s.heap h' → SetT w h' a (fun j => S j || decide (j = k)) es1.size → Q true { s with heap := h' } := fun h' sb r => by
      have q := hQ h' sb
      rw [hSk] at q
      rw [hsz] at r
      exact q r
    refine wpAny_bind (hgw _ ?_)
    split
    · refine wpAny_bind ?_
      rw [hashByValue_scannable 8 hsc]
      refine wpAny_pure ?_
      refine setT_add_tail ?_ ho hex hd g1 nd1 m1 hb1 ?_ ?_ ?_ ?_
      · intro b s₁ Q' q; cases b <;> first | exact wpAny_pure q | exact wpAny_rule q
      · first | (split <;> first | exact hf1 | exact SetTable.fits_plain_off hf1) | exact hf1
      · first | (split <;> exact hr1) | exact hr1
      · first | (split <;> exact hled) | exact hled
      · intro h' sb r; dsimp only; exact wpAny_pure (fin h' sb r)
    · refine wpAny_bind (wpAny_pure ?_)
      simp only [↓reduceIte]
      refine setT_add_tail ?_ ho hex hd g1 nd1 m1 hb1 hf1 hr1 hled ?_
      · intro b s₁ Q' q; cases b <;> first | exact wpAny_pure q | exact wpAny_rule q
      · intro h' sb r; dsimp only; exact wpAny_pure (fin h' sb r)
end
theorem setT_new_at {w : World} {h : Heap} {a : Addr} {ns : List Str} (ho : h.get? a = some { cls := .type "set", dict := none, data := .set #[] 0 (.fresh 0 0 (!w.params.followText "set-order")) }) : SetT w h a (fun j => decide (j ∈ ns.take 0)) 0 :=
  ⟨_, #[], 0, _, ho, ⟨rfl, rfl, rfl⟩, rfl, (fun e he => by simp at he), (by simp), (fun k => by simp), (by decide), (by rfl), rfl, List.Pairwise.nil, by
    show _ ∨ (!w.params.followText "set-order") = true
    cases w.params.followText "set-order"
    · exact .inr rfl
    · exact .inl rfl⟩
section
variable {P : Program} {w : World} {A : Around} {E : Value → Shared → Prop} {s : Shared}
theorem set_update_strs {I : Addr} {fp wr : List Addr} {G : Array GenState → Array GenState → Prop} {n : Nat} {Pv : Nat → Value → Prop} {St : Nat → Shared → Prop} {R : Result → Shared → Prop}
    (W : WalksS P w A.in1 I fp wr G n Pv St) (S : Addr) (hSf : S ∉ fp) (ns : List Str) (hn : n = ns.length) (hb : ns.length + 1 < scanBound) (hval : ∀ i v, Pv i v → ∃ k t, ns[i]? = some k ∧ v = .str k t) :
    ∀ (k i : Nat) (s : Shared), n - i = k → i ≤ n → St i s → (∃ c, c ≤ i ∧ SetT w s.heap S (fun j => decide (j ∈ ns.take i)) c) →
      (∀ s' c, Moved (S :: wr) G s s' → c ≤ n → SetT w s'.heap S (fun j => decide (j ∈ ns)) c → R (.ok (.ret .none)) s') →
      codeAny (model P w) A (.builtin "set.update.loop" ⟨[.ref S, .ref I], []⟩) R s := by
  have hSw : S ∉ wr := fun h => hSf (W.sub _ h)
  have hsub : ∀ b ∈ wr, b ∈ S :: wr := fun b hb => List.mem_cons_of_mem _ hb
  intro k
  induction k with
  | zero =>
    intro i s hk' hi hst ⟨c, hc, hS⟩ hR
    have hin : i = n := by omega
    subst hin
    refine codeAny_builtin F.entry_set_update_loop ?_
    rw [Around.under_plainId F.plain_set_update_loop _]
    show wpAny _ A.in1 (pyNext (.ref I) >>= _) _ _ s
    refine wpAny_bind (W.done s _ _ hst fun s' hm => ?_)
    show wpAny _ A.in1 (ret Value.none) _ _ s'
    have e : ns.take i = ns := List.take_of_length_le (by omega)
    rw [e] at hS
    exact wpAny_pure (hR s' c (hm.mono hsub) hc (hS.at fun o e => hm.heap S o hSw e))
  | succ k ih =>
    intro i s hk' hi hst ⟨c, hc, hS⟩ hR
    have hlt : i < n := by omega
    refine codeAny_builtin F.entry_set_update_loop ?_
    rw [Around.under_plainId F.plain_set_update_loop _]
    show wpAny _ A.in1 (pyNext (.ref I) >>= _) _ _ s
    refine wpAny_bind (W.item i s _ _ hlt hst fun v s' hP hst' hm => ?_)
    obtain ⟨z, t, hz, rfl⟩ := hval i v hP
    have hS' : SetT w s'.heap S (fun j => decide (j ∈ ns.take i)) c := hS.at fun o e => hm.heap S o hSw e
    show wpAny _ A.in1 (holding [Value.str z t] (setAdd S (.str z t)) >>= _) _ _ s'
    refine wpAny_bind (wpAny_holding ?_)
    unfold setAdd
    refine wpAny_holding ?_
    refine wpAny_bind ((strKind P w).pyHash (k := z) (is_strT _ _ _ _) ?_)
    refine setT_add_hashed (s := { s' with toks := s'.toks + 1 }) hS' (by omega) fun h' hsb hS2 => ?_
    have hS3 : SetT w h' S (fun j => decide (j ∈ ns.take (i + 1))) (if decide (z ∈ ns.take i) = true then c else c + 1) := hS2.congr fun j => by
      rw [List.take_add_one, hz]
      simp [List.mem_append]
    have hc3 : (if decide (z ∈ ns.take i) = true then c else c + 1) ≤ i + 1 := by
      split <;> omega
    refine wpAny_pure ⟨plainId_quiet F.plain_set_update_loop _, ih (i + 1) _ (by omega) hlt (W.frame _ s' _ _ hst' (Nat.le_succ _) fun b hb o e => ?_) ⟨_, hc3, hS3⟩ fun s'' c2 hm'' hc'' hS'' => ?_⟩
    · rw [hsb.2 b (fun h : b = S => hSf (by rw [← h]; exact hb))]; exact e
    · refine hR s'' c2 (Moved.trans W.gtrans ((hm.mono hsub).then_heap (Nat.le_succ _) fun b o hb e => ?_) hm'') hc'' hS''
      rw [hsb.2 b (fun h : b = S => hb (by rw [h]; exact List.mem_cons_self))]; exact e
def SetLeftT (w : World) (s : Shared) (ks : List Str) (h2 : Heap) (c : Nat) : Prop :=
  SetT w h2 s.heap.objs.size (fun j => decide (j ∈ ks)) c ∧ c ≤ ks.length ∧ ∀ b o, s.heap.get? b = some o → h2.get? b = some o
theorem set_of_strs {p : Addr} {us : Array Value} (ks : List Str) {Q : Value → Shared → Prop} (nh : A.handled = none) (isL : s.heap.IsList p us) (are : StrsAre us.toList ks) (room : ks.length + 1 < scanBound)
    (fin : ∀ (h2 : Heap) (tk c : Nat), SetLeftT w s ks h2 c → Q (.ref s.heap.objs.size) { s with heap := h2, toks := tk }) : wpAny (model P w) A (call (.type "set") [.ref p]) Q E s := by
  have us_len : us.size = ks.length := by simpa using (strs_each are).length
  obtain ⟨cc, tl, line⟩ := F.called_set.mro
  have f1 := F.called_set.made
  have f2 := F.called_set.sub
  apply wpAny_call
  apply codeAny_of_tree
  show wpAny _ _ (callAny (.type "set") _) _ _ _
  apply wpAny_pure
  refine ⟨Code.quiet_builtin _ (by decide +kernel), codeAny_builtin F.entry_type_call ?_⟩
  rw [Around.under_plain (weight_type_call_type "set" [.ref p] []) rfl]
  have f3 := F.called_set.notType
  have f4 := F.called_set.canCreate
  have f5 := F.typeCall_set_1 (.ref p)
  repeat (any_goals (first | assumption | wp_step))
  refine codeAny_mono (code_set_led1 (.ref p) (E := E) (Q₁ := fun v z => v = .ref s.heap.objs.size ∧ z = { s with heap := s.heap.push (sNew w) }) ⟨rfl, rfl⟩) fun r z hr => ?_
  rcases r with e | fl
  · exact hr
  cases fl with
  | ret v =>
    obtain ⟨rfl, rfl⟩ := hr
    have at1 : (s.heap.push (sNew w)).get? s.heap.objs.size = some (sNew w) := Heap.get?_push_size _ rfl
    have isSet : Shared.TypeIs { s with heap := s.heap.push (sNew w) } (.ref s.heap.objs.size) "set" := ⟨_, at1, rfl⟩
    have g1 := F.called_set.init.lookup
    have g2 := F.called_set.init.bind (.ref s.heap.objs.size)
    repeat (any_goals (first | assumption | wp_step))
    refine codeAny_mono (codeAny_call_builtin (R := wants (fun v z => v = .none ∧ ∃ h2 tk c, z = { s with heap := h2, toks := tk } ∧ SetLeftT w s ks h2 c) E) F.called_set.init.plain F.entry_set_init (check_set_init_1 isSet ?_)) fun r2 z2 hr2 => ?_
    · obtain ⟨⟨lc, ld, lt, ls⟩, lat, lcl, ln, ldt⟩ := isL
      simp only at lcl ldt
      subst lcl ldt
      have lat1 : (s.heap.push (sNew w)).get? p = some { cls := .type "list", dict := ld, data := .seq us ln, slots := ls } := Heap.get?_push_of_some _ lat
      have k1 := F.sub_list_set
      have k2 := F.sub_list_frozenset
      have k3 : (Value.type "list" == Value.type "dict") = false := by decide
      have isL1 : (s.heap.push (sNew w)).IsList p us := ⟨_, lat1, rfl, ln, rfl⟩
      unfold Builtin.«set.__init__» noKeywords Builtin.Frozenset.updateFrom
      generalize hit : pyIter = it
      wp_walk
      subst hit
      refine wpAny_pyIter_list isL1 (wpAny_bind (wpAny_runValue ?_))
      have plt : p < s.heap.objs.size := Heap.lt_size lat
      have sz1 : (s.heap.push (sNew w)).objs.size = s.heap.objs.size + 1 := Heap.size_push ..
      have pne : p ≠ (s.heap.push (sNew w)).objs.size := by rw [sz1]; exact Nat.ne_of_lt (Nat.lt_succ_of_lt plt)
      have apart : s.heap.objs.size ∉ [(s.heap.push (sNew w)).objs.size, p] := by
        rw [sz1]
        simp only [List.mem_cons, List.not_mem_nil, or_false, not_or]
        exact ⟨Nat.ne_of_lt (Nat.lt_succ_self _), Nat.ne_of_gt plt⟩
      have vals : ∀ (i : Nat) (v : Value), us[i]? = some v → ∃ k t, ks[i]? = some k ∧ v = .str k t := fun i v hv => by
        obtain ⟨il, _⟩ := Array.getElem?_eq_some_iff.mp hv
        have ik : i < ks.length := by omega
        obtain ⟨t, e⟩ := strsAt2 are i v (by simpa using hv)
        exact ⟨ks[i], t, List.getElem?_eq_getElem ik, by rw [e, List.getD_eq_getElem?_getD, List.getElem?_eq_getElem ik]; rfl⟩
      refine set_update_strs ((Walks.list (by simp [nh]) _ p pne us).toS) s.heap.objs.size apart ks us_len room vals (us.size - 0) 0 _ (by omega) (Nat.zero_le _) ⟨⟨_, Heap.get?_push_size _ rfl, rfl, rfl⟩, isL1.push _⟩ ?begin ?close
      case begin => exact ⟨0, Nat.le_refl 0, setT_new_at (Heap.get?_push_of_some _ at1)⟩
      case close =>
        intro z c mv cle R
        rw [us_len] at cle
        obtain ⟨h2, z1, z2, tk, z3⟩ := z
        have e1 : z1 = s.gens := mv.gens
        have e2 : z2 = s.drawn := mv.drawn
        have e3 : z3 = s.os := mv.os
        subst e1 e2 e3
        show wpAny _ _ _ _ _ _
        apply wpAny_pure
        show wpAny _ _ (ret Value.none) _ _ _
        apply wpAny_pure
        refine ⟨rfl, h2, tk, c, rfl, R, cle, fun b o hb => ?_⟩
        have blt := Heap.lt_size hb
        refine mv.heap b o ?_ (Heap.get?_push_of_some _ (Heap.get?_push_of_some _ hb))
        rw [sz1]
        simp only [List.mem_cons, List.not_mem_nil, or_false, not_or]
        exact ⟨Nat.ne_of_lt blt, Nat.ne_of_lt (Nat.lt_succ_of_lt blt)⟩
    · rcases r2 with e | fl2
      · exact hr2
      cases fl2 with
      | ret v =>
        obtain ⟨rfl, h2, tk, c, rfl, left⟩ := hr2
        repeat (any_goals (first | assumption | wp_step))
        exact fin _ _ _ left
      | _ => exact hr2.elim
  | _ => exact hr.elim
end
def SetOT (w : World) (a : Addr) (S : Str → Bool) (n : Nat) : HO := .ext fun h => SetT w h a S n
section
variable {X : Cx}
theorem setOT_new {w : World} {P : Program} {H : Hp} {h : Heap} {a : Addr} {S : Str → Bool} {n : Nat} (R : SetT w h a S n) : ObjOk P w H h a (SetOT w a S n) := by
  have ⟨o, _, _, _, ho, _⟩ := R
  exact ⟨R, ⟨o, ho⟩, fun h1 h2 p k => SetT.at p k⟩
theorem setOT_get {pins : List (Addr × Obj)} {σ : St} {H : Hp} {s : Shared} {a : Addr} {S : Str → Bool} {n : Nat} (I : Inv X pins σ H s) (ha : H a = some (SetOT X.w a S n)) : SetT X.w s.heap a S n := (I.hok a _ ha).1
def rSetOfS (K : PySem.W.Frag) (w : World) : List V → Hp → VK → Prop := fun xs H Q => ∃ (p : Addr) (ks : List Str), xs = [.ref p] ∧ SqL K H p (ks.map V.str) ∧ ks.length ≤ 1000 ∧
  ∀ a c, H a = none → c ≤ ks.length → Q (.ref a) (upd H a (SetOT w a (fun j => decide (j ∈ ks)) c))
theorem cr_setOfS (hc : X.calm = true) : CallR X (.type "set") (rSetOfS X.K X.w) := by
  intro pins s σ H xs us Q I r h
  obtain ⟨p, ks, rfl, hq, hl, q⟩ := h
  obtain ⟨u, rfl, rx⟩ := vals1 r
  cases rx
  obtain ⟨its, rv, pl, hz⟩ := I.list hq
  have hi : StrsAre its.toArray.toList ks := strs_of_vals rv
  refine set_of_strs ks (I.ok.hd hc) pl.isList hi (by unfold scanBound; omega) fun h2 tk c left => ?_
  obtain ⟨R, cle, kept⟩ := left
  have I1 : Inv X pins σ H { s with heap := h2, toks := tk } := I.kept kept
  exact ⟨.ref s.heap.objs.size, _, I.laid (t' := tk) kept (Nat.le_refl _) (setOT_new R), rfl, q _ _ (I.hok.fresh (Nat.le_refl _)) cle⟩
end
end L2
namespace L2
open PySem PySem.Spec PyProof.Rows HT
end L2
namespace Pd
variable {ℓ : Bool}
open PySem L2
def mkS (l : List Nat) : Str := ⟨l.toArray⟩
theorem mkS_of (s : Str) : mkS s.cps.toList = s := by
  cases s
  simp [mkS]
theorem dens_strs_eq {K : PySem.W.Frag} {g : Gh} : ∀ {ts : List (List Nat)} {vs : List V}, Dens K g vs (ts.map D.str) → vs = (ts.map mkS).map V.str
  | [], _, .nil => rfl
  | t :: ts, _, .cons h r => by
    cases h
    rw [dens_strs_eq r]
    rfl
end Pd
namespace L2
open PySem PySem.Spec PyProof.Rows HT
section
variable {P : Program} {w : World} {A : Around} {E : Value → Shared → Prop} {s : Shared}
theorem set_of_text {x : Str} {u : Tok} (ks : List Str) {Q : Value → Shared → Prop} (nh : A.handled = none) (are : ks = x.cps.toList.map fun c => (⟨#[c]⟩ : Str)) (room : ks.length + 1 < scanBound)
    (fin : ∀ (h2 : Heap) (tk c : Nat), SetLeftT w s ks h2 c → Q (.ref s.heap.objs.size) { s with heap := h2, toks := tk }) : wpAny (model P w) A (call (.type "set") [.str x u]) Q E s := by
  have us_len : x.cps.size = ks.length := by rw [are, List.length_map, Array.length_toList]
  obtain ⟨cc, tl, line⟩ := F.called_set.mro
  have f1 := F.called_set.made
  have f2 := F.called_set.sub
  apply wpAny_call
  apply codeAny_of_tree
  show wpAny _ _ (callAny (.type "set") _) _ _ _
  apply wpAny_pure
  refine ⟨Code.quiet_builtin _ (by decide +kernel), codeAny_builtin F.entry_type_call ?_⟩
  rw [Around.under_plain (weight_type_call_type "set" [.str x u] []) rfl]
  have f3 := F.called_set.notType
  have f4 := F.called_set.canCreate
  have f5 := F.typeCall_set_1 (.str x u)
  repeat (any_goals (first | assumption | wp_step))
  refine codeAny_mono (code_set_led1 (.str x u) (E := E) (Q₁ := fun v z => v = .ref s.heap.objs.size ∧ z = { s with heap := s.heap.push (sNew w) }) ⟨rfl, rfl⟩) fun r z hr => ?_
  rcases r with e | fl
  · exact hr
  cases fl with
  | ret v =>
    obtain ⟨rfl, rfl⟩ := hr
    have at1 : (s.heap.push (sNew w)).get? s.heap.objs.size = some (sNew w) := Heap.get?_push_size _ rfl
    have isSet : Shared.TypeIs { s with heap := s.heap.push (sNew w) } (.ref s.heap.objs.size) "set" := ⟨_, at1, rfl⟩
    have g1 := F.called_set.init.lookup
    have g2 := F.called_set.init.bind (.ref s.heap.objs.size)
    repeat (any_goals (first | assumption | wp_step))
    refine codeAny_mono (codeAny_call_builtin (R := wants (fun v z => v = .none ∧ ∃ h2 tk c, z = { s with heap := h2, toks := tk } ∧ SetLeftT w s ks h2 c) E) F.called_set.init.plain F.entry_set_init (check_set_init_1 isSet ?_)) fun r2 z2 hr2 => ?_
    · have k1 := F.sub_str_set
      have k2 := F.sub_str_frozenset
      have k3 : (Value.type "str" == Value.type "dict") = false := by decide
      unfold Builtin.«set.__init__» noKeywords Builtin.Frozenset.updateFrom
      generalize hit : pyIter = it
      wp_walk
      subst hit
      refine wpAny_pyIter_str fun o St hW hst => wpAny_bind (wpAny_runValue ?_)
      have sz1 : (s.heap.push (sNew w)).objs.size = s.heap.objs.size + 1 := Heap.size_push ..
      have apart : s.heap.objs.size ∉ [(s.heap.push (sNew w)).objs.size] := by
        rw [sz1]
        simp only [List.mem_cons, List.not_mem_nil, or_false]
        exact Nat.ne_of_lt (Nat.lt_succ_self _)
      have vals : ∀ (i : Nat) (v : Value), SignAt x i v → ∃ k t, ks[i]? = some k ∧ v = .str k t := fun i v ⟨c, t, h1, h2⟩ => ⟨_, t, by rw [are, List.getElem?_map, Array.getElem?_toList, h1]; rfl, h2⟩
      refine set_update_strs ((hW _ (by simp [nh])).toS) s.heap.objs.size apart ks us_len room vals (x.cps.size - 0) 0 _ (by omega) (Nat.zero_le _) hst ?begin ?close
      case begin => exact ⟨0, Nat.le_refl 0, setT_new_at (Heap.get?_push_of_some _ at1)⟩
      case close =>
        intro z c mv cle R
        rw [us_len] at cle
        obtain ⟨h2, z1, z2, tk, z3⟩ := z
        have e1 : z1 = s.gens := mv.gens
        have e2 : z2 = s.drawn := mv.drawn
        have e3 : z3 = s.os := mv.os
        subst e1 e2 e3
        show wpAny _ _ _ _ _ _
        apply wpAny_pure
        show wpAny _ _ (ret Value.none) _ _ _
        apply wpAny_pure
        refine ⟨rfl, h2, tk, c, rfl, R, cle, fun b o hb => ?_⟩
        have blt := Heap.lt_size hb
        refine mv.heap b o ?_ (Heap.get?_push_of_some _ (Heap.get?_push_of_some _ hb))
        rw [sz1]
        simp only [List.mem_cons, List.not_mem_nil, or_false, not_or]
        exact ⟨Nat.ne_of_lt blt, Nat.ne_of_lt (Nat.lt_succ_of_lt blt)⟩
    · rcases r2 with e | fl2
      · exact hr2
      cases fl2 with
      | ret v =>
        obtain ⟨rfl, h2, tk, c, rfl, left⟩ := hr2
        repeat (any_goals (first | assumption | wp_step))
        exact fin _ _ _ left
      | _ => exact hr2.elim
  | _ => exact hr.elim
end
section
variable {X : Cx}
def rSetT (K : PySem.W.Frag) (w : World) : List V → Hp → VK → Prop := fun xs H Q => ∃ ks : List Str, ((∃ p, xs = [.ref p] ∧ SqL K H p (ks.map V.str)) ∨ ∃ x : Str, xs = [.str x] ∧ ks = x.cps.toList.map fun c => (⟨#[c]⟩ : Str)) ∧ ks.length ≤ 1000 ∧
  ∀ a c, H a = none → c ≤ ks.length → Q (.ref a) (upd H a (SetOT w a (fun j => decide (j ∈ ks)) c))
theorem cr_setT (hc : X.calm = true) : CallR X (.type "set") (rSetT X.K X.w) := by
  intro pins s σ H xs us Q I r h
  obtain ⟨ks, h, hl, q⟩ := h
  rcases h with ⟨p, rfl, hq⟩ | ⟨x, rfl, hx⟩
  · exact cr_setOfS hc pins s σ H _ us Q I r ⟨p, ks, rfl, hq, hl, q⟩
  · obtain ⟨u, rfl, rx⟩ := vals1 r
    obtain ⟨tk, rfl⟩ := rx
    refine set_of_text ks (I.ok.hd hc) hx (by unfold scanBound; omega) fun h2 tk c left => ?_
    obtain ⟨R, cle, kept⟩ := left
    have I1 : Inv X pins σ H { s with heap := h2, toks := tk } := I.kept kept
    exact ⟨.ref s.heap.objs.size, _, I.laid (t' := tk) kept (Nat.le_refl _) (setOT_new R), rfl, q _ _ (I.hok.fresh (Nat.le_refl _)) cle⟩
def rLenSetT (w : World) : List V → Hp → VK → Prop := fun vs H Q => ∃ (a : Addr) (S : Str → Bool) (n : Nat), vs = [V.ref a] ∧ H a = some (SetOT w a S n) ∧
  ((∃ ks : List Str, ks.Nodup ∧ (∀ k : Str, k ∈ ks ↔ S k = true) ∧ ks.length = n) → Q (.int (n : Nat)) H)
theorem cr_lenSetT : CallR X (.builtin "len") (rLenSetT X.w) := by
  intro pins s σ H vs us Q I r h
  obtain ⟨a, S, n, rfl, ha, q⟩ := h
  have R := setOT_get I ha
  rw [Vals.ref1 r]
  obtain ⟨o, es, ep, t, ho, hex, hd, g, nd, hm, hb, hf, hn, _⟩ := R
  exact call_len_set ho hex hd hf (by unfold scanBound at hb; omega) ⟨.int (n : Nat), H, I.tok _, ⟨_, by rw [hn]⟩, q ⟨_, nd, fun k => (hm k).symm, by rw [List.length_map, Array.length_toList]; exact hn⟩⟩
end
end L2
namespace Pd
variable {ℓ : Bool}
open PySem L2
def OfT (x : D) (ts : List (List Nat)) : Prop := x = .lst (ts.map D.str) ∨ ∃ l : List Nat, x = .str l ∧ ts = l.map fun c => [c]
def dLenSetT (d : DE) : DE := fun n ε P => d n ε fun n1 x => ∃ ts : List (List Nat), OfT x ts ∧ ts.length ≤ 1000 ∧ ∀ us : List (List Nat), us.Nodup → (∀ k, k ∈ us ↔ k ∈ ts) → P n1 (.int (us.length : Nat))
section
variable {X : Cx} {pos p p2 q2 : Pos} {a : Expr} {da : DE}
theorem ofT_set {K : PySem.W.Frag} {w : World} {g : Gh} {H : Hp} {v : V} {x : D} {ts : List (List Nat)} {Q : VK} (e1 : Den K g v x) (sub : ∀ a u, g.G a = some u → H a = some u) (h : OfT x ts) (hl : ts.length ≤ 1000)
    (q : ∀ a c, H a = none → c ≤ ts.length → Q (.ref a) (upd H a (SetOT w a (fun j => decide (j ∈ ts.map mkS)) c))) : rSetT K w [v] H Q := by
  refine ⟨ts.map mkS, ?_, by rw [List.length_map]; exact hl, fun a c h1 h2 => q a c h1 (by rw [List.length_map] at h2; exact h2)⟩
  rcases h with rfl | ⟨l, rfl, rfl⟩
  · cases e1 with
    | lst h1 h2 =>
      have ev := dens_strs_eq h2
      subst ev
      exact .inl ⟨_, rfl, SqL.of (sub _ _ h1)⟩
  · cases e1
    refine .inr ⟨_, rfl, ?_⟩
    rw [List.map_map]
    rfl
theorem nodup_back {ks : List Str} (h : ks.Nodup) : (ks.map fun s => s.cps.toList).Nodup := List.Pairwise.map _ (fun a b hab he => hab (by rw [← mkS_of a, ← mkS_of b, he])) h
theorem mem_back {ks : List Str} {ts : List (List Nat)} (mem : ∀ k : Str, k ∈ ks ↔ (decide (k ∈ ts.map mkS)) = true) (j : List Nat) : j ∈ (ks.map fun s => s.cps.toList) ↔ j ∈ ts := by
  rw [List.mem_map]
  constructor
  · rintro ⟨s, hs, rfl⟩
    have := decide_eq_true_iff.mp ((mem s).mp hs)
    obtain ⟨t, ht, e⟩ := List.mem_map.mp this
    rw [← e]
    simpa [mkS] using ht
  · intro hj
    exact ⟨mkS j, (mem _).mpr (decide_eq_true (List.mem_map_of_mem hj)), by simp [mkS]⟩
theorem de_lenSetT (hc : X.calm = true) (hg : Gl X "len") (hm : X.mg "len" = none) (hg2 : Gl X "set") (hm2 : X.mg "set" = none) (ha : PE X a (liftE ℓ X.K da))
    (na : starEach [a] X.env = (false, eval a X.env) :: starEach [] X.env := by rfl)
    (nb : starEach [.Call (.Name "set" p2) [a] [] q2] X.env = (false, eval (.Call (.Name "set" p2) [a] [] q2) X.env) :: starEach [] X.env := by rfl) :
    PE X (.Call (.Name "len" p) [.Call (.Name "set" p2) [a] [] q2] [] pos) (liftE ℓ X.K (dLenSetT da)) :=
  de_of (pe_callB cr_lenSetT hg hm boot_len (pa_cons (pe_callTy (cr_setT hc) hg2 hm2 bt_set (pa_cons ha pa_nil na) (by decide) (by decide) na) pa_nil nb) (by decide) (by decide) nb) fun O g H n σ ε P Q r q k => ⟨O, g, n, ε, _, r, q, fun v g1 H1 n1 x q1 s1 o1 e1 => by
    obtain ⟨ts, z1, z2, z3⟩ := q1
    show rSetT X.K X.w [v] H1 (fun x H2 => rLenSetT X.w [x] H2 Q)
    refine ofT_set e1 o1.sub z1 z2 fun a c hfa hc => ⟨a, _, c, rfl, upd_same, fun ⟨ks, nd, mem, len⟩ => ?_⟩
    obtain ⟨a1, a2, a3, a4⟩ := new_own o1 hfa (SetOT X.w a (fun j => decide (j ∈ ts.map mkS)) c)
    have q := z3 _ (nodup_back nd) (mem_back mem)
    rw [List.length_map, len] at q
    exact (Fin.of k (s1.trans a1)).flat a2 q (.int _)⟩
end
end Pd
namespace L2
open PySem PySem.Spec PyProof.Rows HT
end L2
namespace Pd
open PySem L2
end Pd
namespace Pd
open PySem L2
end Pd
namespace L2
open PySem PySem.Spec PyProof.Rows HT
end L2
namespace L2
open PySem PySem.Spec PyProof.Rows HT
end L2
namespace Pd
open PySem L2
end Pd
namespace Pd
open PySem L2
end Pd
namespace Pd
open PySem L2
end Pd
namespace Pd
open PySem L2
end Pd
namespace Pd
variable {ℓ : Bool}
open PySem L2
theorem rem_at (H : Hp) (D : Addr) : rem H D D = none := if_pos rfl
theorem rem_ne {H : Hp} {D a : Addr} (h : a ≠ D) : rem H D a = H a := if_neg h
theorem Stp.less {g g' : Gh} {H H' : Hp} (s : Stp g H g' H') (D : Addr) : Stp g (rem H D) g' H' := by
  have k : ∀ a, rem H D a ≠ none → H a ≠ none := fun a z w => z (by unfold rem; split <;> first | rfl | exact w)
  refine ⟨s.ext, fun a z => s.gro a (k a z), fun a z => s.grp a (k a z), fun a o z => ?_, fun a z => s.dom a (k a z)⟩
  by_cases q : a = D
  · rw [q, rem_at] at z; cases z
  · rw [rem_ne q] at z; exact s.kep a o z
theorem Stp.less2 {g g' : Gh} {H H' : Hp} (s : Stp g H g' H') {D : Addr} (hD : H D = none) : Stp g H g' (rem H' D) := by
  have k : ∀ a, H a ≠ none → a ≠ D := fun a z w => z (by rw [w]; exact hD)
  refine ⟨s.ext, s.gro, s.grp, fun a o z q => ?_, fun a z => ?_⟩
  · rw [rem_ne (k a (by rw [z]; exact Option.some_ne_none o))]; exact s.kep a o z q
  · rw [rem_ne (k a z)]; exact s.dom a z
theorem Rp.apart {K : PySem.W.Frag} {O : OD → Addr → Prop} {g : Gh} {H : Hp} {n : Nat} {σ : L2.St} {ε : Ev} (r : Rp ℓ K O g H n σ ε) {D : Addr} (hD : H D = none) : Rp ℓ K (fun d p => O d p ∧ p ≠ D) g H n σ ε := by
  refine ⟨r.ok, r.len, fun i s e => ?_, r.dis⟩
  have h := r.sl i s e
  cases s with
  | no => trivial
  | val d => exact h
  | own d =>
    obtain ⟨p, o, e1, o1, h1, h2, h3, h4⟩ := h
    exact ⟨p, o, e1, ⟨o1, fun z => by rw [z, hD] at h3; cases h3⟩, h1, h2, h3, h4⟩
theorem Rp.less {K : PySem.W.Frag} {O : OD → Addr → Prop} {g : Gh} {H : Hp} {n : Nat} {σ : L2.St} {ε : Ev} {D : Addr} (r : Rp ℓ K (fun d p => O d p ∧ p ≠ D) g H n σ ε) (h1 : g.G D = none) (h2 : ¬ g.pot D) (h3 : ∀ u, H D = some u → Lite u) : Rp ℓ K (fun d p => O d p ∧ p ≠ D) g (rem H D) n σ ε := by
  refine ⟨⟨fun a u e => ?_, fun a z => ?_, r.ok.t.at (fun a ps e => ?_) fun a u e hn => ?_, r.ok.cel.step (Ext.refl g) fun a C m => rem_ne fun w => h2 (by rw [← w]; exact (r.ok.cel.mem m).1)⟩, r.len, fun i s e => ?_, r.dis⟩
  · rw [rem_ne fun w => by rw [w, h1] at e; cases e]; exact r.ok.sub a u e
  · rw [rem_ne fun w => h2 (by rw [← w]; exact z)]; exact r.ok.pot a z
  · by_cases w : a = D
    · rw [w, rem_at] at e; cases e
    · rw [rem_ne w] at e; exact e
  · rw [rem_ne fun w => hn (h3 u (by rw [← w]; exact e))]; exact e
  · have h := r.sl i s e
    cases s with
    | no => trivial
    | val d => exact h
    | own d =>
      obtain ⟨p, o, e1, o1, h1, h2, h3, h4⟩ := h
      exact ⟨p, o, e1, o1, h1, h2, by rw [rem_ne o1.2]; exact h3, h4⟩
theorem yesI {σ : L2.St} {H : Hp} {A B : Hp → Prop} (h : A H) : tYes σ H (fun b H => if b = true then A H else B H) := by
  have e : (if true = true then A H else B H) = A H := if_pos rfl
  show (if true = true then A H else B H)
  rw [e]
  exact h
def comp2W (dg : DG) (di1 : DI) (dg1 : DG) (d : DE) (ε : Ev) (vs1 : List Nat) (P : Nat → List D → Prop) : List D → List D → Nat → Prop
  | [], acc, n => P n acc
  | x :: xs, acc, n => dg x ε fun ε2 => di1 n ε2 fun n1 ys => acc.length + ys.length ≤ 16777216 ∧ compW dg1 dYes d (wipeE ε2 vs1) (fun n2 acc' => comp2W dg di1 dg1 d ε vs1 P xs acc' n2) ys acc n1
def dComp2 (di : DI) (dg : DG) (di1 : DI) (dg1 : DG) (d : DE) (vs vs1 : List Nat) : DO := fun n ε P => di n ε fun n1 xs => comp2W dg di1 dg1 d (wipeE ε vs) vs1 P xs [] n1
section
variable {X : Cx} {K : PySem.W.Frag} {di di1 : DI} {dg dg1 : DG} {d : DE} {ws ws1 vs vs1 : List Nat}
theorem comp2_ok (hv : ∀ i ∈ ws, i ∈ vs) (hv1 : ∀ i ∈ ws1, i ∈ vs1) : ∀ σ H Q, liftO ℓ K (dComp2 di dg di1 dg1 d vs vs1) σ H Q → tLc2 (liftI ℓ K di) (liftG ℓ K ws dg) tYes (liftI ℓ K di1) (liftG ℓ K ws1 dg1) tYes (liftE ℓ K d) vs vs1 σ H Q := fun σ H Q ⟨O, g, n, ε, P, r, q, k⟩ => by
  refine ⟨O, g, n, ε, _, r, q, fun J gI HI nI xs q1 s1 o1 wk => ?_⟩
  intro D hD
  obtain ⟨z1, z2, z3, z4⟩ := new_own o1 hD (.lst [])
  have rI := (r.step s1 o1).apart hD
  refine ⟨fun i m H => m = xs.length - i ∧ i ≤ xs.length ∧ ∃ g n acc vsL, Ok ℓ K g H n ∧ Stp gI HI g H ∧ g.G D = none ∧ ¬ g.pot D ∧ H D = some (.lst vsL) ∧ Dens K g vsL acc ∧ comp2W dg di1 dg1 d (wipeE ε vs) vs1 P (xs.drop i) acc n,
    ⟨xs.length, by simp, Nat.zero_le _, gI, nI, [], [], z2, z1, z3, z4, upd_same, .nil, by simpa using q1⟩, ?_⟩
  rintro i m H ⟨rfl, hi, g, n, acc, vsL, o, s, h1, h2, h3, h4, cw⟩
  have sm : Same gI.G H := s.ext.G.trans o.sub
  by_cases hlt : i < xs.length
  · refine .inr ⟨wk.go i H hlt sm, fun H' => ∃ g n acc vsL, Ok ℓ K g H' n ∧ Stp gI HI g H' ∧ g.G D = none ∧ ¬ g.pot D ∧ H' D = some (.lst vsL) ∧ Dens K g vsL acc ∧ comp2W dg di1 dg1 d (wipeE ε vs) vs1 P (xs.drop (i + 1)) acc n, fun H' z => ⟨xs.length - (i + 1), by omega, rfl, hlt, z⟩, fun x H' y => ?_⟩
    obtain ⟨g2, dx, ed, s2, o2, e2⟩ := wk.yld i x H H' g n hlt s.ext o y
    have el : xs.drop i = dx :: xs.drop (i + 1) := by
      rw [List.drop_eq_getElem_cons hlt]
      congr 1
      rw [List.getElem?_eq_getElem hlt] at ed
      exact Option.some.inj ed
    rw [el] at cw
    have stI := s.trans s2
    have rw2 := (rI.step stI o2).wipe vs
    refine ⟨_, g2, n, _, dx, _, rw2, e2, cw, fun σ2 ε2 q2 r2 on => ⟨by rw [on.wipe hv, wipe_idem], ?_⟩⟩
    refine yesI ?_
    refine ⟨_, g2, n, ε2, _, r2, q2, fun J1 g3 H3 n3 ys q3 s3 o3 wk1 => ?_⟩
    obtain ⟨hz, cw1⟩ := q3
    have dH : H D ≠ none := by rw [h3]; exact Option.some_ne_none _
    have s23 := s2.trans s3
    have g2D : g2.G D = none := s2.gro D dH h1
    have p2D : ¬ g2.pot D := fun z => h2 (s2.grp D dH z)
    have hD3 : H3 D = some (.lst vsL) := s23.kep D _ h3 h2
    have rr := r2.less g2D p2D (fun u z => by rw [s2.kep D _ h3 h2] at z; cases z; exact .inl ⟨_, rfl⟩)
    have bk : Stp gI HI g2 (rem H' D) := stI.less2 hD
    refine ⟨fun j k H => k = ys.length - j ∧ j ≤ ys.length ∧ ∃ g n acc' vsL', Ok ℓ K g H n ∧ Stp g2 (rem H' D) g H ∧ Ext g3 g ∧ g.G D = none ∧ ¬ g.pot D ∧ H D = some (.lst vsL') ∧ Dens K g vsL' acc' ∧ acc'.length ≤ acc.length + j ∧
        compW dg1 dYes d (wipeE ε2 vs1) (fun n2 acc' => comp2W dg di1 dg1 d (wipeE ε vs) vs1 P (xs.drop (i + 1)) acc' n2) (ys.drop j) acc' n,
      ⟨ys.length, by simp, Nat.zero_le _, g3, n3, acc, vsL, o3, s3.less D, Ext.refl _, s23.gro D dH h1, fun z => h2 (s23.grp D dH z), hD3, h4.mono s23.ext, Nat.le_refl _, by simpa using cw1⟩, ?_⟩
    rintro j k4 H4 ⟨rfl, hj, g4, n4, acc4, vs4, o4, s4, x4, a1, a2, a3, a4, a5, cw4⟩
    have sm4 : Same g3.G H4 := x4.G.trans o4.sub
    by_cases jlt : j < ys.length
    · refine .inr ⟨wk1.go j H4 jlt sm4, fun H => ∃ g n acc' vsL', Ok ℓ K g H n ∧ Stp g2 (rem H' D) g H ∧ Ext g3 g ∧ g.G D = none ∧ ¬ g.pot D ∧ H D = some (.lst vsL') ∧ Dens K g vsL' acc' ∧ acc'.length ≤ acc.length + (j + 1) ∧
        compW dg1 dYes d (wipeE ε2 vs1) (fun n2 acc' => comp2W dg di1 dg1 d (wipeE ε vs) vs1 P (xs.drop (i + 1)) acc' n2) (ys.drop (j + 1)) acc' n, fun H z => ⟨ys.length - (j + 1), by omega, rfl, jlt, z⟩, fun y5 H5 w5 => ?_⟩
      obtain ⟨g5, d5, e5, s5, o5, f5⟩ := wk1.yld j y5 H4 H5 g4 n4 jlt x4 o4 w5
      have el5 : ys.drop j = d5 :: ys.drop (j + 1) := by
        rw [List.drop_eq_getElem_cons jlt]
        congr 1
        rw [List.getElem?_eq_getElem jlt] at e5
        exact Option.some.inj e5
      rw [el5] at cw4
      have s45 := s4.trans s5
      have r5 := (rr.step s45 o5).wipe vs1
      refine ⟨_, g5, n4, _, d5, _, r5, f5, cw4, fun σ6 ε6 q6 r6 on6 => ⟨by rw [on6.wipe hv1, wipe_idem], ?_⟩⟩
      refine yesI ?_
      refine ⟨_, g5, n4, ε6, _, r6, q6.1 rfl, fun v g7 H7 n7 y q7 s7 o7 e7 => ?_⟩
      have s57 := s5.trans s7
      have dD : H4 D ≠ none := by rw [a3]; exact Option.some_ne_none _
      have hD7 : H7 D = some (.lst vs4) := s57.kep D _ a3 a2
      have g7D : g7.G D = none := s57.gro D dD a1
      have p7D : ¬ g7.pot D := fun z => a2 (s57.grp D dD z)
      refine ⟨vs4, hD7, by rw [a4.length]; have := sz hz; omega, g7, n7, acc4 ++ [y], vs4 ++ [v], ⟨fun a u w => ?_, fun a z => ?_, o7.t.upd (fun u z => by rw [hD7] at z; cases z; exact .inl ⟨_, rfl⟩) (fun ps z => by cases z), o7.cel.upd p7D⟩, ?_, x4.trans s57.ext, g7D, p7D, upd_same, (a4.mono s57.ext).append (.cons e7 .nil), by rw [List.length_append, List.length_singleton]; omega, q7⟩
      · rw [upd_ne (ne_of_none w g7D)]
        exact o7.sub a u w
      · rw [upd_ne fun w => p7D (by rw [← w]; exact z)]
        exact o7.pot a z
      · exact (s4.trans s57).mut (rem_at H' D)
    · have e : j = ys.length := by omega
      subst e
      rw [List.drop_length] at cw4
      exact .inl ⟨wk1.stop H4 sm4, g4, n4, acc4, vs4, o4, bk.trans s4, a1, a2, a3, a4, cw4⟩
  · have e : i = xs.length := by omega
    subst e
    rw [List.drop_length] at cw
    exact .inl ⟨wk.stop H sm, k D vsL g H n acc cw (s1.trans s) o (s1.back0 hD) h1 h2 h3 h4⟩
variable {tg iter tg1 iter1 elt : Expr} {scope : Scope} {own : List (Str × Nat)} {pos spos py : Pos} {y : Str} {i : Nat}
theorem ps_setComp2 (hc : X.calm = true) (hN : X.N.Nodup) (hy : X.N[i]? = some y) (hyl : X.env.scope.names.lookup y = some .local) (hsw : swapsWith (.ListComp elt [⟨tg, iter, [], 0⟩, ⟨tg1, iter1, [], 0⟩] scope pos) (some (.Name y py)) spos.line X.env = pure true)
    (hi : PI X tg iter (liftI ℓ X.K di)) (ok : BlkOk X.N X.env.scope scope own) (hv : ∀ i ∈ ws, i ∈ vs) (hv1 : ∀ i ∈ ws1, i ∈ vs1) (hvv : ∀ i ∈ vs1, i ∈ vs)
    (hg : ∀ (s : Shared) (H : Hp) (C : Addr) (cl : List (Str × Addr)) (fp : List Addr), PG (X.blk s H scope (compEnvC scope cl C X.env) fp) tg (liftG ℓ X.K ws dg))
    (hi1 : ∀ (s : Shared) (H : Hp) (C : Addr) (cl : List (Str × Addr)) (fp : List Addr), PI (X.blk s H scope (compEnvC scope cl C X.env) fp) tg1 iter1 (liftI ℓ X.K di1))
    (hg1 : ∀ (s : Shared) (H : Hp) (C : Addr) (cl : List (Str × Addr)) (fp : List Addr), PG (X.blk s H scope (compEnvC scope cl C X.env) fp) tg1 (liftG ℓ X.K ws1 dg1))
    (he : ∀ (s : Shared) (H : Hp) (C : Addr) (cl : List (Str × Addr)) (fp : List Addr), PE (X.blk s H scope (compEnvC scope cl C X.env) fp) elt (liftE ℓ X.K d)) (hs : ∀ x, foldedSetIterable iter X.env x = pure x := by intro _; rfl) (hs1 : ∀ env x, foldedSetIterable iter1 env x = pure x := by intro _ _; rfl) (hvs : own.map (·.2) = vs := by rfl) :
    PS X (.Assign [.Name y py] (.ListComp elt [⟨tg, iter, [], 0⟩, ⟨tg1, iter1, [], 0⟩] scope pos) spos) (tAsg (liftO ℓ X.K (dComp2 di dg di1 dg1 d vs vs1)) (gName i)) := by
  subst hvs
  exact ps_w (ps_setLc2 hc hN hy hyl hsw hi ok hvv hg (fun _ _ _ _ _ => pts_nil) hi1 hg1 (fun _ _ _ _ _ => pts_nil) he hs hs1) fun E σ H h => comp2_ok hv hv1 σ H _ h
end
end Pd
namespace Pd
open PySem L2
end Pd
namespace Pd
open PySem PySem.Spec PyProof.Rows L2
end Pd
namespace Pd
variable {ℓ : Bool}
open PySem L2 PyProof.Rows
structure SupC (K : PySem.W.Frag) (D C : Addr) : Prop where
  oex : OexC K C
  mro : PySem.W.mroIn K C (.ref D) = some true
  sup : PySem.W.ks_superIn K C D "__init__" = some (some (.builtin "ValueError.__init__"))
  sub : PySem.W.subIn K (.ref C) (.type "ValueError") = some true
  val : PySem.W.findIn K (.ref C) "value" = some none
def spSup (K : PySem.W.Frag) (D : Addr) : Sp := fun vs H Q _ => ∃ (a C : Addr) (v : V), vs = [.ref a, v] ∧ SupC K D C ∧ H a = some (exo a C none) ∧
  ∀ dx, H dx = none → dx ≠ a → Q .non (upd (upd H dx (exd dx [("value", v)])) a (exo a C (some dx)))
end Pd
namespace Pd
variable {ℓ : Bool}
open PySem L2 PyProof.Rows
variable {W : WX}
structure HasE (P : Program) (w : World) (K : PySem.W.Frag) (mg : Str → Option Value) (base : Heap) (k : Nat) (C : Addr) : Prop where
  ex : ∃ (D fI : Addr) (fd : FuncData), FnOk P w K mg base CX0 k fI fd ["self", "value"] (spSup K D) ∧ SupC K D C ∧ PySem.W.findIn K (.ref C) "__init__" = some (some (.ref fI)) ∧ PySem.W.typeIn K (.ref fI) = some (.type "function") ∧ Binds K fd ["self", "value"] []
def outX (ℓ : Bool) (K : PySem.W.Frag) (g : Gh) (H : Hp) (R : Nat → Addr → D → Prop) (W : Value → Option Addr → Hp → Prop) : Prop :=
  ∀ g' H' n' C dx u r, R n' C r → Stp g H g' H' → Ok ℓ K g' H' n' → g'.G dx = some (.xd [("value", u)]) → Den K g' u r → W (.ref C) (some dx) H'
def one (P : Nat → D → Prop) : Nat → List D → Prop := fun n vs => match vs with
  | [v] => P n v
  | _ => False
def dRaise (C : Addr) (t : DA) : DS := fun N n ε => t n ε (one fun n1 v => N.xc n1 ε C v)
structure ErrV (K : PySem.W.Frag) (C : Addr) : Prop where
  xf : XfC K C
  val : PySem.W.findIn K (.ref C) "value" = some none
end Pd
namespace Pd
variable {ℓ : Bool}
open PySem L2 PyProof.Rows
abbrev FDX := List D → Nat → (Nat → D → Prop) → (Nat → Addr → D → Prop) → Prop
def liftFX (ℓ : Bool) (K : PySem.W.Frag) (f : FDX) : Sp := fun vs H Q E => ∃ g n ds P R, Ok ℓ K g H n ∧ Dens K g vs ds ∧ f ds n P R ∧ (∀ v g' H' n' r, P n' r → Stp g H g' H' → Ok ℓ K g' H' n' → Den K g' v r → Q v H') ∧ outX ℓ K g H R E
structure HasFX (ℓ : Bool) (P : Program) (w : World) (K : PySem.W.Frag) (mg : Str → Option Value) (base : Heap) (k : Nat) (f : Addr) (ps : List Str) (dd : List D) (sp : FDX) : Prop where
  ex : ∃ fd dvs ds, FnOk P w K mg base (L2.CX P w) k f fd ps (liftFX ℓ K sp) ∧ PySem.W.keepIn K (.ref f) = true ∧ Binds K fd ps ds ∧ Vals dvs ds ∧ ∀ g, Dens K g dvs dd
structure HasMX (ℓ : Bool) (P : Program) (w : World) (K : PySem.W.Frag) (mg : Str → Option Value) (base : Heap) (k : Nat) (C : Addr) (m : Str) (ps : List Str) (dd : List D) (sp : FDX) : Prop where
  ex : ∃ f fd dvs ds, FnOk P w K mg base (L2.CX P w) k f fd ps (liftFX ℓ K sp) ∧ Cls K C ∧ Meth K C m f ∧ Binds K fd ps ds ∧ Vals dvs ds ∧ ∀ g, Dens K g dvs dd
abbrev DXc := Nat → Ev → (Nat → D → Prop) → (Nat → Addr → D → Prop) → Prop
def dCallR (f : FDX) (dd : List D) (t : DA) : DXc := fun n ε P R => t n ε fun n1 ds => f (ds ++ dd) n1 P R
def dMethR (C : Addr) (m : Str) (sp : FDX) (dd : List D) (d : DE) (t : DA) : DXc := fun n ε P R => d n ε fun n1 x => match x with
  | .obj C' fs => C' = C ∧ fs.lookup m = none ∧ t n1 ε fun n2 ds => sp (.obj C' fs :: (ds ++ dd)) n2 P R
  | _ => False
def dSure (d : DE) : DXc := fun n ε P _ => d n ε P
def dIteR (t : DT) (da db : DXc) : DXc := fun n ε P R => t n ε fun n1 c => (c = true → da n1 ε P R) ∧ (c = false → db n1 ε P R)
theorem outX.step {K : PySem.W.Frag} {g g' : Gh} {H H' : Hp} {R : Nat → Addr → D → Prop} {W : Value → Option Addr → Hp → Prop} (k : outX ℓ K g H R W) (s : Stp g H g' H') : outX ℓ K g' H' R W := fun g2 H2 n2 C dx u r q s2 o2 e1 e2 => k g2 H2 n2 C dx u r q (s.trans s2) o2 e1 e2
section
variable {X : Cx} {k : Nat} {f C : Addr} {ps : List Str} {sp : FDX} {dvs : List V} {dd : List D} {ds : List Value} {E : XK} {x m : Str} {p pos apos : Pos} {e o c a b : Expr} {es : List Expr} {da : DE} {t : DA} {d dx dy : DXc} {u : DT}
def dDropR (d : DXc) : DS := fun N n ε => d n ε (fun n1 _ => N.nx n1 ε) fun n1 C v => N.xc n1 ε C v
def dRetR (d : DXc) : DS := fun N n ε => d n ε N.rt fun n1 C v => N.xc n1 ε C v
def dSetR (i : Nat) (d : DXc) : DS := fun N n ε => d n ε (fun n1 r => N.nx n1 (ε.set i (.val r))) fun n1 C v => N.xc n1 ε C v
end
end Pd
namespace Pd
variable {ℓ : Bool}
open PySem L2 PyProof.Rows
abbrev FIX := List D → Nat → (Nat → List (Str × D) → Prop) → (Nat → Addr → D → Prop) → Prop
def liftInitX (ℓ : Bool) (K : PySem.W.Frag) (C : Addr) (f : FIX) : Sp := fun vs H Q E => ∃ g n x dx vs' ds P R, vs = .ref x :: vs' ∧ H x = some (.ins C dx []) ∧ g.G x = none ∧ ¬ g.pot x ∧ Ok ℓ K g H n ∧ Dens K g vs' ds ∧ f ds n P R ∧
  (∀ g' H' n' fs dx' fvs, P n' fs → Stp g (rem H x) g' H' → Ok ℓ K g' H' n' → g'.G x = none → ¬ g'.pot x → H' x = some (.ins C dx' fvs) → Flds K g' fvs fs → Q .non H') ∧ outX ℓ K g (rem H x) R E
structure HasIX (ℓ : Bool) (P : Program) (w : World) (K : PySem.W.Frag) (mg : Str → Option Value) (base : Heap) (k : Nat) (C : Addr) (ps : List Str) (dd : List D) (fi : FIX) : Prop where
  ex : ∃ f fd dvs ds, FnOk P w K mg base (L2.CX P w) k f fd ps (liftInitX ℓ K C fi) ∧ Mk K C f ∧ Binds K fd ps ds ∧ Vals dvs ds ∧ ∀ g, Dens K g dvs dd
def dMakeR (C : Addr) (f : FIX) (dd : List D) (t : DA) : DXc := fun n ε P R => t n ε fun n1 ds => f (ds ++ dd) n1 (fun n2 fs => P n2 (.obj C fs)) R
end Pd
namespace Pd
open PySem L2 PyProof.Rows
end Pd
namespace Pd
open PySem L2 PyProof.Rows LamX
end Pd
namespace Pd
open PySem L2 PyProof.Rows LamX
end Pd
namespace Pd
variable {ℓ : Bool}
open PySem L2 PyProof.Rows LamX
structure ErrAll (K : PySem.W.Frag) (D fI C : Addr) : Prop where
  sc : SupC K D C
  ei : ErrI K C
  ev : ErrV K C
  init : PySem.W.findIn K (.ref C) "__init__" = some (some (.ref fI))
  fn : PySem.W.typeIn K (.ref fI) = some (.type "function")
  ex : PySem.W.exmOne K (.ref C) (.ref D) = some true
theorem HasE.of {P : Program} {w : World} {K : PySem.W.Frag} {mg : Str → Option Value} {base : Heap} {D fI C : Addr} {fd : FuncData} (F : FnOk P w K mg base CX0 1 fI fd ["self", "value"] (spSup K D)) (hb : Binds K fd ["self", "value"] []) (A : ErrAll K D fI C) : HasE P w K mg base 1 C :=
  ⟨D, fI, fd, F, A.sc, A.init, A.fn, hb⟩
end Pd
namespace Pd
variable {ℓ : Bool}
open PySem L2 PyProof.Rows
theorem SaysP.good {fx : List Fx} {fn : List PDef} {K : PySem.W.Frag} (c : SaysP fx fn K) {d : PDef} (i : Nat) (h : fn[i]? = some d := by rfl) : d.good K = true := by
  have c1 : ((fx.all fun f => f.ok K) && fn.all fun d => d.good K) = true := congrArg (fun z : AlP => z.1) c
  exact List.all_eq_true.mp (Bool.and_eq_true_iff.mp c1).2 d (List.mem_of_getElem? h)
end Pd
namespace Pd
variable {ℓ : Bool}
open PySem L2 PyProof.Rows
structure SysD (K : PySem.W.Frag) : Prop where
  ex : ∃ o : Obj, K.lookup sysModules = some o ∧ o.cls = .type "dict"
mutual
def isPx : D → Bool
  | .non => true
  | .bl _ => true
  | .int _ => true
  | .str l => l.all (· < 1114112)
  | .lst xs => isPxs xs
  | .tup xs => isPxs xs
  | .obj _ _ => false
  | .pot => false
  | .scr _ => false
  | .ref _ => false
  | .tupK xs => isPxs xs
  | .tupF _ => false
  | .err _ _ => false
  | .cel _ _ => false
  | .dic _ vs => isPxs vs
def isPxs : List D → Bool
  | [] => true
  | x :: xs => isPx x && isPxs xs
end
section
variable {X : Cx} {pins : List (Addr × Obj)} {σ : L2.St} {H : Hp} {s : Shared} {g : Gh}
theorem not_sys (I : Inv X pins σ H s) (S : SysD X.K) {a : Addr} {o : Obj} (ho : s.heap.get? a = some o) (hc : o.cls = .type "list") : sysModules ≠ a := fun e => by
  subst e
  obtain ⟨o', h1, h2⟩ := S.ex
  have h3 := I.kIn _ _ h1
  rw [ho] at h3
  cases h3
  rw [hc] at h2
  injection h2 with h2
  exact absurd h2 (by decide)
theorem keys_read {h : Heap} {P : Program} {w : World} : ∀ {es : List DictEntry} {ps : List (Key × Value)} {ks : List (List Nat)}, Pairs (mixKind P w) es ps → ps.map (·.1) = ks.map (fun x => Sum.inr ⟨x.toArray⟩) → ReadsAll h (es.map (·.key)) (ks.map fun x => PyData.str ⟨x.toArray⟩) []
  | [], [], [], .nil, _ => .nil
  | [], [], _ :: _, .nil, e => by cases e
  | e :: es, p :: ps, [], .cons _ _ _, x => by cases x
  | e :: es, p :: ps, k :: ks, .cons h1 h2 h3, x => by
    rw [List.map_cons, List.map_cons, List.cons.injEq] at x
    obtain ⟨x1, x2⟩ := x
    have h1' : keyIs p.1 e.key = true := h1
    rw [x1] at h1'
    rcases keyIs_shape h1' with ⟨i, t, z, _⟩ | ⟨y, t, z, hk⟩
    · cases z
    · injection z with z
      subst z
      rw [List.map_cons, List.map_cons, hk]
      exact .cons (.str _ t) (keys_read h3 x2)
  | [], _ :: _, _, h, _ => nomatch h
theorem vals_pair {P : Program} {w : World} : ∀ {es : List DictEntry} {ps : List (Key × Value)} {kvs : List (Key × V)}, Pairs (mixKind P w) es ps → KV kvs ps → Vals (kvs.map (·.2)) (es.map (·.val))
  | _, _, _, .nil, .nil => .nil
  | _, _, _, .cons h1 h2 h3, .cons r t => by
    rw [List.map_cons, List.map_cons, h2]
    exact .cons r.2 (vals_pair h3 t)
theorem keys_pair {kvs : List (Key × V)} {ps : List (Key × Value)} (h : KV kvs ps) : kvs.map (·.1) = ps.map (·.1) := by
  induction h with
  | nil => rfl
  | cons r _ ih => rw [List.map_cons, List.map_cons, ih, r.1]
mutual
theorem Den.reads (I : Inv X pins σ H s) (S : SysD X.K) (sm : Same g.G H) : ∀ {v : V} {d : D}, Den X.K g v d → isPx d = true → ∀ u, RelV v u → ∃ as, Reads s.heap u (toPD d) as ∧ sysModules ∉ as
  | _, _, .non, _, u, r => by cases r; exact ⟨_, .none, by simp⟩
  | _, _, .bl b, _, u, r => by cases r; exact ⟨_, .bool b, by simp⟩
  | _, _, .int i, _, u, r => by obtain ⟨t, rfl⟩ := r; exact ⟨_, .int i t, by simp⟩
  | _, _, .str l, _, u, r => by obtain ⟨t, rfl⟩ := r; exact ⟨_, .str _ t, by simp⟩
  | _, _, .lst h1 h2, h, u, r => by
    cases r
    obtain ⟨its, rv, ⟨o, n, ho, hc, _, hd⟩, _⟩ := I.list (SqL.of (sm _ _ h1))
    obtain ⟨as, hr, hn⟩ := Dens.reads I S sm h2 (by simpa [isPx] using h) its rv
    refine ⟨_, Reads.list ho hc hd hr, fun hm => ?_⟩
    rcases List.mem_cons.mp hm with e | hm
    · exact not_sys I S ho hc e
    · exact hn hm
  | _, _, .tup h1 h2, h, u, r => by
    cases r
    obtain ⟨its, rv, ⟨o, ho, hc, n, hd⟩, _⟩ := I.tuple (Or.inl (h1.same sm))
    obtain ⟨as, hr, hn⟩ := Dens.reads I S sm h2 (by simpa [isPx] using h) its rv
    exact ⟨_, Reads.tuple ho hc hd hr, hn⟩
  | _, _, .obj h1 h2, h, _, _ => by simp [isPx] at h
  | _, _, .pot h1 _, h, _, _ => by simp [isPx] at h
  | _, _, .scr h1, h, _, _ => by simp [isPx] at h
  | _, _, .ref a, h, _, _ => by simp [isPx] at h
  | _, _, .tupK h1 h2, h, u, r => by
    cases r
    obtain ⟨its, rv, ⟨o, ho, hc, n, hd⟩, _⟩ := I.tuple (h1 _)
    obtain ⟨as, hr, hn⟩ := Dens.reads I S sm h2 (by simpa [isPx] using h) its rv
    exact ⟨_, Reads.tuple ho hc hd hr, hn⟩
  | _, _, .tupF _ _ _ _, h, _, _ => by simp [isPx] at h
  | _, _, .err _ _ _, h, _, _ => by simp [isPx] at h
  | _, _, .dic h1 h2 h3, h, u, r => by
    cases r
    obtain ⟨_, hs, ps, kv, o, es, ep, ho, hx, hd, _, hp, _⟩ := dk_of I.hok (sm _ _ h1)
    obtain ⟨as, hr, hn⟩ := Dens.reads I S sm h3 (by simpa [isPx] using h) _ (vals_pair hp kv)
    have hk := keys_read (h := s.heap) hp ((keys_pair kv).symm.trans h2)
    have hl := h3.length
    have hlk := congrArg List.length h2
    simp only [List.length_map] at hl hlk
    rw [toPD]
    have hlen : ∀ ds : List D, (toPDs ds).length = ds.length := by
      intro ds
      induction ds with
      | nil => simp [toPDs]
      | cons x xs ih => simp [toPDs, ih]
    refine ⟨_, Reads.dict ho hx.1 hd (as := []) (bs := as) ?_ ?_, fun hm => ?_⟩
    · rw [List.map_fst_zip (by rw [List.length_map, hlen]; omega)]
      exact hk
    · rw [List.map_snd_zip (by rw [List.length_map, hlen]; omega)]
      exact hr
    · simp only [List.append_nil, List.cons_append, List.nil_append] at hm
      rcases List.mem_cons.mp hm with e | hm
      · rw [← e] at hs
        simp at hs
      · exact hn hm
theorem Dens.reads (I : Inv X pins σ H s) (S : SysD X.K) (sm : Same g.G H) : ∀ {vs : List V} {ds : List D}, Dens X.K g vs ds → isPxs ds = true → ∀ us, Vals vs us → ∃ as, ReadsAll s.heap us (toPDs ds) as ∧ sysModules ∉ as
  | _, _, .nil, _, us, r => by cases r; exact ⟨_, .nil, by simp⟩
  | _, _, .cons h t, q, us, r => by
    rw [isPxs, Bool.and_eq_true] at q
    cases r with
    | cons r1 r2 =>
      obtain ⟨as, q1, n1⟩ := Den.reads I S sm h q.1 _ r1
      obtain ⟨bs, q2, n2⟩ := Dens.reads I S sm t q.2 _ r2
      exact ⟨_, ReadsAll.cons q1 q2, fun hm => (List.mem_append.mp hm).elim n1 n2⟩
end
end
def okRx (d : D) : Bool := isPx d && (decide ((toPD d).depth ≤ 50) && (toPD d).showable)
def rReprX (K : PySem.W.Frag) : List V → Hp → VK → Prop := fun xs H Q => ∃ x d g, xs = [x] ∧ Same g.G H ∧ Den K g x d ∧ okRx d = true ∧ (shownD d).length ≤ 16777216 ∧ Q (.str (toPD d).shown) H
theorem call_reprX {X : Cx} (S : SysD X.K) (hgd : X.A.guards = some []) (hu : X.A.units + 64 < cLine) : CallR X (.builtin "repr") (rReprX X.K) := by
  intro pins s σ H xs us Q I r h
  obtain ⟨x, d, g, rfl, sm, hd, ok, hl, q⟩ := h
  cases r with
  | cons r0 r1 =>
    rename_i u us
    cases r1
    unfold okRx at ok
    rw [Bool.and_eq_true, Bool.and_eq_true] at ok
    have hz : (toPD d).shown.length ≤ sizeLine := sz (by simpa [shownD, Str.length] using hl)
    have hdep : (toPD d).depth ≤ 50 := of_decide_eq_true ok.2.1
    obtain ⟨as, rd, hn⟩ := Den.reads I S sm hd ok.1 u r0
    have byRef : ∀ a, u = .ref a → wpAny (model X.prog X.w) X.A (call (.builtin "repr") [u]) (EP X pins σ Q) X.xe s := fun a e => by
      subst e
      exact repr_of_reads' rd ok.2.2 (fun _ => hn) hgd (by omega) (fun _ _ e => e) (fun h' t tk hk => ⟨.str _, H, I.kept hk, ⟨t, rfl⟩, q⟩) hz
    cases hd with
    | non =>
      cases r0
      exact P.repr_of_none ⟨.str _, H, I.tok _, ⟨_, rfl⟩, q⟩
    | bl b =>
      cases r0
      exact P.repr_of_bool ⟨.str _, H, I.tok _, ⟨_, rfl⟩, q⟩
    | int i =>
      obtain ⟨t, rfl⟩ := r0
      refine P.repr_of_int ?_ ⟨.str _, H, I.tok _, ⟨_, rfl⟩, q⟩
      have := ok.2.2
      simp only [toPD, PyData.showable] at this
      exact of_decide_eq_true this
    | str l =>
      obtain ⟨t, rfl⟩ := r0
      exact P.repr_of_str ⟨.str _, H, I.tok _, ⟨_, rfl⟩, q⟩ (by simpa [toPD, PyData.shown] using hz)
    | lst => exact byRef _ r0
    | tup => exact byRef _ r0
    | tupK => exact byRef _ r0
    | dic => exact byRef _ r0
    | obj => exact absurd ok.1 (by simp [isPx])
    | pot => exact absurd ok.1 (by simp [isPx])
    | scr => exact absurd ok.1 (by simp [isPx])
    | ref => exact absurd ok.1 (by simp [isPx])
    | tupF => exact absurd ok.1 (by simp [isPx])
    | err => exact absurd ok.1 (by simp [isPx])
    | cel => exact absurd ok.1 (by simp [isPx])
def gReprX : GC := fun ds P => match ds with
  | [x] => okRx x = true ∧ (shownD x).length ≤ 16777216 ∧ P (.str (shownD x))
  | _ => False
theorem so_reprX {X : Cx} : SCall ℓ X.K (rReprX X.K) gReprX := ⟨fun {g H n xs ds P Q} ok ex q k => by
  match ds, ex, q with
  | [x], .cons h .nil, q =>
    obtain ⟨q1, q2, q3⟩ := q
    refine ⟨_, x, g, rfl, ok.sub, h, q1, q2, ?_⟩
    have z := k.flat ok q3 (.str (shownD x))
    have e : (⟨(shownD x).toArray⟩ : Str) = (toPD x).shown := by
      unfold shownD
      simp
    rw [e] at z
    exact z⟩
theorem sysd_ok {K : PySem.W.Frag} (h : Fx.sysd.ok K = true) : SysD K := by
  have h' : (match K.lookup sysModules with
    | some ⟨.type n, _, _, _⟩ => decide (n = "dict")
    | _ => false) = true := h
  split at h'
  · rename_i n a b c e
    have := of_decide_eq_true h'
    subst this
    exact ⟨⟨_, e, rfl⟩⟩
  · cases h'
end Pd
namespace Pd
open PySem L2 PyProof.Rows
end Pd
namespace Pd
open PySem L2 PyProof.Rows
end Pd
namespace Pd
open PySem L2 PyProof.Rows
end Pd
namespace L2
open PySem PySem.Spec PyProof.Rows HT
end L2
namespace Pd
open PySem L2 PyProof.Rows
end Pd
namespace Pd
open PySem L2
end Pd
namespace Pd
open PySem L2 PyProof.Rows
end Pd
namespace Pd
open PySem L2 PyProof.Rows
end Pd
namespace Pd
open PySem L2 PyProof.Rows
end Pd
namespace Pd
variable {ℓ : Bool}
open PySem L2
structure ErrT (K : PySem.W.Frag) (D : Str) (Cs : List Str) : Prop where
  top : ∀ A ∈ D :: Cs, PySem.W.kitOne K (.ref (He.ga K A)) (.ref (He.ga K D)) = some true
  ve : ∀ A ∈ D :: Cs, PySem.W.kitOne K (.ref (He.ga K A)) (.type "ValueError") = some true
  one : ∀ A ∈ D :: Cs, ∀ B ∈ Cs, PySem.W.kitOne K (.ref (He.ga K A)) (.ref (He.ga K B)) = some (decide (A = B))
  bi : ∀ A ∈ D :: Cs, ∀ S ∈ ["NoneType", "bool", "int", "str", "list", "tuple", "dict"], PySem.W.kitOne K (.type S) (.ref (He.ga K A)) = some false
theorem kit_self {K : PySem.W.Frag} (a : Addr) : PySem.W.kitOne K (.ref a) (.ref a) = some true := by
  unfold PySem.W.kitOne
  rw [if_pos (by simp)]
theorem ErrT.inj {K : PySem.W.Frag} {D : Str} {Cs : List Str} (t : ErrT K D Cs) : ∀ A ∈ D :: Cs, ∀ B ∈ Cs, He.ga K A = He.ga K B → A = B := fun A hA B hB e => by
  have h := t.one A hA B hB
  rw [e, kit_self] at h
  simpa using h.symm
end Pd
namespace Pd
open PySem L2
end Pd
namespace L2
open PySem PySem.Spec PyProof.Rows HT
end L2
namespace Pd
open PySem L2
end Pd
namespace Pd
open PySem L2
end Pd
namespace L2
open PySem PySem.Spec PyProof.Rows HT
end L2
namespace Pd
open PySem L2
end Pd
namespace L2
open PySem PySem.Spec PyProof.Rows
end L2
namespace Pd
open PySem L2
end Pd
namespace Pd
open PySem L2
end Pd
namespace Pd
open PySem L2 PyProof.Rows
mutual
def noC : D → Bool
  | .cel _ _ => false
  | .lst xs => noCs xs
  | .tup xs => noCs xs
  | .obj _ fs => noCf fs
  | .tupK xs => noCs xs
  | .tupF xs => noCs xs
  | .err _ d => noC d
  | .dic _ vs => noCs vs
  | _ => true
def noCs : List D → Bool
  | [] => true
  | x :: r => noC x && noCs r
def noCf : List (Str × D) → Bool
  | [] => true
  | (_, x) :: r => noC x && noCf r
end
section
variable {K : PySem.W.Frag} {g g' : Gh}
mutual
theorem Den.nc (hG : Same g.G g'.G) (hp : ∀ a, g.pot a → NoT K g a → g'.pot a ∧ NoT K g' a) : ∀ {v : V} {d : D}, Den K g v d → noC d = true → Den K g' v d
  | _, _, .non, _ => .non
  | _, _, .bl b, _ => .bl b
  | _, _, .int i, _ => .int i
  | _, _, .str l, _ => .str l
  | _, _, .lst h1 h2, h => .lst (hG _ _ h1) (Dens.nc hG hp h2 (by unfold noC at h; exact h))
  | _, _, .tup h1 h2, h => .tup (h1.same hG) (Dens.nc hG hp h2 (by unfold noC at h; exact h))
  | _, _, .obj h1 h2, h => .obj (hG _ _ h1) (Flds.nc hG hp h2 (by unfold noC at h; exact h))
  | _, _, .pot h hn, _ => .pot (hp _ h hn).1 (hp _ h hn).2
  | _, _, .scr h, _ => .scr (hG.seq h)
  | _, _, .ref a, _ => .ref a
  | _, _, .tupK h1 h2, h => .tupK h1 (Dens.nc hG hp h2 (by unfold noC at h; exact h))
  | _, _, .tupF h1 c d h2, h => .tupF (hG _ _ h1) c d (Dens.nc hG hp h2 (by unfold noC at h; exact h))
  | _, _, .err h1 h2 h3, h => .err (hG _ _ h1) (hG _ _ h2) (Den.nc hG hp h3 (by unfold noC at h; exact h))
  | _, _, .dic h1 h2 h3, h => .dic (hG _ _ h1) h2 (Dens.nc hG hp h3 (by unfold noC at h; exact h))
  | _, _, .cel _, h => by unfold noC at h; cases h
theorem Dens.nc (hG : Same g.G g'.G) (hp : ∀ a, g.pot a → NoT K g a → g'.pot a ∧ NoT K g' a) : ∀ {vs : List V} {ds : List D}, Dens K g vs ds → noCs ds = true → Dens K g' vs ds
  | _, _, .nil, _ => .nil
  | _, _, .cons h t, z => by
    unfold noCs at z
    rw [Bool.and_eq_true] at z
    exact .cons (Den.nc hG hp h z.1) (Dens.nc hG hp t z.2)
theorem Flds.nc (hG : Same g.G g'.G) (hp : ∀ a, g.pot a → NoT K g a → g'.pot a ∧ NoT K g' a) : ∀ {vs : List (Str × V)} {ds : List (Str × D)}, Flds K g vs ds → noCf ds = true → Flds K g' vs ds
  | _, _, .nil, _ => .nil
  | _, _, .cons h t, z => by
    unfold noCf at z
    rw [Bool.and_eq_true] at z
    exact .cons (Den.nc hG hp h z.1) (Flds.nc hG hp t z.2)
end
mutual
theorem Den.noC (h0 : g.cel = []) : ∀ {v : V} {d : D}, Den K g v d → noC d = true
  | _, _, .non => by unfold Pd.noC; rfl
  | _, _, .bl b => by unfold Pd.noC; rfl
  | _, _, .int i => by unfold Pd.noC; rfl
  | _, _, .str l => by unfold Pd.noC; rfl
  | _, _, .lst h1 h2 => by unfold Pd.noC; exact Dens.noC h0 h2
  | _, _, .tup h1 h2 => by unfold Pd.noC; exact Dens.noC h0 h2
  | _, _, .obj h1 h2 => by unfold Pd.noC; exact Flds.noC h0 h2
  | _, _, .pot h hn => by unfold Pd.noC; rfl
  | _, _, .scr h => by unfold Pd.noC; rfl
  | _, _, .ref a => by unfold Pd.noC; rfl
  | _, _, .tupK h1 h2 => by unfold Pd.noC; exact Dens.noC h0 h2
  | _, _, .tupF h1 c d h2 => by unfold Pd.noC; exact Dens.noC h0 h2
  | _, _, .err h1 h2 h3 => by unfold Pd.noC; exact Den.noC h0 h3
  | _, _, .dic h1 h2 h3 => by unfold Pd.noC; exact Dens.noC h0 h3
  | _, _, .cel h => by rw [h0] at h; simp at h
theorem Dens.noC (h0 : g.cel = []) : ∀ {vs : List V} {ds : List D}, Dens K g vs ds → noCs ds = true
  | _, _, .nil => by unfold noCs; rfl
  | _, _, .cons h t => by unfold noCs; rw [Den.noC h0 h, Dens.noC h0 t]; rfl
theorem Flds.noC (h0 : g.cel = []) : ∀ {vs : List (Str × V)} {ds : List (Str × D)}, Flds K g vs ds → noCf ds = true
  | _, _, .nil => by unfold noCf; rfl
  | _, _, .cons h t => by unfold noCf; rw [Den.noC h0 h, Flds.noC h0 t]; rfl
end
end
def Gh.dn (g : Gh) : Gh := ⟨g.G, fun a => g.pot a ∧ ∀ C, (a, C) ∉ g.cel, []⟩
section
variable {K : PySem.W.Frag} {g g1 : Gh} {H H' : Hp} {n m : Nat}
theorem dn_nc (ds : List D) {vs : List V} (h : Dens K g vs ds) (z : noCs ds = true) : Dens K g.dn vs ds := h.nc (g := g) (g' := g.dn) (Same.refl _) (fun a p t => ⟨⟨p, t.2⟩, t.1, fun C w => by cases w⟩) z
theorem Ok.dn (ok : Ok true K g H n) : Ok false K g.dn H (dr n) := by
  refine ⟨ok.sub, fun a z => ⟨(ok.pot a z.1).1, ?_⟩, ⟨ok.t.tabs, fun p hp => ⟨ok.t.tp p hp, fun C w => ?_⟩, ok.t.all⟩, CelOk.nil⟩
  · rcases (ok.pot a z.1).2 with (h | ⟨C, h⟩) | h
    · exact .inl (.inl h)
    · exact absurd h (z.2 C)
    · exact .inr h
  · exact (ok.cel.mem w).2.1 p.2 hp
def Gh.up (g g1 : Gh) : Gh := ⟨g1.G, fun a => g1.pot a ∨ ∃ C, (a, C) ∈ g.cel, g.cel⟩
theorem Stp.up (ok : Ok true K g H n) (s : Stp g.dn H g1 H') : Stp g H (g.up g1) H' := by
  refine ⟨⟨s.ext.G, fun a z => ?_, [], (List.append_nil _).symm, fun _ _ h => by cases h⟩, s.gro, fun a h z => ?_, fun a o h z => s.kep a o h fun w => z w.1, s.dom⟩
  · by_cases w : ∃ C, (a, C) ∈ g.cel
    · exact .inr w
    · exact .inl (s.ext.p a ⟨z, fun C c => w ⟨C, c⟩⟩)
  · rcases z with z | ⟨C, z⟩
    · exact (s.grp a h z).1
    · exact (ok.cel.mem z).1
theorem Ok.up (ok : Ok true K g H n) (s : Stp g.dn H g1 H') (o1 : Ok false K g1 H' m) : Ok true K (g.up g1) H' (stN m (cs n)) := by
  refine ⟨o1.sub, fun a z => ?_, ⟨o1.t.tabs, fun p hp => .inl (o1.t.tp p hp), o1.t.all⟩, ?_⟩
  · by_cases w : ∃ C, (a, C) ∈ g.cel
    · obtain ⟨C, c⟩ := w
      obtain ⟨h1, h2, od, o, h3, h4⟩ := ok.cel.mem c
      exact ⟨s.gro a (by rw [h3]; exact Option.some_ne_none _) (ok.pot a h1).1, .inl (.inr ⟨C, c⟩)⟩
    · rcases z with z | z
      · obtain ⟨h1, h2⟩ := o1.pot a z
        refine ⟨h1, ?_⟩
        rcases h2 with (h2 | ⟨C, h2⟩) | h2
        · exact .inl (.inl h2)
        · rw [o1.nocel] at h2
          cases h2
        · refine .inr ?_
          show PotH (dr (stN m (cs n))) (H' a)
          rw [dr_stN]
          exact h2
      · exact absurd z w
  · show CelOk K (g.up g1) H' g.cel (cs (stN m (cs n)))
    rw [cs_stN]
    refine ok.cel.step (Stp.up ok s).ext fun a C c => ?_
    obtain ⟨h1, h2, od, o, h3, h4⟩ := ok.cel.mem c
    rw [h3]
    exact s.kep a o h3 fun w => w.2 C c
theorem Den.up (ok : Ok true K g H n) (s : Stp g.dn H g1 H') (o1 : Ok false K g1 H' m) {v : V} {d : D} (h : Den K g1 v d) : Den K (g.up g1) v d :=
  h.nc (g := g1) (g' := g.up g1) (Same.refl _) (fun a p t => ⟨.inl p, t.1, fun C w => by
    have w : (a, C) ∈ g.cel := w
    obtain ⟨h1, h2, od, o, h3, h4⟩ := ok.cel.mem w
    exact (s.grp a (by rw [h3]; exact Option.some_ne_none _) p).2 C w⟩) (h.noC o1.nocel)
theorem Flds.up (ok : Ok true K g H n) (s : Stp g.dn H g1 H') (o1 : Ok false K g1 H' m) {v : List (Str × V)} {d : List (Str × D)} (h : Flds K g1 v d) : Flds K (g.up g1) v d :=
  h.nc (g := g1) (g' := g.up g1) (Same.refl _) (fun a p t => ⟨.inl p, t.1, fun C w => by
    have w : (a, C) ∈ g.cel := w
    obtain ⟨h1, h2, od, o, h3, h4⟩ := ok.cel.mem w
    exact (s.grp a (by rw [h3]; exact Option.some_ne_none _) p).2 C w⟩) (h.noC o1.nocel)
end
noncomputable def wd (n m : Nat) : Nat := if m = dr n then n else stN m (cs n)
theorem dr_wd (n m : Nat) : dr (wd n m) = m := by
  unfold wd
  split
  · rename_i h
    exact h.symm
  · exact dr_stN _ _
theorem cs_wd (n m : Nat) : cs (wd n m) = cs n := by
  unfold wd
  split
  · rfl
  · exact cs_stN _ _
theorem wd_same (n : Nat) : wd n (dr n) = n := if_pos rfl
theorem Ok.cast {K : PySem.W.Frag} {g : Gh} {H : Hp} {n m : Nat} (ok : Ok true K g H n) (h1 : dr m = dr n) (h2 : cs m = cs n) : Ok true K g H m :=
  ⟨ok.sub, fun a z => by
    have h := ok.pot a z
    refine ⟨h.1, h.2.imp id fun y => ?_⟩
    show PotH (dr m) (H a)
    rw [h1]
    exact y, ok.t, by
    show CelOk K g H g.cel (cs m)
    rw [h2]
    exact ok.cel⟩
theorem Ok.upW {K : PySem.W.Frag} {g g1 : Gh} {H H' : Hp} {n m : Nat} (ok : Ok true K g H n) (s : Stp g.dn H g1 H') (o1 : Ok false K g1 H' m) : Ok true K (g.up g1) H' (wd n m) :=
  (ok.up s o1).cast (by rw [dr_wd, dr_stN]) (by rw [cs_wd, cs_stN])
def up (s : FD) : FD := fun ds n P => noCs ds = true ∧ s ds (dr n) fun m r => noC r = true → P (wd n m) r
def upX (s : FDX) : FDX := fun ds n P R => noCs ds = true ∧ s ds (dr n) (fun m r => noC r = true → P (wd n m) r) fun m C r => noC r = true → R (wd n m) C r
def upI (s : FI) : FI := fun ds n P => noCs ds = true ∧ s ds (dr n) fun m fs => noCf fs = true → P (wd n m) fs
def upIX (s : FIX) : FIX := fun ds n P R => noCs ds = true ∧ s ds (dr n) (fun m fs => noCf fs = true → P (wd n m) fs) fun m C r => noC r = true → R (wd n m) C r
section
variable {K : PySem.W.Frag}
theorem up_ok {s : FD} : ∀ vs H Q E, liftF true K (up s) vs H Q E → liftF false K s vs H Q E := fun vs H Q E ⟨g, n, ds, P, ok, dd, ⟨z, q⟩, k⟩ =>
  ⟨g.dn, dr n, ds, _, ok.dn, dn_nc ds dd z, q, fun v g1 H' m r p s1 o1 e1 => k v (g.up g1) H' _ r (p (e1.noC o1.nocel)) (Stp.up ok s1) (ok.upW s1 o1) (e1.up ok s1 o1)⟩
theorem upX_ok {s : FDX} : ∀ vs H Q E, liftFX true K (upX s) vs H Q E → liftFX false K s vs H Q E := fun vs H Q E ⟨g, n, ds, P, R, ok, dd, ⟨z, q⟩, k, kx⟩ =>
  ⟨g.dn, dr n, ds, _, _, ok.dn, dn_nc ds dd z, q, fun v g1 H' m r p s1 o1 e1 => k v (g.up g1) H' _ r (p (e1.noC o1.nocel)) (Stp.up ok s1) (ok.upW s1 o1) (e1.up ok s1 o1),
    fun g1 H' m C dx u r p s1 o1 e1 e2 => kx (g.up g1) H' _ C dx u r (p (e2.noC o1.nocel)) (Stp.up ok s1) (ok.upW s1 o1) e1 (e2.up ok s1 o1)⟩
end
end Pd
namespace Pd
open PySem L2 PyProof.Rows
section
variable {K : PySem.W.Frag} {g g1 : Gh} {H H' : Hp} {n m : Nat} {ℓ : Bool}
theorem Ok.rem (ok : Ok ℓ K g H n) {D : Addr} (h1 : g.G D = none) (h2 : ¬ g.pot D) (h3 : ∀ u, H D = some u → Lite u) : Ok ℓ K g (rem H D) n := by
  refine ⟨fun a u e => ?_, fun a z => ?_, ok.t.at (fun a ps e => ?_) fun a u e hn => ?_, ok.cel.step (Ext.refl g) fun a C m => rem_ne fun w => h2 (by rw [← w]; exact (ok.cel.mem m).1)⟩
  · rw [rem_ne fun w => by rw [w, h1] at e; cases e]; exact ok.sub a u e
  · rw [rem_ne fun w => h2 (by rw [← w]; exact z)]; exact ok.pot a z
  · by_cases w : a = D
    · rw [w, rem_at] at e; cases e
    · rw [rem_ne w] at e; exact e
  · rw [rem_ne fun w => hn (h3 u (by rw [← w]; exact e))]; exact e
theorem upI_ok {C : Addr} {s : FI} : ∀ vs H Q E, liftInit true K C (upI s) vs H Q E → liftInit false K C s vs H Q E := fun vs H Q E ⟨g, n, x, dx, vs', ds, P, ev, hx, gx, px, ok, dd, ⟨z, q⟩, k⟩ => by
  have okr : Ok true K g (Pd.rem H x) n := ok.rem gx px fun u e => by
    rw [hx] at e
    cases e
    exact .inr (.inl ⟨_, _, _, rfl⟩)
  refine ⟨g.dn, dr n, x, dx, vs', ds, _, ev, hx, gx, fun w => px w.1, ok.dn, dn_nc ds dd z, q, fun g1 H' m fs dx' fvs p s1 o1 h1 h2 h3 h4 => ?_⟩
  refine k (g.up g1) H' _ fs dx' fvs (p (h4.noC o1.nocel)) (Stp.up okr s1) (okr.upW s1 o1) h1 (fun w => ?_) h3 (h4.up okr s1 o1)
  rcases w with w | ⟨C, w⟩
  · exact h2 w
  · exact px (ok.cel.mem w).1
theorem upIX_ok {C : Addr} {s : FIX} : ∀ vs H Q E, liftInitX true K C (upIX s) vs H Q E → liftInitX false K C s vs H Q E := fun vs H Q E ⟨g, n, x, dx, vs', ds, P, R, ev, hx, gx, px, ok, dd, ⟨z, q⟩, k, kx⟩ => by
  have okr : Ok true K g (Pd.rem H x) n := ok.rem gx px fun u e => by
    rw [hx] at e
    cases e
    exact .inr (.inl ⟨_, _, _, rfl⟩)
  refine ⟨g.dn, dr n, x, dx, vs', ds, _, _, ev, hx, gx, fun w => px w.1, ok.dn, dn_nc ds dd z, q, fun g1 H' m fs dx' fvs p s1 o1 h1 h2 h3 h4 => ?_, fun g1 H' m C dx u r p s1 o1 e1 e2 => ?_⟩
  · refine k (g.up g1) H' _ fs dx' fvs (p (h4.noC o1.nocel)) (Stp.up okr s1) (okr.upW s1 o1) h1 (fun w => ?_) h3 (h4.up okr s1 o1)
    rcases w with w | ⟨C, w⟩
    · exact h2 w
    · exact px (ok.cel.mem w).1
  · exact kx (g.up g1) H' _ C dx u r (p (e2.noC o1.nocel)) (Stp.up okr s1) (okr.upW s1 o1) e1 (e2.up okr s1 o1)
end
section
variable {P : Program} {w : World} {K : PySem.W.Frag} {mg : Str → Option Value} {base : Heap} {k : Nat} {f C : Addr} {m : Str} {ps : List Str} {dd : List D} {sp : FD} {sx : FDX} {fi : FI} {fx : FIX}
theorem HasF.up (h : HasF false P w K mg base k f ps dd sp) : HasF true P w K mg base k f ps dd (up sp) := by
  obtain ⟨fd, dvs, ds, F, a⟩ := h.ex
  exact ⟨fd, dvs, ds, F.imp up_ok, a⟩
theorem HasG.up (h : HasG false P w K mg base k f ps dd sp) : HasG true P w K mg base k f ps dd (Pd.up sp) := by
  obtain ⟨fd, dvs, ds, F, a⟩ := h.ex
  exact ⟨fd, dvs, ds, F.imp up_ok, a⟩
theorem HasM.up (h : HasM false P w K mg base k C m ps dd sp) : HasM true P w K mg base k C m ps dd (Pd.up sp) := by
  obtain ⟨f, fd, dvs, ds, F, a⟩ := h.ex
  exact ⟨f, fd, dvs, ds, F.imp up_ok, a⟩
theorem HasP.up (h : HasP false P w K mg base k C m ps sp) : HasP true P w K mg base k C m ps (Pd.up sp) := by
  obtain ⟨p, f, fd, F, a⟩ := h.ex
  exact ⟨p, f, fd, F.imp up_ok, a⟩
theorem HasI.up (h : HasI false P w K mg base k C ps dd fi) : HasI true P w K mg base k C ps dd (upI fi) := by
  obtain ⟨f, fd, dvs, ds, F, a⟩ := h.ex
  exact ⟨f, fd, dvs, ds, F.imp upI_ok, a⟩
theorem HasFX.up (h : HasFX false P w K mg base k f ps dd sx) : HasFX true P w K mg base k f ps dd (upX sx) := by
  obtain ⟨fd, dvs, ds, F, a⟩ := h.ex
  exact ⟨fd, dvs, ds, F.imp upX_ok, a⟩
theorem HasMX.up (h : HasMX false P w K mg base k C m ps dd sx) : HasMX true P w K mg base k C m ps dd (upX sx) := by
  obtain ⟨f, fd, dvs, ds, F, a⟩ := h.ex
  exact ⟨f, fd, dvs, ds, F.imp upX_ok, a⟩
theorem HasIX.up (h : HasIX false P w K mg base k C ps dd fx) : HasIX true P w K mg base k C ps dd (upIX fx) := by
  obtain ⟨f, fd, dvs, ds, F, a⟩ := h.ex
  exact ⟨f, fd, dvs, ds, F.imp upIX_ok, a⟩
end
noncomputable def dn (s : FD) : FD := fun ds n P => s ds (stN n []) fun m r => noC r = true ∧ P (dr m) r
theorem dn_ok {K : PySem.W.Frag} {s : FD} : ∀ vs H Q E, liftF false K (dn s) vs H Q E → liftF true K s vs H Q E := fun vs H Q E ⟨g, n, ds, P, ok, dd, q, k⟩ => by
  have o2 : Ok true K g H (stN n []) := ⟨ok.sub, fun a z => by
    have h := ok.pot a z
    refine ⟨h.1, h.2.imp id fun y => ?_⟩
    show PotH (dr (stN n [])) (H a)
    rw [dr_stN]
    exact y, ok.t, by
    rw [ok.nocel]
    show CelOk K g H [] (cs (stN n []))
    rw [cs_stN]
    exact CelOk.nil⟩
  refine ⟨g, stN n [], ds, _, o2, dd, q, fun v g' H' m r p s1 o1 e1 => ?_⟩
  refine k v g'.dn H' (dr m) r p.2 ⟨⟨s1.ext.G, fun a z => ⟨s1.ext.p a z, fun C c => ?_⟩, [], ?_, fun _ _ h => by cases h⟩, s1.gro, fun a h z => s1.grp a h z.1, s1.kep, s1.dom⟩ o1.dn (e1.nc (g := g') (g' := g'.dn) (Same.refl _) (fun a p t => ⟨⟨p, t.2⟩, t.1, fun C w => by cases w⟩) p.1)
  · obtain ⟨l, e, h⟩ := s1.ext.c
    rw [ok.nocel, List.nil_append] at e
    rw [e] at c
    exact h a C c z
  · rw [ok.nocel]
    rfl
theorem HasF.dn {P : Program} {w : World} {K : PySem.W.Frag} {mg : Str → Option Value} {base : Heap} {k : Nat} {f : Addr} {ps : List Str} {dd : List D} {sp : FD} (h : HasF true P w K mg base k f ps dd sp) : HasF false P w K mg base k f ps dd (Pd.dn sp) := by
  obtain ⟨fd, dvs, ds, F, a⟩ := h.ex
  exact ⟨fd, dvs, ds, F.imp dn_ok, a⟩
theorem HasG.dn {P : Program} {w : World} {K : PySem.W.Frag} {mg : Str → Option Value} {base : Heap} {k : Nat} {f : Addr} {ps : List Str} {dd : List D} {sp : FD} (h : HasG true P w K mg base k f ps dd sp) : HasG false P w K mg base k f ps dd (Pd.dn sp) := by
  obtain ⟨fd, dvs, ds, F, a⟩ := h.ex
  exact ⟨fd, dvs, ds, F.imp dn_ok, a⟩
noncomputable def newC (n : Nat) (od : OD) : Nat := stN (dr n) (cs n ++ [od])
noncomputable def setC (n i : Nat) (od : OD) : Nat := stN (dr n) ((cs n).set i od)
theorem dr_newC (n : Nat) (od : OD) : dr (newC n od) = dr n := dr_stN _ _
theorem cs_newC (n : Nat) (od : OD) : cs (newC n od) = cs n ++ [od] := cs_stN _ _
theorem dr_setC (n i : Nat) (od : OD) : dr (setC n i od) = dr n := dr_stN _ _
theorem cs_setC (n i : Nat) (od : OD) : cs (setC n i od) = (cs n).set i od := cs_stN _ _
def Gh.addC (g : Gh) (p : Addr) (C : Option Addr) : Gh := ⟨g.G, fun a => g.pot a ∨ a = p, g.cel ++ [(p, C)]⟩
section
variable {K : PySem.W.Frag} {g g0 : Gh} {H H0 : Hp} {n : Nat} {p : Addr} {o : HO} {od : OD}
theorem Ext.addC {C : Option Addr} (h : ¬ g.pot p) : Ext g (g.addC p C) := ⟨Same.refl _, fun a z => .inl z, [(p, C)], rfl, fun a C' m => by
  rw [List.mem_singleton] at m
  cases m
  exact h⟩
theorem Ok.newC (ok : Ok true K g H n) (h1 : g.G p = none) (h2 : ¬ g.pot p) (h3 : H p = some o) (h4 : CelH K g od o) : Ok true K (g.addC p od.cls) H (newC n od) := by
  have ex : Ext g (g.addC p od.cls) := Ext.addC h2
  have hT : ∀ q, (p, q) ∉ tabsK K := fun q z => h2 (ok.t.tp _ z)
  refine ⟨ok.sub, fun a z => ?_, ⟨ok.t.tabs, fun q hq => .inl (ok.t.tp q hq), ok.t.all⟩, ?_⟩
  · rcases z with z | z
    · obtain ⟨w1, w2⟩ := ok.pot a z
      refine ⟨w1, w2.imp (fun y => y.imp id fun ⟨C, c⟩ => ⟨C, List.mem_append_left _ c⟩) fun y => ?_⟩
      show PotH (dr (Pd.newC n od)) (H a)
      rw [dr_newC]
      exact y
    · subst z
      exact ⟨h1, .inl (.inr ⟨od.cls, List.mem_append_right _ List.mem_cons_self⟩)⟩
  · show CelOk K (g.addC p od.cls) H (g.cel ++ [(p, od.cls)]) (cs (Pd.newC n od))
    rw [cs_newC]
    have c := ok.cel.step ex fun _ _ _ => rfl
    have hl : g.cel.length = (cs n).length := c.len
    refine ⟨by rw [List.length_append, List.length_append, hl]; rfl, fun i a C e => ?_, fun i j a C C' e1 e2 => ?_⟩
    · rcases Nat.lt_or_ge i g.cel.length with z | z
      · rw [List.getElem?_append_left z] at e
        obtain ⟨w1, w2, od', o', w3, w4⟩ := c.at_ i a C e
        exact ⟨w1, w2, od', o', by rw [List.getElem?_append_left (by omega)]; exact w3, w4⟩
      · rw [List.getElem?_append_right z] at e
        rw [List.getElem?_singleton] at e
        split at e
        · rename_i y
          cases e
          exact ⟨.inr rfl, hT, od, o, by rw [List.getElem?_append_right (by omega), show i - (cs n).length = 0 by omega]; rfl, rfl, h3, h4.mono ex⟩
        · cases e
    · have key : ∀ (i : Nat) (a : Addr) (C : Option Addr), (g.cel ++ [(p, od.cls)])[i]? = some (a, C) → (i < g.cel.length ∧ g.cel[i]? = some (a, C) ∧ g.pot a) ∨ (i = g.cel.length ∧ a = p) := fun i a C e => by
        rcases Nat.lt_or_ge i g.cel.length with z | z
        · rw [List.getElem?_append_left z] at e
          exact .inl ⟨z, e, (ok.cel.at_ i a C e).1⟩
        · rw [List.getElem?_append_right z, List.getElem?_singleton] at e
          split at e
          · cases e
            exact .inr ⟨by omega, rfl⟩
          · cases e
      rcases key i a C e1 with ⟨z1, z2, z3⟩ | ⟨z1, z2⟩ <;> rcases key j a C' e2 with ⟨y1, y2, y3⟩ | ⟨y1, y2⟩
      · exact ok.cel.nd i j a C C' z2 y2
      · exact absurd (by rw [← y2]; exact z3) h2
      · exact absurd (by rw [← z2]; exact y3) h2
      · omega
theorem Stp.addC {C : Option Addr} (s : Stp g0 H0 g H) (h : H0 p = none) (h2 : ¬ g.pot p) : Stp g0 H0 (g.addC p C) H :=
  ⟨s.ext.trans (Ext.addC h2), s.gro, fun a z w => by
    rcases w with w | w
    · exact s.grp a z w
    · exact absurd h (by rw [← w]; exact z), s.kep, s.dom⟩
theorem Gh.addC_at {C : Option Addr} : (g.addC p C).cel[g.cel.length]? = some (p, C) := by
  show (g.cel ++ [(p, C)])[g.cel.length]? = some (p, C)
  rw [List.getElem?_append_right (Nat.le_refl _), Nat.sub_self]
  rfl
theorem Ok.cell (ok : Ok true K g H n) {i : Nat} {C : Option Addr} (h : g.cel[i]? = some (p, C)) : g.pot p ∧ NoT K g p = NoT K g p ∧ ∃ od o, (cs n)[i]? = some od ∧ od.cls = C ∧ H p = some o ∧ CelH K g od o := by
  obtain ⟨h1, h2, h3⟩ := ok.cel.at_ i p C h
  exact ⟨h1, rfl, h3⟩
theorem Ok.cellI (ok : Ok true K g H n) {i : Nat} {v : V} {C : Addr} (h : Den K g v (.cel (some C) i)) : ∃ p dx fvs fs, v = .ref p ∧ g.cel[i]? = some (p, some C) ∧ g.pot p ∧ (cs n)[i]? = some (.ins C fs) ∧ H p = some (.ins C dx fvs) ∧ Flds K g fvs fs := by
  cases h with
  | cel h =>
    rename_i a
    obtain ⟨h1, _, od, o, h3, h4, h5, h6⟩ := ok.cell h
    cases od with
    | lst ds => cases h4
    | dic ks vs => cases h4
    | dct ks vs => cases h4
    | ins C' fs =>
      cases h4
      obtain ⟨dx, fvs, rfl, h7⟩ := h6
      exact ⟨a, dx, fvs, fs, rfl, h, h1, h3, h5, h7⟩
theorem Ok.cellT (ok : Ok true K g H n) {i : Nat} {v : V} {ks : List (List Nat)} {ds : List D} (h : Den K g v (.cel none i)) (hc : (cs n)[i]? = some (.dct ks ds)) : ∃ (p : Addr) (kvs : List (List Key × V)), v = .ref p ∧ g.cel[i]? = some (p, none) ∧ g.pot p ∧ H p = some (.dT kvs) ∧ kvs.map (·.1) = ks.map tupKey ∧ Dens K g (kvs.map (·.2)) ds := by
  cases h with
  | cel h =>
    rename_i a
    obtain ⟨h1, _, od, o, h3, h4, h5, h6⟩ := ok.cell h
    rw [hc] at h3
    cases h3
    obtain ⟨kvs, rfl, h7, h8⟩ := h6
    exact ⟨a, kvs, rfl, h, h1, h5, h7, h8⟩
theorem Ok.setC (ok : Ok true K g H n) {i : Nat} {C : Option Addr} (h : g.cel[i]? = some (p, C)) (hc : od.cls = C) (h4 : CelH K g od o) : Ok true K g (upd H p o) (setC n i od) ∧ Stp g H g (upd H p o) := by
  obtain ⟨h1, _, od0, o0, h3, h5, h6, h7⟩ := ok.cell h
  have hl : i < (cs n).length := (List.getElem?_eq_some_iff.mp h3).1
  have hG := (ok.pot p h1).1
  refine ⟨⟨fun a u e => ?_, fun a z => ?_, ok.t.upd (fun u z => by rw [h6] at z; cases z; exact h7.lite) h4.lite.nt, ?_⟩, Stp.turn h1 (by rw [h6]; exact Option.some_ne_none _)⟩
  · rw [upd_ne fun q => by rw [q, hG] at e; cases e]
    exact ok.sub a u e
  · obtain ⟨w1, w2⟩ := ok.pot a z
    refine ⟨w1, ?_⟩
    by_cases q : a = p
    · rw [q]
      exact .inl (.inr ⟨C, List.mem_of_getElem? h⟩)
    · refine w2.imp id fun y => ?_
      show PotH (dr (Pd.setC n i od)) (upd H p o a)
      rw [dr_setC, upd_ne q]
      exact y
  · show CelOk K g (upd H p o) g.cel (cs (Pd.setC n i od))
    rw [cs_setC]
    refine ⟨by rw [List.length_set]; exact ok.cel.len, fun j a C' e => ?_, ok.cel.nd⟩
    obtain ⟨w1, w2, od', o', w3, w4, w5, w6⟩ := ok.cel.at_ j a C' e
    by_cases q : a = p
    · subst q
      have : j = i := ok.cel.nd j i a C' C e h
      subst this
      rw [h] at e
      cases e
      exact ⟨w1, w2, od, o, List.getElem?_set_self hl, hc, upd_same, h4⟩
    · refine ⟨w1, w2, od', o', ?_, w4, by rw [upd_ne q]; exact w5, w6⟩
      rw [List.getElem?_set_ne fun e2 => q ?_]
      · exact w3
      · subst e2
        rw [h] at e
        cases e
        rfl
end
end Pd
namespace Pd
open PySem L2 PyProof.Rows
variable {W : WX}
def isI (C : Addr) (n : Nat) (x : D) (i : Nat) (fs : List (Str × D)) : Prop := x = .cel (some C) i ∧ (cs n)[i]? = some (.ins C fs)
def dFldC (C : Addr) (f : Str) (d : DE) : DE := fun n ε P => d n ε fun n1 x => ∃ i fs y, isI C n1 x i fs ∧ fs.lookup f = some y ∧ P n1 y
def dPropC (C : Addr) (sp : FD) (d : DE) : DE := fun n ε P => d n ε fun n1 x => (∃ i, x = .cel (some C) i) ∧ sp [x] n1 P
def dMethC (C : Addr) (m : Str) (sp : FD) (dd : List D) (d : DE) (t : DA) : DE := fun n ε P => d n ε fun n1 x => (∃ i fs, isI C n1 x i fs ∧ fs.lookup m = none) ∧ t n1 ε fun n2 ds => sp (x :: (ds ++ dd)) n2 P
def dMethRC (C : Addr) (m : Str) (sp : FDX) (dd : List D) (d : DE) (t : DA) : DXc := fun n ε P R => d n ε fun n1 x => (∃ i fs, isI C n1 x i fs ∧ fs.lookup m = none) ∧ t n1 ε fun n2 ds => sp (x :: (ds ++ dd)) n2 P R
theorem isI_at {K : PySem.W.Frag} {g : Gh} {H : Hp} {n : Nat} (ok : Ok true K g H n) {v : V} {x : D} {C : Addr} {i : Nat} {fs : List (Str × D)} (h : Den K g v x) (q : isI C n x i fs) :
    ∃ p dx fvs, v = .ref p ∧ g.cel[i]? = some (p, some C) ∧ H p = some (.ins C dx fvs) ∧ Flds K g fvs fs := by
  obtain ⟨rfl, q⟩ := q
  obtain ⟨p, dx, fvs, fs', h1, h2, h3, h4, h5, h6⟩ := ok.cellI h
  rw [q] at h4
  cases h4
  exact ⟨p, dx, fvs, h1, h2, h5, h6⟩
section
variable {X : Cx} {k : Nat} {C : Addr} {ps : List Str} {sp : FD} {sx : FDX} {dd : List D} {E : XK} {f m : Str} {pos pos' apos : Pos} {e o : Expr} {es : List Expr} {da db : DE} {t : DA}
def putC (C : Addr) (f : Str) (r x : D) (n : Nat) (P : Nat → Prop) : Prop := ∃ i fs, isI C n x i fs ∧ fs.length < 1000 ∧ P (setC n i (.ins C (putFD f r fs)))
def dFstC (C : Addr) (f : Str) (d o : DE) : DS := fun N n ε => d n ε fun n1 r => o n1 ε fun n2 x => putC C f r x n2 fun n3 => N.nx n3 ε
theorem put_at {K : PySem.W.Frag} {g : Gh} {H : Hp} {n : Nat} (ok : Ok true K g H n) {v y : V} {x r : D} {f : Str} {P : Nat → Prop} (h : Den K g v x) (hr : Den K g y r) (q : putC C f r x n P) :
    ∃ p dx fvs n', v = .ref p ∧ H p = some (.ins C dx fvs) ∧ fvs.length < 1000 ∧ P n' ∧ Ok true K g (upd H p (.ins C dx (putF f y fvs))) n' ∧ Stp g H g (upd H p (.ins C dx (putF f y fvs))) := by
  obtain ⟨i, fs, h1, h2, h3⟩ := q
  obtain ⟨p, dx, fvs, rfl, w2, w3, w4⟩ := isI_at ok h h1
  obtain ⟨a, b⟩ := ok.setC (od := .ins C (putFD f r fs)) (o := .ins C dx (putF f y fvs)) w2 rfl ⟨dx, _, rfl, w4.put hr⟩
  exact ⟨p, dx, fvs, _, rfl, w3, by rw [w4.length]; exact h2, h3, a, b⟩
end
def dMakeC (C : Addr) (f : FI) (dd : List D) (t : DA) : DE := fun n ε P => t n ε fun n1 ds => f (ds ++ dd) n1 fun n2 fs => P (newC n2 (.ins C fs)) (.cel (some C) (cs n2).length)
def dMakeRC (C : Addr) (f : FIX) (dd : List D) (t : DA) : DXc := fun n ε P R => t n ε fun n1 ds => f (ds ++ dd) n1 (fun n2 fs => P (newC n2 (.ins C fs)) (.cel (some C) (cs n2).length)) R
section
variable {X : Cx} {k : Nat} {f C : Addr} {ps : List Str} {dvs : List V} {dd : List D} {E : XK} {x : Str} {p pos : Pos} {e : Expr} {es : List Expr} {t : DA} {fi : FI} {fx : FIX}
theorem made {K : PySem.W.Frag} {g g' : Gh} {H H' : Hp} {n : Nat} {x dx : Addr} {fvs : List (Str × V)} {fs : List (Str × D)} (st : Stp g H g' H') (hH : H x = none) (o2 : Ok true K g' H' n) (h1 : g'.G x = none) (h2 : ¬ g'.pot x) (h3 : H' x = some (.ins C dx fvs)) (h4 : Flds K g' fvs fs) :
    Stp g H (g'.addC x (some C)) H' ∧ Ok true K (g'.addC x (some C)) H' (newC n (.ins C fs)) ∧ Den K (g'.addC x (some C)) (.ref x) (.cel (some C) (cs n).length) := by
  refine ⟨Stp.addC st hH h2, o2.newC (od := .ins C fs) h1 h2 h3 ⟨dx, fvs, rfl, h4⟩, .cel ?_⟩
  have := o2.cel.len
  have e : (cs n).length = g'.cel.length := this.symm
  rw [e]
  exact Gh.addC_at
end
end Pd
namespace Pd
open PySem L2 PyProof.Rows
variable {W : WX}
section
variable {X : Cx} {k : Nat} {C : Addr} {ps : List Str} {sp : FD} {a o : Expr} {da db : DE} {pos : Pos}
def dInC (C : Addr) (sp : FD) (da db : DE) : DE := fun n ε P => da n ε fun n1 x => db n1 ε fun n2 y => (∃ i, y = .cel (some C) i) ∧ sp [y, x] n2 fun n3 r => ∃ k, r = .bl k ∧ P n3 (.bl k)
def dEqC (C : Addr) (ng : Bool) (sp : FD) (da db : DE) : DE := fun n ε P => da n ε fun n1 x => db n1 ε fun n2 y => (∃ i, x = .cel (some C) i) ∧ (∃ j, y = .cel (some C) j) ∧ sp [x, y] n2 fun n3 r => ∃ k, r = .bl k ∧ P n3 (.bl (k != ng))
end
def dLenC (C : Addr) (sp : FD) (d : DE) : DE := fun n ε P => d n ε fun n1 x => (∃ i, x = .cel (some C) i) ∧ sp [x] n1 fun n2 r => ∃ k : Nat, r = .int k ∧ k < 1073741824 ∧ P n2 (.int k)
end Pd
namespace Pd
variable {ℓ : Bool}
open PySem L2 PyProof.Rows
section
variable {X : Cx} {pos p : Pos} {keys : List (Option Expr)} {vals : List Expr} {ks : List (List Nat)} {t : DA} {v : Expr} {d : DE}
def dDicN (ks : List (List Nat)) (t : DA) : DE := fun n ε P => t n ε fun n1 vs => P n1 (.dic ks vs)
def dixAt (x y : D) (P : D → Prop) : Prop := match x, y with
  | .dic ks vs, .str k => ∃ v, (ks.zip vs).lookup k = some v ∧ P v
  | _, _ => False
def dDix (da db : DE) : DE := fun n ε P => da n ε fun n1 x => db n1 ε fun n2 y => dixAt x y (P n2)
end
end Pd
namespace Pd
open PySem PySem.Spec PyProof.Rows L2
end Pd
namespace Pd
open PySem L2 PyProof.Rows
end Pd
namespace Pd
open PySem L2 PyProof.Rows
def DGC := D → Nat → Ev → (Nat → Ev → Prop) → Prop
def DGCs := List D → Nat → Ev → (Nat → Ev → Prop) → Prop
def gsNilC : DGCs := fun ds n ε P => match ds with
  | [] => P n ε
  | _ :: _ => False
def gsConsC (g : DGC) (gs : DGCs) : DGCs := fun ds n ε P => match ds with
  | [] => False
  | d :: ds => g d n ε fun n' ε' => gs ds n' ε' P
def gTpC (m : Nat) (gs : DGCs) : DGC := fun d n ε P => match d with
  | .tup ds => ds.length = m ∧ gs ds n ε P
  | .lst ds => ds.length = m ∧ gs ds n ε P
  | _ => False
def dAsgC (d : DE) (dg : DGC) : DS := fun N n ε => d n ε fun n1 r => dg r n1 ε fun n2 ε' => N.nx n2 ε'
end Pd
namespace Pd
open PySem L2 PyProof.Rows
end Pd
namespace Pd
variable {ℓ : Bool}
open PySem L2 PyProof.Rows
def setKD : List (List Nat) → List D → List Nat → D → List D
  | a :: ks, v :: vs, k, d => (if a = k then d else v) :: setKD ks vs k d
  | _, vs, _, _ => vs
abbrev DGD := D → Nat → Ev → (Nat → Ev → Prop) → Prop
abbrev DGDs := List D → Nat → Ev → (Nat → Ev → Prop) → Prop
def liftGD (ℓ : Bool) (K : PySem.W.Frag) (dg : DGD) : TG := fun v σ H Q => ∃ s U g0 H0 g n ε d P, UOk s U ∧ Rp ℓ K (fun d p => H0 p = none ∧ U d p) g H n σ ε ∧ Stp g0 H0 g H ∧ Den K g v d ∧ dg d n ε P ∧
  ∀ σ' g' H' n' ε', P n' ε' → Rp ℓ K (fun d p => H0 p = none ∧ U d p) g' H' n' σ' ε' → Ext g g' → Stp g0 H0 g' H' → Q σ' H'
def liftGDs (ℓ : Bool) (K : PySem.W.Frag) (dg : DGDs) : TGs := fun vs σ H Q => ∃ s U g0 H0 g n ε ds P, UOk s U ∧ Rp ℓ K (fun d p => H0 p = none ∧ U d p) g H n σ ε ∧ Stp g0 H0 g H ∧ Dens K g vs ds ∧ dg ds n ε P ∧
  ∀ σ' g' H' n' ε', P n' ε' → Rp ℓ K (fun d p => H0 p = none ∧ U d p) g' H' n' σ' ε' → Ext g g' → Stp g0 H0 g' H' → Q σ' H'
section
variable {X : Cx} {pos p p2 p3 : Pos} {e tg : Expr} {es : List Expr} {d : DE} {dg : DGD} {dgs : DGDs} {i : Nat} {W : WX}
theorem gsd_nil : PGs X [] (liftGDs ℓ X.K gsNilC) :=
  pgs_w pgs_nil fun v σ H Q ⟨s, U, g0, H0, g, n, ε, d, P, uo, r, s0, dd, q, k⟩ => by
    cases dd with
    | nil => exact ⟨rfl, k _ _ _ _ _ q r (Ext.refl g) s0⟩
    | cons _ _ => exact q.elim
theorem gsd_cons (h1 : PG X e (liftGD ℓ X.K dg)) (h2 : PGs X es (liftGDs ℓ X.K dgs)) (hs : (assignEach (e :: es) X.env).map (·.2) = assign e X.env :: (assignEach es X.env).map (·.2) := by rfl) : PGs X (e :: es) (liftGDs ℓ X.K (gsConsC dg dgs)) :=
  pgs_w (pgs_cons h1 h2 hs) fun v σ H Q ⟨s, U, g0, H0, g, n, ε, d, P, uo, r, s0, dd, q, k⟩ => by
    cases dd with
    | nil => exact q.elim
    | cons d1 dt => exact ⟨_, _, rfl, s, U, g0, H0, g, n, ε, _, _, uo, r, s0, d1, q, fun σ1 g1 H1 n1 ε1 q1 r1 x1 s1 => ⟨s, U, g0, H0, g1, n1, ε1, _, P, uo, r1, s1, dt.mono x1, q1, fun σ2 g2 H2 n2 ε2 q2 r2 x2 s2 => k σ2 g2 H2 n2 ε2 q2 r2 (x1.trans x2) s2⟩⟩
theorem dgd_tup {k n : Nat} (hc : X.calm = true) (h : PGs X es (liftGDs ℓ X.K dgs)) (hn : (assignEach es X.env).length = n := by rfl) (hst : (assignEach es X.env).findIdx? (·.1) = none := by rfl) : PG X (.Tuple es k pos) (liftGD ℓ X.K (gTpC n dgs)) :=
  pg_w (pg_or (pg_tup hc h hn hst) (pg_unl hc h hn hst)) fun v σ H Q ⟨s, U, g0, H0, g, m, ε, d, P, uo, r, s0, dd, q, k⟩ => by
    cases dd with
    | tup h1 h2 => exact .inl ⟨_, _, rfl, Or.inl (h1.same r.ok.sub), h2.length.trans q.1, s, U, g0, H0, g, m, ε, _, P, uo, r, s0, h2, q.2, k⟩
    | lst h1 h2 => exact .inr ⟨_, _, rfl, SqL.of (r.ok.sub _ _ h1), h2.length.trans q.1, s, U, g0, H0, g, m, ε, _, P, uo, r, s0, h2, q.2, k⟩
    | _ => exact q.elim
theorem ds_asgD (he : PE X e (liftE ℓ X.K d)) (hg : PG X tg (liftGD ℓ X.K dg)) (hs : swapsWithSole [tg] e pos.line X.env = pure false := by rfl) (hw : swappedStores [tg] e X.env = pure none := by rfl)
    (h1 : (assignEach [tg] X.env).map (·.2) = [assign tg X.env] := by rfl) : PS X (.Assign [tg] e pos) (liftS ℓ W X.K (dAsgC d dg)) :=
  ps_w (ps_asg he hg hs hw h1) fun E σ H ⟨U, g0, H0, g, n, ε, N, uo, r, s0, q, k1, k2, k3, k4⟩ => ⟨_, g, n, ε, _, r, q, fun v g1 H1 n1 x q1 s1 o1 e1 =>
    ⟨_, U, g0, H0, g1, n1, ε, x, _, uo, r.step s1 o1, s0.trans s1, e1, q1, fun σ' g2 H2 n2 ε' q2 r2 x2 s2 => k1 σ' g2 H2 n2 ε' q2 r2 s2⟩⟩
end
end Pd
namespace Pd
variable {ℓ : Bool}
open PySem L2 PyProof.Rows
section
variable {X : Cx} {a e o : Expr} {es : List Expr} {op : Operator} {r : R2} {go : G2} {ta te to : TE} {tas : TA} {y z : Str} {j j2 : Nat} {c c0 c1 apos pos : Pos} {d da : DE} {t : DA}
theorem PAT.of (h : PA X es tas) : PAT X es tas := fun pos pins s σ H Q _ I q => h.run pos pins s σ H Q I q
theorem PET.of (h : PE X e te) : PET X e te := fun pins s σ H Q _ I q => h.run pins s σ H Q I q
end
end Pd
namespace Pd
open PySem L2 PyProof.Rows
end Pd
namespace Pd
variable {ℓ : Bool}
open PySem L2 PyProof.Rows
abbrev nK (ns : List Nat) : List D := ns.map fun (k : Nat) => D.int ((k : Nat) : Int)
theorem dens_nK {K : PySem.W.Frag} {g : Gh} : ∀ {ns : List Nat} {vs : List V}, Dens K g vs (nK ns) → vs = (tupKey ns).map kV
  | [], vs, h => by
    cases h
    rfl
  | k :: ns, vs, h => by
    cases h with
    | cons h1 h2 =>
      cases h1
      rw [dens_nK h2]
      rfl
theorem nK_dens {K : PySem.W.Frag} {g : Gh} : ∀ (ns : List Nat), Dens K g ((tupKey ns).map kV) (nK ns)
  | [] => .nil
  | k :: ns => .cons (.int _) (nK_dens ns)
theorem tupKey_inj {a b : List Nat} (h : tupKey a = tupKey b) : a = b := by
  induction a generalizing b with
  | nil =>
    cases b with
    | nil => rfl
    | cons y b => cases h
  | cons x a ih =>
    cases b with
    | nil => cases h
    | cons y b =>
      have h' : (Sum.inl ((x : Nat) : Int) : Key) :: tupKey a = Sum.inl ((y : Nat) : Int) :: tupKey b := h
      injection h' with h1 h2
      injection h1 with h3
      rw [ih h2, Int.ofNat_inj.mp h3]
theorem valV_tvs {K : PySem.W.Frag} {g : Gh} {k : List Nat} : ∀ {ks : List (List Nat)} {kvs : List (List Key × V)} {ds : List D}, kvs.map (·.1) = ks.map tupKey → Dens K g (kvs.map (·.2)) ds →
    (∃ d v, (ks.zip ds).lookup k = some d ∧ valV kvs (tupKey k) = some v ∧ Den K g v d) ∨ ((ks.zip ds).lookup k = none ∧ valV kvs (tupKey k) = none)
  | [], [], ds, _, _ => .inr ⟨by simp, rfl⟩
  | [], _ :: _, ds, e, _ => by simp at e
  | a :: ks, [], ds, e, _ => by simp at e
  | a :: ks, (b, v) :: kvs, ds, e, dd => by
    cases dd with
    | cons d1 d2 =>
      rename_i d ds
      rw [List.map_cons, List.map_cons] at e
      injection e with e1 e2
      by_cases z : k = a
      · subst z
        exact .inl ⟨d, v, by rw [List.zip_cons_cons, List.lookup_cons, beq_self_eq_true], valV_pos e1, d1⟩
      · have w : ¬ (b, v).1 = tupKey k := fun w => z (tupKey_inj (w.symm.trans e1))
        have z2 : (k == a) = false := beq_eq_false_iff_ne.mpr z
        rw [List.zip_cons_cons, List.lookup_cons, z2, valV_neg w]
        exact valV_tvs e2 d2
def putKs (ks : List (List Nat)) (k : List Nat) : List (List Nat) := if k ∈ ks then ks else ks ++ [k]
def putVs (ks : List (List Nat)) (vs : List D) (k : List Nat) (d : D) : List D := if k ∈ ks then setKD ks vs k d else vs ++ [d]
theorem setKT_den {K : PySem.W.Frag} {g : Gh} {k : List Nat} {y : V} {d : D} (hd : Den K g y d) : ∀ {ks : List (List Nat)} {kvs : List (List Key × V)} {vs : List D}, kvs.map (·.1) = ks.map tupKey → Dens K g (kvs.map (·.2)) vs →
    (kvs.map fun kv => if kv.1 = tupKey k then (kv.1, y) else kv).map (·.1) = ks.map tupKey ∧ Dens K g ((kvs.map fun kv => if kv.1 = tupKey k then (kv.1, y) else kv).map (·.2)) (setKD ks vs k d)
  | [], [], vs, _, h => by
    cases h
    exact ⟨rfl, .nil⟩
  | [], _ :: _, _, h, _ => by simp at h
  | a :: ks, [], _, h, _ => by simp at h
  | a :: ks, (b, v) :: kvs, vs, h, q => by
    cases q with
    | cons q1 q2 =>
      rw [List.map_cons, List.map_cons] at h
      injection h with h1 h2
      obtain ⟨w1, w2⟩ := setKT_den hd h2 q2
      have hb : b = tupKey a := h1
      by_cases z : a = k
      · have zb : b = tupKey k := by rw [hb, z]
        rw [List.map_cons, if_pos zb, List.map_cons, List.map_cons, List.map_cons, w1]
        refine ⟨by rw [hb], ?_⟩
        rw [setKD, if_pos z]
        exact .cons hd w2
      · have zb : ¬ b = tupKey k := fun e => z (tupKey_inj (hb.symm.trans e))
        rw [List.map_cons, if_neg zb, List.map_cons, List.map_cons, List.map_cons, w1]
        refine ⟨by rw [hb], ?_⟩
        rw [setKD, if_neg z]
        exact .cons q1 w2
theorem putT_den {K : PySem.W.Frag} {g : Gh} {k : List Nat} {y : V} {d : D} (hd : Den K g y d) {ks : List (List Nat)} {kvs : List (List Key × V)} {vs : List D} (h : kvs.map (·.1) = ks.map tupKey) (q : Dens K g (kvs.map (·.2)) vs) :
    (putK kvs (tupKey k) y).map (·.1) = (putKs ks k).map tupKey ∧ Dens K g ((putK kvs (tupKey k) y).map (·.2)) (putVs ks vs k d) := by
  unfold putK putKs putVs
  by_cases hk : k ∈ ks
  · have : (kvs.any fun kv => decide (kv.1 = tupKey k)) = true := by
      have : tupKey k ∈ kvs.map (·.1) := by
        rw [h]
        exact List.mem_map.mpr ⟨k, hk, rfl⟩
      obtain ⟨p, hp, e⟩ := List.mem_map.mp this
      exact List.any_eq_true.mpr ⟨p, hp, decide_eq_true e⟩
    rw [if_pos this, if_pos hk, if_pos hk]
    exact setKT_den hd h q
  · have : ¬ (kvs.any fun kv => decide (kv.1 = tupKey k)) = true := fun w => by
      obtain ⟨p, hp, e⟩ := List.any_eq_true.mp w
      have : tupKey k ∈ ks.map tupKey := by
        rw [← h, ← of_decide_eq_true e]
        exact List.mem_map.mpr ⟨p, hp, rfl⟩
      obtain ⟨k', h1, h2⟩ := List.mem_map.mp this
      exact hk (by rw [← tupKey_inj h2]; exact h1)
    rw [if_neg this, if_neg hk, if_neg hk, List.map_append, List.map_append, List.map_append, h]
    exact ⟨rfl, q.append (.cons hd .nil)⟩
theorem keysT_len {kvs : List (List Key × V)} {ks : List (List Nat)} (h : kvs.map (·.1) = ks.map tupKey) : kvs.length = ks.length := by
  have := congrArg List.length h
  rw [List.length_map, List.length_map] at this
  exact this
def liftK (K : PySem.W.Frag) (d : DE) : TE := fun σ H Q => ∃ O g n ε P, Rp true K O g H n σ ε ∧ d n ε P ∧ ∀ l g' H' n' (ns : List Nat), P n' (.lst (nK ns)) → Stp g H g' H' → Ok true K g' H' n' → g'.G l = some (.tup ((tupKey ns).map kV)) → Q (.ref l) H'
def dKs (d : DE) : DE := fun n ε P => d n ε fun n1 x => ∃ ns : List Nat, x = .lst (nK ns) ∧ P n1 x
def dNewT : DE := fun n ε P => P (newC n (.dct [] [])) (.cel none (cs n).length)
def dGetT (da d : DE) : DE := fun n ε P => da n ε fun n1 x => ∃ c, x = .cel none c ∧ (∃ ks vs, (cs n1)[c]? = some (.dct ks vs)) ∧ d n1 ε fun n2 y => ∃ ns : List Nat, y = .lst (nK ns) ∧ ∃ ks vs, (cs n2)[c]? = some (.dct ks vs) ∧ P n2 (((ks.zip vs).lookup ns).getD (.lst []))
def dKeyed (i j : Nat) (d dm : DE) (t : DS) : DS := fun N n ε => d n ε fun n1 y => ∃ (ns : List Nat) (c : Nat), y = .lst (nK ns) ∧ i < ε.length ∧ (ε.set i (.val (.tup (nK ns))))[j]? = some (.val (.cel none c)) ∧ ∃ ks vs old, (cs n1)[c]? = some (.dct ks vs) ∧
  ((ks.zip vs).lookup ns).getD (.lst []) = .lst old ∧ dm n1 (ε.set i (.val (.tup (nK ns)))) fun n2 m => ∃ more ks' vs', m = .lst more ∧ old.length + more.length ≤ 16777216 ∧ (cs n2)[c]? = some (.dct ks' vs') ∧ ks'.length ≤ 1000000 ∧
    t N (setC n2 c (.dct (putKs ks' ns) (putVs ks' vs' ns (.lst (old ++ more))))) (ε.set i (.val (.tup (nK ns))))
section
variable {X : Cx} {pos pos' p p2 p3 p4 p5 p6 p7 p8 p9 q1 q2 apos cpos : Pos} {a e w : Expr} {d da dm : DE} {W : WX} {i j u : Nat} {x y : Str} {rest : List Stmt} {t : DS}
theorem ek_tuple (hc : X.calm = true) (hg : Gl X "tuple") (hm : X.mg "tuple" = none) (ha : PE X a (liftE true X.K d)) (hb : bootBuiltins "tuple" = some (.type "tuple") := by decide +kernel)
    (na : starEach [a] X.env = (false, eval a X.env) :: starEach [] X.env := by rfl) : PE X (.Call (.Name "tuple" p) [a] [] pos) (liftK X.K (dKs d)) :=
  pe_w (pe_callTy (call_tupA hc) hg hm hb (pa_cons ha pa_nil na) (by decide) (by decide) na) fun σ H Q ⟨O, g, n, ε, P, r, q, k⟩ => ⟨O, g, n, ε, _, r, q, fun v g1 H1 n1 x q1 s1 o1 e1 => by
    obtain ⟨ns, rfl, q1⟩ := q1
    cases e1 with
    | lst h1 h2 =>
      have e := dens_nK h2
      subst e
      exact .inl ⟨_, _, rfl, .inl ⟨SqL.of (o1.sub _ _ h1), fun l hl => k l _ _ n1 ns q1 (s1.trans (Stp.add o1 hl)) (o1.add hl) Gh.at⟩⟩⟩
theorem de_newT : PE X (.Dict [] [] pos) (liftE true X.K dNewT) :=
  de_of pe_dnewT fun O g H n σ ε P Q r q k => fun p hp => by
    obtain ⟨z1, z2, z3, z4⟩ := new_own r.ok hp (.dT [])
    have w1 : Stp g H (g.addC p none) (upd H p (.dT [])) := Stp.addC z1 hp z4
    refine k _ _ _ _ _ q w1 (z2.newC (od := .dct [] []) z3 z4 upd_same ⟨[], rfl, rfl, .nil⟩) (.cel ?_)
    have := z2.cel.len
    have e : (cs n).length = g.cel.length := this.symm
    rw [e]
    exact Gh.addC_at
theorem getT_den {K : PySem.W.Frag} {g : Gh} {kvs : List (List Key × V)} {ks : List (List Nat)} {vs : List D} {ns : List Nat} {l : Addr} (h1 : kvs.map (·.1) = ks.map tupKey) (h2 : Dens K g (kvs.map (·.2)) vs) (h3 : g.G l = some (.lst [])) :
    Den K g ((valV kvs (tupKey ns)).getD (.ref l)) (((ks.zip vs).lookup ns).getD (.lst [])) := by
  rcases valV_tvs (k := ns) h1 h2 with ⟨d, v, e1, e2, e3⟩ | ⟨e1, e2⟩
  · rw [e1, e2]
    exact e3
  · rw [e1, e2]
    exact .lst h3 .nil
theorem de_getT {z : Nat} (hr : Room z X.A) (ha : PE X a (liftE true X.K da)) (he : PE X e (liftK X.K d)) (m : M2 X a "get" apos e (.List [] p4) cpos := by exact ⟨rfl, rfl, rfl, rfl⟩) :
    PE X (.Call (.Attribute a "get" apos) [e, .List [] p4] [] cpos) (liftE true X.K (dGetT da d)) :=
  de_of (pe_dget2 (by have := hr.un; omega) ha he (pe_lst pa_nil) m) fun O g H n σ ε P Q r q kq => ⟨O, g, n, ε, _, r, q, fun v1 g1 H1 n1 x1 q1 s1 o1 e1 => by
    obtain ⟨c, rfl, ⟨ks, vs, hc⟩, q2⟩ := q1
    obtain ⟨a, kvs, rfl, w1, w2, w3, w4, w5⟩ := o1.cellT e1 hc
    refine ⟨a, rfl, .inr ⟨kvs, .inl w3⟩, O, g1, n1, ε, _, r.step s1 o1, q2, fun l g2 H2 n2 ns q3 s2 o2 e2 => ?_⟩
    obtain ⟨ns', en, ks2, vs2, hc2, q3⟩ := q3
    have en' : ns = ns' := by
      injection en with en
      have := congrArg (List.map fun d => match d with | D.int i => i.toNat | _ => 0) en
      simpa [nK, List.map_map, Function.comp_def] using this
    subst en'
    refine ⟨Nat.zero_le _, fun b hb => ?_⟩
    have s3 := Stp.add o2 (o := .lst []) hb
    have o3 := o2.add (o := .lst []) hb
    obtain ⟨a2, kvs2, ea, y1, y2, y3, y4, y5⟩ := o3.cellT ((e1.mono s2.ext).mono s3.ext) hc2
    cases ea
    refine ⟨valV kvs2 (tupKey ns), DGet.t y3 (o3.sub _ _ (s3.ext.G _ _ e2)), kq _ _ _ n2 _ q3 ((s1.trans s2).trans s3) o3 (getT_den y4 y5 Gh.at)⟩⟩
theorem dss_keyed (i j : Nat) {z : Nat} (hr : Room z X.A) (hN : X.N.Nodup) (hi : X.N[i]? = some x) (hx : Loc X.env.scope x) (hj : X.N[j]? = some y := by rfl)
    (he : PE X e (liftK X.K d)) (hw : PE X w (liftE true X.K dm)) (h3 : PSs X rest (liftS true W X.K t))
    (hv : Vis X.env.scope x := by first | exact Or.inl rfl | exact Or.inr (Or.inl rfl) | exact Or.inr (Or.inr rfl)) (hd : (x == ("__debug__" : Str)) = false := by decide) (hcd : (x == ("__classdict__" : Str)) = false := by decide)
    (hv2 : Vis X.env.scope y := by first | exact Or.inl rfl | exact Or.inr (Or.inl rfl) | exact Or.inr (Or.inr rfl)) (hd2 : (y == ("__debug__" : Str)) = false := by decide) (hcd2 : (y == ("__classdict__" : Str)) = false := by decide)
    (hs : swapsWith e (some (.Name x pos')) pos.line X.env = pure false := by rfl) (hf : X.fn x = true ∨ X.env.scope.names.lookup x = some .local := by first | exact .inl rfl | exact .inr rfl | assumption)
    (m : M2 X (.Name y p3) "get" apos (.Name x p4) (.List [] p5) cpos := by exact ⟨rfl, rfl, rfl, rfl⟩)
    (hs2 : swapsWith (.BinOp (.Call (.Attribute (.Name y p3) "get" apos) [.Name x p4, .List [] p5] [] cpos) .Add w p6) (some (.Subscript (.Name y p7) (.Name x p8) p9)) q1.line X.env = pure false := by rfl) :
    PSs X (.Assign [.Name x pos'] e pos :: .Assign [.Subscript (.Name y p7) (.Name x p8) p9] (.BinOp (.Call (.Attribute (.Name y p3) "get" apos) [.Name x p4, .List [] p5] [] cpos) .Add w p6) q1 :: rest) (liftS true W X.K (dKeyed i j d dm t)) :=
  pss_w (pss_cons (ps_set hN hi hx he hs hf) (pss_cons (ps_dput (by have := hr.un; omega) (pe_var hj hv2 hd2 hcd2) (pe_var hi hv hd hcd) (pe_op op_addA (pe_dget2 (by have := hr.un; omega) (pe_var hj hv2 hd2 hcd2) (pe_var hi hv hd hcd) (pe_lst pa_nil) m) hw) hs2) h3))
    fun E σ H ⟨U, g0, H0, g, n, ε, N, uo, r, s0, q, k1, k2, k3, k4⟩ => ⟨_, g, n, ε, _, r, q, fun l g1 H1 n1 ns q1 s1 o1 e1 => by
    obtain ⟨ns', c, en, hie, hj1, ks, vs, old, hc, ho, q2⟩ := q1
    have en' : ns = ns' := by
      injection en with en
      have := congrArg (List.map fun d => match d with | D.int i => i.toNat | _ => 0) en
      simpa [nK, List.map_map, Function.comp_def] using this
    subst en'
    have hil : i < σ.length := by
      rw [r.len]
      exact hie
    have dn : ∀ {g' : Gh}, Ext g1 g' → Den X.K g' (.ref l) (.tup (nK ns)) := fun {g'} ex => .tup (.inl (ex.G _ _ e1)) (nK_dens ns)
    have r1 := (r.step s1 o1).set (i := i) (dn (Ext.refl g1))
    obtain ⟨vj, ej, dj⟩ := r1.sl j _ hj1
    have ei : (σ.set i (some (.ref l)))[i]? = some (some (.ref l)) := List.getElem?_set_self hil
    obtain ⟨a, kvs, rfl, w1, w2, w3, w4, w5⟩ := o1.cellT dj hc
    refine ⟨.ref a, ej, a, rfl, .inr ⟨kvs, .inl w3⟩, .ref l, ei, Nat.zero_le _, fun b hb => ?_⟩
    have s2 := Stp.add o1 (o := .lst []) hb
    have o2 := o1.add (o := .lst []) hb
    obtain ⟨a2, kvs2, ea, y1, y2, y3, y4, y5⟩ := o2.cellT (dj.mono s2.ext) hc
    cases ea
    have ey := getT_den (ns := ns) y4 y5 (l := b) Gh.at
    rw [ho] at ey
    refine ⟨valV kvs2 (tupKey ns), DGet.t y3 (o2.sub _ _ (s2.ext.G _ _ e1)), _, _, n1, _, _, r1.step s2 o2, q2, fun v3 g3 H3 n3 m3 q3 s3 o3 em => ?_⟩
    obtain ⟨more, ks', vs', rfl, hl, hc', hk, q4⟩ := q3
    refine so_add.ok o3 (ey.mono s3.ext) em (P := fun r => r = .lst (old ++ more)) ⟨hl, rfl⟩ fun v4 g4 H4 r4 e4 s4 o4 ev4 => ?_
    subst e4
    have x14 := (s2.ext.trans s3.ext).trans s4.ext
    obtain ⟨a3, kvs3, ea, z1, z2, z3, z4, z5⟩ := o4.cellT (dj.mono x14) hc'
    cases ea
    obtain ⟨t1, t2⟩ := putT_den (k := ns) ev4 z4 z5
    obtain ⟨c1, c2⟩ := o4.setC (od := .dct (putKs ks' ns) (putVs ks' vs' ns (.lst (old ++ more)))) (o := .dT (putK kvs3 (tupKey ns) v4)) z1 rfl ⟨_, rfl, t1, t2⟩
    have st := ((s2.trans s3).trans s4).trans c2
    refine ⟨.ref a, ej, .ref l, ei, a, _, rfl, DPut.t (k := tupKey ns) z3 (o4.sub _ _ (x14.G _ _ e1)) (by rw [keysT_len z4, sizeLine_eq]; omega), ?_⟩
    exact ⟨U, g0, H0, g4, _, _, N, uo, r1.step st c1, (s0.trans s1).trans st, q4, k1, k2, k3, k4⟩⟩
end
def gPutL (i : Nat) (dk : DE) : DGC := fun v n ε P => match ε[i]? with
  | some (.own (.lst ds)) => dk n ε fun n1 y => ∃ k j, y = .int k ∧ ixN ds.length k = some j ∧ P n1 (ε.set i (.own (.lst (ds.set j v))))
  | _ => False
section
variable {X : Cx} {pos p p2 p3 : Pos} {ix : Expr} {dk : DE} {i : Nat}
theorem dgd_putL (i : Nat) {x : Str} (hk : PE X ix (liftE ℓ X.K dk)) (hN : X.N[i]? = some x := by rfl) (hv : Vis X.env.scope x := by first | exact Or.inl rfl | exact Or.inr (Or.inl rfl) | exact Or.inr (Or.inr rfl)) (hd : (x == ("__debug__" : Str)) = false := by decide)
    (hcd : (x == ("__classdict__" : Str)) = false := by decide)
    (ha : ∀ v, assign (.Subscript (.Name x p) ix pos) X.env v = (do
      let ov ← holding [v] (eval (.Name x p) X.env)
      let iv ← holding [v, ov] (eval ix X.env)
      standAt pos
      holding [v, ov, iv] (setItem ov iv v)
      release [v, ov, iv] []) := by intro _; rfl) : PG X (.Subscript (.Name x p) ix pos) (liftGD ℓ X.K (gPutL i dk)) :=
  pg_w (pg_sub (pe_var hN hv hd hcd) hk set_list ha) fun v σ H Q ⟨s, U, g0, H0, g, n, ε, d, P, uo, r, s0, dd, q, k⟩ => by
    unfold gPutL at q
    split at q
    · rename_i ds e
      obtain ⟨p, o, e1, ho, h1, h2, h3, vs, rfl, h6⟩ := r.sl i _ e
      refine ⟨_, e1, _, g, n, ε, _, r, q, fun y g1 H1 n1 z q1 s1 o1 ey => ?_⟩
      obtain ⟨kk, j, rfl, hj, q2⟩ := q1
      cases ey
      have r1 := r.step s1 o1
      obtain ⟨p', o', e1', ho', h1', h2', h3', vs', rfl, h6'⟩ := r1.sl i _ e
      rw [e1] at e1'
      cases e1'
      refine ⟨p, vs', kk, j, rfl, rfl, h3', by rw [h6'.length]; exact hj, ?_⟩
      exact k σ g1 _ n1 _ q2 (r1.mut e e1 (d' := .lst (ds.set j d)) ⟨_, rfl, h6'.set (dd.mono s1.ext) j⟩ fun z => ⟨z.1, uo.lst _ _⟩) s1.ext ((s0.trans s1).mut ho.1)
    · exact q.elim
end
end Pd
namespace LW
open PySem L2 Pd
def b__law_cells (c : Str → Addr)  : DS := (dRet (dLRg (r1 (dBi gMax (dCons (dC (.int 1)) (dCons (dBi gMin (dCons (dVar 1) (dCons (dBi gLen (dCons (dVar 0) dNil)) dNil))) dNil))))))
def b__law_pot (c : Str → Addr)  : DS := (dSeq (dSet 2 (dIte (dTB (dOp gLt (dVar 1) (dBi gLen (dCons (dVar 0) dNil)))) (dOp gIx (dVar 0) (dVar 1)) (dOp gAdd (dOp gMul (dC (.int 281)) (dVar 1)) (dC (.int 127)))))
    (dSeq (dSet 3 (dOp gMul (dOp gMod (dBi gInt (dCons (dBi gAbs (dCons (dVar 2) dNil)) dNil)) (dOp gPow (dOp gPow (dC (.int 10)) (dC (.int 60))) (dC (.int 5)))) (dBi gInt (dCons (dOp gGe (dBi gAbs (dCons (dVar 2) dNil)) (dOp gPow (dC (.int 10)) (dC (.int 18)))) dNil))))
    (dSeq (dSet 4 (dOp gMod (dBi gInt (dCons (dVar 2) dNil)) (dC (.int 2305843009213693951))))
    (dRetPot (dLstO (dCons (dVar 3) (dCons (dOp gMod (dBi gInt (dCons (dOp gAdd (dOp gAdd (dOp gMul (dVar 4) (dC (.int 74521))) (dOp gMul (dOp gMul (dC (.int 7823)) (dVar 1)) (dVar 1))) (dC (.int 199))) dNil)) (dC (.int 2305843009213693921))) (dCons (dC (.int 0)) dNil))))))))
def b__law_of (c : Str → Addr) (s__law_take : FD) : DS := (dRet (dOp gIx (dVar 1) (dCall s__law_take [] (dCons (dVar 0) (dCons (dBi gLen (dCons (dVar 1) dNil)) dNil)))))
def b__law_random (c : Str → Addr) (s__law_of : FD) : DS := (dRet (dJoin (dC (.str [])) (dO (dComp (iRg1 (dVar 2)) (gNm 3) dYes (dCall s__law_of [] (dCons (dVar 0) (dCons (dVar 1) dNil))) [3]))))
def b__law_any_letters (c : Str → Addr) (s__law_take : FD) (s__law_of : FD) (s__law_random : FD) : DS := (dSeq (dMul [3, 4] (bCons (dOp gAdd (dVar 1) (dCall s__law_take [] (dCons (dVar 0) (dCons (dOp gAdd (dOp gSub (dVar 2) (dVar 1)) (dC (.int 1))) dNil)))) (bCons (dCall s__law_take [] (dCons (dVar 0) (dCons (dC (.int 6)) dNil))) bNil)))
    (dSeq (dSet 5 (dCall s__law_of [] (dCons (dVar 0) (dCons (dLst (dCons (dC (.str [97, 98])) (dCons (dC (.str [97, 98])) (dCons (dC (.str [97, 98, 99])) (dCons (dC (.str [97])) (dCons (dC (.str [120, 121, 122])) (dCons (dC (.str [113, 97, 98])) (dCons (dC (.str [97, 98, 99, 120, 121])) (dCons (dC (.str [97, 98, 99, 113, 120, 121, 122])) dNil))))))))) dNil))))
    (dSeq (dIf (dTB (dOp gLt (dVar 4) (dC (.int 2)))) (dRet (dCall s__law_random [] (dCons (dVar 0) (dCons (dVar 5) (dCons (dVar 3) dNil))))) dNx)
    (dSeq (dSet 6 (dCall s__law_random [] (dCons (dVar 0) (dCons (dVar 5) (dCons (dOp gAdd (dC (.int 1)) (dCall s__law_take [] (dCons (dVar 0) (dCons (dBi gMax (dCons (dC (.int 1)) (dCons (dOp gSub (dVar 3) (dC (.int 1))) dNil))) dNil)))) dNil)))))
    (dSeq (dIf (dTB (dOp gLt (dVar 4) (dC (.int 4)))) (dSeq (dSet 7 (dOp gAdd (dCall s__law_random [] (dCons (dVar 0) (dCons (dVar 5) (dCons (dCall s__law_take [] (dCons (dVar 0) (dCons (dC (.int 3)) dNil))) dNil)))) (dOp gMul (dVar 6) (dVar 3))))
    (dRet (dSl (dVar 7) pNo (pSome (dVar 3))))) dNx)
    (dSeq (dIf (dTB (dOp gEq (dVar 4) (dC (.int 4)))) (dRet (dSl (dOp gAdd (dVar 6) (dOp gMul (dRev (dVar 6)) (dVar 3))) pNo (pSome (dVar 3)))) dNx)
    (dSeq (dMul [8, 9] (bCons (dOp gIx (dVar 5) (dC (.int 0))) (bCons (dSl (dVar 5) pNo (pSome (dC (.int 2)))) bNil)))
    (dSeq (dFor (iRg1 (dVar 3)) (gNm 10) (dSeq (dMul [8, 9] (bCons (dVar 9) (bCons (dOp gAdd (dVar 9) (dVar 8)) bNil)))
    (dIf (dTB (dOp gGt (dBi gLen (dCons (dVar 9) dNil)) (dVar 3))) dBrk dNx)))
    (dRet (dSl (dOp gAdd (dVar 9) (dOp gMul (dVar 8) (dVar 3))) pNo (pSome (dVar 3))))))))))))
def b__law_blocks (c : Str → Addr)  : DS := (dSeq (dSetO 1 (dLstO dNil))
    (dSeq (dFor (iVal (dVar 0)) (gNm 2) (dIf (dAnd (dTmpT 1 (dTB (dOp gNe (dVar 1) (dLst dNil)))) (dTB (dOp gEq (dOp gIx (dIxO 1 (dNeg (dC (.int 1)))) (dC (.int 0))) (dVar 2)))) (dSetI 1 (dNeg (dC (.int 1))) (dTup (dCons (dVar 2) (dCons (dOp gAdd (dOp gIx (dIxO 1 (dNeg (dC (.int 1)))) (dC (.int 1))) (dC (.int 1))) dNil)))) (dApp 1 (dTup (dCons (dVar 2) (dCons (dC (.int 1)) dNil))))))
    (dFrz [1] (dRet (dVar 1)))))
def b__law_letters (c : Str → Addr) (s__law_any_letters : FD) (s__law_blocks : FD) : DS := (dSeq (dSet 3 (dCall s__law_blocks [] (dCons (dCall s__law_any_letters [] (dCons (dVar 0) (dCons (dVar 1) (dCons (dVar 2) dNil)))) dNil)))
    (dRet (dJoin (dC (.str [])) (dO (dComp (iVal (dSl (dVar 3) pNo (pSome (dC (.int 40))))) (gTp 2 (gsCons (gNm 4) (gsCons (gNm 5) gsNil))) dYes (dOp gMul (dVar 4) (dVar 5)) [4, 5])))))
end LW
namespace LW
open PySem L2 Pd
section
variable {P : D → Prop} {C : Int → Int → Prop} {f : Int → Int → D} {i j : Int} {a b : List Nat} {xs ys : List D} {ns : List Int} {d : D} {lo hi : Option Int}
theorem ev_gI : gI C f (.int i) (.int j) P = (C i j ∧ P (f i j)) := rfl
theorem ev_addi : gAdd (.int i) (.int j) P = P (.int (i + j)) := rfl
theorem ev_adds : gAdd (.str a) (.str b) P = (a.length + b.length ≤ 16777216 ∧ P (.str (a ++ b))) := rfl
theorem ev_addl : gAdd (.lst xs) (.lst ys) P = (xs.length + ys.length ≤ 16777216 ∧ P (.lst (xs ++ ys))) := rfl
theorem ev_addt : gAdd (.tup xs) (.tup ys) P = (xs.length + ys.length ≤ 16777216 ∧ P (.tup (xs ++ ys))) := rfl
theorem ev_muli : gMul (.int i) (.int j) P = (CMulW i j ∧ P (.int (i * j))) := rfl
theorem ev_muls : gMul (.str a) (.int j) P = (-1000000 ≤ j ∧ j ≤ 1000000 ∧ a.length * j.toNat ≤ 16777216 ∧ P (.str (List.replicate j.toNat a).flatten)) := rfl
theorem ev_mull : gMul (.lst xs) (.int j) P = (-1000000 ≤ j ∧ j ≤ 1000000 ∧ xs.length * j.toNat ≤ 16777216 ∧ P (.lst (List.replicate j.toNat xs).flatten)) := rfl
theorem ev_oki : okEq (.int i) (.int j) = true := rfl
theorem ev_oks : okEq (.str a) (.str b) = true := rfl
theorem ev_okl : okEq (.lst xs) d = (okD (.lst xs) && okD d) := rfl
theorem ev_okt : okEq (.tup xs) d = (okD (.tup xs) && okD d) := rfl
theorem ev_ixl : gIx (.lst xs) (.int i) P = ∃ d, L2.atI xs i = some d ∧ P d := rfl
theorem ev_ixt : gIx (.tup xs) (.int i) P = ∃ d, L2.atI xs i = some d ∧ P d := rfl
theorem ev_ixs : gIx (.str a) (.int i) P = (a.length ≤ 16777216 ∧ ∃ c, L2.atI a i = some c ∧ P (.str [c])) := rfl
theorem ev_ixr : gIx (.scr ns) (.int i) P = ∃ k, L2.atI ns i = some k ∧ P (.int k) := rfl
theorem ev_lenl : gLen [.lst xs] P = P (.int xs.length) := rfl
theorem ev_lent : gLen [.tup xs] P = P (.int xs.length) := rfl
theorem ev_lens : gLen [.str a] P = (a.length ≤ 16777216 ∧ P (.int a.length)) := rfl
theorem ev_lenr : gLen [.scr ns] P = P (.int ns.length) := rfl
theorem ev_sll : gSl (.lst xs) lo hi P = P (.lst (cut xs lo hi)) := rfl
theorem ev_slt : gSl (.tup xs) lo hi P = P (.tup (cut xs lo hi)) := rfl
theorem ev_sls : gSl (.str a) lo hi P = (a.length ≤ 16777216 ∧ P (.str (cut a lo hi))) := rfl
theorem ev_inttoi : gInt [.int i] P = P (.int i) := rfl
theorem ev_inttob {x : Bool} : gInt [.bl x] P = P (.int (if x then 1 else 0)) := rfl
theorem ev_inttos : gInt [.str a] P = (a.length ≤ 640 ∧ ∃ n, PySem.intText? ⟨a.toArray⟩ = some n ∧ P (.int n)) := rfl
theorem ev_strtoi : gStr [.int i] P = (i.natAbs.log2 < 1920 ∧ P (.str (numD i))) := rfl
theorem ev_tupl : gTuple [.lst xs] P = P (.tup xs) := rfl
theorem ev_tupt : gTuple [.tup xs] P = P (.tup xs) := rfl
theorem ev_listl : gList [.lst xs] P = P (.lst xs) := rfl
theorem ev_listt : gList [.tup xs] P = P (.lst xs) := rfl
theorem ev_lists : gList [.str a] P = (a.length ≤ 16777216 ∧ P (.lst (sgn a))) := rfl
theorem ev_max : gMax [.int i, .int j] P = P (.int (if j > i then j else i)) := rfl
theorem ev_min : gMin [.int i, .int j] P = P (.int (if j < i then j else i)) := rfl
theorem ev_abs : gAbs [.int i] P = P (.int (if i < 0 then -i else i)) := rfl
theorem ev_all : gAll [.lst xs] P = ∃ ns, isBls xs = some ns ∧ P (.bl (ns.all id)) := rfl
theorem ev_any : gAny [.lst xs] P = ∃ ns, isBls xs = some ns ∧ P (.bl (ns.any id)) := rfl
theorem ev_srcl : srcD (.lst xs) = some xs := rfl
theorem ev_srct : srcD (.tup xs) = some xs := rfl
theorem ev_srcs : srcD (.str a) = some (sgn a) := rfl
theorem ev_at0 {α : Type} (x : α) (l : List α) : L2.atI (x :: l) 0 = some x := L2.atI_nat (j := 0) rfl
theorem ev_at1 {α : Type} (x y : α) (l : List α) : L2.atI (x :: y :: l) 1 = some y := L2.atI_nat (j := 1) rfl
theorem ev_atl {α : Type} (l : List α) (x : α) : L2.atI (l ++ [x]) (-1) = some x := L2.atI_last l x
theorem ev_atn {α : Type} : L2.atI ([] : List α) (-1) = none := by
  unfold L2.atI ixN
  rfl
theorem ev_ixn (n : Nat) : ixN (n + 1) (-1) = some n := by
  unfold ixN
  rw [if_neg (by decide), if_pos (by omega)]
  congr 1
  omega
end
theorem cut_from {α : Type} (l : List α) (k : Nat) : cut l (some (k : Int)) none = l.drop k := by
  unfold cut
  rw [show HT.sIx l.length 0 (some (k : Int)) = min k l.length from HT.sIx_nat _ _ _, show HT.sIx l.length l.length none = l.length from rfl]
  by_cases h : k ≤ l.length
  · rw [Nat.min_eq_left h]
    exact List.take_of_length_le (by rw [List.length_drop]; exact Nat.le_refl _)
  · rw [Nat.min_eq_right (by omega), List.drop_of_length_le (Nat.le_refl _), List.drop_of_length_le (by omega)]
    simp
theorem cut_to {α : Type} (l : List α) (k : Nat) : cut l none (some (k : Int)) = l.take k := by
  unfold cut
  rw [show HT.sIx l.length l.length (some (k : Int)) = min k l.length from HT.sIx_nat _ _ _, show HT.sIx l.length 0 none = 0 from rfl, List.drop_zero, Nat.sub_zero]
  by_cases h : k ≤ l.length
  · rw [Nat.min_eq_left h]
  · rw [Nat.min_eq_right (by omega), List.take_of_length_le (Nat.le_refl _), List.take_of_length_le (by omega)]
theorem compW_pure {dg : DG} {t : DT} {d : DE} {ε : Ev} {P : Nat → List D → Prop} (f : D → Bool) (g : D → D) : ∀ (xs acc : List D) (n : Nat),
    (∀ x ∈ xs, ∀ (n : Nat) (K : Nat → D → Prop) (K' : Nat → Prop), (f x = true → K n (g x)) → (f x = false → K' n) → dg x ε fun ε' => t n ε' fun n1 k => (k = true → d n1 ε' fun n2 y => K n2 y) ∧ (k = false → K' n1)) →
    P n (acc ++ (xs.filter f).map g) → compW dg t d ε P xs acc n
  | [], acc, n, _, q => by
    rw [List.filter_nil, List.map_nil, List.append_nil] at q
    exact q
  | x :: xs, acc, n, h, q => by
    refine h x (by simp) n (fun n2 y => compW dg t d ε P xs (acc ++ [y]) n2) (fun n1 => compW dg t d ε P xs acc n1) (fun hf => ?_) (fun hf => ?_)
    · refine compW_pure f g xs _ n (fun y hy => h y (List.mem_cons_of_mem _ hy)) ?_
      rw [List.filter_cons_of_pos hf, List.map_cons] at q
      rw [List.append_assoc]
      exact q
    · refine compW_pure f g xs _ n (fun y hy => h y (List.mem_cons_of_mem _ hy)) ?_
      rw [List.filter_cons_of_neg (by rw [hf]; decide)] at q
      exact q
theorem eqD_str (a b : List Nat) : eqD (.str a) (.str b) = decide (a = b) := by
  rw [eqD, Bool.eq_iff_iff]
  simp
theorem eqD_int (a b : Int) : eqD (.int a) (.int b) = decide (a = b) := by
  rw [eqD, Bool.eq_iff_iff]
  simp
theorem eqD_bl (a b : Bool) : eqD (.bl a) (.bl b) = (a == b) := by
  rw [eqD]
theorem forW_ind {dg : DG} {b : DS} {N : DN} {Inv : List D → Nat → Ev → Prop} (h0 : ∀ n ε, Inv [] n ε → N.nx n ε)
    (hs : ∀ x xs n ε, (∀ n ε, Inv xs n ε → forW dg b N xs n ε) → Inv (x :: xs) n ε → dg x ε fun ε' => b { N with nx := fun n' ε'' => forW dg b N xs n' ε'', ct := fun n' ε'' => forW dg b N xs n' ε'', bk := N.nx } n ε') :
    ∀ xs n ε, Inv xs n ε → forW dg b N xs n ε
  | [], n, ε, i => h0 n ε i
  | x :: xs, n, ε, i => hs x xs n ε (fun n ε => forW_ind h0 hs xs n ε) i
def s_of : FD := fun ds n P => ∃ (s : D) (xs : List D) (m : Nat), ds = [.pot, s] ∧ srcD s = some xs ∧ (∀ l, s = .str l → l.length ≤ 16777216) ∧ 0 < xs.length ∧ xs.length ≤ 1000000 ∧ n = m + 1 ∧ ∀ x ∈ xs, P m x
theorem l_of (c : Str → Addr) : ∀ ds n Q, s_of ds n Q → dFn 2 2 (b__law_of c takeF) ds n Q := by
  rintro ds n Q ⟨s, xs, m, rfl, hs, hl, h0, h1, rfl, q⟩
  refine ⟨rfl, ?_⟩
  have idx : ∀ {α : Type} (l : List α) (r : Int), 0 ≤ r → r < (l.length : Int) → ∃ j x, r = (j : Nat) ∧ l[j]? = some x := fun l r r0 r1 => by
    have hj : r.toNat < l.length := by omega
    exact ⟨r.toNat, _, by omega, List.getElem?_eq_getElem hj⟩
  cases s with
  | lst ys =>
    cases hs
    simp only [b__law_of, dRet, dOp, dVar, envOf, List.map_cons, List.map_nil, List.length_cons, List.length_nil, Nat.zero_add, Nat.reduceAdd, Nat.reduceSub, List.replicate, List.append_nil, List.getElem?_cons_succ, List.getElem?_cons_zero, dCall, dCons, dBi, dNil, takeF, ev_ixl, ev_lenl]
    refine ⟨_, rfl, by omega, Nat.lt_of_le_of_lt (by simpa using h1) (by decide), m, rfl, fun r r0 r1 => ?_⟩
    obtain ⟨j, x, rfl, e⟩ := idx _ r r0 r1
    exact ⟨x, atI_nat e, q x (List.mem_of_getElem? e)⟩
  | tup ys =>
    cases hs
    simp only [b__law_of, dRet, dOp, dVar, envOf, List.map_cons, List.map_nil, List.length_cons, List.length_nil, Nat.zero_add, Nat.reduceAdd, Nat.reduceSub, List.replicate, List.append_nil, List.getElem?_cons_succ, List.getElem?_cons_zero, dCall, dCons, dBi, dNil, takeF, ev_ixt, ev_lent]
    refine ⟨_, rfl, by omega, Nat.lt_of_le_of_lt (by simpa using h1) (by decide), m, rfl, fun r r0 r1 => ?_⟩
    obtain ⟨j, x, rfl, e⟩ := idx _ r r0 r1
    exact ⟨x, atI_nat e, q x (List.mem_of_getElem? e)⟩
  | str l =>
    cases hs
    rw [sgn_length] at h0 h1
    simp only [b__law_of, dRet, dOp, dVar, envOf, List.map_cons, List.map_nil, List.length_cons, List.length_nil, Nat.zero_add, Nat.reduceAdd, Nat.reduceSub, List.replicate, List.append_nil, List.getElem?_cons_succ, List.getElem?_cons_zero, dCall, dCons, dBi, dNil, takeF, ev_ixs, ev_lens]
    refine ⟨hl l rfl, _, rfl, by omega, Nat.lt_of_le_of_lt (by simpa using h1) (by decide), m, rfl, fun r r0 r1 => ?_⟩
    obtain ⟨j, x, rfl, e⟩ := idx _ r r0 r1
    refine ⟨hl l rfl, x, atI_nat e, q _ ?_⟩
    unfold sgn
    exact List.mem_map_of_mem (List.mem_of_getElem? e)
  | _ => cases hs
def s_random : FD := fun ds n P => ∃ (l : List Nat) (k m : Nat), ds = [.pot, .str l, .int k] ∧ l ≠ [] ∧ l.length ≤ 1000 ∧ k ≤ 10000 ∧ n = m + k ∧ ∀ r : List Nat, r.length = k → (∀ x ∈ r, x ∈ l) → P m (.str r)
theorem flat_sgn (ls : List (List Nat)) (h : ∀ l ∈ ls, l.length = 1) : (ls.map (·.length)).sum = ls.length := by
  induction ls with
  | nil => rfl
  | cons a r ih =>
    rw [List.map_cons, List.sum_cons, ih fun l hl => h l (List.mem_cons_of_mem _ hl), h a (by simp), List.length_cons]
    omega
theorem l_random (c : Str → Addr) : ∀ ds n Q, s_random ds n Q → dFn 4 3 (b__law_random c s_of) ds n Q := by
  rintro ds n Q ⟨l, k, m, rfl, h0, h1, h2, rfl, q⟩
  refine ⟨rfl, ?_⟩
  simp only [b__law_random, dRet, dJoin, dC, dO, dComp, iRg1, dVar, envOf, List.map_cons, List.map_nil, List.length_cons, List.length_nil, Nat.zero_add, Nat.reduceAdd, Nat.reduceSub, List.replicate, List.cons_append, List.nil_append, List.getElem?_cons_succ, List.getElem?_cons_zero, wipeE, List.set_cons_succ, List.set_cons_zero]
  refine ⟨by omega, by omega, by rw [rngD_length]; omega, ?_⟩
  have go : ∀ (xs : List D) (r : List Nat), r.length + xs.length = k → (∀ x ∈ r, x ∈ l) → compW (gNm 3) dYes (dCall s_of [] (dCons (dVar 0) (dCons (dVar 1) dNil))) [.val .pot, .val (.str l), .val (.int k), .no]
      (fun n' ds => ∃ ls, isStrs ds = some ls ∧ (ls.map (·.length)).sum + ls.length * 0 ≤ 16777216 ∧ Q n' (.str (TL.joinL [] ls))) xs (sgn r) (m + xs.length) := by
    intro xs
    induction xs with
    | nil =>
      intro r hr hl
      refine ⟨r.map fun x => [x], ?_, ?_, ?_⟩
      · unfold sgn
        have : (r.map fun c => D.str [c]) = (r.map fun x => [x]).map D.str := by rw [List.map_map]; rfl
        rw [this, map_isStrs]
      · rw [flat_sgn _ (by intro a ha; obtain ⟨y, _, rfl⟩ := List.mem_map.mp ha; rfl)]
        simp only [List.length_map, List.length_nil] at hr ⊢
        omega
      · rw [joinL_nil]
        have e : (r.map fun x => [x]).flatten = r := by
          clear hr hl
          induction r with
          | nil => rfl
          | cons a r ih => rw [List.map_cons, List.flatten_cons, ih]; rfl
        rw [e]
        exact q r (by simpa using hr) hl
    | cons x xs ih =>
      intro r hr hl
      simp only [compW, gNm, dYes, dCall, dCons, dVar, List.set_cons_succ, List.set_cons_zero, List.getElem?_cons_zero, List.getElem?_cons_succ, dNil, s_of, List.append_nil, List.length_cons, forall_const, reduceCtorEq, false_implies, and_true]
      refine ⟨.str l, sgn l, m + xs.length, rfl, rfl, fun l' e => by cases e; omega, by rw [sgn_length]; exact List.length_pos_iff.mpr h0, by rw [sgn_length]; omega, by omega, fun y hy => ?_⟩
      unfold sgn at hy
      obtain ⟨z, hz, rfl⟩ := List.mem_map.mp hy
      have e : sgn r ++ [.str [z]] = sgn (r ++ [z]) := by unfold sgn; rw [List.map_append]; rfl
      rw [e]
      refine ih (r ++ [z]) (by rw [List.length_append, List.length_singleton]; rw [List.length_cons] at hr; omega) fun x hx => ?_
      rcases List.mem_append.mp hx with h | h
      · exact hl x h
      · rw [List.mem_singleton.mp h]
        exact hz
  have := go (rngD 0 (k : Int).toNat) [] (by rw [rngD_length]; simp) (by simp)
  rw [rngD_length] at this
  simpa [sgn] using this
abbrev Bl := Nat × Nat
def blkD (b : Bl) : D := .tup [.str [b.1], .int (b.2 : Nat)]
def expand : List Bl → List Nat
  | [] => []
  | b :: r => List.replicate b.2 b.1 ++ expand r
def Adj : List Bl → Prop
  | [] => True
  | [_] => True
  | a :: b :: r => a.1 ≠ b.1 ∧ Adj (b :: r)
structure Good (bs : List Bl) : Prop where
  adj : Adj bs
  pos : ∀ b ∈ bs, 1 ≤ b.2
theorem expand_append : ∀ (a b : List Bl), expand (a ++ b) = expand a ++ expand b
  | [], b => rfl
  | x :: a, b => by
    rw [List.cons_append, expand, expand, expand_append a b, List.append_assoc]
theorem Adj.snoc : ∀ {a : List Bl} {d : Bl} {x : Bl}, Adj (a ++ [d]) → d.1 ≠ x.1 → Adj (a ++ [d] ++ [x])
  | [], d, x, _, h => ⟨h, trivial⟩
  | [y], d, x, g, h => ⟨g.1, h, trivial⟩
  | y :: z :: a, d, x, g, h => ⟨g.1, Adj.snoc (a := z :: a) g.2 h⟩
theorem Adj.last : ∀ {a : List Bl} {d e : Bl}, Adj (a ++ [d]) → d.1 = e.1 → Adj (a ++ [e])
  | [], d, e, _, _ => trivial
  | [y], d, e, g, h => ⟨fun q => g.1 (q.trans h.symm), trivial⟩
  | y :: z :: a, d, e, g, h => ⟨g.1, Adj.last (a := z :: a) g.2 h⟩
theorem isPds_blk : ∀ {bs : List Bl}, (∀ b ∈ bs, b.1 < 1114112) → isPds (bs.map blkD) = true
  | [], _ => by simp [isPds]
  | b :: bs, h => by
    have h1 := h b (by simp)
    rw [List.map_cons, isPds, isPds_blk fun x hx => h x (List.mem_cons_of_mem _ hx)]
    simp [blkD, isPd, isPds, h1]
theorem dpts_blk : ∀ (bs : List Bl), dpts (bs.map blkD) ≤ 1
  | [] => by simp [dpts]
  | b :: bs => by
    rw [List.map_cons, dpts]
    have := dpts_blk bs
    have e : dpt (blkD b) = 1 := by simp [blkD, dpt, dpts]
    omega
theorem okD_blks {bs : List Bl} (h : ∀ b ∈ bs, b.1 < 1114112) : okD (.lst (bs.map blkD)) = true := by
  unfold okD
  rw [isPd, isPds_blk h, dpt]
  have := dpts_blk bs
  simp only [Bool.true_and, decide_eq_true_eq]
  omega
theorem okD_nil : okD (.lst []) = true := by decide
theorem eqD_snoc (xs : List D) (x : D) : eqD (.lst (xs ++ [x])) (.lst []) = false := by
  cases xs <;> simp [eqD, eqDs]
theorem eqDs_nil : ∀ (xs : List D), eqDs xs [] = xs.isEmpty
  | [] => by simp [eqDs]
  | _ :: _ => by simp [eqDs]
theorem set_last {α : Type} (xs : List α) (y z : α) : (xs ++ [y]).set xs.length z = xs ++ [z] := by
  rw [List.set_append_right _ _ (Nat.le_refl _), Nat.sub_self]
  rfl
theorem mem_expand : ∀ {bs : List Bl} {b : Bl}, b ∈ bs → 1 ≤ b.2 → b.1 ∈ expand bs
  | a :: r, b, h, h1 => by
    rw [expand]
    rcases List.mem_cons.mp h with e | e
    · rw [e] at h1 ⊢
      exact List.mem_append_left _ (List.mem_replicate.mpr ⟨by omega, rfl⟩)
    · exact List.mem_append_right _ (mem_expand e h1)
def s_blocks : FD := fun ds n P => ∃ l : List Nat, ds = [.str l] ∧ l.length ≤ 1000000 ∧ (∀ c ∈ l, c < 1114112) ∧ ∀ bs, expand bs = l → Good bs → P n (.lst (bs.map blkD))
theorem l_blocks (c : Str → Addr) : ∀ ds n Q, s_blocks ds n Q → dFn 3 1 (b__law_blocks c) ds n Q := by
  rintro ds n Q ⟨l, rfl, h0, h1, q⟩
  refine ⟨rfl, ?_⟩
  simp only [b__law_blocks, dSeq, dSetO, dLstO, dNil, List.length_nil, Nat.reduceLeDiff, dFor, iVal, dVar, envOf, List.map_cons, List.map_nil, List.length_cons, Nat.zero_add, Nat.reduceSub, List.replicate, List.cons_append, List.nil_append, List.set_cons_succ, List.set_cons_zero, List.getElem?_cons_zero, ev_srcs, Option.some.injEq, exists_eq_left', true_and]
  refine forW_ind (Inv := fun ys n' ε => ∃ (xs p : List Nat) (bs : List Bl) (s2 : Sl), ys = sgn xs ∧ n' = n ∧ ε = [.val (.str l), .own (.lst (bs.map blkD)), s2] ∧ p ++ xs = l ∧ expand bs = p ∧ Good bs ∧ bs.length ≤ p.length) ?_ ?_ _ _ _ ⟨l, [], [], .no, rfl, rfl, rfl, rfl, rfl, ⟨trivial, fun b hb => by cases hb⟩, Nat.le_refl _⟩
  · rintro n' ε ⟨xs, p, bs, s2, e, rfl, rfl, hp, hb, hg, hl⟩
    have : xs = [] := List.map_eq_nil_iff.mp e.symm
    subst this
    rw [List.append_nil] at hp
    simp only [dFrz, dRet, dVar, List.foldl_cons, frzE, List.getElem?_cons_succ, List.getElem?_cons_zero, OD.d, List.set_cons_succ, List.set_cons_zero, List.foldl_nil]
    exact q bs (hb.trans hp) hg
  · rintro y ys n' ε ih ⟨xs, p, bs, s2, e, rfl, rfl, hp, hb, hg, hl⟩
    match xs, e with
    | x :: xs, e =>
      obtain ⟨rfl, rfl⟩ : y = .str [x] ∧ ys = sgn xs := by simpa [sgn] using e
      have hx : x < 1114112 := h1 x (by rw [← hp]; simp)
      have hlt : ∀ b ∈ bs, b.1 < 1114112 := fun b hb' => h1 b.1 (by
        rw [← hp, ← hb]
        exact List.mem_append_left _ (mem_expand hb' (hg.pos b hb')))
      have hpl : p.length + (xs.length + 1) ≤ 1000000 := by
        have := congrArg List.length hp
        rw [List.length_append, List.length_cons] at this
        omega
      have ih' := fun bs' h1 h2 h3 => ih n' _ ⟨xs, p ++ [x], bs', .val (.str [x]), rfl, rfl, rfl, by rw [List.append_assoc]; exact hp, h1, h2, by rw [List.length_append]; exact h3⟩
      rcases List.eq_nil_or_concat bs with rfl | ⟨as, d, rfl⟩
      · simp only [gNm, dIf, dAnd, dTmpT, dTB, dOp, dVar, frzE, List.map_nil, List.set_cons_succ, List.set_cons_zero, List.getElem?_cons_succ, List.getElem?_cons_zero, OD.d, dLst, dNil, List.length_nil, Nat.reduceLeDiff, gNe, ev_okl, okD_nil, Bool.and_self, eqD, eqDs, Bool.not_true, reduceCtorEq, dIxO, dNeg, dC, ev_atn, gEq, dSetI, dTup, dCons, List.length_cons, Nat.zero_add, Nat.reduceAdd, true_and, dApp, List.nil_append, false_implies, forall_const]
        refine ⟨by decide, ih' [(x, 1)] ?_ ⟨trivial, fun b hb => by simp at hb; subst hb; exact Nat.le_refl _⟩ (by simp)⟩
        rw [← hb]
        rfl
      · rw [List.concat_eq_append] at *
        rw [List.map_append, List.map_cons, List.map_nil] at *
        have hok : okD (.lst (as.map blkD ++ [blkD d])) = true := by
          have := okD_blks hlt
          rwa [List.map_append] at this
        simp only [gNm, dIf, dAnd, dTmpT, dTB, dOp, dVar, frzE, List.set_cons_succ, List.set_cons_zero, List.getElem?_cons_succ, List.getElem?_cons_zero, OD.d, dLst, dNil, List.length_nil, Nat.reduceLeDiff, gNe, ev_okl, hok, okD_nil, Bool.and_self, eqD_snoc, Bool.not_false, dIxO, dNeg, dC, ev_atl, Option.some.injEq, gEq, dSetI, dTup, dCons, List.length_cons, Nat.zero_add, Nat.reduceAdd, List.length_append, List.length_map, ev_ixn, exists_eq_left', true_and, dApp, forall_const, reduceCtorEq, false_implies, and_true]
        simp only [blkD, ev_ixt, ev_at1, Option.some.injEq, exists_eq_left', ev_addi, ev_at0, ev_oks, eqD_str, List.cons.injEq, and_true, decide_eq_true_eq, decide_eq_false_iff_not, true_and]
        refine ⟨fun he => ?_, fun he => ?_⟩
        · have e2 : ((as.map blkD ++ [D.tup [.str [d.1], .int (d.2 : Nat)]]).set as.length (.tup [.str [x], .int ((d.2 : Int) + 1)])) = (as ++ [(x, d.2 + 1)]).map blkD := by
            rw [show as.length = (as.map blkD).length by rw [List.length_map], set_last, List.map_append]
            rfl
          have e3 : (List.map (fun b : Bl => D.tup [.str [b.1], .int (b.2 : Nat)]) as ++ [D.tup [.str [d.1], .int (d.2 : Nat)]]) = as.map blkD ++ [D.tup [.str [d.1], .int (d.2 : Nat)]] := rfl
          first | rw [e3, e2] | rw [e2]
          refine ih' _ ?_ ⟨Adj.last hg.adj he, fun b hb' => ?_⟩ (by rw [List.length_append, List.length_singleton] at hl ⊢; rw [List.length_singleton]; omega)
          · rw [← hb, expand_append, expand_append, List.append_assoc]
            congr 1
            simp only [expand, List.append_nil]
            rw [he, List.replicate_succ']
          · rcases List.mem_append.mp hb' with h | h
            · exact hg.pos b (List.mem_append_left _ h)
            · rw [List.mem_singleton.mp h]
              exact Nat.le_add_left _ _
        · have hne : d.1 ≠ x := fun q => he q
          refine ⟨by have : as.length + 1 ≤ p.length := by simpa using hl
                     omega, ?_⟩
          have e3 : (List.map blkD as ++ [D.tup [.str [d.1], .int (d.2 : Nat)], D.tup [.str [x], .int 1]]) = (as ++ [d] ++ [(x, 1)]).map blkD := by
            rw [List.map_append, List.map_append]
            simp [blkD]
          simp only [List.append_assoc, List.cons_append, List.nil_append]
          have e4 : (List.map (fun b : Bl => D.tup [.str [b.1], .int (b.2 : Nat)]) as ++ [D.tup [.str [d.1], .int (d.2 : Nat)], D.tup [.str [x], .int 1]]) = List.map blkD as ++ [D.tup [.str [d.1], .int (d.2 : Nat)], D.tup [.str [x], .int 1]] := rfl
          first | rw [e4, e3] | rw [e3]
          refine ih' _ ?_ ⟨Adj.snoc hg.adj hne, fun b hb' => ?_⟩ (by rw [List.length_append, List.length_singleton]; rw [List.length_singleton]; omega)
          · rw [expand_append, hb]
            rfl
          · rcases List.mem_append.mp hb' with h | h
            · exact hg.pos b h
            · rw [List.mem_singleton.mp h]
              exact Nat.le_refl _
end LW
namespace LW
open PySem L2 Pd
def tail (k : Nat) : List Nat := if 1 < k then numD (k : Int) else []
def txt : List Bl → List Nat
  | [] => []
  | b :: r => (b.1 :: tail b.2) ++ txt r
end LW
namespace LW
open PySem L2 Pd
def letters : List Nat := [97, 98, 99, 100, 101, 102, 103, 104, 105, 106, 107, 108, 109, 110, 111, 112, 113, 114, 115, 116, 117, 118, 119, 120, 121, 122]
theorem letters_lt {c : Nat} (h : c ∈ letters) : c < 1114112 := by
  have : ∀ x ∈ letters, x < 1114112 := by decide
  exact this c h
theorem compW_map {α : Type} {dg : DG} {t : DT} {d : DE} {ε : Ev} {P : Nat → List D → Prop} (f g : α → D) : ∀ (bs : List α) (acc : List D) (n : Nat),
    (∀ b ∈ bs, ∀ (n : Nat) (K : Nat → D → Prop) (K' : Nat → Prop), K n (g b) → dg (f b) ε fun ε' => t n ε' fun n1 k => (k = true → d n1 ε' fun n2 y => K n2 y) ∧ (k = false → K' n1)) →
    P n (acc ++ bs.map g) → compW dg t d ε P (bs.map f) acc n
  | [], acc, n, _, q => by
    rw [List.map_nil, List.append_nil] at q
    exact q
  | x :: xs, acc, n, h, q => by
    refine h x (by simp) n (fun n2 y => compW dg t d ε P (xs.map f) (acc ++ [y]) n2) (fun n1 => compW dg t d ε P (xs.map f) acc n1) ?_
    refine compW_map f g xs _ n (fun y hy => h y (List.mem_cons_of_mem _ hy)) ?_
    rw [List.append_assoc]
    exact q
end LW
namespace LW
open PySem L2 Pd
def NH (a : Nat) (l : List Nat) : Prop := ∀ x ∈ l.head?, x ≠ a
theorem pre_rep (a : Nat) : ∀ (c0 c : Nat) (x y : List Nat), NH a x → NH a y → (List.replicate c0 a ++ x <+: List.replicate c a ++ y ↔ (c0 = c ∧ x <+: y) ∨ (x = [] ∧ c0 ≤ c))
  | 0, 0, x, y, hx, hy => by
    simp only [List.replicate, List.nil_append, true_and, Nat.le_refl, and_true]
    exact ⟨Or.inl, fun h => h.elim id fun e => e ▸ List.nil_prefix⟩
  | 0, c + 1, x, y, hx, hy => by
    rw [List.replicate, List.nil_append, List.replicate_succ, List.cons_append]
    constructor
    · intro h
      match x, hx, h with
      | [], _, _ => exact Or.inr ⟨rfl, Nat.zero_le _⟩
      | b :: x, hx, h => exact absurd (List.cons_prefix_cons.mp h).1 (hx b rfl)
    · rintro (⟨h, _⟩ | ⟨rfl, _⟩)
      · cases h
      · exact List.nil_prefix
  | c0 + 1, 0, x, y, hx, hy => by
    rw [List.replicate_succ, List.cons_append, List.replicate, List.nil_append]
    constructor
    · intro h
      match y, hy, h with
      | [], _, h => exact absurd (List.prefix_nil.mp h) (by simp)
      | b :: y, hy, h => exact absurd (List.cons_prefix_cons.mp h).1.symm (hy b rfl)
    · rintro (⟨h, _⟩ | ⟨_, h⟩)
      · cases h
      · omega
  | c0 + 1, c + 1, x, y, hx, hy => by
    rw [List.replicate_succ, List.cons_append, List.replicate_succ, List.cons_append, List.cons_prefix_cons, pre_rep a c0 c x y hx hy]
    simp only [true_and, Nat.add_right_cancel_iff, Nat.add_le_add_iff_right]
theorem nh_expand {a : Bl} : ∀ {r : List Bl}, Good (a :: r) → NH a.1 (expand r)
  | [], _ => fun x h => by cases h
  | b :: r, g => fun x h => by
    have hb : 1 ≤ b.2 := g.pos b (by simp)
    rw [expand] at h
    obtain ⟨m, hm⟩ : ∃ m, b.2 = m + 1 := ⟨b.2 - 1, by omega⟩
    rw [hm, List.replicate_succ] at h
    have : x = b.1 := by simpa using h.symm
    rw [this]
    exact fun e => g.adj.1 e.symm
theorem Good.tl {a : Bl} : ∀ {r : List Bl}, Good (a :: r) → Good r
  | [], g => ⟨trivial, fun b hb => by cases hb⟩
  | b :: r, g => ⟨g.adj.2, fun x hx => g.pos x (List.mem_cons_of_mem _ hx)⟩
theorem expand_ne {a : Bl} {r : List Bl} (g : Good (a :: r)) : expand (a :: r) ≠ [] := by
  have := g.pos a (by simp)
  rw [expand]
  obtain ⟨m, hm⟩ : ∃ m, a.2 = m + 1 := ⟨a.2 - 1, by omega⟩
  rw [hm, List.replicate_succ]
  simp
theorem expand_nil {r : List Bl} (g : Good r) : expand r = [] ↔ r = [] := by
  cases r with
  | nil => exact ⟨fun _ => rfl, fun _ => rfl⟩
  | cons a r => exact ⟨fun h => absurd h (expand_ne g), fun h => by cases h⟩
theorem pre_head {a b : Bl} {x y : List Nat} (ha : 1 ≤ a.2) (hb : 1 ≤ b.2) (h : List.replicate a.2 a.1 ++ x <+: List.replicate b.2 b.1 ++ y) : a.1 = b.1 := by
  obtain ⟨m, hm⟩ : ∃ m, a.2 = m + 1 := ⟨a.2 - 1, by omega⟩
  obtain ⟨k, hk⟩ : ∃ k, b.2 = k + 1 := ⟨b.2 - 1, by omega⟩
  rw [hm, hk, List.replicate_succ, List.replicate_succ, List.cons_append, List.cons_append] at h
  exact (List.cons_prefix_cons.mp h).1
theorem pre_blk {a b : Bl} {r q : List Bl} (ga : Good (a :: r)) (gb : Good (b :: q)) : expand (a :: r) <+: expand (b :: q) ↔ a.1 = b.1 ∧ ((a.2 = b.2 ∧ expand r <+: expand q) ∨ (r = [] ∧ a.2 ≤ b.2)) := by
  have na := nh_expand ga
  have nb := nh_expand gb
  rw [expand, expand]
  constructor
  · intro h
    have e := pre_head (ga.pos a (by simp)) (gb.pos b (by simp)) h
    rw [← e] at h nb
    have := (pre_rep a.1 _ _ _ _ na nb).mp h
    rw [expand_nil ga.tl] at this
    exact ⟨e, this⟩
  · rintro ⟨e, h⟩
    rw [← e] at nb ⊢
    rw [← expand_nil ga.tl] at h
    exact (pre_rep a.1 _ _ _ _ na nb).mpr h
theorem good_unique : ∀ {x y : List Bl}, Good x → Good y → expand x = expand y → x = y
  | [], y, _, gy, e => ((expand_nil gy).mp e.symm).symm
  | a :: r, [], gx, _, e => absurd e (expand_ne gx)
  | a :: r, b :: q, gx, gy, e => by
    have h1 := (pre_blk gx gy).mp (e ▸ List.prefix_rfl)
    have h2 := (pre_blk gy gx).mp (e ▸ List.prefix_rfl)
    have hc : a.2 = b.2 := by
      rcases h1.2 with h | h
      · exact h.1
      · rcases h2.2 with h' | h'
        · exact h'.1.symm
        · omega
    have hr : expand r = expand q := by
      rw [expand, expand, hc, h1.1] at e
      exact List.append_cancel_left e
    have hr2 := good_unique gx.tl gy.tl hr
    obtain ⟨a1, a2⟩ := a
    obtain ⟨b1, b2⟩ := b
    simp only at hc
    have := h1.1
    simp only at this
    rw [hc, hr2, this]
end LW
namespace LW
open PySem L2 Pd
def sts : Nat → List Bl → List Nat
  | _, [] => []
  | k, b :: r => k :: sts (k + b.2) r
def tot : Nat → List Bl → Nat
  | k, [] => k
  | k, b :: r => tot (k + b.2) r
def intD (k : Nat) : D := .int (k : Nat)
def fldsW (bs : List Bl) : List (Str × D) := [("own_text", .str (txt bs)), ("own_blocks", .tup (bs.map blkD)), ("own_ends", .tup ((sts 0 bs ++ [tot 0 bs]).map intD))]
def wordD (c : Str → Addr) (bs : List Bl) : D := .obj (c "Word") (fldsW bs)
end LW
namespace LW
open PySem L2 Pd
def pos (bs : List Bl) (j : Nat) : Nat := ((bs.take j).map (·.2)).sum
theorem pos_zero (bs : List Bl) : pos bs 0 = 0 := by simp [pos]
theorem pos_cons (a : Bl) (r : List Bl) (j : Nat) : pos (a :: r) (j + 1) = a.2 + pos r j := by simp [pos]
theorem sts_pos : ∀ (bs : List Bl) (k : Nat), sts k bs = (List.range bs.length).map fun j => k + pos bs j
  | [], k => rfl
  | b :: r, k => by
    rw [sts, sts_pos r, List.length_cons, List.range_succ_eq_map, List.map_cons, List.map_map, pos_zero, Nat.add_zero]
    congr 1
    refine List.map_congr_left fun j _ => ?_
    show k + b.2 + pos r j = k + pos (b :: r) (j + 1)
    rw [pos_cons]
    omega
theorem tot_pos : ∀ (bs : List Bl) (k : Nat), tot k bs = k + pos bs bs.length
  | [], k => by simp [tot, pos]
  | b :: r, k => by
    rw [tot, tot_pos r, List.length_cons, pos_cons]
    omega
def endsD (bs : List Bl) : List D := (List.range (bs.length + 1)).map fun j => intD (pos bs j)
theorem ends_eq (bs : List Bl) : (sts 0 bs ++ [tot 0 bs]).map intD = endsD bs := by
  unfold endsD
  rw [sts_pos, tot_pos, List.range_succ, List.map_append, List.map_append, List.map_map]
  congr 1
  · refine List.map_congr_left fun j _ => ?_
    show intD (0 + pos bs j) = _
    rw [Nat.zero_add]
  · rw [Nat.zero_add]; rfl
theorem lk_text (bs : List Bl) : List.lookup (Str.ofString "own_text") (fldsW bs) = some (.str (txt bs)) := rfl
theorem lk_blocks (bs : List Bl) : List.lookup (Str.ofString "own_blocks") (fldsW bs) = some (.tup (bs.map blkD)) := rfl
theorem lk_ends (bs : List Bl) : List.lookup (Str.ofString "own_ends") (fldsW bs) = some (.tup (endsD bs)) := by
  rw [← ends_eq]
  rfl
theorem lk_spot (bs : List Bl) : (List.lookup (Str.ofString "spot") (fldsW bs) = none) = True := eq_true rfl
theorem lk_letter (bs : List Bl) : (List.lookup (Str.ofString "letter") (fldsW bs) = none) = True := eq_true rfl
theorem for_ind {dg : DG} {b : DS} {N : DN} (Inv : List D → Nat → Ev → Prop) {xs : List D} {n : Nat} {ε : Ev} (hi : Inv xs n ε) (h0 : ∀ n ε, Inv [] n ε → N.nx n ε)
    (hs : ∀ x xs n ε (nxt : Nat → Ev → Prop), (∀ n ε, Inv xs n ε → nxt n ε) → Inv (x :: xs) n ε → dg x ε fun ε' => b { N with nx := nxt, ct := nxt, bk := N.nx } n ε') : forW dg b N xs n ε :=
  forW_ind h0 (fun x xs n ε ih i => hs x xs n ε (forW dg b N xs) ih i) xs n ε hi
def fu (w : List Nat) (k lo hi : Nat) : Option Nat := (List.range' lo (hi - lo)).find? fun i => decide (w[i]? ≠ w[i + k]?)
end LW
namespace LW
open PySem L2 Pd
def b__law_is_repeat (c : Str → Addr)  : DS := (dSeq (dSet 3 (dO (dComp (iRg2 (dBi gMax (dCons (dC (.int 0)) (dCons (dOp gSub (dVar 1) (dVar 2)) dNil))) (dVar 1)) (gNm 4) (dTB (dOp gLt (dOp gAdd (dVar 4) (dVar 2)) (dBi gLen (dCons (dVar 0) dNil)))) (dVar 4) [4])))
    (dRet (dBi gAll (dCons (dO (dComp (iVal (dVar 3)) (gNm 4) dYes (dOp gEq (dOp gIx (dVar 0) (dVar 4)) (dOp gIx (dVar 0) (dOp gAdd (dVar 4) (dVar 2)))) [4])) dNil))))
def b__law_shortest (c : Str → Addr) (s__law_is_repeat : FD) : DS := (dRet (dOp gIx (dO (dComp (iRg2 (dC (.int 1)) (dOp gAdd (dBi gLen (dCons (dVar 0) dNil)) (dC (.int 1)))) (gNm 2) (dTB (dCall s__law_is_repeat [] (dCons (dVar 0) (dCons (dVar 1) (dCons (dVar 2) dNil))))) (dVar 2) [2])) (dC (.int 0))))
def b__law_row (c : Str → Addr) (s__law_shortest : FD) : DS := (dRet (dO (dComp (iRg1 (dBi gLen (dCons (dVar 0) dNil))) (gNm 1) dYes (dCall s__law_shortest [] (dCons (dVar 0) (dCons (dVar 1) dNil))) [1])))
end LW
namespace LW
open PySem L2 Pd
def size (bs : List Bl) : Nat := (expand bs).length
end LW
namespace LW
open PySem L2 Pd
def per (w : List Nat) (k : Nat) : Prop := w.drop k = w.take (w.length - k)
instance (w : List Nat) (k : Nat) : Decidable (per w k) := by unfold per; exact inferInstance
theorem per_iff {w : List Nat} {k : Nat} : per w k ↔ ∀ i, i < w.length - k → w[i]? = w[i + k]? := by
  unfold per
  constructor
  · intro h i hi
    have e := congrArg (fun l => l[i]?) h
    simp only [List.getElem?_drop, List.getElem?_take] at e
    rw [if_pos hi] at e
    rw [← e, Nat.add_comm]
  · intro h
    apply List.ext_getElem?
    intro i
    rw [List.getElem?_drop, List.getElem?_take]
    by_cases hi : i < w.length - k
    · rw [if_pos hi, h i hi, Nat.add_comm]
    · rw [if_neg hi, List.getElem?_eq_none (by omega)]
theorem asc_range (lo n : Nat) : (List.range' lo n).Pairwise (· < ·) := by
  have := List.pairwise_lt_range' (s := lo) (n := n)
  exact this
end LW
namespace LW
open PySem L2 Pd
def AL (l : List Nat) : Prop := ∀ c ∈ l, c ∈ letters
theorem AL.app {a b : List Nat} (h : AL a) (g : AL b) : AL (a ++ b) := fun c hc => (List.mem_append.mp hc).elim (h c) (g c)
theorem AL.sub {a b : List Nat} (h : AL b) (g : ∀ c ∈ a, c ∈ b) : AL a := fun c hc => h c (g c hc)
theorem AL.rep {a : List Nat} (h : AL a) (k : Nat) : AL (List.replicate k a).flatten := fun c hc => by
  obtain ⟨l, h1, h2⟩ := List.mem_flatten.mp hc
  exact h c (List.eq_of_mem_replicate h1 ▸ h2)
theorem AL.take {a : List Nat} (h : AL a) (k : Nat) : AL (a.take k) := h.sub fun c hc => List.mem_of_mem_take hc
theorem AL.drop {a : List Nat} (h : AL a) (k : Nat) : AL (a.drop k) := h.sub fun c hc => List.mem_of_mem_drop hc
theorem rep_len (a : List Nat) (k : Nat) : (List.replicate k a).flatten.length = k * a.length := by
  rw [List.length_flatten, List.map_replicate, List.sum_replicate_nat]
end LW
namespace LW
open PySem L2 Pd
theorem AL.lt {l : List Nat} (h : AL l) : ∀ c ∈ l, c < 1114112 := fun c hc => letters_lt (h c hc)
theorem flat_one (k a : Nat) : (List.replicate k [a]).flatten = List.replicate k a := by
  induction k with
  | zero => rfl
  | succ k ih => rw [List.replicate_succ, List.flatten_cons, ih, List.replicate_succ]; rfl
theorem expand_flat : ∀ bs : List Bl, (bs.map fun b => List.replicate b.2 b.1).flatten = expand bs
  | [] => rfl
  | b :: r => by rw [List.map_cons, List.flatten_cons, expand_flat r]; rfl
theorem mem_le_expand : ∀ {bs : List Bl} {b : Bl}, b ∈ bs → b.2 ≤ (expand bs).length
  | a :: r, b, h => by
    rw [expand, List.length_append, List.length_replicate]
    rcases List.mem_cons.mp h with e | e
    · rw [e]; omega
    · have := mem_le_expand e
      omega
theorem good_take : ∀ {bs : List Bl} (k : Nat), Good bs → Good (bs.take k)
  | bs, 0, _ => ⟨trivial, fun b hb => by simp at hb⟩
  | [], k + 1, g => g
  | [a], k + 1, g => by simpa using g
  | a :: b :: r, 1, g => ⟨trivial, fun x hx => by
    have : x = a := by simpa using hx
    rw [this]
    exact g.pos a (by simp)⟩
  | a :: b :: r, k + 2, g => by
    have h := good_take (bs := b :: r) (k + 1) g.tl
    rw [List.take_succ_cons] at h ⊢
    rw [List.take_succ_cons]
    exact ⟨⟨g.adj.1, h.adj⟩, fun x hx => by
      rcases List.mem_cons.mp hx with e | e
      · rw [e]; exact g.pos a (by simp)
      · exact h.pos x e⟩
theorem size_ge : ∀ {bs : List Bl}, (∀ b ∈ bs, 1 ≤ b.2) → bs.length ≤ size bs
  | [], _ => Nat.zero_le _
  | a :: r, h => by
    have ih := size_ge (bs := r) fun x hx => h x (List.mem_cons_of_mem _ hx)
    have := h a (by simp)
    unfold size at *
    rw [expand, List.length_append, List.length_replicate, List.length_cons]
    omega
theorem expand_take (bs : List Bl) (k : Nat) : expand (bs.take k) <+: expand bs := by
  have := expand_append (bs.take k) (bs.drop k)
  rw [List.take_append_drop] at this
  exact ⟨_, this.symm⟩
def tI (f : Nat → Bool) : D → Bool
  | .int i => f i.toNat
  | _ => false
theorem tI_int (f : Nat → Bool) (k : Nat) : tI f (.int (k : Nat)) = f k := rfl
theorem filter_intD (f : Nat → Bool) (l : List Nat) : (l.map intD).filter (tI f) = (l.filter f).map intD := by
  rw [List.filter_map]
  rfl
theorem rngD_eq (n lo : Nat) : rngD (lo : Int) n = (List.range' lo n).map intD := by
  unfold rngD
  have e : List.range' lo n = (List.range n).map fun i => lo + i := by
    rw [List.range_eq_range', List.map_add_range']
    simp
  rw [e, List.map_map]
  refine List.map_congr_left fun i _ => ?_
  show D.int ((lo : Int) + (i : Nat)) = D.int ((lo + i : Nat) : Int)
  congr 1
def s_cells : FD := fun ds n P => ∃ (ns : List Int) (lim : Nat), ds = [.scr ns, .int lim] ∧ 1 ≤ lim ∧ lim ≤ 8 ∧ ∀ xs : List D, xs.length ≤ lim → (∀ x ∈ xs, ∃ k : Nat, x = .int k ∧ k < lim) → P n (.lst xs)
theorem l_cells (c : Str → Addr) : ∀ ds n Q, s_cells ds n Q → dFn 2 2 (b__law_cells c) ds n Q := by
  rintro ds n Q ⟨ns, lim, rfl, hl1, hl8, q⟩
  refine ⟨rfl, ?_⟩
  simp only [b__law_cells, dRet, dLRg, Pd.r1, dBi, dCons, dC, dVar, envOf, List.map_cons, List.map_nil, List.length_cons, List.length_nil, Nat.zero_add, Nat.reduceAdd, Nat.reduceSub, List.replicate, List.append_nil, List.getElem?_cons_succ, List.getElem?_cons_zero, dNil, ev_lenr, ev_min, ev_max]
  have hm : ∃ m : Nat, (if (if (ns.length : Int) < lim then (ns.length : Int) else lim) > 1 then (if (ns.length : Int) < lim then (ns.length : Int) else lim) else 1) = m ∧ m ≤ lim := by
    by_cases h : (ns.length : Int) < lim
    · rw [if_pos h]
      by_cases h2 : (ns.length : Int) > 1
      · rw [if_pos h2]
        exact ⟨ns.length, rfl, by omega⟩
      · rw [if_neg h2]
        exact ⟨1, rfl, by omega⟩
    · rw [if_neg h]
      by_cases h2 : (lim : Int) > 1
      · rw [if_pos h2]
        exact ⟨lim, rfl, by omega⟩
      · rw [if_neg h2]
        exact ⟨1, rfl, by omega⟩
  obtain ⟨m, hm, h4⟩ := hm
  rw [hm]
  refine ⟨⟨by omega, by omega, by omega, by omega, by omega⟩, ?_⟩
  have e : (((m : Int) - 0).toNat) = m := by omega
  unfold rgD
  rw [e]
  refine q _ (by rw [List.length_map, List.length_range]; exact h4) fun x hx => ?_
  obtain ⟨i, hi, rfl⟩ := List.mem_map.mp hx
  have hi := List.mem_range.mp hi
  exact ⟨i, by rw [Int.zero_add], by omega⟩
theorem abs_lt_pow {z M : Int} {a : Nat} (h0 : 0 ≤ z) (h1 : z < M) (h2 : M < ((2 ^ a : Nat) : Int)) : z.natAbs < 2 ^ a := by
  omega
def s_pot : FD := fun ds n P => ∃ (ns : List Int) (k : Nat), ds = [.scr ns, .int k] ∧ k < 8 ∧ n ≤ 1000000000 ∧ P n .pot
theorem l_pot (c : Str → Addr) : ∀ ds n Q, s_pot ds n Q → dFn 5 2 (b__law_pot c) ds n Q := by
  rintro ds n Q ⟨ns, k, rfl, hk, h0, q⟩
  refine ⟨rfl, ?_⟩
  simp only [b__law_pot, dSeq, dSet, dIte, dTB, dOp, dVar, envOf, List.map_cons, List.map_nil, List.length_cons, List.length_nil, Nat.zero_add, Nat.reduceAdd, Nat.reduceSub, List.replicate, List.cons_append, List.nil_append, List.getElem?_cons_succ, List.getElem?_cons_zero, dBi, dCons, dNil, gLt, List.set_cons_succ, List.set_cons_zero, dC, gPow, gMod, gGe, ev_gI, ev_ixr, ev_inttoi, ev_abs, TC, ev_inttob, decide_eq_true_eq, true_and, ev_muli, ev_addi, ev_lenr, decide_eq_false_iff_not]
  have hk2 : (k : Int).natAbs < 2 ^ 3 := by
    have : (2 : Nat) ^ 3 = 8 := by decide
    omega
  have fin : ∀ (x z : Int), 0 ≤ z → z.natAbs < 2 ^ 1000 → dRetPot
                        (dLstO
                          (dCons (dVar 3)
                            (dCons
                              (dOp gMod
                                (dBi gInt
                                  (dCons
                                    (dOp gAdd
                                      (dOp gAdd (dOp gMul (dVar 4) (dC (D.int 74521)))
                                        (dOp gMul (dOp gMul (dC (D.int 7823)) (dVar 1)) (dVar 1)))
                                      (dC (D.int 199)))
                                    dNil))
                                (dC (D.int 2305843009213693921)))
                              (dCons (dC (D.int 0)) dNil))))
                        { nx := fun n x => Q n D.non, rt := Q } n
                        [Sl.val (D.scr ns), Sl.val (D.int k), Sl.val (D.int x), Sl.val (D.int z), Sl.val (D.int (x % 2305843009213693951))] := by
    intro x z z0 z1
    have y0 := Int.emod_nonneg x (b := 2305843009213693951) (by decide)
    have y1 := Int.emod_lt_of_pos x (b := 2305843009213693951) (by decide)
    have y2 := abs_lt_pow (a := 61) y0 y1 (by decide)
    simp only [dRetPot, dLstO, dCons, dVar, List.getElem?_cons_succ, List.getElem?_cons_zero, dOp, dBi, dC, dNil, gMod, List.length_cons, List.length_nil, Nat.zero_add, Nat.reduceAdd, Nat.reduceLeDiff, true_and, ev_muli, ev_addi, ev_inttoi, ev_gI]
    refine ⟨wide_mul y2 (b := 20) (by decide) (by decide) (by decide) (by decide), wide_mul (a := 20) (by decide) hk2 (by decide) (by decide) (by decide), wide_mul (a := 20) (b := 3) ?_ hk2 (by decide) (by decide) (by decide), by decide, _, _, _, rfl, z0, Nat.lt_trans z1 (by decide +kernel), Int.emod_nonneg _ (by decide), Int.lt_trans (Int.emod_lt_of_pos _ (by decide)) (by decide), by decide, by omega, q⟩
    have : (2 : Nat) ^ 20 = 1048576 := by decide
    omega
  have core : ∀ y : Int, 0 ≤ y % (10 ^ Int.toNat 60) ^ Int.toNat 5 ∧ (y % (10 ^ Int.toNat 60) ^ Int.toNat 5).natAbs < 2 ^ 999 := fun y => by
    have hM : (0 : Int) < (10 ^ Int.toNat 60) ^ Int.toNat 5 := by decide +kernel
    have hM2 : ((10 ^ Int.toNat 60) ^ Int.toNat 5 : Int) < ((2 ^ 999 : Nat) : Int) := by decide +kernel
    have l0 := Int.emod_nonneg y (Int.ne_of_gt hM)
    exact ⟨l0, abs_lt_pow l0 (Int.emod_lt_of_pos y hM) hM2⟩
  have tim : ∀ (z : Int) (p : Prop) [Decidable p], 0 ≤ z → z.natAbs < 2 ^ 999 → CMulW z (if p then 1 else 0) ∧ 0 ≤ z * (if p then 1 else 0) ∧ (z * (if p then 1 else 0)).natAbs < 2 ^ 1000 := fun z p _ z0 z1 => by
    refine ⟨wide_mul z1 (b := 1) (by split <;> decide) (by decide) (by decide) (by decide), ?_, ?_⟩
    · split
      · omega
      · omega
    · split
      · rw [Int.mul_one]
        exact Nat.lt_trans z1 (by decide +kernel)
      · rw [Int.mul_zero]
        decide +kernel
  have p1 : CPowW 10 60 := ⟨by decide, by decide, by decide +kernel⟩
  have p2 : CPowW (10 ^ Int.toNat 60) 5 := ⟨by decide, by decide, by decide +kernel⟩
  have p3 : CPowW 10 18 := ⟨by decide, by decide, by decide +kernel⟩
  refine ⟨fun h => ?_, fun h => ?_⟩
  · have hj : k < ns.length := by omega
    refine ⟨ns[k], atI_nat (List.getElem?_eq_getElem hj), p1, p2, by decide +kernel, p3, ?_, by decide, ?_⟩
    · exact (tim _ _ (core _).1 (core _).2).1
    · exact fin _ _ (tim _ _ (core _).1 (core _).2).2.1 (tim _ _ (core _).1 (core _).2).2.2
  · refine ⟨wide_mul (a := 20) (by decide) hk2 (by decide) (by decide) (by decide), p1, p2, by decide +kernel, p3, ?_, by decide, ?_⟩
    · exact (tim _ _ (core _).1 (core _).2).1
    · exact fin _ _ (tim _ _ (core _).1 (core _).2).2.1 (tim _ _ (core _).1 (core _).2).2.2
end LW
namespace LW
open PySem L2 Pd
theorem all_bls {α : Type} (l : List α) : ∃ ns, isBls (l.map fun _ => D.bl true) = some ns ∧ ns.all id = true := by
  refine ⟨l.map fun _ => true, ?_, by simp⟩
  rw [show (l.map fun _ => D.bl true) = (l.map fun _ => true).map D.bl by rw [List.map_map]; rfl, map_isBls]
def RightOk (s : FD) (B : Nat) : Prop := ∀ n Q, B ≤ n → (∀ n', n' ≤ n → n ≤ n' + B → Q n' (.bl true)) → s [.pot] n Q
theorem isBls_rep (m : Nat) : ∃ ns, isBls (List.replicate m (D.bl true)) = some ns ∧ ns.all id = true := by
  have := all_bls (List.range m)
  rw [List.map_const', List.length_range] at this
  exact this
theorem cells_all {s : FD} {B : Nat} (hs : RightOk s B) {ns : List Int} {Q : Nat → D → Prop} {sl : Sl} (q : ∀ n', Q n' (.bl true)) : ∀ (xs : List D) (m n : Nat), (∀ x ∈ xs, ∃ k : Nat, x = .int k ∧ k < 8) → xs.length * B ≤ n → n ≤ 1000000000 →
    compW (gNm 1) dYes (dCall s [] (dCons (dCall s_pot [] (dCons (dVar 0) (dCons (dVar 1) dNil))) dNil)) [.val (.scr ns), sl] (fun n' ds => ∃ ns, isBls ds = some ns ∧ Q n' (.bl (ns.all id))) xs (List.replicate m (.bl true)) n
  | [], m, n, _, _, _ => by
    obtain ⟨ns, e1, e2⟩ := isBls_rep m
    exact ⟨ns, e1, by rw [e2]; exact q n⟩
  | x :: xs, m, n, h, hn, h9 => by
    obtain ⟨k, rfl, hk⟩ := h x (by simp)
    rw [List.length_cons, Nat.succ_mul] at hn
    simp only [compW, gNm, dYes, dCall, dCons, dVar, List.set_cons_succ, List.set_cons_zero, List.getElem?_cons_zero, List.getElem?_cons_succ, dNil, List.append_nil, forall_const, reduceCtorEq, false_implies, and_true]
    refine ⟨ns, k, rfl, hk, h9, hs n _ (by omega) fun n' a b => ?_⟩
    rw [show List.replicate m (D.bl true) ++ [D.bl true] = List.replicate (m + 1) (D.bl true) by rw [List.replicate_succ']]
    exact cells_all hs q xs (m + 1) n' (fun y hy => h y (List.mem_cons_of_mem _ hy)) (by omega) (by omega)
def s_law2 : FD := fun ds n P => ∃ ns : List Int, ds = [.scr ns] ∧ n = 1000000000 ∧ ∀ n', P n' (.bl true)
end LW
namespace LW
open PySem L2 Pd
def b_law_v15 (c : Str → Addr) (s__law_cells : FD) (s__law_pot : FD) (s__law_right : FD) : DS := (dRet (dBi gAll (dCons (dO (dComp (iVal (dCall s__law_cells [] (dCons (dVar 0) (dCons (dC (.int 2)) dNil)))) (gNm 1) dYes (dCall s__law_right [] (dCons (dCall s__law_pot [] (dCons (dVar 0) (dCons (dVar 1) dNil))) dNil)) [1])) dNil)))
end LW
namespace LW
open PySem L2 Pd
def lawA (lim : Int) (s_cells s_pot s_right : FD) : DS := (dRet (dBi gAll (dCons (dO (dComp (iVal (dCall s_cells [] (dCons (dVar 0) (dCons (dC (.int lim)) dNil)))) (gNm 1) dYes (dCall s_right [] (dCons (dCall s_pot [] (dCons (dVar 0) (dCons (dVar 1) dNil))) dNil)) [1])) dNil)))
theorem l_lawA {s : FD} {B lim : Nat} (hs : RightOk s B) (h1 : 1 ≤ lim) (h8 : lim ≤ 8) (hB : B ≤ 100000000) : ∀ ds n Q, s_law2 ds n Q → dFn 2 1 (lawA lim s_cells s_pot s) ds n Q := by
  rintro ds n Q ⟨ns, rfl, rfl, q⟩
  refine ⟨rfl, ?_⟩
  simp only [lawA, dRet, dBi, dCons, dO, dComp, iVal, dCall, dVar, envOf, List.map_cons, List.map_nil, List.length_cons, List.length_nil, Nat.zero_add, Nat.reduceSub, List.replicate, List.cons_append, List.nil_append, List.getElem?_cons_zero, dC, dNil, List.append_nil, wipeE, List.set_cons_succ, List.set_cons_zero, ev_all]
  refine ⟨ns, lim, rfl, h1, h8, fun xs hx hk => ⟨xs, rfl, by omega, ?_⟩⟩
  exact cells_all hs q xs 0 _ (fun x hx => by
    obtain ⟨k, e, h⟩ := hk x hx
    exact ⟨k, e, by omega⟩) (Nat.le_trans (Nat.mul_le_mul hx hB) (Nat.le_trans (Nat.mul_le_mul_right _ h8) (by decide))) (Nat.le_refl _)
theorem l_law_v15 (c : Str → Addr) {s : FD} {B : Nat} (hs : RightOk s B) (hB : B ≤ 100000000) : ∀ ds n Q, s_law2 ds n Q → dFn 2 1 (b_law_v15 c s_cells s_pot s) ds n Q := l_lawA (lim := 2) hs (by decide) (by decide) hB
end LW
namespace LW
open PySem L2 Pd
theorem for_map {α : Type} (f : α → D) {dg : DG} {b : DS} {N : DN} (Inv : List α → List α → Nat → Ev → Prop) (l : List α) {n : Nat} {ε : Ev} (hi : Inv [] l n ε) (h0 : ∀ n ε, Inv l [] n ε → N.nx n ε)
    (hs : ∀ a x r n ε (nxt : Nat → Ev → Prop), l = a ++ x :: r → (∀ n' ε', Inv (a ++ [x]) r n' ε' → nxt n' ε') → Inv a (x :: r) n ε → dg (f x) ε fun ε' => b { N with nx := nxt, ct := nxt, bk := N.nx } n ε') : forW dg b N (l.map f) n ε := by
  refine for_ind (fun ys n' ε' => ∃ a r, l = a ++ r ∧ ys = r.map f ∧ Inv a r n' ε') ⟨[], l, rfl, rfl, hi⟩ ?_ ?_
  · rintro n' ε' ⟨a, r, e1, e2, i⟩
    have : r = [] := List.map_eq_nil_iff.mp e2.symm
    subst this
    rw [List.append_nil] at e1
    rw [← e1] at i
    exact h0 n' ε' i
  · rintro y ys n' ε' nxt ih ⟨a, r, e1, e2, i⟩
    match r, e2 with
    | x :: r, e2 =>
      rw [List.map_cons] at e2
      obtain ⟨rfl, rfl⟩ := List.cons.inj e2
      exact hs a x r n' ε' nxt e1 (fun n2 ε2 i2 => ih n2 ε2 ⟨a ++ [x], r, by rw [e1, List.append_assoc]; rfl, rfl, i2⟩) i
theorem compW_inv {dg : DG} {t : DT} {d : DE} {ε : Ev} {P : Nat → List D → Prop} (Inv : List D → List D → Nat → Prop) (h0 : ∀ acc n, Inv [] acc n → P n acc)
    (hs : ∀ x xs acc n (K : List D → Nat → Prop), (∀ acc' n', Inv xs acc' n' → K acc' n') → Inv (x :: xs) acc n → dg x ε fun ε' => t n ε' fun n1 k => (k = true → d n1 ε' fun n2 y => K (acc ++ [y]) n2) ∧ (k = false → K acc n1)) :
    ∀ (xs acc : List D) (n : Nat), Inv xs acc n → compW dg t d ε P xs acc n
  | [], acc, n, i => h0 acc n i
  | x :: xs, acc, n, i => hs x xs acc n (fun acc' n' => compW dg t d ε P xs acc' n') (fun acc' n' i' => compW_inv Inv h0 hs xs acc' n' i') i
theorem compW_fm {α : Type} {dg : DG} {t : DT} {d : DE} {ε : Ev} {P : Nat → List D → Prop} (f g : α → D) (p : α → Bool) : ∀ (bs : List α) (acc : List D) (n : Nat),
    (∀ b ∈ bs, ∀ (n : Nat) (K : Nat → D → Prop) (K' : Nat → Prop), (p b = true → K n (g b)) → (p b = false → K' n) → dg (f b) ε fun ε' => t n ε' fun n1 k => (k = true → d n1 ε' fun n2 y => K n2 y) ∧ (k = false → K' n1)) →
    P n (acc ++ (bs.filter p).map g) → compW dg t d ε P (bs.map f) acc n
  | [], acc, n, _, q => by
    rw [List.filter_nil, List.map_nil, List.append_nil] at q
    exact q
  | x :: xs, acc, n, h, q => by
    refine h x (by simp) n (fun n2 y => compW dg t d ε P (xs.map f) (acc ++ [y]) n2) (fun n1 => compW dg t d ε P (xs.map f) acc n1) (fun hf => ?_) (fun hf => ?_)
    · refine compW_fm f g p xs _ n (fun y hy => h y (List.mem_cons_of_mem _ hy)) ?_
      rw [List.filter_cons_of_pos hf, List.map_cons] at q
      rw [List.append_assoc]
      exact q
    · refine compW_fm f g p xs _ n (fun y hy => h y (List.mem_cons_of_mem _ hy)) ?_
      rw [List.filter_cons_of_neg (by rw [hf]; decide)] at q
      exact q
theorem eqInts {a b : List Nat} : eqD (.lst (a.map intD)) (.lst (b.map intD)) = decide (a = b) := by
  induction a generalizing b with
  | nil => cases b <;> simp [eqD, eqDs]
  | cons x a ih =>
    cases b with
    | nil => simp [eqD, eqDs]
    | cons y b =>
      have ih' := ih (b := b)
      rw [eqD] at ih'
      rw [List.map_cons, List.map_cons, eqD, eqDs, ih', show eqD (intD x) (intD y) = decide (x = y) by unfold intD; rw [eqD_int, decide_eq_decide]; omega]
      simp [Bool.decide_and]
end LW
namespace LW
open PySem L2 Pd
def rep (w : List Nat) (c k : Nat) : Prop := ∀ i, c - k ≤ i → i < c → i + k < w.length → w[i]? = w[i + k]?
instance (w : List Nat) (c k : Nat) : Decidable (rep w c k) :=
  decidable_of_iff (∀ i < c, c - k ≤ i → i + k < w.length → w[i]? = w[i + k]?) ⟨fun h i a b d => h i b a d, fun h i b a d => h i a b d⟩
theorem rep_size (w : List Nat) (c : Nat) : rep w c w.length := fun i _ _ h => by omega
def reps (w : List Nat) (c : Nat) : List Nat := (List.range' 1 w.length).filter fun k => decide (rep w c k)
def short (w : List Nat) (c : Nat) : Nat := (reps w c).headD 0
theorem mem_reps {w : List Nat} {c k : Nat} : k ∈ reps w c ↔ 1 ≤ k ∧ k ≤ w.length ∧ rep w c k := by
  unfold reps
  rw [List.mem_filter, List.mem_range'_1]
  simp only [decide_eq_true_eq]
  constructor
  · rintro ⟨⟨a, b⟩, c⟩; exact ⟨a, by omega, c⟩
  · rintro ⟨a, b, c⟩; exact ⟨⟨a, by omega⟩, c⟩
theorem reps_asc (w : List Nat) (c : Nat) : (reps w c).Pairwise (· < ·) := (asc_range _ _).filter _
theorem reps_cons {w : List Nat} (h : w ≠ []) (c : Nat) : ∃ t, reps w c = short w c :: t := by
  have : w.length ∈ reps w c := mem_reps.mpr ⟨List.length_pos_iff.mpr h, Nat.le_refl _, rep_size w c⟩
  unfold short
  cases e : reps w c with
  | nil => rw [e] at this; cases this
  | cons x t => exact ⟨t, rfl⟩
theorem short_mem {w : List Nat} (h : w ≠ []) (c : Nat) : short w c ∈ reps w c := by
  obtain ⟨t, e⟩ := reps_cons h c
  rw [e]
  simp
theorem short_le {w : List Nat} {c k : Nat} (h : k ∈ reps w c) : short w c ≤ k := by
  have hne : w ≠ [] := fun e => by subst e; cases h
  obtain ⟨t, e⟩ := reps_cons hne c
  have a := reps_asc w c
  rw [e] at h a
  rw [List.pairwise_cons] at a
  rcases List.mem_cons.mp h with z | z
  · omega
  · have := a.1 k z
    omega
end LW
namespace LW
open PySem L2 Pd
theorem isBls_mapN (f : Nat → Bool) (l : List Nat) : isBls (l.map fun i => D.bl (f i)) = some (l.map f) := by
  rw [show (l.map fun i => D.bl (f i)) = (l.map f).map D.bl by rw [List.map_map]; rfl, map_isBls]
theorem all_mapN (f : Nat → Bool) (l : List Nat) : (l.map f).all id = l.all f := by rw [List.all_map]; rfl
theorem atI_str {l : List Nat} {i : Nat} (h : i < l.length) : L2.atI l (i : Int) = some l[i] := atI_nat (List.getElem?_eq_getElem h)
def s_is_repL : FD := fun ds n P => ∃ (l : List Nat) (c k : Nat), ds = [.str l, .int c, .int k] ∧ l.length ≤ 1000000 ∧ c ≤ l.length ∧ k ≤ 1000000 ∧ P n (.bl (decide (rep l c k)))
theorem l_is_repL (c : Str → Addr) : ∀ ds n Q, s_is_repL ds n Q → dFn 5 3 (b__law_is_repeat c) ds n Q := by
  rintro ds n Q ⟨l, ct, k, rfl, h1, h2, h3, q⟩
  refine ⟨rfl, ?_⟩
  have hm : (if ((ct : Int) - (k : Int) > 0) then ((ct : Int) - (k : Int)) else 0) = ((ct - k : Nat) : Int) := by split <;> omega
  simp only [b__law_is_repeat, dSeq, dSet, dO, dComp, iRg2, dBi, dCons, dC, dOp, dVar, envOf, List.map_cons, List.map_nil, List.length_cons, List.length_nil, Nat.zero_add, Nat.reduceAdd, Nat.reduceSub, List.replicate, List.cons_append, List.nil_append, List.getElem?_cons_succ, List.getElem?_cons_zero, Pd.gSub, dNil, gLt, wipeE, List.set_cons_succ, List.set_cons_zero, dRet, iVal, ev_srcl, Option.some.injEq, ev_all, exists_eq_left', ev_gI, TC, ev_max, true_and]
  rw [hm, rngD_eq, show (((ct : Nat) : Int) - ((ct - k : Nat) : Int)).toNat = ct - (ct - k) by omega]
  refine ⟨⟨by omega, by omega, by omega, by omega⟩, by rw [List.length_map, List.length_range']; omega, ?_⟩
  refine compW_pure (tI fun i => decide (i + k < l.length)) id _ _ _ (fun x hx n K K' q1 q2 => ?_) ?_
  · obtain ⟨i, hi, rfl⟩ := List.mem_map.mp hx
    simp only [intD, tI_int, decide_eq_true_eq, decide_eq_false_iff_not, gNm, dTB, dOp, dVar, List.set_cons_succ, List.set_cons_zero, List.getElem?_cons_succ, List.getElem?_cons_zero, dBi, dCons, dNil, ev_lens, ev_addi, ev_gI, TC, true_and] at q1 q2 ⊢
    exact ⟨by omega, fun h => q1 (by omega), fun h => q2 (by omega)⟩
  · rw [List.nil_append, List.map_id, filter_intD]
    have hle : (((List.range' (ct - k) (ct - (ct - k))).filter fun i => decide (i + k < l.length)).map intD).length ≤ 16777216 := by
      rw [List.length_map]
      refine Nat.le_trans (List.length_filter_le _ _) ?_
      rw [List.length_range']
      omega
    refine ⟨by simpa using hle, compW_map intD (fun i => .bl (decide (l[i]? = l[i + k]?))) _ _ _ (fun i hi n K K' q1 => ?_) ?_⟩
    · obtain ⟨i1, i2⟩ := List.mem_filter.mp hi
      rw [List.mem_range'_1] at i1
      simp only [decide_eq_true_eq] at i2
      simp only [gNm, dYes, dOp, dVar, intD, List.set_cons_succ, List.set_cons_zero, List.getElem?_cons_zero, List.getElem?_cons_succ, gEq, ev_addi, ev_ixs, ev_oks, eqD_str, true_and, forall_const, reduceCtorEq, false_implies, and_true]
      refine ⟨by omega, _, atI_str (by omega), by omega, _, (by rw [show (i : Int) + (k : Int) = ((i + k : Nat) : Int) by omega]; exact atI_str i2), ?_⟩
      rw [List.getElem?_eq_getElem (by omega : i < l.length), List.getElem?_eq_getElem i2] at q1
      simpa using q1
    · rw [List.nil_append]
      refine ⟨_, isBls_mapN (fun i => decide (l[i]? = l[i + k]?)) _, ?_⟩
      rw [all_mapN]
      have e : (((List.range' (ct - k) (ct - (ct - k))).filter fun i => decide (i + k < l.length)).all fun i => decide (l[i]? = l[i + k]?)) = decide (rep l ct k) := by
        rw [Bool.eq_iff_iff, List.all_eq_true]
        simp only [decide_eq_true_eq, List.mem_filter, List.mem_range'_1]
        constructor
        · intro h i a b d
          exact h i ⟨⟨a, by omega⟩, d⟩
        · rintro h i ⟨⟨a, b⟩, d⟩
          exact h i a (by omega) d
      rw [e]
      exact q
def s_shortL : FD := fun ds n P => ∃ (l : List Nat) (c : Nat), ds = [.str l, .int c] ∧ l ≠ [] ∧ l.length ≤ 100000 ∧ c ≤ l.length ∧ P n (.int (short l c : Nat))
theorem l_shortL (c : Str → Addr) : ∀ ds n Q, s_shortL ds n Q → dFn 3 2 (b__law_shortest c s_is_repL) ds n Q := by
  rintro ds n Q ⟨l, ct, rfl, h0, h1, h2, q⟩
  refine ⟨rfl, ?_⟩
  simp only [b__law_shortest, dRet, dOp, dO, dComp, iRg2, dC, dBi, dCons, dVar, envOf, List.map_cons, List.map_nil, List.length_cons, List.length_nil, Nat.zero_add, Nat.reduceAdd, Nat.reduceSub, List.replicate, List.cons_append, List.nil_append, List.getElem?_cons_zero, dNil, wipeE, List.set_cons_succ, List.set_cons_zero, ev_ixl, ev_lens, ev_addi]
  have hp : 0 < l.length := List.length_pos_iff.mpr h0
  rw [show ((l.length : Int) + 1 - 1).toNat = l.length by omega]
  refine ⟨by omega, ⟨by decide, by decide, by omega, by omega⟩, by rw [rngD_length]; omega, ?_⟩
  rw [show (1 : Int) = ((1 : Nat) : Int) from rfl, rngD_eq]
  refine compW_pure (tI fun i => decide (rep l ct i)) id _ _ _ (fun x hx n K K' q1 q2 => ?_) ?_
  · obtain ⟨i, hi, rfl⟩ := List.mem_map.mp hx
    rw [List.mem_range'_1] at hi
    simp only [intD, tI_int, decide_eq_true_eq, decide_eq_false_iff_not, gNm, dTB, dCall, dCons, dVar, List.set_cons_succ, List.set_cons_zero, List.getElem?_cons_zero, List.getElem?_cons_succ, dNil, List.append_nil] at q1 q2 ⊢
    exact ⟨l, ct, i, rfl, by omega, by omega, by omega, fun h => q1 (of_decide_eq_true h), fun h => q2 (of_decide_eq_false h)⟩
  · rw [List.nil_append, List.map_id, filter_intD]
    obtain ⟨t, e⟩ := reps_cons h0 ct
    rw [show (List.range' 1 l.length).filter (fun i => decide (rep l ct i)) = reps l ct from rfl, e, List.map_cons]
    exact ⟨_, ev_at0 _ _, q⟩
def s_rowL : FD := fun ds n P => ∃ (l : List Nat), ds = [.str l] ∧ l.length ≤ 100000 ∧ P n (.lst ((List.range l.length).map fun c => intD (short l c)))
theorem rngD0 (n : Nat) : rngD 0 n = (List.range n).map intD := by
  have := rngD_eq n 0
  rw [List.range_eq_range']
  exact this
theorem l_rowL (c : Str → Addr) : ∀ ds n Q, s_rowL ds n Q → dFn 2 1 (b__law_row c s_shortL) ds n Q := by
  rintro ds n Q ⟨l, rfl, h1, q⟩
  refine ⟨rfl, ?_⟩
  simp only [b__law_row, dRet, dO, dComp, iRg1, dBi, dCons, dVar, envOf, List.map_cons, List.map_nil, List.length_cons, List.length_nil, Nat.zero_add, Nat.reduceSub, List.replicate, List.cons_append, List.nil_append, List.getElem?_cons_zero, dNil, wipeE, List.set_cons_succ, List.set_cons_zero, ev_lens, Int.toNat_natCast]
  refine ⟨by omega, by omega, by omega, by rw [rngD_length]; omega, ?_⟩
  rw [rngD0]
  refine compW_map intD (fun c => intD (short l c)) _ _ _ (fun i hi n K K' q1 => ?_) ?_
  · have hi := List.mem_range.mp hi
    simp only [gNm, dYes, dCall, dCons, dVar, intD, List.set_cons_succ, List.set_cons_zero, List.getElem?_cons_zero, List.getElem?_cons_succ, dNil, List.append_nil, forall_const, reduceCtorEq, false_implies, and_true]
    exact ⟨l, i, rfl, (fun e => by subst e; cases hi), by omega, by omega, q1⟩
  · rw [List.nil_append]
    exact q
end LW
namespace LW
open PySem L2 Pd
def fw (w t : List Nat) (p i : Nat) : Nat := ((List.range' i (w.length - i)).find? fun j => decide (w[j]? ≠ t[p + j]?)).getD w.length
def lw (w t : List Nat) (p kn c : Nat) : Option Nat := (List.range' kn (c - kn)).reverse.find? fun j => decide (w[j]? ≠ t[p + j]?)
structure PS where
  pl : Nat
  kn : Nat
  fd : List Nat
  lk : Nat
def stp (w t : List Nat) (c s : Nat) (kp : Bool) (st : PS) : PS :=
  let a := max c st.kn
  let wr := fw w t st.pl a
  if wr < w.length then ⟨st.pl + wr - c + 1, 0, st.fd, st.lk + (wr + 1 - a)⟩
  else match lw w t st.pl st.kn c with
    | none => ⟨st.pl + s, if kp then w.length - s else 0, st.fd ++ [st.pl], st.lk + (w.length - a) + (c - st.kn)⟩
    | some j => ⟨st.pl + s, if kp then w.length - s else 0, st.fd, st.lk + (w.length - a) + (c - j)⟩
def goP (w t : List Nat) (c s : Nat) (kp : Bool) : Nat → PS → PS
  | 0, st => st
  | f + 1, st => if st.pl + w.length ≤ t.length then goP w t c s kp f (stp w t c s kp st) else st
theorem range'_split (lo p n : Nat) (h1 : lo ≤ p) (h2 : p ≤ lo + n) : List.range' lo n = List.range' lo (p - lo) ++ List.range' p (lo + n - p) := by
  have := List.range'_append (s := lo) (m := p - lo) (n := lo + n - p) (step := 1)
  rw [Nat.one_mul, show lo + (p - lo) = p by omega, show (p - lo) + (lo + n - p) = n by omega] at this
  exact this.symm
theorem fw_all {w t : List Nat} {p i : Nat} (h : ∀ j, i ≤ j → j < w.length → w[j]? = t[p + j]?) : fw w t p i = w.length := by
  unfold fw
  rw [List.find?_eq_none.mpr]
  · rfl
  · intro j hj
    rw [List.mem_range'_1] at hj
    simpa using h j hj.1 (by omega)
theorem fw_spec {w t : List Nat} {p i : Nat} (hi : i ≤ w.length) : (fw w t p i = w.length ∧ ∀ j, i ≤ j → j < w.length → w[j]? = t[p + j]?) ∨ (i ≤ fw w t p i ∧ fw w t p i < w.length ∧ w[fw w t p i]? ≠ t[p + fw w t p i]? ∧ ∀ j, i ≤ j → j < fw w t p i → w[j]? = t[p + j]?) := by
  cases e : (List.range' i (w.length - i)).find? fun j => decide (w[j]? ≠ t[p + j]?) with
  | none =>
    rw [List.find?_eq_none] at e
    have h : ∀ j, i ≤ j → j < w.length → w[j]? = t[p + j]? := fun j a b => by
      have := e j (by rw [List.mem_range'_1]; omega)
      simpa using this
    exact .inl ⟨fw_all h, h⟩
  | some m =>
    have h1 := List.mem_of_find?_eq_some e
    have h2 := List.find?_some e
    rw [List.mem_range'_1] at h1
    have ef : fw w t p i = m := by
      unfold fw
      rw [e]
      rfl
    rw [ef]
    refine .inr ⟨h1.1, by omega, by simpa using h2, fun j a b => ?_⟩
    rw [List.find?_range'_eq_some] at e
    have := e.2.2 j a b
    simpa using this
theorem fw_le {w t : List Nat} {p i : Nat} (hi : i ≤ w.length) : i ≤ fw w t p i ∧ fw w t p i ≤ w.length := by
  rcases fw_spec (w := w) (t := t) (p := p) hi with h | h
  · rw [h.1]; exact ⟨hi, Nat.le_refl _⟩
  · exact ⟨h.1, Nat.le_of_lt h.2.1⟩
theorem lw_none {w t : List Nat} {p kn c : Nat} : lw w t p kn c = none ↔ ∀ j, kn ≤ j → j < c → w[j]? = t[p + j]? := by
  unfold lw
  rw [List.find?_eq_none]
  constructor
  · intro h j a b
    have := h j (by rw [List.mem_reverse, List.mem_range'_1]; omega)
    simpa using this
  · intro h j hj
    rw [List.mem_reverse, List.mem_range'_1] at hj
    simpa using h j hj.1 (by omega)
theorem lw_some {w t : List Nat} {p kn c j : Nat} (h : lw w t p kn c = some j) : kn ≤ j ∧ j < c ∧ w[j]? ≠ t[p + j]? := by
  unfold lw at h
  have h1 := List.mem_of_find?_eq_some h
  have h2 := List.find?_some h
  rw [List.mem_reverse, List.mem_range'_1] at h1
  exact ⟨h1.1, by omega, by simpa using h2⟩
theorem stp_pl {w t : List Nat} {c s : Nat} {kp : Bool} {st : PS} (hc : c < w.length) (hs : 1 ≤ s) (hk : st.kn < w.length) : st.pl + 1 ≤ (stp w t c s kp st).pl := by
  unfold stp
  have := fw_le (w := w) (t := t) (p := st.pl) (i := max c st.kn) (by omega)
  dsimp only
  split
  · dsimp only; omega
  · split
    · dsimp only; omega
    · dsimp only; omega
theorem stp_kn {w t : List Nat} {c s : Nat} {kp : Bool} {st : PS} (hw : 0 < w.length) (hs : 1 ≤ s) : (stp w t c s kp st).kn < w.length := by
  unfold stp
  dsimp only
  split
  · exact hw
  · split
    · dsimp only; split <;> omega
    · dsimp only; split <;> omega
theorem stp_fd {w t : List Nat} {c s : Nat} {kp : Bool} {st : PS} : (stp w t c s kp st).fd.length ≤ st.fd.length + 1 := by
  unfold stp
  dsimp only
  split
  · dsimp only; omega
  · split
    · simp
    · dsimp only; omega
theorem stp_hit {w t : List Nat} {c s : Nat} {kp : Bool} {st : PS} (h : fw w t st.pl (max c st.kn) < w.length) : stp w t c s kp st = ⟨st.pl + fw w t st.pl (max c st.kn) - c + 1, 0, st.fd, st.lk + (fw w t st.pl (max c st.kn) + 1 - max c st.kn)⟩ := by
  unfold stp
  dsimp only
  rw [if_pos h]
theorem stp_full {w t : List Nat} {c s : Nat} {kp : Bool} {st : PS} (h : ¬ fw w t st.pl (max c st.kn) < w.length) (hl : lw w t st.pl st.kn c = none) : stp w t c s kp st = ⟨st.pl + s, if kp then w.length - s else 0, st.fd ++ [st.pl], st.lk + (w.length - max c st.kn) + (c - st.kn)⟩ := by
  unfold stp
  dsimp only
  rw [if_neg h, hl]
theorem stp_part {w t : List Nat} {c s : Nat} {kp : Bool} {st : PS} {j : Nat} (h : ¬ fw w t st.pl (max c st.kn) < w.length) (hl : lw w t st.pl st.kn c = some j) : stp w t c s kp st = ⟨st.pl + s, if kp then w.length - s else 0, st.fd, st.lk + (w.length - max c st.kn) + (c - j)⟩ := by
  unfold stp
  dsimp only
  rw [if_neg h, hl]
def s_is_integer : FD := fun ds n P => (∃ (v lo hi : Int), ds = [.int v, .int lo, .int hi] ∧ P n (.bl (decide (lo ≤ v ∧ v ≤ hi)))) ∨ (∃ (v lo : Int), ds = [.int v, .int lo, .non] ∧ P n (.bl (decide (lo ≤ v))))
def s_is_tuple : FD := fun ds n P => (∃ (xs : List D) (lo hi : Nat), ds = [.tup xs, .int lo, .int hi] ∧ P n (.bl (decide (lo ≤ xs.length ∧ xs.length ≤ hi)))) ∨ ∃ (xs : List D) (lo : Nat), ds = [.tup xs, .int lo, .non] ∧ P n (.bl (decide (lo ≤ xs.length)))
end LW
namespace LW
open PySem L2 Pd
theorem isPds_ints : ∀ (l : List Nat), isPds (l.map intD) = true ∧ dpts (l.map intD) ≤ 1
  | [] => ⟨rfl, by decide⟩
  | x :: l => by
    have ih := isPds_ints l
    rw [List.map_cons, isPds, dpts, ih.1]
    refine ⟨rfl, ?_⟩
    have : dpt (intD x) ≤ 1 := by unfold intD dpt; omega
    omega
theorem okD_ints (l : List Nat) : okD (.lst (l.map intD)) = true := by
  have h := isPds_ints l
  unfold okD
  rw [isPd, dpt, h.1, Bool.true_and, decide_eq_true_eq]
  omega
end LW
namespace LW
open PySem L2 Pd
def goes (w : List Nat) (c k : Nat) : Prop := ∀ i, max c k ≤ i → i < w.length → w[i]? = w[i - k]?
instance (w : List Nat) (c k : Nat) : Decidable (goes w c k) :=
  decidable_of_iff (∀ i < w.length, max c k ≤ i → w[i]? = w[i - k]?) ⟨fun h i a b => h i b a, fun h i b a => h i a b⟩
def stepOf (w : List Nat) (c : Nat) : Nat := if ∀ k, k ∈ reps w c → c + k < w.length → goes w c k then short w c else 0
def isRight (w : List Nat) (c s : Nat) (kp : Bool) : Prop := s ≤ stepOf w c ∧ (kp = false ∨ s = w.length ∨ (c ≤ s ∧ per w s))
instance (w : List Nat) (c s : Nat) (kp : Bool) : Decidable (isRight w c s kp) := by unfold isRight; exact inferInstance
def standsAt (w t : List Nat) (p : Nat) : Prop := (t.drop p).take w.length = w
instance (w t : List Nat) (p : Nat) : Decidable (standsAt w t p) := by unfold standsAt; exact inferInstance
theorem standsAt_iff {w t : List Nat} {p : Nat} (h : p + w.length ≤ t.length) : standsAt w t p ↔ ∀ i, i < w.length → w[i]? = t[p + i]? := by
  unfold standsAt
  constructor
  · intro e i hi
    have := congrArg (fun l => l[i]?) e
    simp only [List.getElem?_take, List.getElem?_drop] at this
    rw [if_pos hi] at this
    exact this.symm
  · intro h'
    apply List.ext_getElem?
    intro i
    rw [List.getElem?_take, List.getElem?_drop]
    split
    · rename_i hi
      exact (h' i hi).symm
    · rw [List.getElem?_eq_none (by omega)]
end LW
namespace LW
open PySem L2 Pd
def goodP (w t : List Nat) (p : Nat) : Prop := p + w.length ≤ t.length ∧ standsAt w t p
instance (w t : List Nat) (p : Nat) : Decidable (goodP w t p) := by unfold goodP; exact inferInstance
def upTo (w t : List Nat) (p : Nat) : List Nat := (List.range p).filter fun q => decide (goodP w t q)
theorem upTo_next {w t : List Nat} {p p' : Nat} (h : p < p') (hn : ∀ q, p < q → q < p' → ¬ goodP w t q) : upTo w t p' = upTo w t p ++ if goodP w t p then [p] else [] := by
  unfold upTo
  rw [List.range_eq_range', List.range_eq_range', range'_split 0 p p' (by omega) (by omega), List.filter_append, Nat.sub_zero, show 0 + p' - p = (p' - p - 1) + 1 by omega, List.range'_succ, List.filter_cons]
  have e : (List.range' (p + 1) (p' - p - 1)).filter (fun q => decide (goodP w t q)) = [] := by
    rw [List.filter_eq_nil_iff]
    intro q hq
    rw [List.mem_range'_1] at hq
    simpa using hn q (by omega) (by omega)
  rw [e]
  by_cases g : goodP w t p
  · simp [g]
  · simp [g]
theorem goodP_iff {w t : List Nat} {p : Nat} : goodP w t p ↔ p + w.length ≤ t.length ∧ ∀ i, i < w.length → w[i]? = t[p + i]? := by
  unfold goodP
  constructor
  · rintro ⟨a, b⟩
    exact ⟨a, (standsAt_iff a).mp b⟩
  · rintro ⟨a, b⟩
    exact ⟨a, (standsAt_iff a).mpr b⟩
def KnOk (w t : List Nat) (st : PS) : Prop := ∀ j, j < st.kn → w[j]? = t[st.pl + j]?
theorem step_right {w t : List Nat} {c s : Nat} {kp : Bool} {st : PS} (hc : c < w.length) (h1 : 1 ≤ s) (h2 : s ≤ w.length) (hr : isRight w c s kp) (hk : st.kn < w.length) (hkn : KnOk w t st) (hl : st.pl + w.length ≤ t.length) (hf : st.fd = upTo w t st.pl) :
    KnOk w t (stp w t c s kp st) ∧ (stp w t c s kp st).fd = upTo w t (stp w t c s kp st).pl := by
  have hgo : ∀ d, 1 ≤ d → d ≤ w.length → rep w c d → s ≤ d ∧ (c + d < w.length → goes w c d) := fun d d1 d2 hd => by
    have hm : d ∈ reps w c := mem_reps.mpr ⟨d1, d2, hd⟩
    have h := hr.1
    unfold stepOf at h
    split at h
    · rename_i hg
      exact ⟨Nat.le_trans h (short_le hm), hg d hm⟩
    · omega
  have shift : ∀ d m, 1 ≤ d → (∀ j, c ≤ j → j < m → w[j]? = t[st.pl + j]?) → m ≤ w.length → goodP w t (st.pl + d) → ∀ j, max c d ≤ j → j < m → w[j]? = w[j - d]? := fun d m d1 ha hm hg j a b => by
    have := (goodP_iff.mp hg).2 (j - d) (by omega)
    rw [show st.pl + d + (j - d) = st.pl + j by omega] at this
    rw [ha j (by omega) b, this]
  have rp : ∀ d m, 1 ≤ d → (∀ j, max c d ≤ j → j < m → w[j]? = w[j - d]?) → (c + d ≤ m ∨ m = w.length) → m ≤ w.length → rep w c d := fun d m d1 h hcm hm i a b e => by
    have := h (i + d) (by omega) (by omega)
    rw [Nat.add_sub_cancel] at this
    exact this.symm
  rcases fw_spec (w := w) (t := t) (p := st.pl) (i := max c st.kn) (by omega) with ⟨f1, f2⟩ | ⟨f1, f2, f3, f4⟩
  · have hall : ∀ j, c ≤ j → j < w.length → w[j]? = t[st.pl + j]? := fun j a b => by
      rcases Nat.lt_or_ge j st.kn with z | z
      · exact hkn j z
      · exact f2 j (by omega) b
    have hno : ∀ q, st.pl < q → q < st.pl + s → ¬ goodP w t q := fun q a b hg => by
      obtain ⟨d, rfl⟩ : ∃ d, q = st.pl + d := ⟨q - st.pl, by omega⟩
      have hs := shift d w.length (by omega) hall (Nat.le_refl _) hg
      have := (hgo d (by omega) (by omega) (rp d w.length (by omega) hs (.inr rfl) (Nat.le_refl _))).1
      omega
    have hkn' : ∀ (fd : List Nat) (lk : Nat), KnOk w t ⟨st.pl + s, if kp then w.length - s else 0, fd, lk⟩ := fun fd lk j hj => by
      have hj : j < (if kp then w.length - s else 0) := hj
      show w[j]? = t[st.pl + s + j]?
      cases kp with
      | false => exact absurd hj (Nat.not_lt_zero _)
      | true =>
        have hj : j < w.length - s := hj
        rcases hr.2 with z | z | z
        · cases z
        · omega
        · have e1 := (per_iff.mp z.2) j hj
          have e2 := hall (j + s) (by omega) (by omega)
          rw [e1, e2]
          congr 1
          omega
    cases hlw : lw w t st.pl st.kn c with
    | none =>
      rw [stp_full (by omega) hlw]
      refine ⟨hkn' _ _, ?_⟩
      have hl2 := lw_none.mp hlw
      have hg : goodP w t st.pl := goodP_iff.mpr ⟨hl, fun i hi => by
        rcases Nat.lt_or_ge i c with z | z
        · rcases Nat.lt_or_ge i st.kn with z2 | z2
          · exact hkn i z2
          · exact hl2 i z2 z
        · exact hall i z hi⟩
      show st.fd ++ [st.pl] = upTo w t (st.pl + s)
      rw [upTo_next (by omega) hno, if_pos hg, hf]
    | some j =>
      rw [stp_part (by omega) hlw]
      refine ⟨hkn' _ _, ?_⟩
      have hl2 := lw_some hlw
      have hg : ¬ goodP w t st.pl := fun z => hl2.2.2 ((goodP_iff.mp z).2 j (by omega))
      show st.fd = upTo w t (st.pl + s)
      rw [upTo_next (by omega) hno, if_neg hg, hf, List.append_nil]
  · rw [stp_hit f2]
    generalize fw w t st.pl (max c st.kn) = m at *
    refine ⟨fun j hj => absurd hj (Nat.not_lt_zero _), ?_⟩
    have hall : ∀ j, c ≤ j → j < m → w[j]? = t[st.pl + j]? := fun j a b => by
      rcases Nat.lt_or_ge j st.kn with z | z
      · exact hkn j z
      · exact f4 j (by omega) b
    have hno : ∀ q, st.pl < q → q < st.pl + m - c + 1 → ¬ goodP w t q := fun q a b hg => by
      obtain ⟨d, rfl⟩ : ∃ d, q = st.pl + d := ⟨q - st.pl, by omega⟩
      have hs := shift d m (by omega) hall (by omega) hg
      have hrep := rp d m (by omega) hs (.inl (by omega)) (by omega)
      have hgs := (hgo d (by omega) (by omega) hrep).2 (by omega)
      have e1 := hgs m (by omega) f2
      have e2 := (goodP_iff.mp hg).2 (m - d) (by omega)
      rw [show st.pl + d + (m - d) = st.pl + m by omega] at e2
      exact f3 (e1.trans e2)
    have hg : ¬ goodP w t st.pl := fun z => f3 ((goodP_iff.mp z).2 m f2)
    show st.fd = upTo w t (st.pl + m - c + 1)
    rw [upTo_next (by omega) hno, if_neg hg, hf, List.append_nil]
end LW
namespace LW
open PySem L2 Pd
theorem find_congr {α : Type} {p q : α → Bool} : ∀ {l : List α}, (∀ x ∈ l, p x = q x) → l.find? p = l.find? q
  | [], _ => rfl
  | x :: l, h => by
    rw [List.find?_cons, List.find?_cons, h x List.mem_cons_self, find_congr fun y hy => h y (List.mem_cons_of_mem _ hy)]
theorem fw_app {w t u : List Nat} {p i : Nat} (h : p + w.length ≤ t.length) : fw w (t ++ u) p i = fw w t p i := by
  unfold fw
  rw [find_congr fun j hj => ?_]
  obtain ⟨h1, h2⟩ := List.mem_range'_1.mp hj
  rw [List.getElem?_append_left (by omega)]
theorem lw_app {w t u : List Nat} {p kn c : Nat} (h : p + c ≤ t.length) : lw w (t ++ u) p kn c = lw w t p kn c := by
  unfold lw
  rw [find_congr fun j hj => ?_]
  obtain ⟨h1, h2⟩ := List.mem_range'_1.mp (List.mem_reverse.mp hj)
  rw [List.getElem?_append_left (by omega)]
theorem stp_app {w t u : List Nat} {c s : Nat} {kp : Bool} {st : PS} (hc : c < w.length) (h : st.pl + w.length ≤ t.length) : stp w (t ++ u) c s kp st = stp w t c s kp st := by
  unfold stp
  dsimp only
  rw [fw_app h, lw_app (by omega)]
theorem goP_kn {w t : List Nat} {c s : Nat} {kp : Bool} (hw : 0 < w.length) (hs : 1 ≤ s) : ∀ (f : Nat) (st : PS), st.kn < w.length → (goP w t c s kp f st).kn < w.length
  | 0, st, h => h
  | f + 1, st, h => by
    rw [goP]
    split
    · exact goP_kn hw hs f _ (stp_kn hw hs)
    · exact h
theorem goP_fdp {w t : List Nat} {c s : Nat} {kp : Bool} (hc : c < w.length) (hs : 1 ≤ s) (h2 : s ≤ w.length) : ∀ (f : Nat) (st : PS), st.kn < w.length → st.fd.length ≤ st.pl → st.pl ≤ t.length → (goP w t c s kp f st).fd.length ≤ (goP w t c s kp f st).pl ∧ (goP w t c s kp f st).pl ≤ t.length
  | 0, st, _, h, h' => ⟨h, h'⟩
  | f + 1, st, hk, h, h' => by
    rw [goP]
    split
    · rename_i hl
      have a1 := stp_pl (w := w) (t := t) (c := c) (s := s) (kp := kp) (st := st) hc hs hk
      have a2 := stp_fd (w := w) (t := t) (c := c) (s := s) (kp := kp) (st := st)
      refine goP_fdp hc hs h2 f _ (stp_kn (by omega) hs) (by omega) ?_
      have hf := fw_le (w := w) (t := t) (p := st.pl) (i := max c st.kn) (by omega)
      unfold stp
      dsimp only
      split
      · dsimp only; omega
      · split
        · dsimp only; omega
        · dsimp only; omega
    · exact ⟨h, h'⟩
def momF (d s : D) (t : List Nat) (x : D) : List (Str × D) := [("deed_then", d), ("search_then", s), ("text_then", .str t), ("state_then", x)]
def finF (c : Str → Addr) (bs : List Bl) (past : List D) (later : D) : List (Str × D) := [("own_word", wordD c bs), ("own_letters", .str (expand bs)), ("own_past", .tup past), ("own_later", later), ("own_block", .non)]
theorem put_ne {f g : Str} {v x : D} {r : List (Str × D)} (h : g ≠ f) : putFD f v ((g, x) :: r) = (g, x) :: putFD f v r := by
  show (if g = f then (g, v) :: r else (g, x) :: putFD f v r) = _
  rw [if_neg h]
theorem put_at {f : Str} {v x : D} {r : List (Str × D)} : putFD f v ((f, x) :: r) = (f, v) :: r := by
  show (if f = f then (f, v) :: r else (f, x) :: putFD f v r) = _
  rw [if_pos rfl]
section
variable {a b d e x v : D} {c : Str → Addr} {bs : List Bl} {p : List D} {t : List Nat}
theorem pm1 : putFD "deed_then" a ([] : List (Str × D)) = ([("deed_then", a)] : List (Str × D)) := rfl
theorem pm2 : putFD "search_then" b ([("deed_then", a)] : List (Str × D)) = ([("deed_then", a), ("search_then", b)] : List (Str × D)) := by rw [put_ne (by decide)]; rfl
theorem pm3 : putFD "text_then" d ([("deed_then", a), ("search_then", b)] : List (Str × D)) = ([("deed_then", a), ("search_then", b), ("text_then", d)] : List (Str × D)) := by rw [put_ne (by decide), put_ne (by decide)]; rfl
theorem pm4 : putFD "state_then" e ([("deed_then", a), ("search_then", b), ("text_then", d)] : List (Str × D)) = ([("deed_then", a), ("search_then", b), ("text_then", d), ("state_then", e)] : List (Str × D)) := by rw [put_ne (by decide), put_ne (by decide), put_ne (by decide)]; rfl
theorem pi1 : putFD "own_word" a ([] : List (Str × D)) = ([("own_word", a)] : List (Str × D)) := rfl
theorem pi2 : putFD "own_letters" b ([("own_word", a)] : List (Str × D)) = ([("own_word", a), ("own_letters", b)] : List (Str × D)) := by rw [put_ne (by decide)]; rfl
theorem pi3 : putFD "own_past" d ([("own_word", a), ("own_letters", b)] : List (Str × D)) = ([("own_word", a), ("own_letters", b), ("own_past", d)] : List (Str × D)) := by rw [put_ne (by decide), put_ne (by decide)]; rfl
theorem pi4 : putFD "own_later" e ([("own_word", a), ("own_letters", b), ("own_past", d)] : List (Str × D)) = ([("own_word", a), ("own_letters", b), ("own_past", d), ("own_later", e)] : List (Str × D)) := by rw [put_ne (by decide), put_ne (by decide), put_ne (by decide)]; rfl
theorem pi5 : putFD "own_block" x ([("own_word", a), ("own_letters", b), ("own_past", d), ("own_later", e)] : List (Str × D)) = ([("own_word", a), ("own_letters", b), ("own_past", d), ("own_later", e), ("own_block", x)] : List (Str × D)) := by rw [put_ne (by decide), put_ne (by decide), put_ne (by decide), put_ne (by decide)]; rfl
theorem pf_past {p' : List D} : putFD "own_past" (.tup p') (finF c bs p v) = finF c bs p' v := by
  unfold finF
  rw [put_ne (by decide), put_ne (by decide), put_at]
theorem pf_later : putFD "own_later" a (finF c bs p v) = finF c bs p a := by
  unfold finF
  rw [put_ne (by decide), put_ne (by decide), put_ne (by decide), put_at]
theorem lf_word : List.lookup ("own_word" : Str) (finF c bs p v) = some (wordD c bs : D) := rfl
theorem lf_letters : List.lookup ("own_letters" : Str) (finF c bs p v) = some (.str (expand bs) : D) := rfl
theorem lf_past : List.lookup ("own_past" : Str) (finF c bs p v) = some (.tup p : D) := rfl
theorem lm_search : List.lookup ("search_then" : Str) (momF a b t x) = some (b : D) := rfl
theorem lm_text : List.lookup ("text_then" : Str) (momF a b t x) = some (.str t : D) := rfl
theorem lm_state : List.lookup ("state_then" : Str) (momF a b t x) = some (x : D) := rfl
end
end LW
namespace LW
open PySem L2 Pd
structure RtOk (w t : List Nat) (st : PS) : Prop where
  kn : st.kn < w.length
  en : t.length < st.pl + w.length
  pl : st.pl ≤ t.length
  ln : st.fd.length ≤ st.pl
  up : ∀ v, KnOk w (t ++ v) st ∧ st.fd = upTo w (t ++ v) st.pl
section
variable {w t u : List Nat} {c s : Nat} {kp : Bool}
theorem go_rt (hc : c < w.length) (h1 : 1 ≤ s) (h2 : s ≤ w.length) (hr : isRight w c s kp) : ∀ (f : Nat) (st : PS), st.kn < w.length → (∀ v, KnOk w (t ++ v) st ∧ st.fd = upTo w (t ++ v) st.pl) → t.length < f + st.pl →
    (goP w t c s kp f st).kn < w.length ∧ t.length < (goP w t c s kp f st).pl + w.length ∧ ∀ v, KnOk w (t ++ v) (goP w t c s kp f st) ∧ (goP w t c s kp f st).fd = upTo w (t ++ v) (goP w t c s kp f st).pl
  | 0, st, hk, hv, hl => ⟨hk, by rw [goP]; omega, hv⟩
  | f + 1, st, hk, hv, hl => by
    rw [goP]
    split
    · rename_i hle
      have hp := stp_pl (w := w) (t := t) (c := c) (s := s) (kp := kp) (st := st) hc h1 hk
      refine go_rt hc h1 h2 hr f _ (stp_kn (by omega) h1) (fun v => ?_) (by omega)
      have z := step_right (t := t ++ v) (kp := kp) hc h1 h2 hr hk (hv v).1 (by rw [List.length_append]; omega) (hv v).2
      rw [stp_app hc hle] at z
      exact z
    · exact ⟨hk, by omega, hv⟩
theorem RtOk.feed {st : PS} (r : RtOk w t st) (hc : c < w.length) (h1 : 1 ≤ s) (h2 : s ≤ w.length) (hr : isRight w c s kp) : RtOk w (t ++ u) (goP w (t ++ u) c s kp ((t ++ u).length + 1) st) := by
  have a := go_rt (t := t ++ u) hc h1 h2 hr ((t ++ u).length + 1) st r.kn (fun v => by rw [List.append_assoc]; exact r.up (u ++ v)) (by omega)
  have b := goP_fdp (w := w) (t := t ++ u) (c := c) (s := s) (kp := kp) hc h1 h2 ((t ++ u).length + 1) st r.kn r.ln (by rw [List.length_append]; have := r.pl; omega)
  exact ⟨a.1, a.2.1, b.2, b.1, a.2.2⟩
theorem RtOk.turn {st : PS} (r : RtOk w t st) : RtOk w t ⟨st.pl, 0, st.fd, st.lk⟩ :=
  ⟨by show 0 < _; have := r.kn; omega, r.en, r.pl, r.ln, fun v => ⟨fun j hj => absurd hj (Nat.not_lt_zero _), (r.up v).2⟩⟩
end
end LW
namespace LW
open PySem L2 Pd
def mst (acc : List Bl) (y : Bl) : List Bl := match acc.reverse with
  | [] => [y]
  | d :: r => if d.1 = y.1 then r.reverse ++ [(y.1, d.2 + y.2)] else acc ++ [y]
theorem mst_nil (y : Bl) : mst [] y = [y] := rfl
theorem mst_snoc (as : List Bl) (d y : Bl) : mst (as ++ [d]) y = if d.1 = y.1 then as ++ [(y.1, d.2 + y.2)] else as ++ [d] ++ [y] := by
  unfold mst
  rw [List.reverse_append, List.reverse_singleton, List.singleton_append]
  simp only [List.reverse_reverse]
def mrg (xs : List Bl) : List Bl := xs.foldl mst []
structure Mrg (xs bs : List Bl) : Prop where
  good : Good bs
  exp : expand bs = expand xs
  len : bs.length ≤ xs.length
  mem : ∀ b ∈ bs, ∃ x ∈ xs, x.1 = b.1
theorem mst_ok {xs bs : List Bl} {y : Bl} (h : Mrg xs bs) (hy : 1 ≤ y.2) : Mrg (xs ++ [y]) (mst bs y) := by
  rcases List.eq_nil_or_concat bs with rfl | ⟨as, d, rfl⟩
  · rw [mst_nil]
    refine ⟨⟨trivial, fun b hb => by rw [List.mem_singleton.mp hb]; exact hy⟩, ?_, by simp, fun b hb => ⟨y, by simp, by rw [List.mem_singleton.mp hb]⟩⟩
    rw [expand_append, ← h.exp]
    rfl
  · rw [List.concat_eq_append] at *
    obtain ⟨g, e, l, m⟩ := h
    rw [mst_snoc]
    have m2 : ∀ b ∈ as ++ [d], ∃ x ∈ xs ++ [y], x.1 = b.1 := fun b hb => by
      obtain ⟨x, hx, hx2⟩ := m b hb
      exact ⟨x, List.mem_append_left _ hx, hx2⟩
    by_cases he : d.1 = y.1
    · rw [if_pos he]
      refine ⟨⟨Adj.last g.adj he, fun b hb => ?_⟩, ?_, by rw [List.length_append, List.length_singleton] at *; rw [List.length_append, List.length_singleton]; omega, fun b hb => ?_⟩
      · rcases List.mem_append.mp hb with z | z
        · exact g.pos b (List.mem_append_left _ z)
        · rw [List.mem_singleton.mp z]
          show 1 ≤ d.2 + y.2
          omega
      · rw [expand_append, expand_append, ← e, expand_append, List.append_assoc]
        congr 1
        simp only [expand, List.append_nil]
        rw [he, List.replicate_append_replicate]
      · rcases List.mem_append.mp hb with z | z
        · exact m2 b (List.mem_append_left _ z)
        · rw [List.mem_singleton.mp z]
          exact ⟨y, by simp, rfl⟩
    · rw [if_neg he]
      refine ⟨⟨Adj.snoc g.adj he, fun b hb => ?_⟩, ?_, by rw [List.length_append, List.length_append (as := xs)]; simp only [List.length_singleton]; omega, fun b hb => ?_⟩
      · rcases List.mem_append.mp hb with z | z
        · exact g.pos b z
        · rw [List.mem_singleton.mp z]
          exact hy
      · rw [expand_append, e, expand_append]
      · rcases List.mem_append.mp hb with z | z
        · exact m2 b z
        · rw [List.mem_singleton.mp z]
          exact ⟨y, by simp, rfl⟩
theorem mrg_ok : ∀ {xs : List Bl}, (∀ b ∈ xs, 1 ≤ b.2) → Mrg xs (mrg xs) := by
  have go : ∀ (r xs : List Bl) (bs : List Bl), Mrg xs bs → (∀ b ∈ r, 1 ≤ b.2) → Mrg (xs ++ r) (r.foldl mst bs) := by
    intro r
    induction r with
    | nil => intro xs bs h _; rw [List.append_nil]; exact h
    | cons y r ih =>
      intro xs bs h hr
      rw [List.append_cons, List.foldl_cons]
      exact ih _ _ (mst_ok h (hr y (by simp))) fun b hb => hr b (List.mem_cons_of_mem _ hb)
  intro xs h
  exact go xs [] [] ⟨⟨trivial, fun b hb => by cases hb⟩, rfl, Nat.le_refl _, fun b hb => by cases hb⟩ h
theorem mst_last {bs : List Bl} {y : Bl} {e : Bl} (h : (mst bs y).getLast? = some e) : e.1 = y.1 ∧ (e.2 = y.2 ∨ ∃ d, bs.getLast? = some d ∧ d.1 = y.1 ∧ e.2 = d.2 + y.2) := by
  rcases List.eq_nil_or_concat bs with rfl | ⟨as, d, rfl⟩
  · rw [mst_nil] at h
    simp at h
    subst h
    exact ⟨rfl, .inl rfl⟩
  · rw [List.concat_eq_append] at *
    rw [mst_snoc] at h
    split at h
    · rename_i hd
      simp at h
      subst h
      exact ⟨rfl, .inr ⟨d, by simp, hd, rfl⟩⟩
    · simp at h
      subst h
      exact ⟨rfl, .inl rfl⟩
theorem fold_bound {M K : Nat} : ∀ (r : List Bl) (bs : List Bl), Good r → (∀ b ∈ r, b.2 ≤ M) → (∀ b ∈ bs, b.2 ≤ K + M) → (∀ d, bs.getLast? = some d → d.2 ≤ K ∨ ∀ y, r.head? = some y → d.1 ≠ y.1) →
    ∀ b ∈ r.foldl mst bs, b.2 ≤ K + M
  | [], bs, _, _, h, _ => h
  | y :: r, bs, g, hr, h, hl => by
    rw [List.foldl_cons]
    have hy := hr y (by simp)
    have gr : Good r := ⟨by
      have := g.adj
      cases r with
      | nil => trivial
      | cons x r => exact this.2, fun x hx => g.pos x (List.mem_cons_of_mem _ hx)⟩
    have hb : ∀ b ∈ mst bs y, b.2 ≤ K + M := by
      rcases List.eq_nil_or_concat bs with rfl | ⟨as, d, rfl⟩
      · rw [mst_nil]
        intro b hb
        rw [List.mem_singleton.mp hb]
        omega
      · rw [List.concat_eq_append] at *
        rw [mst_snoc]
        intro b hb
        split at hb
        · rename_i hd
          rcases List.mem_append.mp hb with z | z
          · exact h b (List.mem_append_left _ z)
          · rw [List.mem_singleton.mp z]
            rcases hl d (by simp) with q | q
            · show d.2 + y.2 ≤ _
              omega
            · exact (q y rfl hd).elim
        · rcases List.mem_append.mp hb with z | z
          · exact h b z
          · rw [List.mem_singleton.mp z]
            omega
    refine fold_bound r _ gr (fun b hb => hr b (List.mem_cons_of_mem _ hb)) hb fun d hd => .inr fun x hx => ?_
    rw [(mst_last hd).1]
    cases r with
    | nil => cases hx
    | cons x' r =>
      have : x' = x := by simpa using hx
      rw [← this]
      exact g.adj.1
end LW
namespace LW
open PySem L2 Pd
theorem mrg_good {a : List Bl} (g : Good a) : mrg a = a := good_unique (mrg_ok g.pos).good g (mrg_ok g.pos).exp
theorem mrg_app (a b : List Bl) : mrg (a ++ b) = b.foldl mst (mrg a) := List.foldl_append
theorem pos_app {a b : List Bl} (ha : ∀ x ∈ a, 1 ≤ x.2) (hb : ∀ x ∈ b, 1 ≤ x.2) : ∀ x ∈ a ++ b, 1 ≤ x.2 := fun x hx => (List.mem_append.mp hx).elim (ha x) (hb x)
structure Wds (bs : List Bl) (L M : Nat) : Prop where
  good : Good bs
  len : bs.length ≤ L
  num : ∀ b ∈ bs, b.2 ≤ M
  let_ : ∀ b ∈ bs, b.1 ∈ letters
  ne : bs ≠ []
theorem Wds.mono {bs : List Bl} {L M L' M' : Nat} (w : Wds bs L M) (h1 : L ≤ L') (h2 : M ≤ M') : Wds bs L' M' := ⟨w.good, Nat.le_trans w.len h1, fun b hb => Nat.le_trans (w.num b hb) h2, w.let_, w.ne⟩
theorem exp_pos {bs : List Bl} (g : ∀ b ∈ bs, 1 ≤ b.2) (hne : bs ≠ []) : 0 < (expand bs).length := by
  obtain ⟨b, r, rfl⟩ := List.exists_cons_of_ne_nil hne
  have := g b (by simp)
  rw [expand, List.length_append, List.length_replicate]
  omega
theorem Wds.join {a b : List Bl} {L M L' M' : Nat} (w : Wds a L M) (v : Wds b L' M') : Wds (mrg (a ++ b)) (L + L') (M + M') := by
  have hp := pos_app w.good.pos v.good.pos
  have m := mrg_ok hp
  refine ⟨m.good, ?_, ?_, fun x hx => ?_, fun e => ?_⟩
  · have := m.len
    have := w.len
    have := v.len
    rw [List.length_append] at *
    omega
  · rw [mrg_app, mrg_good w.good]
    exact fold_bound b a v.good v.num (fun x hx => by have := w.num x hx; omega) fun d hd => .inl (w.num d (List.mem_of_getLast? hd))
  · obtain ⟨y, hy, e⟩ := m.mem x hx
    rw [← e]
    exact (List.mem_append.mp hy).elim (w.let_ y) (v.let_ y)
  · have h1 := m.exp
    rw [e, expand_append] at h1
    have h2 := exp_pos w.good.pos w.ne
    have h3 := congrArg List.length h1
    rw [List.length_append] at h3
    simp [expand] at h3
    omega
end LW
namespace LW
open PySem L2 Pd
def lowD (d : D) : Prop := isPd d = true ∧ dpt d ≤ 10
theorem low_tup {xs : List D} (h : ∀ x ∈ xs, isPd x = true ∧ dpt x ≤ 9) : lowD (.tup xs) := by
  have key : ∀ xs : List D, (∀ x ∈ xs, isPd x = true ∧ dpt x ≤ 9) → isPds xs = true ∧ dpts xs ≤ 9 := fun xs => by
    induction xs with
    | nil => exact fun _ => ⟨rfl, by decide⟩
    | cons x xs ih =>
      intro h
      have h1 := h x (by simp)
      have h2 := ih fun y hy => h y (List.mem_cons_of_mem _ hy)
      exact ⟨by rw [isPds, h1.1, h2.1]; rfl, by rw [dpts]; omega⟩
  have := key xs h
  exact ⟨by rw [isPd]; exact this.1, by rw [dpt]; omega⟩
theorem okD_list {xs : List D} (h : ∀ x ∈ xs, isPd x = true ∧ dpt x ≤ 9) : okD (.lst xs) = true := by
  have := low_tup h
  unfold lowD at this
  rw [isPd, dpt] at this
  unfold okD
  rw [isPd, dpt, this.1, Bool.true_and, decide_eq_true_eq]
  omega
end LW
namespace LW
open PySem L2 Pd
def seven : List Nat := [97, 98, 99, 113, 120, 121, 122]
theorem seven_lt {c : Nat} (h : c ∈ seven) : c < 1114112 := (by decide : ∀ c ∈ seven, c < 1114112) c h
def A7 (l : List Nat) : Prop := ∀ c ∈ l, c ∈ seven
theorem A7.app {a b : List Nat} (h : A7 a) (g : A7 b) : A7 (a ++ b) := fun c hc => (List.mem_append.mp hc).elim (h c) (g c)
theorem A7.sub {a b : List Nat} (h : A7 b) (g : ∀ c ∈ a, c ∈ b) : A7 a := fun c hc => h c (g c hc)
theorem A7.rep {a : List Nat} (h : A7 a) (k : Nat) : A7 (List.replicate k a).flatten := fun c hc => by
  obtain ⟨l, h1, h2⟩ := List.mem_flatten.mp hc
  exact h c (List.eq_of_mem_replicate h1 ▸ h2)
theorem A7.take {a : List Nat} (h : A7 a) (k : Nat) : A7 (a.take k) := h.sub fun c hc => List.mem_of_mem_take hc
theorem A7.drop {a : List Nat} (h : A7 a) (k : Nat) : A7 (a.drop k) := h.sub fun c hc => List.mem_of_mem_drop hc
def s_any7 : FD := fun ds n P => ∃ few most : Nat, ds = [.pot, .int few, .int most] ∧ 1 ≤ few ∧ few ≤ most ∧ most ≤ 300 ∧ 500 ≤ n ∧ ∀ (n' : Nat) (l : List Nat), n' ≤ n → n ≤ n' + 500 → A7 l → few ≤ l.length → l.length ≤ most → P n' (.str l)
theorem l_any7 (c : Str → Addr) : ∀ ds n Q, s_any7 ds n Q → dFn 11 3 (b__law_any_letters c takeF s_of s_random) ds n Q := by
  rintro ds n Q ⟨few, most, rfl, h0, h1, h2, h3, q⟩
  refine ⟨rfl, ?_⟩
  simp only [b__law_any_letters, dSeq, dMul, bCons, dOp, dVar, envOf, List.map_cons, List.map_nil, List.length_cons, List.length_nil, Nat.zero_add, Nat.reduceAdd, Nat.reduceSub, List.replicate, List.cons_append, List.nil_append, List.getElem?_cons_succ, List.getElem?_cons_zero, dCall, dCons, Pd.gSub, dC, dNil, takeF, List.append_nil, bNil, dSet, setL, List.set_cons_succ, List.set_cons_zero, dLst, Nat.reduceLeDiff, dIf, dTB, gLt, dRet, dNx, dBi, dSl, pNo, pSome, gEq, ev_oki, eqD_int, decide_eq_true_eq, dRev, decide_eq_false_iff_not, dFor, iRg1, gGt, true_and, ev_gI, TC, ev_addi, ev_mull, ev_muls, ev_max]
  refine ⟨_, rfl, by omega, by omega, n - 1, by omega, fun r r0 r1 => ⟨_, rfl, by decide, by decide, n - 2, by omega, fun w w0 w1 => ?_⟩⟩
  obtain ⟨d, rfl⟩ : ∃ d : Nat, r = d := ⟨r.toNat, by omega⟩
  refine ⟨_, _, n - 3, rfl, rfl, fun l e => (by cases e), by decide, by decide, by omega, fun x hx => ?_⟩
  obtain ⟨p, rfl, p0, p1, p2⟩ : ∃ p, x = .str p ∧ 0 < p.length ∧ p.length ≤ 10 ∧ A7 p := by
    simp only [List.mem_cons, List.not_mem_nil, or_false] at hx
    unfold A7
    rcases hx with rfl | rfl | rfl | rfl | rfl | rfl | rfl | rfl <;> exact ⟨_, rfl, by decide, by decide, by decide⟩
  clear hx
  have pne : p ≠ [] := fun e => by rw [e] at p0; exact absurd p0 (by decide)
  have hz : ((few : Int) + (d : Int)) = ((few + d : Nat) : Int) := rfl
  have hs : few + d ≤ most := by omega
  rw [hz]
  generalize hk : few + d = k at *
  have q' : ∀ (n' : Nat) (l : List Nat), n' ≤ n → n ≤ n' + 500 → A7 l → l.length = k → Q n' (.str l) := fun n' l a b g e => q n' l a b g (by omega) (by omega)
  clear q hz
  refine ⟨fun hw => ⟨p, k, n - 3 - k, rfl, pne, by omega, by omega, by omega, fun r hr hm => ?_⟩, fun hw => ?_⟩
  · exact q' _ _ (by omega) (by omega) (p2.sub hm) hr
  have hu : (if (k : Int) - 1 > 1 then (k : Int) - 1 else 1) ≤ 300 ∧ 0 < (if (k : Int) - 1 > 1 then (k : Int) - 1 else 1) := by
    split <;> omega
  refine ⟨_, rfl, hu.2, Nat.lt_of_le_of_lt (m := 300) (by omega) (by decide), n - 4, by omega, fun v v0 v1 => ?_⟩
  obtain ⟨z, rfl⟩ : ∃ z : Nat, v = z := ⟨v.toNat, by omega⟩
  refine ⟨p, 1 + z, n - 4 - (1 + z), rfl, pne, by omega, by omega, by omega, fun r hr hm => ?_⟩
  have hr1 : 1 ≤ r.length := by omega
  have hr2 : r.length ≤ 301 := by omega
  have hrA := p2.sub hm
  generalize hn5 : n - 4 - (1 + z) = n5
  have hn5a : n ≤ n5 + 305 := by omega
  have hn5b : n5 ≤ n := by omega
  clear hn5 hr v0 v1 hu
  have kn : (k : Int).toNat = k := rfl
  have hkr : k ≤ k * r.length := Nat.le_mul_of_pos_right _ hr1
  have hkr2 : k * r.length ≤ 300 * 301 := Nat.mul_le_mul (by omega) hr2
  refine ⟨fun hw => ⟨_, rfl, by decide, by decide, n5 - 1, by omega, fun v v0 v1 => ?_⟩, fun hw => ⟨fun hw => ?_, fun hw => ?_⟩⟩
  · obtain ⟨y, rfl⟩ : ∃ y : Nat, v = y := ⟨v.toNat, by omega⟩
    refine ⟨p, y, n5 - 1 - y, rfl, pne, by omega, by omega, by omega, fun r2 hr2 hm2 => ?_⟩
    simp only [ev_muls, kn, ev_adds, rep_len, ev_sls, List.length_append]
    refine ⟨by omega, by omega, by rw [Nat.mul_comm]; omega, by omega, by omega, ?_⟩
    rw [cut_to]
    refine q' _ _ (by omega) (by omega) (((p2.sub hm2).app (hrA.rep k)).take k) ?_
    rw [List.length_take, List.length_append, rep_len]
    omega
  · simp only [List.length_reverse, kn, ev_adds, rep_len, ev_sls, List.length_append]
    refine ⟨by omega, by omega, by omega, by rw [Nat.mul_comm]; omega, by omega, by omega, ?_⟩
    rw [cut_to]
    refine q' _ _ (by omega) (by omega) ((hrA.app ((A7.sub hrA fun c hc => List.mem_reverse.mp hc).rep k)).take k) ?_
    rw [List.length_take, List.length_append, rep_len, List.length_reverse]
    omega
  · obtain ⟨p00, pr, pe⟩ : ∃ a b, p = a :: b := by
      cases p with
      | nil => exact absurd rfl pne
      | cons a b => exact ⟨a, b, rfl⟩
    simp only [ev_sls, ev_ixs]
    refine ⟨by omega, p00, by rw [pe, ev_at0], by omega, by omega, by omega, ?_⟩
    rw [show (2 : Int) = ((2 : Nat) : Int) from rfl, cut_to]
    have fin : ∀ a b : List Nat, 1 ≤ b.length → a.length ≤ 2000 → b.length ≤ 1000 → A7 a → A7 b → -1000000 ≤ (k : Int) ∧ (k : Int) ≤ 1000000 ∧ b.length * (k : Int).toNat ≤ 16777216 ∧ a.length + (List.replicate (k : Int).toNat b).flatten.length ≤ 16777216 ∧ a.length + (List.replicate (k : Int).toNat b).flatten.length ≤ 16777216 ∧ Q n5 (.str (cut (a ++ (List.replicate (k : Int).toNat b).flatten) none (some (k : Int)))) := fun a b b1 a2 b2 aA bA => by
      have m1 : k * b.length ≤ 300 * 1000 := Nat.mul_le_mul (by omega) b2
      have m2 : k ≤ k * b.length := Nat.le_mul_of_pos_right _ b1
      rw [kn, rep_len, cut_to, Nat.mul_comm b.length k]
      refine ⟨by omega, by omega, by omega, by omega, by omega, ?_⟩
      refine q' _ _ (by omega) (by omega) ((aA.app (bA.rep k)).take k) ?_
      rw [List.length_take, List.length_append, rep_len]
      omega
    refine forW_ind (Inv := fun ys n' ε => ∃ (fs sc : List Nat) (s10 : Sl), n' = n5 ∧ ε = [.val .pot, .val (.int few), .val (.int most), .val (.int k), .val (.int w), .val (.str p), .val (.str r), .no, .val (.str fs), .val (.str sc), s10] ∧ 1 ≤ fs.length ∧ 1 ≤ sc.length ∧ fs.length ≤ 1000 ∧ sc.length ≤ 600 ∧ A7 fs ∧ A7 sc) ?_ ?_ _ _ _ ⟨[p00], p.take 2, .no, rfl, rfl, by simp, by rw [List.length_take]; omega, by simp, by rw [List.length_take]; omega, p2.sub fun c hc => by rw [pe]; simp at hc ⊢; exact Or.inl hc, p2.take 2⟩
    · rintro n' ε ⟨fs, sc, s10, rfl, rfl, g1, g2, g3, g4, g5, g6⟩
      simp only [dRet, dSl, dOp, dVar, List.getElem?_cons_succ, List.getElem?_cons_zero, pNo, pSome, ev_muls, ev_adds, ev_sls, List.length_append]
      exact fin sc fs g1 (by omega) g3 g6 g5
    · rintro y ys n' ε ih ⟨fs, sc, s10, rfl, rfl, g1, g2, g3, g4, g5, g6⟩
      simp only [gNm, dSeq, dMul, bCons, dVar, List.set_cons_succ, List.set_cons_zero, List.getElem?_cons_succ, List.getElem?_cons_zero, dOp, bNil, List.length_cons, List.length_nil, Nat.zero_add, Nat.reduceAdd, dIf, dTB, dBi, dCons, setL, dNil, dBrk, dRet, dSl, pNo, pSome, ev_muls, dNx, true_and, ev_adds, List.length_append, ev_sls, ev_lens, ev_gI, TC, decide_eq_true_eq, decide_eq_false_iff_not]
      refine ⟨by omega, by omega, fun hlt => ?_, fun hlt => ih n' _ ⟨sc, sc ++ fs, .val y, rfl, rfl, g2, by rw [List.length_append]; omega, by omega, by rw [List.length_append]; omega, g6, g6.app g5⟩⟩
      have := fin (sc ++ fs) sc g2 (by rw [List.length_append]; omega) (by omega) (g6.app g5) g6
      rw [List.length_append] at this
      exact this
theorem A7.lt {l : List Nat} (h : A7 l) : ∀ c ∈ l, c < 1114112 := fun c hc => seven_lt (h c hc)
def s_letters7 : FD := fun ds n P => ∃ few most : Nat, ds = [.pot, .int few, .int most] ∧ 1 ≤ few ∧ few ≤ most ∧ most ≤ 300 ∧ 500 ≤ n ∧ ∀ (n' : Nat) (bs : List Bl), n' ≤ n → n ≤ n' + 500 → Good bs → A7 (expand bs) → bs.length ≤ 40 → (few ≤ size bs ∨ 40 ≤ size bs) → size bs ≤ most → P n' (.str (expand bs))
theorem l_letters7 (c : Str → Addr) : ∀ ds n Q, s_letters7 ds n Q → dFn 6 3 (b__law_letters c s_any7 s_blocks) ds n Q := by
  rintro ds n Q ⟨few, most, rfl, h0, h1, h2, h3, q⟩
  refine ⟨rfl, ?_⟩
  simp only [b__law_letters, dSeq, dSet, dCall, dCons, dVar, envOf, List.map_cons, List.map_nil, List.length_cons, List.length_nil, Nat.zero_add, Nat.reduceAdd, Nat.reduceSub, List.replicate, List.cons_append, List.nil_append, List.getElem?_cons_zero, List.getElem?_cons_succ, dNil, List.append_nil, dRet, dJoin, dC, dO, dComp, iVal, dSl, List.set_cons_succ, List.set_cons_zero, pNo, pSome, wipeE]
  refine ⟨few, most, rfl, h0, h1, by omega, h3, fun n' l a1 a2 a3 a4 a5 => ⟨l, rfl, by omega, a3.lt, fun bs eb g => ?_⟩⟩
  simp only [ev_sll, ev_srcl, Option.some.injEq, exists_eq_left']
  rw [show (40 : Int) = ((40 : Nat) : Int) from rfl, cut_to, ← List.map_take]
  have gt := good_take 40 g
  have hp := expand_take bs 40
  have hsz : size bs = l.length := by rw [← eb]; rfl
  have hle : size (bs.take 40) ≤ size bs := hp.length_le
  refine ⟨by rw [List.length_map, List.length_take]; omega, compW_map blkD (fun b => .str (List.replicate b.2 b.1)) (bs.take 40) _ _ (fun b hbm n K K' q1 => ?_) ?_⟩
  · have := mem_le_expand hbm
    have h9 : (expand (bs.take 40)).length ≤ l.length := by rw [← hsz]; exact hle
    simp only [gTp, blkD, List.length_cons, List.length_nil, Nat.zero_add, Nat.reduceAdd, gsCons, gNm, gsNil, dYes, dOp, dVar, List.set_cons_succ, List.set_cons_zero, List.getElem?_cons_succ, List.getElem?_cons_zero, ev_muls, Int.toNat_natCast, flat_one, forall_const, reduceCtorEq, false_implies, and_true, true_and]
    exact ⟨by omega, by omega, by omega, q1⟩
  · have e : ([] : List D) ++ ((bs.take 40).map fun b => D.str (List.replicate b.2 b.1)) = ((bs.take 40).map fun b => List.replicate b.2 b.1).map D.str := by
      rw [List.nil_append, List.map_map]
      rfl
    rw [e, map_isStrs]
    refine ⟨_, rfl, ?_, ?_⟩
    · have e2 : (((bs.take 40).map fun b => List.replicate b.2 b.1).map (·.length)).sum = (expand (bs.take 40)).length := by
        rw [← expand_flat, List.length_flatten]
      rw [e2]
      have h9 : (expand (bs.take 40)).length ≤ l.length := by rw [← hsz]; exact hle
      omega
    · rw [joinL_nil, expand_flat]
      refine q n' _ a1 a2 gt (fun c hc => a3 c (by rw [← eb]; exact hp.subset hc)) (by rw [List.length_take]; omega) ?_ (by omega)
      rcases Nat.lt_or_ge 40 bs.length with h | h
      · have := size_ge gt.pos
        rw [List.length_take] at this
        omega
      · rw [List.take_of_length_le h]
        omega
theorem A7.al {l : List Nat} (h : A7 l) : AL l := fun c hc => (by decide : ∀ c ∈ seven, c ∈ letters) c (h c hc)
end LW
namespace LW
open PySem L2 Pd
def b_all_spelled (c : Str → Addr)  : DS := (dSeq (dSet 1 (dLst (dCons (dC (.str [])) dNil)))
    (dSeq (dFor (iRg1 (dVar 0)) (gNm 2) (dSet 1 (dO (dComp2 (iVal (dVar 1)) (gNm 3) (iVal (dSl (dC (.str [97, 98, 99, 100, 101, 102, 103, 104, 105, 106, 107, 108, 109, 110, 111, 112, 113, 114, 115, 116, 117, 118, 119, 120, 121, 122])) pNo (pSome (dOp gAdd (dLenSetT (dVar 3)) (dC (.int 1)))))) (gNm 4) (dOp gAdd (dVar 3) (dVar 4)) [3, 4] [4]))))
    (dRet (dVar 1))))
def b_is_repeat_v3 (c : Str → Addr)  : DS := (dSeq (dMul [3, 4] (bCons (dBi gMax (dCons (dC (.int 0)) (dCons (dOp gSub (dVar 1) (dVar 2)) dNil))) (bCons (dBi gMin (dCons (dVar 1) (dCons (dOp gSub (dBi gLen (dCons (dVar 0) dNil)) (dVar 2)) dNil))) bNil)))
    (dRet (dBi gAll (dCons (dO (dComp (iRg2 (dVar 3) (dVar 4)) (gNm 5) dYes (dOp gEq (dOp gIx (dVar 0) (dVar 5)) (dOp gIx (dVar 0) (dOp gAdd (dVar 5) (dVar 2)))) [5])) dNil))))
def b_row_of (c : Str → Addr) (s_is_repeat : FD) : DS := (dSeq (dSetO 1 (dLstO dNil))
    (dSeq (dFor (iRg1 (dBi gLen (dCons (dVar 0) dNil))) (gNm 2) (dApp 1 (dOp gIx (dO (dComp (iRg2 (dC (.int 1)) (dOp gAdd (dBi gLen (dCons (dVar 0) dNil)) (dC (.int 1)))) (gNm 3) (dTB (dCall s_is_repeat [] (dCons (dVar 0) (dCons (dVar 2) (dCons (dVar 3) dNil))))) (dVar 3) [3])) (dC (.int 0)))))
    (dFrz [1] (dRet (dBi gTuple (dCons (dVar 1) dNil))))))
def b_told_back (c : Str → Addr) (s_is_tuple : FD) (s_is_integer : FD) (s_all_spelled : FD) (s_row_of : FD) : DS := (dSeq (dIf (dOr (dNot (dTB (dCall s_is_tuple [] (dCons (dVar 0) (dCons (dC (.int 1)) (dCons (dC (.int 7)) dNil)))))) (dNot (dTB (dBi gAll (dCons (dO (dComp (iVal (dVar 0)) (gNm 2) dYes (dCall s_is_integer [] (dCons (dVar 2) (dCons (dC (.int 1)) (dCons (dC (.int 7)) dNil)))) [2])) dNil))))) dNev dNx)
    (dSeq (dSet 1 (dO (dComp (iVal (dCall s_all_spelled [] (dCons (dBi gLen (dCons (dVar 0) dNil)) dNil))) (gNm 3) (dTB (dOp gEq (dCall s_row_of [] (dCons (dVar 3) dNil)) (dVar 0))) (dVar 3) [3])))
    (dRet (dIte (dTB (dOp gEq (dVar 1) (dLst dNil))) (dTup (dCons (dC (.str [110, 111, 110, 101])) dNil)) (dTup (dCons (dC (.str [119, 111, 114, 100, 115])) (dCons (dBi gLen (dCons (dVar 1) dNil)) (dCons (dOp gIx (dVar 1) (dC (.int 0))) dNil))))))))
end LW
namespace LW
open PySem L2 Pd
def spk : Nat → List (List Nat × Nat)
  | 0 => [([], 0)]
  | m + 1 => (spk m).flatMap fun p => (List.range (p.2 + 1)).map fun j => (p.1 ++ [97 + j], max p.2 (j + 1))
def rowL (w : List Nat) : List Nat := (List.range w.length).map fun c => short w c
def found (ns : List Nat) : List (List Nat) := ((spk ns.length).map (·.1)).filter fun l => rowL l == ns
structure Full (l : List Nat) (k : Nat) : Prop where
  mem : ∀ y, y ∈ l ↔ 97 ≤ y ∧ y < 97 + k
theorem spk_full : ∀ (m : Nat) (p : List Nat × Nat), p ∈ spk m → Full p.1 p.2 ∧ p.2 ≤ m ∧ p.1.length = m
  | 0, p, h => by
    rw [List.mem_singleton.mp h]
    exact ⟨⟨fun y => ⟨fun h => (by cases h), fun h => absurd h.2 (by omega)⟩⟩, Nat.le_refl _, rfl⟩
  | m + 1, p, h => by
    obtain ⟨q, hq, h2⟩ := List.mem_flatMap.mp h
    obtain ⟨j, hj, rfl⟩ := List.mem_map.mp h2
    obtain ⟨f, a, b⟩ := spk_full m q hq
    rw [List.mem_range] at hj
    refine ⟨⟨fun y => ?_⟩, by simp only; omega, by simp [b]⟩
    simp only [List.mem_append, List.mem_singleton, f.mem]
    omega
theorem spk_len : ∀ m, m ≤ 7 → (spk m).length ≤ 877 := by
  have h : ((List.range 8).all fun m => decide ((spk m).length ≤ 877)) = true := by kernel_rfl
  intro m hm
  rw [List.all_eq_true] at h
  exact of_decide_eq_true (h m (List.mem_range.mpr (by omega)))
theorem full_card {l : List Nat} {k : Nat} (f : Full l k) {us : List (List Nat)} (nd : us.Nodup) (hm : ∀ x, x ∈ us ↔ x ∈ l.map fun c => [c]) : us.length = k := by
  have nv : ((List.range k).map fun j => [97 + j]).Nodup := by
    rw [List.nodup_iff_pairwise_ne, List.pairwise_map]
    exact (List.nodup_iff_pairwise_ne.mp (List.nodup_range (n := k))).imp fun h e => h (by simp at e; exact e)
  have mv : ∀ x, x ∈ ((List.range k).map fun j => [97 + j]) ↔ x ∈ us := fun x => by
    rw [hm, List.mem_map, List.mem_map]
    constructor
    · rintro ⟨j, hj, rfl⟩
      rw [List.mem_range] at hj
      exact ⟨97 + j, (f.mem _).mpr ⟨by omega, by omega⟩, rfl⟩
    · rintro ⟨y, hy, rfl⟩
      have := (f.mem _).mp hy
      exact ⟨y - 97, List.mem_range.mpr (by omega), by simp; omega⟩
  have h1 := List.Nodup.length_le_of_subset nd (fun x hx => (mv x).mpr hx)
  have h2 := List.Nodup.length_le_of_subset nv (fun x hx => (mv x).mp hx)
  rw [List.length_map, List.length_range] at h1 h2
  omega
def toldO (fs : List (List Nat)) : Option (Nat × List Nat) := match fs with
  | [] => none
  | l :: _ => some (fs.length, l)
end LW
namespace LW
open PySem L2 Pd
theorem comp2W_fm {α : Type} {dg dg1 : DG} {di1 : DI} {d : DE} {ε : Ev} {vs1 : List Nat} {P : Nat → List D → Prop} (f : α → D) (gs : α → List D) (B : Nat) : ∀ (as : List α) (acc : List D) (n : Nat), acc.length + as.length * B ≤ 16777216 → (∀ a ∈ as, (gs a).length ≤ B) →
    (∀ a ∈ as, ∀ (acc : List D) (n : Nat) (K : Nat → List D → Prop), acc.length + B ≤ 16777216 → K n (acc ++ gs a) → dg (f a) ε fun ε2 => di1 n ε2 fun n1 ys => acc.length + ys.length ≤ 16777216 ∧ compW dg1 dYes d (wipeE ε2 vs1) K ys acc n1) →
    P n (acc ++ as.flatMap gs) → comp2W dg di1 dg1 d ε vs1 P (as.map f) acc n
  | [], acc, n, _, _, _, q => by
    rw [List.flatMap_nil, List.append_nil] at q
    exact q
  | a :: as, acc, n, h, hl, hs, q => by
    rw [List.length_cons, Nat.succ_mul] at h
    have hla := hl a List.mem_cons_self
    refine hs a List.mem_cons_self acc n (fun n2 acc' => comp2W dg di1 dg1 d ε vs1 P (as.map f) acc' n2) (by omega) ?_
    refine comp2W_fm f gs B as _ n (by rw [List.length_append]; omega) (fun b hb => hl b (List.mem_cons_of_mem _ hb)) (fun b hb => hs b (List.mem_cons_of_mem _ hb)) ?_
    rw [List.append_assoc, ← List.flatMap_cons]
    exact q
theorem letters_take {k : Nat} (h : k ≤ 26) : letters.take k = (List.range k).map fun j => 97 + j := by
  have : ((List.range 27).all fun k => letters.take k == (List.range k).map fun j => 97 + j) = true := by decide +kernel
  rw [List.all_eq_true] at this
  exact beq_iff_eq.mp (this k (List.mem_range.mpr (by omega)))
def spD (p : List Nat × Nat) : D := .str p.1
def s_all_spelled : FD := fun ds n P => ∃ m : Nat, ds = [.int m] ∧ m ≤ 7 ∧ P n (.lst ((spk m).map spD))
theorem l_all_spelled (c : Str → Addr) : ∀ ds n Q, s_all_spelled ds n Q → dFn 5 1 (b_all_spelled c) ds n Q := by
  rintro ds n Q ⟨m, rfl, hm, q⟩
  refine ⟨rfl, ?_⟩
  simp only [b_all_spelled, dSeq, dSet, dLst, dCons, dC, dNil, List.length_cons, List.length_nil, Nat.zero_add, Nat.reduceLeDiff, dFor, iRg1, dVar, envOf, List.map_cons, List.map_nil, Nat.reduceSub, List.replicate, List.cons_append, List.nil_append, List.set_cons_succ, List.set_cons_zero, List.getElem?_cons_zero, Int.toNat_natCast, true_and]
  rw [rngD0]
  refine ⟨by omega, by omega, ?_⟩
  refine for_map intD (fun p r n' ε => ∃ (s2 s3 s4 : Sl), n' = n ∧ ε = [.val (.int m), .val (.lst ((spk p.length).map spD)), s2, s3, s4]) (List.range m) ⟨.no, .no, .no, rfl, rfl⟩ ?_ ?_
  · rintro n' ε ⟨s2, s3, s4, rfl, rfl⟩
    simp only [dRet, dVar, List.getElem?_cons_succ, List.getElem?_cons_zero]
    rw [List.length_range]
    exact q
  · rintro p y r n' ε nxt e1 ih ⟨s2, s3, s4, rfl, rfl⟩
    have hp : p.length < 7 := by
      have := congrArg List.length e1
      rw [List.length_range, List.length_append, List.length_cons] at this
      omega
    have hk := spk_len p.length (by omega)
    simp only [gNm, dSet, dO, dComp2, iVal, dVar, List.set_cons_succ, List.set_cons_zero, List.getElem?_cons_succ, List.getElem?_cons_zero, ev_srcl, Option.some.injEq, wipeE, exists_eq_left']
    refine comp2W_fm spD (fun q => (List.range (q.2 + 1)).map fun j => .str (q.1 ++ [97 + j])) 26 _ _ _ (by rw [List.length_nil]; omega) (fun a ha => ?_) (fun a ha acc n K hacc hK => ?_) ?_
    · have := (spk_full _ _ ha).2.1
      rw [List.length_map, List.length_range]
      omega
    · obtain ⟨fu, f1, f2⟩ := spk_full _ _ ha
      simp only [gNm, spD, List.set_cons_succ, List.set_cons_zero, wipeE]
      refine ⟨_, .inr ⟨a.1, rfl, rfl⟩, by rw [List.length_map]; omega, fun us nd hu => ?_⟩
      rw [full_card fu nd hu]
      simp only [dC, ev_sls, List.length_cons, List.length_nil, Nat.zero_add, Nat.reduceAdd, Nat.reduceLeDiff, ev_srcs, Option.some.injEq, exists_eq_left', true_and, ev_addi]
      have e1 : cut letters none (some (((a.2 + 1 : Nat) : Int))) = (List.range (a.2 + 1)).map fun j => 97 + j := by rw [cut_to, letters_take (by omega)]
      rw [show (a.2 : Int) + 1 = ((a.2 + 1 : Nat) : Int) by omega]
      have e2 : ∀ (k : Nat), sgn ((List.range k).map fun j => 97 + j) = (List.range k).map fun j => D.str [97 + j] := fun k => by
        unfold sgn
        rw [List.map_map]
        rfl
      unfold letters at e1
      rw [e1, e2]
      refine ⟨by rw [List.length_map, List.length_range]; omega, compW_map (fun j => D.str [97 + j]) (fun j => .str (a.1 ++ [97 + j])) _ _ _ (fun j hj n K K' hK => ?_) hK⟩
      simp only [gNm, dYes, dOp, dVar, List.set_cons_succ, List.set_cons_zero, List.getElem?_cons_succ, List.getElem?_cons_zero, ev_adds, List.length_cons, List.length_nil, Nat.zero_add, Nat.reduceLeDiff, forall_const, reduceCtorEq, false_implies, and_true]
      exact ⟨by omega, hK⟩
    · rw [List.nil_append]
      have e3 : ((spk p.length).flatMap fun q => (List.range (q.2 + 1)).map fun j => D.str (q.1 ++ [97 + j])) = (spk (p ++ [y]).length).map spD := by
        rw [List.length_append, List.length_singleton, spk, List.map_flatMap]
        congr 1
        funext q
        rw [List.map_map]
        rfl
      rw [e3]
      exact ih _ _ ⟨_, _, _, rfl, rfl⟩
def s_is_rep3 : FD := fun ds n P => ∃ (l : List Nat) (c k : Nat), ds = [.str l, .int c, .int k] ∧ l.length ≤ 1000 ∧ c < l.length ∧ 1 ≤ k ∧ k ≤ l.length ∧ P n (.bl (decide (rep l c k)))
theorem l_is_rep3 (c : Str → Addr) : ∀ ds n Q, s_is_rep3 ds n Q → dFn 6 3 (b_is_repeat_v3 c) ds n Q := by
  rintro ds n Q ⟨l, ct, k, rfl, h1, h2, h3, h4, q⟩
  refine ⟨rfl, ?_⟩
  have hm : (if ((ct : Int) - (k : Int) > 0) then ((ct : Int) - (k : Int)) else 0) = ((ct - k : Nat) : Int) := by split <;> omega
  have hm2 : (if ((l.length : Int) - (k : Int) < (ct : Int)) then ((l.length : Int) - (k : Int)) else (ct : Int)) = ((min ct (l.length - k) : Nat) : Int) := by split <;> omega
  simp only [b_is_repeat_v3, dSeq, dMul, bCons, dBi, dCons, dC, dOp, dVar, envOf, List.map_cons, List.map_nil, List.length_cons, List.length_nil, Nat.zero_add, Nat.reduceAdd, Nat.reduceSub, List.replicate, List.cons_append, List.nil_append, List.getElem?_cons_succ, List.getElem?_cons_zero, Pd.gSub, dNil, bNil, dRet, dO, dComp, iRg2, setL, List.set_cons_succ, List.set_cons_zero, wipeE, ev_all, true_and, ev_lens, ev_gI, TC, ev_min, ev_max]
  rw [hm, hm2, rngD_eq, show (((min ct (l.length - k) : Nat) : Int) - ((ct - k : Nat) : Int)).toNat = min ct (l.length - k) - (ct - k) by omega]
  refine ⟨by omega, ⟨by omega, by omega, by omega, by omega⟩, by rw [List.length_map, List.length_range']; omega, compW_map intD (fun i => .bl (decide (l[i]? = l[i + k]?))) _ _ _ (fun i hi n K K' q1 => ?_) ?_⟩
  · rw [List.mem_range'_1] at hi
    simp only [gNm, dYes, dOp, dVar, intD, List.set_cons_succ, List.set_cons_zero, List.getElem?_cons_zero, List.getElem?_cons_succ, gEq, ev_addi, ev_ixs, ev_oks, eqD_str, true_and, forall_const, reduceCtorEq, false_implies, and_true]
    refine ⟨by omega, _, atI_str (by omega), by omega, _, (by rw [show (i : Int) + (k : Int) = ((i + k : Nat) : Int) by omega]; exact atI_str (by omega)), ?_⟩
    rw [List.getElem?_eq_getElem (by omega : i < l.length), List.getElem?_eq_getElem (by omega : i + k < l.length)] at q1
    simpa using q1
  · rw [List.nil_append]
    refine ⟨_, isBls_mapN (fun i => decide (l[i]? = l[i + k]?)) _, ?_⟩
    rw [all_mapN]
    have e : ((List.range' (ct - k) (min ct (l.length - k) - (ct - k))).all fun i => decide (l[i]? = l[i + k]?)) = decide (rep l ct k) := by
      rw [Bool.eq_iff_iff, List.all_eq_true]
      simp only [decide_eq_true_eq, List.mem_range'_1]
      constructor
      · intro h i a b d
        exact h i ⟨a, by omega⟩
      · rintro h i ⟨a, b⟩
        exact h i a (by omega) (by omega)
    rw [e]
    exact q
def s_row_of : FD := fun ds n P => ∃ l : List Nat, ds = [.str l] ∧ l.length ≤ 1000 ∧ P n (.tup ((rowL l).map intD))
theorem l_row_of (c : Str → Addr) : ∀ ds n Q, s_row_of ds n Q → dFn 4 1 (b_row_of c s_is_rep3) ds n Q := by
  rintro ds n Q ⟨l, rfl, hl, q⟩
  refine ⟨rfl, ?_⟩
  simp only [b_row_of, dSeq, dSetO, dLstO, dNil, List.length_nil, Nat.reduceLeDiff, dFor, iRg1, dBi, dCons, dVar, envOf, List.map_cons, List.map_nil, List.length_cons, Nat.zero_add, Nat.reduceSub, List.replicate, List.cons_append, List.nil_append, List.set_cons_succ, List.set_cons_zero, List.getElem?_cons_zero, ev_lens, Int.toNat_natCast, true_and]
  rw [rngD0]
  refine ⟨by omega, by omega, by omega, ?_⟩
  refine for_map intD (fun p r n' ε => ∃ (s2 s3 : Sl), n' = n ∧ ε = [.val (.str l), .own (.lst ((p.map fun c => short l c).map intD)), s2, s3]) (List.range l.length) ⟨.no, .no, rfl, rfl⟩ ?_ ?_
  · rintro n' ε ⟨s2, s3, rfl, rfl⟩
    simp only [dFrz, dRet, dBi, dCons, dVar, List.foldl_cons, frzE, List.getElem?_cons_succ, List.getElem?_cons_zero, OD.d, List.set_cons_succ, List.set_cons_zero, List.foldl_nil, dNil, ev_tupl]
    exact q
  · rintro p y r n' ε nxt e1 ih ⟨s2, s3, rfl, rfl⟩
    have hy : y < l.length := by
      have : y ∈ List.range l.length := by rw [e1]; simp
      exact List.mem_range.mp this
    have hpl : p.length < l.length := by
      have := congrArg List.length e1
      rw [List.length_range, List.length_append, List.length_cons] at this
      omega
    have h0 : l ≠ [] := fun z => by rw [z] at hy; simp at hy
    simp only [gNm, dApp, intD, List.set_cons_succ, List.set_cons_zero, List.getElem?_cons_succ, List.getElem?_cons_zero, dOp, dO, dComp, iRg2, dC, dBi, dCons, dVar, dNil, wipeE, List.length_map, ev_ixl, ev_lens, ev_addi]
    rw [show ((l.length : Int) + 1 - 1).toNat = l.length by omega]
    refine ⟨by omega, ⟨by decide, by decide, by omega, by omega⟩, by rw [rngD_length]; omega, ?_⟩
    rw [show (1 : Int) = ((1 : Nat) : Int) from rfl, rngD_eq]
    refine compW_pure (tI fun i => decide (rep l y i)) id _ _ _ (fun x hx n K K' q1 q2 => ?_) ?_
    · obtain ⟨i, hi, rfl⟩ := List.mem_map.mp hx
      rw [List.mem_range'_1] at hi
      simp only [intD, tI_int, decide_eq_true_eq, decide_eq_false_iff_not, gNm, dTB, dCall, dCons, dVar, List.set_cons_succ, List.set_cons_zero, List.getElem?_cons_zero, List.getElem?_cons_succ, dNil, List.append_nil] at q1 q2 ⊢
      exact ⟨l, y, i, rfl, by omega, by omega, by omega, by omega, fun h => q1 (of_decide_eq_true h), fun h => q2 (of_decide_eq_false h)⟩
    · rw [List.nil_append, List.map_id, filter_intD]
      obtain ⟨t, e⟩ := reps_cons h0 y
      rw [show (List.range' 1 l.length).filter (fun i => decide (rep l y i)) = reps l y from rfl, e, List.map_cons]
      refine ⟨_, ev_at0 _ _, ?_⟩
      have go := ih n' [.val (.str l), .own (.lst (((p ++ [y]).map fun c => short l c).map intD)), .val (.int y), s3] ⟨_, _, rfl, rfl⟩
      rw [List.map_append, List.map_append] at go
      exact ⟨by omega, go⟩
def ofO : Option (Nat × List Nat) → D
  | none => .tup [.str [110, 111, 110, 101]]
  | some (k, l) => .tup [.str [119, 111, 114, 100, 115], .int (k : Nat), .str l]
def s_told_back : FD := fun ds n P => ∃ ns : List Nat, ds = [.tup (ns.map intD)] ∧ 1 ≤ ns.length ∧ ns.length ≤ 7 ∧ (∀ x ∈ ns, 1 ≤ x ∧ x ≤ 7) ∧ P n (ofO (toldO (found ns)))
theorem l_told_back (c : Str → Addr) : ∀ ds n Q, s_told_back ds n Q → dFn 4 1 (b_told_back c s_is_tuple s_is_integer s_all_spelled s_row_of) ds n Q := by
  rintro ds n Q ⟨ns, rfl, h1, h2, hx, q⟩
  refine ⟨rfl, ?_⟩
  simp only [b_told_back, dSeq, dIf, dOr, dNot, dTB, dCall, dCons, dVar, envOf, List.map_cons, List.map_nil, List.length_cons, List.length_nil, Nat.zero_add, Nat.reduceSub, List.replicate, List.cons_append, List.nil_append, List.getElem?_cons_zero, dC, dNil, List.append_nil, dNev, forall_const, reduceCtorEq, dNx, dSet, dO, dComp, iVal, dBi, wipeE, List.set_cons_succ, List.set_cons_zero, dRet, dIte, dOp, List.getElem?_cons_succ, dLst, Nat.reduceLeDiff, gEq, ev_okl, dTup, true_and, Nat.reduceAdd, ev_ixl, ev_lenl, ev_lent, List.length_map, false_implies, and_true, ev_srct, Option.some.injEq, ev_all, exists_eq_left']
  refine .inl ⟨_, 1, 7, rfl, ?_⟩
  rw [List.length_map, decide_eq_true ⟨h1, h2⟩]
  simp only []
  refine ⟨fun h => (by cases h), fun _ => ⟨by omega, compW_map intD (fun _ => .bl true) _ _ _ (fun x hxm n K K' q1 => ?_) ?_⟩⟩
  · have := hx x hxm
    simp only [gNm, dYes, dCall, dCons, dVar, intD, List.set_cons_succ, List.set_cons_zero, List.getElem?_cons_succ, List.getElem?_cons_zero, dC, dNil, List.append_nil, forall_const, reduceCtorEq, false_implies, and_true]
    refine .inl ⟨x, 1, 7, rfl, ?_⟩
    rw [decide_eq_true (by omega)]
    exact q1
  rw [List.nil_append]
  refine ⟨_, isBls_mapN (fun _ => true) _, ?_⟩
  rw [all_mapN, show (ns.all fun _ => true) = true by rw [List.all_eq_true]; exact fun _ _ => rfl]
  have hk := spk_len ns.length h2
  refine ⟨fun h => (by cases h), fun _ => ?_⟩
  refine ⟨ns.length, rfl, h2, _, rfl, by rw [List.length_map]; omega, ?_⟩
  refine compW_fm spD spD (fun p => rowL p.1 == ns) _ _ _ (fun p hp n K K' q1 q2 => ?_) ?_
  · obtain ⟨fu, f1, f2⟩ := spk_full _ _ hp
    simp only [gNm, dTB, dOp, dCall, dCons, dVar, spD, List.set_cons_succ, List.set_cons_zero, List.getElem?_cons_succ, List.getElem?_cons_zero, dNil, List.append_nil, gEq]
    refine ⟨p.1, rfl, by omega, ?_⟩
    simp only [ev_okt]
    refine ⟨by rw [Bool.and_eq_true]; exact ⟨okD_ints _, okD_ints _⟩, ?_⟩
    rw [show eqD (.tup ((rowL p.1).map intD)) (.tup (ns.map intD)) = decide (rowL p.1 = ns) from eqInts]
    exact ⟨fun h => q1 (by rw [beq_iff_eq]; exact of_decide_eq_true h), fun h => q2 (by rw [beq_eq_false_iff_ne]; exact of_decide_eq_false h)⟩
  rw [List.nil_append]
  have ef : ((spk ns.length).filter fun p => rowL p.1 == ns).map spD = (found ns).map D.str := by
    unfold found
    rw [List.filter_map, List.map_map]
    rfl
  have hal : ∀ l ∈ found ns, l.all (· < 1114112) = true := fun l hl => by
    obtain ⟨p, hp, rfl⟩ := List.mem_map.mp (List.mem_filter.mp hl).1
    obtain ⟨fu, f1, f2⟩ := spk_full _ _ hp
    rw [List.all_eq_true]
    intro y hy
    have := (fu.mem y).mp hy
    exact decide_eq_true (by omega)
  rw [ef]
  have hok : okD (.lst ((found ns).map D.str)) = true := by
    refine okD_list fun x hx => ?_
    obtain ⟨l, hl, rfl⟩ := List.mem_map.mp hx
    exact ⟨by unfold isPd; exact hal l hl, by unfold dpt; omega⟩
  refine ⟨by rw [hok]; rfl, ?_⟩
  rw [show eqD (.lst ((found ns).map D.str)) (.lst []) = ((found ns).map D.str).isEmpty from eqDs_nil _]
  cases e : found ns with
  | nil =>
    rw [e] at q
    exact ⟨fun _ => q, fun h => (by cases h)⟩
  | cons l fs =>
    rw [e] at q
    refine ⟨fun h => (by cases h), fun _ => ⟨_, ev_at0 _ _, ?_⟩⟩
    rw [List.length_map]
    exact q
theorem rowL_len {w : List Nat} : (rowL w).length = w.length := by unfold rowL; rw [List.length_map, List.length_range]
end LW
namespace LW
open PySem L2 Pd
def b__law_all_words (c : Str → Addr)  : DS := (dSeq (dSet 1 (dLst (dCons (dC (.str [97])) dNil)))
    (dSeq (dFor (iRg1 (dOp gSub (dVar 0) (dC (.int 1)))) (gNm 2) (dSeq (dSetO 3 (dLstO dNil))
    (dSeq (dFor (iVal (dVar 1)) (gNm 4) (dSeq (dSet 5 (dLenSetT (dVar 4)))
    (dExt 3 (dO (dComp (iVal (dSl (dC (.str [97, 98, 99, 100, 101, 102, 103, 104])) pNo (pSome (dOp gAdd (dVar 5) (dC (.int 1)))))) (gNm 6) dYes (dOp gAdd (dVar 4) (dVar 6)) [6])))))
    (dFrz [3] (dSet 1 (dVar 3))))))
    (dRet (dVar 1))))
def b__law_due (c : Str → Addr)  : DS := (dSeq (dSet 2 (dGetT (dVar 0) (dKs (dVar 1))))
    (dRet (dIte (dTB (dOp gNe (dVar 2) (dLst dNil))) (dTup (dCons (dC (.str [119, 111, 114, 100, 115])) (dCons (dBi gLen (dCons (dVar 2) dNil)) (dCons (dOp gIx (dVar 2) (dC (.int 0))) dNil)))) (dTup (dCons (dC (.str [110, 111, 110, 101])) dNil)))))
def b__law_table (c : Str → Addr) (s__law_all_words : FD) (s__law_row : FD) : DS := (dSeq (dSet 1 dNewT)
    (dSeq (dFor (iVal (dCall s__law_all_words [] (dCons (dVar 0) dNil))) (gNm 2) (dKeyed 3 1 (dKs (dCall s__law_row [] (dCons (dVar 2) dNil))) (dLst (dCons (dVar 2) dNil))
    dNx))
    (dRet (dVar 1))))
def b__law_right_v136 (c : Str → Addr) (s__law_of : FD) (s__law_letters : FD) (s__law_row : FD) (s__law_take : FD) (s__law_table : FD) (s_told_back : FD) (s__law_due : FD) : DS := (dSeq (dSet 1 (dCall s__law_of [] (dCons (dVar 0) (dCons (dLst (dCons (dC (.int 1)) (dCons (dC (.int 2)) (dCons (dC (.int 3)) (dCons (dC (.int 3)) (dCons (dC (.int 4)) (dCons (dC (.int 4)) (dCons (dC (.int 4)) (dCons (dC (.int 4)) (dCons (dC (.int 5)) (dCons (dC (.int 5)) (dCons (dC (.int 5)) (dCons (dC (.int 5)) (dCons (dC (.int 5)) (dCons (dC (.int 6)) (dCons (dC (.int 6)) (dCons (dC (.int 7)) dNil))))))))))))))))) dNil))))
    (dSeq (dSet 2 (dCall s__law_row [] (dCons (dCall s__law_letters [] (dCons (dVar 0) (dCons (dVar 1) (dCons (dVar 1) dNil)))) dNil)))
    (dSeq (dMul [3, 4] (bCons (dCall s__law_take [] (dCons (dVar 0) (dCons (dVar 1) dNil))) (bCons (dCall s__law_take [] (dCons (dVar 0) (dCons (dVar 1) dNil))) bNil)))
    (dSeq (dSetO 5 (dLstO (dCons (dVar 2) (dCons (dOp gAdd (dOp gAdd (dSl (dVar 2) pNo (pSome (dVar 3))) (dLst (dCons (dOp gAdd (dC (.int 1)) (dCall s__law_take [] (dCons (dVar 0) (dCons (dC (.int 7)) dNil)))) dNil))) (dSl (dVar 2) (pSome (dOp gAdd (dVar 3) (dC (.int 1)))) pNo)) dNil))))
    (dSeq (dSetO 6 (dLstOf (dVar 2)))
    (dSeq (dAsgC (dTup (dCons (dOp gIx (dVar 2) (dVar 4)) (dCons (dOp gIx (dVar 2) (dVar 3)) dNil))) (gTpC 2 (gsConsC (gPutL 6 (dVar 3)) (gsConsC (gPutL 6 (dVar 4)) gsNilC))))
    (dFrz [6] (dSeq (dExt 5 (dLst (dCons (dVar 6) (dCons (dOp gAdd (dLst (dCons (dC (.int 1)) dNil)) (dO (dComp (iRg1 (dOp gSub (dVar 1) (dC (.int 1)))) (gNm 8) dYes (dOp gAdd (dC (.int 1)) (dCall s__law_take [] (dCons (dVar 0) (dCons (dVar 1) dNil)))) [8]))) dNil))))
    (dSeq (dSet 7 (dCall s__law_table [] (dCons (dVar 1) dNil)))
    (dRet (dBi gAll (dCons (dO (dComp (iVal (dSlO 5 pNo (pSome (dIte (dTB (dOp gLt (dVar 1) (dC (.int 6)))) (dC (.int 4)) (dC (.int 2)))))) (gNm 9) dYes (dOp gEq (dBi gReprX (dCons (dCall s_told_back [] (dCons (dBi gTuple (dCons (dVar 9) dNil)) dNil)) dNil)) (dBi gReprX (dCons (dCall s__law_due [] (dCons (dVar 7) (dCons (dVar 9) dNil))) dNil))) [9])) dNil))))))))))))
end LW
namespace LW
open PySem L2 Pd
theorem seq_all {A B : DS} {N : DN} {n : Nat} {ε : Ev} (F : Nat → Ev → Prop) (h : ∀ nx : Nat → Ev → Prop, (∀ n ε, F n ε → nx n ε) → A { N with nx := nx } n ε) (k : ∀ n ε, F n ε → B N n ε) : dSeq A B N n ε := h _ k
end LW
namespace LW
open PySem L2 Pd
mutual
def rbD : D → Nat
  | .non => 4
  | .bl _ => 5
  | .int i => (numD i).length
  | .str t => 10 * t.length + 2
  | .lst xs => rbDs xs + 3
  | .tup xs => rbDs xs + 3
  | .obj _ _ => 4
  | .pot => 4
  | .scr _ => 4
  | .ref _ => 4
  | .tupK xs => rbDs xs + 3
  | .tupF _ => 4
  | .err _ _ => 4
  | .cel _ _ => 4
  | .dic ks vs => if ks.length = 0 then 2 else 0
def rbDs : List D → Nat
  | [] => 0
  | x :: xs => rbD x + 2 + rbDs xs
end
mutual
def smD : D → Bool
  | .non => true
  | .bl _ => true
  | .int _ => true
  | .str t => t.all (· < 1114112)
  | .lst xs => smDs xs
  | .tup xs => smDs xs
  | .obj _ _ => false
  | .pot => false
  | .scr _ => false
  | .ref _ => false
  | .tupK xs => smDs xs
  | .tupF _ => false
  | .err _ _ => false
  | .cel _ _ => false
  | .dic ks vs => decide (ks.length = 0)
def smDs : List D → Bool
  | [] => true
  | x :: xs => smD x && smDs xs
end
theorem strlen (x : Str) : x.cps.toList.length = x.length := by simp [Str.length]
mutual
theorem rb_ok : ∀ d : D, smD d = true → (toPD d).shown.length ≤ rbD d
  | .non, _ => by rw [toPD, PyData.shown, rbD]; decide
  | .bl b, _ => by cases b <;> (rw [toPD, PyData.shown, rbD]; decide)
  | .int i, _ => by
    rw [toPD, PyData.shown, rbD]
    exact Nat.le_of_eq (strlen _).symm
  | .str t, h => by
    rw [smD] at h
    rw [toPD, PyData.shown, rbD]
    have := PySem.StrLaws.reprText_len ⟨t.toArray⟩ fun c hc => by
      have := of_decide_eq_true (List.all_eq_true.mp h c (by simpa using hc))
      omega
    have e : (⟨t.toArray⟩ : Str).length = t.length := by simp [Str.length]
    rw [e] at this
    exact this
  | .lst xs, h => by
    rw [smD] at h
    rw [toPD, PyData.shown, rbD]
    refine Nat.le_trans (listText_len_le _) ?_
    have := rbs_ok xs h
    omega
  | .tup xs, h => by
    rw [smD] at h
    rw [toPD, PyData.shown, rbD]
    refine Nat.le_trans (tupleText_len_le _) ?_
    have := rbs_ok xs h
    omega
  | .obj _ _, h => by simp [smD] at h
  | .pot, h => by simp [smD] at h
  | .scr _, h => by simp [smD] at h
  | .ref _, h => by simp [smD] at h
  | .tupK xs, h => by
    rw [smD] at h
    rw [toPD, PyData.shown, rbD]
    refine Nat.le_trans (tupleText_len_le _) ?_
    have := rbs_ok xs h
    omega
  | .tupF _, h => by simp [smD] at h
  | .err _ _, h => by simp [smD] at h
  | .cel _ _, h => by simp [smD] at h
  | .dic ks vs, h => by
    rw [smD] at h
    have hk : ks = [] := List.length_eq_zero_iff.mp (of_decide_eq_true h)
    subst hk
    rw [toPD, rbD]
    show (PyData.shown (.dict [])).length ≤ _
    rw [PyData.shown, PyData.shownKv]
    decide
theorem rbs_ok : ∀ ds : List D, smDs ds = true → ((PyData.shownAll (toPDs ds)).map (·.length)).sum + 2 * (PyData.shownAll (toPDs ds)).length ≤ rbDs ds
  | [], _ => by simp [toPDs, PyData.shownAll, rbDs]
  | d :: ds, h => by
    rw [smDs, Bool.and_eq_true] at h
    have h1 := rb_ok d h.1
    have h2 := rbs_ok ds h.2
    rw [toPDs, PyData.shownAll, rbDs, List.map_cons, List.sum_cons, List.length_cons]
    omega
end
end LW
namespace LW
open PySem L2 Pd
inductive Deed where
  | feed (u : List Nat) | turn (ct s : Nat) (kp : Bool)
structure Cu where
  ct : Nat
  s : Nat
  kp : Bool
  tx : List Nat
  st : PS
def Cu.go (w : List Nat) (q : Cu) : Deed → Cu
  | .feed u => ⟨q.ct, q.s, q.kp, q.tx ++ u, goP w (q.tx ++ u) q.ct q.s q.kp ((q.tx ++ u).length + 1) q.st⟩
  | .turn ct s kp => ⟨ct, s, kp, q.tx, goP w q.tx ct s kp (q.tx.length + 1) ⟨q.st.pl, 0, q.st.fd, q.st.lk⟩⟩
def Cu.run (w : List Nat) (q : Cu) (l : List Deed) : Cu := l.foldl (Cu.go w) q
structure Fdr where
  bs : List Bl
  ct : Nat
  s : Nat
  kp : Bool
  ds : List Deed
  ls : List Deed
def Fdr.w (F : Fdr) : List Nat := expand F.bs
def DOk (W : Nat) (q : Cu) : Deed → Prop
  | .feed u => AL u ∧ 1 ≤ u.length ∧ u.length ≤ 60 ∧ q.tx.length + u.length ≤ 300
  | .turn ct s _ => ct < W ∧ 1 ≤ s ∧ s ≤ W
structure CuOk (W : Nat) (q : Cu) : Prop where
  ct : q.ct < W
  s1 : 1 ≤ q.s
  s2 : q.s ≤ W
  tx : q.tx.length ≤ 300
  al : AL q.tx
  kn : q.st.kn < W
  fd : q.st.fd.length ≤ q.st.pl
  pl : q.st.pl ≤ q.tx.length
theorem CuOk.go {w : List Nat} {q : Cu} (h : CuOk w.length q) {d : Deed} (hd : DOk w.length q d) : CuOk w.length (q.go w d) := by
  have hw : 0 < w.length := Nat.lt_of_le_of_lt (Nat.zero_le _) h.ct
  cases d with
  | feed u =>
    obtain ⟨h1, h2, h3, h4⟩ := hd
    have z := goP_fdp (w := w) (t := q.tx ++ u) (kp := q.kp) h.ct h.s1 h.s2 ((q.tx ++ u).length + 1) q.st h.kn h.fd (by rw [List.length_append]; have := h.pl; omega)
    exact ⟨h.ct, h.s1, h.s2, by show (q.tx ++ u).length ≤ 300; rw [List.length_append]; omega, fun x hx => (List.mem_append.mp hx).elim (h.al x) (h1 x), goP_kn hw h.s1 _ _ h.kn, z.1, z.2⟩
  | turn ct s kp =>
    obtain ⟨h1, h2, h3⟩ := hd
    have z := goP_fdp (w := w) (t := q.tx) (kp := kp) h1 h2 h3 (q.tx.length + 1) ⟨q.st.pl, 0, q.st.fd, q.st.lk⟩ hw h.fd h.pl
    exact ⟨h1, h2, h3, h.tx, h.al, goP_kn hw h2 _ _ hw, z.1, z.2⟩
end LW
namespace LW
open PySem L2 Pd
structure Upd (n i : Nat) (o : OD) (n' : Nat) : Prop where
  dr : dr n' = dr n
  cs : cs n' = (cs n).set i o
theorem Upd.set (n i : Nat) (o : OD) : Upd n i o (setC n i o) := ⟨dr_setC _ _ _, cs_setC _ _ _⟩
theorem Upd.at {n i n' : Nat} {C : Addr} {fs gs : List (Str × D)} (h : Upd n i (.ins C fs) n') (hi : (Pd.cs n)[i]? = some (.ins C gs)) : (Pd.cs n')[i]? = some (.ins C fs) := by
  rw [h.cs]
  exact List.getElem?_set_self (List.getElem?_eq_some_iff.mp hi).1
theorem noC_up {s : FD} {ds : List D} {n : Nat} {P : Nat → D → Prop} (h : noCs ds = true) (k : s ds (dr n) fun m r => noC r = true → P (wd n m) r) : up s ds n P := ⟨h, k⟩
end LW
namespace LW
open PySem L2 Pd
def s_all_words : FD := fun ds n P => ∃ m : Nat, ds = [.int m] ∧ 1 ≤ m ∧ m ≤ 7 ∧ P n (.lst ((spk m).map spD))
theorem l_all_words (c : Str → Addr) : ∀ ds n Q, s_all_words ds n Q → dFn 7 1 (b__law_all_words c) ds n Q := by
  rintro ds n Q ⟨m, rfl, h1, hm, q⟩
  refine ⟨rfl, ?_⟩
  simp only [b__law_all_words, dFor, iRg1, envOf, dRet, dRetN, dOp, dSl, dSlO, dVar, dC, pSome, pNo, ev_sll, ev_slt, ev_sls, dBi, dCons, dNil, ev_lenl, ev_lent, ev_lens, ev_lenr, ev_gI, TC, Pd.gSub, gLt, gLe, gGt, gGe, gMod, gFdiv, gPow, gEq, gNe, ev_oki, ev_oks, ev_okl, ev_okt, gIs, gIsNot, gIsB, gIsNotB, Pd.isNon, dCall, dSeq, dSet, dSetO, dMul, setL, bCons, bOwn, bNil, dIf, dIte, dTB, dAnd, dOr, dNot, dBV, dAndV, dOrV, dChain, dTmp, dTmpT, frzE, dFrz, OD.d, dIxO, dApp, dSetI, dNeg, dLst, dLstO, dTup, dO, dDrop, ev_abs, ev_inttoi, ev_inttob, ev_inttos, ev_strtoi, ev_listl, ev_listt, ev_lists, ev_tupl, ev_tupt, ev_addi, ev_adds, ev_addl, ev_addt, ev_muli, ev_muls, ev_mull, ev_max, ev_min, ev_all, ev_any, gRepr, dLRg, Pd.r1, Pd.r2, eqD_str, eqD_int, eqD_bl, dFld, dProp, dMeth, dAugI, dRev, dMake, dIsi, isT, isC, dNx, dBrk, dNev, dFst, gNm, gTp, gsCons, gsNil, dAsg, dStar, dYes, iniEnd, flatD, wipeE, ev_ixl, ev_ixt, ev_ixs, ev_ixr, ev_srcl, ev_srct, ev_srcs, ev_at0, ev_at1, ev_atl, ev_atn, ev_ixn, Option.some.injEq, exists_eq_left', exists_eq_left, List.foldl_cons, List.foldl_nil, List.map_cons, List.map_nil, List.replicate, List.length_append, List.length_map, List.length_cons, List.length_nil, List.cons_append, List.nil_append, List.append_nil, List.getElem?_cons_zero, List.getElem?_cons_succ, List.set_cons_zero, List.set_cons_succ, Nat.zero_add, Nat.reduceAdd, Nat.reduceSub, Nat.reduceLeDiff, true_and, and_true, decide_eq_true_eq, decide_eq_false_iff_not, ne_eq, reduceCtorEq, false_implies, true_implies, forall_const, Bool.and_self, Bool.and_true, Bool.true_and, lk_ends, lk_blocks, lk_text, lk_spot, lk_letter, Int.toNat_natCast, dFldO, dTmq, dMut, dSetQ, dParQ, qMake, D.still, D.stills, lf_past, lf_word, lf_letters, pf_past, pf_later, pm1, pm2, pm3, pm4, pi1, pi2, pi3, pi4, pi5, lm_state, lm_text, lm_search]
  have em : ((m : Int) - 1) = ((m - 1 : Nat) : Int) := by omega
  rw [em, rngD0]
  refine ⟨by omega, by omega, ?_⟩
  refine for_map intD (fun p r n' ε => ∃ (s2 s3 s4 s5 s6 : Sl), n' = n ∧ ε = [.val (.int m), .val (.lst ((spk (p.length + 1)).map spD)), s2, s3, s4, s5, s6]) (List.range (m - 1)) ⟨.no, .no, .no, .no, .no, rfl, rfl⟩ ?_ ?_
  · rintro n' ε ⟨s2, s3, s4, s5, s6, rfl, rfl⟩
    simp only [envOf, dRet, dRetN, dOp, dSl, dSlO, dVar, dC, pSome, pNo, ev_sll, ev_slt, ev_sls, dBi, dCons, dNil, ev_lenl, ev_lent, ev_lens, ev_lenr, ev_gI, TC, Pd.gSub, gLt, gLe, gGt, gGe, gMod, gFdiv, gPow, gEq, gNe, ev_oki, ev_oks, ev_okl, ev_okt, gIs, gIsNot, gIsB, gIsNotB, Pd.isNon, dCall, dSeq, dSet, dSetO, dMul, setL, bCons, bOwn, bNil, dIf, dIte, dTB, dAnd, dOr, dNot, dBV, dAndV, dOrV, dChain, dTmp, dTmpT, frzE, dFrz, OD.d, dIxO, dApp, dSetI, dNeg, dLst, dLstO, dTup, dO, dDrop, ev_abs, ev_inttoi, ev_inttob, ev_inttos, ev_strtoi, ev_listl, ev_listt, ev_lists, ev_tupl, ev_tupt, ev_addi, ev_adds, ev_addl, ev_addt, ev_muli, ev_muls, ev_mull, ev_max, ev_min, ev_all, ev_any, gRepr, dLRg, Pd.r1, Pd.r2, eqD_str, eqD_int, eqD_bl, dFld, dProp, dMeth, dAugI, dRev, dMake, dIsi, isT, isC, dNx, dBrk, dNev, dFst, gNm, gTp, gsCons, gsNil, dAsg, dStar, dYes, iniEnd, flatD, wipeE, ev_ixl, ev_ixt, ev_ixs, ev_ixr, ev_srcl, ev_srct, ev_srcs, ev_at0, ev_at1, ev_atl, ev_atn, ev_ixn, Option.some.injEq, exists_eq_left', exists_eq_left, List.foldl_cons, List.foldl_nil, List.map_cons, List.map_nil, List.replicate, List.length_append, List.length_map, List.length_cons, List.length_nil, List.cons_append, List.nil_append, List.append_nil, List.getElem?_cons_zero, List.getElem?_cons_succ, List.set_cons_zero, List.set_cons_succ, Nat.zero_add, Nat.reduceAdd, Nat.reduceSub, Nat.reduceLeDiff, true_and, and_true, decide_eq_true_eq, decide_eq_false_iff_not, ne_eq, reduceCtorEq, false_implies, true_implies, forall_const, Bool.and_self, Bool.and_true, Bool.true_and, lk_ends, lk_blocks, lk_text, lk_spot, lk_letter, Int.toNat_natCast, dFldO, dTmq, dMut, dSetQ, dParQ, qMake, D.still, D.stills, lf_past, lf_word, lf_letters, pf_past, pf_later, pm1, pm2, pm3, pm4, pi1, pi2, pi3, pi4, pi5, lm_state, lm_text, lm_search]
    rw [List.length_range, show m - 1 + 1 = m by omega]
    exact q
  · rintro p y r n' ε nxt e1 ih ⟨s2, s3, s4, s5, s6, rfl, rfl⟩
    have hp : p.length + 1 < 7 := by
      have := congrArg List.length e1
      rw [List.length_range, List.length_append, List.length_cons] at this
      omega
    have hk := spk_len (p.length + 1) (by omega)
    simp only [dFor, iVal, envOf, dRet, dRetN, dOp, dSl, dSlO, dVar, dC, pSome, pNo, ev_sll, ev_slt, ev_sls, dBi, dCons, dNil, ev_lenl, ev_lent, ev_lens, ev_lenr, ev_gI, TC, Pd.gSub, gLt, gLe, gGt, gGe, gMod, gFdiv, gPow, gEq, gNe, ev_oki, ev_oks, ev_okl, ev_okt, gIs, gIsNot, gIsB, gIsNotB, Pd.isNon, dCall, dSeq, dSet, dSetO, dMul, setL, bCons, bOwn, bNil, dIf, dIte, dTB, dAnd, dOr, dNot, dBV, dAndV, dOrV, dChain, dTmp, dTmpT, frzE, dFrz, OD.d, dIxO, dApp, dSetI, dNeg, dLst, dLstO, dTup, dO, dDrop, ev_abs, ev_inttoi, ev_inttob, ev_inttos, ev_strtoi, ev_listl, ev_listt, ev_lists, ev_tupl, ev_tupt, ev_addi, ev_adds, ev_addl, ev_addt, ev_muli, ev_muls, ev_mull, ev_max, ev_min, ev_all, ev_any, gRepr, dLRg, Pd.r1, Pd.r2, eqD_str, eqD_int, eqD_bl, dFld, dProp, dMeth, dAugI, dRev, dMake, dIsi, isT, isC, dNx, dBrk, dNev, dFst, gNm, gTp, gsCons, gsNil, dAsg, dStar, dYes, iniEnd, flatD, wipeE, ev_ixl, ev_ixt, ev_ixs, ev_ixr, ev_srcl, ev_srct, ev_srcs, ev_at0, ev_at1, ev_atl, ev_atn, ev_ixn, Option.some.injEq, exists_eq_left', exists_eq_left, List.foldl_cons, List.foldl_nil, List.map_cons, List.map_nil, List.replicate, List.length_append, List.length_map, List.length_cons, List.length_nil, List.cons_append, List.nil_append, List.append_nil, List.getElem?_cons_zero, List.getElem?_cons_succ, List.set_cons_zero, List.set_cons_succ, Nat.zero_add, Nat.reduceAdd, Nat.reduceSub, Nat.reduceLeDiff, true_and, and_true, decide_eq_true_eq, decide_eq_false_iff_not, ne_eq, reduceCtorEq, false_implies, true_implies, forall_const, Bool.and_self, Bool.and_true, Bool.true_and, lk_ends, lk_blocks, lk_text, lk_spot, lk_letter, Int.toNat_natCast, dFldO, dTmq, dMut, dSetQ, dParQ, qMake, D.still, D.stills, lf_past, lf_word, lf_letters, pf_past, pf_later, pm1, pm2, pm3, pm4, pi1, pi2, pi3, pi4, pi5, lm_state, lm_text, lm_search]
    refine for_map spD (fun a b n2 ε => ∃ (s4 s5 s6 : Sl), n2 = n' ∧ ε = [.val (.int m), .val (.lst ((spk (p.length + 1)).map spD)), .val (.int y), .own (.lst ((a.flatMap fun q => (List.range (q.2 + 1)).map fun j => (q.1 ++ [97 + j], max q.2 (j + 1))).map spD)), s4, s5, s6]) (spk (p.length + 1)) ⟨_, _, _, rfl, rfl⟩ ?_ ?_
    · rintro n2 ε ⟨s4, s5, s6, rfl, rfl⟩
      simp only [envOf, dRet, dRetN, dOp, dSl, dSlO, dVar, dC, pSome, pNo, ev_sll, ev_slt, ev_sls, dBi, dCons, dNil, ev_lenl, ev_lent, ev_lens, ev_lenr, ev_gI, TC, Pd.gSub, gLt, gLe, gGt, gGe, gMod, gFdiv, gPow, gEq, gNe, ev_oki, ev_oks, ev_okl, ev_okt, gIs, gIsNot, gIsB, gIsNotB, Pd.isNon, dCall, dSeq, dSet, dSetO, dMul, setL, bCons, bOwn, bNil, dIf, dIte, dTB, dAnd, dOr, dNot, dBV, dAndV, dOrV, dChain, dTmp, dTmpT, frzE, dFrz, OD.d, dIxO, dApp, dSetI, dNeg, dLst, dLstO, dTup, dO, dDrop, ev_abs, ev_inttoi, ev_inttob, ev_inttos, ev_strtoi, ev_listl, ev_listt, ev_lists, ev_tupl, ev_tupt, ev_addi, ev_adds, ev_addl, ev_addt, ev_muli, ev_muls, ev_mull, ev_max, ev_min, ev_all, ev_any, gRepr, dLRg, Pd.r1, Pd.r2, eqD_str, eqD_int, eqD_bl, dFld, dProp, dMeth, dAugI, dRev, dMake, dIsi, isT, isC, dNx, dBrk, dNev, dFst, gNm, gTp, gsCons, gsNil, dAsg, dStar, dYes, iniEnd, flatD, wipeE, ev_ixl, ev_ixt, ev_ixs, ev_ixr, ev_srcl, ev_srct, ev_srcs, ev_at0, ev_at1, ev_atl, ev_atn, ev_ixn, Option.some.injEq, exists_eq_left', exists_eq_left, List.foldl_cons, List.foldl_nil, List.map_cons, List.map_nil, List.replicate, List.length_append, List.length_map, List.length_cons, List.length_nil, List.cons_append, List.nil_append, List.append_nil, List.getElem?_cons_zero, List.getElem?_cons_succ, List.set_cons_zero, List.set_cons_succ, Nat.zero_add, Nat.reduceAdd, Nat.reduceSub, Nat.reduceLeDiff, true_and, and_true, decide_eq_true_eq, decide_eq_false_iff_not, ne_eq, reduceCtorEq, false_implies, true_implies, forall_const, Bool.and_self, Bool.and_true, Bool.true_and, lk_ends, lk_blocks, lk_text, lk_spot, lk_letter, Int.toNat_natCast, dFldO, dTmq, dMut, dSetQ, dParQ, qMake, D.still, D.stills, lf_past, lf_word, lf_letters, pf_past, pf_later, pm1, pm2, pm3, pm4, pi1, pi2, pi3, pi4, pi5, lm_state, lm_text, lm_search]
      have := ih n2 [.val (.int m), .val (.lst ((spk ((p ++ [y]).length + 1)).map spD)), .val (.int y), .val (.lst ((spk ((p ++ [y]).length + 1)).map spD)), s4, s5, s6] ⟨_, _, _, _, _, rfl, rfl⟩
      rw [List.length_append, List.length_singleton] at this
      exact this
    · rintro a x b n2 ε nxt2 e2 ih2 ⟨s4, s5, s6, rfl, rfl⟩
      have hx : x ∈ spk (p.length + 1) := by rw [e2]; simp
      obtain ⟨fu, f1, f2⟩ := spk_full _ _ hx
      simp only [spD, dLenSetT, envOf, dRet, dRetN, dOp, dSl, dSlO, dVar, dC, pSome, pNo, ev_sll, ev_slt, ev_sls, dBi, dCons, dNil, ev_lenl, ev_lent, ev_lens, ev_lenr, ev_gI, TC, Pd.gSub, gLt, gLe, gGt, gGe, gMod, gFdiv, gPow, gEq, gNe, ev_oki, ev_oks, ev_okl, ev_okt, gIs, gIsNot, gIsB, gIsNotB, Pd.isNon, dCall, dSeq, dSet, dSetO, dMul, setL, bCons, bOwn, bNil, dIf, dIte, dTB, dAnd, dOr, dNot, dBV, dAndV, dOrV, dChain, dTmp, dTmpT, frzE, dFrz, OD.d, dIxO, dApp, dSetI, dNeg, dLst, dLstO, dTup, dO, dDrop, ev_abs, ev_inttoi, ev_inttob, ev_inttos, ev_strtoi, ev_listl, ev_listt, ev_lists, ev_tupl, ev_tupt, ev_addi, ev_adds, ev_addl, ev_addt, ev_muli, ev_muls, ev_mull, ev_max, ev_min, ev_all, ev_any, gRepr, dLRg, Pd.r1, Pd.r2, eqD_str, eqD_int, eqD_bl, dFld, dProp, dMeth, dAugI, dRev, dMake, dIsi, isT, isC, dNx, dBrk, dNev, dFst, gNm, gTp, gsCons, gsNil, dAsg, dStar, dYes, iniEnd, flatD, wipeE, ev_ixl, ev_ixt, ev_ixs, ev_ixr, ev_srcl, ev_srct, ev_srcs, ev_at0, ev_at1, ev_atl, ev_atn, ev_ixn, Option.some.injEq, exists_eq_left', exists_eq_left, List.foldl_cons, List.foldl_nil, List.map_cons, List.map_nil, List.replicate, List.length_append, List.length_map, List.length_cons, List.length_nil, List.cons_append, List.nil_append, List.append_nil, List.getElem?_cons_zero, List.getElem?_cons_succ, List.set_cons_zero, List.set_cons_succ, Nat.zero_add, Nat.reduceAdd, Nat.reduceSub, Nat.reduceLeDiff, true_and, and_true, decide_eq_true_eq, decide_eq_false_iff_not, ne_eq, reduceCtorEq, false_implies, true_implies, forall_const, Bool.and_self, Bool.and_true, Bool.true_and, lk_ends, lk_blocks, lk_text, lk_spot, lk_letter, Int.toNat_natCast, dFldO, dTmq, dMut, dSetQ, dParQ, qMake, D.still, D.stills, lf_past, lf_word, lf_letters, pf_past, pf_later, pm1, pm2, pm3, pm4, pi1, pi2, pi3, pi4, pi5, lm_state, lm_text, lm_search]
      refine ⟨_, .inr ⟨x.1, rfl, rfl⟩, by rw [List.length_map]; omega, fun us nd hu => ?_⟩
      rw [full_card fu nd hu]
      simp only [dExt, dComp, iVal, envOf, dRet, dRetN, dOp, dSl, dSlO, dVar, dC, pSome, pNo, ev_sll, ev_slt, ev_sls, dBi, dCons, dNil, ev_lenl, ev_lent, ev_lens, ev_lenr, ev_gI, TC, Pd.gSub, gLt, gLe, gGt, gGe, gMod, gFdiv, gPow, gEq, gNe, ev_oki, ev_oks, ev_okl, ev_okt, gIs, gIsNot, gIsB, gIsNotB, Pd.isNon, dCall, dSeq, dSet, dSetO, dMul, setL, bCons, bOwn, bNil, dIf, dIte, dTB, dAnd, dOr, dNot, dBV, dAndV, dOrV, dChain, dTmp, dTmpT, frzE, dFrz, OD.d, dIxO, dApp, dSetI, dNeg, dLst, dLstO, dTup, dO, dDrop, ev_abs, ev_inttoi, ev_inttob, ev_inttos, ev_strtoi, ev_listl, ev_listt, ev_lists, ev_tupl, ev_tupt, ev_addi, ev_adds, ev_addl, ev_addt, ev_muli, ev_muls, ev_mull, ev_max, ev_min, ev_all, ev_any, gRepr, dLRg, Pd.r1, Pd.r2, eqD_str, eqD_int, eqD_bl, dFld, dProp, dMeth, dAugI, dRev, dMake, dIsi, isT, isC, dNx, dBrk, dNev, dFst, gNm, gTp, gsCons, gsNil, dAsg, dStar, dYes, iniEnd, flatD, wipeE, ev_ixl, ev_ixt, ev_ixs, ev_ixr, ev_srcl, ev_srct, ev_srcs, ev_at0, ev_at1, ev_atl, ev_atn, ev_ixn, Option.some.injEq, exists_eq_left', exists_eq_left, List.foldl_cons, List.foldl_nil, List.map_cons, List.map_nil, List.replicate, List.length_append, List.length_map, List.length_cons, List.length_nil, List.cons_append, List.nil_append, List.append_nil, List.getElem?_cons_zero, List.getElem?_cons_succ, List.set_cons_zero, List.set_cons_succ, Nat.zero_add, Nat.reduceAdd, Nat.reduceSub, Nat.reduceLeDiff, true_and, and_true, decide_eq_true_eq, decide_eq_false_iff_not, ne_eq, reduceCtorEq, false_implies, true_implies, forall_const, Bool.and_self, Bool.and_true, Bool.true_and, lk_ends, lk_blocks, lk_text, lk_spot, lk_letter, Int.toNat_natCast, dFldO, dTmq, dMut, dSetQ, dParQ, qMake, D.still, D.stills, lf_past, lf_word, lf_letters, pf_past, pf_later, pm1, pm2, pm3, pm4, pi1, pi2, pi3, pi4, pi5, lm_state, lm_text, lm_search]
      have e3 : cut [97, 98, 99, 100, 101, 102, 103, 104] none (some (((x.2 + 1 : Nat) : Int))) = (List.range (x.2 + 1)).map fun j => 97 + j := by
        rw [cut_to]
        have : ((List.range 9).all fun k => ([97, 98, 99, 100, 101, 102, 103, 104] : List Nat).take k == (List.range k).map fun j => 97 + j) = true := by decide +kernel
        rw [List.all_eq_true] at this
        exact beq_iff_eq.mp (this (x.2 + 1) (List.mem_range.mpr (by omega)))
      rw [show (x.2 : Int) + 1 = ((x.2 + 1 : Nat) : Int) by omega, e3]
      have e4 : ∀ (k : Nat), sgn ((List.range k).map fun j => 97 + j) = (List.range k).map fun j => D.str [97 + j] := fun k => by
        unfold sgn
        rw [List.map_map]
        rfl
      rw [e4]
      have hsz : (a.flatMap fun q => (List.range (q.2 + 1)).map fun j => (q.1 ++ [97 + j], max q.2 (j + 1))).length + (x.2 + 1) ≤ 877 := by
        have h7 := spk_len (p.length + 2) (by omega)
        have e5 : spk (p.length + 2) = (spk (p.length + 1)).flatMap fun q => (List.range (q.2 + 1)).map fun j => (q.1 ++ [97 + j], max q.2 (j + 1)) := rfl
        rw [e5, e2, List.flatMap_append, List.flatMap_cons, List.length_append, List.length_append, List.length_map, List.length_range] at h7
        omega
      refine ⟨by rw [List.length_map, List.length_range]; omega, compW_map (fun j => D.str [97 + j]) (fun j => .str (x.1 ++ [97 + j])) _ _ _ (fun j hj n K K' hK => ?_) ?_⟩
      · simp only [envOf, dRet, dRetN, dOp, dSl, dSlO, dVar, dC, pSome, pNo, ev_sll, ev_slt, ev_sls, dBi, dCons, dNil, ev_lenl, ev_lent, ev_lens, ev_lenr, ev_gI, TC, Pd.gSub, gLt, gLe, gGt, gGe, gMod, gFdiv, gPow, gEq, gNe, ev_oki, ev_oks, ev_okl, ev_okt, gIs, gIsNot, gIsB, gIsNotB, Pd.isNon, dCall, dSeq, dSet, dSetO, dMul, setL, bCons, bOwn, bNil, dIf, dIte, dTB, dAnd, dOr, dNot, dBV, dAndV, dOrV, dChain, dTmp, dTmpT, frzE, dFrz, OD.d, dIxO, dApp, dSetI, dNeg, dLst, dLstO, dTup, dO, dDrop, ev_abs, ev_inttoi, ev_inttob, ev_inttos, ev_strtoi, ev_listl, ev_listt, ev_lists, ev_tupl, ev_tupt, ev_addi, ev_adds, ev_addl, ev_addt, ev_muli, ev_muls, ev_mull, ev_max, ev_min, ev_all, ev_any, gRepr, dLRg, Pd.r1, Pd.r2, eqD_str, eqD_int, eqD_bl, dFld, dProp, dMeth, dAugI, dRev, dMake, dIsi, isT, isC, dNx, dBrk, dNev, dFst, gNm, gTp, gsCons, gsNil, dAsg, dStar, dYes, iniEnd, flatD, wipeE, ev_ixl, ev_ixt, ev_ixs, ev_ixr, ev_srcl, ev_srct, ev_srcs, ev_at0, ev_at1, ev_atl, ev_atn, ev_ixn, Option.some.injEq, exists_eq_left', exists_eq_left, List.foldl_cons, List.foldl_nil, List.map_cons, List.map_nil, List.replicate, List.length_append, List.length_map, List.length_cons, List.length_nil, List.cons_append, List.nil_append, List.append_nil, List.getElem?_cons_zero, List.getElem?_cons_succ, List.set_cons_zero, List.set_cons_succ, Nat.zero_add, Nat.reduceAdd, Nat.reduceSub, Nat.reduceLeDiff, true_and, and_true, decide_eq_true_eq, decide_eq_false_iff_not, ne_eq, reduceCtorEq, false_implies, true_implies, forall_const, Bool.and_self, Bool.and_true, Bool.true_and, lk_ends, lk_blocks, lk_text, lk_spot, lk_letter, Int.toNat_natCast, dFldO, dTmq, dMut, dSetQ, dParQ, qMake, D.still, D.stills, lf_past, lf_word, lf_letters, pf_past, pf_later, pm1, pm2, pm3, pm4, pi1, pi2, pi3, pi4, pi5, lm_state, lm_text, lm_search]
        exact ⟨by omega, hK⟩
      · rw [List.nil_append]
        refine ⟨by rw [List.length_map, List.length_range]; omega, ?_⟩
        have := ih2 n2 [.val (.int m), .val (.lst ((spk (p.length + 1)).map spD)), .val (.int y), .own (.lst (((a ++ [x]).flatMap fun q => (List.range (q.2 + 1)).map fun j => (q.1 ++ [97 + j], max q.2 (j + 1))).map spD)), .val (.str x.1), .val (.int x.2), s6] ⟨_, _, _, rfl, rfl⟩
        rw [List.flatMap_append, List.flatMap_singleton, List.map_append, List.map_map (l := List.range (x.2 + 1))] at this
        exact this
def wordsD (m : Nat) : List (List Nat) := (spk m).map (·.1)
def ksOf (ws : List (List Nat)) : List (List Nat) := ws.foldl (fun ks w => putKs ks (rowL w)) []
def grpD (ws : List (List Nat)) (k : List Nat) : List (List Nat) := ws.filter fun w => rowL w == k
def tabD (ws : List (List Nat)) : OD := .dct (ksOf ws) ((ksOf ws).map fun k => .lst ((grpD ws k).map D.str))
theorem rev_ind {α : Type} {p : List α → Prop} (h0 : p []) (h1 : ∀ l x, p l → p (l ++ [x])) (l : List α) : p l := by
  have : ∀ r : List α, p r.reverse := fun r => by
    induction r with
    | nil => exact h0
    | cons x r ih =>
      rw [List.reverse_cons]
      exact h1 _ _ ih
  have := this l.reverse
  rwa [List.reverse_reverse] at this
theorem ksOf_snoc {ws : List (List Nat)} {w : List Nat} : ksOf (ws ++ [w]) = putKs (ksOf ws) (rowL w) := by
  unfold ksOf
  rw [List.foldl_append]
  rfl
theorem mem_ksOf : ∀ {ws : List (List Nat)} {k : List Nat}, k ∈ ksOf ws ↔ ∃ w ∈ ws, rowL w = k := by
  intro ws
  refine rev_ind (p := fun ws => ∀ {k : List Nat}, k ∈ ksOf ws ↔ ∃ w ∈ ws, rowL w = k) ?_ ?_ ws
  · intro k
    simp [ksOf]
  · intro ws w ih k
    rw [ksOf_snoc]
    unfold putKs
    split
    · rename_i h
      rw [ih]
      constructor
      · rintro ⟨v, h1, h2⟩
        exact ⟨v, List.mem_append_left _ h1, h2⟩
      · rintro ⟨v, h1, h2⟩
        rcases List.mem_append.mp h1 with h1 | h1
        · exact ⟨v, h1, h2⟩
        · rw [List.mem_singleton.mp h1] at h2
          rw [← h2]
          exact ih.mp h
    · rw [List.mem_append, List.mem_singleton, ih]
      constructor
      · rintro (⟨v, h1, h2⟩ | h)
        · exact ⟨v, List.mem_append_left _ h1, h2⟩
        · exact ⟨w, by simp, h.symm⟩
      · rintro ⟨v, h1, h2⟩
        rcases List.mem_append.mp h1 with h1 | h1
        · exact .inl ⟨v, h1, h2⟩
        · rw [List.mem_singleton.mp h1] at h2
          exact .inr h2.symm
theorem ksOf_len {ws : List (List Nat)} : (ksOf ws).length ≤ ws.length := by
  refine rev_ind (p := fun ws => (ksOf ws).length ≤ ws.length) (Nat.le_refl _) ?_ ws
  · intro ws w ih
    rw [ksOf_snoc]
    unfold putKs
    rw [List.length_append, List.length_singleton]
    split
    · omega
    · rw [List.length_append, List.length_singleton]
      omega
theorem grp_nil {ws : List (List Nat)} {k : List Nat} (h : ¬ k ∈ ksOf ws) : grpD ws k = [] := by
  unfold grpD
  rw [List.filter_eq_nil_iff]
  intro w hw e
  exact h (mem_ksOf.mpr ⟨w, hw, beq_iff_eq.mp e⟩)
theorem look_map {f : List Nat → D} {k : List Nat} : ∀ {ks : List (List Nat)}, (ks.zip (ks.map f)).lookup k = if k ∈ ks then some (f k) else none
  | [] => by simp
  | a :: ks => by
    rw [List.map_cons, List.zip_cons_cons, List.lookup_cons]
    by_cases e : k = a
    · subst e
      rw [beq_self_eq_true]
      simp
    · rw [show (k == a) = false from beq_eq_false_iff_ne.mpr e]
      simp only
      rw [look_map]
      simp [e]
theorem look_tab {ws : List (List Nat)} {k : List Nat} : (((ksOf ws).zip ((ksOf ws).map fun k => D.lst ((grpD ws k).map D.str))).lookup k).getD (.lst []) = .lst ((grpD ws k).map D.str) := by
  rw [look_map]
  split
  · rfl
  · rename_i h
    rw [grp_nil h]
    rfl
theorem setKD_map {f : List Nat → D} {k : List Nat} {d : D} : ∀ {ks : List (List Nat)}, setKD ks (ks.map f) k d = ks.map fun a => if a = k then d else f a
  | [] => rfl
  | a :: ks => by
    rw [List.map_cons, List.map_cons, setKD, setKD_map]
theorem tab_snoc {ws : List (List Nat)} {w : List Nat} : OD.dct (putKs (ksOf ws) (rowL w)) (putVs (ksOf ws) ((ksOf ws).map fun k => .lst ((grpD ws k).map D.str)) (rowL w) (.lst ((grpD ws (rowL w)).map D.str ++ [.str w]))) = tabD (ws ++ [w]) := by
  have hg : ∀ k, grpD (ws ++ [w]) k = if k = rowL w then grpD ws k ++ [w] else grpD ws k := fun k => by
    unfold grpD
    rw [List.filter_append]
    split
    · rename_i h
      subst h
      rw [List.filter_cons_of_pos (by simp)]
      rfl
    · rename_i h
      rw [List.filter_cons_of_neg (by simpa using fun e => h e.symm)]
      simp
  unfold tabD
  rw [ksOf_snoc]
  congr 1
  unfold putVs putKs
  split
  · rw [setKD_map]
    refine List.map_congr_left fun a _ => ?_
    rw [hg]
    split
    · rename_i h
      subst h
      rw [List.map_append]
      rfl
    · rfl
  · rename_i h
    rw [List.map_append]
    congr 1
    · refine List.map_congr_left fun a ha => ?_
      rw [hg, if_neg fun e => h (by rw [← e]; exact ha)]
    · rw [List.map_singleton, hg, if_pos rfl, List.map_append]
      rfl
theorem rowL_nK (w : List Nat) : D.lst ((List.range w.length).map fun c => intD (short w c)) = .lst (nK (rowL w)) := by
  show D.lst _ = .lst ((rowL w).map _)
  unfold rowL
  rw [List.map_map]
  rfl
def s_table : FD := fun ds n P => ∃ m : Nat, ds = [.int m] ∧ 1 ≤ m ∧ m ≤ 7 ∧ P (newC n (tabD (wordsD m))) (.cel none (cs n).length)
theorem l_table (c : Str → Addr) : ∀ ds n Q, s_table ds n Q → dFn 4 1 (b__law_table c (up s_all_words) (up s_rowL)) ds n Q := by
  rintro ds n Q ⟨m, rfl, h1, hm, q⟩
  refine ⟨rfl, ?_⟩
  simp only [b__law_table, dFor, iVal, dNewT, envOf, dRet, dRetN, dOp, dSl, dSlO, dVar, dC, pSome, pNo, ev_sll, ev_slt, ev_sls, dBi, dCons, dNil, ev_lenl, ev_lent, ev_lens, ev_lenr, ev_gI, TC, Pd.gSub, gLt, gLe, gGt, gGe, gMod, gFdiv, gPow, gEq, gNe, ev_oki, ev_oks, ev_okl, ev_okt, gIs, gIsNot, gIsB, gIsNotB, Pd.isNon, dCall, dSeq, dSet, dSetO, dMul, setL, bCons, bOwn, bNil, dIf, dIte, dTB, dAnd, dOr, dNot, dBV, dAndV, dOrV, dChain, dTmp, dTmpT, frzE, dFrz, OD.d, dIxO, dApp, dSetI, dNeg, dLst, dLstO, dTup, dO, dDrop, ev_abs, ev_inttoi, ev_inttob, ev_inttos, ev_strtoi, ev_listl, ev_listt, ev_lists, ev_tupl, ev_tupt, ev_addi, ev_adds, ev_addl, ev_addt, ev_muli, ev_muls, ev_mull, ev_max, ev_min, ev_all, ev_any, gRepr, dLRg, Pd.r1, Pd.r2, eqD_str, eqD_int, eqD_bl, dFld, dProp, dMeth, dAugI, dRev, dMake, dIsi, isT, isC, dNx, dBrk, dNev, dFst, gNm, gTp, gsCons, gsNil, dAsg, dStar, dYes, iniEnd, flatD, wipeE, ev_ixl, ev_ixt, ev_ixs, ev_ixr, ev_srcl, ev_srct, ev_srcs, ev_at0, ev_at1, ev_atl, ev_atn, ev_ixn, Option.some.injEq, exists_eq_left', exists_eq_left, List.foldl_cons, List.foldl_nil, List.map_cons, List.map_nil, List.replicate, List.length_append, List.length_map, List.length_cons, List.length_nil, List.cons_append, List.nil_append, List.append_nil, List.getElem?_cons_zero, List.getElem?_cons_succ, List.set_cons_zero, List.set_cons_succ, Nat.zero_add, Nat.reduceAdd, Nat.reduceSub, Nat.reduceLeDiff, true_and, and_true, decide_eq_true_eq, decide_eq_false_iff_not, ne_eq, reduceCtorEq, false_implies, true_implies, forall_const, Bool.and_self, Bool.and_true, Bool.true_and, lk_ends, lk_blocks, lk_text, lk_spot, lk_letter, Int.toNat_natCast, dFldO, dTmq, dMut, dSetQ, dParQ, qMake, D.still, D.stills, lf_past, lf_word, lf_letters, pf_past, pf_later, pm1, pm2, pm3, pm4, pi1, pi2, pi3, pi4, pi5, lm_state, lm_text, lm_search]
  refine noC_up rfl ⟨m, rfl, h1, hm, fun _ => ?_⟩
  rw [wd_same]
  simp only [envOf, dRet, dRetN, dOp, dSl, dSlO, dVar, dC, pSome, pNo, ev_sll, ev_slt, ev_sls, dBi, dCons, dNil, ev_lenl, ev_lent, ev_lens, ev_lenr, ev_gI, TC, Pd.gSub, gLt, gLe, gGt, gGe, gMod, gFdiv, gPow, gEq, gNe, ev_oki, ev_oks, ev_okl, ev_okt, gIs, gIsNot, gIsB, gIsNotB, Pd.isNon, dCall, dSeq, dSet, dSetO, dMul, setL, bCons, bOwn, bNil, dIf, dIte, dTB, dAnd, dOr, dNot, dBV, dAndV, dOrV, dChain, dTmp, dTmpT, frzE, dFrz, OD.d, dIxO, dApp, dSetI, dNeg, dLst, dLstO, dTup, dO, dDrop, ev_abs, ev_inttoi, ev_inttob, ev_inttos, ev_strtoi, ev_listl, ev_listt, ev_lists, ev_tupl, ev_tupt, ev_addi, ev_adds, ev_addl, ev_addt, ev_muli, ev_muls, ev_mull, ev_max, ev_min, ev_all, ev_any, gRepr, dLRg, Pd.r1, Pd.r2, eqD_str, eqD_int, eqD_bl, dFld, dProp, dMeth, dAugI, dRev, dMake, dIsi, isT, isC, dNx, dBrk, dNev, dFst, gNm, gTp, gsCons, gsNil, dAsg, dStar, dYes, iniEnd, flatD, wipeE, ev_ixl, ev_ixt, ev_ixs, ev_ixr, ev_srcl, ev_srct, ev_srcs, ev_at0, ev_at1, ev_atl, ev_atn, ev_ixn, Option.some.injEq, exists_eq_left', exists_eq_left, List.foldl_cons, List.foldl_nil, List.map_cons, List.map_nil, List.replicate, List.length_append, List.length_map, List.length_cons, List.length_nil, List.cons_append, List.nil_append, List.append_nil, List.getElem?_cons_zero, List.getElem?_cons_succ, List.set_cons_zero, List.set_cons_succ, Nat.zero_add, Nat.reduceAdd, Nat.reduceSub, Nat.reduceLeDiff, true_and, and_true, decide_eq_true_eq, decide_eq_false_iff_not, ne_eq, reduceCtorEq, false_implies, true_implies, forall_const, Bool.and_self, Bool.and_true, Bool.true_and, lk_ends, lk_blocks, lk_text, lk_spot, lk_letter, Int.toNat_natCast, dFldO, dTmq, dMut, dSetQ, dParQ, qMake, D.still, D.stills, lf_past, lf_word, lf_letters, pf_past, pf_later, pm1, pm2, pm3, pm4, pi1, pi2, pi3, pi4, pi5, lm_state, lm_text, lm_search]
  refine for_map spD (fun a b n' ε => ∃ (s2 s3 : Sl), n' = newC n (tabD (a.map (·.1))) ∧ ε = [.val (.int m), .val (.cel none (cs n).length), s2, s3]) (spk m) ⟨_, _, rfl, rfl⟩ ?_ ?_
  · rintro n2 ε ⟨s2, s3, rfl, rfl⟩
    simp only [envOf, dRet, dRetN, dOp, dSl, dSlO, dVar, dC, pSome, pNo, ev_sll, ev_slt, ev_sls, dBi, dCons, dNil, ev_lenl, ev_lent, ev_lens, ev_lenr, ev_gI, TC, Pd.gSub, gLt, gLe, gGt, gGe, gMod, gFdiv, gPow, gEq, gNe, ev_oki, ev_oks, ev_okl, ev_okt, gIs, gIsNot, gIsB, gIsNotB, Pd.isNon, dCall, dSeq, dSet, dSetO, dMul, setL, bCons, bOwn, bNil, dIf, dIte, dTB, dAnd, dOr, dNot, dBV, dAndV, dOrV, dChain, dTmp, dTmpT, frzE, dFrz, OD.d, dIxO, dApp, dSetI, dNeg, dLst, dLstO, dTup, dO, dDrop, ev_abs, ev_inttoi, ev_inttob, ev_inttos, ev_strtoi, ev_listl, ev_listt, ev_lists, ev_tupl, ev_tupt, ev_addi, ev_adds, ev_addl, ev_addt, ev_muli, ev_muls, ev_mull, ev_max, ev_min, ev_all, ev_any, gRepr, dLRg, Pd.r1, Pd.r2, eqD_str, eqD_int, eqD_bl, dFld, dProp, dMeth, dAugI, dRev, dMake, dIsi, isT, isC, dNx, dBrk, dNev, dFst, gNm, gTp, gsCons, gsNil, dAsg, dStar, dYes, iniEnd, flatD, wipeE, ev_ixl, ev_ixt, ev_ixs, ev_ixr, ev_srcl, ev_srct, ev_srcs, ev_at0, ev_at1, ev_atl, ev_atn, ev_ixn, Option.some.injEq, exists_eq_left', exists_eq_left, List.foldl_cons, List.foldl_nil, List.map_cons, List.map_nil, List.replicate, List.length_append, List.length_map, List.length_cons, List.length_nil, List.cons_append, List.nil_append, List.append_nil, List.getElem?_cons_zero, List.getElem?_cons_succ, List.set_cons_zero, List.set_cons_succ, Nat.zero_add, Nat.reduceAdd, Nat.reduceSub, Nat.reduceLeDiff, true_and, and_true, decide_eq_true_eq, decide_eq_false_iff_not, ne_eq, reduceCtorEq, false_implies, true_implies, forall_const, Bool.and_self, Bool.and_true, Bool.true_and, lk_ends, lk_blocks, lk_text, lk_spot, lk_letter, Int.toNat_natCast, dFldO, dTmq, dMut, dSetQ, dParQ, qMake, D.still, D.stills, lf_past, lf_word, lf_letters, pf_past, pf_later, pm1, pm2, pm3, pm4, pi1, pi2, pi3, pi4, pi5, lm_state, lm_text, lm_search]
    exact q
  · rintro a x b n2 ε nxt e2 ih ⟨s2, s3, rfl, rfl⟩
    have hx : x ∈ spk m := by rw [e2]; simp
    obtain ⟨fu, f1, f2⟩ := spk_full _ _ hx
    have hk := spk_len m hm
    have hc : (cs (newC n (tabD (a.map (·.1)))))[(cs n).length]? = some (tabD (a.map (·.1))) := by
      rw [cs_newC, List.getElem?_append_right (Nat.le_refl _), Nat.sub_self]
      rfl
    have ha : (a.map (·.1)).length ≤ 877 := by
      rw [e2, List.length_append] at hk
      rw [List.length_map]
      omega
    simp only [dKeyed, dKs, spD, envOf, dRet, dRetN, dOp, dSl, dSlO, dVar, dC, pSome, pNo, ev_sll, ev_slt, ev_sls, dBi, dCons, dNil, ev_lenl, ev_lent, ev_lens, ev_lenr, ev_gI, TC, Pd.gSub, gLt, gLe, gGt, gGe, gMod, gFdiv, gPow, gEq, gNe, ev_oki, ev_oks, ev_okl, ev_okt, gIs, gIsNot, gIsB, gIsNotB, Pd.isNon, dCall, dSeq, dSet, dSetO, dMul, setL, bCons, bOwn, bNil, dIf, dIte, dTB, dAnd, dOr, dNot, dBV, dAndV, dOrV, dChain, dTmp, dTmpT, frzE, dFrz, OD.d, dIxO, dApp, dSetI, dNeg, dLst, dLstO, dTup, dO, dDrop, ev_abs, ev_inttoi, ev_inttob, ev_inttos, ev_strtoi, ev_listl, ev_listt, ev_lists, ev_tupl, ev_tupt, ev_addi, ev_adds, ev_addl, ev_addt, ev_muli, ev_muls, ev_mull, ev_max, ev_min, ev_all, ev_any, gRepr, dLRg, Pd.r1, Pd.r2, eqD_str, eqD_int, eqD_bl, dFld, dProp, dMeth, dAugI, dRev, dMake, dIsi, isT, isC, dNx, dBrk, dNev, dFst, gNm, gTp, gsCons, gsNil, dAsg, dStar, dYes, iniEnd, flatD, wipeE, ev_ixl, ev_ixt, ev_ixs, ev_ixr, ev_srcl, ev_srct, ev_srcs, ev_at0, ev_at1, ev_atl, ev_atn, ev_ixn, Option.some.injEq, exists_eq_left', exists_eq_left, List.foldl_cons, List.foldl_nil, List.map_cons, List.map_nil, List.replicate, List.length_append, List.length_map, List.length_cons, List.length_nil, List.cons_append, List.nil_append, List.append_nil, List.getElem?_cons_zero, List.getElem?_cons_succ, List.set_cons_zero, List.set_cons_succ, Nat.zero_add, Nat.reduceAdd, Nat.reduceSub, Nat.reduceLeDiff, true_and, and_true, decide_eq_true_eq, decide_eq_false_iff_not, ne_eq, reduceCtorEq, false_implies, true_implies, forall_const, Bool.and_self, Bool.and_true, Bool.true_and, lk_ends, lk_blocks, lk_text, lk_spot, lk_letter, Int.toNat_natCast, dFldO, dTmq, dMut, dSetQ, dParQ, qMake, D.still, D.stills, lf_past, lf_word, lf_letters, pf_past, pf_later, pm1, pm2, pm3, pm4, pi1, pi2, pi3, pi4, pi5, lm_state, lm_text, lm_search]
    refine noC_up rfl ⟨x.1, rfl, by omega, fun _ => ?_⟩
    rw [wd_same]
    refine ⟨rowL x.1, rowL_nK x.1, rowL x.1, _, rowL_nK x.1, by decide, rfl, _, _, _, hc, look_tab, ?_⟩
    simp only [envOf, dRet, dRetN, dOp, dSl, dSlO, dVar, dC, pSome, pNo, ev_sll, ev_slt, ev_sls, dBi, dCons, dNil, ev_lenl, ev_lent, ev_lens, ev_lenr, ev_gI, TC, Pd.gSub, gLt, gLe, gGt, gGe, gMod, gFdiv, gPow, gEq, gNe, ev_oki, ev_oks, ev_okl, ev_okt, gIs, gIsNot, gIsB, gIsNotB, Pd.isNon, dCall, dSeq, dSet, dSetO, dMul, setL, bCons, bOwn, bNil, dIf, dIte, dTB, dAnd, dOr, dNot, dBV, dAndV, dOrV, dChain, dTmp, dTmpT, frzE, dFrz, OD.d, dIxO, dApp, dSetI, dNeg, dLst, dLstO, dTup, dO, dDrop, ev_abs, ev_inttoi, ev_inttob, ev_inttos, ev_strtoi, ev_listl, ev_listt, ev_lists, ev_tupl, ev_tupt, ev_addi, ev_adds, ev_addl, ev_addt, ev_muli, ev_muls, ev_mull, ev_max, ev_min, ev_all, ev_any, gRepr, dLRg, Pd.r1, Pd.r2, eqD_str, eqD_int, eqD_bl, dFld, dProp, dMeth, dAugI, dRev, dMake, dIsi, isT, isC, dNx, dBrk, dNev, dFst, gNm, gTp, gsCons, gsNil, dAsg, dStar, dYes, iniEnd, flatD, wipeE, ev_ixl, ev_ixt, ev_ixs, ev_ixr, ev_srcl, ev_srct, ev_srcs, ev_at0, ev_at1, ev_atl, ev_atn, ev_ixn, Option.some.injEq, exists_eq_left', exists_eq_left, List.foldl_cons, List.foldl_nil, List.map_cons, List.map_nil, List.replicate, List.length_append, List.length_map, List.length_cons, List.length_nil, List.cons_append, List.nil_append, List.append_nil, List.getElem?_cons_zero, List.getElem?_cons_succ, List.set_cons_zero, List.set_cons_succ, Nat.zero_add, Nat.reduceAdd, Nat.reduceSub, Nat.reduceLeDiff, true_and, and_true, decide_eq_true_eq, decide_eq_false_iff_not, ne_eq, reduceCtorEq, false_implies, true_implies, forall_const, Bool.and_self, Bool.and_true, Bool.true_and, lk_ends, lk_blocks, lk_text, lk_spot, lk_letter, Int.toNat_natCast, dFldO, dTmq, dMut, dSetQ, dParQ, qMake, D.still, D.stills, lf_past, lf_word, lf_letters, pf_past, pf_later, pm1, pm2, pm3, pm4, pi1, pi2, pi3, pi4, pi5, lm_state, lm_text, lm_search]
    refine ⟨[.str x.1], _, _, rfl, ?_, hc, by have := ksOf_len (ws := a.map (·.1)); omega, ?_⟩
    · have : (grpD (a.map (·.1)) (rowL x.1)).length ≤ (a.map (·.1)).length := List.length_filter_le _ _
      simp only [List.length_cons, List.length_nil]
      omega
    · rw [tab_snoc]
      refine ih _ _ ⟨_, _, ?_, rfl⟩
      unfold setC newC
      rw [dr_stN, cs_stN, List.set_append_right _ _ (Nat.le_refl _), Nat.sub_self, List.map_append]
      rfl
def s_due50 : FD := fun ds n P => ∃ (i m : Nat) (ns : List Nat), ds = [.cel none i, .lst (nK ns)] ∧ (cs n)[i]? = some (tabD (wordsD m)) ∧ m = ns.length ∧ m ≤ 7 ∧ P n (ofO (toldO (found ns)))
theorem l_due50 (c : Str → Addr) : ∀ ds n Q, s_due50 ds n Q → dFn 3 2 (b__law_due c) ds n Q := by
  rintro ds n Q ⟨i, m, ns, rfl, hc, rfl, hm, q⟩
  refine ⟨rfl, ?_⟩
  simp only [b__law_due, dGetT, dKs, envOf, dRet, dRetN, dOp, dSl, dSlO, dVar, dC, pSome, pNo, ev_sll, ev_slt, ev_sls, dBi, dCons, dNil, ev_lenl, ev_lent, ev_lens, ev_lenr, ev_gI, TC, Pd.gSub, gLt, gLe, gGt, gGe, gMod, gFdiv, gPow, gEq, gNe, ev_oki, ev_oks, ev_okl, ev_okt, gIs, gIsNot, gIsB, gIsNotB, Pd.isNon, dCall, dSeq, dSet, dSetO, dMul, setL, bCons, bOwn, bNil, dIf, dIte, dTB, dAnd, dOr, dNot, dBV, dAndV, dOrV, dChain, dTmp, dTmpT, frzE, dFrz, OD.d, dIxO, dApp, dSetI, dNeg, dLst, dLstO, dTup, dO, dDrop, ev_abs, ev_inttoi, ev_inttob, ev_inttos, ev_strtoi, ev_listl, ev_listt, ev_lists, ev_tupl, ev_tupt, ev_addi, ev_adds, ev_addl, ev_addt, ev_muli, ev_muls, ev_mull, ev_max, ev_min, ev_all, ev_any, gRepr, dLRg, Pd.r1, Pd.r2, eqD_str, eqD_int, eqD_bl, dFld, dProp, dMeth, dAugI, dRev, dMake, dIsi, isT, isC, dNx, dBrk, dNev, dFst, gNm, gTp, gsCons, gsNil, dAsg, dStar, dYes, iniEnd, flatD, wipeE, ev_ixl, ev_ixt, ev_ixs, ev_ixr, ev_srcl, ev_srct, ev_srcs, ev_at0, ev_at1, ev_atl, ev_atn, ev_ixn, Option.some.injEq, exists_eq_left', exists_eq_left, List.foldl_cons, List.foldl_nil, List.map_cons, List.map_nil, List.replicate, List.length_append, List.length_map, List.length_cons, List.length_nil, List.cons_append, List.nil_append, List.append_nil, List.getElem?_cons_zero, List.getElem?_cons_succ, List.set_cons_zero, List.set_cons_succ, Nat.zero_add, Nat.reduceAdd, Nat.reduceSub, Nat.reduceLeDiff, true_and, and_true, decide_eq_true_eq, decide_eq_false_iff_not, ne_eq, reduceCtorEq, false_implies, true_implies, forall_const, Bool.and_self, Bool.and_true, Bool.true_and, lk_ends, lk_blocks, lk_text, lk_spot, lk_letter, Int.toNat_natCast, dFldO, dTmq, dMut, dSetQ, dParQ, qMake, D.still, D.stills, lf_past, lf_word, lf_letters, pf_past, pf_later, pm1, pm2, pm3, pm4, pi1, pi2, pi3, pi4, pi5, lm_state, lm_text, lm_search]
  refine ⟨i, rfl, ⟨_, _, hc⟩, ns, rfl, ns, rfl, _, _, hc, ?_⟩
  rw [look_tab]
  have eg : grpD (wordsD ns.length) ns = found ns := rfl
  rw [eg]
  simp only [envOf, dRet, dRetN, dOp, dSl, dSlO, dVar, dC, pSome, pNo, ev_sll, ev_slt, ev_sls, dBi, dCons, dNil, ev_lenl, ev_lent, ev_lens, ev_lenr, ev_gI, TC, Pd.gSub, gLt, gLe, gGt, gGe, gMod, gFdiv, gPow, gEq, gNe, ev_oki, ev_oks, ev_okl, ev_okt, gIs, gIsNot, gIsB, gIsNotB, Pd.isNon, dCall, dSeq, dSet, dSetO, dMul, setL, bCons, bOwn, bNil, dIf, dIte, dTB, dAnd, dOr, dNot, dBV, dAndV, dOrV, dChain, dTmp, dTmpT, frzE, dFrz, OD.d, dIxO, dApp, dSetI, dNeg, dLst, dLstO, dTup, dO, dDrop, ev_abs, ev_inttoi, ev_inttob, ev_inttos, ev_strtoi, ev_listl, ev_listt, ev_lists, ev_tupl, ev_tupt, ev_addi, ev_adds, ev_addl, ev_addt, ev_muli, ev_muls, ev_mull, ev_max, ev_min, ev_all, ev_any, gRepr, dLRg, Pd.r1, Pd.r2, eqD_str, eqD_int, eqD_bl, dFld, dProp, dMeth, dAugI, dRev, dMake, dIsi, isT, isC, dNx, dBrk, dNev, dFst, gNm, gTp, gsCons, gsNil, dAsg, dStar, dYes, iniEnd, flatD, wipeE, ev_ixl, ev_ixt, ev_ixs, ev_ixr, ev_srcl, ev_srct, ev_srcs, ev_at0, ev_at1, ev_atl, ev_atn, ev_ixn, Option.some.injEq, exists_eq_left', exists_eq_left, List.foldl_cons, List.foldl_nil, List.map_cons, List.map_nil, List.replicate, List.length_append, List.length_map, List.length_cons, List.length_nil, List.cons_append, List.nil_append, List.append_nil, List.getElem?_cons_zero, List.getElem?_cons_succ, List.set_cons_zero, List.set_cons_succ, Nat.zero_add, Nat.reduceAdd, Nat.reduceSub, Nat.reduceLeDiff, true_and, and_true, decide_eq_true_eq, decide_eq_false_iff_not, ne_eq, reduceCtorEq, false_implies, true_implies, forall_const, Bool.and_self, Bool.and_true, Bool.true_and, lk_ends, lk_blocks, lk_text, lk_spot, lk_letter, Int.toNat_natCast, dFldO, dTmq, dMut, dSetQ, dParQ, qMake, D.still, D.stills, lf_past, lf_word, lf_letters, pf_past, pf_later, pm1, pm2, pm3, pm4, pi1, pi2, pi3, pi4, pi5, lm_state, lm_text, lm_search]
  have hok : okD (.lst ((found ns).map D.str)) = true := by
    refine okD_list fun x hx => ?_
    obtain ⟨l, hl, rfl⟩ := List.mem_map.mp hx
    have hal : l.all (· < 1114112) = true := by
      obtain ⟨p, hp, rfl⟩ := List.mem_map.mp (List.mem_filter.mp hl).1
      obtain ⟨fu, f1, f2⟩ := spk_full _ _ hp
      rw [List.all_eq_true]
      intro y hy
      have := (fu.mem y).mp hy
      exact decide_eq_true (by omega)
    exact ⟨by unfold isPd; exact hal, by unfold dpt; omega⟩
  refine ⟨by rw [hok]; rfl, ?_⟩
  rw [show eqD (.lst ((found ns).map D.str)) (.lst []) = ((found ns).map D.str).isEmpty from eqDs_nil _]
  cases e : found ns with
  | nil =>
    rw [e] at q
    exact ⟨fun h => (by cases h), fun _ => q⟩
  | cons l fs =>
    rw [e] at q
    exact ⟨fun _ => ⟨_, ev_at0 _ _, q⟩, fun h => (by cases h)⟩
end LW
namespace LW
open PySem L2 Pd
def plD : D → Bool
  | .non => true
  | .bl _ => true
  | .int _ => true
  | .str _ => true
  | .lst _ => true
  | .tup _ => true
  | .dic _ _ => true
  | _ => false
end LW
namespace LW
open PySem L2 Pd
mutual
def anD : D → Bool
  | .non => true
  | .bl _ => true
  | .int i => decide (i.natAbs.log2 < 1920)
  | .str t => t.all (· < 1114112)
  | .lst xs => anDs xs
  | .tup xs => anDs xs
  | .obj _ _ => false
  | .pot => false
  | .scr _ => false
  | .ref _ => false
  | .tupK _ => false
  | .tupF _ => false
  | .err _ _ => false
  | .cel _ _ => false
  | .dic ks vs => decide (ks.length = 0) && decide (vs.length = 0)
def anDs : List D → Bool
  | [] => true
  | x :: xs => anD x && anDs xs
end
mutual
def dpD : D → Nat
  | .lst xs => dpDs xs + 1
  | .tup xs => dpDs xs + 1
  | .dic _ _ => 1
  | .tupK xs => dpDs xs + 1
  | _ => 0
def dpDs : List D → Nat
  | [] => 0
  | x :: xs => max (dpD x) (dpDs xs)
end
mutual
theorem an_ok : ∀ d : D, anD d = true → smD d = true ∧ isPx d = true ∧ (toPD d).showable = true ∧ (toPD d).depth ≤ dpD d
  | .non, _ => by rw [smD, isPx, toPD, PyData.showable, PyData.depth]; exact ⟨rfl, rfl, rfl, Nat.zero_le _⟩
  | .bl b, _ => by rw [smD, isPx, toPD, PyData.showable, PyData.depth]; exact ⟨rfl, rfl, rfl, Nat.zero_le _⟩
  | .int i, h => by
    rw [anD] at h
    rw [smD, isPx, toPD, PyData.showable, PyData.depth]
    exact ⟨rfl, rfl, h, Nat.zero_le _⟩
  | .str t, h => by
    rw [anD] at h
    rw [smD, isPx, toPD, PyData.showable, PyData.depth]
    exact ⟨h, h, rfl, Nat.zero_le _⟩
  | .lst xs, h => by
    rw [anD] at h
    obtain ⟨h1, h2, h3, h4⟩ := ans_ok xs h
    rw [smD, isPx, toPD, PyData.showable, PyData.depth, dpD]
    exact ⟨h1, h2, h3, by omega⟩
  | .tup xs, h => by
    rw [anD] at h
    obtain ⟨h1, h2, h3, h4⟩ := ans_ok xs h
    rw [smD, isPx, toPD, PyData.showable, PyData.depth, dpD]
    exact ⟨h1, h2, h3, by omega⟩
  | .dic ks vs, h => by
    rw [anD, Bool.and_eq_true, decide_eq_true_eq, decide_eq_true_eq] at h
    obtain ⟨hk, hv⟩ := h
    have hk := List.length_eq_zero_iff.mp hk
    have hv := List.length_eq_zero_iff.mp hv
    subst hk hv
    refine ⟨rfl, rfl, ?_, ?_⟩
    · decide +kernel
    · decide +kernel
  | .obj _ _, h => by simp [anD] at h
  | .pot, h => by simp [anD] at h
  | .scr _, h => by simp [anD] at h
  | .ref _, h => by simp [anD] at h
  | .tupK _, h => by simp [anD] at h
  | .tupF _, h => by simp [anD] at h
  | .err _ _, h => by simp [anD] at h
  | .cel _ _, h => by simp [anD] at h
theorem ans_ok : ∀ ds : List D, anDs ds = true → smDs ds = true ∧ isPxs ds = true ∧ PyData.showableAll (toPDs ds) = true ∧ PyData.depthAll (toPDs ds) ≤ dpDs ds
  | [], _ => by rw [smDs, isPxs, toPDs, PyData.showableAll, PyData.depthAll]; exact ⟨rfl, rfl, rfl, Nat.zero_le _⟩
  | d :: ds, h => by
    rw [anDs, Bool.and_eq_true] at h
    obtain ⟨h1, h2, h3, h4⟩ := an_ok d h.1
    obtain ⟨g1, g2, g3, g4⟩ := ans_ok ds h.2
    rw [smDs, isPxs, toPDs, PyData.showableAll, PyData.depthAll, dpDs, h1, h2, h3, g1, g2, g3]
    exact ⟨rfl, rfl, rfl, by omega⟩
end
theorem numD_any {i : Int} {k : Nat} (hk : 0 < k) (h : i.natAbs < 10 ^ k) : (numD i).length ≤ k + 1 := by
  have e := int_text_length_le10 hk h
  have e2 : (numD i).length = (toString i : Str).length := by
    unfold numD
    simp [Str.length]
  rw [e2]
  exact Nat.le_trans (Nat.le_of_eq (ofString_length _)) e
theorem log_any {i : Int} (h : i.natAbs < 10 ^ 300) : i.natAbs.log2 < 1920 := by
  by_cases h0 : i.natAbs = 0
  · rw [h0]
    decide
  · rw [Nat.log2_lt h0]
    exact Nat.lt_trans h (by decide)
def Any (B : Nat) (d : D) : Prop := anD d = true ∧ dpD d ≤ 30 ∧ rbD d ≤ B
theorem Any.repr {B : Nat} {d : D} (h : Any B d) (hB : B ≤ 16777216) : okRx d = true ∧ (shownD d).length ≤ 16777216 := by
  obtain ⟨h1, h2, h3⟩ := h
  obtain ⟨g1, g2, g3, g4⟩ := an_ok d h1
  constructor
  · unfold okRx
    rw [g2, g3, decide_eq_true (by omega)]
    rfl
  · unfold shownD
    rw [strlen]
    exact Nat.le_trans (rb_ok d g1) (by omega)
theorem Any.mono {A B : Nat} {d : D} (h : Any A d) (hAB : A ≤ B) : Any B d := ⟨h.1, h.2.1, Nat.le_trans h.2.2 hAB⟩
theorem Any.pl {B : Nat} {d : D} (h : Any B d) : plD d = true := by
  have := h.1
  cases d <;> first | rfl | simp [anD] at this
theorem Any.int {i : Int} {B : Nat} (h : i.natAbs.log2 < 1920) (hB : (numD i).length ≤ B) : Any B (.int i) := ⟨by rw [anD]; exact decide_eq_true h, by simp [dpD], by rw [rbD]; exact hB⟩
theorem Any.str {t : List Nat} {B : Nat} (h : ∀ c ∈ t, c < 1114112) (hB : 10 * t.length + 2 ≤ B) : Any B (.str t) := ⟨by rw [anD]; exact List.all_eq_true.mpr fun c hc => decide_eq_true (h c hc), by simp [dpD], by rw [rbD]; exact hB⟩
def V5 (d : D) : Prop := anD d = true ∧ dpD d ≤ 3 ∧ rbD d ≤ 1000
theorem V5.pl {d : D} (h : V5 d) : plD d = true := Any.pl (B := 1000) ⟨h.1, Nat.le_trans h.2.1 (by decide), h.2.2⟩
theorem V5.int {i : Int} (h : i.natAbs < 10 ^ 300) : V5 (.int i) := ⟨by rw [anD]; exact decide_eq_true (log_any h), by simp [dpD], by rw [rbD]; exact Nat.le_trans (numD_any (by decide) h) (by decide)⟩
end LW
namespace LW
open PySem L2 Pd
def good50 (m : Nat) (r : List Nat) : Prop := r.length = m ∧ ∀ x ∈ r, 1 ≤ x ∧ x ≤ 7
theorem good_row {w : List Nat} {m : Nat} (h : w.length = m) (hm : m ≤ 7) : good50 m (rowL w) := by
  refine ⟨rowL_len.trans h, fun x hx => ?_⟩
  unfold rowL at hx
  obtain ⟨i, hi, rfl⟩ := List.mem_map.mp hx
  rw [List.mem_range] at hi
  have hne : w ≠ [] := fun e => by rw [e] at hi; simp at hi
  have := mem_reps.mp (short_mem hne i)
  omega
theorem atI_nK {r : List Nat} {k : Nat} (h : k < r.length) : atI (nK r) (k : Int) = some (intD r[k]) := atI_nat (by rw [List.getElem?_map, List.getElem?_eq_getElem h]; rfl)
theorem intS50 : ∀ k ∈ List.range 878, anD (.int (k : Nat)) = true ∧ rbD (.int (k : Nat)) ≤ 20 := by decide +kernel
theorem of_repr {ns : List Nat} (h : ns.length ≤ 7) : okRx (ofO (toldO (found ns))) = true ∧ (shownD (ofO (toldO (found ns)))).length ≤ 16777216 := by
  refine Any.repr (B := 1000) ?_ (by decide)
  have hl : (found ns).length ≤ 877 := by
    unfold found
    refine Nat.le_trans (List.length_filter_le _ _) ?_
    rw [List.length_map]
    exact spk_len _ h
  cases e : found ns with
  | nil => exact ⟨by decide +kernel, by decide +kernel, by decide +kernel⟩
  | cons l fs =>
    have hm : l ∈ found ns := by rw [e]; simp
    obtain ⟨p, hp, rfl⟩ := List.mem_map.mp (List.mem_filter.mp hm).1
    obtain ⟨fu, f1, f2⟩ := spk_full _ _ hp
    have hal : p.1.all (· < 1114112) = true := by
      rw [List.all_eq_true]
      intro y hy
      have := (fu.mem y).mp hy
      exact decide_eq_true (by omega)
    rw [e] at hl
    obtain ⟨i1, i2⟩ := intS50 (p.1 :: fs).length (List.mem_range.mpr (by omega))
    show Any 1000 (.tup [.str [119, 111, 114, 100, 115], .int ((p.1 :: fs).length : Nat), .str p.1])
    refine ⟨?_, ?_, ?_⟩
    · rw [anD, anDs, anDs, anDs, i1, anD, anD, hal, anDs]
      rfl
    · simp [dpD, dpDs]
    · simp only [rbD, rbDs] at i2 ⊢
      simp only [List.length_cons, List.length_nil] at i2 ⊢
      omega
theorem ixN_at50 {n k : Nat} (h : k < n) : ixN n (k : Int) = some k := by
  unfold ixN
  rw [if_pos (by omega), if_pos (by omega), Int.toNat_natCast]
theorem compW_at50 {dg : DG} {d : DE} {ε : Ev} {P : Nat → List D → Prop} {n : Nat} (g : D → D) : ∀ (xs acc : List D), (∀ x ∈ xs, ∀ (K : Nat → D → Prop) (K' : Nat → Prop), K n (g x) → dg x ε fun ε' => dYes n ε' fun n1 k => (k = true → d n1 ε' fun n2 y => K n2 y) ∧ (k = false → K' n1)) → P n (acc ++ xs.map g) → compW dg dYes d ε P xs acc n
  | [], acc, _, q => by
    rw [List.map_nil, List.append_nil] at q
    exact q
  | x :: xs, acc, h, q => h x List.mem_cons_self (fun n2 y => compW dg dYes d ε P xs (acc ++ [y]) n2) (fun n1 => compW dg dYes d ε P xs acc n1) (compW_at50 g xs (acc ++ [g x]) (fun y hy => h y (List.mem_cons_of_mem _ hy)) (by rw [List.append_assoc]; exact q))
theorem bls50 : ∀ xs : List D, isBls (xs.map fun _ => D.bl true) = some (xs.map fun _ => true)
  | [] => rfl
  | _ :: xs => by
    rw [List.map_cons, isBls, bls50 xs]
    rfl
theorem nc_nK50 : ∀ s : List Nat, noCs (nK s) = true
  | [] => rfl
  | k :: s => by
    show (noC (.int k) && noCs (nK s)) = true
    rw [nc_nK50 s]
    rfl
abbrev rowD50 (r : List Nat) : D := .lst (nK r)
def s_right50 (c : Str → Addr) : FD := fun ds n P => ds = [.pot] ∧ 1000 ≤ dr n ∧ ∀ n', dr n' ≤ dr n → dr n ≤ dr n' + 1000 → P n' (.bl true)
theorem l_right50 (c : Str → Addr) : ∀ ds n Q, s_right50 c ds n Q → dFn 10 1 (b__law_right_v136 c (up s_of) (up s_letters7) (up s_rowL) (up takeF) s_table (up s_told_back) s_due50) ds n Q := by
  rintro ds n Q ⟨rfl, h0, q⟩
  refine ⟨rfl, ?_⟩
  unfold b__law_right_v136
  refine seq_all (fun n1 ε => ∃ m : Nat, 1 ≤ m ∧ m ≤ 7 ∧ dr n1 = dr n - 1 ∧ ε = [.val .pot, .val (.int m), .no, .no, .no, .no, .no, .no, .no, .no]) (fun nx hnx => ?_) ?_
  · simp only [envOf, dRet, dRetN, dOp, dSl, dSlO, dVar, dC, pSome, pNo, ev_sll, ev_slt, ev_sls, dBi, dCons, dNil, ev_lenl, ev_lent, ev_lens, ev_lenr, ev_gI, TC, Pd.gSub, gLt, gLe, gGt, gGe, gMod, gFdiv, gPow, gEq, gNe, ev_oki, ev_oks, ev_okl, ev_okt, gIs, gIsNot, gIsB, gIsNotB, Pd.isNon, dCall, dSeq, dSet, dSetO, dMul, setL, bCons, bOwn, bNil, dIf, dIte, dTB, dAnd, dOr, dNot, dBV, dAndV, dOrV, dChain, dTmp, dTmpT, frzE, dFrz, OD.d, dIxO, dApp, dSetI, dNeg, dLst, dLstO, dTup, dO, dDrop, ev_abs, ev_inttoi, ev_inttob, ev_inttos, ev_strtoi, ev_listl, ev_listt, ev_lists, ev_tupl, ev_tupt, ev_addi, ev_adds, ev_addl, ev_addt, ev_muli, ev_muls, ev_mull, ev_max, ev_min, ev_all, ev_any, gRepr, dLRg, Pd.r1, Pd.r2, eqD_str, eqD_int, eqD_bl, dFld, dProp, dMeth, dAugI, dRev, dMake, dIsi, isT, isC, dNx, dBrk, dNev, dFst, gNm, gTp, gsCons, gsNil, dAsg, dStar, dYes, iniEnd, flatD, wipeE, ev_ixl, ev_ixt, ev_ixs, ev_ixr, ev_srcl, ev_srct, ev_srcs, ev_at0, ev_at1, ev_atl, ev_atn, ev_ixn, Option.some.injEq, exists_eq_left', exists_eq_left, List.foldl_cons, List.foldl_nil, List.map_cons, List.map_nil, List.replicate, List.length_append, List.length_map, List.length_cons, List.length_nil, List.cons_append, List.nil_append, List.append_nil, List.getElem?_cons_zero, List.getElem?_cons_succ, List.set_cons_zero, List.set_cons_succ, Nat.zero_add, Nat.reduceAdd, Nat.reduceSub, Nat.reduceLeDiff, true_and, and_true, decide_eq_true_eq, decide_eq_false_iff_not, ne_eq, reduceCtorEq, false_implies, true_implies, forall_const, Bool.and_self, Bool.and_true, Bool.true_and, lk_ends, lk_blocks, lk_text, lk_spot, lk_letter, Int.toNat_natCast, dFldO, dTmq, dMut, dSetQ, dParQ, qMake, D.still, D.stills, lf_past, lf_word, lf_letters, pf_past, pf_later, pm1, pm2, pm3, pm4, pi1, pi2, pi3, pi4, pi5, lm_state, lm_text, lm_search, dFldC, dPropC, dMethC, dMethRC, dFstC, dMakeC, dMakeRC, dLenC, dInC, dEqC, dDicN, dDix, dixAt, dRaise, one, dRetR, dDropR, dSetR, dIteR, dSure, dCallR, dMethR, dMakeR]
    refine noC_up rfl ⟨_, _, dr n - 1, rfl, rfl, (fun l e => by cases e), by decide, by decide, by omega, fun x hx => fun _ => ?_⟩
    obtain ⟨m, rfl, m1, m2⟩ : ∃ m : Nat, x = .int (m : Nat) ∧ 1 ≤ m ∧ m ≤ 7 := by
      simp only [List.mem_cons, List.not_mem_nil, or_false] at hx
      rcases hx with rfl | rfl | rfl | rfl | rfl | rfl | rfl | rfl | rfl | rfl | rfl | rfl | rfl | rfl | rfl | rfl
      · exact ⟨1, rfl, by decide, by decide⟩
      · exact ⟨2, rfl, by decide, by decide⟩
      · exact ⟨3, rfl, by decide, by decide⟩
      · exact ⟨3, rfl, by decide, by decide⟩
      · exact ⟨4, rfl, by decide, by decide⟩
      · exact ⟨4, rfl, by decide, by decide⟩
      · exact ⟨4, rfl, by decide, by decide⟩
      · exact ⟨4, rfl, by decide, by decide⟩
      · exact ⟨5, rfl, by decide, by decide⟩
      · exact ⟨5, rfl, by decide, by decide⟩
      · exact ⟨5, rfl, by decide, by decide⟩
      · exact ⟨5, rfl, by decide, by decide⟩
      · exact ⟨5, rfl, by decide, by decide⟩
      · exact ⟨6, rfl, by decide, by decide⟩
      · exact ⟨6, rfl, by decide, by decide⟩
      · exact ⟨7, rfl, by decide, by decide⟩
    exact hnx _ _ ⟨m, m1, m2, dr_wd _ _, rfl⟩
  rintro n1 ε ⟨m, m1, m2, d1, rfl⟩
  refine seq_all (fun n2 ε => ∃ r : List Nat, good50 m r ∧ dr n2 ≤ dr n1 ∧ dr n1 ≤ dr n2 + 500 ∧ ε = [.val .pot, .val (.int m), .val (rowD50 r), .no, .no, .no, .no, .no, .no, .no]) (fun nx hnx => ?_) ?_
  · simp only [envOf, dRet, dRetN, dOp, dSl, dSlO, dVar, dC, pSome, pNo, ev_sll, ev_slt, ev_sls, dBi, dCons, dNil, ev_lenl, ev_lent, ev_lens, ev_lenr, ev_gI, TC, Pd.gSub, gLt, gLe, gGt, gGe, gMod, gFdiv, gPow, gEq, gNe, ev_oki, ev_oks, ev_okl, ev_okt, gIs, gIsNot, gIsB, gIsNotB, Pd.isNon, dCall, dSeq, dSet, dSetO, dMul, setL, bCons, bOwn, bNil, dIf, dIte, dTB, dAnd, dOr, dNot, dBV, dAndV, dOrV, dChain, dTmp, dTmpT, frzE, dFrz, OD.d, dIxO, dApp, dSetI, dNeg, dLst, dLstO, dTup, dO, dDrop, ev_abs, ev_inttoi, ev_inttob, ev_inttos, ev_strtoi, ev_listl, ev_listt, ev_lists, ev_tupl, ev_tupt, ev_addi, ev_adds, ev_addl, ev_addt, ev_muli, ev_muls, ev_mull, ev_max, ev_min, ev_all, ev_any, gRepr, dLRg, Pd.r1, Pd.r2, eqD_str, eqD_int, eqD_bl, dFld, dProp, dMeth, dAugI, dRev, dMake, dIsi, isT, isC, dNx, dBrk, dNev, dFst, gNm, gTp, gsCons, gsNil, dAsg, dStar, dYes, iniEnd, flatD, wipeE, ev_ixl, ev_ixt, ev_ixs, ev_ixr, ev_srcl, ev_srct, ev_srcs, ev_at0, ev_at1, ev_atl, ev_atn, ev_ixn, Option.some.injEq, exists_eq_left', exists_eq_left, List.foldl_cons, List.foldl_nil, List.map_cons, List.map_nil, List.replicate, List.length_append, List.length_map, List.length_cons, List.length_nil, List.cons_append, List.nil_append, List.append_nil, List.getElem?_cons_zero, List.getElem?_cons_succ, List.set_cons_zero, List.set_cons_succ, Nat.zero_add, Nat.reduceAdd, Nat.reduceSub, Nat.reduceLeDiff, true_and, and_true, decide_eq_true_eq, decide_eq_false_iff_not, ne_eq, reduceCtorEq, false_implies, true_implies, forall_const, Bool.and_self, Bool.and_true, Bool.true_and, lk_ends, lk_blocks, lk_text, lk_spot, lk_letter, Int.toNat_natCast, dFldO, dTmq, dMut, dSetQ, dParQ, qMake, D.still, D.stills, lf_past, lf_word, lf_letters, pf_past, pf_later, pm1, pm2, pm3, pm4, pi1, pi2, pi3, pi4, pi5, lm_state, lm_text, lm_search, dFldC, dPropC, dMethC, dMethRC, dFstC, dMakeC, dMakeRC, dLenC, dInC, dEqC, dDicN, dDix, dixAt, dRaise, one, dRetR, dDropR, dSetR, dIteR, dSure, dCallR, dMethR, dMakeR]
    refine noC_up rfl ⟨m, m, rfl, m1, Nat.le_refl _, by omega, by omega, fun n2 bs k1 k2 hg h7 hb hsz hm => fun _ => ?_⟩
    have hl : (expand bs).length = size bs := rfl
    refine noC_up rfl ⟨expand bs, rfl, by omega, fun _ => ?_⟩
    rw [wd_same, rowL_nK]
    exact hnx _ _ ⟨rowL (expand bs), good_row (by omega) m2, by rw [dr_wd]; omega, by rw [dr_wd]; omega, rfl⟩
  rintro n2 ε ⟨r, gr, d2, d3, rfl⟩
  refine seq_all (fun n3 ε => ∃ a b : Nat, a < m ∧ b < m ∧ dr n3 + 2 = dr n2 ∧ ε = [.val .pot, .val (.int m), .val (rowD50 r), .val (.int a), .val (.int b), .no, .no, .no, .no, .no]) (fun nx hnx => ?_) ?_
  · simp only [envOf, dRet, dRetN, dOp, dSl, dSlO, dVar, dC, pSome, pNo, ev_sll, ev_slt, ev_sls, dBi, dCons, dNil, ev_lenl, ev_lent, ev_lens, ev_lenr, ev_gI, TC, Pd.gSub, gLt, gLe, gGt, gGe, gMod, gFdiv, gPow, gEq, gNe, ev_oki, ev_oks, ev_okl, ev_okt, gIs, gIsNot, gIsB, gIsNotB, Pd.isNon, dCall, dSeq, dSet, dSetO, dMul, setL, bCons, bOwn, bNil, dIf, dIte, dTB, dAnd, dOr, dNot, dBV, dAndV, dOrV, dChain, dTmp, dTmpT, frzE, dFrz, OD.d, dIxO, dApp, dSetI, dNeg, dLst, dLstO, dTup, dO, dDrop, ev_abs, ev_inttoi, ev_inttob, ev_inttos, ev_strtoi, ev_listl, ev_listt, ev_lists, ev_tupl, ev_tupt, ev_addi, ev_adds, ev_addl, ev_addt, ev_muli, ev_muls, ev_mull, ev_max, ev_min, ev_all, ev_any, gRepr, dLRg, Pd.r1, Pd.r2, eqD_str, eqD_int, eqD_bl, dFld, dProp, dMeth, dAugI, dRev, dMake, dIsi, isT, isC, dNx, dBrk, dNev, dFst, gNm, gTp, gsCons, gsNil, dAsg, dStar, dYes, iniEnd, flatD, wipeE, ev_ixl, ev_ixt, ev_ixs, ev_ixr, ev_srcl, ev_srct, ev_srcs, ev_at0, ev_at1, ev_atl, ev_atn, ev_ixn, Option.some.injEq, exists_eq_left', exists_eq_left, List.foldl_cons, List.foldl_nil, List.map_cons, List.map_nil, List.replicate, List.length_append, List.length_map, List.length_cons, List.length_nil, List.cons_append, List.nil_append, List.append_nil, List.getElem?_cons_zero, List.getElem?_cons_succ, List.set_cons_zero, List.set_cons_succ, Nat.zero_add, Nat.reduceAdd, Nat.reduceSub, Nat.reduceLeDiff, true_and, and_true, decide_eq_true_eq, decide_eq_false_iff_not, ne_eq, reduceCtorEq, false_implies, true_implies, forall_const, Bool.and_self, Bool.and_true, Bool.true_and, lk_ends, lk_blocks, lk_text, lk_spot, lk_letter, Int.toNat_natCast, dFldO, dTmq, dMut, dSetQ, dParQ, qMake, D.still, D.stills, lf_past, lf_word, lf_letters, pf_past, pf_later, pm1, pm2, pm3, pm4, pi1, pi2, pi3, pi4, pi5, lm_state, lm_text, lm_search, dFldC, dPropC, dMethC, dMethRC, dFstC, dMakeC, dMakeRC, dLenC, dInC, dEqC, dDicN, dDix, dixAt, dRaise, one, dRetR, dDropR, dSetR, dIteR, dSure, dCallR, dMethR, dMakeR]
    refine noC_up rfl ⟨(m : Nat), rfl, by omega, by omega, dr n2 - 1, by omega, fun v v0 v1 => fun _ => ?_⟩
    obtain ⟨a, rfl⟩ := Int.eq_ofNat_of_zero_le v0
    refine noC_up rfl ⟨(m : Nat), rfl, by omega, by omega, dr n2 - 2, by rw [dr_wd]; omega, fun w w0 w1 => fun _ => ?_⟩
    obtain ⟨b, rfl⟩ := Int.eq_ofNat_of_zero_le w0
    exact hnx _ _ ⟨a, b, by omega, by omega, by rw [dr_wd]; omega, rfl⟩
  rintro n3 ε ⟨a, b, ha, hb, d4, rfl⟩
  refine seq_all (fun n4 ε => ∃ r2 : List Nat, good50 m r2 ∧ dr n4 + 1 = dr n3 ∧ ε = [.val .pot, .val (.int m), .val (rowD50 r), .val (.int a), .val (.int b), .own (.lst [rowD50 r, rowD50 r2]), .no, .no, .no, .no]) (fun nx hnx => ?_) ?_
  · simp only [envOf, dRet, dRetN, dOp, dSl, dSlO, dVar, dC, pSome, pNo, ev_sll, ev_slt, ev_sls, dBi, dCons, dNil, ev_lenl, ev_lent, ev_lens, ev_lenr, ev_gI, TC, Pd.gSub, gLt, gLe, gGt, gGe, gMod, gFdiv, gPow, gEq, gNe, ev_oki, ev_oks, ev_okl, ev_okt, gIs, gIsNot, gIsB, gIsNotB, Pd.isNon, dCall, dSeq, dSet, dSetO, dMul, setL, bCons, bOwn, bNil, dIf, dIte, dTB, dAnd, dOr, dNot, dBV, dAndV, dOrV, dChain, dTmp, dTmpT, frzE, dFrz, OD.d, dIxO, dApp, dSetI, dNeg, dLst, dLstO, dTup, dO, dDrop, ev_abs, ev_inttoi, ev_inttob, ev_inttos, ev_strtoi, ev_listl, ev_listt, ev_lists, ev_tupl, ev_tupt, ev_addi, ev_adds, ev_addl, ev_addt, ev_muli, ev_muls, ev_mull, ev_max, ev_min, ev_all, ev_any, gRepr, dLRg, Pd.r1, Pd.r2, eqD_str, eqD_int, eqD_bl, dFld, dProp, dMeth, dAugI, dRev, dMake, dIsi, isT, isC, dNx, dBrk, dNev, dFst, gNm, gTp, gsCons, gsNil, dAsg, dStar, dYes, iniEnd, flatD, wipeE, ev_ixl, ev_ixt, ev_ixs, ev_ixr, ev_srcl, ev_srct, ev_srcs, ev_at0, ev_at1, ev_atl, ev_atn, ev_ixn, Option.some.injEq, exists_eq_left', exists_eq_left, List.foldl_cons, List.foldl_nil, List.map_cons, List.map_nil, List.replicate, List.length_append, List.length_map, List.length_cons, List.length_nil, List.cons_append, List.nil_append, List.append_nil, List.getElem?_cons_zero, List.getElem?_cons_succ, List.set_cons_zero, List.set_cons_succ, Nat.zero_add, Nat.reduceAdd, Nat.reduceSub, Nat.reduceLeDiff, true_and, and_true, decide_eq_true_eq, decide_eq_false_iff_not, ne_eq, reduceCtorEq, false_implies, true_implies, forall_const, Bool.and_self, Bool.and_true, Bool.true_and, lk_ends, lk_blocks, lk_text, lk_spot, lk_letter, Int.toNat_natCast, dFldO, dTmq, dMut, dSetQ, dParQ, qMake, D.still, D.stills, lf_past, lf_word, lf_letters, pf_past, pf_later, pm1, pm2, pm3, pm4, pi1, pi2, pi3, pi4, pi5, lm_state, lm_text, lm_search, dFldC, dPropC, dMethC, dMethRC, dFstC, dMakeC, dMakeRC, dLenC, dInC, dEqC, dDicN, dDix, dixAt, dRaise, one, dRetR, dDropR, dSetR, dIteR, dSure, dCallR, dMethR, dMakeR]
    refine noC_up rfl ⟨(7 : Nat), rfl, by decide, by decide, dr n3 - 1, by omega, fun v v0 v1 => fun _ => ?_⟩
    obtain ⟨y, rfl⟩ := Int.eq_ofNat_of_zero_le v0
    simp only [envOf, dRet, dRetN, dOp, dSl, dSlO, dVar, dC, pSome, pNo, ev_sll, ev_slt, ev_sls, dBi, dCons, dNil, ev_lenl, ev_lent, ev_lens, ev_lenr, ev_gI, TC, Pd.gSub, gLt, gLe, gGt, gGe, gMod, gFdiv, gPow, gEq, gNe, ev_oki, ev_oks, ev_okl, ev_okt, gIs, gIsNot, gIsB, gIsNotB, Pd.isNon, dCall, dSeq, dSet, dSetO, dMul, setL, bCons, bOwn, bNil, dIf, dIte, dTB, dAnd, dOr, dNot, dBV, dAndV, dOrV, dChain, dTmp, dTmpT, frzE, dFrz, OD.d, dIxO, dApp, dSetI, dNeg, dLst, dLstO, dTup, dO, dDrop, ev_abs, ev_inttoi, ev_inttob, ev_inttos, ev_strtoi, ev_listl, ev_listt, ev_lists, ev_tupl, ev_tupt, ev_addi, ev_adds, ev_addl, ev_addt, ev_muli, ev_muls, ev_mull, ev_max, ev_min, ev_all, ev_any, gRepr, dLRg, Pd.r1, Pd.r2, eqD_str, eqD_int, eqD_bl, dFld, dProp, dMeth, dAugI, dRev, dMake, dIsi, isT, isC, dNx, dBrk, dNev, dFst, gNm, gTp, gsCons, gsNil, dAsg, dStar, dYes, iniEnd, flatD, wipeE, ev_ixl, ev_ixt, ev_ixs, ev_ixr, ev_srcl, ev_srct, ev_srcs, ev_at0, ev_at1, ev_atl, ev_atn, ev_ixn, Option.some.injEq, exists_eq_left', exists_eq_left, List.foldl_cons, List.foldl_nil, List.map_cons, List.map_nil, List.replicate, List.length_append, List.length_map, List.length_cons, List.length_nil, List.cons_append, List.nil_append, List.append_nil, List.getElem?_cons_zero, List.getElem?_cons_succ, List.set_cons_zero, List.set_cons_succ, Nat.zero_add, Nat.reduceAdd, Nat.reduceSub, Nat.reduceLeDiff, true_and, and_true, decide_eq_true_eq, decide_eq_false_iff_not, ne_eq, reduceCtorEq, false_implies, true_implies, forall_const, Bool.and_self, Bool.and_true, Bool.true_and, lk_ends, lk_blocks, lk_text, lk_spot, lk_letter, Int.toNat_natCast, dFldO, dTmq, dMut, dSetQ, dParQ, qMake, D.still, D.stills, lf_past, lf_word, lf_letters, pf_past, pf_later, pm1, pm2, pm3, pm4, pi1, pi2, pi3, pi4, pi5, lm_state, lm_text, lm_search, dFldC, dPropC, dMethC, dMethRC, dFstC, dMakeC, dMakeRC, dLenC, dInC, dEqC, dDicN, dDix, dixAt, dRaise, one, dRetR, dDropR, dSetR, dIteR, dSure, dCallR, dMethR, dMakeR]
    obtain ⟨g1, g2⟩ := gr
    rw [show (a : Int) + 1 = ((a + 1 : Nat) : Int) by omega, cut_to, cut_from]
    have e1 : (nK r).take a ++ [D.int (1 + (y : Int))] ++ (nK r).drop (a + 1) = nK (r.take a ++ [1 + y] ++ r.drop (a + 1)) := by
      show (r.map _).take a ++ _ ++ (r.map _).drop (a + 1) = (r.take a ++ [1 + y] ++ r.drop (a + 1)).map _
      rw [List.map_append, List.map_append, List.map_take, List.map_drop, List.map_singleton, show ((1 + y : Nat) : Int) = 1 + (y : Int) by omega]
    rw [e1]
    refine ⟨?_, ?_, hnx _ _ ⟨_, ⟨?_, fun x hx => ?_⟩, by rw [dr_wd]; omega, rfl⟩⟩
    · rw [List.length_take, List.length_map]
      omega
    · rw [List.length_take, List.length_drop, List.length_map]
      omega
    · rw [List.length_append, List.length_append, List.length_take, List.length_drop, List.length_singleton]
      omega
    · rcases List.mem_append.mp hx with hx | hx
      · rcases List.mem_append.mp hx with hx | hx
        · exact g2 _ (List.mem_of_mem_take hx)
        · rw [List.mem_singleton.mp hx]
          omega
      · exact g2 _ (List.mem_of_mem_drop hx)
  rintro n4 ε ⟨r2, gr2, d5, rfl⟩
  refine seq_all (fun n5 ε => n5 = n4 ∧ ε = [.val .pot, .val (.int m), .val (rowD50 r), .val (.int a), .val (.int b), .own (.lst [rowD50 r, rowD50 r2]), .own (.lst (nK r)), .no, .no, .no]) (fun nx hnx => ?_) ?_
  · simp only [dLstOf, envOf, dRet, dRetN, dOp, dSl, dSlO, dVar, dC, pSome, pNo, ev_sll, ev_slt, ev_sls, dBi, dCons, dNil, ev_lenl, ev_lent, ev_lens, ev_lenr, ev_gI, TC, Pd.gSub, gLt, gLe, gGt, gGe, gMod, gFdiv, gPow, gEq, gNe, ev_oki, ev_oks, ev_okl, ev_okt, gIs, gIsNot, gIsB, gIsNotB, Pd.isNon, dCall, dSeq, dSet, dSetO, dMul, setL, bCons, bOwn, bNil, dIf, dIte, dTB, dAnd, dOr, dNot, dBV, dAndV, dOrV, dChain, dTmp, dTmpT, frzE, dFrz, OD.d, dIxO, dApp, dSetI, dNeg, dLst, dLstO, dTup, dO, dDrop, ev_abs, ev_inttoi, ev_inttob, ev_inttos, ev_strtoi, ev_listl, ev_listt, ev_lists, ev_tupl, ev_tupt, ev_addi, ev_adds, ev_addl, ev_addt, ev_muli, ev_muls, ev_mull, ev_max, ev_min, ev_all, ev_any, gRepr, dLRg, Pd.r1, Pd.r2, eqD_str, eqD_int, eqD_bl, dFld, dProp, dMeth, dAugI, dRev, dMake, dIsi, isT, isC, dNx, dBrk, dNev, dFst, gNm, gTp, gsCons, gsNil, dAsg, dStar, dYes, iniEnd, flatD, wipeE, ev_ixl, ev_ixt, ev_ixs, ev_ixr, ev_srcl, ev_srct, ev_srcs, ev_at0, ev_at1, ev_atl, ev_atn, ev_ixn, Option.some.injEq, exists_eq_left', exists_eq_left, List.foldl_cons, List.foldl_nil, List.map_cons, List.map_nil, List.replicate, List.length_append, List.length_map, List.length_cons, List.length_nil, List.cons_append, List.nil_append, List.append_nil, List.getElem?_cons_zero, List.getElem?_cons_succ, List.set_cons_zero, List.set_cons_succ, Nat.zero_add, Nat.reduceAdd, Nat.reduceSub, Nat.reduceLeDiff, true_and, and_true, decide_eq_true_eq, decide_eq_false_iff_not, ne_eq, reduceCtorEq, false_implies, true_implies, forall_const, Bool.and_self, Bool.and_true, Bool.true_and, lk_ends, lk_blocks, lk_text, lk_spot, lk_letter, Int.toNat_natCast, dFldO, dTmq, dMut, dSetQ, dParQ, qMake, D.still, D.stills, lf_past, lf_word, lf_letters, pf_past, pf_later, pm1, pm2, pm3, pm4, pi1, pi2, pi3, pi4, pi5, lm_state, lm_text, lm_search, dFldC, dPropC, dMethC, dMethRC, dFstC, dMakeC, dMakeRC, dLenC, dInC, dEqC, dDicN, dDix, dixAt, dRaise, one, dRetR, dDropR, dSetR, dIteR, dSure, dCallR, dMethR, dMakeR]
    exact hnx _ _ ⟨rfl, rfl⟩
  rintro n5 ε ⟨rfl, rfl⟩
  refine seq_all (fun n6 ε => ∃ r3 : List Nat, good50 m r3 ∧ n6 = n5 ∧ ε = [.val .pot, .val (.int m), .val (rowD50 r), .val (.int a), .val (.int b), .own (.lst [rowD50 r, rowD50 r2]), .own (.lst (nK r3)), .no, .no, .no]) (fun nx hnx => ?_) ?_
  · simp only [dAsgC, gTpC, gsConsC, gPutL, gsNilC, envOf, dRet, dRetN, dOp, dSl, dSlO, dVar, dC, pSome, pNo, ev_sll, ev_slt, ev_sls, dBi, dCons, dNil, ev_lenl, ev_lent, ev_lens, ev_lenr, ev_gI, TC, Pd.gSub, gLt, gLe, gGt, gGe, gMod, gFdiv, gPow, gEq, gNe, ev_oki, ev_oks, ev_okl, ev_okt, gIs, gIsNot, gIsB, gIsNotB, Pd.isNon, dCall, dSeq, dSet, dSetO, dMul, setL, bCons, bOwn, bNil, dIf, dIte, dTB, dAnd, dOr, dNot, dBV, dAndV, dOrV, dChain, dTmp, dTmpT, frzE, dFrz, OD.d, dIxO, dApp, dSetI, dNeg, dLst, dLstO, dTup, dO, dDrop, ev_abs, ev_inttoi, ev_inttob, ev_inttos, ev_strtoi, ev_listl, ev_listt, ev_lists, ev_tupl, ev_tupt, ev_addi, ev_adds, ev_addl, ev_addt, ev_muli, ev_muls, ev_mull, ev_max, ev_min, ev_all, ev_any, gRepr, dLRg, Pd.r1, Pd.r2, eqD_str, eqD_int, eqD_bl, dFld, dProp, dMeth, dAugI, dRev, dMake, dIsi, isT, isC, dNx, dBrk, dNev, dFst, gNm, gTp, gsCons, gsNil, dAsg, dStar, dYes, iniEnd, flatD, wipeE, ev_ixl, ev_ixt, ev_ixs, ev_ixr, ev_srcl, ev_srct, ev_srcs, ev_at0, ev_at1, ev_atl, ev_atn, ev_ixn, Option.some.injEq, exists_eq_left', exists_eq_left, List.foldl_cons, List.foldl_nil, List.map_cons, List.map_nil, List.replicate, List.length_append, List.length_map, List.length_cons, List.length_nil, List.cons_append, List.nil_append, List.append_nil, List.getElem?_cons_zero, List.getElem?_cons_succ, List.set_cons_zero, List.set_cons_succ, Nat.zero_add, Nat.reduceAdd, Nat.reduceSub, Nat.reduceLeDiff, true_and, and_true, decide_eq_true_eq, decide_eq_false_iff_not, ne_eq, reduceCtorEq, false_implies, true_implies, forall_const, Bool.and_self, Bool.and_true, Bool.true_and, lk_ends, lk_blocks, lk_text, lk_spot, lk_letter, Int.toNat_natCast, dFldO, dTmq, dMut, dSetQ, dParQ, qMake, D.still, D.stills, lf_past, lf_word, lf_letters, pf_past, pf_later, pm1, pm2, pm3, pm4, pi1, pi2, pi3, pi4, pi5, lm_state, lm_text, lm_search, dFldC, dPropC, dMethC, dMethRC, dFstC, dMakeC, dMakeRC, dLenC, dInC, dEqC, dDicN, dDix, dixAt, dRaise, one, dRetR, dDropR, dSetR, dIteR, dSure, dCallR, dMethR, dMakeR]
    obtain ⟨g1, g2⟩ := gr
    have ha' : a < r.length := by omega
    have hb' : b < r.length := by omega
    refine ⟨_, atI_nK hb', _, atI_nK ha', a, a, rfl, ixN_at50 ha', b, b, rfl, ixN_at50 (by rw [List.length_set, List.length_map]; exact hb'), ?_⟩
    have e1 : ((nK r).set a (intD r[b])).set b (intD r[a]) = nK ((r.set a r[b]).set b r[a]) := by
      show ((r.map _).set a _).set b _ = ((r.set a r[b]).set b r[a]).map _
      rw [List.map_set, List.map_set]
      rfl
    rw [e1]
    refine hnx _ _ ⟨_, ⟨by rw [List.length_set, List.length_set]; exact g1, fun x hx => ?_⟩, rfl, rfl⟩
    rcases List.mem_or_eq_of_mem_set hx with hx | rfl
    · rcases List.mem_or_eq_of_mem_set hx with hx | rfl
      · exact g2 _ hx
      · exact g2 _ (List.getElem_mem _)
    · exact g2 _ (List.getElem_mem _)
  rintro n6 ε ⟨r3, gr3, rfl, rfl⟩
  show dSeq _ _ _ _ [.val .pot, .val (.int m), .val (rowD50 r), .val (.int a), .val (.int b), .own (.lst [rowD50 r, rowD50 r2]), .val (rowD50 r3), .no, .no, .no]
  refine seq_all (fun n7 ε => ∃ r4 : List Nat, good50 m r4 ∧ dr n7 ≤ dr n6 ∧ dr n6 ≤ dr n7 + 10 ∧ ε = [.val .pot, .val (.int m), .val (rowD50 r), .val (.int a), .val (.int b), .own (.lst ([r, r2, r3, r4].map rowD50)), .val (rowD50 r3), .no, .no, .no]) (fun nx hnx => ?_) ?_
  · simp only [dExt, dComp, iRg1, envOf, dRet, dRetN, dOp, dSl, dSlO, dVar, dC, pSome, pNo, ev_sll, ev_slt, ev_sls, dBi, dCons, dNil, ev_lenl, ev_lent, ev_lens, ev_lenr, ev_gI, TC, Pd.gSub, gLt, gLe, gGt, gGe, gMod, gFdiv, gPow, gEq, gNe, ev_oki, ev_oks, ev_okl, ev_okt, gIs, gIsNot, gIsB, gIsNotB, Pd.isNon, dCall, dSeq, dSet, dSetO, dMul, setL, bCons, bOwn, bNil, dIf, dIte, dTB, dAnd, dOr, dNot, dBV, dAndV, dOrV, dChain, dTmp, dTmpT, frzE, dFrz, OD.d, dIxO, dApp, dSetI, dNeg, dLst, dLstO, dTup, dO, dDrop, ev_abs, ev_inttoi, ev_inttob, ev_inttos, ev_strtoi, ev_listl, ev_listt, ev_lists, ev_tupl, ev_tupt, ev_addi, ev_adds, ev_addl, ev_addt, ev_muli, ev_muls, ev_mull, ev_max, ev_min, ev_all, ev_any, gRepr, dLRg, Pd.r1, Pd.r2, eqD_str, eqD_int, eqD_bl, dFld, dProp, dMeth, dAugI, dRev, dMake, dIsi, isT, isC, dNx, dBrk, dNev, dFst, gNm, gTp, gsCons, gsNil, dAsg, dStar, dYes, iniEnd, flatD, wipeE, ev_ixl, ev_ixt, ev_ixs, ev_ixr, ev_srcl, ev_srct, ev_srcs, ev_at0, ev_at1, ev_atl, ev_atn, ev_ixn, Option.some.injEq, exists_eq_left', exists_eq_left, List.foldl_cons, List.foldl_nil, List.map_cons, List.map_nil, List.replicate, List.length_append, List.length_map, List.length_cons, List.length_nil, List.cons_append, List.nil_append, List.append_nil, List.getElem?_cons_zero, List.getElem?_cons_succ, List.set_cons_zero, List.set_cons_succ, Nat.zero_add, Nat.reduceAdd, Nat.reduceSub, Nat.reduceLeDiff, true_and, and_true, decide_eq_true_eq, decide_eq_false_iff_not, ne_eq, reduceCtorEq, false_implies, true_implies, forall_const, Bool.and_self, Bool.and_true, Bool.true_and, lk_ends, lk_blocks, lk_text, lk_spot, lk_letter, Int.toNat_natCast, dFldO, dTmq, dMut, dSetQ, dParQ, qMake, D.still, D.stills, lf_past, lf_word, lf_letters, pf_past, pf_later, pm1, pm2, pm3, pm4, pi1, pi2, pi3, pi4, pi5, lm_state, lm_text, lm_search, dFldC, dPropC, dMethC, dMethRC, dFstC, dMakeC, dMakeRC, dLenC, dInC, dEqC, dDicN, dDix, dixAt, dRaise, one, dRetR, dDropR, dSetR, dIteR, dSure, dCallR, dMethR, dMakeR]
    rw [show (m : Int) - 1 = ((m - 1 : Nat) : Int) by omega, Int.toNat_natCast, rngD0]
    refine ⟨by omega, by omega, by rw [List.length_map, List.length_range]; omega, ?_⟩
    refine compW_inv (fun xs acc n' => ∃ t : List Nat, acc = nK t ∧ (∀ x ∈ t, 1 ≤ x ∧ x ≤ 7) ∧ t.length + xs.length = m - 1 ∧ dr n' ≤ dr n6 ∧ dr n6 ≤ dr n' + t.length) ?_ ?_ _ _ _ ⟨[], rfl, fun x h => (by cases h), by rw [List.length_map, List.length_range]; exact Nat.zero_add _, Nat.le_refl _, Nat.le_refl _⟩
    · rintro acc n' ⟨t, rfl, t1, t2, t3, t4⟩
      rw [List.length_nil] at t2
      refine ⟨by rw [List.length_map]; omega, hnx _ _ ⟨1 :: t, ⟨by rw [List.length_cons]; omega, fun x hx => ?_⟩, by omega, by omega, rfl⟩⟩
      rcases List.mem_cons.mp hx with rfl | hx
      · omega
      · exact t1 _ hx
    · rintro x xs acc n' K hK ⟨t, rfl, t1, t2, t3, t4⟩
      rw [List.length_cons] at t2
      simp only [envOf, dRet, dRetN, dOp, dSl, dSlO, dVar, dC, pSome, pNo, ev_sll, ev_slt, ev_sls, dBi, dCons, dNil, ev_lenl, ev_lent, ev_lens, ev_lenr, ev_gI, TC, Pd.gSub, gLt, gLe, gGt, gGe, gMod, gFdiv, gPow, gEq, gNe, ev_oki, ev_oks, ev_okl, ev_okt, gIs, gIsNot, gIsB, gIsNotB, Pd.isNon, dCall, dSeq, dSet, dSetO, dMul, setL, bCons, bOwn, bNil, dIf, dIte, dTB, dAnd, dOr, dNot, dBV, dAndV, dOrV, dChain, dTmp, dTmpT, frzE, dFrz, OD.d, dIxO, dApp, dSetI, dNeg, dLst, dLstO, dTup, dO, dDrop, ev_abs, ev_inttoi, ev_inttob, ev_inttos, ev_strtoi, ev_listl, ev_listt, ev_lists, ev_tupl, ev_tupt, ev_addi, ev_adds, ev_addl, ev_addt, ev_muli, ev_muls, ev_mull, ev_max, ev_min, ev_all, ev_any, gRepr, dLRg, Pd.r1, Pd.r2, eqD_str, eqD_int, eqD_bl, dFld, dProp, dMeth, dAugI, dRev, dMake, dIsi, isT, isC, dNx, dBrk, dNev, dFst, gNm, gTp, gsCons, gsNil, dAsg, dStar, dYes, iniEnd, flatD, wipeE, ev_ixl, ev_ixt, ev_ixs, ev_ixr, ev_srcl, ev_srct, ev_srcs, ev_at0, ev_at1, ev_atl, ev_atn, ev_ixn, Option.some.injEq, exists_eq_left', exists_eq_left, List.foldl_cons, List.foldl_nil, List.map_cons, List.map_nil, List.replicate, List.length_append, List.length_map, List.length_cons, List.length_nil, List.cons_append, List.nil_append, List.append_nil, List.getElem?_cons_zero, List.getElem?_cons_succ, List.set_cons_zero, List.set_cons_succ, Nat.zero_add, Nat.reduceAdd, Nat.reduceSub, Nat.reduceLeDiff, true_and, and_true, decide_eq_true_eq, decide_eq_false_iff_not, ne_eq, reduceCtorEq, false_implies, true_implies, forall_const, Bool.and_self, Bool.and_true, Bool.true_and, lk_ends, lk_blocks, lk_text, lk_spot, lk_letter, Int.toNat_natCast, dFldO, dTmq, dMut, dSetQ, dParQ, qMake, D.still, D.stills, lf_past, lf_word, lf_letters, pf_past, pf_later, pm1, pm2, pm3, pm4, pi1, pi2, pi3, pi4, pi5, lm_state, lm_text, lm_search, dFldC, dPropC, dMethC, dMethRC, dFstC, dMakeC, dMakeRC, dLenC, dInC, dEqC, dDicN, dDix, dixAt, dRaise, one, dRetR, dDropR, dSetR, dIteR, dSure, dCallR, dMethR, dMakeR]
      refine noC_up rfl ⟨(m : Nat), rfl, by omega, by omega, dr n' - 1, by omega, fun v v0 v1 => fun _ => ?_⟩
      obtain ⟨y, rfl⟩ := Int.eq_ofNat_of_zero_le v0
      simp only [envOf, dRet, dRetN, dOp, dSl, dSlO, dVar, dC, pSome, pNo, ev_sll, ev_slt, ev_sls, dBi, dCons, dNil, ev_lenl, ev_lent, ev_lens, ev_lenr, ev_gI, TC, Pd.gSub, gLt, gLe, gGt, gGe, gMod, gFdiv, gPow, gEq, gNe, ev_oki, ev_oks, ev_okl, ev_okt, gIs, gIsNot, gIsB, gIsNotB, Pd.isNon, dCall, dSeq, dSet, dSetO, dMul, setL, bCons, bOwn, bNil, dIf, dIte, dTB, dAnd, dOr, dNot, dBV, dAndV, dOrV, dChain, dTmp, dTmpT, frzE, dFrz, OD.d, dIxO, dApp, dSetI, dNeg, dLst, dLstO, dTup, dO, dDrop, ev_abs, ev_inttoi, ev_inttob, ev_inttos, ev_strtoi, ev_listl, ev_listt, ev_lists, ev_tupl, ev_tupt, ev_addi, ev_adds, ev_addl, ev_addt, ev_muli, ev_muls, ev_mull, ev_max, ev_min, ev_all, ev_any, gRepr, dLRg, Pd.r1, Pd.r2, eqD_str, eqD_int, eqD_bl, dFld, dProp, dMeth, dAugI, dRev, dMake, dIsi, isT, isC, dNx, dBrk, dNev, dFst, gNm, gTp, gsCons, gsNil, dAsg, dStar, dYes, iniEnd, flatD, wipeE, ev_ixl, ev_ixt, ev_ixs, ev_ixr, ev_srcl, ev_srct, ev_srcs, ev_at0, ev_at1, ev_atl, ev_atn, ev_ixn, Option.some.injEq, exists_eq_left', exists_eq_left, List.foldl_cons, List.foldl_nil, List.map_cons, List.map_nil, List.replicate, List.length_append, List.length_map, List.length_cons, List.length_nil, List.cons_append, List.nil_append, List.append_nil, List.getElem?_cons_zero, List.getElem?_cons_succ, List.set_cons_zero, List.set_cons_succ, Nat.zero_add, Nat.reduceAdd, Nat.reduceSub, Nat.reduceLeDiff, true_and, and_true, decide_eq_true_eq, decide_eq_false_iff_not, ne_eq, reduceCtorEq, false_implies, true_implies, forall_const, Bool.and_self, Bool.and_true, Bool.true_and, lk_ends, lk_blocks, lk_text, lk_spot, lk_letter, Int.toNat_natCast, dFldO, dTmq, dMut, dSetQ, dParQ, qMake, D.still, D.stills, lf_past, lf_word, lf_letters, pf_past, pf_later, pm1, pm2, pm3, pm4, pi1, pi2, pi3, pi4, pi5, lm_state, lm_text, lm_search, dFldC, dPropC, dMethC, dMethRC, dFstC, dMakeC, dMakeRC, dLenC, dInC, dEqC, dDicN, dDix, dixAt, dRaise, one, dRetR, dDropR, dSetR, dIteR, dSure, dCallR, dMethR, dMakeR]
      refine hK _ _ ⟨t ++ [1 + y], ?_, fun z hz => ?_, ?_, by rw [dr_wd]; omega, ?_⟩
      · show _ = (t ++ [1 + y]).map _
        rw [List.map_append, List.map_singleton, show ((1 + y : Nat) : Int) = 1 + (y : Int) by omega]
      · rcases List.mem_append.mp hz with hz | hz
        · exact t1 _ hz
        · rw [List.mem_singleton.mp hz]
          omega
      · rw [List.length_append, List.length_singleton]
        omega
      · rw [dr_wd, List.length_append, List.length_singleton]
        omega
  rintro n7 ε ⟨r4, gr4, d6, d7, rfl⟩
  refine seq_all (fun n8 ε => n8 = newC n7 (tabD (wordsD m)) ∧ ε = [.val .pot, .val (.int m), .val (rowD50 r), .val (.int a), .val (.int b), .own (.lst ([r, r2, r3, r4].map rowD50)), .val (rowD50 r3), .val (.cel none (cs n7).length), .no, .no]) (fun nx hnx => ?_) ?_
  · simp only [envOf, dRet, dRetN, dOp, dSl, dSlO, dVar, dC, pSome, pNo, ev_sll, ev_slt, ev_sls, dBi, dCons, dNil, ev_lenl, ev_lent, ev_lens, ev_lenr, ev_gI, TC, Pd.gSub, gLt, gLe, gGt, gGe, gMod, gFdiv, gPow, gEq, gNe, ev_oki, ev_oks, ev_okl, ev_okt, gIs, gIsNot, gIsB, gIsNotB, Pd.isNon, dCall, dSeq, dSet, dSetO, dMul, setL, bCons, bOwn, bNil, dIf, dIte, dTB, dAnd, dOr, dNot, dBV, dAndV, dOrV, dChain, dTmp, dTmpT, frzE, dFrz, OD.d, dIxO, dApp, dSetI, dNeg, dLst, dLstO, dTup, dO, dDrop, ev_abs, ev_inttoi, ev_inttob, ev_inttos, ev_strtoi, ev_listl, ev_listt, ev_lists, ev_tupl, ev_tupt, ev_addi, ev_adds, ev_addl, ev_addt, ev_muli, ev_muls, ev_mull, ev_max, ev_min, ev_all, ev_any, gRepr, dLRg, Pd.r1, Pd.r2, eqD_str, eqD_int, eqD_bl, dFld, dProp, dMeth, dAugI, dRev, dMake, dIsi, isT, isC, dNx, dBrk, dNev, dFst, gNm, gTp, gsCons, gsNil, dAsg, dStar, dYes, iniEnd, flatD, wipeE, ev_ixl, ev_ixt, ev_ixs, ev_ixr, ev_srcl, ev_srct, ev_srcs, ev_at0, ev_at1, ev_atl, ev_atn, ev_ixn, Option.some.injEq, exists_eq_left', exists_eq_left, List.foldl_cons, List.foldl_nil, List.map_cons, List.map_nil, List.replicate, List.length_append, List.length_map, List.length_cons, List.length_nil, List.cons_append, List.nil_append, List.append_nil, List.getElem?_cons_zero, List.getElem?_cons_succ, List.set_cons_zero, List.set_cons_succ, Nat.zero_add, Nat.reduceAdd, Nat.reduceSub, Nat.reduceLeDiff, true_and, and_true, decide_eq_true_eq, decide_eq_false_iff_not, ne_eq, reduceCtorEq, false_implies, true_implies, forall_const, Bool.and_self, Bool.and_true, Bool.true_and, lk_ends, lk_blocks, lk_text, lk_spot, lk_letter, Int.toNat_natCast, dFldO, dTmq, dMut, dSetQ, dParQ, qMake, D.still, D.stills, lf_past, lf_word, lf_letters, pf_past, pf_later, pm1, pm2, pm3, pm4, pi1, pi2, pi3, pi4, pi5, lm_state, lm_text, lm_search, dFldC, dPropC, dMethC, dMethRC, dFstC, dMakeC, dMakeRC, dLenC, dInC, dEqC, dDicN, dDix, dixAt, dRaise, one, dRetR, dDropR, dSetR, dIteR, dSure, dCallR, dMethR, dMakeR]
    exact ⟨m, rfl, m1, m2, hnx _ _ ⟨rfl, rfl⟩⟩
  rintro n8 ε ⟨rfl, rfl⟩
  have fin : ∀ rs : List (List Nat), (∀ r ∈ rs, good50 m r) → compW (gNm 9) dYes
      (dOp gEq (dBi gReprX (dCons (dCall (up s_told_back) [] (dCons (dBi gTuple (dCons (dVar 9) dNil)) dNil)) dNil)) (dBi gReprX (dCons (dCall s_due50 [] (dCons (dVar 7) (dCons (dVar 9) dNil))) dNil)))
      [.val .pot, .val (.int m), .val (rowD50 r), .val (.int a), .val (.int b), .own (.lst [rowD50 r, rowD50 r2, rowD50 r3, rowD50 r4]), .val (rowD50 r3), .val (.cel none (cs n7).length), .no, .no]
      (fun n' ds => ∃ ns, isBls ds = some ns ∧ Q n' (.bl (ns.all id))) (rs.map rowD50) [] (newC n7 (tabD (wordsD m))) := fun rs hrs => by
    refine compW_at50 (fun _ => .bl true) _ _ (fun x hx K K' hK => ?_) ?_
    · obtain ⟨s, hs, rfl⟩ := List.mem_map.mp hx
      obtain ⟨g1, g2⟩ := hrs s hs
      obtain ⟨o1, o2⟩ := of_repr (ns := s) (by omega)
      simp only [envOf, dRet, dRetN, dOp, dSl, dSlO, dVar, dC, pSome, pNo, ev_sll, ev_slt, ev_sls, dBi, dCons, dNil, ev_lenl, ev_lent, ev_lens, ev_lenr, ev_gI, TC, Pd.gSub, gLt, gLe, gGt, gGe, gMod, gFdiv, gPow, gEq, gNe, ev_oki, ev_oks, ev_okl, ev_okt, gIs, gIsNot, gIsB, gIsNotB, Pd.isNon, dCall, dSeq, dSet, dSetO, dMul, setL, bCons, bOwn, bNil, dIf, dIte, dTB, dAnd, dOr, dNot, dBV, dAndV, dOrV, dChain, dTmp, dTmpT, frzE, dFrz, OD.d, dIxO, dApp, dSetI, dNeg, dLst, dLstO, dTup, dO, dDrop, ev_abs, ev_inttoi, ev_inttob, ev_inttos, ev_strtoi, ev_listl, ev_listt, ev_lists, ev_tupl, ev_tupt, ev_addi, ev_adds, ev_addl, ev_addt, ev_muli, ev_muls, ev_mull, ev_max, ev_min, ev_all, ev_any, gRepr, dLRg, Pd.r1, Pd.r2, eqD_str, eqD_int, eqD_bl, dFld, dProp, dMeth, dAugI, dRev, dMake, dIsi, isT, isC, dNx, dBrk, dNev, dFst, gNm, gTp, gsCons, gsNil, dAsg, dStar, dYes, iniEnd, flatD, wipeE, ev_ixl, ev_ixt, ev_ixs, ev_ixr, ev_srcl, ev_srct, ev_srcs, ev_at0, ev_at1, ev_atl, ev_atn, ev_ixn, Option.some.injEq, exists_eq_left', exists_eq_left, List.foldl_cons, List.foldl_nil, List.map_cons, List.map_nil, List.replicate, List.length_append, List.length_map, List.length_cons, List.length_nil, List.cons_append, List.nil_append, List.append_nil, List.getElem?_cons_zero, List.getElem?_cons_succ, List.set_cons_zero, List.set_cons_succ, Nat.zero_add, Nat.reduceAdd, Nat.reduceSub, Nat.reduceLeDiff, true_and, and_true, decide_eq_true_eq, decide_eq_false_iff_not, ne_eq, reduceCtorEq, false_implies, true_implies, forall_const, Bool.and_self, Bool.and_true, Bool.true_and, lk_ends, lk_blocks, lk_text, lk_spot, lk_letter, Int.toNat_natCast, dFldO, dTmq, dMut, dSetQ, dParQ, qMake, D.still, D.stills, lf_past, lf_word, lf_letters, pf_past, pf_later, pm1, pm2, pm3, pm4, pi1, pi2, pi3, pi4, pi5, lm_state, lm_text, lm_search, dFldC, dPropC, dMethC, dMethRC, dFstC, dMakeC, dMakeRC, dLenC, dInC, dEqC, dDicN, dDix, dixAt, dRaise, one, dRetR, dDropR, dSetR, dIteR, dSure, dCallR, dMethR, dMakeR]
      refine noC_up ?_ ⟨s, rfl, by omega, by omega, g2, fun _ => ?_⟩
      · simp only [noCs, noC, nc_nK50, Bool.and_self]
      rw [wd_same]
      simp only [gReprX, envOf, dRet, dRetN, dOp, dSl, dSlO, dVar, dC, pSome, pNo, ev_sll, ev_slt, ev_sls, dBi, dCons, dNil, ev_lenl, ev_lent, ev_lens, ev_lenr, ev_gI, TC, Pd.gSub, gLt, gLe, gGt, gGe, gMod, gFdiv, gPow, gEq, gNe, ev_oki, ev_oks, ev_okl, ev_okt, gIs, gIsNot, gIsB, gIsNotB, Pd.isNon, dCall, dSeq, dSet, dSetO, dMul, setL, bCons, bOwn, bNil, dIf, dIte, dTB, dAnd, dOr, dNot, dBV, dAndV, dOrV, dChain, dTmp, dTmpT, frzE, dFrz, OD.d, dIxO, dApp, dSetI, dNeg, dLst, dLstO, dTup, dO, dDrop, ev_abs, ev_inttoi, ev_inttob, ev_inttos, ev_strtoi, ev_listl, ev_listt, ev_lists, ev_tupl, ev_tupt, ev_addi, ev_adds, ev_addl, ev_addt, ev_muli, ev_muls, ev_mull, ev_max, ev_min, ev_all, ev_any, gRepr, dLRg, Pd.r1, Pd.r2, eqD_str, eqD_int, eqD_bl, dFld, dProp, dMeth, dAugI, dRev, dMake, dIsi, isT, isC, dNx, dBrk, dNev, dFst, gNm, gTp, gsCons, gsNil, dAsg, dStar, dYes, iniEnd, flatD, wipeE, ev_ixl, ev_ixt, ev_ixs, ev_ixr, ev_srcl, ev_srct, ev_srcs, ev_at0, ev_at1, ev_atl, ev_atn, ev_ixn, Option.some.injEq, exists_eq_left', exists_eq_left, List.foldl_cons, List.foldl_nil, List.map_cons, List.map_nil, List.replicate, List.length_append, List.length_map, List.length_cons, List.length_nil, List.cons_append, List.nil_append, List.append_nil, List.getElem?_cons_zero, List.getElem?_cons_succ, List.set_cons_zero, List.set_cons_succ, Nat.zero_add, Nat.reduceAdd, Nat.reduceSub, Nat.reduceLeDiff, true_and, and_true, decide_eq_true_eq, decide_eq_false_iff_not, ne_eq, reduceCtorEq, false_implies, true_implies, forall_const, Bool.and_self, Bool.and_true, Bool.true_and, lk_ends, lk_blocks, lk_text, lk_spot, lk_letter, Int.toNat_natCast, dFldO, dTmq, dMut, dSetQ, dParQ, qMake, D.still, D.stills, lf_past, lf_word, lf_letters, pf_past, pf_later, pm1, pm2, pm3, pm4, pi1, pi2, pi3, pi4, pi5, lm_state, lm_text, lm_search, dFldC, dPropC, dMethC, dMethRC, dFstC, dMakeC, dMakeRC, dLenC, dInC, dEqC, dDicN, dDix, dixAt, dRaise, one, dRetR, dDropR, dSetR, dIteR, dSure, dCallR, dMethR, dMakeR]
      refine ⟨o1, o2, _, m, s, rfl, ?_, g1.symm, m2, o1, o2, ?_⟩
      · rw [cs_newC, List.getElem?_append_right (Nat.le_refl _), Nat.sub_self]
        rfl
      rw [decide_eq_true rfl]
      exact hK
    · rw [List.nil_append]
      refine ⟨_, bls50 _, ?_⟩
      rw [show ((rs.map rowD50).map fun _ => true).all id = true by simp]
      refine q _ ?_ ?_
      · rw [dr_newC]
        omega
      · rw [dr_newC]
        omega
  have gall : ∀ s ∈ [r, r2, r3, r4], good50 m s := fun s hs => by
    simp only [List.mem_cons, List.not_mem_nil, or_false] at hs
    rcases hs with rfl | rfl | rfl | rfl
    · exact gr
    · exact gr2
    · exact gr3
    · exact gr4
  simp only [dComp, iVal, dSlO, envOf, dRet, dRetN, dOp, dSl, dSlO, dVar, dC, pSome, pNo, ev_sll, ev_slt, ev_sls, dBi, dCons, dNil, ev_lenl, ev_lent, ev_lens, ev_lenr, ev_gI, TC, Pd.gSub, gLt, gLe, gGt, gGe, gMod, gFdiv, gPow, gEq, gNe, ev_oki, ev_oks, ev_okl, ev_okt, gIs, gIsNot, gIsB, gIsNotB, Pd.isNon, dCall, dSeq, dSet, dSetO, dMul, setL, bCons, bOwn, bNil, dIf, dIte, dTB, dAnd, dOr, dNot, dBV, dAndV, dOrV, dChain, dTmp, dTmpT, frzE, dFrz, OD.d, dIxO, dApp, dSetI, dNeg, dLst, dLstO, dTup, dO, dDrop, ev_abs, ev_inttoi, ev_inttob, ev_inttos, ev_strtoi, ev_listl, ev_listt, ev_lists, ev_tupl, ev_tupt, ev_addi, ev_adds, ev_addl, ev_addt, ev_muli, ev_muls, ev_mull, ev_max, ev_min, ev_all, ev_any, gRepr, dLRg, Pd.r1, Pd.r2, eqD_str, eqD_int, eqD_bl, dFld, dProp, dMeth, dAugI, dRev, dMake, dIsi, isT, isC, dNx, dBrk, dNev, dFst, gNm, gTp, gsCons, gsNil, dAsg, dStar, dYes, iniEnd, flatD, wipeE, ev_ixl, ev_ixt, ev_ixs, ev_ixr, ev_srcl, ev_srct, ev_srcs, ev_at0, ev_at1, ev_atl, ev_atn, ev_ixn, Option.some.injEq, exists_eq_left', exists_eq_left, List.foldl_cons, List.foldl_nil, List.map_cons, List.map_nil, List.replicate, List.length_append, List.length_map, List.length_cons, List.length_nil, List.cons_append, List.nil_append, List.append_nil, List.getElem?_cons_zero, List.getElem?_cons_succ, List.set_cons_zero, List.set_cons_succ, Nat.zero_add, Nat.reduceAdd, Nat.reduceSub, Nat.reduceLeDiff, true_and, and_true, decide_eq_true_eq, decide_eq_false_iff_not, ne_eq, reduceCtorEq, false_implies, true_implies, forall_const, Bool.and_self, Bool.and_true, Bool.true_and, lk_ends, lk_blocks, lk_text, lk_spot, lk_letter, Int.toNat_natCast, dFldO, dTmq, dMut, dSetQ, dParQ, qMake, D.still, D.stills, lf_past, lf_word, lf_letters, pf_past, pf_later, pm1, pm2, pm3, pm4, pi1, pi2, pi3, pi4, pi5, lm_state, lm_text, lm_search, dFldC, dPropC, dMethC, dMethRC, dFstC, dMakeC, dMakeRC, dLenC, dInC, dEqC, dDicN, dDix, dixAt, dRaise, one, dRetR, dDropR, dSetR, dIteR, dSure, dCallR, dMethR, dMakeR]
  refine ⟨fun _ => ⟨Nat.le_trans (cut_length _ _ _) (by simp), ?_⟩, fun _ => ⟨Nat.le_trans (cut_length _ _ _) (by simp), ?_⟩⟩
  · exact fin [r, r2, r3, r4] gall
  · exact fin [r, r2] fun s hs => gall s (by simp only [List.mem_cons, List.not_mem_nil, or_false] at hs ⊢; rcases hs with rfl | rfl <;> simp)
theorem r_right50 (c : Str → Addr) : RightOk (dn (s_right50 c)) 1000 := fun n Q h q => ⟨rfl, by rw [dr_stN]; exact h, fun n' h1 h2 => by
  rw [dr_stN] at h1 h2
  exact ⟨rfl, q _ h1 h2⟩⟩
end LW
namespace LW
open PySem L2 Pd
def b_is_tuple_v3 (c : Str → Addr)  : DS := (dRet (dAndV (dTB (dIsi (isT "tuple" []) (dVar 0))) (dAndV (dTB (dOp gLe (dVar 1) (dBi gLen (dCons (dVar 0) dNil)))) (dOrV (dTB (dOp gIs (dVar 2) (dC .non))) (dOp gLe (dBi gLen (dCons (dVar 0) dNil)) (dVar 2))))))
def b_is_integer_v3 (c : Str → Addr)  : DS := (dSeq (dIf (dOr (dNot (dTB (dIsi (isT "int" []) (dVar 0)))) (dTB (dIsi (isT "bool" []) (dVar 0)))) (dRet (dC (.bl false))) dNx)
    (dRet (dAndV (dTB (dOp gLe (dVar 1) (dVar 0))) (dOrV (dTB (dOp gIs (dVar 2) (dC .non))) (dOp gLe (dVar 0) (dVar 2))))))
end LW
namespace LW
open PySem L2 Pd
theorem l_int50 (c : Str → Addr) : ∀ ds n Q, s_is_integer ds n Q → dFn 3 3 (b_is_integer_v3 c) ds n Q := by
  rintro ds n Q (⟨v, lo, hi, rfl, q⟩ | ⟨v, lo, rfl, q⟩)
  · refine ⟨rfl, ?_⟩
    simp only [b_is_integer_v3, envOf, dRet, dRetN, dOp, dSl, dSlO, dVar, dC, pSome, pNo, ev_sll, ev_slt, ev_sls, dBi, dCons, dNil, ev_lenl, ev_lent, ev_lens, ev_lenr, ev_gI, TC, Pd.gSub, gLt, gLe, gGt, gGe, gMod, gFdiv, gPow, gEq, gNe, ev_oki, ev_oks, ev_okl, ev_okt, gIs, gIsNot, gIsB, gIsNotB, Pd.isNon, dCall, dSeq, dSet, dSetO, dMul, setL, bCons, bOwn, bNil, dIf, dIte, dTB, dAnd, dOr, dNot, dBV, dAndV, dOrV, dChain, dTmp, dTmpT, frzE, dFrz, OD.d, dIxO, dApp, dSetI, dNeg, dLst, dLstO, dTup, dO, dDrop, ev_abs, ev_inttoi, ev_inttob, ev_inttos, ev_strtoi, ev_listl, ev_listt, ev_lists, ev_tupl, ev_tupt, ev_addi, ev_adds, ev_addl, ev_addt, ev_muli, ev_muls, ev_mull, ev_max, ev_min, ev_all, ev_any, gRepr, dLRg, Pd.r1, Pd.r2, eqD_str, eqD_int, eqD_bl, dFld, dProp, dMeth, dAugI, dRev, dMake, dIsi, isT, isC, dNx, dBrk, dNev, dFst, putFD, gNm, gTp, gsCons, gsNil, dAsg, dStar, dYes, iniEnd, flatD, wipeE, ev_ixl, ev_ixt, ev_ixs, ev_ixr, ev_srcl, ev_srct, ev_srcs, ev_at0, ev_at1, ev_atl, ev_atn, ev_ixn, Option.some.injEq, exists_eq_left', exists_eq_left, List.foldl_cons, List.foldl_nil, List.map_cons, List.map_nil, List.replicate, List.length_append, List.length_map, List.length_cons, List.length_nil, List.cons_append, List.nil_append, List.append_nil, List.getElem?_cons_zero, List.getElem?_cons_succ, List.set_cons_zero, List.set_cons_succ, Nat.zero_add, Nat.reduceAdd, Nat.reduceSub, Nat.reduceLeDiff, true_and, and_true, decide_eq_true_eq, decide_eq_false_iff_not, ne_eq, reduceCtorEq, false_implies, true_implies, forall_const, Bool.and_self, Bool.and_true, Bool.true_and, lk_ends, lk_blocks, lk_text, lk_spot, lk_letter, Int.toNat_natCast]
    refine ⟨fun h => by simp at h, fun _ => ⟨fun h => by simp at h, fun _ => ⟨fun h => ?_, fun h => ?_⟩⟩⟩
    · rw [show decide (lo ≤ v ∧ v ≤ hi) = decide (v ≤ hi) by simp [h]] at q
      exact q
    · rw [show decide (lo ≤ v ∧ v ≤ hi) = false by simp [h]] at q
      exact q
  · refine ⟨rfl, ?_⟩
    simp only [b_is_integer_v3, envOf, dRet, dRetN, dOp, dSl, dSlO, dVar, dC, pSome, pNo, ev_sll, ev_slt, ev_sls, dBi, dCons, dNil, ev_lenl, ev_lent, ev_lens, ev_lenr, ev_gI, TC, Pd.gSub, gLt, gLe, gGt, gGe, gMod, gFdiv, gPow, gEq, gNe, ev_oki, ev_oks, ev_okl, ev_okt, gIs, gIsNot, gIsB, gIsNotB, Pd.isNon, dCall, dSeq, dSet, dSetO, dMul, setL, bCons, bOwn, bNil, dIf, dIte, dTB, dAnd, dOr, dNot, dBV, dAndV, dOrV, dChain, dTmp, dTmpT, frzE, dFrz, OD.d, dIxO, dApp, dSetI, dNeg, dLst, dLstO, dTup, dO, dDrop, ev_abs, ev_inttoi, ev_inttob, ev_inttos, ev_strtoi, ev_listl, ev_listt, ev_lists, ev_tupl, ev_tupt, ev_addi, ev_adds, ev_addl, ev_addt, ev_muli, ev_muls, ev_mull, ev_max, ev_min, ev_all, ev_any, gRepr, dLRg, Pd.r1, Pd.r2, eqD_str, eqD_int, eqD_bl, dFld, dProp, dMeth, dAugI, dRev, dMake, dIsi, isT, isC, dNx, dBrk, dNev, dFst, putFD, gNm, gTp, gsCons, gsNil, dAsg, dStar, dYes, iniEnd, flatD, wipeE, ev_ixl, ev_ixt, ev_ixs, ev_ixr, ev_srcl, ev_srct, ev_srcs, ev_at0, ev_at1, ev_atl, ev_atn, ev_ixn, Option.some.injEq, exists_eq_left', exists_eq_left, List.foldl_cons, List.foldl_nil, List.map_cons, List.map_nil, List.replicate, List.length_append, List.length_map, List.length_cons, List.length_nil, List.cons_append, List.nil_append, List.append_nil, List.getElem?_cons_zero, List.getElem?_cons_succ, List.set_cons_zero, List.set_cons_succ, Nat.zero_add, Nat.reduceAdd, Nat.reduceSub, Nat.reduceLeDiff, true_and, and_true, decide_eq_true_eq, decide_eq_false_iff_not, ne_eq, reduceCtorEq, false_implies, true_implies, forall_const, Bool.and_self, Bool.and_true, Bool.true_and, lk_ends, lk_blocks, lk_text, lk_spot, lk_letter, Int.toNat_natCast]
    refine ⟨fun h => by simp at h, fun _ => ⟨fun h => by simp at h, fun _ => ⟨fun h => ?_, fun h => ?_⟩⟩⟩
    · rw [decide_eq_true h] at q
      exact q
    · rw [decide_eq_false h] at q
      exact q
theorem l_tup50 (c : Str → Addr) : ∀ ds n Q, s_is_tuple ds n Q → dFn 3 3 (b_is_tuple_v3 c) ds n Q := by
  rintro ds n Q (⟨xs, lo, hi, rfl, q⟩ | ⟨xs, lo, rfl, q⟩)
  · refine ⟨rfl, ?_⟩
    simp only [b_is_tuple_v3, envOf, dRet, dRetN, dOp, dSl, dSlO, dVar, dC, pSome, pNo, ev_sll, ev_slt, ev_sls, dBi, dCons, dNil, ev_lenl, ev_lent, ev_lens, ev_lenr, ev_gI, TC, Pd.gSub, gLt, gLe, gGt, gGe, gMod, gFdiv, gPow, gEq, gNe, ev_oki, ev_oks, ev_okl, ev_okt, gIs, gIsNot, gIsB, gIsNotB, Pd.isNon, dCall, dSeq, dSet, dSetO, dMul, setL, bCons, bOwn, bNil, dIf, dIte, dTB, dAnd, dOr, dNot, dBV, dAndV, dOrV, dChain, dTmp, dTmpT, frzE, dFrz, OD.d, dIxO, dApp, dSetI, dNeg, dLst, dLstO, dTup, dO, dDrop, ev_abs, ev_inttoi, ev_inttob, ev_inttos, ev_strtoi, ev_listl, ev_listt, ev_lists, ev_tupl, ev_tupt, ev_addi, ev_adds, ev_addl, ev_addt, ev_muli, ev_muls, ev_mull, ev_max, ev_min, ev_all, ev_any, gRepr, dLRg, Pd.r1, Pd.r2, eqD_str, eqD_int, eqD_bl, dFld, dProp, dMeth, dAugI, dRev, dMake, dIsi, isT, isC, dNx, dBrk, dNev, dFst, putFD, gNm, gTp, gsCons, gsNil, dAsg, dStar, dYes, iniEnd, flatD, wipeE, ev_ixl, ev_ixt, ev_ixs, ev_ixr, ev_srcl, ev_srct, ev_srcs, ev_at0, ev_at1, ev_atl, ev_atn, ev_ixn, Option.some.injEq, exists_eq_left', exists_eq_left, List.foldl_cons, List.foldl_nil, List.map_cons, List.map_nil, List.replicate, List.length_append, List.length_map, List.length_cons, List.length_nil, List.cons_append, List.nil_append, List.append_nil, List.getElem?_cons_zero, List.getElem?_cons_succ, List.set_cons_zero, List.set_cons_succ, Nat.zero_add, Nat.reduceAdd, Nat.reduceSub, Nat.reduceLeDiff, true_and, and_true, decide_eq_true_eq, decide_eq_false_iff_not, ne_eq, reduceCtorEq, false_implies, true_implies, forall_const, Bool.and_self, Bool.and_true, Bool.true_and, lk_ends, lk_blocks, lk_text, lk_spot, lk_letter, Int.toNat_natCast]
    refine ⟨⟨fun h => ?_, fun h => ?_⟩, fun h => (h trivial).elim⟩
    · rw [show decide (lo ≤ xs.length ∧ xs.length ≤ hi) = decide ((xs.length : Int) ≤ (hi : Int)) by rw [decide_eq_decide]; omega] at q
      exact q
    · rw [show decide (lo ≤ xs.length ∧ xs.length ≤ hi) = false by rw [decide_eq_false_iff_not]; omega] at q
      exact q
  · refine ⟨rfl, ?_⟩
    simp only [b_is_tuple_v3, envOf, dRet, dRetN, dOp, dSl, dSlO, dVar, dC, pSome, pNo, ev_sll, ev_slt, ev_sls, dBi, dCons, dNil, ev_lenl, ev_lent, ev_lens, ev_lenr, ev_gI, TC, Pd.gSub, gLt, gLe, gGt, gGe, gMod, gFdiv, gPow, gEq, gNe, ev_oki, ev_oks, ev_okl, ev_okt, gIs, gIsNot, gIsB, gIsNotB, Pd.isNon, dCall, dSeq, dSet, dSetO, dMul, setL, bCons, bOwn, bNil, dIf, dIte, dTB, dAnd, dOr, dNot, dBV, dAndV, dOrV, dChain, dTmp, dTmpT, frzE, dFrz, OD.d, dIxO, dApp, dSetI, dNeg, dLst, dLstO, dTup, dO, dDrop, ev_abs, ev_inttoi, ev_inttob, ev_inttos, ev_strtoi, ev_listl, ev_listt, ev_lists, ev_tupl, ev_tupt, ev_addi, ev_adds, ev_addl, ev_addt, ev_muli, ev_muls, ev_mull, ev_max, ev_min, ev_all, ev_any, gRepr, dLRg, Pd.r1, Pd.r2, eqD_str, eqD_int, eqD_bl, dFld, dProp, dMeth, dAugI, dRev, dMake, dIsi, isT, isC, dNx, dBrk, dNev, dFst, putFD, gNm, gTp, gsCons, gsNil, dAsg, dStar, dYes, iniEnd, flatD, wipeE, ev_ixl, ev_ixt, ev_ixs, ev_ixr, ev_srcl, ev_srct, ev_srcs, ev_at0, ev_at1, ev_atl, ev_atn, ev_ixn, Option.some.injEq, exists_eq_left', exists_eq_left, List.foldl_cons, List.foldl_nil, List.map_cons, List.map_nil, List.replicate, List.length_append, List.length_map, List.length_cons, List.length_nil, List.cons_append, List.nil_append, List.append_nil, List.getElem?_cons_zero, List.getElem?_cons_succ, List.set_cons_zero, List.set_cons_succ, Nat.zero_add, Nat.reduceAdd, Nat.reduceSub, Nat.reduceLeDiff, true_and, and_true, decide_eq_true_eq, decide_eq_false_iff_not, ne_eq, reduceCtorEq, false_implies, true_implies, forall_const, Bool.and_self, Bool.and_true, Bool.true_and, lk_ends, lk_blocks, lk_text, lk_spot, lk_letter, Int.toNat_natCast]
    refine ⟨⟨fun h => ?_, fun h => ?_⟩, fun h => (h trivial).elim⟩
    · rw [decide_eq_true (by omega : lo ≤ xs.length)] at q
      exact q
    · rw [decide_eq_false (by omega : ¬ lo ≤ xs.length)] at q
      exact q
end LW
namespace LW
open PySem L2 Pd
structure Fc (K : PySem.W.Frag) (mg : Str → Option Value) : Prop where
  g__law_all_words : mg "_law_all_words" = some (.ref (He.ga K "_law_all_words"))
  g__law_any_letters : mg "_law_any_letters" = some (.ref (He.ga K "_law_any_letters"))
  g__law_blocks : mg "_law_blocks" = some (.ref (He.ga K "_law_blocks"))
  g__law_cells : mg "_law_cells" = some (.ref (He.ga K "_law_cells"))
  g__law_due : mg "_law_due" = some (.ref (He.ga K "_law_due"))
  g__law_is_repeat : mg "_law_is_repeat" = some (.ref (He.ga K "_law_is_repeat"))
  g__law_letters : mg "_law_letters" = some (.ref (He.ga K "_law_letters"))
  g__law_of : mg "_law_of" = some (.ref (He.ga K "_law_of"))
  g__law_pot : mg "_law_pot" = some (.ref (He.ga K "_law_pot"))
  g__law_random : mg "_law_random" = some (.ref (He.ga K "_law_random"))
  g__law_right : mg "_law_right" = some (.ref (He.ga K "_law_right"))
  g__law_row : mg "_law_row" = some (.ref (He.ga K "_law_row"))
  g__law_shortest : mg "_law_shortest" = some (.ref (He.ga K "_law_shortest"))
  g__law_table : mg "_law_table" = some (.ref (He.ga K "_law_table"))
  g__law_take : mg "_law_take" = some (.ref (He.ga K "_law_take"))
  g_all_spelled : mg "all_spelled" = some (.ref (He.ga K "all_spelled"))
  g_is_integer : mg "is_integer" = some (.ref (He.ga K "is_integer"))
  g_is_repeat : mg "is_repeat" = some (.ref (He.ga K "is_repeat"))
  g_is_tuple : mg "is_tuple" = some (.ref (He.ga K "is_tuple"))
  g_row_of : mg "row_of" = some (.ref (He.ga K "row_of"))
  g_told_back : mg "told_back" = some (.ref (He.ga K "told_back"))
  g_law : mg "law" = some (.ref (He.ga K "law"))
  i_MOST : ∃ t, mg "MOST" = some (.int 7 t)
  s_LETTERS : ∃ t, mg "LETTERS" = some (.str ⟨List.toArray [97, 98, 99, 100, 101, 102, 103, 104, 105, 106, 107, 108, 109, 110, 111, 112, 113, 114, 115, 116, 117, 118, 119, 120, 121, 122]⟩ t)
  s_NONE : ∃ t, mg "NONE" = some (.str ⟨List.toArray [110, 111, 110, 101]⟩ t)
  s_WORDS : ∃ t, mg "WORDS" = some (.str ⟨List.toArray [119, 111, 114, 100, 115]⟩ t)
  f_abs : mg "abs" = none
  f_all : mg "all" = none
  f_bool : mg "bool" = none
  f_int : mg "int" = none
  f_isinstance : mg "isinstance" = none
  f_len : mg "len" = none
  f_list : mg "list" = none
  f_max : mg "max" = none
  f_min : mg "min" = none
  f_range : mg "range" = none
  f_repr : mg "repr" = none
  f_set : mg "set" = none
  f_tuple : mg "tuple" = none
  sysd : SysD K
  is_bool : IsT K (.ty "bool") (isT "bool" [])
  is_int : IsT K (.ty "int") (isT "int" [])
  is_tuple : IsT K (.ty "tuple") (isT "tuple" [])
  d_is_integer : ∃ fd, FunD K D_is_integer.name D_is_integer.qual D_is_integer.params D_is_integer.body D_is_integer.scope (D_is_integer.dvs K) [] (D_is_integer.loc K) fd
  d_is_tuple : ∃ fd, FunD K D_is_tuple.name D_is_tuple.qual D_is_tuple.params D_is_tuple.body D_is_tuple.scope (D_is_tuple.dvs K) [] (D_is_tuple.loc K) fd
  d_all_spelled : ∃ fd, FunD K D_all_spelled.name D_all_spelled.qual D_all_spelled.params D_all_spelled.body D_all_spelled.scope [] [] (D_all_spelled.loc K) fd
  d_is_repeat : ∃ fd, FunD K D_is_repeat.name D_is_repeat.qual D_is_repeat.params D_is_repeat.body D_is_repeat.scope [] [] (D_is_repeat.loc K) fd
  d_row_of : ∃ fd, FunD K D_row_of.name D_row_of.qual D_row_of.params D_row_of.body D_row_of.scope [] [] (D_row_of.loc K) fd
  d_told_back : ∃ fd, FunD K D_told_back.name D_told_back.qual D_told_back.params D_told_back.body D_told_back.scope [] [] (D_told_back.loc K) fd
  d__law_pot : ∃ fd, FunD K D__law_pot.name D__law_pot.qual D__law_pot.params D__law_pot.body D__law_pot.scope [] [] (D__law_pot.loc K) fd
  d__law_take : ∃ fd, FunD K D__law_take.name D__law_take.qual D__law_take.params D__law_take.body D__law_take.scope [] [] (D__law_take.loc K) fd
  d__law_of : ∃ fd, FunD K D__law_of.name D__law_of.qual D__law_of.params D__law_of.body D__law_of.scope [] [] (D__law_of.loc K) fd
  d__law_cells : ∃ fd, FunD K D__law_cells.name D__law_cells.qual D__law_cells.params D__law_cells.body D__law_cells.scope [] [] (D__law_cells.loc K) fd
  d__law_random : ∃ fd, FunD K D__law_random.name D__law_random.qual D__law_random.params D__law_random.body D__law_random.scope [] [] (D__law_random.loc K) fd
  d__law_letters : ∃ fd, FunD K D__law_letters.name D__law_letters.qual D__law_letters.params D__law_letters.body D__law_letters.scope [] [] (D__law_letters.loc K) fd
  d__law_any_letters : ∃ fd, FunD K D__law_any_letters.name D__law_any_letters.qual D__law_any_letters.params D__law_any_letters.body D__law_any_letters.scope [] [] (D__law_any_letters.loc K) fd
  d__law_blocks : ∃ fd, FunD K D__law_blocks.name D__law_blocks.qual D__law_blocks.params D__law_blocks.body D__law_blocks.scope [] [] (D__law_blocks.loc K) fd
  d__law_is_repeat : ∃ fd, FunD K D__law_is_repeat.name D__law_is_repeat.qual D__law_is_repeat.params D__law_is_repeat.body D__law_is_repeat.scope [] [] (D__law_is_repeat.loc K) fd
  d__law_shortest : ∃ fd, FunD K D__law_shortest.name D__law_shortest.qual D__law_shortest.params D__law_shortest.body D__law_shortest.scope [] [] (D__law_shortest.loc K) fd
  d__law_row : ∃ fd, FunD K D__law_row.name D__law_row.qual D__law_row.params D__law_row.body D__law_row.scope [] [] (D__law_row.loc K) fd
  d__law_all_words : ∃ fd, FunD K D__law_all_words.name D__law_all_words.qual D__law_all_words.params D__law_all_words.body D__law_all_words.scope [] [] (D__law_all_words.loc K) fd
  d__law_table : ∃ fd, FunD K D__law_table.name D__law_table.qual D__law_table.params D__law_table.body D__law_table.scope [] [] (D__law_table.loc K) fd
  d__law_due : ∃ fd, FunD K D__law_due.name D__law_due.qual D__law_due.params D__law_due.body D__law_due.scope [] [] (D__law_due.loc K) fd
  d__law_right : ∃ fd, FunD K D__law_right.name D__law_right.qual D__law_right.params D__law_right.body D__law_right.scope [] [] (D__law_right.loc K) fd
  d_law : ∃ fd, FunD K D_law.name D_law.qual D_law.params D_law.body D_law.scope [] [] (D_law.loc K) fd
theorem fc_of {K : PySem.W.Frag} {h : Heap} {mg : Str → Option Value} (X : K.In h) (G : h.Ns mainGlobals mg) (c : SaysP fx fn K) : Fc K mg :=
  ⟨He.glo_ok X G (c.fact 0 (f := .old (.glo "_law_all_words"))),
   He.glo_ok X G (c.fact 1 (f := .old (.glo "_law_any_letters"))),
   He.glo_ok X G (c.fact 2 (f := .old (.glo "_law_blocks"))),
   He.glo_ok X G (c.fact 3 (f := .old (.glo "_law_cells"))),
   He.glo_ok X G (c.fact 4 (f := .old (.glo "_law_due"))),
   He.glo_ok X G (c.fact 5 (f := .old (.glo "_law_is_repeat"))),
   He.glo_ok X G (c.fact 6 (f := .old (.glo "_law_letters"))),
   He.glo_ok X G (c.fact 7 (f := .old (.glo "_law_of"))),
   He.glo_ok X G (c.fact 8 (f := .old (.glo "_law_pot"))),
   He.glo_ok X G (c.fact 9 (f := .old (.glo "_law_random"))),
   He.glo_ok X G (c.fact 10 (f := .old (.glo "_law_right"))),
   He.glo_ok X G (c.fact 11 (f := .old (.glo "_law_row"))),
   He.glo_ok X G (c.fact 12 (f := .old (.glo "_law_shortest"))),
   He.glo_ok X G (c.fact 13 (f := .old (.glo "_law_table"))),
   He.glo_ok X G (c.fact 14 (f := .old (.glo "_law_take"))),
   He.glo_ok X G (c.fact 15 (f := .old (.glo "all_spelled"))),
   He.glo_ok X G (c.fact 16 (f := .old (.glo "is_integer"))),
   He.glo_ok X G (c.fact 17 (f := .old (.glo "is_repeat"))),
   He.glo_ok X G (c.fact 18 (f := .old (.glo "is_tuple"))),
   He.glo_ok X G (c.fact 19 (f := .old (.glo "row_of"))),
   He.glo_ok X G (c.fact 20 (f := .old (.glo "told_back"))),
   He.glo_ok X G (c.fact 21 (f := .old (.glo "law"))),
   He.int_ok X G (c.fact 22 (f := .old (.int "MOST" 7))),
   He.str_ok X G (c.fact 23 (f := .old (.str "LETTERS" ⟨List.toArray [97, 98, 99, 100, 101, 102, 103, 104, 105, 106, 107, 108, 109, 110, 111, 112, 113, 114, 115, 116, 117, 118, 119, 120, 121, 122]⟩))),
   He.str_ok X G (c.fact 24 (f := .old (.str "NONE" ⟨List.toArray [110, 111, 110, 101]⟩))),
   He.str_ok X G (c.fact 25 (f := .old (.str "WORDS" ⟨List.toArray [119, 111, 114, 100, 115]⟩))),
   He.free_ok X G (c.fact 26 (f := .old (.free "abs"))),
   He.free_ok X G (c.fact 27 (f := .old (.free "all"))),
   He.free_ok X G (c.fact 28 (f := .old (.free "bool"))),
   He.free_ok X G (c.fact 29 (f := .old (.free "int"))),
   He.free_ok X G (c.fact 30 (f := .old (.free "isinstance"))),
   He.free_ok X G (c.fact 31 (f := .old (.free "len"))),
   He.free_ok X G (c.fact 32 (f := .old (.free "list"))),
   He.free_ok X G (c.fact 33 (f := .old (.free "max"))),
   He.free_ok X G (c.fact 34 (f := .old (.free "min"))),
   He.free_ok X G (c.fact 35 (f := .old (.free "range"))),
   He.free_ok X G (c.fact 36 (f := .old (.free "repr"))),
   He.free_ok X G (c.fact 37 (f := .old (.free "set"))),
   He.free_ok X G (c.fact 38 (f := .old (.free "tuple"))),
   sysd_ok (c.fact 39 (f := .sysd)),
   isT_ok (fun S hS => by simp only [List.mem_cons, List.mem_nil_iff, or_false] at hS; rcases hS with h | h | h | h | h | h | h <;> subst h; exact isi_ok (c.fact 40 (f := .isi (.type "NoneType") (.inr "bool") false)); exact isi_ok (c.fact 41 (f := .isi (.type "bool") (.inr "bool") true)); exact isi_ok (c.fact 42 (f := .isi (.type "int") (.inr "bool") false)); exact isi_ok (c.fact 43 (f := .isi (.type "str") (.inr "bool") false)); exact isi_ok (c.fact 44 (f := .isi (.type "list") (.inr "bool") false)); exact isi_ok (c.fact 45 (f := .isi (.type "tuple") (.inr "bool") false)); exact isi_ok (c.fact 46 (f := .isi (.type "dict") (.inr "bool") false))) (fun C hC => by cases hC),
   isT_ok (fun S hS => by simp only [List.mem_cons, List.mem_nil_iff, or_false] at hS; rcases hS with h | h | h | h | h | h | h <;> subst h; exact isi_ok (c.fact 47 (f := .isi (.type "NoneType") (.inr "int") false)); exact isi_ok (c.fact 48 (f := .isi (.type "bool") (.inr "int") true)); exact isi_ok (c.fact 49 (f := .isi (.type "int") (.inr "int") true)); exact isi_ok (c.fact 50 (f := .isi (.type "str") (.inr "int") false)); exact isi_ok (c.fact 51 (f := .isi (.type "list") (.inr "int") false)); exact isi_ok (c.fact 52 (f := .isi (.type "tuple") (.inr "int") false)); exact isi_ok (c.fact 53 (f := .isi (.type "dict") (.inr "int") false))) (fun C hC => by cases hC),
   isT_ok (fun S hS => by simp only [List.mem_cons, List.mem_nil_iff, or_false] at hS; rcases hS with h | h | h | h | h | h | h <;> subst h; exact isi_ok (c.fact 54 (f := .isi (.type "NoneType") (.inr "tuple") false)); exact isi_ok (c.fact 55 (f := .isi (.type "bool") (.inr "tuple") false)); exact isi_ok (c.fact 56 (f := .isi (.type "int") (.inr "tuple") false)); exact isi_ok (c.fact 57 (f := .isi (.type "str") (.inr "tuple") false)); exact isi_ok (c.fact 58 (f := .isi (.type "list") (.inr "tuple") false)); exact isi_ok (c.fact 59 (f := .isi (.type "tuple") (.inr "tuple") true)); exact isi_ok (c.fact 60 (f := .isi (.type "dict") (.inr "tuple") false))) (fun C hC => by cases hC),
   c.fn 0,
   c.fn 1,
   c.fn 2,
   c.fn 3,
   c.fn 4,
   c.fn 5,
   c.fn 6,
   c.fn 7,
   c.fn 8,
   c.fn 9,
   c.fn 10,
   c.fn 11,
   c.fn 12,
   c.fn 13,
   c.fn 14,
   c.fn 15,
   c.fn 16,
   c.fn 17,
   c.fn 18,
   c.fn 19,
   c.fn 20,
   c.fn 21⟩
section
variable {P : Program} {w : World} {K : PySem.W.Frag} {mg : Str → Option Value} {base : Heap}
abbrev N__law_cells : List Str := ["_law_script", "_law_limit"]
theorem sc__law_cells : FnScope N__law_cells ["_law_script", "_law_limit"] (defScope S__law_cells) := ⟨rfl, rfl, rfl, by decide +kernel, rfl, by decide +kernel, by decide +kernel⟩
theorem ok__law_cells (F : Fc K mg)   {sp : FD} (hs : ∀ ds n Q, sp ds n Q → dFn N__law_cells.length 2 (b__law_cells (He.ga K) ) ds n Q) : HasF false P w K mg base 1 (He.ga K "_law_cells") ["_law_script", "_law_limit"] [] sp :=
  has_f F.d__law_cells sc__law_cells (fun _ _ _ _ _ _ us hl => match us, hl with | [_, _], _ => rfl) (fun fd cdv A outer s H E hr => by
    have nd := sc__law_cells.nd
    exact (dss_one (ds_ret (de_lrg rfl rfl F.f_list (dr_1 rfl F.f_range (de_bi (call_maxA rfl) so_max rfl F.f_max bt_max (da_cons de_int (da_cons (de_bi (call_minA rfl) so_min rfl F.f_min bt_min (da_cons (de_var 1) (da_cons (de_bi call_lenA so_len rfl F.f_len bt_len (da_cons (de_var 0) da_nil)) da_nil))) da_nil)))))))) hs
abbrev N__law_pot : List Str := ["_law_script", "_law_place", "_law_cell", "_law_own", "_law_small"]
theorem sc__law_pot : FnScope N__law_pot ["_law_script", "_law_place"] (defScope S__law_pot) := ⟨rfl, rfl, rfl, by decide +kernel, rfl, by decide +kernel, by decide +kernel⟩
theorem ok__law_pot (F : Fc K mg)   {sp : FD} (hs : ∀ ds n Q, sp ds n Q → dFn N__law_pot.length 2 (b__law_pot (He.ga K) ) ds n Q) : HasF false P w K mg base 1 (He.ga K "_law_pot") ["_law_script", "_law_place"] [] sp :=
  has_f F.d__law_pot sc__law_pot (fun _ _ _ _ _ _ us hl => match us, hl with | [_, _], _ => rfl) (fun fd cdv A outer s H E hr => by
    have nd := sc__law_pot.nd
    exact (dss_cons (ds_set (i := 2) nd rfl (Or.inl rfl) (de_ite (dt_cmp op_lt so_lt (de_var 1) (de_bi call_lenA so_len rfl F.f_len bt_len (da_cons (de_var 0) da_nil))) (de_ix (de_var 0) (de_var 1)) (de_op op_addA so_add (de_op op_mulA so_mul de_int (de_var 1)) de_int)))
      (dss_cons (ds_set (i := 3) nd rfl (Or.inl rfl) (de_op op_mulA so_mul (de_op op_mod so_mod (de_ty call_intA so_int rfl F.f_int bt_int (da_cons (de_bi call_abs so_abs rfl F.f_abs bt_abs (da_cons (de_var 2) da_nil)) da_nil)) (de_op op_powW so_pow (de_op op_powW so_pow de_int de_int) de_int)) (de_ty call_intA so_int rfl F.f_int bt_int (da_cons (de_cmp op_ge so_ge (de_bi call_abs so_abs rfl F.f_abs bt_abs (da_cons (de_var 2) da_nil)) (de_op op_powW so_pow de_int de_int)) da_nil))))
      (dss_cons (ds_set (i := 4) nd rfl (Or.inl rfl) (de_op op_mod so_mod (de_ty call_intA so_int rfl F.f_int bt_int (da_cons (de_var 2) da_nil)) de_int))
      (dss_one (ds_retPot (do_lst (da_cons (de_var 3) (da_cons (de_op op_mod so_mod (de_ty call_intA so_int rfl F.f_int bt_int (da_cons (de_op op_addA so_add (de_op op_addA so_add (de_op op_mulA so_mul (de_var 4) de_int) (de_op op_mulA so_mul (de_op op_mulA so_mul de_int (de_var 1)) (de_var 1))) de_int) da_nil)) de_int) (da_cons de_int da_nil)))))))))) hs
abbrev N__law_take : List Str := ["_law_pot_here", "_law_upto", "_law_digit", "_law_prime", "_law_mixed"]
theorem sc__law_take : FnScope N__law_take ["_law_pot_here", "_law_upto"] (defScope S__law_take) := ⟨rfl, rfl, rfl, by decide +kernel, rfl, by decide +kernel, by decide +kernel⟩
theorem ok__law_take (F : Fc K mg) : HasF false P w K mg base 1 (He.ga K "_law_take") ["_law_pot_here", "_law_upto"] [] takeF :=
  has_take F.d__law_take sc__law_take rfl rfl (fun _ _ _ _ _ _ us hl => match us, hl with | [_, _], _ => rfl) fun fd cdv A outer s H E hr => by
    have nd := sc__law_take.nd
    exact (pss_cons (ps_if (pt_cmpR op_gt (pe_ix ix_seq (pv 0) pe_int (by intro _ _; rfl)) pe_int (nomark _))
      (pss_cons (ps_set (i := 2) nd rfl (Or.inl rfl) (pe_op op_mod (pe_callTy call_int1 rfl F.f_int bt_int (pa_cons (pe_ix ix_seq (pv 0) pe_int (by intro _ _; rfl)) pa_nil)) (pv 1)))
      (pss_cons (ps_asg (pe_op op_fdivW (pe_ix ix_seq (pv 0) pe_int (by intro _ _; rfl)) (pv 1)) (pg_sub (pv 0) pe_int set_list)) (pss_one (ps_ret (pv 2))))) pss_nil)
    (pss_cons (ps_asg (pe_op op_add (pe_ix ix_seq (pv 0) pe_int (by intro _ _; rfl)) pe_int) (pg_sub (pv 0) pe_int set_list))
    (pss_cons (ps_set (i := 3) nd rfl (Or.inl rfl) (pe_ix ix_seq (pe_lst (pa_cons pe_int (pa_cons pe_int (pa_cons pe_int (pa_cons pe_int (pa_cons pe_int pa_nil)))))) (pe_op op_mod (pe_callTy call_int1 rfl F.f_int bt_int (pa_cons (pe_ix ix_seq (pv 0) pe_int (by intro _ _; rfl)) pa_nil)) pe_int) (by intro _ _; rfl)))
    (pss_cons (ps_set (i := 4) nd rfl (Or.inl rfl) (pe_op op_mod (pe_callTy call_int1 rfl F.f_int bt_int (pa_cons (pe_op op_powW (pe_callTy call_int1 rfl F.f_int bt_int (pa_cons (pe_op op_add (pe_op op_add (pe_ix ix_seq (pv 0) pe_int (by intro _ _; rfl)) (pe_op op_mulW (pe_op op_mulW pe_int (pe_ix ix_seq (pv 0) pe_int (by intro _ _; rfl))) (pe_ix ix_seq (pv 0) pe_int (by intro _ _; rfl)))) pe_int) pa_nil)) pe_int) pa_nil)) (pv 3)))
    (pss_cons (ps_set (i := 4) nd rfl (Or.inl rfl) (pe_op op_mod (pe_callTy call_int1 rfl F.f_int bt_int (pa_cons (pe_op op_mulW (pv 4) (pe_op op_add (pe_op op_mod (pe_callTy call_int1 rfl F.f_int bt_int (pa_cons (pv 4) pa_nil)) pe_int) (pe_op op_mulW pe_int (pe_ix ix_seq (pv 0) pe_int (by intro _ _; rfl))))) pa_nil)) pe_int))
    (pss_one (ps_ret (pe_op op_mod (pe_callTy call_int1 rfl F.f_int bt_int (pa_cons (pe_op op_fdivW (pv 4) pe_int) pa_nil)) (pv 1)))))))))
abbrev N__law_of : List Str := ["_law_pot_here", "_law_some"]
theorem sc__law_of : FnScope N__law_of ["_law_pot_here", "_law_some"] (defScope S__law_of) := ⟨rfl, rfl, rfl, by decide +kernel, rfl, by decide +kernel, by decide +kernel⟩
theorem ok__law_of (F : Fc K mg) {s__law_take : FD} (G__law_take : HasF false P w K mg base 1 (He.ga K "_law_take") ["_law_pot_here", "_law_upto"] [] s__law_take) {sp : FD} (hs : ∀ ds n Q, sp ds n Q → dFn N__law_of.length 2 (b__law_of (He.ga K) s__law_take) ds n Q) : HasF false P w K mg base 2 (He.ga K "_law_of") ["_law_pot_here", "_law_some"] [] sp :=
  has_f F.d__law_of sc__law_of (fun _ _ _ _ _ _ us hl => match us, hl with | [_, _], _ => rfl) (fun fd cdv A outer s H E hr => by
    have nd := sc__law_of.nd
    exact (dss_one (ds_ret (de_ix (de_var 1) (de_callF G__law_take (hr.mono (by decide)) rfl F.g__law_take (da_cons (de_var 0) (da_cons (de_bi call_lenA so_len rfl F.f_len bt_len (da_cons (de_var 1) da_nil)) da_nil))))))) hs
abbrev N__law_random : List Str := ["_law_pot_here", "_law_pool", "_law_size", "_law_lap"]
theorem sc__law_random : FnScope N__law_random ["_law_pot_here", "_law_pool", "_law_size"] (defScope S__law_random) := ⟨rfl, rfl, rfl, by decide +kernel, rfl, by decide +kernel, by decide +kernel⟩
theorem ok__law_random (F : Fc K mg) {s__law_of : FD} (G__law_of : HasF false P w K mg base 2 (He.ga K "_law_of") ["_law_pot_here", "_law_some"] [] s__law_of) {sp : FD} (hs : ∀ ds n Q, sp ds n Q → dFn N__law_random.length 3 (b__law_random (He.ga K) s__law_of) ds n Q) : HasF false P w K mg base 3 (He.ga K "_law_random") ["_law_pot_here", "_law_pool", "_law_size"] [] sp :=
  has_f F.d__law_random sc__law_random (fun _ _ _ _ _ _ us hl => match us, hl with | [_, _, _], _ => rfl) (fun fd cdv A outer s H E hr => by
    have nd := sc__law_random.nd
    exact (dss_one (ds_ret (de_join (de_str []) (de_own (do_comp rfl nd (di_rg1 rfl F.f_range (de_var 2)) (blk (N := N__law_random) (sc := defScope S__law_random) (own := [("_law_lap", 3)]) (by decide +kernel)) (by decide) (fun _ _ _ _ _ => (dg_nm (i := 3) nd rfl (Or.inl rfl))) (fun _ _ _ _ _ => dts_nil) (fun _ _ _ _ _ => (de_callF G__law_of (hr.mono (by decide)) rfl F.g__law_of (da_cons (de_var 0) (da_cons (de_var 1) da_nil)))))))))) hs
abbrev N__law_any_letters : List Str := ["_law_pot_here", "_law_few", "_law_most", "_law_size", "_law_way", "_law_pool", "_law_piece", "_law_whole", "_law_first", "_law_second", "_law_lap"]
theorem sc__law_any_letters : FnScope N__law_any_letters ["_law_pot_here", "_law_few", "_law_most"] (defScope S__law_any_letters) := ⟨rfl, rfl, rfl, by decide +kernel, rfl, by decide +kernel, by decide +kernel⟩
theorem ok__law_any_letters (F : Fc K mg) {s__law_take : FD} {s__law_of : FD} {s__law_random : FD} (G__law_take : HasF false P w K mg base 1 (He.ga K "_law_take") ["_law_pot_here", "_law_upto"] [] s__law_take) (G__law_of : HasF false P w K mg base 2 (He.ga K "_law_of") ["_law_pot_here", "_law_some"] [] s__law_of) (G__law_random : HasF false P w K mg base 3 (He.ga K "_law_random") ["_law_pot_here", "_law_pool", "_law_size"] [] s__law_random) {sp : FD} (hs : ∀ ds n Q, sp ds n Q → dFn N__law_any_letters.length 3 (b__law_any_letters (He.ga K) s__law_take s__law_of s__law_random) ds n Q) : HasF false P w K mg base 4 (He.ga K "_law_any_letters") ["_law_pot_here", "_law_few", "_law_most"] [] sp :=
  has_f F.d__law_any_letters sc__law_any_letters (fun _ _ _ _ _ _ us hl => match us, hl with | [_, _, _], _ => rfl) (fun fd cdv A outer s H E hr => by
    have nd := sc__law_any_letters.nd
    exact (dss_cons (ds_par (i := 3) (j := 4) rfl nd rfl rfl (by decide) rfl rfl (db_cons (de_op op_addA so_add (de_var 1) (de_callF G__law_take (hr.mono (by decide)) rfl F.g__law_take (da_cons (de_var 0) (da_cons (de_op op_addA so_add (de_op op_sub so_sub (de_var 2) (de_var 1)) de_int) da_nil)))) (db_cons (de_callF G__law_take (hr.mono (by decide)) rfl F.g__law_take (da_cons (de_var 0) (da_cons de_int da_nil))) db_nil)))
      (dss_cons (ds_set (i := 5) nd rfl (Or.inl rfl) (de_callF G__law_of (hr.mono (by decide)) rfl F.g__law_of (da_cons (de_var 0) (da_cons (de_lst (da_cons (de_str [97, 98]) (da_cons (de_str [97, 98]) (da_cons (de_str [97, 98, 99]) (da_cons (de_str [97]) (da_cons (de_str [120, 121, 122]) (da_cons (de_str [113, 97, 98]) (da_cons (de_str [97, 98, 99, 120, 121]) (da_cons (de_str [97, 98, 99, 113, 120, 121, 122]) da_nil))))))))) da_nil))))
      (dss_cons (ds_if (dt_cmp op_lt so_lt (de_var 4) de_int) (dss_one (ds_ret (de_callF G__law_random (hr.mono (by decide)) rfl F.g__law_random (da_cons (de_var 0) (da_cons (de_var 5) (da_cons (de_var 3) da_nil)))))) dss_nil)
      (dss_cons (ds_set (i := 6) nd rfl (Or.inl rfl) (de_callF G__law_random (hr.mono (by decide)) rfl F.g__law_random (da_cons (de_var 0) (da_cons (de_var 5) (da_cons (de_op op_addA so_add de_int (de_callF G__law_take (hr.mono (by decide)) rfl F.g__law_take (da_cons (de_var 0) (da_cons (de_bi (call_maxA rfl) so_max rfl F.f_max bt_max (da_cons de_int (da_cons (de_op op_sub so_sub (de_var 3) de_int) da_nil))) da_nil)))) da_nil)))))
      (dss_cons (ds_if (dt_cmp op_lt so_lt (de_var 4) de_int) (dss_cons (ds_set (i := 7) nd rfl (Or.inl rfl) (de_op op_addA so_add (de_callF G__law_random (hr.mono (by decide)) rfl F.g__law_random (da_cons (de_var 0) (da_cons (de_var 5) (da_cons (de_callF G__law_take (hr.mono (by decide)) rfl F.g__law_take (da_cons (de_var 0) (da_cons de_int da_nil))) da_nil)))) (de_op op_mulA so_mul (de_var 6) (de_var 3))))
      (dss_one (ds_ret (de_sl (de_var 7) dp_no (dp_some (de_var 3)))))) dss_nil)
      (dss_cons (ds_if (dt_cmp (op_eqA hr.units) so_eq (de_var 4) de_int) (dss_one (ds_ret (de_sl (de_op op_addA so_add (de_var 6) (de_op op_mulA so_mul (de_rev (de_var 6)) (de_var 3))) dp_no (dp_some (de_var 3))))) dss_nil)
      (dss_cons (ds_par (i := 8) (j := 9) rfl nd rfl rfl (by decide) rfl rfl (db_cons (de_ix (de_var 5) de_int) (db_cons (de_sl (de_var 5) dp_no (dp_some de_int)) db_nil)))
      (dss_cons (ds_for PassesOwn.never rfl (di_rg1 rfl F.f_range (de_var 3)) (dg_nm (i := 10) nd rfl (Or.inl rfl)) (dss_cons (ds_par (i := 8) (j := 9) rfl nd rfl rfl (by decide) rfl rfl (db_cons (de_var 9) (db_cons (de_op op_addA so_add (de_var 9) (de_var 8)) db_nil)))
      (dss_one (ds_if (dt_cmp op_gt so_gt (de_bi call_lenA so_len rfl F.f_len bt_len (da_cons (de_var 9) da_nil)) (de_var 3)) (dss_one ds_break) dss_nil))))
      (dss_one (ds_ret (de_sl (de_op op_addA so_add (de_var 9) (de_op op_mulA so_mul (de_var 8) (de_var 3))) dp_no (dp_some (de_var 3)))))))))))))) hs
abbrev N__law_blocks : List Str := ["_law_letters_here", "_law_found", "_law_letter"]
theorem sc__law_blocks : FnScope N__law_blocks ["_law_letters_here"] (defScope S__law_blocks) := ⟨rfl, rfl, rfl, by decide +kernel, rfl, by decide +kernel, by decide +kernel⟩
theorem ok__law_blocks (F : Fc K mg)   {sp : FD} (hs : ∀ ds n Q, sp ds n Q → dFn N__law_blocks.length 1 (b__law_blocks (He.ga K) ) ds n Q) : HasF false P w K mg base 1 (He.ga K "_law_blocks") ["_law_letters_here"] [] sp :=
  has_f F.d__law_blocks sc__law_blocks (fun _ _ _ _ _ _ us hl => match us, hl with | [_], _ => rfl) (fun fd cdv A outer s H E hr => by
    have nd := sc__law_blocks.nd
    exact (dss_cons (ds_setO (i := 1) nd rfl (Or.inl rfl) (do_lst da_nil))
      (dss_cons (ds_for PassesOwn.never rfl (di_val (de_var 0)) (dg_nm (i := 2) nd rfl (Or.inl rfl)) (dss_one (ds_if (dt_w (dw_and (dt_tmp 1 (dt_cmp (op_neA hr.units) so_ne (de_var 1) (de_lst da_nil))) (dw_and1 (dt_cmp (op_eqA hr.units) so_eq (de_ix (de_ixO (pv 1) (de_neg de_int)) de_int) (de_var 2))))) (dss_one (ds_setI (pv 1) (de_neg de_int) (de_tup (da_cons (de_var 2) (da_cons (de_op op_addA so_add (de_ix (de_ixO (pv 1) (de_neg de_int)) de_int) de_int) da_nil))))) (dss_one (ds_app (pv 1) (de_tup (da_cons (de_var 2) (da_cons de_int da_nil))))))))
      (dss_frz [1] (dss_one (ds_ret (de_var 1))))))) hs
abbrev N__law_letters : List Str := ["_law_pot_here", "_law_few", "_law_most", "_law_blocks_here", "_law_letter", "_law_number"]
theorem sc__law_letters : FnScope N__law_letters ["_law_pot_here", "_law_few", "_law_most"] (defScope S__law_letters) := ⟨rfl, rfl, rfl, by decide +kernel, rfl, by decide +kernel, by decide +kernel⟩
theorem ok__law_letters (F : Fc K mg) {s__law_any_letters : FD} {s__law_blocks : FD} (G__law_any_letters : HasF false P w K mg base 4 (He.ga K "_law_any_letters") ["_law_pot_here", "_law_few", "_law_most"] [] s__law_any_letters) (G__law_blocks : HasF false P w K mg base 1 (He.ga K "_law_blocks") ["_law_letters_here"] [] s__law_blocks) {sp : FD} (hs : ∀ ds n Q, sp ds n Q → dFn N__law_letters.length 3 (b__law_letters (He.ga K) s__law_any_letters s__law_blocks) ds n Q) : HasF false P w K mg base 5 (He.ga K "_law_letters") ["_law_pot_here", "_law_few", "_law_most"] [] sp :=
  has_f F.d__law_letters sc__law_letters (fun _ _ _ _ _ _ us hl => match us, hl with | [_, _, _], _ => rfl) (fun fd cdv A outer s H E hr => by
    have nd := sc__law_letters.nd
    exact (dss_cons (ds_set (i := 3) nd rfl (Or.inl rfl) (de_callF G__law_blocks (hr.mono (by decide)) rfl F.g__law_blocks (da_cons (de_callF G__law_any_letters (hr.mono (by decide)) rfl F.g__law_any_letters (da_cons (de_var 0) (da_cons (de_var 1) (da_cons (de_var 2) da_nil)))) da_nil)))
      (dss_one (ds_ret (de_join (de_str []) (de_own (do_comp rfl nd (di_val (de_sl (de_var 3) dp_no (dp_some de_int))) (blk (N := N__law_letters) (sc := defScope S__law_letters) (own := [("_law_letter", 4), ("_law_number", 5)]) (by decide +kernel)) (by decide) (fun _ _ _ _ _ => (dg_tup rfl (gs_cons (dg_nm (i := 4) nd rfl (Or.inl rfl)) (gs_cons (dg_nm (i := 5) nd rfl (Or.inl rfl)) gs_nil)))) (fun _ _ _ _ _ => dts_nil) (fun _ _ _ _ _ => (de_op op_mulA so_mul (de_var 4) (de_var 5)))))))))) hs
abbrev N__law_is_repeat : List Str := ["_law_letters_here", "_law_cut", "_law_number", "_law_spots", "_law_spot"]
theorem sc__law_is_repeat : FnScope N__law_is_repeat ["_law_letters_here", "_law_cut", "_law_number"] (defScope S__law_is_repeat) := ⟨rfl, rfl, rfl, by decide +kernel, rfl, by decide +kernel, by decide +kernel⟩
theorem ok__law_is_repeat (F : Fc K mg)   {sp : FD} (hs : ∀ ds n Q, sp ds n Q → dFn N__law_is_repeat.length 3 (b__law_is_repeat (He.ga K) ) ds n Q) : HasF false P w K mg base 1 (He.ga K "_law_is_repeat") ["_law_letters_here", "_law_cut", "_law_number"] [] sp :=
  has_f F.d__law_is_repeat sc__law_is_repeat (fun _ _ _ _ _ _ us hl => match us, hl with | [_, _, _], _ => rfl) (fun fd cdv A outer s H E hr => by
    have nd := sc__law_is_repeat.nd
    exact (dss_cons (ds_setComp (ps_setComp (i := 3) rfl nd rfl rfl (sw_true rfl rfl rfl (by decide +kernel)) (di_rg2 rfl F.f_range (de_bi (call_maxA rfl) so_max rfl F.f_max bt_max (da_cons de_int (da_cons (de_op op_sub so_sub (de_var 1) (de_var 2)) da_nil))) (de_var 1)) (blk (N := N__law_is_repeat) (sc := defScope S__law_is_repeat) (own := [("_law_spot", 4)]) (by decide +kernel)) (by decide) (fun _ _ _ _ _ => (dg_nm (i := 4) nd rfl (Or.inl rfl))) (fun _ _ _ _ _ => (dts_one (dt_cmp op_lt so_lt (de_op op_addA so_add (de_var 4) (de_var 2)) (de_bi call_lenA so_len rfl F.f_len bt_len (da_cons (de_var 0) da_nil))))) (fun _ _ _ _ _ => (de_var 4))))
      (dss_one (ds_ret (de_bi (cr_all rfl) so_all rfl F.f_all bt_all (da_cons (de_own (do_comp rfl nd (di_val (de_var 3)) (blk (N := N__law_is_repeat) (sc := defScope S__law_is_repeat) (own := [("_law_spot", 4)]) (by decide +kernel)) (by decide) (fun _ _ _ _ _ => (dg_nm (i := 4) nd rfl (Or.inl rfl))) (fun _ _ _ _ _ => dts_nil) (fun _ _ _ _ _ => (de_cmp (op_eqA hr.units) so_eq (de_ix (de_var 0) (de_var 4)) (de_ix (de_var 0) (de_op op_addA so_add (de_var 4) (de_var 2))))))) da_nil)))))) hs
abbrev N__law_shortest : List Str := ["_law_letters_here", "_law_cut", "_law_number"]
theorem sc__law_shortest : FnScope N__law_shortest ["_law_letters_here", "_law_cut"] (defScope S__law_shortest) := ⟨rfl, rfl, rfl, by decide +kernel, rfl, by decide +kernel, by decide +kernel⟩
theorem ok__law_shortest (F : Fc K mg) {s__law_is_repeat : FD} (G__law_is_repeat : HasF false P w K mg base 1 (He.ga K "_law_is_repeat") ["_law_letters_here", "_law_cut", "_law_number"] [] s__law_is_repeat) {sp : FD} (hs : ∀ ds n Q, sp ds n Q → dFn N__law_shortest.length 2 (b__law_shortest (He.ga K) s__law_is_repeat) ds n Q) : HasF false P w K mg base 2 (He.ga K "_law_shortest") ["_law_letters_here", "_law_cut"] [] sp :=
  has_f F.d__law_shortest sc__law_shortest (fun _ _ _ _ _ _ us hl => match us, hl with | [_, _], _ => rfl) (fun fd cdv A outer s H E hr => by
    have nd := sc__law_shortest.nd
    exact (dss_one (ds_ret (de_ix (de_own (do_comp rfl nd (di_rg2 rfl F.f_range de_int (de_op op_addA so_add (de_bi call_lenA so_len rfl F.f_len bt_len (da_cons (de_var 0) da_nil)) de_int)) (blk (N := N__law_shortest) (sc := defScope S__law_shortest) (own := [("_law_number", 2)]) (by decide +kernel)) (by decide) (fun _ _ _ _ _ => (dg_nm (i := 2) nd rfl (Or.inl rfl))) (fun _ _ _ _ _ => (dts_one (dt_val (de_callF G__law_is_repeat (hr.mono (by decide)) rfl F.g__law_is_repeat (da_cons (de_var 0) (da_cons (de_var 1) (da_cons (de_var 2) da_nil))))))) (fun _ _ _ _ _ => (de_var 2)))) de_int)))) hs
abbrev N__law_row : List Str := ["_law_letters_here", "_law_cut"]
theorem sc__law_row : FnScope N__law_row ["_law_letters_here"] (defScope S__law_row) := ⟨rfl, rfl, rfl, by decide +kernel, rfl, by decide +kernel, by decide +kernel⟩
theorem ok__law_row (F : Fc K mg) {s__law_shortest : FD} (G__law_shortest : HasF false P w K mg base 2 (He.ga K "_law_shortest") ["_law_letters_here", "_law_cut"] [] s__law_shortest) {sp : FD} (hs : ∀ ds n Q, sp ds n Q → dFn N__law_row.length 1 (b__law_row (He.ga K) s__law_shortest) ds n Q) : HasF false P w K mg base 3 (He.ga K "_law_row") ["_law_letters_here"] [] sp :=
  has_f F.d__law_row sc__law_row (fun _ _ _ _ _ _ us hl => match us, hl with | [_], _ => rfl) (fun fd cdv A outer s H E hr => by
    have nd := sc__law_row.nd
    exact (dss_one (ds_ret (de_own (do_comp rfl nd (di_rg1 rfl F.f_range (de_bi call_lenA so_len rfl F.f_len bt_len (da_cons (de_var 0) da_nil))) (blk (N := N__law_row) (sc := defScope S__law_row) (own := [("_law_cut", 1)]) (by decide +kernel)) (by decide) (fun _ _ _ _ _ => (dg_nm (i := 1) nd rfl (Or.inl rfl))) (fun _ _ _ _ _ => dts_nil) (fun _ _ _ _ _ => (de_callF G__law_shortest (hr.mono (by decide)) rfl F.g__law_shortest (da_cons (de_var 0) (da_cons (de_var 1) da_nil))))))))) hs
abbrev N__law_all_words : List Str := ["_law_size", "_law_found", "_law_lap", "_law_longer", "_law_word", "_law_many", "_law_letter"]
theorem sc__law_all_words : FnScope N__law_all_words ["_law_size"] (defScope S__law_all_words) := ⟨rfl, rfl, rfl, by decide +kernel, rfl, by decide +kernel, by decide +kernel⟩
theorem ok__law_all_words (F : Fc K mg)   {sp : FD} (hs : ∀ ds n Q, sp ds n Q → dFn N__law_all_words.length 1 (b__law_all_words (He.ga K) ) ds n Q) : HasF false P w K mg base 1 (He.ga K "_law_all_words") ["_law_size"] [] sp :=
  has_f F.d__law_all_words sc__law_all_words (fun _ _ _ _ _ _ us hl => match us, hl with | [_], _ => rfl) (fun fd cdv A outer s H E hr => by
    have nd := sc__law_all_words.nd
    exact (dss_cons (ds_set (i := 1) nd rfl (Or.inl rfl) (de_lst (da_cons (de_str [97]) da_nil)))
      (dss_cons (ds_for PassesOwn.never rfl (di_rg1 rfl F.f_range (de_op op_sub so_sub (de_var 0) de_int)) (dg_nm (i := 2) nd rfl (Or.inl rfl)) (dss_cons (ds_setO (i := 3) nd rfl (Or.inl rfl) (do_lst da_nil))
      (dss_cons (ds_for PassesOwn.never rfl (di_val (de_var 1)) (dg_nm (i := 4) nd rfl (Or.inr rfl)) (dss_cons (ds_set (i := 5) nd rfl (Or.inl rfl) (de_lenSetT rfl rfl F.f_len rfl F.f_set (de_var 4)))
      (dss_one (ds_ext (pv 3) (de_own (do_comp rfl nd (di_val (de_sl (de_str [97, 98, 99, 100, 101, 102, 103, 104]) dp_no (dp_some (de_op op_addA so_add (de_var 5) de_int)))) (blk (N := N__law_all_words) (sc := defScope S__law_all_words) (own := [("_law_letter", 6)]) (by decide +kernel)) (by decide) (fun _ _ _ _ _ => (dg_nm (i := 6) nd rfl (Or.inl rfl))) (fun _ _ _ _ _ => dts_nil) (fun _ _ _ _ _ => (de_op op_addA so_add (de_var 4) (de_var 6)))))))))
      (dss_frz [3] (dss_one (ds_set (i := 1) nd rfl (Or.inl rfl) (de_var 3)))))))
      (dss_one (ds_ret (de_var 1)))))) hs
abbrev N__law_table : List Str := ["_law_size", "_law_found", "_law_word", "_law_key"]
theorem sc__law_table : FnScope N__law_table ["_law_size"] (defScope S__law_table) := ⟨rfl, rfl, rfl, by decide +kernel, rfl, by decide +kernel, by decide +kernel⟩
theorem ok__law_table (F : Fc K mg) {s__law_all_words : FD} {s__law_row : FD} (G__law_all_words : HasF true P w K mg base 1 (He.ga K "_law_all_words") ["_law_size"] [] s__law_all_words) (G__law_row : HasF true P w K mg base 3 (He.ga K "_law_row") ["_law_letters_here"] [] s__law_row) {sp : FD} (hs : ∀ ds n Q, sp ds n Q → dFn N__law_table.length 1 (b__law_table (He.ga K) s__law_all_words s__law_row) ds n Q) : HasF true P w K mg base 4 (He.ga K "_law_table") ["_law_size"] [] sp :=
  has_f F.d__law_table sc__law_table (fun _ _ _ _ _ _ us hl => match us, hl with | [_], _ => rfl) (fun fd cdv A outer s H E hr => by
    have nd := sc__law_table.nd
    exact (dss_cons (ds_set (i := 1) nd rfl (Or.inl rfl) de_newT)
      (dss_cons (ds_for PassesOwn.never rfl (di_val (de_callF G__law_all_words (hr.mono (by decide)) rfl F.g__law_all_words (da_cons (de_var 0) da_nil))) (dg_nm (i := 2) nd rfl (Or.inl rfl)) (dss_keyed 3 1 hr nd rfl (Or.inl rfl) rfl (ek_tuple rfl rfl F.f_tuple (de_callF G__law_row (hr.mono (by decide)) rfl F.g__law_row (da_cons (de_var 2) da_nil))) (de_lst (da_cons (de_var 2) da_nil))
      dss_nil))
      (dss_one (ds_ret (de_var 1)))))) hs
abbrev N_is_tuple : List Str := ["value", "low", "high"]
theorem sc_is_tuple : FnScope N_is_tuple ["value", "low", "high"] (defScope S_is_tuple) := ⟨rfl, rfl, rfl, by decide +kernel, rfl, by decide +kernel, by decide +kernel⟩
theorem ok_is_tuple (F : Fc K mg)   {sp : FD} (hs : ∀ ds n Q, sp ds n Q → dFn N_is_tuple.length 3 (b_is_tuple_v3 (He.ga K) ) ds n Q) : HasF false P w K mg base 1 (He.ga K "is_tuple") ["value", "low", "high"] [] sp :=
  has_fD F.d_is_tuple sc_is_tuple 3 1 (by simp [Pd.PDef.dvs, D_is_tuple]) rfl (fun _ _ _ _ _ _ _ us its hl hi => match us, its, hl, hi with | [_, _, _], [_], _, _ => ⟨_, rfl, rfl⟩) (fun _ => .nil) (fun fd cdv A outer s H E hr => by
    have nd := sc_is_tuple.nd
    exact (dss_one (ds_ret (de_and (de_isi F.is_tuple rfl F.f_isinstance (de_var 0) (pe_tyN rfl F.f_tuple bt_tuple)) (de_and (de_cmp op_le so_le (de_var 1) (de_bi call_lenA so_len rfl F.f_len bt_len (da_cons (de_var 0) da_nil))) (de_one (de_or (de_cmp op_isN so_is (de_var 2) de_non) (de_one (de_cmp op_le so_le (de_bi call_lenA so_len rfl F.f_len bt_len (da_cons (de_var 0) da_nil)) (de_var 2)))))))))) hs
abbrev N_is_integer : List Str := ["value", "low", "high"]
theorem sc_is_integer : FnScope N_is_integer ["value", "low", "high"] (defScope S_is_integer) := ⟨rfl, rfl, rfl, by decide +kernel, rfl, by decide +kernel, by decide +kernel⟩
theorem ok_is_integer (F : Fc K mg)   {sp : FD} (hs : ∀ ds n Q, sp ds n Q → dFn N_is_integer.length 3 (b_is_integer_v3 (He.ga K) ) ds n Q) : HasF false P w K mg base 1 (He.ga K "is_integer") ["value", "low", "high"] [] sp :=
  has_fD F.d_is_integer sc_is_integer 3 1 (by simp [Pd.PDef.dvs, D_is_integer]) rfl (fun _ _ _ _ _ _ _ us its hl hi => match us, its, hl, hi with | [_, _, _], [_], _, _ => ⟨_, rfl, rfl⟩) (fun _ => .nil) (fun fd cdv A outer s H E hr => by
    have nd := sc_is_integer.nd
    exact (dss_cons (ds_if (dt_w (dw_or (dt_not (dt_val (de_isi F.is_int rfl F.f_isinstance (de_var 0) (pe_tyN rfl F.f_int bt_int)))) (dw_or1 (dt_val (de_isi F.is_bool rfl F.f_isinstance (de_var 0) (pe_tyN rfl F.f_bool bt_bool)))))) (dss_one (ds_ret de_bl)) dss_nil)
      (dss_one (ds_ret (de_and (de_cmp op_le so_le (de_var 1) (de_var 0)) (de_one (de_or (de_cmp op_isN so_is (de_var 2) de_non) (de_one (de_cmp op_le so_le (de_var 0) (de_var 2)))))))))) hs
abbrev N_all_spelled : List Str := ["many", "found", "lap", "ahead", "sign"]
theorem sc_all_spelled : FnScope N_all_spelled ["many"] (defScope S_all_spelled) := ⟨rfl, rfl, rfl, by decide +kernel, rfl, by decide +kernel, by decide +kernel⟩
theorem ok_all_spelled (F : Fc K mg)   {sp : FD} (hs : ∀ ds n Q, sp ds n Q → dFn N_all_spelled.length 1 (b_all_spelled (He.ga K) ) ds n Q) : HasF false P w K mg base 1 (He.ga K "all_spelled") ["many"] [] sp :=
  has_f F.d_all_spelled sc_all_spelled (fun _ _ _ _ _ _ us hl => match us, hl with | [_], _ => rfl) (fun fd cdv A outer s H E hr => by
    have nd := sc_all_spelled.nd
    exact (dss_cons (ds_set (i := 1) nd rfl (Or.inl rfl) (de_lst (da_cons (de_str []) da_nil)))
      (dss_cons (ds_for PassesOwn.never rfl (di_rg1 rfl F.f_range (de_var 0)) (dg_nm (i := 2) nd rfl (Or.inl rfl)) (dss_one (ds_setComp (ps_setComp2 (i := 1) rfl nd rfl rfl (sw_true rfl rfl rfl (by decide +kernel)) (di_val (de_var 1)) (blk (N := N_all_spelled) (sc := defScope S_all_spelled) (own := [("ahead", 3), ("sign", 4)]) (by decide +kernel)) (by decide) (vs1 := [4]) (by decide) (by decide) (fun _ _ _ _ _ => (dg_nm (i := 3) nd rfl (Or.inl rfl))) (fun _ _ _ _ _ => (di_val (de_sl (de_gstr [97, 98, 99, 100, 101, 102, 103, 104, 105, 106, 107, 108, 109, 110, 111, 112, 113, 114, 115, 116, 117, 118, 119, 120, 121, 122] rfl F.s_LETTERS) dp_no (dp_some (de_op op_addA so_add (de_lenSetT rfl rfl F.f_len rfl F.f_set (de_var 3)) de_int))))) (fun _ _ _ _ _ => (dg_nm (i := 4) nd rfl (Or.inl rfl))) (fun _ _ _ _ _ => (de_op op_addA so_add (de_var 3) (de_var 4)))))))
      (dss_one (ds_ret (de_var 1)))))) hs
abbrev N_is_repeat : List Str := ["letters", "cut", "many", "first", "last", "spot"]
theorem sc_is_repeat : FnScope N_is_repeat ["letters", "cut", "many"] (defScope S_is_repeat) := ⟨rfl, rfl, rfl, by decide +kernel, rfl, by decide +kernel, by decide +kernel⟩
theorem ok_is_repeat (F : Fc K mg)   {sp : FD} (hs : ∀ ds n Q, sp ds n Q → dFn N_is_repeat.length 3 (b_is_repeat_v3 (He.ga K) ) ds n Q) : HasF false P w K mg base 1 (He.ga K "is_repeat") ["letters", "cut", "many"] [] sp :=
  has_f F.d_is_repeat sc_is_repeat (fun _ _ _ _ _ _ us hl => match us, hl with | [_, _, _], _ => rfl) (fun fd cdv A outer s H E hr => by
    have nd := sc_is_repeat.nd
    exact (dss_cons (ds_par (i := 3) (j := 4) rfl nd rfl rfl (by decide) rfl rfl (db_cons (de_bi (call_maxA rfl) so_max rfl F.f_max bt_max (da_cons de_int (da_cons (de_op op_sub so_sub (de_var 1) (de_var 2)) da_nil))) (db_cons (de_bi (call_minA rfl) so_min rfl F.f_min bt_min (da_cons (de_var 1) (da_cons (de_op op_sub so_sub (de_bi call_lenA so_len rfl F.f_len bt_len (da_cons (de_var 0) da_nil)) (de_var 2)) da_nil))) db_nil)))
      (dss_one (ds_ret (de_bi (cr_all rfl) so_all rfl F.f_all bt_all (da_cons (de_own (do_comp rfl nd (di_rg2 rfl F.f_range (de_var 3) (de_var 4)) (blk (N := N_is_repeat) (sc := defScope S_is_repeat) (own := [("spot", 5)]) (by decide +kernel)) (by decide) (fun _ _ _ _ _ => (dg_nm (i := 5) nd rfl (Or.inl rfl))) (fun _ _ _ _ _ => dts_nil) (fun _ _ _ _ _ => (de_cmp (op_eqA hr.units) so_eq (de_ix (de_var 0) (de_var 5)) (de_ix (de_var 0) (de_op op_addA so_add (de_var 5) (de_var 2))))))) da_nil)))))) hs
abbrev N_row_of : List Str := ["letters", "found", "cut", "many"]
theorem sc_row_of : FnScope N_row_of ["letters"] (defScope S_row_of) := ⟨rfl, rfl, rfl, by decide +kernel, rfl, by decide +kernel, by decide +kernel⟩
theorem ok_row_of (F : Fc K mg) {s_is_repeat : FD} (G_is_repeat : HasF false P w K mg base 1 (He.ga K "is_repeat") ["letters", "cut", "many"] [] s_is_repeat) {sp : FD} (hs : ∀ ds n Q, sp ds n Q → dFn N_row_of.length 1 (b_row_of (He.ga K) s_is_repeat) ds n Q) : HasF false P w K mg base 2 (He.ga K "row_of") ["letters"] [] sp :=
  has_f F.d_row_of sc_row_of (fun _ _ _ _ _ _ us hl => match us, hl with | [_], _ => rfl) (fun fd cdv A outer s H E hr => by
    have nd := sc_row_of.nd
    exact (dss_cons (ds_setO (i := 1) nd rfl (Or.inl rfl) (do_lst da_nil))
      (dss_cons (ds_for PassesOwn.never rfl (di_rg1 rfl F.f_range (de_bi call_lenA so_len rfl F.f_len bt_len (da_cons (de_var 0) da_nil))) (dg_nm (i := 2) nd rfl (Or.inr rfl)) (dss_one (ds_app (pv 1) (de_ix (de_own (do_comp rfl nd (di_rg2 rfl F.f_range de_int (de_op op_addA so_add (de_bi call_lenA so_len rfl F.f_len bt_len (da_cons (de_var 0) da_nil)) de_int)) (blk (N := N_row_of) (sc := defScope S_row_of) (own := [("many", 3)]) (by decide +kernel)) (by decide) (fun _ _ _ _ _ => (dg_nm (i := 3) nd rfl (Or.inl rfl))) (fun _ _ _ _ _ => (dts_one (dt_val (de_callF G_is_repeat (hr.mono (by decide)) rfl F.g_is_repeat (da_cons (de_var 0) (da_cons (de_var 2) (da_cons (de_var 3) da_nil))))))) (fun _ _ _ _ _ => (de_var 3)))) de_int))))
      (dss_frz [1] (dss_one (ds_ret (de_ty (call_tupA rfl) so_tuple rfl F.f_tuple bt_tuple (da_cons (de_var 1) da_nil)))))))) hs
abbrev N_told_back : List Str := ["numbers", "found", "number", "letters"]
theorem sc_told_back : FnScope N_told_back ["numbers"] (defScope S_told_back) := ⟨rfl, rfl, rfl, by decide +kernel, rfl, by decide +kernel, by decide +kernel⟩
theorem ok_told_back (F : Fc K mg) {s_is_tuple : FD} {s_is_integer : FD} {s_all_spelled : FD} {s_row_of : FD} (G_is_tuple : HasF false P w K mg base 1 (He.ga K "is_tuple") ["value", "low", "high"] [] s_is_tuple) (G_is_integer : HasF false P w K mg base 1 (He.ga K "is_integer") ["value", "low", "high"] [] s_is_integer) (G_all_spelled : HasF false P w K mg base 1 (He.ga K "all_spelled") ["many"] [] s_all_spelled) (G_row_of : HasF false P w K mg base 2 (He.ga K "row_of") ["letters"] [] s_row_of) {sp : FD} (hs : ∀ ds n Q, sp ds n Q → dFn N_told_back.length 1 (b_told_back (He.ga K) s_is_tuple s_is_integer s_all_spelled s_row_of) ds n Q) : HasF false P w K mg base 3 (He.ga K "told_back") ["numbers"] [] sp :=
  has_f F.d_told_back sc_told_back (fun _ _ _ _ _ _ us hl => match us, hl with | [_], _ => rfl) (fun fd cdv A outer s H E hr => by
    have nd := sc_told_back.nd
    exact (dss_cons (ds_if (dt_w (dw_or (dt_not (dt_val (de_callF G_is_tuple (hr.mono (by decide)) rfl F.g_is_tuple (da_cons (de_var 0) (da_cons de_int (da_cons (de_gint rfl F.i_MOST) da_nil)))))) (dw_or1 (dt_not (dt_val (de_bi (cr_all rfl) so_all rfl F.f_all bt_all (da_cons (de_own (do_comp rfl nd (di_val (de_var 0)) (blk (N := N_told_back) (sc := defScope S_told_back) (own := [("number", 2)]) (by decide +kernel)) (by decide) (fun _ _ _ _ _ => (dg_nm (i := 2) nd rfl (Or.inl rfl))) (fun _ _ _ _ _ => dts_nil) (fun _ _ _ _ _ => (de_callF G_is_integer (hr.mono (by decide)) rfl F.g_is_integer (da_cons (de_var 2) (da_cons de_int (da_cons (de_gint rfl F.i_MOST) da_nil))))))) da_nil))))))) (dss_one ds_never) dss_nil)
      (dss_cons (ds_setComp (ps_setComp (i := 1) rfl nd rfl rfl (sw_true rfl rfl rfl (by decide +kernel)) (di_val (de_callF G_all_spelled (hr.mono (by decide)) rfl F.g_all_spelled (da_cons (de_bi call_lenA so_len rfl F.f_len bt_len (da_cons (de_var 0) da_nil)) da_nil))) (blk (N := N_told_back) (sc := defScope S_told_back) (own := [("letters", 3)]) (by decide +kernel)) (by decide) (fun _ _ _ _ _ => (dg_nm (i := 3) nd rfl (Or.inl rfl))) (fun _ _ _ _ _ => (dts_one (dt_cmp (op_eqA hr.units) so_eq (de_callF G_row_of (hr.mono (by decide)) rfl F.g_row_of (da_cons (de_var 3) da_nil)) (de_var 0)))) (fun _ _ _ _ _ => (de_var 3))))
      (dss_one (ds_ret (de_ite (dt_cmp (op_eqA hr.units) so_eq (de_var 1) (de_lst da_nil)) (de_tup (da_cons (de_gstr [110, 111, 110, 101] rfl F.s_NONE) da_nil)) (de_tup (da_cons (de_gstr [119, 111, 114, 100, 115] rfl F.s_WORDS) (da_cons (de_bi call_lenA so_len rfl F.f_len bt_len (da_cons (de_var 1) da_nil)) (da_cons (de_ix (de_var 1) de_int) da_nil)))))))))) hs
abbrev N__law_due : List Str := ["_law_table_here", "_law_numbers", "_law_some"]
theorem sc__law_due : FnScope N__law_due ["_law_table_here", "_law_numbers"] (defScope S__law_due) := ⟨rfl, rfl, rfl, by decide +kernel, rfl, by decide +kernel, by decide +kernel⟩
theorem ok__law_due (F : Fc K mg)   {sp : FD} (hs : ∀ ds n Q, sp ds n Q → dFn N__law_due.length 2 (b__law_due (He.ga K) ) ds n Q) : HasF true P w K mg base 1 (He.ga K "_law_due") ["_law_table_here", "_law_numbers"] [] sp :=
  has_f F.d__law_due sc__law_due (fun _ _ _ _ _ _ us hl => match us, hl with | [_, _], _ => rfl) (fun fd cdv A outer s H E hr => by
    have nd := sc__law_due.nd
    exact (dss_cons (ds_set (i := 2) nd rfl (Or.inl rfl) (de_getT hr (de_var 0) (ek_tuple rfl rfl F.f_tuple (de_var 1))))
      (dss_one (ds_ret (de_ite (dt_cmp (op_neA hr.units) so_ne (de_var 2) (de_lst da_nil)) (de_tup (da_cons (de_str [119, 111, 114, 100, 115]) (da_cons (de_bi call_lenA so_len rfl F.f_len bt_len (da_cons (de_var 2) da_nil)) (da_cons (de_ix (de_var 2) de_int) da_nil)))) (de_tup (da_cons (de_str [110, 111, 110, 101]) da_nil))))))) hs
abbrev N__law_right : List Str := ["_law_pot_here", "_law_size", "_law_numbers", "_law_at", "_law_to", "_law_rows", "_law_swapped", "_law_table_here", "_law_lap", "_law_row_here"]
theorem sc__law_right : FnScope N__law_right ["_law_pot_here"] (defScope S__law_right) := ⟨rfl, rfl, rfl, by decide +kernel, rfl, by decide +kernel, by decide +kernel⟩
theorem ok__law_right (F : Fc K mg) {s__law_of : FD} {s__law_letters : FD} {s__law_row : FD} {s__law_take : FD} {s__law_table : FD} {s_told_back : FD} {s__law_due : FD} (G__law_of : HasF true P w K mg base 2 (He.ga K "_law_of") ["_law_pot_here", "_law_some"] [] s__law_of) (G__law_letters : HasF true P w K mg base 5 (He.ga K "_law_letters") ["_law_pot_here", "_law_few", "_law_most"] [] s__law_letters) (G__law_row : HasF true P w K mg base 3 (He.ga K "_law_row") ["_law_letters_here"] [] s__law_row) (G__law_take : HasF true P w K mg base 1 (He.ga K "_law_take") ["_law_pot_here", "_law_upto"] [] s__law_take) (G__law_table : HasF true P w K mg base 4 (He.ga K "_law_table") ["_law_size"] [] s__law_table) (G_told_back : HasF true P w K mg base 3 (He.ga K "told_back") ["numbers"] [] s_told_back) (G__law_due : HasF true P w K mg base 1 (He.ga K "_law_due") ["_law_table_here", "_law_numbers"] [] s__law_due) {sp : FD} (hs : ∀ ds n Q, sp ds n Q → dFn N__law_right.length 1 (b__law_right_v136 (He.ga K) s__law_of s__law_letters s__law_row s__law_take s__law_table s_told_back s__law_due) ds n Q) : HasG true P w K mg base 6 (He.ga K "_law_right") ["_law_pot_here"] [] sp :=
  has_g F.d__law_right sc__law_right (fun _ _ _ _ _ _ us hl => match us, hl with | [_], _ => rfl) (fun fd cdv A outer s H E hr hgd => by
    have nd := sc__law_right.nd
    exact (dss_cons (ds_set (i := 1) nd rfl (Or.inr rfl) (de_callF G__law_of (hr.mono (by decide)) rfl F.g__law_of (da_cons (de_var 0) (da_cons (de_lst (da_cons de_int (da_cons de_int (da_cons de_int (da_cons de_int (da_cons de_int (da_cons de_int (da_cons de_int (da_cons de_int (da_cons de_int (da_cons de_int (da_cons de_int (da_cons de_int (da_cons de_int (da_cons de_int (da_cons de_int (da_cons de_int da_nil))))))))))))))))) da_nil))))
      (dss_cons (ds_set (i := 2) nd rfl (Or.inl rfl) (de_callF G__law_row (hr.mono (by decide)) rfl F.g__law_row (da_cons (de_callF G__law_letters (hr.mono (by decide)) rfl F.g__law_letters (da_cons (de_var 0) (da_cons (de_var 1) (da_cons (de_var 1) da_nil)))) da_nil)))
      (dss_cons (ds_par (i := 3) (j := 4) rfl nd rfl rfl (by decide) rfl rfl (db_cons (de_callF G__law_take (hr.mono (by decide)) rfl F.g__law_take (da_cons (de_var 0) (da_cons (de_var 1) da_nil))) (db_cons (de_callF G__law_take (hr.mono (by decide)) rfl F.g__law_take (da_cons (de_var 0) (da_cons (de_var 1) da_nil))) db_nil)))
      (dss_cons (ds_setO (i := 5) nd rfl (Or.inl rfl) (do_lst (da_cons (de_var 2) (da_cons (de_op op_addA so_add (de_op op_addA so_add (de_sl (de_var 2) dp_no (dp_some (de_var 3))) (de_lst (da_cons (de_op op_addA so_add de_int (de_callF G__law_take (hr.mono (by decide)) rfl F.g__law_take (da_cons (de_var 0) (da_cons de_int da_nil)))) da_nil))) (de_sl (de_var 2) (dp_some (de_op op_addA so_add (de_var 3) de_int)) dp_no)) da_nil))))
      (dss_cons (ds_setO (i := 6) nd rfl (Or.inl rfl) (do_list rfl rfl F.f_list (de_var 2)))
      (dss_cons (ds_asgD (de_tup (da_cons (de_ix (de_var 2) (de_var 4)) (da_cons (de_ix (de_var 2) (de_var 3)) da_nil))) (dgd_tup rfl (gsd_cons (dgd_putL 6 (de_var 3)) (gsd_cons (dgd_putL 6 (de_var 4)) gsd_nil))))
      (dss_frz [6] (dss_cons (ds_ext (pv 5) (de_lst (da_cons (de_var 6) (da_cons (de_op op_addA so_add (de_lst (da_cons de_int da_nil)) (de_own (do_comp rfl nd (di_rg1 rfl F.f_range (de_op op_sub so_sub (de_var 1) de_int)) (blk (N := N__law_right) (sc := defScope S__law_right) (own := [("_law_lap", 8)]) (by decide +kernel)) (by decide) (fun _ _ _ _ _ => (dg_nm (i := 8) nd rfl (Or.inl rfl))) (fun _ _ _ _ _ => dts_nil) (fun _ _ _ _ _ => (de_op op_addA so_add de_int (de_callF G__law_take (hr.mono (by decide)) rfl F.g__law_take (da_cons (de_var 0) (da_cons (de_var 1) da_nil)))))))) da_nil))))
      (dss_cons (ds_set (i := 7) nd rfl (Or.inr rfl) (de_callF G__law_table (hr.mono (by decide)) rfl F.g__law_table (da_cons (de_var 1) da_nil)))
      (dss_one (ds_ret (de_bi (cr_all rfl) so_all rfl F.f_all bt_all (da_cons (de_own (do_comp rfl nd (di_val (de_slO (pv 5) dp_no (dp_some (de_ite (dt_cmp op_lt so_lt (de_var 1) de_int) de_int de_int)))) (blk (N := N__law_right) (sc := defScope S__law_right) (own := [("_law_row_here", 9)]) (by decide +kernel)) (by decide) (fun _ _ _ _ _ => (dg_nm (i := 9) nd rfl (Or.inl rfl))) (fun _ _ _ _ _ => dts_nil) (fun _ _ _ _ _ => (de_cmp (op_eqA hr.units) so_eq (de_bi (call_reprX F.sysd hgd hr.units) so_reprX rfl F.f_repr bt_repr (da_cons (de_callF G_told_back (hr.mono (by decide)) rfl F.g_told_back (da_cons (de_ty (call_tupA rfl) so_tuple rfl F.f_tuple bt_tuple (da_cons (de_var 9) da_nil)) da_nil)) da_nil)) (de_bi (call_reprX F.sysd hgd hr.units) so_reprX rfl F.f_repr bt_repr (da_cons (de_callF G__law_due (hr.mono (by decide)) rfl F.g__law_due (da_cons (de_var 7) (da_cons (de_var 9) da_nil))) da_nil)))))) da_nil)))))))))))))) hs
abbrev N_law : List Str := ["_law_script", "_law_place"]
theorem sc_law : FnScope N_law ["_law_script"] (defScope S_law) := ⟨rfl, rfl, rfl, by decide +kernel, rfl, by decide +kernel, by decide +kernel⟩
theorem ok_law (F : Fc K mg) {s__law_cells : FD} {s__law_pot : FD} {s__law_right : FD} (G__law_cells : HasF false P w K mg base 1 (He.ga K "_law_cells") ["_law_script", "_law_limit"] [] s__law_cells) (G__law_pot : HasF false P w K mg base 1 (He.ga K "_law_pot") ["_law_script", "_law_place"] [] s__law_pot) (G__law_right : HasG false P w K mg base 6 (He.ga K "_law_right") ["_law_pot_here"] [] s__law_right) {sp : FD} (hs : ∀ ds n Q, sp ds n Q → dFn N_law.length 1 (b_law_v15 (He.ga K) s__law_cells s__law_pot s__law_right) ds n Q) : HasG false P w K mg base 7 (He.ga K "law") ["_law_script"] [] sp :=
  has_g F.d_law sc_law (fun _ _ _ _ _ _ us hl => match us, hl with | [_], _ => rfl) (fun fd cdv A outer s H E hr hgd => by
    have nd := sc_law.nd
    exact (dss_one (ds_ret (de_bi (cr_all rfl) so_all rfl F.f_all bt_all (da_cons (de_own (do_comp rfl nd (di_val (de_callF G__law_cells (hr.mono (by decide)) rfl F.g__law_cells (da_cons (de_var 0) (da_cons de_int da_nil)))) (blk (N := N_law) (sc := defScope S_law) (own := [("_law_place", 1)]) (by decide +kernel)) (by decide) (fun _ _ _ _ _ => (dg_nm (i := 1) nd rfl (Or.inl rfl))) (fun _ _ _ _ _ => dts_nil) (fun _ _ _ _ _ => (de_callHG G__law_right (hr.mono (by decide)) hgd rfl F.g__law_right (da_cons (de_callF G__law_pot (hr.mono (by decide)) rfl F.g__law_pot (da_cons (de_var 0) (da_cons (de_var 1) da_nil))) da_nil))))) da_nil))))) hs
end
end LW
namespace LW
open PySem L2 Pd
theorem chain {P : Program} {w : World} {K : PySem.W.Frag} {mg : Str → Option Value} {base : Heap} (F : Fc K mg) : HasG false P w K mg base 7 (He.ga K "law") ["_law_script"] [] (s_law2) := by
  have G__law_cells := ok__law_cells (P := P) (w := w) (base := base) F  (l_cells (He.ga K))
  have G__law_pot := ok__law_pot (P := P) (w := w) (base := base) F  (l_pot (He.ga K))
  have G__law_take := ok__law_take (P := P) (w := w) (base := base) F
  have G__law_of := ok__law_of (P := P) (w := w) (base := base) F G__law_take (l_of (He.ga K))
  have G__law_random := ok__law_random (P := P) (w := w) (base := base) F G__law_of (l_random (He.ga K))
  have G__law_any_letters := ok__law_any_letters (P := P) (w := w) (base := base) F G__law_take G__law_of G__law_random (l_any7 (He.ga K))
  have G__law_blocks := ok__law_blocks (P := P) (w := w) (base := base) F  (l_blocks (He.ga K))
  have G__law_letters := ok__law_letters (P := P) (w := w) (base := base) F G__law_any_letters G__law_blocks (l_letters7 (He.ga K))
  have G__law_is_repeat := ok__law_is_repeat (P := P) (w := w) (base := base) F  (l_is_repL (He.ga K))
  have G__law_shortest := ok__law_shortest (P := P) (w := w) (base := base) F G__law_is_repeat (l_shortL (He.ga K))
  have G__law_row := ok__law_row (P := P) (w := w) (base := base) F G__law_shortest (l_rowL (He.ga K))
  have G__law_all_words := ok__law_all_words (P := P) (w := w) (base := base) F  (l_all_words (He.ga K))
  have G__law_table := ok__law_table (P := P) (w := w) (base := base) F (G__law_all_words).up (G__law_row).up (l_table (He.ga K))
  have G_is_tuple := ok_is_tuple (P := P) (w := w) (base := base) F  (l_tup50 (He.ga K))
  have G_is_integer := ok_is_integer (P := P) (w := w) (base := base) F  (l_int50 (He.ga K))
  have G_all_spelled := ok_all_spelled (P := P) (w := w) (base := base) F  (l_all_spelled (He.ga K))
  have G_is_repeat := ok_is_repeat (P := P) (w := w) (base := base) F  (l_is_rep3 (He.ga K))
  have G_row_of := ok_row_of (P := P) (w := w) (base := base) F G_is_repeat (l_row_of (He.ga K))
  have G_told_back := ok_told_back (P := P) (w := w) (base := base) F G_is_tuple G_is_integer G_all_spelled G_row_of (l_told_back (He.ga K))
  have G__law_due := ok__law_due (P := P) (w := w) (base := base) F  (l_due50 (He.ga K))
  have G__law_right := ok__law_right (P := P) (w := w) (base := base) F (G__law_of).up (G__law_letters).up (G__law_row).up (G__law_take).up G__law_table (G_told_back).up G__law_due (l_right50 (He.ga K))
  have G_law := ok_law (P := P) (w := w) (base := base) F G__law_cells G__law_pot (G__law_right).dn (l_law_v15 (He.ga K) (r_right50 (He.ga K)) (by decide))
  exact G_law
end LW
open PySem PySem.W PySem.Calls PyProof.Rows
theorem PySem.Challenge.cw_showncut_k50_whole_rows_told_back_holds : PySem.Challenge.rw_showncut_k50_whole_rows_told_back.Holds := by
  refine LW.early (Pd.law_walkG (n := 63) (k := 7) (x := "_law_script") rfl (by decide) rfl ⟨rfl, by decide +kernel, by decide +kernel⟩ ?_)
  intro w mg fa h hY hN hmg
  obtain ⟨K, KX, hS, TA⟩ := hY
  have F := LW.fc_of KX hN hS
  have hfa : fa = He.ga K "law" := by
    have h1 := F.g_law
    have h2 : mg "law" = some (.ref fa) := hmg
    rw [h1] at h2
    injection h2 with h2
    injection h2 with h2
    exact h2.symm
  subst hfa
  exact ⟨K, LW.s_law2, KX, TA, fun ns _ => ⟨ns, rfl, rfl, fun _ => rfl⟩, fun base hb hn TB => LW.chain F⟩
