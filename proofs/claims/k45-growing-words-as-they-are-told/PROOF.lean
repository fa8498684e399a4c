import PyProof.Rows.All
import Wide.All
import OpenK.AllK
import KE.KNestM
import HandS.Head2
import HandS.HeadHook1
import HandS.HeadHook2
import HandS.HeadHook3
import HandS.HeadHook4
import HandS.Property
import HandS.Words
import HandS.Exc
import KE.KSuper
import KE.KTryMore
import Wide.FinOn
import HandS.ForMost
import HandS.Wide
import HandS.TupAny
import HandS.TupMul
import HandS.Style
import HandS.Walk
import HandS.Zip
import HandS.Conv
import HandS.Defaults
import HandS.Flow
import HandS.ExcInit
import HandS.Lambda
import PyProof.StrOps2
import HandS.NoneIn
import PyProof.ReprRoads
import HandS.Deep
import HandS.IsInst
import KE.KExcIs
import HandS.Codes
import HandS.RaiseMore
import PyProof.ListStr
import PyProof.TupleOfStr
import KE.GoesNew
import HandS.Star
import HandS.Head0
import HandS.Head1
import HandS.HeadEnd
import HandS.WordsExc
import HandS.Iter
import HandS.Strs
import HandS.SetFor
import HandS.SortInts
import KE.SortData
import KE.DataCmp
import KE.DataMinMax
import HandS.OwnEq
import HandS.Replace
import HandS.Nested
import HandS.ExcField
import HandS.ExcIs
import KE.KExcSuper
import HandS.ExcValue
import PyProof.Rows.SortShellAny
import HandS.Text
import PyProof.Rows.StrSplitMax
import PyProof.NeKinds
import HandS.MakeKwOnly
import KE.KIntText
import KE.KStrOpen
import KE.IntTextText
import PySem.Challenge.RW_showncut_k45_growing_words_as_they_are_t
set_option Elab.async false
set_option linter.all false
set_option maxRecDepth 100000
set_option maxHeartbeats 0
set_option autoImplicit false
namespace Pd
open PySem
def tabOf (o : Obj) : Option (Addr × Str) := match o.cls, o.data with
  | .type "code", .fields vs => match (vs[11]? : Option Value), (vs[1]? : Option Value) with
    | some (.ref P), some (.str q _) => some (P, q ++ ".<locals>." ++ "<lambda>")
    | _, _ => none
  | _, _ => none
def tabsK (K : PySem.W.Frag) : List (Addr × Str) := K.filterMap fun p => if (tabOf p.2).isSome then (K.lookup p.1).bind tabOf else none
def isTab0 (o : Obj) : Bool := match o.cls, o.dict, o.data with
  | .none, none, .fields vs => vs.isEmpty && o.slots.isEmpty
  | _, _, _ => false
def noTab (g : Addr → Option Obj) : Addr → Option Obj := fun a => match g a with
  | some o => if isTab0 o then none else some o
  | none => none
def nodupB : List Addr → Bool
  | [] => true
  | a :: r => !r.contains a && nodupB r
def tabsB (g : Addr → Option Obj) (K : PySem.W.Frag) : Bool :=
  ((tabsK K).all fun p => (match g p.1 with
    | some o => isTab0 o
    | none => false) && (K.lookup p.1).isNone) && (nodupB ((tabsK K).map (·.1)) && K.all fun p => match tabOf p.2 with
    | some q => PySem.W.codeHdIn K p.1 q.1
    | none => true)
structure TabAt (h : Heap) (K : PySem.W.Frag) : Prop where
  obj : ∀ p ∈ tabsK K, h.get? p.1 = some { cls := .none, data := .fields #[] }
  out : ∀ p ∈ tabsK K, K.lookup p.1 = none
  one : ∀ p ∈ tabsK K, ∀ q ∈ tabsK K, p.1 = q.1 → p = q
  code : ∀ (c P : Addr) (q : Str) (o : Obj), K.lookup c = some o → tabOf o = some (P, q) → PySem.W.codeHdIn K c P = true
theorem TabAt.keeps {h h' : Heap} {K : PySem.W.Frag} (t : TabAt h K) (k : ∀ b o, h.get? b = some o → h'.get? b = some o) : TabAt h' K := ⟨fun p hp => k _ _ (t.obj p hp), t.out, t.one, t.code⟩
theorem isTab0_eq {o : Obj} (h : isTab0 o = true) : o = { cls := .none, data := .fields #[] } := by
  obtain ⟨c, d, dt, sl⟩ := o
  unfold isTab0 at h
  split at h
  · rename_i vs h1 h2 h3
    dsimp only at h1 h2 h3
    subst h1 h2 h3
    rw [Bool.and_eq_true] at h
    have e1 : vs = #[] := by simpa using h.1
    have e2 : sl = #[] := by simpa using h.2
    rw [e1, e2]
  · cases h
theorem nodupB_ok : ∀ {l : List Addr}, nodupB l = true → l.Nodup
  | [], _ => .nil
  | a :: r, h => by
    unfold nodupB at h
    rw [Bool.and_eq_true, Bool.not_eq_true'] at h
    exact List.nodup_cons.mpr ⟨by simpa using h.1, nodupB_ok h.2⟩
theorem nodup_one {α : Type} {f : α → Addr} : ∀ {l : List α}, (l.map f).Nodup → ∀ p ∈ l, ∀ q ∈ l, f p = f q → p = q
  | [], _, p, hp, _, _, _ => by cases hp
  | a :: r, nd, p, hp, q, hq, e => by
    rw [List.map_cons, List.nodup_cons] at nd
    rcases List.mem_cons.mp hp with h1 | h1
    · rcases List.mem_cons.mp hq with h2 | h2
      · rw [h1, h2]
      · exact absurd (show f a ∈ r.map f from List.mem_map.mpr ⟨q, h2, by rw [← e, h1]⟩) nd.1
    · rcases List.mem_cons.mp hq with h2 | h2
      · exact absurd (show f a ∈ r.map f from List.mem_map.mpr ⟨p, h1, by rw [e, h2]⟩) nd.1
      · exact nodup_one nd.2 p h1 q h2 e
theorem look_mem : ∀ {K : PySem.W.Frag} {c : Addr} {o : Obj}, K.lookup c = some o → (c, o) ∈ K
  | [], _, _, h => by cases h
  | (b, u) :: r, c, o, h => by
    rw [List.lookup_cons] at h
    cases e : c == b with
    | true =>
      rw [e] at h
      cases h
      rw [beq_iff_eq.mp e]
      exact List.mem_cons_self
    | false =>
      rw [e] at h
      exact List.mem_cons_of_mem _ (look_mem h)
theorem tabs_mem {K : PySem.W.Frag} {c P : Addr} {q : Str} {o : Obj} (h : K.lookup c = some o) (t : tabOf o = some (P, q)) : (P, q) ∈ tabsK K := List.mem_filterMap.mpr ⟨(c, o), look_mem h, by
  dsimp only
  rw [h, t]
  exact t⟩
theorem tabs_of {K : PySem.W.Frag} {p : Addr × Str} (h : p ∈ tabsK K) : ∃ c o, K.lookup c = some o ∧ tabOf o = some p := by
  obtain ⟨q, hq, e⟩ := List.mem_filterMap.mp h
  split at e
  · cases z : K.lookup q.1 with
    | none => rw [z] at e; cases e
    | some o =>
      rw [z] at e
      exact ⟨q.1, o, z, e⟩
  · cases e
theorem tabsB_ok {h : Heap} {K : PySem.W.Frag} (e : tabsB h.get? K = true) : TabAt h K := by
  unfold tabsB at e
  rw [Bool.and_eq_true, Bool.and_eq_true, List.all_eq_true, List.all_eq_true] at e
  obtain ⟨e1, e2, e3⟩ := e
  refine ⟨fun p hp => ?_, fun p hp => ?_, nodup_one (nodupB_ok e2), fun c P q o hl ht => ?_⟩
  · have z := e1 p hp
    rw [Bool.and_eq_true] at z
    have z := z.1
    split at z
    · rename_i o ho
      rw [ho, isTab0_eq z]
    · cases z
  · have z := e1 p hp
    rw [Bool.and_eq_true] at z
    simpa using z.2
  · have z := e3 (c, o) (look_mem hl)
    dsimp only at z
    rw [ht] at z
    exact z
end Pd
namespace Pd
open PySem PyProof.Rows L2
structure PDef where
  loc : PySem.W.Frag → Addr
  name : Str
  qual : Str
  params : Arguments
  body : List Stmt
  scope : Scope
  dfl : List He.Dv := []
  clo : List Str := []
abbrev PSg : Type := Option (Str × Str × Arguments × FuncBody × Scope × Addr × List Str × Addr)
def psg (K : PySem.W.Frag) (a : Addr) : PSg := match K.lookup a with
  | some ⟨_, _, .func q, _⟩ => some (q.name, q.qualname, q.params, q.body, q.scope, q.globals, q.closure.map (·.1), q.builtins)
  | _ => none
def PDef.said (d : PDef) : PSg := some (d.name, d.qual, d.params, .stmts d.body, d.scope, mainGlobals, d.clo, builtinsNs)
def PDef.dvs (K : PySem.W.Frag) (d : PDef) : List V := d.dfl.map (He.Dv.v K)
def PDef.good (K : PySem.W.Frag) (d : PDef) : Bool := PySem.W.keepIn K (.ref (d.loc K)) && (match K.lookup (d.loc K) with
  | some ⟨_, _, .func q, _⟩ => PySem.W.codeIn K q.code d.qual && (He.dflB K q.defaults (d.dvs K) && (He.kwdB K q.kwdefaults [] && (match q.code with
    | .ref c => (match K.lookup c with
      | some o => (tabOf o).isSome
      | none => false)
    | _ => false)))
  | _ => false)
inductive Fx where
  | old (f : He.Fa)
  | prop (C f : Str)
  | ins (C : Str)
  | isi (t : Value) (c : Str ⊕ String) (b : Bool)
  | isiC (C : Str) (c : Str ⊕ String) (b : Bool)
  | begin (x : Str)
  | eqn (C : Str)
  | exc (C : Str)
  | sup (file : Str)
  | sysd
  | errs (D : Str) (Cs : List Str)
def oexB (K : PySem.W.Frag) (C : Addr) : Bool := match K.lookup C with
  | some ⟨.type "type", _, .cls cd, sl⟩ => (match cd.mro, sl.toList with
    | .ref C' :: bm, [_, _, _, _, some (.builtin n), _] => C' == C && (n == "ValueError.__new__" && (!cd.hasDel && (cd.hasDict && PySem.HandSPX.refsVE bm)))
    | _, _ => false)
  | _ => false
def excB (K : PySem.W.Frag) (D fI C : Addr) : Bool :=
  oexB K C && (decide (PySem.W.findIn K (.ref C) "__setattr__" = some (some (.builtin "object.__setattr__"))) && (decide (PySem.W.subIn K (.ref C) (.type "BaseException") = some true) && (decide (PySem.W.typeIn K (.ref C) = some (.type "type")) && (PySem.W.keepIn K (.ref C) &&
  (decide (PySem.W.mroIn K C (.ref D) = some true) && (decide (PySem.W.ks_superIn K C D "__init__" = some (some (.builtin "ValueError.__init__"))) && (decide (PySem.W.subIn K (.ref C) (.type "ValueError") = some true) && (decide (PySem.W.findIn K (.ref C) "value" = some none) &&
  (decide (PySem.W.findIn K (.ref C) "__init__" = some (some (.ref fI))) && (decide (PySem.W.typeIn K (.ref fI) = some (.type "function")) && (decide (PySem.W.exmOne K (.ref C) (.ref D) = some true) &&
  (decide (PySem.W.findIn K (.ref C) "__getattribute__" = some (some (.builtin "BaseException.__getattribute__"))) && (decide (PySem.W.findIn K (.ref C) "__getattr__" = some none) && (PySem.W.hasDictIn K C && ((PySem.W.clsIn K C).isSome &&
  (decide (PySem.W.findIn K (.ref C) "__class__" = some (some (.builtin "object.__class__"))) && (decide (PySem.W.specialIn K (.builtin "object.__class__") "__get__" = some (some (.builtin "getset_descriptor.__get__"))) && (decide (PySem.W.takesIn K (.builtin "object.__class__") = some true) && decide (PySem.W.mroIn K C (.type "object") = some true)))))))))))))))))))
def supB (K : PySem.W.Frag) (D fI : Addr) (file : Str) : Bool := (match K.lookup fI with
  | some ⟨_, _, .func q, _⟩ => (match q.closure, q.code with
    | [(x, cc)], .ref cda => (x == ("__class__" : Str)) && (PySem.W.codeIn K (.ref cda) "CutError.__init__" && ((match K.lookup cda with
      | some ⟨_, _, .fields vs, _⟩ => (match (vs[2]? : Option Value) with
        | some (.str f _) => f == file
        | _ => false)
      | _ => false) && (match K.lookup cc with
      | some ⟨_, _, .cell (some (.ref D')), _⟩ => D' == D
      | _ => false)))
    | _, _ => false)
  | _ => false) && ((PySem.W.clsIn K D).isSome && decide (PySem.W.nsIn K cStatics "thirdparty.any" = some none))
def propAt (K : PySem.W.Frag) (C f : Str) : Addr := match PySem.W.findIn K (.ref (He.ga K C)) f with
  | some (some (.ref p)) => p
  | _ => 0
def getterAt (C f : Str) (K : PySem.W.Frag) : Addr := match PySem.W.recIn K (propAt K C f) "property" with
  | some (.ref g :: _) => g
  | _ => 0
def globAt (x : Str) (K : PySem.W.Frag) : Addr := He.ga K x
def methAt (C m : Str) (K : PySem.W.Frag) : Addr := He.ma K (He.ga K C) m
def clsOf (K : PySem.W.Frag) : Str ⊕ String → Value
  | .inl C => .ref (He.ga K C)
  | .inr T => .type T
def Fx.ok (K : PySem.W.Frag) : Fx → Bool
  | .old f => f.ok K
  | .prop C f => decide (PySem.W.findIn K (.ref (He.ga K C)) f = some (some (.ref (propAt K C f)))) && (decide (PySem.W.specialIn K (.ref (propAt K C f)) "__get__" = some (some (.builtin "property.__get__"))) &&
      (decide (PySem.W.takesIn K (.ref (propAt K C f)) = some true) && (match PySem.W.recIn K (propAt K C f) "property" with
        | some (.ref _ :: _) => true
        | _ => false)))
  | .ins C => decide (PySem.W.findIn K (.ref (He.ga K C)) "__class__" = some (some (.builtin "object.__class__"))) && (decide (PySem.W.specialIn K (.builtin "object.__class__") "__get__" = some (some (.builtin "getset_descriptor.__get__"))) &&
      (decide (PySem.W.takesIn K (.builtin "object.__class__") = some true) && decide (PySem.W.mroIn K (He.ga K C) (.type "object") = some true)))
  | .isi t c b => decide (PySem.W.kitOne K t (clsOf K c) = some b)
  | .isiC C c b => decide (PySem.W.kitOne K (.ref (He.ga K C)) (clsOf K c) = some b)
  | .begin x => decide (PySem.W.nsIn K PySem.mainGlobals x = some (some (.ref (He.ga K x)))) && (match K.lookup (He.ga K x) with
    | some ⟨.type n, _, .seq ⟨[.ref b, .int i _, .int j _, .int k _]⟩ _, _⟩ => (decide (n = "tuple") && decide (i = 0)) && ((decide (j = 0) && decide (k = 0)) && (match K.lookup b with
      | some ⟨.type m, _, .seq ⟨[]⟩ _, _⟩ => decide (m = "tuple")
      | _ => false))
    | _ => false)
  | .exc C => excB K (He.ga K "CutError") (He.ma K (He.ga K "CutError") "__init__") (He.ga K C)
  | .sup file => supB K (He.ga K "CutError") (He.ma K (He.ga K "CutError") "__init__") file
  | .sysd => (match K.lookup sysModules with
    | some ⟨.type n, _, _, _⟩ => decide (n = "dict")
    | _ => false)
  | .errs D Cs => (D :: Cs).all fun A => (decide (PySem.W.kitOne K (.ref (He.ga K A)) (.ref (He.ga K D)) = some true) && decide (PySem.W.kitOne K (.ref (He.ga K A)) (.type "ValueError") = some true)) &&
      ((Cs.all fun B => decide (PySem.W.kitOne K (.ref (He.ga K A)) (.ref (He.ga K B)) = some (decide (A = B)))) &&
      (["NoneType", "bool", "int", "str", "list", "tuple", "dict"].all fun S => decide (PySem.W.kitOne K (.type S) (.ref (He.ga K A)) = some false)))
  | .eqn C => decide (PySem.W.findIn K (.ref (He.ga K C)) "__ne__" = some (some (.builtin "object.__ne__"))) && decide (PySem.W.mroIn K (He.ga K C) (.type "object") = some true)
abbrev AlP : Type := Bool × List PSg
def obsP (fx : List Fx) (fn : List PDef) (K : PySem.W.Frag) : AlP := ((fx.all fun f => f.ok K) && fn.all fun d => d.good K, fn.map fun d => psg K (d.loc K))
def SaysP (fx : List Fx) (fn : List PDef) (K : PySem.W.Frag) : Prop := obsP fx fn K = (true, fn.map PDef.said)
def frT (g : Addr → Option Obj) (n : Nat) : PySem.W.Frag := He.frG (noTab g) (cStatics :: sysModules :: He.asD g n)
def obsPG (n : Nat) (fx : List Fx) (fn : List PDef) (g : Addr → Option Obj) : AlP := let K := frT g n; ((fx.all fun f => f.ok K) && ((fn.all fun d => d.good K) && tabsB g K), fn.map fun d => psg K (d.loc K))
theorem noTab_of {g : Addr → Option Obj} {a : Addr} {o : Obj} (h : noTab g a = some o) : g a = some o := by
  unfold noTab at h
  cases e : g a with
  | none => rw [e] at h; cases h
  | some u =>
    rw [e] at h
    dsimp only at h
    split at h
    · cases h
    · exact h
theorem obsPG_says {n : Nat} {fx : List Fx} {fn : List PDef} {h : Heap} (e : obsPG n fx fn h.get? = (true, fn.map PDef.said)) : (frT h.get? n).In h ∧ SaysP fx fn (frT h.get? n) ∧ TabAt h (frT h.get? n) := by
  have e1 := (Prod.mk.inj e).1
  have e2 := (Prod.mk.inj e).2
  rw [Bool.and_eq_true, Bool.and_eq_true] at e1
  refine ⟨fun a o hl => noTab_of (He.frG_at _ hl), ?_, tabsB_ok e1.2.2⟩
  unfold SaysP obsP
  rw [e1.1, e1.2.1, e2]
  rfl
def hookP (n : Nat) (fx : List Fx) (fn : List PDef) : PySem.W.Hook where
  α := AlP
  obs := fun s => obsPG n fx fn s.heap.get?
  val := fun _ => (true, fn.map PDef.said)
  says := fun _ h => ∃ K : PySem.W.Frag, K.In h ∧ SaysP fx fn K ∧ TabAt h K
  of := fun _ _ e => ⟨_, obsPG_says e⟩
  keeps := fun _ _ _ ⟨K, hK, c, t⟩ k => ⟨K, PySem.W.Frag.In.keeps hK k, c, t.keeps k⟩
theorem obsPG_eq {n : Nat} {fx : List Fx} {fn : List PDef} {g : Addr → Option Obj} {s : Shared} (h : ∀ a, g a = s.heap.get? a) : obsPG n fx fn g = (hookP n fx fn).obs s := by
  have e : g = s.heap.get? := funext h
  rw [e]
  rfl
def clsBody : Stmt → List Stmt
  | .ClassDef _ _ _ b .. => b
  | _ => []
end Pd
namespace LW
open PySem L2 Pd
abbrev pw : Program := PySem.Challenge.pw_showncut_k45_growing_words_as_they_are_t
def top (i : Nat) : Stmt := pw.main.body.getD i (.Pass ⟨0, 0, 0, 0⟩)
def inC (i j : Nat) : Stmt := (Pd.clsBody (top i)).getD j (.Pass ⟨0, 0, 0, 0⟩)
abbrev S_CutError___init__ : Stmt := inC 2 0
def D_CutError___init__ : Pd.PDef := ⟨Pd.methAt "CutError" "__init__", "__init__", "CutError.__init__", defArgs S_CutError___init__, defBody S_CutError___init__, defScope S_CutError___init__, [], ["__class__"]⟩
abbrev S_is_integer : Stmt := top 11
def D_is_integer : Pd.PDef := ⟨Pd.globAt "is_integer", "is_integer", "is_integer", defArgs S_is_integer, defBody S_is_integer, defScope S_is_integer, [.non], []⟩
abbrev S_is_said : Stmt := top 12
def D_is_said : Pd.PDef := ⟨Pd.globAt "is_said", "is_said", "is_said", defArgs S_is_said, defBody S_is_said, defScope S_is_said, [], []⟩
abbrev S_whole_in : Stmt := top 13
def D_whole_in : Pd.PDef := ⟨Pd.globAt "whole_in", "whole_in", "whole_in", defArgs S_whole_in, defBody S_whole_in, defScope S_whole_in, [], []⟩
abbrev S_pieces_of : Stmt := top 17
def D_pieces_of : Pd.PDef := ⟨Pd.globAt "pieces_of", "pieces_of", "pieces_of", defArgs S_pieces_of, defBody S_pieces_of, defScope S_pieces_of, [], []⟩
abbrev S_block_in : Stmt := top 18
def D_block_in : Pd.PDef := ⟨Pd.globAt "block_in", "block_in", "block_in", defArgs S_block_in, defBody S_block_in, defScope S_block_in, [], []⟩
abbrev S_blocks_told : Stmt := top 19
def D_blocks_told : Pd.PDef := ⟨Pd.globAt "blocks_told", "blocks_told", "blocks_told", defArgs S_blocks_told, defBody S_blocks_told, defScope S_blocks_told, [], []⟩
abbrev S_number_in : Stmt := top 30
def D_number_in : Pd.PDef := ⟨Pd.globAt "number_in", "number_in", "number_in", defArgs S_number_in, defBody S_number_in, defScope S_number_in, [], []⟩
abbrev S_form_in : Stmt := top 31
def D_form_in : Pd.PDef := ⟨Pd.globAt "form_in", "form_in", "form_in", defArgs S_form_in, defBody S_form_in, defScope S_form_in, [], []⟩
abbrev S_blocks_in : Stmt := top 32
def D_blocks_in : Pd.PDef := ⟨Pd.globAt "blocks_in", "blocks_in", "blocks_in", defArgs S_blocks_in, defBody S_blocks_in, defScope S_blocks_in, [], []⟩
abbrev S__law_pot : Stmt := top 35
def D__law_pot : Pd.PDef := ⟨Pd.globAt "_law_pot", "_law_pot", "_law_pot", defArgs S__law_pot, defBody S__law_pot, defScope S__law_pot, [], []⟩
abbrev S__law_take : Stmt := top 36
def D__law_take : Pd.PDef := ⟨Pd.globAt "_law_take", "_law_take", "_law_take", defArgs S__law_take, defBody S__law_take, defScope S__law_take, [], []⟩
abbrev S__law_of : Stmt := top 37
def D__law_of : Pd.PDef := ⟨Pd.globAt "_law_of", "_law_of", "_law_of", defArgs S__law_of, defBody S__law_of, defScope S__law_of, [], []⟩
abbrev S__law_cells : Stmt := top 38
def D__law_cells : Pd.PDef := ⟨Pd.globAt "_law_cells", "_law_cells", "_law_cells", defArgs S__law_cells, defBody S__law_cells, defScope S__law_cells, [], []⟩
abbrev S__law_heard : Stmt := top 39
def D__law_heard : Pd.PDef := ⟨Pd.globAt "_law_heard", "_law_heard", "_law_heard", defArgs S__law_heard, defBody S__law_heard, defScope S__law_heard, [], []⟩
abbrev S__law_odd : Stmt := top 40
def D__law_odd : Pd.PDef := ⟨Pd.globAt "_law_odd", "_law_odd", "_law_odd", defArgs S__law_odd, defBody S__law_odd, defScope S__law_odd, [], []⟩
abbrev S__law_is_int : Stmt := top 41
def D__law_is_int : Pd.PDef := ⟨Pd.globAt "_law_is_int", "_law_is_int", "_law_is_int", defArgs S__law_is_int, defBody S__law_is_int, defScope S__law_is_int, [.non], []⟩
abbrev S__law_block_text : Stmt := top 42
def D__law_block_text : Pd.PDef := ⟨Pd.globAt "_law_block_text", "_law_block_text", "_law_block_text", defArgs S__law_block_text, defBody S__law_block_text, defScope S__law_block_text, [], []⟩
abbrev S__law_form_text : Stmt := top 43
def D__law_form_text : Pd.PDef := ⟨Pd.globAt "_law_form_text", "_law_form_text", "_law_form_text", defArgs S__law_form_text, defBody S__law_form_text, defScope S__law_form_text, [], []⟩
abbrev S__law_grown_text : Stmt := top 44
def D__law_grown_text : Pd.PDef := ⟨Pd.globAt "_law_grown_text", "_law_grown_text", "_law_grown_text", defArgs S__law_grown_text, defBody S__law_grown_text, defScope S__law_grown_text, [], []⟩
abbrev S__law_grown_blocks : Stmt := top 45
def D__law_grown_blocks : Pd.PDef := ⟨Pd.globAt "_law_grown_blocks", "_law_grown_blocks", "_law_grown_blocks", defArgs S__law_grown_blocks, defBody S__law_grown_blocks, defScope S__law_grown_blocks, [], []⟩
abbrev S__law_grown_at : Stmt := top 46
def D__law_grown_at : Pd.PDef := ⟨Pd.globAt "_law_grown_at", "_law_grown_at", "_law_grown_at", defArgs S__law_grown_at, defBody S__law_grown_at, defScope S__law_grown_at, [], []⟩
abbrev S__law_is_at_right : Stmt := top 47
def D__law_is_at_right : Pd.PDef := ⟨Pd.globAt "_law_is_at_right", "_law_is_at_right", "_law_is_at_right", defArgs S__law_is_at_right, defBody S__law_is_at_right, defScope S__law_is_at_right, [], []⟩
abbrev S__law_right : Stmt := top 48
def D__law_right : Pd.PDef := ⟨Pd.globAt "_law_right", "_law_right", "_law_right", defArgs S__law_right, defBody S__law_right, defScope S__law_right, [], []⟩
abbrev S_law : Stmt := top 49
def D_law : Pd.PDef := ⟨Pd.globAt "law", "law", "law", defArgs S_law, defBody S_law, defScope S_law, [], []⟩
abbrev S_Word___init__ : Stmt := inC 20 0
def D_Word___init__ : Pd.PDef := ⟨Pd.methAt "Word" "__init__", "__init__", "Word.__init__", defArgs S_Word___init__, defBody S_Word___init__, defScope S_Word___init__, [], []⟩
abbrev S_Word_text : Stmt := inC 20 1
def D_Word_text : Pd.PDef := ⟨Pd.getterAt "Word" "text", "text", "Word.text", defArgs S_Word_text, defBody S_Word_text, defScope S_Word_text, [], []⟩
abbrev S_Word_blocks : Stmt := inC 20 2
def D_Word_blocks : Pd.PDef := ⟨Pd.getterAt "Word" "blocks", "blocks", "Word.blocks", defArgs S_Word_blocks, defBody S_Word_blocks, defScope S_Word_blocks, [], []⟩
abbrev S_Word___eq__ : Stmt := inC 20 6
def D_Word___eq__ : Pd.PDef := ⟨Pd.methAt "Word" "__eq__", "__eq__", "Word.__eq__", defArgs S_Word___eq__, defBody S_Word___eq__, defScope S_Word___eq__, [], []⟩
abbrev S_Grown___init__ : Stmt := inC 33 0
def D_Grown___init__ : Pd.PDef := ⟨Pd.methAt "Grown" "__init__", "__init__", "Grown.__init__", defArgs S_Grown___init__, defBody S_Grown___init__, defScope S_Grown___init__, [], []⟩
abbrev S_Grown_text : Stmt := inC 33 1
def D_Grown_text : Pd.PDef := ⟨Pd.getterAt "Grown" "text", "text", "Grown.text", defArgs S_Grown_text, defBody S_Grown_text, defScope S_Grown_text, [], []⟩
abbrev S_Grown_blocks : Stmt := inC 33 2
def D_Grown_blocks : Pd.PDef := ⟨Pd.getterAt "Grown" "blocks", "blocks", "Grown.blocks", defArgs S_Grown_blocks, defBody S_Grown_blocks, defScope S_Grown_blocks, [], []⟩
abbrev S_Grown___eq__ : Stmt := inC 33 3
def D_Grown___eq__ : Pd.PDef := ⟨Pd.methAt "Grown" "__eq__", "__eq__", "Grown.__eq__", defArgs S_Grown___eq__, defBody S_Grown___eq__, defScope S_Grown___eq__, [], []⟩
abbrev S_Grown_at : Stmt := inC 33 4
def D_Grown_at : Pd.PDef := ⟨Pd.methAt "Grown" "at", "at", "Grown.at", defArgs S_Grown_at, defBody S_Grown_at, defScope S_Grown_at, [], []⟩
def fn : List Pd.PDef := [D_is_integer, D_is_said, D_whole_in, D_pieces_of, D_block_in, D_blocks_told, D_number_in, D_form_in, D_blocks_in, D__law_pot, D__law_take, D__law_of, D__law_cells, D__law_heard, D__law_odd, D__law_is_int, D__law_block_text, D__law_form_text, D__law_grown_text, D__law_grown_blocks, D__law_grown_at, D__law_is_at_right, D__law_right, D_law, D_Word___init__, D_Word_text, D_Word_blocks, D_Word___eq__, D_Grown___init__, D_Grown_text, D_Grown_blocks, D_Grown___eq__, D_Grown_at, D_CutError___init__]
def fx : List Fx := [
  .old (.glo "BadNumber"),
  .old (.glo "Grown"),
  .old (.glo "Word"),
  .old (.glo "_law_block_text"),
  .old (.glo "_law_cells"),
  .old (.glo "_law_form_text"),
  .old (.glo "_law_grown_at"),
  .old (.glo "_law_grown_blocks"),
  .old (.glo "_law_grown_text"),
  .old (.glo "_law_heard"),
  .old (.glo "_law_is_at_right"),
  .old (.glo "_law_is_int"),
  .old (.glo "_law_odd"),
  .old (.glo "_law_of"),
  .old (.glo "_law_pot"),
  .old (.glo "_law_right"),
  .old (.glo "_law_take"),
  .old (.glo "block_in"),
  .old (.glo "blocks_in"),
  .old (.glo "blocks_told"),
  .old (.glo "form_in"),
  .old (.glo "is_integer"),
  .old (.glo "is_said"),
  .old (.glo "number_in"),
  .old (.glo "pieces_of"),
  .old (.glo "whole_in"),
  .old (.glo "law"),
  .old (.glo "CutError"),
  .old (.int "BEYOND" 1000000000000000000000000000000),
  .old (.int "LEAST_BLOCKS" 2),
  .old (.int "LEAST_MANY" 2),
  .old (.int "MOST_BLOCKS_growing" 10),
  .old (.int "MOST_BLOCKS_words" 40),
  .old (.int "MOST_FIGURES" 40),
  .old (.int "MOST_MANY" 99),
  .old (.int "MOST_NUMBER" 100000000000000000000),
  .old (.int "MOST_TIMES" 9),
  .old (.str "FIGURES" ⟨List.toArray [48, 49, 50, 51, 52, 53, 54, 55, 56, 57]⟩),
  .old (.str "GROWS" ⟨List.toArray [78]⟩),
  .old (.str "LETTERS" ⟨List.toArray [97, 98, 99, 100, 101, 102, 103, 104, 105, 106, 107, 108, 109, 110, 111, 112, 113, 114, 115, 116, 117, 118, 119, 120, 121, 122]⟩),
  .old (.str "PLUS" ⟨List.toArray [43]⟩),
  .old (.free "abs"),
  .old (.free "all"),
  .old (.free "any"),
  .old (.free "bool"),
  .old (.free "enumerate"),
  .old (.free "int"),
  .old (.free "isinstance"),
  .old (.free "len"),
  .old (.free "list"),
  .old (.free "max"),
  .old (.free "min"),
  .old (.free "range"),
  .old (.free "repr"),
  .old (.free "str"),
  .old (.free "super"),
  .old (.free "tuple"),
  .old (.free "zip"),
  .old (.cls "Word"),
  .old (.mkr "Word"),
  .old (.noat "Word" "own_blocks"),
  .old (.noat "Word" "own_ends"),
  .old (.noat "Word" "own_text"),
  .prop "Word" "text",
  .prop "Word" "blocks",
  .old (.meth "Word" "__eq__"),
  .old (.cls "Grown"),
  .old (.mkr "Grown"),
  .old (.noat "Grown" "own_blocks"),
  .old (.noat "Grown" "own_text"),
  .prop "Grown" "text",
  .prop "Grown" "blocks",
  .old (.meth "Grown" "__eq__"),
  .old (.meth "Grown" "at"),
  .eqn "Word",
  .eqn "Grown",
  .exc "BadNumber",
  .sysd,
  .isiC "Word" (.inl "Grown") false,
  .sup "/claim/cut.py",
  .isi (.type "NoneType") (.inl "BadNumber") false,
  .isi (.type "bool") (.inl "BadNumber") false,
  .isi (.type "int") (.inl "BadNumber") false,
  .isi (.type "str") (.inl "BadNumber") false,
  .isi (.type "list") (.inl "BadNumber") false,
  .isi (.type "tuple") (.inl "BadNumber") false,
  .isi (.type "dict") (.inl "BadNumber") false,
  .isiC "BadNumber" (.inl "BadNumber") true,
  .ins "Word",
  .ins "Grown",
  .isi (.type "NoneType") (.inl "Grown") false,
  .isi (.type "bool") (.inl "Grown") false,
  .isi (.type "int") (.inl "Grown") false,
  .isi (.type "str") (.inl "Grown") false,
  .isi (.type "list") (.inl "Grown") false,
  .isi (.type "tuple") (.inl "Grown") false,
  .isi (.type "dict") (.inl "Grown") false,
  .isiC "Grown" (.inl "Grown") true,
  .isiC "Word" (.inl "Grown") false,
  .isi (.type "NoneType") (.inl "Word") false,
  .isi (.type "bool") (.inl "Word") false,
  .isi (.type "int") (.inl "Word") false,
  .isi (.type "str") (.inl "Word") false,
  .isi (.type "list") (.inl "Word") false,
  .isi (.type "tuple") (.inl "Word") false,
  .isi (.type "dict") (.inl "Word") false,
  .isiC "Word" (.inl "Word") true,
  .isiC "Grown" (.inl "Word") false,
  .isi (.type "NoneType") (.inr "bool") false,
  .isi (.type "bool") (.inr "bool") true,
  .isi (.type "int") (.inr "bool") false,
  .isi (.type "str") (.inr "bool") false,
  .isi (.type "list") (.inr "bool") false,
  .isi (.type "tuple") (.inr "bool") false,
  .isi (.type "dict") (.inr "bool") false,
  .isiC "Word" (.inr "bool") false,
  .isiC "Grown" (.inr "bool") false,
  .isi (.type "NoneType") (.inr "int") false,
  .isi (.type "bool") (.inr "int") true,
  .isi (.type "int") (.inr "int") true,
  .isi (.type "str") (.inr "int") false,
  .isi (.type "list") (.inr "int") false,
  .isi (.type "tuple") (.inr "int") false,
  .isi (.type "dict") (.inr "int") false,
  .isiC "Word" (.inr "int") false,
  .isiC "Grown" (.inr "int") false,
  .isi (.type "NoneType") (.inr "str") false,
  .isi (.type "bool") (.inr "str") false,
  .isi (.type "int") (.inr "str") false,
  .isi (.type "str") (.inr "str") true,
  .isi (.type "list") (.inr "str") false,
  .isi (.type "tuple") (.inr "str") false,
  .isi (.type "dict") (.inr "str") false,
  .isiC "Word" (.inr "str") false,
  .isiC "Grown" (.inr "str") false]
abbrev loose : List Str := (["_wall", "is_integer", "is_said", "whole_in", "pieces_of", "block_in", "blocks_told", "number_in", "form_in", "blocks_in", "_law_pot", "_law_take", "_law_of", "_law_cells", "_law_heard", "_law_odd", "_law_is_int", "_law_block_text", "_law_form_text", "_law_grown_text", "_law_grown_blocks", "_law_grown_at", "_law_is_at_right", "_law_right", "CutError", "BadWord", "BadPlace", "BadNumber", "BadGrown", "Word"] : List Str) ++ (["Grown", "__name__", "LETTERS", "FIGURES", "MOST_FIGURES", "MOST_BLOCKS_words", "BEYOND", "GROWS", "PLUS", "LEAST_BLOCKS", "MOST_BLOCKS_growing", "LEAST_MANY", "MOST_MANY", "MOST_TIMES", "MOST_NUMBER"] : List Str)
abbrev R : PySem.W.OpenRow := PySem.W.OpenLaw.row PySem.Challenge.rw_showncut_k45_growing_words_as_they_are_t
def ob (s : PySem.W.SharedT) : AlP := obsPG 6 fx fn (HandSHeadRun.getT s)
theorem ob_eq (s : PySem.W.SharedT) : ob s = (hookP 6 fx fn).obs s.abs := obsPG_eq (HandSHeadRun.getT_eq s)
theorem run (w : World) : HandSHeadRun.RunEq R (PySem.W.view R.prog [49]) (hookP 6 fx fn) ob 8000 loose w := by
  intro os
  kernel_rfl
abbrev DL := HandSHeadRun.topDef R.prog 49
theorem early (call : PySem.W.WalkO (PySem.W.view R.prog [49]) loose (PySem.W.XL (PySem.W.view R.prog [49]) []) (hookP 6 fx fn).says R.toRowW DL [] fun f vs => PySem.call f vs) : PySem.Challenge.rw_showncut_k45_growing_words_as_they_are_t.Holds := by
  w_on; o_law
  refine HandSHeadRun.head_any (r := R) (q := PySem.W.view R.prog [49]) (H := hookP 6 fx fn) (ob := ob) (M := 8000) (loose := loose) (d := DL) (kwd := []) ob_eq (by kernel_rfl) (fun s => by kernel_rfl) run (by rfl) (by rfl) (by rfl) (by rfl) (by first | assumption | decide +kernel) (by decide +kernel) ⟨rfl, rfl, rfl, rfl, rfl, by decide +kernel⟩ ?hw call
  case hw => w_witness2
end LW
namespace Pd
open PySem L2
inductive D where
  | non | bl (b : Bool) | int (i : Int) | str (s : List Nat) | lst (xs : List D) | tup (xs : List D)
  | obj (C : Addr) (fs : List (Str × D)) | pot | scr (ns : List Int) | ref (a : Addr) | tupK (xs : List D) | tupF (xs : List D)
  | err (C : Addr) (d : D) | dic (ks : List (List Nat)) (vs : List D)
def Exq (a C dx : Addr) : HO := .ext fun h => ∃ (oe : Obj) (vs : Array Value), h.get? a = some oe ∧ oe.cls = .ref C ∧ oe.dict = some dx ∧ oe.data = .fields vs
structure Gh where
  G : Hp
  pot : Addr → Prop
mutual
inductive Den (K : PySem.W.Frag) (g : Gh) : V → D → Prop
  | non : Den K g .non .non
  | bl (b : Bool) : Den K g (.bl b) (.bl b)
  | int (i : Int) : Den K g (.int i) (.int i)
  | str (l : List Nat) : Den K g (.str ⟨l.toArray⟩) (.str l)
  | lst {a : Addr} {vs : List V} {ds : List D} : g.G a = some (.lst vs) → Dens K g vs ds → Den K g (.ref a) (.lst ds)
  | tup {a : Addr} {vs : List V} {ds : List D} : Rd g.G a (.tup vs) → Dens K g vs ds → Den K g (.ref a) (.tup ds)
  | obj {a C dx : Addr} {fvs : List (Str × V)} {fs : List (Str × D)} : g.G a = some (.ins C dx fvs) → Flds K g fvs fs → Den K g (.ref a) (.obj C fs)
  | pot {a : Addr} : g.pot a → (∀ q, (a, q) ∉ tabsK K) → Den K g (.ref a) .pot
  | scr {a : Addr} {ns : List Int} : SqL K g.G a (ns.map V.int) → Den K g (.ref a) (.scr ns)
  | ref (a : Addr) : Den K g (.ref a) (.ref a)
  | tupK {a : Addr} {vs : List V} {ds : List D} : (∀ H : Hp, SqT K H a vs) → Dens K g vs ds → Den K g (.ref a) (.tupK ds)
  | tupF {a : Addr} {vs : List V} {ds : List D} {o : Obj} : g.G a = some (.frz o (.tup vs)) → o.cls = .type "tuple" → o.dict = none → Dens K g vs ds → Den K g (.ref a) (.tupF ds)
  | err {a C dx : Addr} {v : V} {d : D} : g.G a = some (Exq a C dx) → g.G dx = some (.xd [("value", v)]) → Den K g v d → Den K g (.ref a) (.err C d)
  | dic {a : Addr} {kvs : List (Key × V)} {ks : List (List Nat)} {ds : List D} : g.G a = some (.dK kvs) → kvs.map (·.1) = ks.map (fun x => Sum.inr ⟨x.toArray⟩) → Dens K g (kvs.map (·.2)) ds → Den K g (.ref a) (.dic ks ds)
inductive Dens (K : PySem.W.Frag) (g : Gh) : List V → List D → Prop
  | nil : Dens K g [] []
  | cons {v : V} {d : D} {vs : List V} {ds : List D} : Den K g v d → Dens K g vs ds → Dens K g (v :: vs) (d :: ds)
inductive Flds (K : PySem.W.Frag) (g : Gh) : List (Str × V) → List (Str × D) → Prop
  | nil : Flds K g [] []
  | cons {x : Str} {v : V} {d : D} {vs : List (Str × V)} {ds : List (Str × D)} : Den K g v d → Flds K g vs ds → Flds K g ((x, v) :: vs) ((x, d) :: ds)
end
theorem _root_.L2.Rd.same {G H : Hp} {a : Addr} {u : HO} (h : Rd G a u) (sm : Same G H) : Rd H a u := h.elim (fun h => .inl (sm _ _ h)) fun ⟨o, h⟩ => .inr ⟨o, sm _ _ h⟩
structure Ext (g g' : Gh) : Prop where
  G : Same g.G g'.G
  p : ∀ a, g.pot a → g'.pot a
theorem Ext.refl (g : Gh) : Ext g g := ⟨Same.refl _, fun _ h => h⟩
theorem Ext.trans {g g1 g2 : Gh} (a : Ext g g1) (b : Ext g1 g2) : Ext g g2 := ⟨a.G.trans b.G, fun x h => b.p x (a.p x h)⟩
section
variable {K : PySem.W.Frag} {g g' : Gh}
mutual
theorem Den.mono (e : Ext g g') : ∀ {v : V} {d : D}, Den K g v d → Den K g' v d
  | _, _, .non => .non
  | _, _, .bl b => .bl b
  | _, _, .int i => .int i
  | _, _, .str l => .str l
  | _, _, .lst h1 h2 => .lst (e.G _ _ h1) (Dens.mono e h2)
  | _, _, .tup h1 h2 => .tup (h1.same e.G) (Dens.mono e h2)
  | _, _, .obj h1 h2 => .obj (e.G _ _ h1) (Flds.mono e h2)
  | _, _, .pot h hn => .pot (e.p _ h) hn
  | _, _, .scr h => .scr (e.G.seq h)
  | _, _, .ref a => .ref a
  | _, _, .tupK h1 h2 => .tupK h1 (Dens.mono e h2)
  | _, _, .tupF h1 c d h2 => .tupF (e.G _ _ h1) c d (Dens.mono e h2)
  | _, _, .err h1 h2 h3 => .err (e.G _ _ h1) (e.G _ _ h2) (Den.mono e h3)
  | _, _, .dic h1 h2 h3 => .dic (e.G _ _ h1) h2 (Dens.mono e h3)
theorem Dens.mono (e : Ext g g') : ∀ {vs : List V} {ds : List D}, Dens K g vs ds → Dens K g' vs ds
  | _, _, .nil => .nil
  | _, _, .cons h t => .cons (Den.mono e h) (Dens.mono e t)
theorem Flds.mono (e : Ext g g') : ∀ {vs : List (Str × V)} {ds : List (Str × D)}, Flds K g vs ds → Flds K g' vs ds
  | _, _, .nil => .nil
  | _, _, .cons h t => .cons (Den.mono e h) (Flds.mono e t)
end
theorem Dens.length : ∀ {vs : List V} {ds : List D}, Dens K g vs ds → vs.length = ds.length
  | _, _, .nil => rfl
  | _, _, .cons _ t => congrArg Nat.succ (Dens.length t)
theorem Dens.append : ∀ {vs ws : List V} {ds es : List D}, Dens K g vs ds → Dens K g ws es → Dens K g (vs ++ ws) (ds ++ es)
  | _, _, _, _, .nil, s => s
  | _, _, _, _, .cons h t, s => .cons h (Dens.append t s)
theorem Dens.get : ∀ {vs : List V} {ds : List D} {i : Nat} {d : D}, Dens K g vs ds → ds[i]? = some d → ∃ v, vs[i]? = some v ∧ Den K g v d
  | _, _, _, _, .nil, e => by simp at e
  | _, _, 0, _, .cons h _, e => by simp at e; subst e; exact ⟨_, rfl, h⟩
  | _, _, i + 1, d, .cons _ t, e => by
    obtain ⟨v, h1, h2⟩ := Dens.get (i := i) (d := d) t (by simpa using e)
    exact ⟨v, by simpa using h1, h2⟩
theorem Dens.getV : ∀ {vs : List V} {ds : List D} {i : Nat} {v : V}, Dens K g vs ds → vs[i]? = some v → ∃ d, ds[i]? = some d ∧ Den K g v d
  | _, _, _, _, .nil, e => by simp at e
  | _, _, 0, _, .cons h _, e => by simp at e; subst e; exact ⟨_, rfl, h⟩
  | _, _, i + 1, v, .cons _ t, e => by
    obtain ⟨d, h1, h2⟩ := Dens.getV (i := i) (v := v) t (by simpa using e)
    exact ⟨d, by simpa using h1, h2⟩
theorem Dens.set {v : V} {d : D} (h : Den K g v d) : ∀ {vs : List V} {ds : List D} (i : Nat), Dens K g vs ds → Dens K g (vs.set i v) (ds.set i d)
  | _, _, _, .nil => .nil
  | _, _, 0, .cons _ t => .cons h t
  | _, _, i + 1, .cons q t => .cons q (Dens.set h i t)
theorem Dens.take : ∀ {vs : List V} {ds : List D} (n : Nat), Dens K g vs ds → Dens K g (vs.take n) (ds.take n)
  | _, _, 0, _ => .nil
  | _, _, _ + 1, .nil => .nil
  | _, _, n + 1, .cons h t => .cons h (Dens.take n t)
theorem Dens.drop : ∀ {vs : List V} {ds : List D} (n : Nat), Dens K g vs ds → Dens K g (vs.drop n) (ds.drop n)
  | _, _, 0, r => r
  | _, _, _ + 1, .nil => .nil
  | _, _, n + 1, .cons _ t => Dens.drop n t
theorem Dens.reverse : ∀ {vs : List V} {ds : List D}, Dens K g vs ds → Dens K g vs.reverse ds.reverse
  | _, _, .nil => .nil
  | _, _, .cons h t => by
    rw [List.reverse_cons, List.reverse_cons]
    exact (Dens.reverse t).append (.cons h .nil)
theorem Dens.ints : ∀ {vs : List V} {ns : List Int}, Dens K g vs (ns.map D.int) → vs = ns.map V.int
  | _, [], .nil => rfl
  | _, n :: ns, .cons (.int _) t => by
    rw [Dens.ints t]
    rfl
theorem Dens.bls : ∀ {vs : List V} {ns : List Bool}, Dens K g vs (ns.map D.bl) → vs = ns.map V.bl
  | _, [], .nil => rfl
  | _, n :: ns, .cons (.bl _) t => by
    rw [Dens.bls t]
    rfl
theorem Dens.strs : ∀ {vs : List V} {ns : List (List Nat)}, Dens K g vs (ns.map D.str) → vs = (ns.map fun l => (⟨l.toArray⟩ : Str)).map V.str
  | _, [], .nil => rfl
  | _, n :: ns, .cons (.str _) t => by
    rw [Dens.strs t]
    rfl
end
def PotH (n : Nat) (o : Option HO) : Prop := ∃ x y z : Int, o = some (.lst [.int x, .int y, .int z]) ∧ 0 ≤ x ∧ x.natAbs < 2 ^ 1100 ∧ 0 ≤ y ∧ y < 2 ^ 61 ∧ 0 ≤ z ∧ z + n ≤ 1000000000
def Lite (u : HO) : Prop := (∃ vs, u = .lst vs) ∨ ∃ C dx fs, u = .ins C dx fs
structure TOk (T : List (Addr × Str)) (pot : Addr → Prop) (H : Hp) : Prop where
  tabs : LamX.Tabs T H
  tp : ∀ p, p ∈ T → pot p.1
  all : ∀ a ps, H a = some (.tbl ps) → ∃ q, (a, q) ∈ T
theorem codeO_lite {c : Addr} {q : Str} (h : Lite (LamX.CodeO c q)) : False := by
  unfold LamX.CodeO at h
  rcases h with ⟨vs, h⟩ | ⟨C, dx, fs, h⟩ <;> cases h
theorem TOk.at {T : List (Addr × Str)} {pot : Addr → Prop} {H H' : Hp} (t : TOk T pot H) (h1 : ∀ a ps, H' a = some (.tbl ps) → H a = some (.tbl ps)) (h2 : ∀ a u, H a = some u → ¬ Lite u → H' a = some u) : TOk T pot H' := by
  refine ⟨fun p hp => ?_, t.tp, fun a ps e => t.all a ps (h1 a ps e)⟩
  obtain ⟨ps, a1, a2, a3⟩ := t.tabs p hp
  refine ⟨ps, h2 _ _ a1 (by rintro (⟨vs, z⟩ | ⟨C, dx, fs, z⟩) <;> cases z), a2, fun pos cv hc => ?_⟩
  obtain ⟨c, b1, b2⟩ := a3 pos cv hc
  exact ⟨c, b1, h2 _ _ b2 fun z => codeO_lite z⟩
theorem TOk.upd {T : List (Addr × Str)} {pot : Addr → Prop} {H : Hp} (t : TOk T pot H) {p : Addr} {o : HO} (hp : ∀ u, H p = some u → Lite u) (ho : ∀ ps, o ≠ .tbl ps) : TOk T pot (L2.upd H p o) := by
  refine t.at (fun a ps e => ?_) fun a u e n => ?_
  · by_cases q : a = p
    · subst q
      rw [upd_same] at e
      cases e
      exact (ho ps rfl).elim
    · rw [upd_ne q] at e
      exact e
  · rw [upd_ne fun q => n (hp u (by rw [← q]; exact e))]
    exact e
theorem TOk.new {T : List (Addr × Str)} {pot : Addr → Prop} {H : Hp} (t : TOk T pot H) {p : Addr} {o : HO} (hp : H p = none) (ho : ∀ ps, o ≠ .tbl ps) : TOk T pot (L2.upd H p o) :=
  t.upd (fun u e => by rw [hp] at e; cases e) ho
theorem TOk.no {T : List (Addr × Str)} {pot : Addr → Prop} {H : Hp} (t : TOk T pot H) {p : Addr} (h : ∀ ps, H p ≠ some (.tbl ps)) (q : Str) : (p, q) ∉ T := fun z => by
  obtain ⟨ps, a1, _⟩ := t.tabs _ z
  exact h ps a1
theorem TOk.pots {T : List (Addr × Str)} {pot pot' : Addr → Prop} {H : Hp} (t : TOk T pot H) (h : ∀ a, pot a → pot' a) : TOk T pot' H := ⟨t.tabs, fun p hp => h _ (t.tp p hp), t.all⟩
structure Ok (K : PySem.W.Frag) (g : Gh) (H : Hp) (n : Nat) : Prop where
  sub : Same g.G H
  pot : ∀ a, g.pot a → g.G a = none ∧ ((∃ q, (a, q) ∈ tabsK K) ∨ PotH n (H a))
  t : TOk (tabsK K) g.pot H
structure Stp (g : Gh) (H : Hp) (g' : Gh) (H' : Hp) : Prop where
  ext : Ext g g'
  gro : ∀ a, H a ≠ none → g.G a = none → g'.G a = none
  grp : ∀ a, H a ≠ none → g'.pot a → g.pot a
  kep : ∀ a o, H a = some o → ¬ g.pot a → H' a = some o
  dom : ∀ a, H a ≠ none → H' a ≠ none
theorem Stp.refl (g : Gh) (H : Hp) : Stp g H g H := ⟨Ext.refl g, fun _ _ h => h, fun _ _ h => h, fun _ _ h _ => h, fun _ h => h⟩
theorem Stp.trans {g g1 g2 : Gh} {H H1 H2 : Hp} (a : Stp g H g1 H1) (b : Stp g1 H1 g2 H2) : Stp g H g2 H2 :=
  ⟨a.ext.trans b.ext, fun x h q => b.gro x (a.dom x h) (a.gro x h q), fun x h q => a.grp x h (b.grp x (a.dom x h) q),
    fun x o h q => b.kep x o (a.kep x o h q) fun z => q (a.grp x (by rw [h]; exact Option.some_ne_none o) z), fun x h => b.dom x (a.dom x h)⟩
def Gh.add (g : Gh) (p : Addr) (o : HO) : Gh := ⟨upd g.G p o, g.pot⟩
theorem Ok.gnone {K : PySem.W.Frag} {g : Gh} {H : Hp} {n : Nat} (ok : Ok K g H n) {p : Addr} (h : H p = none) : g.G p = none := by
  cases q : g.G p with
  | none => rfl
  | some o =>
    rw [ok.sub p o q] at h
    cases h
theorem Ok.npot {K : PySem.W.Frag} {g : Gh} {H : Hp} {n : Nat} (ok : Ok K g H n) {p : Addr} (h : H p = none) : ¬ g.pot p := fun z => by
  obtain ⟨_, ⟨q, w⟩ | ⟨x, y, w, e, _⟩⟩ := ok.pot p z
  · obtain ⟨ps, e, _⟩ := ok.t.tabs _ w
    have e : H p = some (.tbl ps) := e
    rw [h] at e
    cases e
  · rw [h] at e
    cases e
theorem Ok.potH {K : PySem.W.Frag} {g : Gh} {H : Hp} {n : Nat} (ok : Ok K g H n) {p : Addr} (h : g.pot p) (hn : ∀ q, (p, q) ∉ tabsK K) : PotH n (H p) := (ok.pot p h).2.elim (fun ⟨q, z⟩ => absurd z (hn q)) id
theorem Ok.add {K : PySem.W.Frag} {g : Gh} {H : Hp} {n : Nat} (ok : Ok K g H n) {p : Addr} {o : HO} (h : H p = none) (ho : ∀ ps, o ≠ .tbl ps := by (intro ps z; cases z)) : Ok K (g.add p o) (upd H p o) n := by
  refine ⟨fun a u e => ?_, fun a z => ?_, ok.t.new h ho⟩
  · by_cases q : a = p
    · subst q
      have e2 : upd g.G a o a = some u := e
      rw [upd_same] at e2 ⊢
      exact e2
    · have e2 : upd g.G p o a = some u := e
      rw [upd_ne q] at e2 ⊢
      exact ok.sub a u e2
  · have z2 : g.pot a := z
    have q : a ≠ p := fun e => ok.npot h (by rw [← e]; exact z2)
    obtain ⟨h1, h2⟩ := ok.pot a z2
    refine ⟨?_, ?_⟩
    · show upd g.G p o a = none
      rw [upd_ne q]
      exact h1
    · rw [upd_ne q]
      exact h2
theorem Stp.add {K : PySem.W.Frag} {g : Gh} {H : Hp} {n : Nat} (ok : Ok K g H n) {p : Addr} {o : HO} (h : H p = none) : Stp g H (g.add p o) (upd H p o) := by
  refine ⟨⟨fun a u e => ?_, fun _ z => z⟩, fun a d e => ?_, fun _ _ z => z, fun a u e _ => ?_, fun a d => ?_⟩
  · show upd g.G p o a = some u
    rw [upd_ne (ne_of_none (ok.sub a u e) h)]
    exact e
  · show upd g.G p o a = none
    rw [upd_ne fun q => d (by rw [q]; exact h)]
    exact e
  · rw [upd_ne (ne_of_none e h)]
    exact e
  · rw [upd_ne fun q => d (by rw [q]; exact h)]
    exact d
theorem Gh.at {g : Gh} {p : Addr} {o : HO} : (g.add p o).G p = some o := upd_same
inductive OD where
  | lst (ds : List D) | ins (C : Addr) (fs : List (Str × D))
def OD.d : OD → D
  | .lst ds => .lst ds
  | .ins C fs => .obj C fs
def OwnH (K : PySem.W.Frag) (g : Gh) : OD → HO → Prop
  | .lst ds, o => ∃ vs, o = .lst vs ∧ Dens K g vs ds
  | .ins C fs, o => ∃ dx fvs, o = .ins C dx fvs ∧ Flds K g fvs fs
theorem OwnH.lite {K : PySem.W.Frag} {g : Gh} {d : OD} {o : HO} (h : OwnH K g d o) : Lite o := by
  cases d with
  | lst ds =>
    obtain ⟨vs, e1, _⟩ := h
    exact .inl ⟨vs, e1⟩
  | ins C fs =>
    obtain ⟨dx, fvs, e1, _⟩ := h
    exact .inr ⟨C, dx, fvs, e1⟩
theorem Lite.nt {o : HO} (h : Lite o) (ps : Array Value) : o ≠ .tbl ps := by
  rcases h with ⟨vs, rfl⟩ | ⟨C, dx, fs, rfl⟩ <;> intro z <;> cases z
theorem OwnH.mono {K : PySem.W.Frag} {g g' : Gh} {d : OD} {o : HO} (h : OwnH K g d o) (e : Ext g g') : OwnH K g' d o := by
  cases d with
  | lst ds =>
    obtain ⟨vs, e1, e2⟩ := h
    exact ⟨vs, e1, e2.mono e⟩
  | ins C fs =>
    obtain ⟨dx, fvs, e1, e2⟩ := h
    exact ⟨dx, fvs, e1, e2.mono e⟩
theorem OwnH.den {K : PySem.W.Frag} {g : Gh} {d : OD} {o : HO} {p : Addr} (h : OwnH K g d o) (e : g.G p = some o) : Den K g (.ref p) d.d := by
  cases d with
  | lst ds =>
    obtain ⟨vs, e1, e2⟩ := h
    subst e1
    exact .lst e e2
  | ins C fs =>
    obtain ⟨dx, fvs, e1, e2⟩ := h
    subst e1
    exact .obj e e2
inductive Sl where
  | no | val (d : D) | own (o : OD)
abbrev Ev := List Sl
def SlOk (K : PySem.W.Frag) (O : OD → Addr → Prop) (g : Gh) (H : Hp) (s : Option (Option V)) : Sl → Prop
  | .no => True
  | .val d => ∃ v, s = some (some v) ∧ Den K g v d
  | .own d => ∃ p o, s = some (some (.ref p)) ∧ O d p ∧ g.G p = none ∧ ¬ g.pot p ∧ H p = some o ∧ OwnH K g d o
structure Rp (K : PySem.W.Frag) (O : OD → Addr → Prop) (g : Gh) (H : Hp) (n : Nat) (σ : L2.St) (ε : Ev) : Prop where
  ok : Ok K g H n
  len : σ.length = ε.length
  sl : ∀ (i : Nat) (s : Sl), ε[i]? = some s → SlOk K O g H σ[i]? s
  dis : ∀ (i j : Nat) (p : Addr) (ds es : OD), i ≠ j → ε[i]? = some (.own ds) → ε[j]? = some (.own es) → σ[i]? = some (some (.ref p)) → σ[j]? = some (some (.ref p)) → False
section
variable {K : PySem.W.Frag} {O : OD → Addr → Prop} {g g' : Gh} {H H' : Hp} {n n' : Nat} {σ : L2.St} {ε : Ev}
theorem SlOk.step {s : Option (Option V)} {x : Sl} (h : SlOk K O g H s x) (st : Stp g H g' H') : SlOk K O g' H' s x := by
  cases x with
  | no => trivial
  | val d =>
    obtain ⟨v, e, q⟩ := h
    exact ⟨v, e, q.mono st.ext⟩
  | own ds =>
    obtain ⟨p, vs, e, o, h1, h2, h3, h4⟩ := h
    have d : H p ≠ none := by rw [h3]; exact Option.some_ne_none _
    exact ⟨p, vs, e, o, st.gro p d h1, fun z => h2 (st.grp p d z), st.kep p _ h3 h2, h4.mono st.ext⟩
theorem Rp.step (r : Rp K O g H n σ ε) (st : Stp g H g' H') (ok : Ok K g' H' n') : Rp K O g' H' n' σ ε :=
  ⟨ok, r.len, fun i s e => (r.sl i s e).step st, r.dis⟩
theorem Rp.set (r : Rp K O g H n σ ε) {i : Nat} {v : V} {d : D} (h : Den K g v d) : Rp K O g H n (σ.set i (some v)) (ε.set i (.val d)) := by
  refine ⟨r.ok, by rw [List.length_set, List.length_set]; exact r.len, fun j s e => ?_, fun j k p ds es hjk e1 e2 e3 e4 => ?_⟩
  · by_cases q : i = j
    · subst q
      have hl : i < ε.length := by
        rcases Nat.lt_or_ge i ε.length with z | z
        · exact z
        · rw [List.getElem?_eq_none (by rw [List.length_set]; exact z)] at e
          cases e
      rw [List.getElem?_set_self hl] at e
      cases e
      exact ⟨v, List.getElem?_set_self (by rw [r.len]; exact hl), h⟩
    · rw [List.getElem?_set_ne q] at e ⊢
      exact r.sl j s e
  · have nown : ∀ {m : Nat} {fs : OD}, (ε.set i (.val d))[m]? = some (.own fs) → i ≠ m := fun {m fs} z q => by
      subst q
      rw [List.getElem?_set] at z
      simp at z
    have q1 := nown e1
    have q2 := nown e2
    rw [List.getElem?_set_ne q1] at e1 e3
    rw [List.getElem?_set_ne q2] at e2 e4
    exact r.dis j k p ds es hjk e1 e2 e3 e4
def wipeE (ε : Ev) : List Nat → Ev
  | [] => ε
  | v :: vs => (wipeE ε vs).set v .no
theorem Rp.unset (r : Rp K O g H n σ ε) (i : Nat) : Rp K O g H n (σ.set i none) (ε.set i .no) := by
  refine ⟨r.ok, by rw [List.length_set, List.length_set]; exact r.len, fun j s e => ?_, fun j k p ds es hjk e1 e2 e3 e4 => ?_⟩
  · by_cases q : i = j
    · subst q
      have hl : i < ε.length := by
        rcases Nat.lt_or_ge i ε.length with z | z
        · exact z
        · rw [List.getElem?_eq_none (by rw [List.length_set]; exact z)] at e
          cases e
      rw [List.getElem?_set_self hl] at e
      cases e
      trivial
    · rw [List.getElem?_set_ne q] at e ⊢
      exact r.sl j s e
  · have nown : ∀ {m : Nat} {fs : OD}, (ε.set i .no)[m]? = some (.own fs) → i ≠ m := fun {m fs} z q => by
      subst q
      rw [List.getElem?_set] at z
      simp at z
    have q1 := nown e1
    have q2 := nown e2
    rw [List.getElem?_set_ne q1] at e1 e3
    rw [List.getElem?_set_ne q2] at e2 e4
    exact r.dis j k p ds es hjk e1 e2 e3 e4
theorem Rp.wipe (r : Rp K O g H n σ ε) : ∀ vs : List Nat, Rp K O g H n (wipe σ vs) (wipeE ε vs)
  | [] => r
  | v :: vs => (Rp.wipe r vs).unset v
def frzE (ε : Ev) (i : Nat) : Ev := match ε[i]? with
  | some (.own d) => ε.set i (.val d.d)
  | _ => ε
theorem Ok.addOld (ok : Ok K g H n) {p : Addr} {o : HO} (h : H p = some o) (h2 : ¬ g.pot p) : Ok K (g.add p o) H n := by
  refine ⟨fun a u e => ?_, fun a z => ?_, ok.t⟩
  · by_cases q : a = p
    · subst q
      have e2 : upd g.G a o a = some u := e
      rw [upd_same] at e2
      rw [h]
      exact e2
    · have e2 : upd g.G p o a = some u := e
      rw [upd_ne q] at e2
      exact ok.sub a u e2
  · have z2 : g.pot a := z
    obtain ⟨h3, h4⟩ := ok.pot a z2
    refine ⟨?_, h4⟩
    show upd g.G p o a = none
    rw [upd_ne fun e => h2 (by rw [← e]; exact z2)]
    exact h3
theorem Ext.addOld {p : Addr} {o : HO} (h : g.G p = none) : Ext g (g.add p o) := ⟨fun a u q => by
  show upd g.G p o a = some u
  rw [upd_ne (ne_of_none q h)]
  exact q, fun _ z => z⟩
theorem frz_own {i : Nat} {ds : OD} (e : ε[i]? = some (.own ds)) : frzE ε i = ε.set i (.val ds.d) := by
  unfold frzE
  rw [e]
theorem Rp.freezeAt (r : Rp K O g H n σ ε) {i : Nat} {p : Addr} {vs : HO} {ds : OD} (e : ε[i]? = some (.own ds)) (e1 : σ[i]? = some (some (.ref p))) (h1 : g.G p = none) (h2 : ¬ g.pot p) (h3 : H p = some vs) (h4 : OwnH K g ds vs) :
    Rp K O (g.add p vs) H n σ (ε.set i (.val ds.d)) := by
  have ex : Ext g (g.add p vs) := Ext.addOld h1
  have hl : i < ε.length := (List.getElem?_eq_some_iff.mp e).1
  refine ⟨r.ok.addOld h3 h2, by rw [List.length_set]; exact r.len, fun j s q => ?_, fun j k q es fs hjk e2 e3 e4 e5 => ?_⟩
  · by_cases hj : i = j
    · subst hj
      rw [List.getElem?_set_self hl] at q
      cases q
      exact ⟨_, e1, (h4.mono ex).den upd_same⟩
    · rw [List.getElem?_set_ne hj] at q
      have w := r.sl j s q
      cases s with
      | no => trivial
      | val d =>
        obtain ⟨v, w1, w2⟩ := w
        exact ⟨v, w1, w2.mono ex⟩
      | own es =>
        obtain ⟨p2, vs2, w1, o2, w2, w3, w4, w5⟩ := w
        refine ⟨p2, vs2, w1, o2, ?_, w3, w4, w5.mono ex⟩
        show upd g.G p vs p2 = none
        rw [upd_ne fun z => r.dis i j p ds es hj e q e1 (by rw [← z]; exact w1)]
        exact w2
  · have nown : ∀ {m : Nat} {fs : OD}, (ε.set i (.val ds.d))[m]? = some (.own fs) → i ≠ m := fun {m fs} z q => by
      subst q
      rw [List.getElem?_set] at z
      simp at z
    have q1 := nown e2
    have q2 := nown e3
    rw [List.getElem?_set_ne q1] at e2
    rw [List.getElem?_set_ne q2] at e3
    exact r.dis j k q es fs hjk e2 e3 e4 e5
theorem Rp.freeze {g0 : Gh} {H0 : Hp} {U : OD → Addr → Prop} (r : Rp K (fun d p => H0 p = none ∧ U d p) g H n σ ε) (st : Stp g0 H0 g H) (i : Nat) : ∃ g', Stp g0 H0 g' H ∧ Rp K (fun d p => H0 p = none ∧ U d p) g' H n σ (frzE ε i) := by
  cases e : ε[i]? with
  | none =>
    have z : frzE ε i = ε := by unfold frzE; rw [e]
    rw [z]
    exact ⟨g, st, r⟩
  | some s =>
    cases s with
    | no =>
      have z : frzE ε i = ε := by unfold frzE; rw [e]
      rw [z]
      exact ⟨g, st, r⟩
    | val d =>
      have z : frzE ε i = ε := by unfold frzE; rw [e]
      rw [z]
      exact ⟨g, st, r⟩
    | own ds =>
      rw [frz_own e]
      obtain ⟨p, vs, e1, o, h1, h2, h3, h4⟩ := r.sl i _ e
      refine ⟨g.add p vs, ⟨st.ext.trans (Ext.addOld h1), fun a d q => ?_, st.grp, st.kep, st.dom⟩, r.freezeAt e e1 h1 h2 h3 h4⟩
      show upd g.G p vs a = none
      have o2 : H0 p = none := o.1
      rw [upd_ne fun z => d (by rw [z]; exact o2)]
      exact st.gro a d q
theorem Rp.tmp (r : Rp K O g H n σ ε) (i : Nat) : ∃ g1, Rp K O g1 H n σ (frzE ε i) ∧ ∀ g' H' n', Stp g1 H g' H' → Ok K g' H' n' → ∃ g'', Stp g H g'' H' ∧ Ok K g'' H' n' := by
  cases e : ε[i]? with
  | none =>
    have z : frzE ε i = ε := by unfold frzE; rw [e]
    rw [z]
    exact ⟨g, r, fun g' H' n' a b => ⟨g', a, b⟩⟩
  | some s =>
    cases s with
    | no =>
      have z : frzE ε i = ε := by unfold frzE; rw [e]
      rw [z]
      exact ⟨g, r, fun g' H' n' a b => ⟨g', a, b⟩⟩
    | val d =>
      have z : frzE ε i = ε := by unfold frzE; rw [e]
      rw [z]
      exact ⟨g, r, fun g' H' n' a b => ⟨g', a, b⟩⟩
    | own ds =>
      rw [frz_own e]
      obtain ⟨p, vs, e1, o, h1, h2, h3, h4⟩ := r.sl i _ e
      refine ⟨g.add p vs, r.freezeAt e e1 h1 h2 h3 h4, fun g' H' n' a b => ⟨⟨fun x => if x = p then none else g'.G x, g'.pot⟩, ⟨⟨fun x u q => ?_, a.ext.p⟩, fun x d q => ?_, a.grp, a.kep, a.dom⟩, ⟨fun x u q => ?_, fun x z => ?_, b.t⟩⟩⟩
      · show (if x = p then none else g'.G x) = some u
        rw [if_neg (ne_of_none q h1)]
        exact a.ext.G x u ((Ext.addOld (o := vs) h1).G x u q)
      · show (if x = p then none else g'.G x) = none
        by_cases w : x = p
        · rw [if_pos w]
        · rw [if_neg w]
          refine a.gro x d ?_
          show upd g.G p vs x = none
          rw [upd_ne w]
          exact q
      · have q2 : (if x = p then none else g'.G x) = some u := q
        by_cases w : x = p
        · rw [if_pos w] at q2
          cases q2
        · rw [if_neg w] at q2
          exact b.sub x u q2
      · obtain ⟨z1, z2⟩ := b.pot x z
        refine ⟨?_, z2⟩
        show (if x = p then none else g'.G x) = none
        by_cases w : x = p
        · rw [if_pos w]
        · rw [if_neg w]
          exact z1
end
end Pd
namespace Pd
open PySem L2
abbrev DE := Nat → Ev → (Nat → D → Prop) → Prop
abbrev DT := Nat → Ev → (Nat → Bool → Prop) → Prop
abbrev DA := Nat → Ev → (Nat → List D → Prop) → Prop
structure DN where
  nx : Nat → Ev → Prop
  rt : Nat → D → Prop
  bk : Nat → Ev → Prop := fun _ _ => False
  ct : Nat → Ev → Prop := fun _ _ => False
  slf : Option Addr := none
  ret : Nat → Ev → D → Prop := fun _ _ _ => False
  rs : Nat → Ev → Nat → Prop := fun _ _ _ => False
  xc : Nat → Ev → Addr → D → Prop := fun _ _ _ _ => False
abbrev DS := DN → Nat → Ev → Prop
def liftE (K : PySem.W.Frag) (d : DE) : TE := fun σ H Q => ∃ O g n ε P, Rp K O g H n σ ε ∧ d n ε P ∧ ∀ v g' H' n' r, P n' r → Stp g H g' H' → Ok K g' H' n' → Den K g' v r → Q v H'
def liftT (K : PySem.W.Frag) (d : DT) : TT := fun σ H Q => ∃ O g n ε P, Rp K O g H n σ ε ∧ d n ε P ∧ ∀ b g' H' n', P n' b → Stp g H g' H' → Ok K g' H' n' → Q b H'
def liftA (K : PySem.W.Frag) (d : DA) : TA := fun σ H Q => ∃ O g n ε P, Rp K O g H n σ ε ∧ d n ε P ∧ ∀ vs g' H' n' rs, P n' rs → Stp g H g' H' → Ok K g' H' n' → Dens K g' vs rs → Q vs H'
structure UOk (s : Option Addr) (U : OD → Addr → Prop) : Prop where
  lst : ∀ ds p, U (.lst ds) p
  ins : ∀ C fs fs' p, U (.ins C fs) p → U (.ins C fs') p
  new : ∀ C fs p, s ≠ some C → U (.ins C fs) p
abbrev W0 : WX := fun _ _ _ _ => False
def liftS (W : WX) (K : PySem.W.Frag) (d : DS) : TS := fun E σ H => ∃ U g0 H0 g n ε N, UOk N.slf U ∧ Rp K (fun d p => H0 p = none ∧ U d p) g H n σ ε ∧ Stp g0 H0 g H ∧ d N n ε ∧
  (∀ σ' g' H' n' ε', N.nx n' ε' → Rp K (fun d p => H0 p = none ∧ U d p) g' H' n' σ' ε' → Stp g0 H0 g' H' → E.nx σ' H') ∧
  (∀ σ' g' H' n' ε', N.bk n' ε' → Rp K (fun d p => H0 p = none ∧ U d p) g' H' n' σ' ε' → Stp g0 H0 g' H' → E.bk σ' H') ∧
  (∀ σ' g' H' n' ε', N.ct n' ε' → Rp K (fun d p => H0 p = none ∧ U d p) g' H' n' σ' ε' → Stp g0 H0 g' H' → E.ct σ' H') ∧
  (∀ v g' H' n' r, N.rt n' r → Stp g0 H0 g' H' → Ok K g' H' n' → Den K g' v r → E.rt v H') ∧
  (∀ v σ' g' H' n' ε' r, N.ret n' ε' r → Rp K (fun d p => H0 p = none ∧ U d p) g' H' n' σ' ε' → Stp g0 H0 g' H' → Den K g' v r → E.rt v H') ∧
  (∀ σ' g' H' n' ε' i p, N.rs n' ε' i → Rp K (fun d p => H0 p = none ∧ U d p) g' H' n' σ' ε' → Stp g0 H0 g' H' → σ'[i]? = some (some (.ref p)) → E.rt (.ref p) H') ∧
  (∀ σ' g' H' n' ε' C dx r v, N.xc n' ε' C r → Rp K (fun d p => H0 p = none ∧ U d p) g' H' n' σ' ε' → Stp g0 H0 g' H' → g'.G dx = some (.xd [("value", v)]) → Den K g' v r → W (.ref C) (some dx) σ' H')
section
variable {X : Cx} {e : Expr} {es : List Expr} {st : Stmt} {sts : List Stmt}
theorem pe_w {t t' : TE} (h : PE X e t) (w : ∀ σ H Q, t' σ H Q → t σ H Q) : PE X e t' := ⟨fun pins s σ H Q I q => h.run pins s σ H Q I (w σ H Q q)⟩
theorem pt_w {t t' : TT} (h : PT X e t) (w : ∀ σ H Q, t' σ H Q → t σ H Q) : PT X e t' := ⟨fun pins s σ H Q I q => h.run pins s σ H Q I (w σ H Q q)⟩
theorem pw_w {t t' : TT} (h : PW X e t) (w : ∀ σ H Q, t' σ H Q → t σ H Q) : PW X e t' := ⟨fun wh pins s σ H Q I q => h.run wh pins s σ H Q I (w σ H Q q)⟩
theorem pa_w {t t' : TA} (h : PA X es t) (w : ∀ σ H Q, t' σ H Q → t σ H Q) : PA X es t' := ⟨fun pos pins s σ H Q I q => h.run pos pins s σ H Q I (w σ H Q q)⟩
theorem ps_w {t t' : TS} (h : PS X st t) (w : ∀ E σ H, t' E σ H → t E σ H) : PS X st t' := ⟨fun pins s σ H E I q => h.run pins s σ H E I (w E σ H q)⟩
theorem pss_w {t t' : TS} (h : PSs X sts t) (w : ∀ E σ H, t' E σ H → t E σ H) : PSs X sts t' := ⟨fun pins s σ H E I q => h.run pins s σ H E I (w E σ H q)⟩
end
def Fin (K : PySem.W.Frag) (g : Gh) (H : Hp) (n : Nat) (P : D → Prop) (Q : VK) : Prop := ∀ v g' H' r, P r → Stp g H g' H' → Ok K g' H' n → Den K g' v r → Q v H'
section
variable {K : PySem.W.Frag} {g : Gh} {H : Hp} {n : Nat} {P : D → Prop} {Q : VK}
theorem Fin.flat (f : Fin K g H n P Q) (ok : Ok K g H n) {v : V} {d : D} (p : P d) (h : Den K g v d) : Q v H := f v g H d p (Stp.refl g H) ok h
theorem Fin.newL (f : Fin K g H n P Q) (ok : Ok K g H n) {vs : List V} {ds : List D} (p : P (.lst ds)) (h : Dens K g vs ds) {a : Addr} (ha : H a = none) : Q (.ref a) (upd H a (.lst vs)) :=
  f _ _ _ _ p (Stp.add ok ha) (ok.add ha) (.lst Gh.at (h.mono (Stp.add ok ha).ext))
theorem Fin.newT (f : Fin K g H n P Q) (ok : Ok K g H n) {vs : List V} {ds : List D} (p : P (.tup ds)) (h : Dens K g vs ds) {a : Addr} (ha : H a = none) : Q (.ref a) (upd H a (.tup vs)) :=
  f _ _ _ _ p (Stp.add ok ha) (ok.add ha) (.tup (.inl Gh.at) (h.mono (Stp.add ok ha).ext))
end
theorem sz {n : Nat} (h : n ≤ 16777216) : n ≤ sizeLine := by
  rw [sizeLine_eq]
  exact h
def dVar (i : Nat) : DE := fun n ε P => match ε[i]? with
  | some (.val d) => P n d
  | _ => False
def dC (d : D) : DE := fun n _ P => P n d
section
variable {X : Cx} {pos : Pos}
theorem de_of {e : Expr} {t : TE} {d : DE} (h : PE X e t) (w : ∀ O g H n σ ε P Q, Rp X.K O g H n σ ε → d n ε P → (∀ v g' H' n' r, P n' r → Stp g H g' H' → Ok X.K g' H' n' → Den X.K g' v r → Q v H') → t σ H Q) : PE X e (liftE X.K d) :=
  pe_w h fun σ H Q ⟨O, g, n, ε, P, r, q, k⟩ => w O g H n σ ε P Q r q k
theorem de_var (i : Nat) {x : Str} (hN : X.N[i]? = some x := by rfl) (hv : Vis X.env.scope x := by first | exact Or.inl rfl | exact Or.inr (Or.inl rfl) | exact Or.inr (Or.inr rfl)) (hd : (x == ("__debug__" : Str)) = false := by decide)
    (hcd : (x == ("__classdict__" : Str)) = false := by decide) : PE X (.Name x pos) (liftE X.K (dVar i)) :=
  de_of (pe_var hN hv hd hcd) fun O g H n σ ε P Q r q k => by
    unfold dVar at q
    split at q
    · rename_i d e
      obtain ⟨v, e1, e2⟩ := r.sl i _ e
      exact ⟨v, e1, k v g H n d q (Stp.refl g H) r.ok e2⟩
    · exact q.elim
theorem de_c {e : Expr} {v : V} {d : D} (h : PE X e (tC v)) (hd : ∀ g, Den X.K g v d) : PE X e (liftE X.K (dC d)) :=
  de_of h fun O g H n σ ε P Q r q k => k v g H n d q (Stp.refl g H) r.ok (hd g)
theorem de_int {i : Int} {j : Nat} : PE X (.Constant (.int i) j pos) (liftE X.K (dC (.int i))) := de_c pe_int fun _ => .int i
theorem de_bl {i : Bool} {j : Nat} : PE X (.Constant (.bool i) j pos) (liftE X.K (dC (.bl i))) := de_c pe_bl fun _ => .bl i
theorem de_non {j : Nat} : PE X (.Constant .none j pos) (liftE X.K (dC .non)) := de_c pe_non fun _ => .non
theorem de_str (l : List Nat) {x : Str} {j : Nat} (h : x = ⟨l.toArray⟩ := by decide +kernel) : PE X (.Constant (.str x) j pos) (liftE X.K (dC (.str l))) := by
  subst h
  exact de_c pe_str fun _ => .str l
theorem de_gint {x : Str} {i : Int} (hg : Gl X x) (hm : ∃ t, X.mg x = some (.int i t)) (hd : (x == ("__debug__" : Str)) = false := by decide) : PE X (.Name x pos) (liftE X.K (dC (.int i))) := by
  obtain ⟨t, e⟩ := hm
  exact de_c (pe_glob (v := .int i) hg e ⟨t, rfl⟩ hd) fun _ => .int i
theorem de_gstr {x : Str} (l : List Nat) (hg : Gl X x) (hm : ∃ t, X.mg x = some (.str ⟨l.toArray⟩ t)) (hd : (x == ("__debug__" : Str)) = false := by decide) : PE X (.Name x pos) (liftE X.K (dC (.str l))) := by
  obtain ⟨t, e⟩ := hm
  exact de_c (pe_glob (v := .str ⟨l.toArray⟩) hg e ⟨t, rfl⟩ hd) fun _ => .str l
end
abbrev G2 := D → D → (D → Prop) → Prop
structure SOp (K : PySem.W.Frag) (r : R2) (go : G2) : Prop where
  ok : ∀ {g : Gh} {H : Hp} {n : Nat} {x y : V} {dx dy : D} {P : D → Prop} {Q : VK}, Ok K g H n → Den K g x dx → Den K g y dy → go dx dy P → Fin K g H n P Q → r x y H Q
def dOp (go : G2) (da db : DE) : DE := fun n ε P => da n ε fun n1 x => db n1 ε fun n2 y => go x y (P n2)
theorem two_ok {K : PySem.W.Frag} {da db : DE} {σ : L2.St} {H : Hp} {O : OD → Addr → Prop} {g : Gh} {n : Nat} {ε : Ev} {R : Nat → D → D → Prop} {S : V → V → Hp → Prop} (r : Rp K O g H n σ ε) (q : da n ε fun n1 x => db n1 ε fun n2 y => R n2 x y)
    (k : ∀ x y g' H' n' dx dy, R n' dx dy → Stp g H g' H' → Ok K g' H' n' → Den K g' x dx → Den K g' y dy → S x y H') : liftE K da σ H fun x H1 => liftE K db σ H1 fun y H2 => S x y H2 :=
  ⟨O, g, n, ε, _, r, q, fun v1 g1 H1 n1 d1 q1 s1 o1 e1 => ⟨O, g1, n1, ε, _, r.step s1 o1, q1, fun v2 g2 H2 n2 d2 q2 s2 o2 e2 => k v1 v2 g2 H2 n2 d1 d2 q2 (s1.trans s2) o2 (e1.mono s2.ext) e2⟩⟩
section
variable {X : Cx} {pos : Pos} {a b c : Expr} {da db dc : DE}
theorem Fin.of {K : PySem.W.Frag} {g g' : Gh} {H H' : Hp} {n' : Nat} {P : Nat → D → Prop} {Q : VK} (k : ∀ v g' H' n' r, P n' r → Stp g H g' H' → Ok K g' H' n' → Den K g' v r → Q v H') (s : Stp g H g' H') : Fin K g' H' n' (P n') Q :=
  fun v g2 H2 r p s2 o2 e2 => k v g2 H2 n' r p (s.trans s2) o2 e2
theorem de_op {op : Operator} {r : R2} {go : G2} (ho : OpR X (binaryOp op) r) (hs : SOp X.K r go) (ha : PE X a (liftE X.K da)) (hb : PE X b (liftE X.K db)) : PE X (.BinOp a op b pos) (liftE X.K (dOp go da db)) :=
  de_of (pe_op ho ha hb) fun O g H n σ ε P Q r q k => two_ok r q fun x y g' H' n' dx dy q2 s o e1 e2 => hs.ok o e1 e2 q2 (Fin.of k s)
theorem de_cmp {op : CmpOp} {r : R2} {go : G2} (ho : OpR X (compareOp op) r) (hs : SOp X.K r go) (ha : PE X a (liftE X.K da)) (hb : PE X b (liftE X.K db)) (hm : behindInMarks op b = false := by first | exact nomark _ | rfl) : PE X (.Compare a [op] [b] pos) (liftE X.K (dOp go da db)) :=
  de_of (pe_cmpR ho ha hb hm) fun O g H n σ ε P Q r q k => two_ok r q fun x y g' H' n' dx dy q2 s o e1 e2 => hs.ok o e1 e2 q2 (Fin.of k s)
def dTB (d : DE) : DT := fun n ε P => d n ε fun n' x => match x with
  | .bl b => P n' b
  | _ => False
theorem dtb_ok {K : PySem.W.Frag} {O : OD → Addr → Prop} {g : Gh} {H : Hp} {n : Nat} {σ : L2.St} {ε : Ev} {d : DE} {P : Nat → Bool → Prop} {Q : Bool → Hp → Prop} (r : Rp K O g H n σ ε) (q : dTB d n ε P) (k : ∀ b g' H' n', P n' b → Stp g H g' H' → Ok K g' H' n' → Q b H') :
    liftE K d σ H fun x H' => ∃ k, x = .bl k ∧ Q k H' :=
  ⟨O, g, n, ε, _, r, q, fun v g' H' n' x q s o e => by
    cases x with
    | bl b =>
      cases e
      exact ⟨b, rfl, k b g' H' n' q s o⟩
    | _ => exact q.elim⟩
theorem dt_cmp {op : CmpOp} {r : R2} {go : G2} (ho : OpR X (compareOp op) r) (hs : SOp X.K r go) (ha : PE X a (liftE X.K da)) (hb : PE X b (liftE X.K db)) (hm : behindInMarks op b = false := by first | exact nomark _ | rfl) : PT X (.Compare a [op] [b] pos) (liftT X.K (dTB (dOp go da db))) :=
  pt_w (pt_cmpR ho ha hb hm) fun σ H Q ⟨O, g, n, ε, P, r, q, k⟩ => two_ok r q fun x y g' H' n' dx dy q2 s o e1 e2 => hs.ok o e1 e2 q2 (Fin.of (P := fun n' x => match x with
    | .bl b => P n' b
    | _ => False) (fun v g2 H2 n2 z p s2 o2 e3 => by
      cases z with
      | bl b =>
        cases e3
        exact ⟨b, rfl, k b g2 H2 n2 p s2 o2⟩
      | _ => exact p.elim) s)
theorem dt_val (ha : PE X a (liftE X.K da)) (he : ∀ whole, isTrue a X.env whole = (do let v ← whole; standAt a.pos; holding [v] (truthy v)) := by intro _; rfl) : PT X a (liftT X.K (dTB da)) :=
  pt_w (pt_val ha he) fun σ H Q ⟨O, g, n, ε, P, r, q, k⟩ => dtb_ok r q k
end
def dAnd (s t : DT) : DT := fun n ε P => s n ε fun n1 b => (b = true → t n1 ε P) ∧ (b = false → P n1 false)
def dOr (s t : DT) : DT := fun n ε P => s n ε fun n1 b => (b = true → P n1 true) ∧ (b = false → t n1 ε P)
def dNot (s : DT) : DT := fun n ε P => s n ε fun n1 b => P n1 (!b)
def dBV (s : DT) : DE := fun n ε P => s n ε fun n1 b => P n1 (.bl b)
section
variable {X : Cx} {pos : Pos} {a b c : Expr} {da db dc : DE} {s t : DT} {rest : List Expr}
theorem and_ok {K : PySem.W.Frag} : ∀ σ H Q, liftT K (dAnd s t) σ H Q → tAnd (liftT K s) (liftT K t) σ H Q := fun σ H Q ⟨O, g, n, ε, P, r, q, k⟩ =>
  ⟨O, g, n, ε, _, r, q, fun b g1 H1 n1 q1 s1 o1 => by
    cases b with
    | true => exact ⟨O, g1, n1, ε, P, r.step s1 o1, q1.1 rfl, fun b2 g2 H2 n2 q2 s2 o2 => k b2 g2 H2 n2 q2 (s1.trans s2) o2⟩
    | false => exact k false g1 H1 n1 (q1.2 rfl) s1 o1⟩
theorem or_ok {K : PySem.W.Frag} : ∀ σ H Q, liftT K (dOr s t) σ H Q → tOr (liftT K s) (liftT K t) σ H Q := fun σ H Q ⟨O, g, n, ε, P, r, q, k⟩ =>
  ⟨O, g, n, ε, _, r, q, fun b g1 H1 n1 q1 s1 o1 => by
    cases b with
    | false => exact ⟨O, g1, n1, ε, P, r.step s1 o1, q1.2 rfl, fun b2 g2 H2 n2 q2 s2 o2 => k b2 g2 H2 n2 q2 (s1.trans s2) o2⟩
    | true => exact k true g1 H1 n1 (q1.1 rfl) s1 o1⟩
theorem dw_and1 (ha : PT X a (liftT X.K s)) : PW X (.BoolOp .And [a] pos) (liftT X.K s) := pw_and1 ha
theorem dw_or1 (ha : PT X a (liftT X.K s)) : PW X (.BoolOp .Or [a] pos) (liftT X.K s) := pw_or1 ha
theorem dw_and (ha : PT X a (liftT X.K s)) (hb : PW X (.BoolOp .And (b :: rest) pos) (liftT X.K t)) : PW X (.BoolOp .And (a :: b :: rest) pos) (liftT X.K (dAnd s t)) := pw_w (pw_and ha hb) and_ok
theorem dw_or (ha : PT X a (liftT X.K s)) (hb : PW X (.BoolOp .Or (b :: rest) pos) (liftT X.K t)) : PW X (.BoolOp .Or (a :: b :: rest) pos) (liftT X.K (dOr s t)) := pw_w (pw_or ha hb) or_ok
theorem dt_w (h : PW X a (liftT X.K s)) : PT X a (liftT X.K s) := h.pt
theorem dt_not (ha : PT X a (liftT X.K s)) : PT X (.UnaryOp .Not a pos) (liftT X.K (dNot s)) := pt_w (pt_not ha) fun σ H Q ⟨O, g, n, ε, P, r, q, k⟩ =>
  ⟨O, g, n, ε, _, r, q, fun b g1 H1 n1 q1 s1 o1 => k (!b) g1 H1 n1 q1 s1 o1⟩
def dAndV (s : DT) (d : DE) : DE := fun n ε P => s n ε fun n1 b => (b = true → d n1 ε P) ∧ (b = false → P n1 (.bl false))
def dOrV (s : DT) (d : DE) : DE := fun n ε P => s n ε fun n1 b => (b = true → P n1 (.bl true)) ∧ (b = false → d n1 ε P)
theorem de_one {op : BoolOp} (h : PE X a (liftE X.K da)) : PE X (.BoolOp op [a] pos) (liftE X.K da) := pe_one h
theorem de_and (ha : PE X a (liftE X.K da)) (hb : PE X (.BoolOp .And (b :: rest) pos) (liftE X.K db)) : PE X (.BoolOp .And (a :: b :: rest) pos) (liftE X.K (dAndV (dTB da) db)) :=
  de_of (pe_and ha hb) fun O g H n σ ε P Q r q k => ⟨O, g, n, ε, _, r, q, fun v g1 H1 n1 x q1 s1 o1 e1 => by
    cases x with
    | bl c =>
      cases e1
      refine ⟨c, rfl, ?_⟩
      cases c with
      | true => exact ⟨O, g1, n1, ε, P, r.step s1 o1, q1.1 rfl, fun v2 g2 H2 n2 d2 q2 s2 o2 e2 => k v2 g2 H2 n2 d2 q2 (s1.trans s2) o2 e2⟩
      | false => exact k _ g1 H1 n1 _ (q1.2 rfl) s1 o1 (.bl false)
    | _ => exact q1.elim⟩
theorem de_or (ha : PE X a (liftE X.K da)) (hb : PE X (.BoolOp .Or (b :: rest) pos) (liftE X.K db)) : PE X (.BoolOp .Or (a :: b :: rest) pos) (liftE X.K (dOrV (dTB da) db)) :=
  de_of (pe_or ha hb) fun O g H n σ ε P Q r q k => ⟨O, g, n, ε, _, r, q, fun v g1 H1 n1 x q1 s1 o1 e1 => by
    cases x with
    | bl c =>
      cases e1
      refine ⟨c, rfl, ?_⟩
      cases c with
      | false => exact ⟨O, g1, n1, ε, P, r.step s1 o1, q1.2 rfl, fun v2 g2 H2 n2 d2 q2 s2 o2 e2 => k v2 g2 H2 n2 d2 q2 (s1.trans s2) o2 e2⟩
      | true => exact k _ g1 H1 n1 _ (q1.1 rfl) s1 o1 (.bl true)
    | _ => exact q1.elim⟩
def dIte (t : DT) (da db : DE) : DE := fun n ε P => t n ε fun n1 c => (c = true → da n1 ε P) ∧ (c = false → db n1 ε P)
theorem de_ite (hc : PT X c (liftT X.K t)) (ha : PE X a (liftE X.K da)) (hb : PE X b (liftE X.K db)) : PE X (.IfExp c a b pos) (liftE X.K (dIte t da db)) :=
  de_of (pe_ifExp hc ha hb) fun O g H n σ ε P Q r q k => ⟨O, g, n, ε, _, r, q, fun c g1 H1 n1 q1 s1 o1 => by
    cases c with
    | true => exact ⟨O, g1, n1, ε, P, r.step s1 o1, q1.1 rfl, fun v2 g2 H2 n2 d2 q2 s2 o2 e2 => k v2 g2 H2 n2 d2 q2 (s1.trans s2) o2 e2⟩
    | false => exact ⟨O, g1, n1, ε, P, r.step s1 o1, q1.2 rfl, fun v2 g2 H2 n2 d2 q2 s2 o2 e2 => k v2 g2 H2 n2 d2 q2 (s1.trans s2) o2 e2⟩⟩
def dChain (go go' : G2) (da db dc : DE) : DE := fun n ε P => da n ε fun n1 x => db n1 ε fun n2 y => go x y fun z => match z with
  | .bl k => (k = true → dc n2 ε fun n3 w => go' y w (P n3)) ∧ (k = false → P n2 (.bl false))
  | _ => False
end
def dNil : DA := fun n _ P => P n []
def dCons (d : DE) (t : DA) : DA := fun n ε P => d n ε fun n1 x => t n1 ε fun n2 xs => P n2 (x :: xs)
def dLst (t : DA) : DE := fun n ε P => t n ε fun n1 xs => xs.length ≤ 16777216 ∧ P n1 (.lst xs)
def dTup (t : DA) : DE := fun n ε P => t n ε fun n1 xs => xs.length ≤ 16777216 ∧ P n1 (.tup xs)
section
variable {X : Cx} {pos : Pos} {e : Expr} {es : List Expr} {d : DE} {t : DA}
theorem da_nil : PA X [] (liftA X.K dNil) := pa_w pa_nil fun σ H Q ⟨O, g, n, ε, P, r, q, k⟩ => k [] g H n [] q (Stp.refl g H) r.ok .nil
theorem da_cons (ha : PE X e (liftE X.K d)) (hr : PA X es (liftA X.K t)) (hs : starEach (e :: es) X.env = (false, eval e X.env) :: starEach es X.env := by rfl) : PA X (e :: es) (liftA X.K (dCons d t)) :=
  pa_w (pa_cons ha hr hs) fun σ H Q ⟨O, g, n, ε, P, r, q, k⟩ => ⟨O, g, n, ε, _, r, q, fun v1 g1 H1 n1 d1 q1 s1 o1 e1 => ⟨O, g1, n1, ε, _, r.step s1 o1, q1, fun vs g2 H2 n2 ds q2 s2 o2 e2 => k _ g2 H2 n2 _ q2 (s1.trans s2) o2 (.cons (e1.mono s2.ext) e2)⟩⟩
theorem de_lst (h : PA X es (liftA X.K t)) : PE X (.List es pos) (liftE X.K (dLst t)) :=
  de_of (pe_lst h) fun O g H n σ ε P Q r q k => ⟨O, g, n, ε, _, r, q, fun vs g1 H1 n1 ds q1 s1 o1 e1 => ⟨by rw [e1.length]; exact sz q1.1, fun p hp => k _ _ _ n1 _ q1.2 (s1.trans (Stp.add o1 hp)) (o1.add hp) (.lst Gh.at (e1.mono (Stp.add o1 hp).ext))⟩⟩
theorem de_tup {x1 : Nat} (h : PA X es (liftA X.K t)) : PE X (.Tuple es x1 pos) (liftE X.K (dTup t)) :=
  de_of (pe_tup h) fun O g H n σ ε P Q r q k => ⟨O, g, n, ε, _, r, q, fun vs g1 H1 n1 ds q1 s1 o1 e1 => ⟨by rw [e1.length]; exact sz q1.1, fun p hp => k _ _ _ n1 _ q1.2 (s1.trans (Stp.add o1 hp)) (o1.add hp) (.tup (.inl Gh.at) (e1.mono (Stp.add o1 hp).ext))⟩⟩
end
end Pd
namespace Pd
open PySem L2
variable {W : WX}
abbrev DO := Nat → Ev → (Nat → List D → Prop) → Prop
def liftO (K : PySem.W.Frag) (d : DO) : TE := fun σ H Q => ∃ O g n ε P, Rp K O g H n σ ε ∧ d n ε P ∧ ∀ p vs g' H' n' ds, P n' ds → Stp g H g' H' → Ok K g' H' n' → H p = none → g'.G p = none → ¬ g'.pot p → H' p = some (.lst vs) → Dens K g' vs ds → Q (.ref p) H'
def dO (d : DO) : DE := fun n ε P => d n ε fun n' ds => P n' (.lst ds)
def dLstO (t : DA) : DO := fun n ε P => t n ε fun n1 xs => xs.length ≤ 16777216 ∧ P n1 xs
theorem new_own {K : PySem.W.Frag} {g : Gh} {H : Hp} {n : Nat} (ok : Ok K g H n) {p : Addr} (hp : H p = none) (o : HO) (ho : ∀ ps, o ≠ .tbl ps := by (intro ps z; cases z)) : Stp g H g (upd H p o) ∧ Ok K g (upd H p o) n ∧ g.G p = none ∧ ¬ g.pot p := by
  have h1 := ok.gnone hp
  have h2 := ok.npot hp
  refine ⟨⟨Ext.refl g, fun _ _ z => z, fun _ _ z => z, fun a u e _ => ?_, fun a d => ?_⟩, ⟨fun a u e => ?_, fun a z => ?_, ok.t.new hp ho⟩, h1, h2⟩
  · rw [upd_ne (ne_of_none e hp)]
    exact e
  · rw [upd_ne fun q => d (by rw [q]; exact hp)]
    exact d
  · rw [upd_ne (ne_of_none e h1)]
    exact ok.sub a u e
  · rw [upd_ne fun q => h2 (by rw [← q]; exact z)]
    exact ok.pot a z
section
variable {X : Cx} {pos : Pos} {e : Expr} {es : List Expr} {d : DO} {t : DA}
theorem do_lst (h : PA X es (liftA X.K t)) : PE X (.List es pos) (liftO X.K (dLstO t)) :=
  pe_w (pe_lst h) fun σ H Q ⟨O, g, n, ε, P, r, q, k⟩ => ⟨O, g, n, ε, _, r, q, fun vs g1 H1 n1 ds q1 s1 o1 e1 => ⟨by rw [e1.length]; exact sz q1.1, fun p hp => by
    obtain ⟨z1, z2, z3, z4⟩ := new_own o1 hp (.lst vs)
    have hp0 : H p = none := by
      cases w : H p with
      | none => rfl
      | some u => exact absurd hp (s1.dom p (by rw [w]; exact Option.some_ne_none u))
    exact k p vs g1 _ n1 ds q1.2 (s1.trans z1) z2 hp0 z3 z4 upd_same e1⟩⟩
theorem de_own (h : PE X e (liftO X.K d)) : PE X e (liftE X.K (dO d)) :=
  pe_w h fun σ H Q ⟨O, g, n, ε, P, r, q, k⟩ => ⟨O, g, n, ε, _, r, q, fun p vs g' H' n' ds q1 s1 o1 h0 h1 h2 h3 h4 => by
    have ex : Ext g' (g'.add p (.lst vs)) := Ext.addOld h1
    have st : Stp g H (g'.add p (.lst vs)) H' := ⟨s1.ext.trans ex, fun a dd z => by
      show upd g'.G p (.lst vs) a = none
      rw [upd_ne fun w => dd (by rw [w]; exact h0)]
      exact s1.gro a dd z, s1.grp, s1.kep, s1.dom⟩
    exact k _ _ H' n' _ q1 st (o1.addOld h3 h2) (.lst Gh.at (h4.mono ex))⟩
end
abbrev DB := Nat → Ev → (Nat → List Sl → Prop) → Prop
inductive Sls (K : PySem.W.Frag) (g : Gh) (H0 H : Hp) : List V → List Sl → Prop
  | nil : Sls K g H0 H [] []
  | val {v : V} {d : D} {vs : List V} {ss : List Sl} : Den K g v d → Sls K g H0 H vs ss → Sls K g H0 H (v :: vs) (.val d :: ss)
  | own {p : Addr} {o : HO} {d : List D} {vs : List V} {ss : List Sl} : H0 p = none → g.G p = none → ¬ g.pot p → H p = some o → OwnH K g (.lst d) o → (∀ (i : Nat) (d' : OD), ss[i]? = some (.own d') → vs[i]? ≠ some (.ref p)) → Sls K g H0 H vs ss → Sls K g H0 H (.ref p :: vs) (.own (.lst d) :: ss)
def liftB (K : PySem.W.Frag) (d : DB) : TA := fun σ H Q => ∃ O g n ε P, Rp K O g H n σ ε ∧ d n ε P ∧ ∀ vs g' H' n' ss, P n' ss → Stp g H g' H' → Ok K g' H' n' → Sls K g' H H' vs ss → Q vs H'
section
variable {K : PySem.W.Frag} {g g' : Gh} {H0 H1 H H' : Hp}
theorem Sls.length : ∀ {vs : List V} {ss : List Sl}, Sls K g H0 H vs ss → vs.length = ss.length
  | _, _, .nil => rfl
  | _, _, .val _ t => congrArg Nat.succ (Sls.length t)
  | _, _, .own _ _ _ _ _ _ t => congrArg Nat.succ (Sls.length t)
theorem Sls.back (h : ∀ p, H1 p = none → H0 p = none) : ∀ {vs : List V} {ss : List Sl}, Sls K g H1 H vs ss → Sls K g H0 H vs ss
  | _, _, .nil => .nil
  | _, _, .val a t => .val a (Sls.back h t)
  | _, _, .own a b c d e f t => .own (h _ a) b c d e f (Sls.back h t)
theorem Sls.fresh : ∀ {vs : List V} {ss : List Sl} {i : Nat} {d : OD} {p : Addr}, Sls K g H0 H vs ss → ss[i]? = some (.own d) → vs[i]? = some (.ref p) → H0 p = none
  | _, _, _, _, _, .nil, e, _ => by simp at e
  | _, _, 0, _, _, .val _ _, e, _ => by simp at e
  | _, _, i + 1, _, _, .val _ t, e, q => Sls.fresh (i := i) t (by simpa using e) (by simpa using q)
  | _, _, 0, _, _, .own a _ _ _ _ _ _, _, q => by
    simp at q
    rw [← q]
    exact a
  | _, _, i + 1, _, _, .own _ _ _ _ _ _ t, e, q => Sls.fresh (i := i) t (by simpa using e) (by simpa using q)
end
theorem Stp.back0 {g g' : Gh} {H H' : Hp} (s : Stp g H g' H') {p : Addr} (h : H' p = none) : H p = none := by
  cases w : H p with
  | none => rfl
  | some u => exact absurd h (s.dom p (by rw [w]; exact Option.some_ne_none u))
def bNil : DB := fun n _ P => P n []
def bCons (d : DE) (t : DB) : DB := fun n ε P => d n ε fun n1 x => t n1 ε fun n2 xs => P n2 (.val x :: xs)
def bOwn (d : DO) (t : DB) : DB := fun n ε P => d n ε fun n1 x => t n1 ε fun n2 xs => P n2 (.own (.lst x) :: xs)
section
variable {X : Cx} {pos : Pos} {e : Expr} {es : List Expr} {d : DE} {o : DO} {t : DB}
theorem db_nil : PA X [] (liftB X.K bNil) := pa_w pa_nil fun σ H Q ⟨O, g, n, ε, P, r, q, k⟩ => k [] g H n [] q (Stp.refl g H) r.ok .nil
theorem db_cons (ha : PE X e (liftE X.K d)) (hr : PA X es (liftB X.K t)) (hs : starEach (e :: es) X.env = (false, eval e X.env) :: starEach es X.env := by rfl) : PA X (e :: es) (liftB X.K (bCons d t)) :=
  pa_w (pa_cons ha hr hs) fun σ H Q ⟨O, g, n, ε, P, r, q, k⟩ => ⟨O, g, n, ε, _, r, q, fun v1 g1 H1 n1 d1 q1 s1 o1 e1 => ⟨O, g1, n1, ε, _, r.step s1 o1, q1, fun vs g2 H2 n2 ds q2 s2 o2 e2 =>
    k _ g2 H2 n2 _ q2 (s1.trans s2) o2 (.val (e1.mono s2.ext) (e2.back fun p z => s1.back0 z))⟩⟩
theorem db_own (ha : PE X e (liftO X.K o)) (hr : PA X es (liftB X.K t)) (hs : starEach (e :: es) X.env = (false, eval e X.env) :: starEach es X.env := by rfl) : PA X (e :: es) (liftB X.K (bOwn o t)) :=
  pa_w (pa_cons ha hr hs) fun σ H Q ⟨O, g, n, ε, P, r, q, k⟩ => ⟨O, g, n, ε, _, r, q, fun p vs1 g1 H1 n1 d1 q1 s1 o1 h0 h1 h2 h3 h4 => ⟨O, g1, n1, ε, _, r.step s1 o1, q1, fun vs g2 H2 n2 ds q2 s2 o2 e2 => by
    have dn : H1 p ≠ none := by rw [h3]; exact Option.some_ne_none _
    refine k _ g2 H2 n2 _ q2 (s1.trans s2) o2 (.own h0 (s2.gro p dn h1) (fun z => h2 (s2.grp p dn z)) (s2.kep p _ h3 h2) ⟨vs1, rfl, h4.mono s2.ext⟩ (fun i d' z w => ?_) (e2.back fun p z => s1.back0 z))
    exact dn (e2.fresh z w)⟩⟩
end
def setV (σ : L2.St) : List Nat → List V → L2.St
  | [], _ => σ
  | _ :: _, [] => σ
  | i :: is, v :: vs => setV (σ.set i (some v)) is vs
def setL (ε : Ev) : List Nat → List Sl → Ev
  | [], _ => ε
  | _ :: _, [] => ε
  | i :: is, s :: ss => setL (ε.set i s) is ss
theorem setV_nil {σ : L2.St} {vs : List V} : setV σ [] vs = σ := by cases vs <;> rfl
theorem setL_nil {ε : Ev} {ss : List Sl} : setL ε [] ss = ε := by cases ss <;> rfl
section
variable {K : PySem.W.Frag} {O : OD → Addr → Prop} {g : Gh} {H Hb : Hp} {n : Nat}
theorem Rp.setOwn {σ : L2.St} {ε : Ev} (r : Rp K O g H n σ ε) {i : Nat} {p : Addr} {o : HO} {d : OD} (ho : O d p) (h1 : g.G p = none) (h2 : ¬ g.pot p) (h3 : H p = some o) (h4 : OwnH K g d o)
    (h5 : ∀ (j : Nat) (d' : OD), ε[j]? = some (.own d') → σ[j]? ≠ some (some (.ref p))) : Rp K O g H n (σ.set i (some (.ref p))) (ε.set i (.own d)) := by
  refine ⟨r.ok, by rw [List.length_set, List.length_set]; exact r.len, fun j s e => ?_, fun j k q ds es hjk e1 e2 e3 e4 => ?_⟩
  · by_cases q : i = j
    · subst q
      have hl : i < ε.length := by
        rcases Nat.lt_or_ge i ε.length with z | z
        · exact z
        · rw [List.getElem?_eq_none (by rw [List.length_set]; exact z)] at e
          cases e
      rw [List.getElem?_set_self hl] at e
      cases e
      exact ⟨p, o, List.getElem?_set_self (by rw [r.len]; exact hl), ho, h1, h2, h3, h4⟩
    · rw [List.getElem?_set_ne q] at e ⊢
      exact r.sl j s e
  · by_cases a : i = j
    · subst a
      have hk : i ≠ k := hjk
      rw [List.getElem?_set_ne hk] at e2 e4
      have hl : i < σ.length := by
        rcases Nat.lt_or_ge i σ.length with z | z
        · exact z
        · rw [List.getElem?_eq_none (by rw [List.length_set]; exact z)] at e3
          cases e3
      rw [List.getElem?_set_self hl] at e3
      cases e3
      exact h5 k _ e2 e4
    · rw [List.getElem?_set_ne a] at e1 e3
      by_cases b : i = k
      · subst b
        have hl : i < σ.length := by
          rcases Nat.lt_or_ge i σ.length with z | z
          · exact z
          · rw [List.getElem?_eq_none (by rw [List.length_set]; exact z)] at e4
            cases e4
        rw [List.getElem?_set_self hl] at e4
        cases e4
        exact h5 j _ e1 e3
      · rw [List.getElem?_set_ne b] at e2 e4
        exact r.dis j k q ds es hjk e1 e2 e3 e4
theorem Rp.mut {σ : L2.St} {ε : Ev} (r : Rp K O g H n σ ε) {i : Nat} {p : Addr} {o : HO} {d d' : OD} (e : ε[i]? = some (.own d)) (e1 : σ[i]? = some (some (.ref p))) (h4 : OwnH K g d' o) (hO : O d p → O d' p) :
    Rp K O g (upd H p o) n σ (ε.set i (.own d')) := by
  obtain ⟨p', o', e1', ho, h1, h2, h3, hl0⟩ := r.sl i _ e
  rw [e1] at e1'
  cases e1'
  have hl : i < ε.length := (List.getElem?_eq_some_iff.mp e).1
  refine ⟨⟨fun a u q => ?_, fun a z => ?_, r.ok.t.upd (fun u z => ?_) h4.lite.nt⟩, by rw [List.length_set]; exact r.len, fun j s q => ?_, fun j k q ds es hjk e2 e3 e4 e5 => ?_⟩
  · rw [upd_ne (ne_of_none q h1)]
    exact r.ok.sub a u q
  · rw [upd_ne fun w => h2 (by rw [← w]; exact z)]
    exact r.ok.pot a z
  · rw [h3] at z
    cases z
    exact hl0.lite
  · by_cases w : i = j
    · subst w
      rw [List.getElem?_set_self hl] at q
      cases q
      exact ⟨p, o, e1, hO ho, h1, h2, upd_same, h4⟩
    · rw [List.getElem?_set_ne w] at q
      have z := r.sl j s q
      cases s with
      | no => trivial
      | val d => exact z
      | own d =>
        obtain ⟨p2, o2, w1, w2, w3, w4, w5, w6⟩ := z
        refine ⟨p2, o2, w1, w2, w3, w4, ?_, w6⟩
        rw [upd_ne fun z => r.dis i j p _ _ w e q e1 (by rw [← z]; exact w1)]
        exact w5
  · have back : ∀ {m : Nat} {f : OD}, (ε.set i (.own d'))[m]? = some (.own f) → ∃ f', ε[m]? = some (.own f') := fun {m f} z => by
      by_cases w : i = m
      · subst w
        exact ⟨d, e⟩
      · rw [List.getElem?_set_ne w] at z
        exact ⟨f, z⟩
    obtain ⟨f1, z1⟩ := back e2
    obtain ⟨f2, z2⟩ := back e3
    exact r.dis j k q f1 f2 hjk z1 z2 e4 e5
theorem Stp.mut {g0 : Gh} {H0 : Hp} (s : Stp g0 H0 g H) {p : Addr} {o : HO} (h : H0 p = none) : Stp g0 H0 g (upd H p o) :=
  ⟨s.ext, s.gro, s.grp, fun a u q z => by
    rw [upd_ne (ne_of_none q h)]
    exact s.kep a u q z, fun a q => by
    rw [upd_ne fun w => q (by rw [w]; exact h)]
    exact s.dom a q⟩
theorem Rp.setLs : ∀ (is : List Nat) {vs : List V} {ss : List Sl} {σ : L2.St} {ε : Ev}, Rp K O g H n σ ε → Sls K g Hb H vs ss → (∀ ds p, Hb p = none → O (.lst ds) p) →
    (∀ (i : Nat) (d : OD) (p : Addr) (j : Nat) (d' : OD), ε[i]? = some (.own d) → σ[i]? = some (some (.ref p)) → ss[j]? = some (.own d') → vs[j]? ≠ some (.ref p)) → Rp K O g H n (setV σ is vs) (setL ε is ss)
  | [], _, _, _, _, r, _, _, _ => by
    rw [setV_nil, setL_nil]
    exact r
  | i :: is, _, _, σ, ε, r, .nil, _, _ => r
  | i :: is, _, _, σ, ε, r, .val (v := v) (d := d) (vs := vs) (ss := ss) h t, hO, ap => by
    refine Rp.setLs is (r.set h) t hO fun i' d1 p j d' e1 e2 e3 => ?_
    by_cases w : i = i'
    · subst w
      rw [List.getElem?_set] at e1
      simp at e1
    · rw [List.getElem?_set_ne w] at e1 e2
      have z := ap i' d1 p (j + 1) d' e1 e2 (by simpa using e3)
      simpa using z
  | i :: is, _, _, σ, ε, r, .own (p := p) (o := o) (d := d) (vs := vs) (ss := ss) a b c e f nx t, hO, ap => by
    refine Rp.setLs is (r.setOwn (hO d p a) b c e f fun j d' z w => ?_) t hO fun i' d1 q j d' e1 e2 e3 => ?_
    · exact ap j d' p 0 (.lst d) z w rfl rfl
    · by_cases w : i = i'
      · subst w
        have hl : i < σ.length := by
          rcases Nat.lt_or_ge i σ.length with z | z
          · exact z
          · rw [List.getElem?_eq_none (by rw [List.length_set]; exact z)] at e2
            cases e2
        rw [List.getElem?_set_self hl] at e2
        cases e2
        exact nx j d' e3
      · rw [List.getElem?_set_ne w] at e1 e2
        have z := ap i' d1 q (j + 1) d' e1 e2 (by simpa using e3)
        simpa using z
end
def dSeq (s t : DS) : DS := fun N n ε => s { N with nx := t N } n ε
def dNx : DS := fun N n ε => N.nx n ε
def dBrk : DS := fun N n ε => N.bk n ε
def dNev : DS := fun _ _ _ => False
def dDrop (d : DE) : DS := fun N n ε => d n ε fun n1 _ => N.nx n1 ε
def dRet (d : DE) : DS := fun N n ε => d n ε N.rt
def dRetN : DS := fun N n _ => N.rt n .non
def dIf (t : DT) (a b : DS) : DS := fun N n ε => t n ε fun n1 c => (c = true → a N n1 ε) ∧ (c = false → b N n1 ε)
def dSet (i : Nat) (d : DE) : DS := fun N n ε => d n ε fun n1 r => N.nx n1 (ε.set i (.val r))
def dMul (is : List Nat) (t : DB) : DS := fun N n ε => t n ε fun n1 ss => ss.length = is.length ∧ N.nx n1 (setL ε is ss)
def dFrz (is : List Nat) (s : DS) : DS := fun N n ε => s N n (is.foldl frzE ε)
section
variable {X : Cx} {pos : Pos} {e c : Expr} {es : List Expr} {st : Stmt} {rest a b : List Stmt} {d : DE} {s t : DS} {u : DT} {tb : DB}
theorem dss_nil : PSs X [] (liftS W X.K dNx) := pss_w pss_nil fun E σ H ⟨U, g0, H0, g, n, ε, N, uo, r, s0, q, k1, k2, k3, k4⟩ => k1 σ g H n ε q r s0
theorem dss_cons (h1 : PS X st (liftS W X.K s)) (h2 : PSs X rest (liftS W X.K t)) : PSs X (st :: rest) (liftS W X.K (dSeq s t)) :=
  pss_w (pss_cons h1 h2) fun E σ H ⟨U, g0, H0, g, n, ε, N, uo, r, s0, q, k1, k2, k3, k4⟩ =>
    ⟨U, g0, H0, g, n, ε, { N with nx := t N }, uo, r, s0, q, fun σ' g' H' n' ε' q' r' s' => ⟨U, g0, H0, g', n', ε', N, uo, r', s', q', k1, k2, k3, k4⟩, k2, k3, k4⟩
theorem dss_one (h1 : PS X st (liftS W X.K s)) : PSs X [st] (liftS W X.K s) := pss_one h1
theorem ds_never : PS X st (liftS W X.K dNev) := ps_w ps_never fun E σ H ⟨U, g0, H0, g, n, ε, N, uo, r, s0, q, k1, k2, k3, k4⟩ => q
theorem ds_ret (he : PE X e (liftE X.K d)) : PS X (.Return (some e) pos) (liftS W X.K (dRet d)) :=
  ps_w (ps_ret he) fun E σ H ⟨U, g0, H0, g, n, ε, N, uo, r, s0, q, k1, k2, k3, k4⟩ => ⟨_, g, n, ε, _, r, q, fun v g1 H1 n1 x q1 s1 o1 e1 => k4.1 v g1 H1 n1 x q1 (s0.trans s1) o1 e1⟩
theorem ds_if (hc : PT X c (liftT X.K u)) (ha : PSs X a (liftS W X.K s)) (hb : PSs X b (liftS W X.K t)) : PS X (.If c a b pos) (liftS W X.K (dIf u s t)) :=
  ps_w (ps_if hc ha hb) fun E σ H ⟨U, g0, H0, g, n, ε, N, uo, r, s0, q, k1, k2, k3, k4⟩ => ⟨_, g, n, ε, _, r, q, fun b g1 H1 n1 q1 s1 o1 => by
    cases b with
    | true => exact ⟨U, g0, H0, g1, n1, ε, N, uo, r.step s1 o1, s0.trans s1, q1.1 rfl, k1, k2, k3, k4⟩
    | false => exact ⟨U, g0, H0, g1, n1, ε, N, uo, r.step s1 o1, s0.trans s1, q1.2 rfl, k1, k2, k3, k4⟩⟩
theorem ds_set {i : Nat} {x : Str} {pos' : Pos} (hN : X.N.Nodup) (hi : X.N[i]? = some x) (hx : Loc X.env.scope x) (he : PE X e (liftE X.K d)) (hs : swapsWith e (some (.Name x pos')) pos.line X.env = pure false := by rfl)
    (hf : X.fn x = true ∨ X.env.scope.names.lookup x = some .local := by first | exact .inl rfl | exact .inr rfl | assumption) : PS X (.Assign [.Name x pos'] e pos) (liftS W X.K (dSet i d)) :=
  ps_w (ps_set hN hi hx he hs hf) fun E σ H ⟨U, g0, H0, g, n, ε, N, uo, r, s0, q, k1, k2, k3, k4⟩ => ⟨_, g, n, ε, _, r, q, fun v g1 H1 n1 x q1 s1 o1 e1 => k1 _ g1 H1 n1 _ q1 ((r.step s1 o1).set e1) (s0.trans s1)⟩
def dSetO (i : Nat) (d : DO) : DS := fun N n ε => d n ε fun n1 ds => N.nx n1 (ε.set i (.own (.lst ds)))
theorem ds_setO {i : Nat} {x : Str} {pos' : Pos} {o : DO} (hN : X.N.Nodup) (hi : X.N[i]? = some x) (hx : Loc X.env.scope x) (he : PE X e (liftO X.K o)) (hs : swapsWith e (some (.Name x pos')) pos.line X.env = pure false := by rfl)
    (hf : X.fn x = true ∨ X.env.scope.names.lookup x = some .local := by first | exact .inl rfl | exact .inr rfl | assumption) : PS X (.Assign [.Name x pos'] e pos) (liftS W X.K (dSetO i o)) :=
  ps_w (ps_set hN hi hx he hs hf) fun E σ H ⟨U, g0, H0, g, n, ε, N, uo, r, s0, q, k1, k2, k3, k4⟩ => ⟨_, g, n, ε, _, r, q, fun p vs g1 H1 n1 ds q1 s1 o1 h0 h1 h2 h3 h4 =>
    k1 _ g1 H1 n1 _ q1 ((r.step s1 o1).setOwn ⟨s0.back0 h0, uo.lst _ _⟩ h1 h2 h3 ⟨vs, rfl, h4⟩ fun j d' z w => by
      obtain ⟨p', o', w1, _, _, _, w5, _⟩ := r.sl j _ z
      rw [w] at w1
      cases w1
      rw [h0] at w5
      cases w5) (s0.trans s1)⟩
theorem mul_ok {is : List Nat} {E : Ends} {σ : L2.St} {H : Hp} (h : liftS W X.K (dMul is tb) E σ H) : liftB X.K tb σ H fun vs H1 => vs.length = is.length ∧ E.nx (setV σ is vs) H1 := by
  obtain ⟨U, g0, H0, g, n, ε, N, uo, r, s0, q, k1, k2, k3, k4⟩ := h
  refine ⟨_, g, n, ε, _, r, q, fun vs g1 H1 n1 ss q1 s1 o1 e1 => ⟨by rw [e1.length]; exact q1.1, k1 _ g1 H1 n1 _ q1.2 ((r.step s1 o1).setLs is e1 (fun ds p z => ⟨s0.back0 z, uo.lst _ _⟩) fun i d p j d' w1 w2 w3 w4 => ?_) (s0.trans s1)⟩⟩
  obtain ⟨p', o', x1, _, _, _, x5, _⟩ := r.sl i _ w1
  rw [w2] at x1
  cases x1
  rw [e1.fresh w3 w4] at x5
  cases x5
theorem dss_frz (is : List Nat) (h : PSs X rest (liftS W X.K s)) : PSs X rest (liftS W X.K (dFrz is s)) :=
  pss_w h fun E σ H ⟨U, g0, H0, g, n, ε, N, uo, r, s0, q, k1, k2, k3, k4⟩ => by
    have z : ∀ (is : List Nat) (g : Gh) (ε : Ev), Rp X.K (fun d p => H0 p = none ∧ U d p) g H n σ ε → Stp g0 H0 g H → ∃ g', Rp X.K (fun d p => H0 p = none ∧ U d p) g' H n σ (is.foldl frzE ε) ∧ Stp g0 H0 g' H := fun is => by
      induction is with
      | nil => exact fun g ε r s => ⟨g, r, s⟩
      | cons i is ih =>
        intro g ε r s
        obtain ⟨g1, s1, r1⟩ := r.freeze s i
        exact ih g1 _ r1 s1
    obtain ⟨g1, r1, s1⟩ := z is g ε r s0
    exact ⟨U, g0, H0, g1, n, _, N, uo, r1, s1, q, k1, k2, k3, k4⟩
end
end Pd
namespace Pd
open PySem L2
variable {W : WX}
abbrev DG := D → Ev → (Ev → Prop) → Prop
abbrev DGs := List D → Ev → (Ev → Prop) → Prop
def gNm (i : Nat) : DG := fun d ε P => P (ε.set i (.val d))
def gsNil : DGs := fun ds ε P => match ds with
  | [] => P ε
  | _ :: _ => False
def gsCons (g : DG) (gs : DGs) : DGs := fun ds ε P => match ds with
  | [] => False
  | d :: ds => g d ε fun ε' => gs ds ε' P
def gTp (n : Nat) (gs : DGs) : DG := fun d ε P => match d with
  | .tup ds => ds.length = n ∧ gs ds ε P
  | .lst ds => ds.length = n ∧ gs ds ε P
  | .tupK ds => ds.length = n ∧ gs ds ε P
  | _ => False
def Only (ws : List Nat) (σ σ' : L2.St) : Prop := σ'.length = σ.length ∧ ∀ j, j ∉ ws → σ'[j]? = σ[j]?
theorem Only.refl (ws : List Nat) (σ : L2.St) : Only ws σ σ := ⟨rfl, fun _ _ => rfl⟩
theorem Only.trans {ws ws' : List Nat} {σ σ1 σ2 : L2.St} (a : Only ws σ σ1) (b : Only ws' σ1 σ2) : Only (ws ++ ws') σ σ2 :=
  ⟨b.1.trans a.1, fun j h => (b.2 j fun z => h (List.mem_append_right _ z)).trans (a.2 j fun z => h (List.mem_append_left _ z))⟩
theorem wipe_at (σ : L2.St) : ∀ (vs : List Nat) (j : Nat), (wipe σ vs)[j]? = if j ∈ vs ∧ j < σ.length then some none else σ[j]?
  | [], j => by simp [wipe]
  | v :: vs, j => by
    unfold wipe
    rw [List.getElem?_set]
    by_cases h : v = j
    · subst h
      rw [if_pos rfl, wipe_length]
      by_cases q : v < σ.length
      · rw [if_pos q, if_pos ⟨List.mem_cons_self, q⟩]
      · rw [if_neg q, if_neg fun z => q z.2, List.getElem?_eq_none (Nat.le_of_not_lt q)]
    · rw [if_neg h, wipe_at σ vs j]
      have e : (j ∈ v :: vs) ↔ j ∈ vs := ⟨fun z => (List.mem_cons.mp z).elim (fun z => absurd z.symm h) id, List.mem_cons_of_mem _⟩
      simp only [e]
theorem Only.wipe {ws vs : List Nat} {σ σ' : L2.St} (h : Only ws σ σ') (s : ∀ i ∈ ws, i ∈ vs) : wipe σ' vs = wipe σ vs := by
  apply List.ext_getElem?
  intro j
  rw [wipe_at, wipe_at, h.1]
  by_cases q : j ∈ vs
  · by_cases r : j < σ.length
    · rw [if_pos ⟨q, r⟩, if_pos ⟨q, r⟩]
    · rw [if_neg fun z => r z.2, if_neg fun z => r z.2, List.getElem?_eq_none (by rw [h.1]; exact Nat.le_of_not_lt r), List.getElem?_eq_none (Nat.le_of_not_lt r)]
  · rw [if_neg fun z => q z.1, if_neg fun z => q z.1]
    exact h.2 j fun z => q (s j z)
theorem wipe_idem (σ : L2.St) (vs : List Nat) : wipe (wipe σ vs) vs = wipe σ vs := by
  apply List.ext_getElem?
  intro j
  rw [wipe_at, wipe_at, wipe_length]
  by_cases q : j ∈ vs ∧ j < σ.length
  · rw [if_pos q, if_pos q]
  · rw [if_neg q, if_neg q]
def liftG (K : PySem.W.Frag) (ws : List Nat) (dg : DG) : TG := fun v σ H Q => ∃ O g n ε d P, Rp K O g H n σ ε ∧ Den K g v d ∧ dg d ε P ∧ ∀ σ' ε', P ε' → Rp K O g H n σ' ε' → Only ws σ σ' → Q σ' H
def liftGs (K : PySem.W.Frag) (ws : List Nat) (dg : DGs) : TGs := fun vs σ H Q => ∃ O g n ε ds P, Rp K O g H n σ ε ∧ Dens K g vs ds ∧ dg ds ε P ∧ ∀ σ' ε', P ε' → Rp K O g H n σ' ε' → Only ws σ σ' → Q σ' H
section
variable {X : Cx} {pos : Pos} {e : Expr} {es : List Expr} {ws ws' : List Nat} {dg : DG} {dgs : DGs}
theorem pg_w {t t' : TG} (h : PG X e t) (w : ∀ v σ H Q, t' v σ H Q → t v σ H Q) : PG X e t' := ⟨fun pins s σ H v u Q I r q => h.run pins s σ H v u Q I r (w v σ H Q q)⟩
theorem pgs_w {t t' : TGs} (h : PGs X es t) (w : ∀ v σ H Q, t' v σ H Q → t v σ H Q) : PGs X es t' := ⟨fun pins s σ H v u Q I r q => h.run pins s σ H v u Q I r (w v σ H Q q)⟩
theorem pg_or {t t' : TG} (h : PG X e t) (h' : PG X e t') : PG X e (fun v σ H Q => t v σ H Q ∨ t' v σ H Q) := ⟨fun pins s σ H v u Q I r q => q.elim (h.run pins s σ H v u Q I r) (h'.run pins s σ H v u Q I r)⟩
theorem dg_nm {i : Nat} {x : Str} (hN : X.N.Nodup) (hi : X.N[i]? = some x) (hx : Loc X.env.scope x) (hf : X.fn x = true ∨ X.env.scope.names.lookup x = some .local := by first | exact .inl rfl | exact .inr rfl | assumption) : PG X (.Name x pos) (liftG X.K [i] (gNm i)) :=
  pg_w (pg_name hN hi hx hf) fun v σ H Q ⟨O, g, n, ε, d, P, r, dd, q, k⟩ => k _ _ q (r.set dd) ⟨List.length_set, fun j h => List.getElem?_set_ne fun z => h (by rw [z]; exact List.mem_singleton.mpr rfl)⟩
theorem gs_nil : PGs X [] (liftGs X.K [] gsNil) :=
  pgs_w pgs_nil fun v σ H Q ⟨O, g, n, ε, d, P, r, dd, q, k⟩ => by
    cases dd with
    | nil => exact ⟨rfl, k _ _ q r (Only.refl _ _)⟩
    | cons _ _ => exact q.elim
theorem gs_cons (h1 : PG X e (liftG X.K ws dg)) (h2 : PGs X es (liftGs X.K ws' dgs)) (hs : (assignEach (e :: es) X.env).map (·.2) = assign e X.env :: (assignEach es X.env).map (·.2) := by rfl) : PGs X (e :: es) (liftGs X.K (ws ++ ws') (gsCons dg dgs)) :=
  pgs_w (pgs_cons h1 h2 hs) fun v σ H Q ⟨O, g, n, ε, d, P, r, dd, q, k⟩ => by
    cases dd with
    | nil => exact q.elim
    | cons d1 dt => exact ⟨_, _, rfl, O, g, n, ε, _, _, r, d1, q, fun σ1 ε1 q1 r1 o1 => ⟨O, g, n, ε1, _, P, r1, dt, q1, fun σ2 ε2 q2 r2 o2 => k σ2 ε2 q2 r2 (o1.trans o2)⟩⟩
theorem dg_tup {k n : Nat} (hc : X.calm = true) (h : PGs X es (liftGs X.K ws dgs)) (hn : (assignEach es X.env).length = n := by rfl) (hst : (assignEach es X.env).findIdx? (·.1) = none := by rfl) : PG X (.Tuple es k pos) (liftG X.K ws (gTp n dgs)) :=
  pg_w (pg_or (pg_tup hc h hn hst) (pg_unl hc h hn hst)) fun v σ H Q ⟨O, g, m, ε, d, P, r, dd, q, k⟩ => by
    cases dd with
    | tup h1 h2 => exact .inl ⟨_, _, rfl, Or.inl (h1.same r.ok.sub), h2.length.trans q.1, O, g, m, ε, _, P, r, h2, q.2, k⟩
    | lst h1 h2 => exact .inr ⟨_, _, rfl, SqL.of (r.ok.sub _ _ h1), h2.length.trans q.1, O, g, m, ε, _, P, r, h2, q.2, k⟩
    | tupK h1 h2 => exact .inl ⟨_, _, rfl, h1 _, h2.length.trans q.1, O, g, m, ε, _, P, r, h2, q.2, k⟩
    | _ => exact q.elim
end
def dAsg (d : DE) (dg : DG) : DS := fun N n ε => d n ε fun n1 r => dg r ε fun ε' => N.nx n1 ε'
section
variable {X : Cx} {pos : Pos} {e e2 e3 tg : Expr} {es ts : List Expr} {ws : List Nat} {dg : DG} {d : DE} {tb : DB}
theorem ds_asg (he : PE X e (liftE X.K d)) (hg : PG X tg (liftG X.K ws dg)) (hs : swapsWithSole [tg] e pos.line X.env = pure false := by rfl) (hw : swappedStores [tg] e X.env = pure none := by rfl)
    (h1 : (assignEach [tg] X.env).map (·.2) = [assign tg X.env] := by rfl) : PS X (.Assign [tg] e pos) (liftS W X.K (dAsg d dg)) :=
  ps_w (ps_asg he hg hs hw h1) fun E σ H ⟨U, g0, H0, g, n, ε, N, uo, r, s0, q, k1, k2, k3, k4⟩ => ⟨_, g, n, ε, _, r, q, fun v g1 H1 n1 x q1 s1 o1 e1 =>
    ⟨_, g1, n1, ε, x, _, r.step s1 o1, e1, q1, fun σ' ε' q2 r2 _ => k1 σ' g1 H1 n1 ε' q2 r2 (s0.trans s1)⟩⟩
theorem ds_par {i j : Nat} {x y : Str} {a b : Expr} {px py pt : Pos} {kt k2 : Nat} {pt2 : Pos} (hc : X.calm = true) (hN : X.N.Nodup) (hi : X.N[i]? = some x) (hj : X.N[j]? = some y) (hij : i ≠ j)
    (hx : X.env.scope.names.lookup x = some .local) (hy : X.env.scope.names.lookup y = some .local) (ha : PA X [a, b] (liftB X.K tb))
    (hw : swappedStores [.Tuple [.Name x px, .Name y py] kt pt] (.Tuple [a, b] k2 pt2) X.env = pure (some [x, y]) := by rfl)
    (hs : swapsWithSole [.Tuple [.Name x px, .Name y py] kt pt] (.Tuple [a, b] k2 pt2) pos.line X.env = pure false := by rfl) :
    PS X (.Assign [.Tuple [.Name x px, .Name y py] kt pt] (.Tuple [a, b] k2 pt2) pos) (liftS W X.K (dMul [i, j] tb)) :=
  ps_w (ps_par hc hN hi hj hij hx hy ha hw hs) fun E σ H h => by
    obtain ⟨O, g, n, ε, P, r, q, k⟩ := mul_ok h
    refine ⟨O, g, n, ε, P, r, q, fun vs g' H' n' ss a b c d => ?_⟩
    obtain ⟨h1, h2⟩ := k vs g' H' n' ss a b c d
    match vs, h1, h2 with
    | [v, w], _, h2 => exact ⟨v, w, rfl, h2⟩
def TgNm (X : Cx) : List Expr → List Nat → Prop
  | [], [] => True
  | t :: ts, i :: is => PG X t (gName i) ∧ (assignEach (t :: ts) X.env).map (·.2) = assign t X.env :: (assignEach ts X.env).map (·.2) ∧ TgNm X ts is
  | _, _ => False
def gsOf : List Nat → TGs
  | [] => gNil
  | i :: is => gCons (gName i) (gsOf is)
theorem tgNm_pgs : ∀ {ts : List Expr} {is : List Nat}, TgNm X ts is → PGs X ts (gsOf is)
  | [], [], _ => pgs_nil
  | _ :: _, _ :: _, ⟨h1, h2, h3⟩ => pgs_cons h1 (tgNm_pgs h3) h2
  | [], _ :: _, h => h.elim
  | _ :: _, [], h => h.elim
theorem gsOf_ok : ∀ {is : List Nat} {vs : List V} {σ : L2.St} {H : Hp} {Q : L2.St → Hp → Prop}, vs.length = is.length → Q (setV σ is vs) H → gsOf is vs σ H Q
  | [], [], _, _, _, _, q => ⟨rfl, q⟩
  | i :: is, v :: vs, _, _, _, h, q => ⟨v, vs, rfl, gsOf_ok (is := is) (Nat.succ.inj h) q⟩
theorem ds_mul {is : List Nat} {kt k2 : Nat} {pt pt2 : Pos} (hc : X.calm = true) (ha : PA X es (liftB X.K tb)) (ht : TgNm X ts is) (hn : (assignEach ts X.env).length = is.length := by rfl) (hst : (assignEach ts X.env).findIdx? (·.1) = none := by rfl) (hl : is.length ≤ 1000 := by decide)
    (hs : swapsWithSole [.Tuple ts kt pt] (.Tuple es k2 pt2) pos.line X.env = pure false := by rfl) (hw : swappedStores [.Tuple ts kt pt] (.Tuple es k2 pt2) X.env = pure none := by rfl)
    (h1 : (assignEach [.Tuple ts kt pt] X.env).map (·.2) = [assign (.Tuple ts kt pt) X.env] := by rfl) : PS X (.Assign [.Tuple ts kt pt] (.Tuple es k2 pt2) pos) (liftS W X.K (dMul is tb)) :=
  ps_w (ps_asg (pe_tup ha) (pg_tup hc (tgNm_pgs ht) hn hst) hs hw h1) fun E σ H h => by
    obtain ⟨U, g0, H0, g, n, ε, N, uo, r, s0, q, k1, k2, k3, k4⟩ := h
    refine ⟨_, g, n, ε, _, r, q, fun vs g1 H1 n1 ss q1 s1 o1 e1 => ⟨?_, fun p hp => ⟨p, vs, rfl, SqT.of upd_same, by rw [e1.length]; exact q1.1, gsOf_ok (by rw [e1.length]; exact q1.1) ?_⟩⟩⟩
    · rw [e1.length, q1.1]
      exact sz (Nat.le_trans hl (by decide))
    · obtain ⟨z1, z2, z3, z4⟩ := new_own o1 hp (.tup vs)
      have e2 : Sls X.K g1 H (upd H1 p (.tup vs)) vs ss := by
        have gen : ∀ {vs' : List V} {ss' : List Sl}, Sls X.K g1 H H1 vs' ss' → Sls X.K g1 H (upd H1 p (.tup vs)) vs' ss' := by
          intro vs' ss' z
          induction z with
          | nil => exact .nil
          | val a _ ih => exact .val a ih
          | own a b c d e f _ ih => exact .own a b c (by rw [upd_ne (ne_of_none d hp)]; exact d) e f ih
        exact gen e1
      refine k1 _ g1 _ n1 _ q1.2 (((r.step s1 o1).step z1 z2).setLs is e2 (fun ds p z => ⟨s0.back0 z, uo.lst _ _⟩) fun i d p j d' w1 w2 w3 w4 => ?_) ((s0.trans s1).trans z1)
      obtain ⟨p', o', x1, _, _, _, x5, _⟩ := r.sl i _ w1
      rw [w2] at x1
      cases x1
      rw [e1.fresh w3 w4] at x5
      cases x5
end
abbrev DI := Nat → Ev → (Nat → List D → Prop) → Prop
structure WalkD (K : PySem.W.Frag) (g : Gh) (J : It) (xs : List D) : Prop where
  go : ∀ i H, i < xs.length → Same g.G H → J.go i H
  stop : ∀ H, Same g.G H → J.stop xs.length H
  yld : ∀ i x H H' g1 n, i < xs.length → Ext g g1 → Ok K g1 H n → J.yld i H x H' → ∃ g2 d, xs[i]? = some d ∧ Stp g1 H g2 H' ∧ Ok K g2 H' n ∧ Den K g2 x d
def liftI (K : PySem.W.Frag) (di : DI) : TI := fun σ H R => ∃ O g n ε P, Rp K O g H n σ ε ∧ di n ε P ∧ ∀ J g' H' n' xs, P n' xs → Stp g H g' H' → Ok K g' H' n' → WalkD K g' J xs → R J H'
def forW (dg : DG) (b : DS) (N : DN) : List D → Nat → Ev → Prop
  | [], n, ε => N.nx n ε
  | x :: xs, n, ε => dg x ε fun ε' => b { N with nx := fun n' ε'' => forW dg b N xs n' ε'', ct := fun n' ε'' => forW dg b N xs n' ε'', bk := N.nx } n ε'
def dFor (di : DI) (dg : DG) (b : DS) : DS := fun N n ε => di n ε fun n1 xs => forW dg b N xs n1 ε
theorem snap {K : PySem.W.Frag} {U : OD → Addr → Prop} {g0 g : Gh} {H0 H : Hp} (s : Stp g0 H0 g H) : ∃ Hs : Hp, Stp g Hs g H ∧ (∀ n σ ε, Rp K (fun d p => H0 p = none ∧ U d p) g H n σ ε → Rp K (fun d p => Hs p = none ∧ U d p) g H n σ ε) ∧
    (∀ g' H', Stp g Hs g' H' → Stp g0 H0 g' H') ∧ (∀ g' H' n σ ε, Rp K (fun d p => Hs p = none ∧ U d p) g' H' n σ ε → Rp K (fun d p => H0 p = none ∧ U d p) g' H' n σ ε) := by
  classical
  have hs0 : ∀ a, H0 a ≠ none → (if H0 a = none ∧ g.G a = none ∧ ¬ g.pot a then none else H a) = H a := fun a h => if_neg fun z => h z.1
  refine ⟨fun a => if H0 a = none ∧ g.G a = none ∧ ¬ g.pot a then none else H a, ⟨Ext.refl g, fun _ _ z => z, fun _ _ z => z, fun a o e _ => ?_, fun a e => ?_⟩, fun n σ ε r => ⟨r.ok, r.len, fun i x e => ?_, r.dis⟩, fun g' H' s' => ⟨s.ext.trans s'.ext, fun a h q => ?_, fun a h q => ?_, fun a o h q => ?_, fun a h => ?_⟩, fun g' H' n σ ε r => ⟨r.ok, r.len, fun i x e => ?_, r.dis⟩⟩
  · have e2 : (if H0 a = none ∧ g.G a = none ∧ ¬ g.pot a then none else H a) = some o := e
    split at e2
    · cases e2
    · exact e2
  · intro z
    refine e ?_
    show (if H0 a = none ∧ g.G a = none ∧ ¬ g.pot a then none else H a) = none
    rw [z]
    split <;> rfl
  · have w := r.sl i x e
    cases x with
    | no => trivial
    | val d => exact w
    | own d =>
      obtain ⟨p, o, w1, w2, w3, w4, w5, w6⟩ := w
      exact ⟨p, o, w1, ⟨if_pos ⟨w2.1, w3, w4⟩, w2.2⟩, w3, w4, w5, w6⟩
  · exact s'.gro a (by rw [hs0 a h]; exact s.dom a h) (s.gro a h q)
  · exact s.grp a h (s'.grp a (by rw [hs0 a h]; exact s.dom a h) q)
  · exact s'.kep a o (by rw [hs0 a (by rw [h]; exact Option.some_ne_none o)]; exact s.kep a o h q) fun z => q (s.grp a (by rw [h]; exact Option.some_ne_none o) z)
  · exact s'.dom a (by rw [hs0 a h]; exact s.dom a h)
  · have w := r.sl i x e
    cases x with
    | no => trivial
    | val d => exact w
    | own d =>
      obtain ⟨p, o, w1, w2, w3, w4, w5, w6⟩ := w
      refine ⟨p, o, w1, ⟨?_, w2.2⟩, w3, w4, w5, w6⟩
      cases z : H0 p with
      | none => rfl
      | some u =>
        have zn : H0 p ≠ none := by rw [z]; exact Option.some_ne_none u
        have w2' : (if H0 p = none ∧ g.G p = none ∧ ¬ g.pot p then none else H p) = none := w2.1
        rw [hs0 p zn] at w2'
        exact absurd w2' (s.dom p zn)
section
variable {X : Cx} {pos : Pos} {e c tg iter : Expr} {body : List Stmt} {ws : List Nat} {dg : DG} {di : DI} {d : DE} {t : DT} {b : DS}
theorem ds_for (hp : PassesOwn (model X.prog X.w) X.A X.env X.xe) (hc : X.calm = true) (hi : PI X tg iter (liftI X.K di)) (hg : PG X tg (liftG X.K ws dg)) (hb : PSs X body (liftS W X.K b))
    (hs : ∀ x, foldedSetIterable iter X.env x = pure x := by intro _; rfl) : PS X (.For tg iter body [] pos) (liftS W X.K (dFor di dg b)) :=
  ps_w (ps_for hp hc hi hg hb hs) fun E σ H ⟨U, g0, H0, g, n, ε, N, uo, r, s0, q, k1, k2, k3, k4⟩ => by
    refine ⟨_, g, n, ε, _, r, q, fun J gI HI nI xs q1 s1 o1 wk => ?_⟩
    refine ⟨fun i m σ H => m = xs.length - i ∧ i ≤ xs.length ∧ ∃ g n ε, Rp X.K (fun d p => H0 p = none ∧ U d p) g H n σ ε ∧ Stp g0 H0 g H ∧ Ext gI g ∧ forW dg b N (xs.drop i) n ε, ⟨xs.length, by simp, Nat.zero_le _, gI, nI, ε, r.step s1 o1, s0.trans s1, Ext.refl _, by simpa using q1⟩, ?_⟩
    rintro i m σ H ⟨rfl, hi, g, n, ε, r, s, ex, fw⟩
    have sm : Same gI.G H := ex.G.trans r.ok.sub
    by_cases hlt : i < xs.length
    · refine .inr ⟨wk.go i H hlt sm, fun σ' H' => ∃ g n ε, Rp X.K (fun d p => H0 p = none ∧ U d p) g H' n σ' ε ∧ Stp g0 H0 g H' ∧ Ext gI g ∧ forW dg b N (xs.drop (i + 1)) n ε, fun σ' H' z => ⟨xs.length - (i + 1), by omega, rfl, hlt, z⟩, fun x H' y => ?_⟩
      obtain ⟨g2, dx, ed, s2, o2, e2⟩ := wk.yld i x H H' g n hlt ex r.ok y
      have el : xs.drop i = dx :: xs.drop (i + 1) := by
        rw [List.drop_eq_getElem_cons hlt]
        congr 1
        rw [List.getElem?_eq_getElem hlt] at ed
        exact Option.some.inj ed
      rw [el] at fw
      refine ⟨_, g2, n, ε, dx, _, r.step s2 o2, e2, fw, fun σ2 ε2 q2 r2 _ => ?_⟩
      have st2 := s.trans s2
      obtain ⟨Hs, a1, a2, a3, a4⟩ := snap (K := X.K) (U := U) st2
      have again : ∀ σ3 g3 H3 n3 ε3, forW dg b N (xs.drop (i + 1)) n3 ε3 → Rp X.K (fun d p => Hs p = none ∧ U d p) g3 H3 n3 σ3 ε3 → Stp g2 Hs g3 H3 → ∃ g n ε, Rp X.K (fun d p => H0 p = none ∧ U d p) g H3 n σ3 ε ∧ Stp g0 H0 g H3 ∧ Ext gI g ∧ forW dg b N (xs.drop (i + 1)) n ε :=
        fun σ3 g3 H3 n3 ε3 q3 r3 s3 => ⟨g3, n3, ε3, a4 _ _ _ _ _ r3, a3 _ _ s3, (ex.trans s2.ext).trans s3.ext, q3⟩
      exact ⟨U, g2, Hs, g2, n, ε2, { N with nx := fun n' ε'' => forW dg b N (xs.drop (i + 1)) n' ε'', ct := fun n' ε'' => forW dg b N (xs.drop (i + 1)) n' ε'', bk := N.nx }, uo, a2 _ _ _ r2, a1, q2, again, fun σ3 g3 H3 n3 ε3 q3 r3 s3 => k1 σ3 g3 H3 n3 ε3 q3 (a4 _ _ _ _ _ r3) (a3 _ _ s3), again, fun v g3 H3 n3 z q3 s3 o3 e3 => k4.1 v g3 H3 n3 z q3 (a3 _ _ s3) o3 e3, fun v σ3 g3 H3 n3 ε3 z q3 r3 s3 e3 => k4.2.1 v σ3 g3 H3 n3 ε3 z q3 (a4 _ _ _ _ _ r3) (a3 _ _ s3) e3, fun σ3 g3 H3 n3 ε3 j p q3 r3 s3 e3 => k4.2.2.1 σ3 g3 H3 n3 ε3 j p q3 (a4 _ _ _ _ _ r3) (a3 _ _ s3) e3, fun σ3 g3 H3 n3 ε3 C dx z v q3 r3 s3 e3 e4 => k4.2.2.2 σ3 g3 H3 n3 ε3 C dx z v q3 (a4 _ _ _ _ _ r3) (a3 _ _ s3) e3 e4⟩
    · have e : i = xs.length := by omega
      subst e
      rw [List.drop_length] at fw
      exact .inl ⟨wk.stop H sm, k1 σ g H n ε fw r s⟩
def compW (dg : DG) (t : DT) (d : DE) (ε : Ev) (P : Nat → List D → Prop) : List D → List D → Nat → Prop
  | [], acc, n => P n acc
  | x :: xs, acc, n => dg x ε fun ε' => t n ε' fun n1 k => (k = true → d n1 ε' fun n2 y => compW dg t d ε P xs (acc ++ [y]) n2) ∧ (k = false → compW dg t d ε P xs acc n1)
def dComp (di : DI) (dg : DG) (t : DT) (d : DE) (vs : List Nat) : DO := fun n ε P => di n ε fun n1 xs => xs.length ≤ 16777216 ∧ compW dg t d (wipeE ε vs) P xs [] n1
def dYes : DT := fun n _ P => P n true
variable {ifs : List Expr} {elt : Expr} {scope : Scope} {own : List (Str × Nat)} {wi : TI} {gg : TG} {tt : TT} {te : TE}
theorem dts_nil : PTs X [] (liftT X.K dYes) := ⟨fun pins s σ H Q I ⟨O, g, n, ε, P, r, q, k⟩ => (pts_nil (X := X)).run pins s σ H Q I (k true g H n q (Stp.refl g H) r.ok)⟩
theorem dts_one (h : PT X c (liftT X.K t)) : PTs X [c] (liftT X.K t) := pts_one h
theorem comp_ok {K : PySem.W.Frag} {vs : List Nat} (hv : ∀ i ∈ ws, i ∈ vs) : ∀ σ H Q, liftO K (dComp di dg t d vs) σ H Q → tLc (liftI K di) (liftG K ws dg) (liftT K t) (liftE K d) vs σ H Q := fun σ H Q ⟨O, g, n, ε, P, r, q, k⟩ => by
  refine ⟨O, g, n, ε, _, r, q, fun J gI HI nI xs q1 s1 o1 wk => ?_⟩
  obtain ⟨hz, q1⟩ := q1
  intro D hD
  have hz2 := sz hz
  obtain ⟨z1, z2, z3, z4⟩ := new_own o1 hD (.lst [])
  refine ⟨fun i m H => m = xs.length - i ∧ i ≤ xs.length ∧ ∃ g n acc vsL, Ok K g H n ∧ Stp gI HI g H ∧ g.G D = none ∧ ¬ g.pot D ∧ H D = some (.lst vsL) ∧ Dens K g vsL acc ∧ acc.length ≤ i ∧ compW dg t d (wipeE ε vs) P (xs.drop i) acc n,
    ⟨xs.length, by simp, Nat.zero_le _, gI, nI, [], [], z2, z1, z3, z4, upd_same, .nil, Nat.le_refl _, by simpa using q1⟩, ?_⟩
  rintro i m H ⟨rfl, hi, g, n, acc, vsL, o, s, h1, h2, h3, h4, h5, cw⟩
  have sm : Same gI.G H := s.ext.G.trans o.sub
  by_cases hlt : i < xs.length
  · refine .inr ⟨wk.go i H hlt sm, fun H' => ∃ g n acc vsL, Ok K g H' n ∧ Stp gI HI g H' ∧ g.G D = none ∧ ¬ g.pot D ∧ H' D = some (.lst vsL) ∧ Dens K g vsL acc ∧ acc.length ≤ i + 1 ∧ compW dg t d (wipeE ε vs) P (xs.drop (i + 1)) acc n, fun H' z => ⟨xs.length - (i + 1), by omega, rfl, hlt, z⟩, fun x H' y => ?_⟩
    obtain ⟨g2, dx, ed, s2, o2, e2⟩ := wk.yld i x H H' g n hlt s.ext o y
    have el : xs.drop i = dx :: xs.drop (i + 1) := by
      rw [List.drop_eq_getElem_cons hlt]
      congr 1
      rw [List.getElem?_eq_getElem hlt] at ed
      exact Option.some.inj ed
    rw [el] at cw
    have stI := s.trans s2
    have rw2 := ((r.step s1 o1).step stI o2).wipe vs
    refine ⟨O, g2, n, _, dx, _, rw2, e2, cw, fun σ2 ε2 q2 r2 on => ⟨by rw [on.wipe hv, wipe_idem], O, g2, n, ε2, _, r2, q2, fun b g3 H3 n3 q3 s3 o3 => ?_⟩⟩
    have s23 := s2.trans s3
    have dH : H D ≠ none := by rw [h3]; exact Option.some_ne_none _
    cases b with
    | true =>
      refine iteT ?_
      refine ⟨O, g3, n3, ε2, _, r2.step s3 o3, q3.1 rfl, fun v g4 H4 n4 y q4 s4 o4 e4 => ?_⟩
      have s24 := s23.trans s4
      have hD4 : H4 D = some (.lst vsL) := s24.kep D _ h3 h2
      have g4D : g4.G D = none := s24.gro D dH h1
      have p4D : ¬ g4.pot D := fun z => h2 (s24.grp D dH z)
      refine ⟨vsL, hD4, by rw [h4.length]; omega, g4, n4, acc ++ [y], vsL ++ [v], ⟨fun a u w => ?_, fun a z => ?_, o4.t.upd (fun u z => by rw [hD4] at z; cases z; exact .inl ⟨_, rfl⟩) (fun ps z => by cases z)⟩, ?_, g4D, p4D, upd_same, (h4.mono s24.ext).append (.cons e4 .nil), by rw [List.length_append, List.length_singleton]; omega, q4⟩
      · rw [upd_ne (ne_of_none w g4D)]
        exact o4.sub a u w
      · rw [upd_ne fun w => p4D (by rw [← w]; exact z)]
        exact o4.pot a z
      · exact (s.trans s24).mut hD
    | false =>
      refine iteF ?_
      exact ⟨g3, n3, acc, vsL, o3, s.trans s23, s23.gro D dH h1, fun z => h2 (s23.grp D dH z), s23.kep D _ h3 h2, h4.mono s23.ext, Nat.le_succ_of_le h5, q3.2 rfl⟩
  · have e : i = xs.length := by omega
    subst e
    rw [List.drop_length] at cw
    exact .inl ⟨wk.stop H sm, k D vsL g H n acc cw (s1.trans s) o (s1.back0 hD) h1 h2 h3 h4⟩
theorem do_comp {vs : List Nat} (hc : X.calm = true) (hN : X.N.Nodup) (hi : PI X tg iter (liftI X.K di)) (ok : BlkOk X.N X.env.scope scope own) (hv : ∀ i ∈ ws, i ∈ vs)
    (hg : ∀ (s : Shared) (H : Hp) (C : Addr) (cl : List (Str × Addr)) (fp : List Addr), PG (X.blk s H scope (compEnvC scope cl C X.env) fp) tg (liftG X.K ws dg)) (ht : ∀ (s : Shared) (H : Hp) (C : Addr) (cl : List (Str × Addr)) (fp : List Addr), PTs (X.blk s H scope (compEnvC scope cl C X.env) fp) ifs (liftT X.K t))
    (he : ∀ (s : Shared) (H : Hp) (C : Addr) (cl : List (Str × Addr)) (fp : List Addr), PE (X.blk s H scope (compEnvC scope cl C X.env) fp) elt (liftE X.K d)) (hs : ∀ x, foldedSetIterable iter X.env x = pure x := by intro _; rfl) (hvs : own.map (·.2) = vs := by rfl) :
    PE X (.ListComp elt [⟨tg, iter, ifs, 0⟩] scope pos) (liftO X.K (dComp di dg t d vs)) := by
  subst hvs
  exact pe_w (pe_lc hc hN hi ok hg ht he hs) (comp_ok hv)
variable {i : Nat} {y : Str} {py spos : Pos}
theorem setLc_ok {K : PySem.W.Frag} {o : DO} : ∀ E σ H, liftS W K (dSet i (dO o)) E σ H → tAsg (liftO K o) (gName i) E σ H := fun E σ H ⟨U, g0, H0, g, n, ε, N, uo, r, s0, q, k1, k2, k3, k4⟩ =>
  ⟨_, g, n, ε, _, r, q, fun p vs g' H' n' ds q1 s1 o1 h0 h1 h2 h3 h4 => by
    have ex : Ext g' (g'.add p (.lst vs)) := Ext.addOld h1
    have st : Stp g H (g'.add p (.lst vs)) H' := ⟨s1.ext.trans ex, fun a dd z => by
      show upd g'.G p (.lst vs) a = none
      rw [upd_ne fun w => dd (by rw [w]; exact h0)]
      exact s1.gro a dd z, s1.grp, s1.kep, s1.dom⟩
    have ok2 := o1.addOld h3 h2
    exact k1 _ _ H' n' _ q1 ((r.step st ok2).set (.lst Gh.at (h4.mono ex))) (s0.trans st)⟩
theorem ps_setComp {vs : List Nat} (hc : X.calm = true) (hN : X.N.Nodup) (hy : X.N[i]? = some y) (hyl : X.env.scope.names.lookup y = some .local) (hsw : swapsWith (.ListComp elt [⟨tg, iter, ifs, 0⟩] scope pos) (some (.Name y py)) spos.line X.env = pure true)
    (hi : PI X tg iter (liftI X.K di)) (ok : BlkOk X.N X.env.scope scope own) (hv : ∀ i ∈ ws, i ∈ vs)
    (hg : ∀ (s : Shared) (H : Hp) (C : Addr) (cl : List (Str × Addr)) (fp : List Addr), PG (X.blk s H scope (compEnvC scope cl C X.env) fp) tg (liftG X.K ws dg)) (ht : ∀ (s : Shared) (H : Hp) (C : Addr) (cl : List (Str × Addr)) (fp : List Addr), PTs (X.blk s H scope (compEnvC scope cl C X.env) fp) ifs (liftT X.K t))
    (he : ∀ (s : Shared) (H : Hp) (C : Addr) (cl : List (Str × Addr)) (fp : List Addr), PE (X.blk s H scope (compEnvC scope cl C X.env) fp) elt (liftE X.K d)) (hs : ∀ x, foldedSetIterable iter X.env x = pure x := by intro _; rfl) (hvs : own.map (·.2) = vs := by rfl) :
    PS X (.Assign [.Name y py] (.ListComp elt [⟨tg, iter, ifs, 0⟩] scope pos) spos) (tAsg (liftO X.K (dComp di dg t d vs)) (gName i)) := by
  subst hvs
  exact ps_w (ps_setLc hc hN hy hyl hsw hi ok hg ht he hs) fun E σ H h => comp_ok hv σ H _ h
theorem ds_setComp {o : DO} (h : PS X (.Assign [.Name y py] e spos) (tAsg (liftO X.K o) (gName i))) : PS X (.Assign [.Name y py] e spos) (liftS W X.K (dSet i (dO o))) := ps_w h setLc_ok
end
end Pd
namespace Pd
open PySem L2
variable {W : WX}
abbrev FD := List D → Nat → (Nat → D → Prop) → Prop
def liftF (K : PySem.W.Frag) (f : FD) : Sp := fun vs H Q _ => ∃ g n ds P, Ok K g H n ∧ Dens K g vs ds ∧ f ds n P ∧ ∀ v g' H' n' r, P n' r → Stp g H g' H' → Ok K g' H' n' → Den K g' v r → Q v H'
def envOf (N : Nat) (ds : List D) : Ev := ds.map Sl.val ++ List.replicate (N - ds.length) Sl.no
def dFn (N np : Nat) (b : DS) : FD := fun ds n P => ds.length = np ∧ b { nx := fun n _ => P n .non, rt := P } n (envOf N ds)
theorem envOf_at {N : Nat} {ds : List D} {i : Nat} {s : Sl} (h : (envOf N ds)[i]? = some s) : s = .no ∨ ∃ d, ds[i]? = some d ∧ s = .val d := by
  unfold envOf at h
  rw [List.getElem?_append] at h
  split at h
  · rw [List.getElem?_map] at h
    cases e : ds[i]? with
    | none =>
      rw [e] at h
      cases h
    | some d =>
      rw [e] at h
      cases h
      exact .inr ⟨d, rfl, rfl⟩
  · rw [List.getElem?_replicate] at h
    split at h
    · cases h
      exact .inl rfl
    · cases h
theorem start_at {names : List Str} {vs : List V} {i : Nat} {v : V} (h : vs[i]? = some v) : (L2.start names vs)[i]? = some (some v) := by
  unfold L2.start
  have hi : i < vs.length := (List.getElem?_eq_some_iff.mp h).1
  rw [List.getElem?_append_left (by rw [List.length_map]; exact hi), List.getElem?_map, h]
  rfl
theorem Rp.start {K : PySem.W.Frag} {O : OD → Addr → Prop} {g : Gh} {H : Hp} {n : Nat} {names : List Str} {vs : List V} {ds : List D} (ok : Ok K g H n) (h : Dens K g vs ds) : Rp K O g H n (L2.start names vs) (envOf names.length ds) := by
  refine ⟨ok, ?_, fun i s e => ?_, fun i j p d1 d2 _ e1 _ _ _ => ?_⟩
  · unfold L2.start envOf
    rw [List.length_append, List.length_append, List.length_map, List.length_map, List.length_replicate, List.length_replicate, h.length]
  · rcases envOf_at e with z | ⟨d, z, w⟩
    · rw [z]
      trivial
    · rw [w]
      obtain ⟨v, v1, v2⟩ := h.get z
      exact ⟨v, start_at v1, v2⟩
  · rcases envOf_at e1 with z | ⟨d, _, z⟩
    · cases z
    · cases z
theorem liftF_body {K : PySem.W.Frag} {b : DS} {names : List Str} {np : Nat} {vs : List V} {H : Hp} {Q : VK} {E : XK} (h : liftF K (dFn names.length np b) vs H Q E) : liftS W0 K b { nx := fun _ H' => Q .non H', rt := Q } (L2.start names vs) H := by
  obtain ⟨g, n, ds, P, ok, dd, ⟨_, q⟩, k⟩ := h
  exact ⟨fun _ _ => True, g, H, g, n, _, _, ⟨fun _ _ => trivial, fun _ _ _ _ _ => trivial, fun _ _ _ _ => trivial⟩, Rp.start ok dd, Stp.refl g H, q, fun σ' g' H' n' ε' q' r' s' => k .non g' H' n' .non q' s' r'.ok .non, fun _ _ _ _ _ q' _ _ => q'.elim, fun _ _ _ _ _ q' _ _ => q'.elim, k, fun _ _ _ _ _ _ _ q' _ _ _ => q'.elim, fun _ _ _ _ _ _ _ q' _ _ _ => q'.elim, fun _ _ _ _ _ _ _ _ _ q' _ _ _ _ => q'.elim⟩
theorem liftF_len {K : PySem.W.Frag} {b : DS} {N np : Nat} {vs : List V} {H : Hp} {Q : VK} {E : XK} (h : liftF K (dFn N np b) vs H Q E) : vs.length = np := by
  obtain ⟨g, n, ds, P, ok, dd, ⟨q, _⟩, k⟩ := h
  rw [dd.length]
  exact q
theorem liftF_mono {K : PySem.W.Frag} {f f' : FD} (h : ∀ ds n P, f' ds n P → f ds n P) : ∀ vs H Q E, liftF K f' vs H Q E → liftF K f vs H Q E := fun vs H Q E ⟨g, n, ds, P, ok, dd, q, k⟩ => ⟨g, n, ds, P, ok, dd, h _ _ _ q, k⟩
structure FnG (P : Program) (w : World) (K : PySem.W.Frag) (mg : Str → Option Value) (base : Heap) (k : Nat) (f : Addr) (fd : FuncData) (ps : List Str) (sp : Sp) : Prop where
  len : ∀ vs H Q E, sp vs H Q E → vs.length = ps.length
  run : ∀ (A : Around) (outer : List Env) (s : Shared) (H : Hp) (args : Args) (us : List Value) (vs : List V) (Q : VK) (E : XK), Room k A → A.guards = some [] → Env0 P w K mg base A outer s H → BindsTo s fd args (ps.zip us) → Vals vs us → sp vs H Q E →
    codeAny (model P w) A (.call (.ref f) args) (CR CX0 outer P w H s Q E) s
section
variable {P : Program} {w : World} {K : PySem.W.Frag} {mg : Str → Option Value} {base : Heap} {k : Nat} {f : Addr} {fd : FuncData} {ps : List Str} {sp sp' : Sp}
theorem FnG.imp (F : FnG P w K mg base k f fd ps sp) (h : ∀ vs H Q E, sp' vs H Q E → sp vs H Q E) : FnG P w K mg base k f fd ps sp' :=
  ⟨fun vs H Q E q => F.len vs H Q E (h _ _ _ _ q), fun A outer s H args us vs Q E hr hg he hb hv hs => F.run A outer s H args us vs Q E hr hg he hb hv (h _ _ _ _ hs)⟩
theorem FnG.mono {j : Nat} (F : FnG P w K mg base j f fd ps sp) (h : j ≤ k) : FnG P w K mg base k f fd ps sp := ⟨F.len, fun A outer s H args us vs Q E hr => F.run A outer s H args us vs Q E (hr.mono h)⟩
theorem FnG.of (F : FnOk P w K mg base CX0 k f fd ps sp) : FnG P w K mg base k f fd ps sp := ⟨F.len, fun A outer s H args us vs Q E hr _ => F.run A outer s H args us vs Q E hr⟩
theorem FnG.mk' {x qual : Str} {params : Arguments} {body : List Stmt} {scope : Scope} {dvs : List V} {kws : List (Str × V)} {N : List Str} (F : FunD K x qual params body scope dvs kws f fd) (S : FnScope N ps scope) (len : ∀ vs H Q E, sp vs H Q E → vs.length = ps.length)
    (hb : ∀ (cdv : Value), cdv = fd.code → ∀ (A : Around) (outer : List Env) (s : Shared) (H : Hp) (vs : List V) (Q : VK) (E : XK), Room k (A.deeper (PyProof.Rows.envOfC qual scope s.heap.objs.size f cdv)) → A.guards = some [] → sp vs H Q E →
      ∃ t, PSs (cxOf CX0 P w K mg base N qual scope f cdv A outer s H E) body t ∧ t { nx := fun _ H' => Q .non H', rt := Q } (L2.start N vs) H) : FnG P w K mg base (k + 1) f fd ps sp := by
  obtain ⟨oc, od, dV, kV, doc, pm, an, cdv, ct, osl, rfl, lk, hcd, _, _⟩ := F.ex
  refine ⟨len, ?_⟩
  intro A outer s H args us vs Q E room guards e0 hbind rel hsp
  have hlen := len _ _ _ _ hsp
  have kept : ∀ b o, base.get? b = some o → s.heap.get? b = some o := fun b o e => (e0.bs b o e).1
  have hK : K.In s.heap := e0.mod.kin.keeps kept
  refine codeAny_call_function room.depth (hK _ _ lk) rfl S.co S.gen rfl (PySem.W.codeRec_of hK hcd) (hbind _ _ _ _ (wpAny_newFunctionEnv_cells S.kind (fun y hy => ?_) fun env he s1 x => ?_))
  · rcases S.par y.1 (List.of_mem_zip (a := y.1) (b := y.2) hy).1 with z | z
    · exact .inl z
    · exact .inr ⟨z, PySem.W.cellsFrom_some _ _ _ (.inl z)⟩
  · subst he
    refine ⟨(e0.mod.nolimit.keeps kept).keeps x.toInCall.keep, codeAny_func ?_⟩
    obtain ⟨t, ht, ok⟩ := hb cdv rfl A outer s H vs Q E (room.deeper _) guards hsp
    refine wpAny_mono (ht.run [] s1 (L2.start N vs) H _ (inv_start S room.hd e0 hlen rel x) ok) (fun fl s' z => ?_) fun _ _ z => z
    cases fl with
    | next =>
      obtain ⟨σ', H', J, q⟩ := z
      exact ⟨.non, H', J.os, J.bare, J.base, J.hok, rfl, q⟩
    | ret u =>
      obtain ⟨v, σ', H', J, r, q⟩ := z
      exact ⟨v, H', J.os, J.bare, J.base, J.hok, r, q⟩
    | brk =>
      obtain ⟨_, _, _, q⟩ := z
      exact False.elim q
    | cont =>
      obtain ⟨_, _, _, q⟩ := z
      exact False.elim q
end
section
variable {P : Program} {w : World} {K : PySem.W.Frag} {mg : Str → Option Value} {base : Heap} {k : Nat} {f : Addr} {fd : FuncData} {ps : List Str}
theorem fn_ok {x qual : Str} {params : Arguments} {body : List Stmt} {scope : Scope} {dvs : List V} {kws : List (Str × V)} {N : List Str} {b : DS} {sp : FD} (F : FunD K x qual params body scope dvs kws f fd) (S : FnScope N ps scope)
    (hb : ∀ (cdv : Value) (A : Around) (outer : List Env) (s : Shared) (H : Hp) (E : XK), Room k (A.deeper (PyProof.Rows.envOfC qual scope s.heap.objs.size f cdv)) → PSs (cxOf CX0 P w K mg base N qual scope f cdv A outer s H E).nox body (liftS W0 K b))
    (hs : ∀ ds n Q, sp ds n Q → dFn N.length ps.length b ds n Q) : FnOk P w K mg base CX0 (k + 1) f fd ps (liftF K sp) :=
  (F.ok (sp := liftF K (dFn N.length ps.length b)) S (fun vs H Q E h => liftF_len h) fun cdv A outer s H vs Q E hr h => ⟨_, PSs.nox (hb cdv A outer s H E hr), liftF_body h⟩).imp (liftF_mono hs)
theorem fnG_ok {x qual : Str} {params : Arguments} {body : List Stmt} {scope : Scope} {dvs : List V} {kws : List (Str × V)} {N : List Str} {b : DS} {sp : FD} (F : FunD K x qual params body scope dvs kws f fd) (S : FnScope N ps scope)
    (hb : ∀ (cdv : Value), cdv = fd.code → ∀ (A : Around) (outer : List Env) (s : Shared) (H : Hp) (E : XK), Room k (A.deeper (PyProof.Rows.envOfC qual scope s.heap.objs.size f cdv)) → (A.deeper (PyProof.Rows.envOfC qual scope s.heap.objs.size f cdv)).guards = some [] → PSs (cxOf CX0 P w K mg base N qual scope f cdv A outer s H E).nox body (liftS W0 K b))
    (hs : ∀ ds n Q, sp ds n Q → dFn N.length ps.length b ds n Q) : FnG P w K mg base (k + 1) f fd ps (liftF K sp) :=
  (FnG.mk' (sp := liftF K (dFn N.length ps.length b)) F S (fun vs H Q E h => liftF_len h) fun cdv hcd A outer s H vs Q E hr hg h => ⟨_, PSs.nox (hb cdv hcd A outer s H E hr hg), liftF_body h⟩).imp (liftF_mono hs)
end
def dCall (f : FD) (dd : List D) (t : DA) : DE := fun n ε P => t n ε fun n1 ds => f (ds ++ dd) n1 P
section
variable {X : Cx} {k : Nat} {f C : Addr} {fd : FuncData} {ps : List Str} {sp : FD} {dvs : List V} {dd : List D} {ds : List Value} {E : XK} {x m : Str} {p pos apos : Pos} {e o : Expr} {es : List Expr} {da : DE} {t : DA}
theorem call_ok {K : PySem.W.Frag} (hd : ∀ g, Dens K g dvs dd) : ∀ σ H Q, liftE K (dCall sp dd t) σ H Q → tCall (liftF K sp) dvs E (liftA K t) σ H Q := fun σ H Q ⟨O, g, n, ε, P, r, q, kk⟩ =>
  ⟨O, g, n, ε, _, r, q, fun vs g1 H1 n1 d1 q1 s1 o1 e1 => ⟨g1, n1, d1 ++ dd, P, o1, e1.append (hd g1), q1, fun v g2 H2 n2 z q2 s2 o2 e2 => kk v g2 H2 n2 z q2 (s1.trans s2) o2 e2⟩⟩
theorem de_call (F : FnOk X.prog X.w X.K X.mg X.base CX0 k f fd ps (liftF X.K sp)) (hr : Room k X.A) (hg : Gl X x) (hm : X.mg x = some (.ref f)) (hk : PySem.W.keepIn X.K (.ref f) = true) (hb : Binds X.K fd ps ds) (hv : Vals dvs ds) (hd : ∀ g, Dens X.K g dvs dd)
    (ha : PA X (e :: es) (liftA X.K t)) (hdb : (x == ("__debug__" : Str)) = false := by decide) (he : starEach (e :: es) X.env = (false, eval e X.env) :: starEach es X.env := by rfl) (hpl : (backTo pos (starEach es X.env)).any (·.1) = false := by rfl) :
    PE X (.Call (.Name x p) (e :: es) [] pos) (liftE X.K (dCall sp dd t)) := pe_w (pe_call F hr hg hm hk hb hv pass0 ha hdb he hpl) (call_ok (E := E0) hd)
theorem de_callG (F : FnG X.prog X.w X.K X.mg X.base k f fd ps (liftF X.K sp)) (hr : Room k X.A) (hgd : X.A.guards = some []) (hg : Gl X x) (hm : X.mg x = some (.ref f)) (hk : PySem.W.keepIn X.K (.ref f) = true) (hb : Binds X.K fd ps ds) (hv : Vals dvs ds) (hd : ∀ g, Dens X.K g dvs dd)
    (ha : PA X (e :: es) (liftA X.K t)) (hdb : (x == ("__debug__" : Str)) = false := by decide) (he : starEach (e :: es) X.env = (false, eval e X.env) :: starEach es X.env := by rfl) (hpl : (backTo pos (starEach es X.env)).any (·.1) = false := by rfl) :
    PE X (.Call (.Name x p) (e :: es) [] pos) (liftE X.K (dCall sp dd t)) := by
  refine pe_w (t := tCall (liftF X.K sp) dvs E0 (liftA X.K t)) ⟨fun pins s σ H Q I h => ?_⟩ (call_ok hd)
  refine wpAny_Call_Name_kw (ld_glob I hg hm (PySem.W.callWith_K (h₀ := X.base) I.ok.mod.kin hk (thn (ha.run pos pins s σ H _ I h) fun us s1 ⟨vs, H1, I1, r, q⟩ => ⟨I1.kIn, ?_⟩) he hpl) hdb)
  have q' : liftF X.K sp (vs ++ dvs) H1 Q E0 := q
  have r2 : Vals (vs ++ dvs) (us ++ ds) := r.append hv
  have hl : (us ++ ds).length = ps.length := by
    rw [← r2.length]
    exact F.len _ _ _ _ q'
  refine wpAny_call (codeAny_mono (F.run X.A X.stack s1 H1 ⟨us, []⟩ (us ++ ds) (vs ++ dvs) Q E0 hr hgd I1.env0 (hb s1 us I1.kIn hl) r2 q') fun z s' hz => ?_)
  cases z with
  | error er =>
    have hf : CX0 X.stack H1 s1 E0 er s' := hz
    exact hf.elim
  | ok fl =>
    cases fl with
    | ret u => exact I1.after hz
    | next => exact False.elim hz
    | brk => exact False.elim hz
    | cont => exact False.elim hz
theorem Flds.lookup {K : PySem.W.Frag} {g : Gh} {f : Str} : ∀ {fvs : List (Str × V)} {fs : List (Str × D)} {d : D}, Flds K g fvs fs → fs.lookup f = some d → ∃ v, fvs.lookup f = some v ∧ Den K g v d
  | _, _, _, .nil, e => by simp at e
  | _, _, _, .cons (x := x) (v := v) (d := d') (vs := vs) (ds := ds) h t, e => by
    rw [List.lookup_cons] at e ⊢
    cases z : f == x with
    | true =>
      rw [z] at e
      cases e
      exact ⟨v, rfl, h⟩
    | false =>
      rw [z] at e
      exact Flds.lookup t e
theorem Flds.lookupN {K : PySem.W.Frag} {g : Gh} {f : Str} : ∀ {fvs : List (Str × V)} {fs : List (Str × D)}, Flds K g fvs fs → fs.lookup f = none → fvs.lookup f = none
  | _, _, .nil, _ => rfl
  | _, _, .cons (x := x) h t, e => by
    rw [List.lookup_cons] at e ⊢
    cases z : f == x with
    | true =>
      rw [z] at e
      cases e
    | false =>
      rw [z] at e
      exact Flds.lookupN t e
def dFld (C : Addr) (f : Str) (d : DE) : DE := fun n ε P => d n ε fun n1 x => match x with
  | .obj C' fs => C' = C ∧ ∃ y, fs.lookup f = some y ∧ P n1 y
  | _ => False
def dProp (C : Addr) (sp : FD) (d : DE) : DE := fun n ε P => d n ε fun n1 x => match x with
  | .obj C' fs => C' = C ∧ sp [.obj C' fs] n1 P
  | _ => False
def dMeth (C : Addr) (m : Str) (sp : FD) (dd : List D) (d : DE) (t : DA) : DE := fun n ε P => d n ε fun n1 x => match x with
  | .obj C' fs => C' = C ∧ fs.lookup m = none ∧ t n1 ε fun n2 ds => sp (.obj C' fs :: (ds ++ dd)) n2 P
  | _ => False
theorem de_fld {f : Str} (c : Cls X.K C) (na : NoAttr X.K C f) (ha : PE X o (liftE X.K da)) (hb : attributeBase o f X.env (eval o X.env) = eval o X.env := by rfl) : PE X (.Attribute o f pos) (liftE X.K (dFld C f da)) :=
  de_of (pe_fld ha hb) fun O g H n σ ε P Q r q kk => ⟨O, g, n, ε, _, r, q, fun v g1 H1 n1 x q1 s1 o1 e1 => by
    cases e1 with
    | obj h1 h2 =>
      obtain ⟨rfl, y, l, q2⟩ := q1
      obtain ⟨v', l', dv⟩ := h2.lookup l
      exact ⟨_, _, _, _, v', rfl, o1.sub _ _ h1, c, na, l', kk v' g1 H1 n1 y q2 s1 o1 dv⟩
    | _ => exact q1.elim⟩
theorem de_prop {f : Str} {pp gg : Addr} (c : Cls X.K C) (hp : PropOf X.K C f pp gg) (F : FnOk X.prog X.w X.K X.mg X.base CX0 k gg fd ps (liftF X.K sp)) (hr : Room (k + 1) X.A) (hb : Binds X.K fd ps []) (ha : PE X o (liftE X.K da))
    (hab : attributeBase o f X.env (eval o X.env) = eval o X.env := by rfl) : PE X (.Attribute o f pos) (liftE X.K (dProp C sp da)) :=
  de_of (pe_prop ha c hp F hr hb .nil (E := E0) pass0 hab) fun O g H n σ ε P Q r q kk => ⟨O, g, n, ε, _, r, q, fun v g1 H1 n1 x q1 s1 o1 e1 => by
    cases e1 with
    | obj h1 h2 =>
      obtain ⟨rfl, q2⟩ := q1
      exact ⟨_, _, _, rfl, o1.sub _ _ h1, g1, n1, _, P, o1, .cons (.obj h1 h2) .nil, q2, fun v2 g2 H2 n2 z q3 s3 o3 e3 => kk v2 g2 H2 n2 z q3 (s1.trans s3) o3 e3⟩
    | _ => exact q1.elim⟩
theorem meth_ok {K : PySem.W.Frag} (hd : ∀ g, Dens K g dvs dd) : ∀ σ H Q, liftE K (dMeth C m sp dd da t) σ H Q → tMeth C m (liftF K sp) dvs E (liftE K da) (liftA K t) σ H Q := fun σ H Q ⟨O, g, n, ε, P, r, q, kk⟩ =>
  ⟨O, g, n, ε, _, r, q, fun v g1 H1 n1 x q1 s1 o1 e1 => by
    cases e1 with
    | obj h1 h2 =>
      obtain ⟨rfl, l, q2⟩ := q1
      exact ⟨_, _, _, rfl, o1.sub _ _ h1, h2.lookupN l, O, g1, n1, ε, _, r.step s1 o1, q2, fun vs g2 H2 n2 d2 q3 s3 o3 e3 => ⟨g2, n2, _, P, o3, .cons ((Den.obj h1 h2).mono s3.ext) (e3.append (hd g2)), q3, fun v2 g4 H4 n4 z q4 s4 o4 e4 => kk v2 g4 H4 n4 z q4 ((s1.trans s3).trans s4) o4 e4⟩⟩
    | _ => exact q1.elim⟩
theorem de_meth {pl : Sem Bool} (c : Cls X.K C) (hm : Meth X.K C m f) (F : FnOk X.prog X.w X.K X.mg X.base CX0 k f fd ps (liftF X.K sp)) (hr : Room k X.A) (hb : Binds X.K fd ps ds) (hv : Vals dvs ds) (hd : ∀ g, Dens X.K g dvs dd) (ho : PE X o (liftE X.K da)) (ha : PA X (e :: es) (liftA X.K t))
    (hst : starEach (e :: es) X.env = (false, eval e X.env) :: starEach es X.env := by rfl) (hpl : (backTo pos (starEach es X.env)).any (·.1) = false := by rfl)
    (ht : eval (.Call (.Attribute o m apos) (e :: es) [] pos) X.env = (do
      let ov ← eval o X.env
      standAt apos.atName
      let (f, first) ← holding [ov] (getMethod ov m pl)
      callWith pos f first (backTo pos (starEach (e :: es) X.env)) (backToKw pos (keywordEach [] X.env))) := by rfl) :
    PE X (.Call (.Attribute o m apos) (e :: es) [] pos) (liftE X.K (dMeth C m sp dd da t)) := pe_w (pe_meth ho c hm F hr hb hv (E := E0) pass0 ha hst hpl ht) (meth_ok hd)
abbrev FI := List D → Nat → (Nat → List (Str × D) → Prop) → Prop
def rem (H : Hp) (x : Addr) : Hp := fun a => if a = x then none else H a
def liftInit (K : PySem.W.Frag) (C : Addr) (f : FI) : Sp := fun vs H Q _ => ∃ g n x dx vs' ds P, vs = .ref x :: vs' ∧ H x = some (.ins C dx []) ∧ g.G x = none ∧ ¬ g.pot x ∧ Ok K g H n ∧ Dens K g vs' ds ∧ f ds n P ∧
  ∀ g' H' n' fs dx' fvs, P n' fs → Stp g (rem H x) g' H' → Ok K g' H' n' → g'.G x = none → ¬ g'.pot x → H' x = some (.ins C dx' fvs) → Flds K g' fvs fs → Q .non H'
def dMake (C : Addr) (f : FI) (dd : List D) (t : DA) : DE := fun n ε P => t n ε fun n1 ds => f (ds ++ dd) n1 fun n2 fs => P n2 (.obj C fs)
theorem make_ok {K : PySem.W.Frag} {fi : FI} (hd : ∀ g, Dens K g dvs dd) : ∀ σ H Q, liftE K (dMake C fi dd t) σ H Q → tMake C (liftInit K C fi) dvs E (liftA K t) σ H Q := fun σ H Q ⟨O, g, n, ε, P, r, q, kk⟩ =>
  ⟨O, g, n, ε, _, r, q, fun vs g1 H1 n1 d1 q1 s1 o1 e1 => fun x dx hx hdx hne => by
    obtain ⟨a1, a2, a3, a4⟩ := new_own o1 hdx (.own x)
    have hx1 : upd H1 dx (.own x) x = none := by rw [upd_ne hne.symm]; exact hx
    obtain ⟨b1, b2, b3, b4⟩ := new_own a2 hx1 (.ins C dx [])
    refine ⟨g1, n1, x, dx, vs ++ dvs, d1 ++ dd, _, rfl, upd_same, b3, b4, b2, e1.append (hd g1), q1, fun g' H' n' fs dx' fvs q2 s2 o2 h1 h2 h3 h4 => ⟨rfl, ?_⟩⟩
    have hH : H x = none := s1.back0 hx
    have ex : Ext g' (g'.add x (.ins C dx' fvs)) := Ext.addOld h1
    have re : ∀ a, rem (upd (upd H1 dx (.own x)) x (.ins C dx [])) x a = upd H1 dx (.own x) a := fun a => by
      unfold rem
      by_cases z : a = x
      · rw [if_pos z, z, hx1]
      · rw [if_neg z, upd_ne z]
    have s2' : Stp g1 (upd H1 dx (.own x)) g' H' := by
      have e : rem (upd (upd H1 dx (.own x)) x (.ins C dx [])) x = upd H1 dx (.own x) := funext re
      rw [e] at s2
      exact s2
    have st := (s1.trans a1).trans s2'
    have st2 : Stp g H (g'.add x (.ins C dx' fvs)) H' := ⟨st.ext.trans ex, fun a dn z => by
      show upd g'.G x _ a = none
      rw [upd_ne fun w => dn (by rw [w]; exact hH)]
      exact st.gro a dn z, st.grp, st.kep, st.dom⟩
    exact kk _ _ H' n' _ q2 st2 (o2.addOld h3 h2) (.obj Gh.at (h4.mono ex))⟩
theorem de_make {fi : FI} (M : Mk X.K C f) (F : FnOk X.prog X.w X.K X.mg X.base CX0 k f fd ps (liftInit X.K C fi)) (hr : Room (k + 1) X.A) (hg : Gl X x) (hm : X.mg x = some (.ref C)) (hb : Binds X.K fd ps ds) (hv : Vals dvs ds) (hd : ∀ g, Dens X.K g dvs dd)
    (ha : PA X (e :: es) (liftA X.K t)) (hdb : (x == ("__debug__" : Str)) = false := by decide) (he : starEach (e :: es) X.env = (false, eval e X.env) :: starEach es X.env := by rfl) (hpl : (backTo pos (starEach es X.env)).any (·.1) = false := by rfl) :
    PE X (.Call (.Name x p) (e :: es) [] pos) (liftE X.K (dMake C fi dd t)) := pe_w (pe_make M F hr hg hm hb hv (E := E0) pass0 ha hdb he hpl) (make_ok hd)
end
def iniEnd (C : Addr) (P : Nat → List (Str × D) → Prop) (n : Nat) (ε : Ev) : Prop := match (ε : List Sl)[(0 : Nat)]? with
  | some (.own (.ins C' fs)) => C' = C ∧ P n fs
  | _ => False
def dIni (C : Addr) (N np : Nat) (b : DS) : FI := fun ds n P => ds.length + 1 = np ∧ b { nx := fun n ε => iniEnd C P n ε, rt := fun _ _ => False, slf := some C } n (.own (.ins C []) :: envOf (N - 1) ds)
theorem liftInit_body {K : PySem.W.Frag} {C : Addr} {b : DS} {n1 : Str} {names : List Str} {np : Nat} {vs : List V} {H : Hp} {Q : VK} {E : XK} (h : liftInit K C (dIni C (n1 :: names).length np b) vs H Q E) : liftS W0 K b { nx := fun _ H' => Q .non H', rt := Q } (L2.start (n1 :: names) vs) H := by
  obtain ⟨g, n, x, dx, vs', ds, P, rfl, hx, gx, px, ok, dd, ⟨_, q⟩, k⟩ := h
  have hs : L2.start (n1 :: names) (.ref x :: vs') = some (.ref x) :: L2.start names vs' := by
    unfold L2.start
    simp
  rw [hs]
  have r0 : Rp K (fun d p => rem H x p = none ∧ (∀ fs, d = .ins C fs → p = x)) g H n (start names vs') (envOf names.length ds) := Rp.start ok dd
  have noown : ∀ (j : Nat) (d : OD), (envOf names.length ds)[j]? = some (.own d) → False := fun j d e => by
    rcases envOf_at e with z | ⟨_, _, z⟩
    · cases z
    · cases z
  have r1 : Rp K (fun d p => rem H x p = none ∧ (∀ fs, d = .ins C fs → p = x)) g H n (some (.ref x) :: L2.start names vs') (.own (.ins C []) :: envOf names.length ds) := by
    refine ⟨ok, congrArg Nat.succ r0.len, fun i s e => ?_, fun i j p d1 d2 hij e1 e2 _ _ => ?_⟩
    · cases i with
      | zero =>
        cases e
        exact ⟨x, _, rfl, ⟨if_pos rfl, fun _ _ => rfl⟩, gx, px, hx, dx, [], rfl, .nil⟩
      | succ i => exact r0.sl i s (by simpa using e)
    · cases i with
      | zero =>
        cases j with
        | zero => exact hij rfl
        | succ j => exact noown j d2 (by simpa using e2)
      | succ i => exact noown i d1 (by simpa using e1)
  have s0 : Stp g (rem H x) g H := by
    refine ⟨Ext.refl g, fun _ _ z => z, fun _ _ z => z, fun a o e _ => ?_, fun a e => ?_⟩
    · have e' : (if a = x then none else H a) = some o := e
      by_cases z : a = x
      · rw [if_pos z] at e'
        cases e'
      · rw [if_neg z] at e'
        exact e'
    · intro z
      refine e ?_
      show (if a = x then none else H a) = none
      rw [z]
      split <;> rfl
  refine ⟨fun d p => ∀ fs, d = .ins C fs → p = x, g, rem H x, g, n, _, _, ⟨fun ds p fs e => (by cases e), fun C1 fs fs' p h f2 e => h fs (by cases e; rfl), fun C1 fs p h f2 e => (by cases e; exact (h rfl).elim)⟩, r1, s0, q, fun σ' g' H' n' ε' q' r' s' => ?_, fun _ _ _ _ _ q' _ _ => q'.elim, fun _ _ _ _ _ q' _ _ => q'.elim, fun _ _ _ _ _ q' _ _ _ => q'.elim, fun _ _ _ _ _ _ _ q' _ _ _ => q'.elim, fun _ _ _ _ _ _ _ q' _ _ _ => q'.elim, fun _ _ _ _ _ _ _ _ _ q' _ _ _ _ => q'.elim⟩
  have q2 : iniEnd C P n' ε' := q'
  unfold iniEnd at q2
  split at q2
  · rename_i C' fs e
    obtain ⟨rfl, q3⟩ := q2
    obtain ⟨p, o, e1, ⟨_, h2⟩, h3, h4, h5, dx', fvs, rfl, h6⟩ := r'.sl 0 _ e
    have hp : p = x := h2 _ rfl
    subst hp
    exact k g' H' n' fs dx' fvs q3 s' r'.ok h3 h4 h5 h6
  · exact q2.elim
def putFD (f : Str) (v : D) : List (Str × D) → List (Str × D)
  | [] => [(f, v)]
  | (g, x) :: r => if g = f then (g, v) :: r else (g, x) :: putFD f v r
theorem Flds.put {K : PySem.W.Frag} {g : Gh} {f : Str} {v : V} {d : D} (h : Den K g v d) : ∀ {fvs : List (Str × V)} {fs : List (Str × D)}, Flds K g fvs fs → Flds K g (putF f v fvs) (putFD f d fs)
  | _, _, .nil => .cons h .nil
  | _, _, .cons (x := x) a t => by
    unfold putF putFD
    by_cases z : x = f
    · rw [if_pos z, if_pos z]
      exact .cons h t
    · rw [if_neg z, if_neg z]
      exact .cons a (Flds.put h t)
theorem Flds.length {K : PySem.W.Frag} {g : Gh} : ∀ {fvs : List (Str × V)} {fs : List (Str × D)}, Flds K g fvs fs → fvs.length = fs.length
  | _, _, .nil => rfl
  | _, _, .cons _ t => congrArg Nat.succ (Flds.length t)
def dFst (C : Addr) (i : Nat) (f : Str) (d : DE) : DS := fun N n ε => d n ε fun n1 r => match ε[i]? with
  | some (.own (.ins C' fs)) => C' = C ∧ fs.length < 1000 ∧ N.nx n1 (ε.set i (.own (.ins C' (putFD f r fs))))
  | _ => False
section
variable {X : Cx} {C : Addr} {pos pos' : Pos} {o e : Expr} {d : DE} {i : Nat} {f : Str}
theorem ds_fst (c : Cls X.K C) (na : NoAttr X.K C f) (ho : PE X o (tVar i)) (he : PE X e (liftE X.K d)) (hs : swapsWith e (some (.Attribute o f pos')) pos.line X.env = pure false := by rfl) : PS X (.Assign [.Attribute o f pos'] e pos) (liftS W X.K (dFst C i f d)) :=
  ps_w (ps_fld ho he hs) fun E σ H ⟨U, g0, H0, g, n, ε, N, uo, r, s0, q, k1, k2, k3, k4⟩ => ⟨_, g, n, ε, _, r, q, fun v g1 H1 n1 x q1 s1 o1 e1 => by
    split at q1
    · rename_i C' fs es
      obtain ⟨rfl, hl, q2⟩ := q1
      have r1 := r.step s1 o1
      obtain ⟨p, ob, a1, ⟨a2, a2'⟩, a3, a4, a5, dx, fvs, rfl, a6⟩ := r1.sl i _ es
      refine ⟨_, a1, p, C', dx, fvs, rfl, a5, c, na, by rw [a6.length]; exact hl, ?_⟩
      exact k1 σ g1 _ n1 _ q2 (r1.mut es a1 ⟨dx, _, rfl, a6.put e1⟩ fun z => ⟨z.1, uo.ins _ _ _ _ z.2⟩) ((s0.trans s1).mut a2)
    · exact q1.elim⟩
end
end Pd
namespace Pd
open PySem L2
mutual
def toPD : D → PyData
  | .non => .none
  | .bl b => .bool b
  | .int i => .int i
  | .str l => .str ⟨l.toArray⟩
  | .lst xs => .list (toPDs xs)
  | .tup xs => .tuple (toPDs xs)
  | .obj _ _ => .none
  | .pot => .none
  | .scr _ => .none
  | .ref _ => .none
  | .tupK xs => .tuple (toPDs xs)
  | .tupF _ => .none
  | .err _ _ => .none
  | .dic ks vs => .dict ((ks.map fun x => PyData.str ⟨x.toArray⟩).zip (toPDs vs))
def toPDs : List D → List PyData
  | [] => []
  | x :: xs => toPD x :: toPDs xs
end
mutual
def isPd : D → Bool
  | .non => true
  | .bl _ => true
  | .int _ => true
  | .str l => l.all (· < 1114112)
  | .lst xs => isPds xs
  | .tup xs => isPds xs
  | .obj _ _ => false
  | .pot => false
  | .scr _ => false
  | .ref _ => false
  | .tupK xs => isPds xs
  | .tupF _ => false
  | .err _ _ => false
  | .dic _ _ => false
def isPds : List D → Bool
  | [] => true
  | x :: xs => isPd x && isPds xs
end
mutual
def dpt : D → Nat
  | .lst xs => dpts xs + 1
  | .tup xs => dpts xs + 1
  | .non => 0
  | .bl _ => 0
  | .int _ => 0
  | .str _ => 0
  | .obj _ _ => 0
  | .pot => 0
  | .scr _ => 0
  | .ref _ => 0
  | .tupK xs => dpts xs + 1
  | .tupF _ => 0
  | .err _ _ => 0
  | .dic ks vs => (toPD (.dic ks vs)).depth
def dpts : List D → Nat
  | [] => 0
  | x :: xs => max (dpt x) (dpts xs)
end
mutual
def eqD : D → D → Bool
  | .non, .non => true
  | .bl a, .bl b => a == b
  | .bl a, .int j => (if a then 1 else 0) == j
  | .int i, .bl b => i == (if b then 1 else 0)
  | .int i, .int j => i == j
  | .str x, .str y => x == y
  | .lst xs, .lst ys => eqDs xs ys
  | .tup xs, .tup ys => eqDs xs ys
  | .tup xs, .tupK ys => eqDs xs ys
  | .tupK xs, .tup ys => eqDs xs ys
  | .tupK xs, .tupK ys => eqDs xs ys
  | _, _ => false
def eqDs : List D → List D → Bool
  | [], [] => true
  | x :: xs, y :: ys => eqD x y && eqDs xs ys
  | _, _ => false
end
theorem str_beq (a b : List Nat) : ((⟨a.toArray⟩ : Str) == ⟨b.toArray⟩) = (a == b) := by
  rw [Bool.eq_iff_iff]
  simp
mutual
theorem eqv_eqD : ∀ (x y : D), isPd x = true → isPd y = true → PyData.eqv (toPD x) (toPD y) = eqD x y
  | .non, y, _, hy => by cases y <;> first | (simp [isPd] at hy; done) | simp [toPD, PyData.eqv, eqD]
  | .bl a, y, _, hy => by cases y <;> first | (simp [isPd] at hy; done) | simp [toPD, PyData.eqv, eqD]
  | .int i, y, _, hy => by cases y <;> first | (simp [isPd] at hy; done) | simp [toPD, PyData.eqv, eqD]
  | .str l, y, _, hy => by
    cases y with
    | str l' =>
      show ((⟨l.toArray⟩ : Str) == ⟨l'.toArray⟩) = _
      rw [str_beq]
      simp [eqD]
    | _ => first | (simp [isPd] at hy; done) | simp [toPD, PyData.eqv, eqD]
  | .lst xs, y, hx, hy => by
    cases y with
    | lst ys =>
      simp only [toPD, PyData.eqv, eqD]
      exact eqvs_eqDs xs ys (by simpa [isPd] using hx) (by simpa [isPd] using hy)
    | _ => first | (simp [isPd] at hy; done) | simp [toPD, PyData.eqv, eqD]
  | .tup xs, y, hx, hy => by
    cases y with
    | tup ys =>
      simp only [toPD, PyData.eqv, eqD]
      exact eqvs_eqDs xs ys (by simpa [isPd] using hx) (by simpa [isPd] using hy)
    | tupK ys =>
      simp only [toPD, PyData.eqv, eqD]
      exact eqvs_eqDs xs ys (by simpa [isPd] using hx) (by simpa [isPd] using hy)
    | _ => first | (simp [isPd] at hy; done) | simp [toPD, PyData.eqv, eqD]
  | .tupK xs, y, hx, hy => by
    cases y with
    | tup ys =>
      simp only [toPD, PyData.eqv, eqD]
      exact eqvs_eqDs xs ys (by simpa [isPd] using hx) (by simpa [isPd] using hy)
    | tupK ys =>
      simp only [toPD, PyData.eqv, eqD]
      exact eqvs_eqDs xs ys (by simpa [isPd] using hx) (by simpa [isPd] using hy)
    | _ => first | (simp [isPd] at hy; done) | simp [toPD, PyData.eqv, eqD]
  | .obj _ _, _, h, _ => by simp [isPd] at h
  | .pot, _, h, _ => by simp [isPd] at h
  | .scr _, _, h, _ => by simp [isPd] at h
  | .ref _, _, h, _ => by simp [isPd] at h
  | .tupF _, _, h, _ => by simp [isPd] at h
  | .err _ _, _, h, _ => by simp [isPd] at h
  | .dic _ _, _, h, _ => by simp [isPd] at h
theorem eqvs_eqDs : ∀ (xs ys : List D), isPds xs = true → isPds ys = true → PyData.eqvAll (toPDs xs) (toPDs ys) = eqDs xs ys
  | [], [], _, _ => by simp [toPDs, PyData.eqvAll, eqDs]
  | [], _ :: _, _, _ => by simp [toPDs, PyData.eqvAll, eqDs]
  | _ :: _, [], _, _ => by simp [toPDs, PyData.eqvAll, eqDs]
  | x :: xs, y :: ys, hx, hy => by
    rw [isPds, Bool.and_eq_true] at hx hy
    simp only [toPDs, PyData.eqvAll, eqDs]
    rw [eqv_eqD x y hx.1 hy.1, eqvs_eqDs xs ys hx.2 hy.2]
end
mutual
theorem lay_toPD : ∀ x : D, isPd x = true → (toPD x).canLay0 = true
  | .non, _ => by simp [toPD, PyData.canLay0]
  | .bl _, _ => by simp [toPD, PyData.canLay0]
  | .int _, _ => by simp [toPD, PyData.canLay0]
  | .str l, h => by
    simp only [toPD, PyData.canLay0]
    simp only [isPd] at h
    unfold PySem.PyData.strOk
    simpa using h
  | .lst xs, h => by
    simp only [toPD, PyData.canLay0]
    exact lay_toPDs xs (by simpa [isPd] using h)
  | .tup xs, h => by
    simp only [toPD, PyData.canLay0]
    exact lay_toPDs xs (by simpa [isPd] using h)
  | .tupK xs, h => by
    simp only [toPD, PyData.canLay0]
    exact lay_toPDs xs (by simpa [isPd] using h)
  | .obj _ _, _ => by simp [toPD, PyData.canLay0]
  | .pot, _ => by simp [toPD, PyData.canLay0]
  | .scr _, _ => by simp [toPD, PyData.canLay0]
  | .ref _, _ => by simp [toPD, PyData.canLay0]
  | .tupF _, h => by simp [isPd] at h
  | .err _ _, h => by simp [isPd] at h
  | .dic _ _, h => by simp [isPd] at h
theorem lay_toPDs : ∀ xs : List D, isPds xs = true → PyData.canLayAll0 (toPDs xs) = true
  | [], _ => by simp [toPDs, PyData.canLayAll0]
  | x :: xs, h => by
    rw [isPds, Bool.and_eq_true] at h
    simp only [toPDs, PyData.canLayAll0]
    rw [lay_toPD x h.1, lay_toPDs xs h.2]
    rfl
end
mutual
theorem dpt_toPD : ∀ x : D, (toPD x).depth = dpt x
  | .non => by simp [toPD, PyData.depth, dpt]
  | .bl _ => by simp [toPD, PyData.depth, dpt]
  | .int _ => by simp [toPD, PyData.depth, dpt]
  | .str _ => by simp [toPD, PyData.depth, dpt]
  | .lst xs => by simp only [toPD, PyData.depth, dpt]; rw [dpts_toPDs xs]
  | .tup xs => by simp only [toPD, PyData.depth, dpt]; rw [dpts_toPDs xs]
  | .obj _ _ => by simp [toPD, PyData.depth, dpt]
  | .pot => by simp [toPD, PyData.depth, dpt]
  | .scr _ => by simp [toPD, PyData.depth, dpt]
  | .ref _ => by simp [toPD, PyData.depth, dpt]
  | .tupK xs => by simp only [toPD, PyData.depth, dpt]; rw [dpts_toPDs xs]
  | .tupF _ => by simp [toPD, PyData.depth, dpt]
  | .err _ _ => by simp [toPD, PyData.depth, dpt]
  | .dic _ _ => by simp [dpt]
theorem dpts_toPDs : ∀ xs : List D, PyData.depthAll (toPDs xs) = dpts xs
  | [] => by simp [toPDs, PyData.depthAll, dpts]
  | x :: xs => by simp only [toPDs, PyData.depthAll, dpts]; rw [dpt_toPD x, dpts_toPDs xs]
end
def okD (x : D) : Bool := isPd x && decide (dpt x ≤ 50)
theorem okD_shaped {x : D} (h : okD x = true) : SeqAt.shaped (toPD x) = true := by
  unfold okD at h
  rw [Bool.and_eq_true] at h
  unfold SeqAt.shaped
  rw [lay_toPD x h.1, dpt_toPD]
  simp only [Bool.true_and, decide_eq_true_eq]
  have := of_decide_eq_true h.2
  omega
theorem okD_pd {x : D} (h : okD x = true) : isPd x = true := (Bool.and_eq_true_iff.mp h).1
section
variable {K : PySem.W.Frag} {g : Gh} {H : Hp}
mutual
theorem Den.dp (sm : Same g.G H) : ∀ {v : V} {d : D}, Den K g v d → isPd d = true → Dp K H v (toPD d)
  | _, _, .non, _ => .non
  | _, _, .bl b, _ => .bl b
  | _, _, .int i, _ => .int i
  | _, _, .str l, _ => .str _
  | _, _, .lst h1 h2, h => .lst (SqL.of (sm _ _ h1)) (Dens.dp sm h2 (by simpa [isPd] using h))
  | _, _, .tup h1 h2, h => .tup (Or.inl (h1.same sm)) (Dens.dp sm h2 (by simpa [isPd] using h))
  | _, _, .obj h1 h2, h => by simp [isPd] at h
  | _, _, .pot h1 _, h => by simp [isPd] at h
  | _, _, .scr h1, h => by simp [isPd] at h
  | _, _, .ref a, h => by simp [isPd] at h
  | _, _, .tupK h1 h2, h => .tup (h1 _) (Dens.dp sm h2 (by simpa [isPd] using h))
  | _, _, .tupF _ _ _ _, h => by simp [isPd] at h
  | _, _, .err _ _ _, h => by simp [isPd] at h
  | _, _, .dic _ _ _, h => by simp [isPd] at h
theorem Dens.dp (sm : Same g.G H) : ∀ {vs : List V} {ds : List D}, Dens K g vs ds → isPds ds = true → DpAll K H vs (toPDs ds)
  | _, _, .nil, _ => .nil
  | _, _, .cons h t, q => by
    rw [isPds, Bool.and_eq_true] at q
    exact .cons (Den.dp sm h q.1) (Dens.dp sm t q.2)
end
end
def flatD : D → Bool
  | .non => true
  | .bl _ => true
  | .int _ => true
  | .str _ => true
  | _ => false
theorem Den.flat {K : PySem.W.Frag} {g g' : Gh} {v : V} {d : D} (h : Den K g v d) (f : flatD d = true) : Den K g' v d := by
  cases h with
  | non => exact .non
  | bl b => exact .bl b
  | int i => exact .int i
  | str l => exact .str l
  | _ => simp [flatD] at f
def gI (C : Int → Int → Prop) (f : Int → Int → D) : G2 := fun x y P => match x, y with
  | .int i, .int j => C i j ∧ P (f i j)
  | _, _ => False
def TC : Int → Int → Prop := fun _ _ => True
section
variable {K : PySem.W.Frag} {C : Int → Int → Prop} {fv : Int → Int → V} {f : Int → Int → D}
theorem so_i (h : ∀ g i j, Den K g (fv i j) (f i j)) : SOp K (rI C fv) (gI C f) := ⟨fun {g H n x y dx dy P Q} ok ex ey q k => by
  cases ex with
  | int i =>
    cases ey with
    | int j => exact ⟨i, j, rfl, rfl, q.1, k.flat ok q.2 (h g i j)⟩
    | _ => exact q.elim
  | _ => exact q.elim⟩
theorem so_i0 (h : ∀ g i j, Den K g (fv i j) (f i j)) : SOp K (rI0 fv) (gI TC f) := ⟨fun {g H n x y dx dy P Q} ok ex ey q k => by
  cases ex with
  | int i =>
    cases ey with
    | int j => exact ⟨i, j, rfl, rfl, k.flat ok q.2 (h g i j)⟩
    | _ => exact q.elim
  | _ => exact q.elim⟩
end
abbrev gSub : G2 := gI TC fun i j => .int (i - j)
abbrev gFdiv : G2 := gI CDivW fun i j => .int (i / j)
abbrev gMod : G2 := gI (fun _ j => 0 < j) fun i j => .int (i % j)
abbrev gLt : G2 := gI TC fun i j => .bl (decide (i < j))
abbrev gLe : G2 := gI TC fun i j => .bl (decide (i ≤ j))
abbrev gGt : G2 := gI TC fun i j => .bl (decide (j < i))
abbrev gGe : G2 := gI TC fun i j => .bl (decide (j ≤ i))
def CPowW (i j : Int) : Prop := 0 ≤ j ∧ j ≤ 1000000 ∧ (Builtin.Int.intBits i : Int) * j ≤ 2 ^ 27
abbrev gPow : G2 := gI CPowW fun i j => .int (i ^ j.toNat)
section
variable {X : Cx}
theorem op_powW : OpR X (binaryOp .Pow) (rI CPowW fun i j => .int (i ^ j.toNat)) := by
  intro pins s σ H x y v u Q I rx ry h
  obtain ⟨i, j, rfl, rfl, hc, q⟩ := h
  obtain ⟨t, rfl⟩ := rx
  obtain ⟨t', rfl⟩ := ry
  exact PyProof.Rows.pow_int hc.1 hc.2.2 ⟨.int _, H, I.tok _, ⟨_, rfl⟩, q⟩
theorem so_sub : SOp X.K (rI0 fun i j => .int (i - j)) gSub := so_i0 fun _ _ _ => .int _
theorem so_mod : SOp X.K (rI (fun _ j => 0 < j) fun i j => .int (i % j)) gMod := so_i fun _ _ _ => .int _
theorem so_pow : SOp X.K (rI CPowW fun i j => .int (i ^ j.toNat)) gPow := so_i fun _ _ _ => .int _
theorem so_lt : SOp X.K (rI0 fun i j => .bl (decide (i < j))) gLt := so_i0 fun _ _ _ => .bl _
theorem so_le : SOp X.K (rI0 fun i j => .bl (decide (i ≤ j))) gLe := so_i0 fun _ _ _ => .bl _
theorem so_gt : SOp X.K (rI0 fun i j => .bl (decide (j < i))) gGt := so_i0 fun _ _ _ => .bl _
theorem so_ge : SOp X.K (rI0 fun i j => .bl (decide (j ≤ i))) gGe := so_i0 fun _ _ _ => .bl _
end
def gAdd : G2 := fun x y P => match x, y with
  | .int i, .int j => P (.int (i + j))
  | .str a, .str b => a.length + b.length ≤ 16777216 ∧ P (.str (a ++ b))
  | .lst a, .lst b => a.length + b.length ≤ 16777216 ∧ P (.lst (a ++ b))
  | .tup a, .tup b => a.length + b.length ≤ 16777216 ∧ P (.tup (a ++ b))
  | _, _ => False
def rAddS : R2 := fun x y H Q => ∃ i j : Str, x = .str i ∧ y = .str j ∧ i.length + j.length ≤ sizeLine ∧ Q (.str (i ++ j)) H
def rAdd (K : PySem.W.Frag) : R2 := fun x y H Q => rI0 (fun i j => .int (i + j)) x y H Q ∨ rAddS x y H Q ∨ rCat x y H Q ∨ rCatA K x y H Q
theorem str_app (a b : List Nat) : ((⟨a.toArray⟩ : Str) ++ ⟨b.toArray⟩) = ⟨(a ++ b).toArray⟩ := by
  show (⟨a.toArray ++ b.toArray⟩ : Str) = _
  simp
section
variable {X : Cx}
theorem op_addA : OpR X (binaryOp .Add) (rAdd X.K) := op_add.or (op_add_str.or (op_cat.or op_catA))
theorem so_add : SOp X.K (rAdd X.K) gAdd := ⟨fun {g H n x y dx dy P Q} ok ex ey q k => by
  cases ex with
  | int i =>
    cases ey with
    | int j => exact .inl ⟨i, j, rfl, rfl, k.flat ok q (.int _)⟩
    | _ => exact q.elim
  | str a =>
    cases ey with
    | str b => exact .inr (.inl ⟨_, _, rfl, rfl, sz q.1, by rw [str_app]; exact k.flat ok q.2 (.str _)⟩)
    | _ => exact q.elim
  | lst h1 h2 =>
    cases ey with
    | lst h3 h4 => exact .inr (.inr (.inl ⟨_, _, _, _, rfl, rfl, ok.sub _ _ h1, ok.sub _ _ h3, by rw [h2.length, h4.length]; exact sz q.1, fun p hp => k.newL ok q.2 (h2.append h4) hp⟩))
    | _ => exact q.elim
  | tup h1 h2 =>
    rename_i pa vs ds
    cases ey with
    | tup h3 h4 =>
      rename_i pb ws es
      refine .inr (.inr (.inr ⟨_, _, _, _, rfl, rfl, Or.inl (h1.same ok.sub), Or.inl (h3.same ok.sub), by rw [h2.length, h4.length]; exact sz q.1, fun e => ?_, fun _ e => ?_, fun _ _ p hp => k.newT ok q.2 (h2.append h4) hp⟩))
      · subst e
        cases h2
        exact k.flat ok q.2 (.tup h3 h4)
      · subst e
        cases h4
        have q2 := q.2
        rw [List.append_nil] at q2
        exact k.flat ok q2 (.tup h1 h2)
    | _ => exact q.elim
  | _ => exact q.elim⟩
end
def rMulS : R2 := fun x y H Q => ∃ (i : Str) (j : Int), x = .str i ∧ y = .int j ∧ -1000000 ≤ j ∧ j ≤ 1000000 ∧ i.length * j.toNat ≤ 16777216 ∧ Q (.str ⟨((List.replicate j.toNat i.cps.toList).flatten).toArray⟩) H
theorem rep_arr (x : Array Nat) (n : Nat) : (List.replicate n x).foldl (· ++ ·) #[] = ((List.replicate n x.toList).flatten).toArray := by
  have h : ∀ (n : Nat) (acc : Array Nat), (List.replicate n x).foldl (· ++ ·) acc = (acc.toList ++ (List.replicate n x.toList).flatten).toArray := by
    intro n
    induction n with
    | zero => intro acc; simp
    | succ n ih =>
      intro acc
      rw [List.replicate_succ, List.foldl_cons, ih, List.replicate_succ]
      simp
  rw [h]
  simp
section
variable {X : Cx}
theorem op_mulS : OpR X (binaryOp .Mult) rMulS := by
  intro pins s σ H x y v u Q I rx ry h
  obtain ⟨i, j, rfl, rfl, h1, h2, h3, q⟩ := h
  obtain ⟨t, rfl⟩ := rx
  obtain ⟨t', rfl⟩ := ry
  have hz : i.length * j.toNat ≤ sizeLine := sz h3
  have hlen : i.length = i.cps.toList.length := by simp [Str.length]
  refine P.mul_str ?_ (fun hn _ hc => ?_) (fun hn hc => ?_) ?_
  · have a1 : ¬ j < -(2 ^ 63) := by omega
    have a2 : ¬ j ≥ 2 ^ 63 := by omega
    rw [decide_eq_false a1, decide_eq_false a2]
    rfl
  · have e1 : (i.length : Int) * j ≤ 16777216 := by
      have : (((i.length * j.toNat : Nat)) : Int) ≤ ((16777216 : Nat) : Int) := Int.ofNat_le.mpr h3
      rw [Int.natCast_mul, Int.toNat_of_nonneg (by omega)] at this
      exact this
    have e2 : (2 ^ 63 - 1) / j < (i.length : Int) := hc
    have e3 : (2 ^ 63 - 1 : Int) < (i.length : Int) * j := by
      exact Int.lt_mul_of_ediv_lt (show (0 : Int) < j by omega) e2
    omega
  · unfold Builtin.Str.tooLong
    exact decide_eq_false (by omega)
  · by_cases hn : j < 1
    · rw [if_pos hn]
      refine ⟨by decide, ?_⟩
      have e : j.toNat = 0 := by omega
      rw [e] at q
      exact ⟨.str _, H, I.tok _, ⟨_, rfl⟩, q⟩
    · rw [if_neg hn]
      by_cases hc : (j == 1 || i.length == 0) = true
      · rw [if_pos hc]
        refine ⟨.str i, H, I, ⟨_, rfl⟩, ?_⟩
        have e : (⟨((List.replicate j.toNat i.cps.toList).flatten).toArray⟩ : Str) = i := by
          rcases Bool.or_eq_true_iff.mp hc with z | z
          · have e1 : j = 1 := by simpa using z
            subst e1
            cases i
            simp
          · have e1 : i.cps.toList = [] := by
              have : i.length = 0 := by simpa using z
              rw [hlen] at this
              exact List.length_eq_zero_iff.mp this
            rw [e1]
            have e2 : (List.replicate j.toNat ([] : List Nat)).flatten = [] := by simp
            rw [e2]
            cases i with
            | mk c =>
              have : c = #[] := by
                apply Array.toList_inj.mp
                exact e1
              rw [this]
        rw [e] at q
        exact q
      · rw [if_neg hc, rep_arr]
        refine ⟨?_, ⟨.str _, H, I.tok _, ⟨_, rfl⟩, q⟩⟩
        have e : (⟨((List.replicate j.toNat i.cps.toList).flatten).toArray⟩ : Str).length = i.length * j.toNat := by
          show ((List.replicate j.toNat i.cps.toList).flatten.toArray).size = _
          rw [List.size_toArray, List.length_flatten, List.map_replicate, List.sum_replicate_nat, ← hlen, Nat.mul_comm]
        rw [e]
        exact hz
end
def gMul : G2 := fun x y P => match x, y with
  | .int i, .int j => CMulW i j ∧ P (.int (i * j))
  | .str a, .int j => -1000000 ≤ j ∧ j ≤ 1000000 ∧ a.length * j.toNat ≤ 16777216 ∧ P (.str (List.replicate j.toNat a).flatten)
  | .lst a, .int j => -1000000 ≤ j ∧ j ≤ 1000000 ∧ a.length * j.toNat ≤ 16777216 ∧ P (.lst (List.replicate j.toNat a).flatten)
  | .tup a, .int j => a ≠ [] ∧ 2 ≤ j ∧ j ≤ 1000 ∧ a.length ≤ 1000 ∧ P (.tup (List.replicate j.toNat a).flatten)
  | _, _ => False
def rMul (K : PySem.W.Frag) : R2 := fun x y H Q => rI CMulW (fun i j => .int (i * j)) x y H Q ∨ rMulS x y H Q ∨ rRep x y H Q ∨ rRepT K x y H Q
theorem Dens.rep {K : PySem.W.Frag} {g : Gh} {vs : List V} {ds : List D} (h : Dens K g vs ds) : ∀ n : Nat, Dens K g (List.replicate n vs).flatten (List.replicate n ds).flatten
  | 0 => .nil
  | n + 1 => by
    rw [List.replicate_succ, List.replicate_succ, List.flatten_cons, List.flatten_cons]
    exact h.append (Dens.rep h n)
section
variable {X : Cx}
theorem op_mulA : OpR X (binaryOp .Mult) (rMul X.K) := op_mulW.or (op_mulS.or (op_rep.or op_repT))
theorem so_mul : SOp X.K (rMul X.K) gMul := ⟨fun {g H n x y dx dy P Q} ok ex ey q k => by
  cases ex with
  | int i =>
    cases ey with
    | int j => exact .inl ⟨i, j, rfl, rfl, q.1, k.flat ok q.2 (.int _)⟩
    | _ => exact q.elim
  | str a =>
    cases ey with
    | int j => exact .inr (.inl ⟨_, j, rfl, rfl, q.1, q.2.1, q.2.2.1, k.flat ok q.2.2.2 (.str _)⟩)
    | _ => exact q.elim
  | lst h1 h2 =>
    cases ey with
    | int j => exact .inr (.inr (.inl ⟨_, j, _, rfl, rfl, ok.sub _ _ h1, by have := q.1; omega, by have := q.2.1; omega, by rw [h2.length]; exact sz q.2.2.1, fun p hp => k.newL ok q.2.2.2 (h2.rep _) hp⟩))
    | _ => exact q.elim
  | tup h1 h2 =>
    cases ey with
    | int j =>
      refine .inr (.inr (.inr ⟨_, j, _, rfl, rfl, Or.inl (h1.same ok.sub), fun e => q.1 ?_, q.2.1, q.2.2.1, by rw [h2.length]; exact q.2.2.2.1, fun p hp => k.newT ok q.2.2.2.2 (h2.rep _) hp⟩))
      have := h2.length
      rw [e] at this
      exact List.length_eq_zero_iff.mp this.symm
    | _ => exact q.elim
  | _ => exact q.elim⟩
end
def okEq (x y : D) : Bool := match x, y with
  | .non, _ => flatD y || okD y
  | .int _, .int _ => true
  | .str _, .str _ => true
  | .bl _, .bl _ => true
  | _, _ => okD x && okD y
def gEq : G2 := fun x y P => okEq x y = true ∧ P (.bl (eqD x y))
def gNe : G2 := fun x y P => okEq x y = true ∧ P (.bl (!eqD x y))
def rEqA (K : PySem.W.Frag) : R2 := fun x y H Q => rEq x y H Q ∨ rEqD K x y H Q
def rNeA (K : PySem.W.Frag) : R2 := fun x y H Q => rNe x y H Q ∨ rNeD K x y H Q
section
variable {X : Cx}
theorem op_eqA (hu : X.A.units + 64 < cLine) : OpR X (compareOp .Eq) (rEqA X.K) := op_eq.or (op_eqD hu)
theorem op_neA (hu : X.A.units + 64 < cLine) : OpR X (compareOp .NotEq) (rNeA X.K) := op_ne.or (op_neD hu)
theorem eq_cases {K : PySem.W.Frag} {g : Gh} {H : Hp} {n : Nat} {x y : V} {dx dy : D} (ok : Ok K g H n) (ex : Den K g x dx) (ey : Den K g y dy) (h : okEq dx dy = true) :
    (scal x y = true ∧ decide (x = y) = eqD dx dy) ∨ (∃ d e, Dp K H x d ∧ Dp K H y e ∧ SeqAt.shaped d = true ∧ SeqAt.shaped e = true ∧ PyData.eqv d e = eqD dx dy) := by
  have deep : okD dx = true → okD dy = true → (∃ d e, Dp K H x d ∧ Dp K H y e ∧ SeqAt.shaped d = true ∧ SeqAt.shaped e = true ∧ PyData.eqv d e = eqD dx dy) := fun h1 h2 =>
    ⟨_, _, ex.dp ok.sub (okD_pd h1), ey.dp ok.sub (okD_pd h2), okD_shaped h1, okD_shaped h2, eqv_eqD dx dy (okD_pd h1) (okD_pd h2)⟩
  have okn : okD .non = true := by decide
  cases ex with
  | non =>
    cases ey with
    | non => exact .inr (deep okn okn)
    | int i => exact .inl ⟨rfl, by simp [eqD]⟩
    | bl i => exact .inl ⟨rfl, by simp [eqD]⟩
    | str i => exact .inl ⟨rfl, by simp [eqD]⟩
    | _ => exact .inr (deep okn (by simpa [okEq, flatD] using h))
  | int i =>
    cases ey with
    | int j => exact .inl ⟨rfl, dec_int⟩
    | _ =>
      simp only [okEq, Bool.and_eq_true] at h
      exact .inr (deep h.1 h.2)
  | bl i =>
    cases ey with
    | bl j => exact .inl ⟨rfl, dec_bl⟩
    | _ =>
      simp only [okEq, Bool.and_eq_true] at h
      exact .inr (deep h.1 h.2)
  | str i =>
    cases ey with
    | str j => exact .inl ⟨rfl, by rw [dec_str, str_beq]; simp [eqD]⟩
    | _ =>
      simp only [okEq, Bool.and_eq_true] at h
      exact .inr (deep h.1 h.2)
  | _ =>
    simp only [okEq, Bool.and_eq_true] at h
    exact .inr (deep h.1 h.2)
theorem so_eq : SOp X.K (rEqA X.K) gEq := ⟨fun {g H n x y dx dy P Q} ok ex ey q k => by
  have z : Q (.bl (eqD dx dy)) H := k.flat ok q.2 (.bl _)
  rcases eq_cases ok ex ey q.1 with ⟨h1, h2⟩ | ⟨d, e, h1, h2, h3, h4, h5⟩
  · exact .inl ⟨h1, by rw [h2]; exact z⟩
  · exact .inr ⟨d, e, h1, h2, h3, h4, by rw [h5]; exact z⟩⟩
theorem so_ne : SOp X.K (rNeA X.K) gNe := ⟨fun {g H n x y dx dy P Q} ok ex ey q k => by
  have z : Q (.bl (!eqD dx dy)) H := k.flat ok q.2 (.bl _)
  rcases eq_cases ok ex ey q.1 with ⟨h1, h2⟩ | ⟨d, e, h1, h2, h3, h4, h5⟩
  · exact .inl ⟨h1, by rw [h2]; exact z⟩
  · exact .inr ⟨d, e, h1, h2, h3, h4, by rw [h5]; exact z⟩⟩
end
def okIn (x : D) (ys : List D) : Bool := (match x with
  | .str _ => ys.all fun y => match y with
    | .str _ => true
    | _ => false
  | .int _ => ys.all fun y => match y with
    | .int _ => true
    | _ => false
  | _ => false) || okD x && (isPds ys && decide (dpts ys ≤ 50))
def gInB (f : Bool → Bool) : G2 := fun x y P => match y with
  | .str t => match x with
    | .str [c] => P (.bl (f (decide (c ∈ t))))
    | _ => False
  | .lst ys => okIn x ys = true ∧ P (.bl (f (ys.any fun y => eqD y x)))
  | .tup ys => okIn x ys = true ∧ P (.bl (f (ys.any fun y => eqD y x)))
  | .tupK ys => okIn x ys = true ∧ P (.bl (f (ys.any fun y => eqD y x)))
  | _ => False
abbrev gIn : G2 := gInB fun b => b
abbrev gNotIn : G2 := gInB fun b => !b
def rInTD (K : PySem.W.Frag) (f : Bool → Bool) : R2 := fun x y H Q => ∃ d ds, Dp K H x d ∧ Dp K H y (.tuple ds) ∧ SeqAt.shaped d = true ∧ SeqAt.shaped (.tuple ds) = true ∧ Q (.bl (f (ds.any fun z => PyData.eqv z d))) H
section
variable {X : Cx}
theorem room_inT {A : Around} {d : PyData} {ds : List PyData} (hd : SeqAt.shaped d = true) (hu : A.units + 65 < cLine) : A.units + 1 + min (PyData.depthAll ds) d.depth < cLine := by
  have := SeqAt.depth_of_shaped hd
  omega
theorem op_inTD (hu : X.A.units + 65 < cLine) : OpR X (compareOp .In) (rInTD X.K fun b => b) := by
  intro pins s σ H x y v u Q I rx ry h
  obtain ⟨d, ds, hd, he, sd, se, q⟩ := h
  obtain ⟨as, r1⟩ := Dp.reads I d x v hd rx
  obtain ⟨bs, r2⟩ := Dp.reads I (.tuple ds) y u he ry
  exact SeqAt.in_tuple_reads r2 r1 (SeqAt.canLay_of_shaped se) (SeqAt.canLay_of_shaped sd) (room_inT sd hu) ⟨.bl _, H, I, rfl, q⟩
theorem op_notInTD (hu : X.A.units + 65 < cLine) : OpR X (compareOp .NotIn) (rInTD X.K fun b => !b) := by
  intro pins s σ H x y v u Q I rx ry h
  obtain ⟨d, ds, hd, he, sd, se, q⟩ := h
  obtain ⟨as, r1⟩ := Dp.reads I d x v hd rx
  obtain ⟨bs, r2⟩ := Dp.reads I (.tuple ds) y u he ry
  exact SeqAt.notIn_tuple_reads r2 r1 (SeqAt.canLay_of_shaped se) (SeqAt.canLay_of_shaped sd) (room_inT sd hu) ⟨.bl _, H, I, rfl, q⟩
def rInS1 (f : Bool → Bool) : R2 := fun x y H Q => ∃ (c : Nat) (z : Str), x = .str ⟨#[c]⟩ ∧ y = .str z ∧ Q (.bl (f (decide (c ∈ z.cps.toList)))) H
def rInA (K : PySem.W.Frag) : R2 := fun x y H Q => rInS1 (fun b => b) x y H Q ∨ rIn K false x y H Q ∨ rInD K x y H Q ∨ rInTD K (fun b => b) x y H Q
def rNotInA (K : PySem.W.Frag) : R2 := fun x y H Q => rInS1 (fun b => !b) x y H Q ∨ rIn K true x y H Q ∨ rNotInD K x y H Q ∨ rInTD K (fun b => !b) x y H Q
theorem op_inA (hu : X.A.units + 65 < cLine) : OpR X (compareOp .In) (rInA X.K) := op_in_sign.or (op_in_seq.or ((op_inD hu).or (op_inTD hu)))
theorem op_notInA (hu : X.A.units + 65 < cLine) : OpR X (compareOp .NotIn) (rNotInA X.K) := op_notIn_sign.or (op_notIn_seq.or ((op_notInD hu).or (op_notInTD hu)))
theorem any_eqv {d : D} (hd : isPd d = true) : ∀ ys : List D, isPds ys = true → ((toPDs ys).any fun z => PyData.eqv z (toPD d)) = ys.any fun y => eqD y d
  | [], _ => rfl
  | y :: ys, h => by
    rw [isPds, Bool.and_eq_true] at h
    simp only [toPDs, List.any_cons]
    rw [eqv_eqD y d h.1 hd, any_eqv hd ys h.2]
theorem in_strs {K : PySem.W.Frag} {g : Gh} (t : List Nat) : ∀ {xs : List V} {ys : List D}, Dens K g xs ys → (ys.all fun y => match y with
    | .str _ => true
    | _ => false) = true → xs.all flatV = true ∧ inV (.str ⟨t.toArray⟩) xs = ys.any fun y => eqD y (.str t)
  | _, _, .nil, _ => ⟨rfl, rfl⟩
  | _, _, .cons a b, h => by
    simp only [List.all_cons, Bool.and_eq_true] at h
    obtain ⟨i1, i2⟩ := in_strs t b h.2
    cases a with
    | str u =>
      unfold inV at i2 ⊢
      refine ⟨by rw [List.all_cons, i1]; rfl, ?_⟩
      rw [List.any_cons, List.any_cons, i2]
      congr 1
      show ((⟨u.toArray⟩ : Str) == ⟨t.toArray⟩) = _
      rw [str_beq]
      simp [eqD]
    | _ => simp at h
theorem in_ints {K : PySem.W.Frag} {g : Gh} (t : Int) : ∀ {xs : List V} {ys : List D}, Dens K g xs ys → (ys.all fun y => match y with
    | .int _ => true
    | _ => false) = true → xs.all flatV = true ∧ inV (.int t) xs = ys.any fun y => eqD y (.int t)
  | _, _, .nil, _ => ⟨rfl, rfl⟩
  | _, _, .cons a b, h => by
    simp only [List.all_cons, Bool.and_eq_true] at h
    obtain ⟨i1, i2⟩ := in_ints t b h.2
    cases a with
    | int u =>
      unfold inV at i2 ⊢
      refine ⟨by rw [List.all_cons, i1]; rfl, ?_⟩
      rw [List.any_cons, List.any_cons, i2]
      congr 1
    | _ => simp at h
theorem in_cases {K : PySem.W.Frag} {g : Gh} {H : Hp} {n : Nat} {x : V} {dx : D} {xs : List V} {ys : List D} (ok : Ok K g H n) (ex : Den K g x dx) (e2 : Dens K g xs ys) (h : okIn dx ys = true) :
    (flatV x = true ∧ xs.all flatV = true ∧ inV x xs = ys.any fun y => eqD y dx) ∨ (∃ d ds, Dp K H x d ∧ DpAll K H xs ds ∧ SeqAt.shaped d = true ∧ PyData.canLayAll0 ds = true ∧ PyData.depthAll ds ≤ 50 ∧ (ds.any fun z => PyData.eqv z d) = ys.any fun y => eqD y dx) := by
  unfold okIn at h
  rw [Bool.or_eq_true] at h
  rcases h with h | h
  · left
    cases dx with
    | str t =>
      cases ex
      refine ⟨rfl, ?_⟩
      exact in_strs t e2 h
    | int t =>
      cases ex
      refine ⟨rfl, ?_⟩
      exact in_ints t e2 h
    | _ => simp at h
  · right
    rw [Bool.and_eq_true, Bool.and_eq_true] at h
    refine ⟨_, _, ex.dp ok.sub (okD_pd h.1), e2.dp ok.sub h.2.1, okD_shaped h.1, lay_toPDs _ h.2.1, ?_, any_eqv (okD_pd h.1) ys h.2.1⟩
    rw [dpts_toPDs]
    exact of_decide_eq_true h.2.2
theorem shapedL {ds : List PyData} (h : PyData.canLayAll0 ds = true) (q : PyData.depthAll ds ≤ 50) : SeqAt.shaped (.list ds) = true := by
  have e1 : PyData.canLay0 (.list ds) = true := by simpa [PyData.canLay0] using h
  have e2 : PyData.depth (.list ds) ≤ 64 := by
    simp only [PyData.depth]
    omega
  unfold SeqAt.shaped
  rw [e1, decide_eq_true e2]
  rfl
theorem shapedT {ds : List PyData} (h : PyData.canLayAll0 ds = true) (q : PyData.depthAll ds ≤ 50) : SeqAt.shaped (.tuple ds) = true := by
  have e1 : PyData.canLay0 (.tuple ds) = true := by simpa [PyData.canLay0] using h
  have e2 : PyData.depth (.tuple ds) ≤ 64 := by
    simp only [PyData.depth]
    omega
  unfold SeqAt.shaped
  rw [e1, decide_eq_true e2]
  rfl
theorem so_in : SOp X.K (rInA X.K) gIn := ⟨fun {g H n x y dx dy P Q} ok ex ey q k => by
  cases ey with
  | str t =>
    cases ex with
    | str u =>
      match u, q with
      | [], q => exact False.elim q
      | c :: _ :: _, q => exact False.elim q
      | [c], q => exact .inl ⟨c, _, rfl, rfl, k.flat ok q (.bl _)⟩
    | _ => exact False.elim q
  | lst h1 h2 =>
    obtain ⟨q1, q2⟩ := q
    have z := k.flat ok q2 (.bl _)
    rcases in_cases ok ex h2 q1 with ⟨a, b, c⟩ | ⟨d, ds, a, b, c, e, e5, f⟩
    · exact .inr (.inl ⟨_, _, rfl, .inl (SqL.of (ok.sub _ _ h1)), a, b, by rw [if_neg (by decide), c]; exact z⟩)
    · exact .inr (.inr (.inl ⟨d, ds, a, .lst (SqL.of (ok.sub _ _ h1)) b, c, shapedL e e5, by rw [f]; exact z⟩))
  | tup h1 h2 =>
    obtain ⟨q1, q2⟩ := q
    have z := k.flat ok q2 (.bl _)
    rcases in_cases ok ex h2 q1 with ⟨a, b, c⟩ | ⟨d, ds, a, b, c, e, e5, f⟩
    · exact .inr (.inl ⟨_, _, rfl, .inr (Or.inl (h1.same ok.sub)), a, b, by rw [if_neg (by decide), c]; exact z⟩)
    · exact .inr (.inr (.inr ⟨d, ds, a, .tup (Or.inl (h1.same ok.sub)) b, c, shapedT e e5, by rw [f]; exact z⟩))
  | tupK h1 h2 =>
    obtain ⟨q1, q2⟩ := q
    have z := k.flat ok q2 (.bl _)
    rcases in_cases ok ex h2 q1 with ⟨a, b, c⟩ | ⟨d, ds, a, b, c, e, e5, f⟩
    · exact .inr (.inl ⟨_, _, rfl, .inr (h1 _), a, b, by rw [if_neg (by decide), c]; exact z⟩)
    · exact .inr (.inr (.inr ⟨d, ds, a, .tup (h1 _) b, c, shapedT e e5, by rw [f]; exact z⟩))
  | _ => exact q.elim⟩
theorem so_notIn : SOp X.K (rNotInA X.K) gNotIn := ⟨fun {g H n x y dx dy P Q} ok ex ey q k => by
  cases ey with
  | str t =>
    cases ex with
    | str u =>
      match u, q with
      | [], q => exact False.elim q
      | c :: _ :: _, q => exact False.elim q
      | [c], q => exact .inl ⟨c, _, rfl, rfl, k.flat ok q (.bl _)⟩
    | _ => exact False.elim q
  | lst h1 h2 =>
    obtain ⟨q1, q2⟩ := q
    have z := k.flat ok q2 (.bl _)
    rcases in_cases ok ex h2 q1 with ⟨a, b, c⟩ | ⟨d, ds, a, b, c, e, e5, f⟩
    · exact .inr (.inl ⟨_, _, rfl, .inl (SqL.of (ok.sub _ _ h1)), a, b, by rw [if_pos rfl, c]; exact z⟩)
    · exact .inr (.inr (.inl ⟨d, ds, a, .lst (SqL.of (ok.sub _ _ h1)) b, c, shapedL e e5, by rw [f]; exact z⟩))
  | tup h1 h2 =>
    obtain ⟨q1, q2⟩ := q
    have z := k.flat ok q2 (.bl _)
    rcases in_cases ok ex h2 q1 with ⟨a, b, c⟩ | ⟨d, ds, a, b, c, e, e5, f⟩
    · exact .inr (.inl ⟨_, _, rfl, .inr (Or.inl (h1.same ok.sub)), a, b, by rw [if_pos rfl, c]; exact z⟩)
    · exact .inr (.inr (.inr ⟨d, ds, a, .tup (Or.inl (h1.same ok.sub)) b, c, shapedT e e5, by rw [f]; exact z⟩))
  | tupK h1 h2 =>
    obtain ⟨q1, q2⟩ := q
    have z := k.flat ok q2 (.bl _)
    rcases in_cases ok ex h2 q1 with ⟨a, b, c⟩ | ⟨d, ds, a, b, c, e, e5, f⟩
    · exact .inr (.inl ⟨_, _, rfl, .inr (h1 _), a, b, by rw [if_pos rfl, c]; exact z⟩)
    · exact .inr (.inr (.inr ⟨d, ds, a, .tup (h1 _) b, c, shapedT e e5, by rw [f]; exact z⟩))
  | _ => exact q.elim⟩
end
def isNon : D → Bool
  | .non => true
  | _ => false
def gIs : G2 := fun x y P => match y with
  | .non => P (.bl (isNon x))
  | _ => False
def gIsNot : G2 := fun x y P => match y with
  | .non => P (.bl (!isNon x))
  | _ => False
theorem isNon_of {K : PySem.W.Frag} {g : Gh} {v : V} {d : D} (h : Den K g v d) : decide (v = .non) = isNon d := by
  cases h <;> simp [isNon]
section
variable {X : Cx}
theorem so_is : SOp X.K (fun x y H Q => y = .non ∧ Q (.bl (decide (x = .non))) H) gIs := ⟨fun {g H n x y dx dy P Q} ok ex ey q k => by
  cases ey with
  | non => exact ⟨rfl, by rw [isNon_of ex]; exact k.flat ok q (.bl _)⟩
  | _ => exact q.elim⟩
theorem so_isNot : SOp X.K (fun x y H Q => y = .non ∧ Q (.bl (!decide (x = .non))) H) gIsNot := ⟨fun {g H n x y dx dy P Q} ok ex ey q k => by
  cases ey with
  | non => exact ⟨rfl, by rw [isNon_of ex]; exact k.flat ok q (.bl _)⟩
  | _ => exact q.elim⟩
end
end Pd
namespace L2
open PySem PySem.Spec PyProof.Rows
end L2
namespace L2
open PySem PySem.Spec PyProof.Rows
end L2
namespace Pd
open PySem L2
variable {W : WX}
theorem Dens.atI {K : PySem.W.Frag} {g : Gh} {vs : List V} {ds : List D} (h : Dens K g vs ds) {i : Int} {d : D} (e : L2.atI ds i = some d) : ∃ v, L2.atI vs i = some v ∧ Den K g v d := by
  unfold L2.atI at e ⊢
  rw [h.length]
  cases z : ixN ds.length i with
  | none =>
    rw [z] at e
    cases e
  | some j =>
    rw [z] at e
    exact h.get e
def gIx : G2 := fun x y P => match y with
  | .int i => match x with
    | .lst xs => ∃ d, L2.atI xs i = some d ∧ P d
    | .tup xs => ∃ d, L2.atI xs i = some d ∧ P d
    | .tupK xs => ∃ d, L2.atI xs i = some d ∧ P d
    | .str l => l.length ≤ 16777216 ∧ ∃ c, L2.atI l i = some c ∧ P (.str [c])
    | .scr ns => ∃ k, L2.atI ns i = some k ∧ P (.int k)
    | _ => False
  | _ => False
theorem atI_map {α β : Type} (f : α → β) {xs : List α} {i : Int} {x : α} (h : L2.atI xs i = some x) : L2.atI (xs.map f) i = some (f x) := by
  unfold L2.atI at h ⊢
  rw [List.length_map]
  cases z : ixN xs.length i with
  | none =>
    rw [z] at h
    cases h
  | some j =>
    rw [z] at h
    have h' : xs[j]? = some x := h
    show (xs.map f)[j]? = some (f x)
    rw [List.getElem?_map, h']
    rfl
theorem so_ix {K : PySem.W.Frag} : SOp K (rIx K) gIx := ⟨fun {g H n x y dx dy P Q} ok ex ey q k => by
  cases ey with
  | int i =>
    cases ex with
    | lst h1 h2 =>
      obtain ⟨d, q1, q2⟩ := q
      obtain ⟨v, e, dv⟩ := h2.atI q1
      exact .inl ⟨_, _, i, v, rfl, rfl, SqL.of (ok.sub _ _ h1), e, k.flat ok q2 dv⟩
    | tup h1 h2 =>
      obtain ⟨d, q1, q2⟩ := q
      obtain ⟨v, e, dv⟩ := h2.atI q1
      exact .inr (.inl ⟨_, _, i, v, rfl, rfl, Or.inl (h1.same ok.sub), e, k.flat ok q2 dv⟩)
    | tupK h1 h2 =>
      obtain ⟨d, q1, q2⟩ := q
      obtain ⟨v, e, dv⟩ := h2.atI q1
      exact .inr (.inl ⟨_, _, i, v, rfl, rfl, h1 _, e, k.flat ok q2 dv⟩)
    | str l =>
      obtain ⟨hl, c, q1, q2⟩ := q
      exact .inr (.inr ⟨_, i, c, rfl, rfl, sz hl, q1, k.flat ok q2 (.str [c])⟩)
    | scr h =>
      obtain ⟨c, q1, q2⟩ := q
      exact .inl ⟨_, _, i, .int c, rfl, rfl, ok.sub.seq h, atI_map V.int q1, k.flat ok q2 (.int c)⟩
    | _ => exact q.elim
  | _ => exact q.elim⟩
def cut {α : Type} (xs : List α) (lo hi : Option Int) : List α := (xs.drop (HT.sIx xs.length 0 lo)).take (HT.sIx xs.length xs.length hi - HT.sIx xs.length 0 lo)
abbrev DP := Nat → Ev → (Nat → Option Int → Prop) → Prop
def liftP (K : PySem.W.Frag) (d : DP) : TO := fun σ H Q => ∃ O g n ε P, Rp K O g H n σ ε ∧ d n ε P ∧ ∀ o g' H' n', P n' o → Stp g H g' H' → Ok K g' H' n' → Q o H'
def pNo : DP := fun n _ P => P n none
def pSome (d : DE) : DP := fun n ε P => d n ε fun n' x => match x with
  | .int i => P n' (some i)
  | _ => False
def gSl : D → Option Int → Option Int → (D → Prop) → Prop := fun x lo hi P => match x with
  | .lst xs => P (.lst (cut xs lo hi))
  | .tup xs => P (.tup (cut xs lo hi))
  | .str l => l.length ≤ 16777216 ∧ P (.str (cut l lo hi))
  | _ => False
def dSl (d : DE) (l h : DP) : DE := fun n ε P => d n ε fun n1 x => l n1 ε fun n2 lo => h n2 ε fun n3 hi => gSl x lo hi (P n3)
def rSl (K : PySem.W.Frag) : V → Option Int → Option Int → Hp → VK → Prop := fun x lo hi H Q => rSlL K x lo hi H Q ∨ rSlA K x lo hi H Q ∨ rSlS x lo hi H Q
theorem Dens.cut {K : PySem.W.Frag} {g : Gh} {vs : List V} {ds : List D} (h : Dens K g vs ds) (lo hi : Option Int) : Dens K g (cutV vs lo hi) (Pd.cut ds lo hi) := by
  unfold cutV Pd.cut
  rw [h.length]
  exact (h.drop _).take _
theorem cut_whole {α : Type} {xs : List α} {lo hi : Option Int} (h : HT.sIx xs.length 0 lo = 0 ∧ HT.sIx xs.length xs.length hi = xs.length) : cut xs lo hi = xs := by
  unfold cut
  rw [h.1, h.2]
  simp
section
variable {X : Cx} {pos p2 : Pos} {e : Expr} {lo hi : Option Expr} {a b : Expr} {d da db : DE} {dl dh : DP}
theorem dp_no : PO X none (liftP X.K pNo) := ⟨fun pins s σ H Q I ⟨O, g, n, ε, P, r, q, k⟩ => po_none.run pins s σ H Q I (k none g H n q (Stp.refl g H) r.ok)⟩
theorem dp_some (h : PE X e (liftE X.K d)) : PO X (some e) (liftP X.K (pSome d)) := ⟨fun pins s σ H Q I ⟨O, g, n, ε, P, r, q, k⟩ => (po_some h).run pins s σ H Q I ⟨O, g, n, ε, _, r, q, fun v g1 H1 n1 x q1 s1 o1 e1 => by
  cases e1 with
  | int i => exact ⟨i, rfl, k _ g1 H1 n1 q1 s1 o1⟩
  | _ => exact q1.elim⟩⟩
theorem de_ix (ha : PE X a (liftE X.K da)) (hb : PE X b (liftE X.K db)) (hs : PlainIx b := by intro _ _; rfl) : PE X (.Subscript a b pos) (liftE X.K (dOp gIx da db)) :=
  de_of (pe_ix ix_seq ha hb hs) fun O g H n σ ε P Q r q k => two_ok r q fun x y g' H' n' dx dy q2 s o e1 e2 => so_ix.ok o e1 e2 q2 (Fin.of k s)
theorem sl_ok {K : PySem.W.Frag} {g : Gh} {H : Hp} {n : Nat} {x : V} {dx : D} {l u : Option Int} {P : D → Prop} {Q : VK} (ok : Ok K g H n) (ex : Den K g x dx) (q : gSl dx l u P) (k : Fin K g H n P Q) : rSl K x l u H Q := by
  cases ex with
  | lst h1 h2 => exact .inl ⟨_, _, rfl, SqL.of (ok.sub _ _ h1), fun p hp => k.newL ok q (h2.cut l u) hp⟩
  | tup h1 h2 =>
    refine .inr (.inl ⟨_, _, rfl, Or.inl (h1.same ok.sub), fun w => ?_, fun _ p hp => k.newT ok q (h2.cut l u) hp⟩)
    rw [h2.length] at w
    have q' : P _ := q
    rw [cut_whole w] at q'
    exact k.flat ok q' (.tup h1 h2)
  | str s =>
    refine .inr (.inr ⟨_, rfl, sz q.1, ?_⟩)
    have q' := k.flat ok q.2 (.str _)
    have e : cutS ⟨s.toArray⟩ l u = ⟨(Pd.cut s l u).toArray⟩ := by
      unfold cutS Pd.cut
      rfl
    rw [e]
    exact q'
  | _ => exact q.elim
theorem de_sl (he : PE X e (liftE X.K d)) (hl : PO X lo (liftP X.K dl)) (hu : PO X hi (liftP X.K dh)) : PE X (.Subscript e (.Slice lo hi none p2) pos) (liftE X.K (dSl d dl dh)) :=
  de_of (pe_slice (r := rSl X.K) (sl_list.or (sl_tupA.or sl_str)) he hl hu) fun O g H n σ ε P Q r q k => ⟨O, g, n, ε, _, r, q, fun v g1 H1 n1 x q1 s1 o1 e1 => ⟨O, g1, n1, ε, _, r.step s1 o1, q1, fun l g2 H2 n2 q2 s2 o2 => ⟨O, g2, n2, ε, _, (r.step s1 o1).step s2 o2, q2, fun u g3 H3 n3 q3 s3 o3 =>
    sl_ok o3 (e1.mono (s2.trans s3).ext) q3 (Fin.of k ((s1.trans s2).trans s3))⟩⟩⟩
def dRev (d : DE) : DE := fun n ε P => d n ε fun n1 x => match x with
  | .lst xs => P n1 (.lst xs.reverse)
  | .tup xs => P n1 (.tup xs.reverse)
  | .str l => l.length ≤ 16777216 ∧ P n1 (.str l.reverse)
  | _ => False
def dTmp (i : Nat) (d : DE) : DE := fun n ε P => d n (frzE ε i) fun n' r => flatD r = true ∧ P n' r
def dTmpT (i : Nat) (t : DT) : DT := fun n ε P => t n (frzE ε i) P
theorem de_tmp (i : Nat) (h : PE X e (liftE X.K d)) : PE X e (liftE X.K (dTmp i d)) := pe_w h fun σ H Q ⟨O, g, n, ε, P, r, q, k⟩ => by
  obtain ⟨g1, r1, back⟩ := r.tmp i
  exact ⟨O, g1, n, _, _, r1, q, fun v g' H' n' x q1 s1 o1 e1 => by
    obtain ⟨g2, s2, o2⟩ := back g' H' n' s1 o1
    exact k v g2 H' n' x q1.2 s2 o2 (e1.flat q1.1)⟩
theorem dt_tmp {t : DT} (i : Nat) (h : PT X e (liftT X.K t)) : PT X e (liftT X.K (dTmpT i t)) := pt_w h fun σ H Q ⟨O, g, n, ε, P, r, q, k⟩ => by
  obtain ⟨g1, r1, back⟩ := r.tmp i
  exact ⟨O, g1, n, _, _, r1, q, fun v g' H' n' q1 s1 o1 => by
    obtain ⟨g2, s2, o2⟩ := back g' H' n' s1 o1
    exact k v g2 H' n' q1 s2 o2⟩
def dIxO (i : Nat) (d : DE) : DE := fun n ε P => match ε[i]? with
  | some (.own (.lst ds)) => d n ε fun n1 x => match x with
    | .int j => ∃ y, L2.atI ds j = some y ∧ P n1 y
    | _ => False
  | _ => False
theorem de_ixO {i : Nat} (ha : PE X a (tVar i)) (hb : PE X b (liftE X.K db)) (hs : PlainIx b := by intro _ _; rfl) : PE X (.Subscript a b pos) (liftE X.K (dIxO i db)) :=
  de_of (pe_ix ix_seq ha hb hs) fun O g H n σ ε P Q r q k => by
    unfold dIxO at q
    split at q
    · rename_i ds ei
      obtain ⟨p, o, w1, w2, w3, w4, w5, w6⟩ := r.sl i _ ei
      refine ⟨_, w1, O, g, n, ε, _, r, q, fun v g1 H1 n1 x q1 s1 o1 e1 => ?_⟩
      cases e1 with
      | int j =>
        obtain ⟨y, q2, q3⟩ := q1
        obtain ⟨vs, rfl, dd⟩ := w6
        obtain ⟨u, e, du⟩ := (dd.mono s1.ext).atI q2
        have hp : H1 p = some (.lst vs) := s1.kep p _ w5 w4
        exact .inl ⟨p, vs, j, u, rfl, rfl, SqL.of hp, e, k u g1 H1 n1 y q3 s1 o1 du⟩
      | _ => exact q1.elim
    · exact q.elim
def dSlO (i : Nat) (l h : DP) : DE := fun n ε P => match ε[i]? with
  | some (.own (.lst ds)) => l n ε fun n2 lo => h n2 ε fun n3 hi => P n3 (.lst (cut ds lo hi))
  | _ => False
def dApp (i : Nat) (d : DE) : DS := fun N n ε => match ε[i]? with
  | some (.own (.lst ds)) => d n ε fun n1 x => ds.length < 16777216 ∧ N.nx n1 (ε.set i (.own (.lst (ds ++ [x]))))
  | _ => False
def dSetI (i : Nat) (dk d : DE) : DS := fun N n ε => match ε[i]? with
  | some (.own (.lst ds)) => d n ε fun n1 x => dk n1 ε fun n2 y => match y with
    | .int k => ∃ j, ixN ds.length k = some j ∧ N.nx n2 (ε.set i (.own (.lst (ds.set j x))))
    | _ => False
  | _ => False
def dAugI (f : Int → Int → Int) (i : Nat) (d : DE) : DS := fun N n ε => match ε[i]? with
  | some (.val (.int a)) => d n ε fun n1 y => match y with
    | .int b => N.nx n1 (ε.set i (.val (.int (f a b))))
    | _ => False
  | _ => False
end
theorem tyV_own {K : PySem.W.Frag} {H : Hp} {p : Addr} {vs : List V} (h : H p = some (.lst vs)) : tyV K "list" (.ref p) H := .inl ⟨rfl, vs, SqL.of h⟩
section
variable {X : Cx} {pos apos p2 : Pos} {o e : Expr} {d di : DE} {i : Nat}
theorem ds_app (ho : PE X o (tVar i)) (he : PE X e (liftE X.K d)) (hs : swapsWith (.Call (.Attribute o "append" apos) [e] [] pos) none p2.line X.env = pure false := by rfl)
    (hbase : attributeBase o "append" X.env (eval o X.env) = eval o X.env := by rfl)
    (hfew : ((backTo pos (starEach [e] X.env)).all (fun x => !x.1) && (backToKw pos (keywordEach [] X.env)).all (fun x => x.1.isSome)
      && decide (([e] : List Expr).length + ([] : List Keyword).length + (if ([] : List Keyword).isEmpty then 0 else 1) < 30)) = true := by rfl)
    (hline : (apos.endLine == pos.line) = true := by rfl) (hst : starEach [e] X.env = (false, eval e X.env) :: starEach [] X.env := by rfl) : PS X (.Expr (.Call (.Attribute o "append" apos) [e] [] pos) p2) (liftS W X.K (dApp i d)) :=
  ps_w (ps_expr (pe_bm PySem.F.plainAttrs_list PySem.F.slot_list_append PySem.F.type_list_append mt_append ho (pa_cons he pa_nil hst) hbase hfew hline hst) hs) fun E σ H ⟨U, g0, H0, g, n, ε, N, uo, r, s0, q, k1, k2, k3, k4⟩ => by
    unfold dApp at q
    split at q
    · rename_i ds ei
      obtain ⟨p, ob, w1, w2, w3, w4, w5, w6⟩ := r.sl i _ ei
      obtain ⟨vs, rfl, dd⟩ := w6
      refine ⟨_, w1, tyV_own w5, _, g, n, ε, _, r, q, fun v g1 H1 n1 x q1 s1 o1 e1 => ?_⟩
      obtain ⟨hl, q2⟩ := q1
      have hp : H1 p = some (.lst vs) := s1.kep p _ w5 w4
      refine ⟨p, vs, v, rfl, rfl, hp, by rw [dd.length, sizeLine_eq]; exact hl, ?_⟩
      have r1 := r.step s1 o1
      exact k1 σ g1 _ n1 _ q2 (r1.mut ei w1 ⟨_, rfl, (dd.mono s1.ext).append (.cons e1 .nil)⟩ fun z => ⟨z.1, uo.lst _ _⟩) ((s0.trans s1).mut w2.1)
    · exact q.elim
theorem Dens.len {K : PySem.W.Frag} {g : Gh} {vs : List V} {ds : List D} (h : Dens K g vs ds) : vs.length = ds.length := h.length
theorem ds_setI {ix : Expr} (ho : PE X o (tVar i)) (hi : PE X ix (liftE X.K di)) (he : PE X e (liftE X.K d)) (hs : swapsWithSole [.Subscript o ix pos] e p2.line X.env = pure false := by rfl) (hw : swappedStores [.Subscript o ix pos] e X.env = pure none := by rfl)
    (h1 : (assignEach [.Subscript o ix pos] X.env).map (·.2) = [assign (.Subscript o ix pos) X.env] := by rfl)
    (ha : ∀ v, assign (.Subscript o ix pos) X.env v = (do
      let ov ← holding [v] (eval o X.env)
      let iv ← holding [v, ov] (eval ix X.env)
      standAt pos
      holding [v, ov, iv] (setItem ov iv v)
      release [v, ov, iv] []) := by intro _; rfl) : PS X (.Assign [.Subscript o ix pos] e p2) (liftS W X.K (dSetI i di d)) :=
  ps_w (ps_asg he (pg_sub ho hi set_list ha) hs hw h1) fun E σ H ⟨U, g0, H0, g, n, ε, N, uo, r, s0, q, k1, k2, k3, k4⟩ => by
    unfold dSetI at q
    split at q
    · rename_i ds ei
      obtain ⟨p, ob, w1, w2, w3, w4, w5, w6⟩ := r.sl i _ ei
      obtain ⟨vs, rfl, dd⟩ := w6
      refine ⟨_, g, n, ε, _, r, q, fun v g1 H1 n1 x q1 s1 o1 e1 => ⟨_, w1, _, g1, n1, ε, _, r.step s1 o1, q1, fun y g2 H2 n2 z q2 s2 o2 e2 => ?_⟩⟩
      cases e2 with
      | int k =>
        obtain ⟨j, hj, q3⟩ := q2
        have s12 := s1.trans s2
        have hp : H2 p = some (.lst vs) := s12.kep p _ w5 w4
        refine ⟨p, vs, k, j, rfl, rfl, hp, by rw [dd.length]; exact hj, ?_⟩
        have r1 := r.step s12 o2
        exact k1 σ g2 _ n2 _ q3 (r1.mut ei w1 ⟨_, rfl, (dd.mono s12.ext).set (e1.mono s2.ext) j⟩ fun z => ⟨z.1, uo.lst _ _⟩) ((s0.trans s12).mut w2.1)
      | _ => exact q2.elim
    · exact q.elim
end
abbrev GC := List D → (D → Prop) → Prop
structure SCall (K : PySem.W.Frag) (r : List V → Hp → VK → Prop) (go : GC) : Prop where
  ok : ∀ {g : Gh} {H : Hp} {n : Nat} {xs : List V} {ds : List D} {P : D → Prop} {Q : VK}, Ok K g H n → Dens K g xs ds → go ds P → Fin K g H n P Q → r xs H Q
def dBi (go : GC) (t : DA) : DE := fun n ε P => t n ε fun n1 ds => go ds (P n1)
section
variable {X : Cx} {pos p : Pos} {e : Expr} {es : List Expr} {r : List V → Hp → VK → Prop} {go : GC} {t : DA} {id T : String} {x : Str}
theorem bi_ok {K : PySem.W.Frag} (hs : SCall K r go) : ∀ {σ : L2.St} {H : Hp} {Q : VK}, liftE K (dBi go t) σ H Q → liftA K t σ H fun xs H1 => r xs H1 Q := fun {σ H Q} ⟨O, g, n, ε, P, rr, q, k⟩ =>
  ⟨O, g, n, ε, _, rr, q, fun vs g1 H1 n1 ds q1 s1 o1 e1 => hs.ok o1 e1 q1 (Fin.of k s1)⟩
theorem de_bi (hc : CallR X (.builtin id) r) (hs : SCall X.K r go) (hg : Gl X x) (hm : X.mg x = none) (hv : bootBuiltins x = some (.builtin id)) (ha : PA X (e :: es) (liftA X.K t)) (hn : x ≠ "__name__" := by decide) (hdb : (x == ("__debug__" : Str)) = false := by decide)
    (he : starEach (e :: es) X.env = (false, eval e X.env) :: starEach es X.env := by rfl) (hpl : (backTo pos (starEach es X.env)).any (·.1) = false := by rfl) : PE X (.Call (.Name x p) (e :: es) [] pos) (liftE X.K (dBi go t)) :=
  pe_w (pe_callB hc hg hm hv ha hn hdb he hpl) fun σ H Q h => bi_ok hs h
theorem de_ty (hc : CallR X (.type T) r) (hs : SCall X.K r go) (hg : Gl X x) (hm : X.mg x = none) (hv : bootBuiltins x = some (.type T)) (ha : PA X (e :: es) (liftA X.K t)) (hn : x ≠ "__name__" := by decide) (hdb : (x == ("__debug__" : Str)) = false := by decide)
    (he : starEach (e :: es) X.env = (false, eval e X.env) :: starEach es X.env := by rfl) (hpl : (backTo pos (starEach es X.env)).any (·.1) = false := by rfl) : PE X (.Call (.Name x p) (e :: es) [] pos) (liftE X.K (dBi go t)) :=
  pe_w (pe_callTy hc hg hm hv ha hn hdb he hpl) fun σ H Q h => bi_ok hs h
end
end Pd
namespace Pd
open PySem L2
def gAbs : GC := fun ds P => match ds with
  | [.int i] => P (.int (if i < 0 then -i else i))
  | _ => False
def gInt : GC := fun ds P => match ds with
  | [.int i] => P (.int i)
  | [.bl b] => P (.int (if b then 1 else 0))
  | [.str l] => l.length ≤ 640 ∧ ∃ n, PySem.intText? ⟨l.toArray⟩ = some n ∧ P (.int n)
  | _ => False
def numD (i : Int) : List Nat := (toString i : Str).cps.toList
def gStr : GC := fun ds P => match ds with
  | [.int i] => i.natAbs.log2 < 1920 ∧ P (.str (numD i))
  | [.str l] => P (.str l)
  | _ => False
def gLen : GC := fun ds P => match ds with
  | [.lst xs] => P (.int xs.length)
  | [.tup xs] => P (.int xs.length)
  | [.str l] => l.length ≤ 16777216 ∧ P (.int l.length)
  | [.scr ns] => P (.int ns.length)
  | _ => False
def sgn (l : List Nat) : List D := l.map fun c => .str [c]
def gList : GC := fun ds P => match ds with
  | [.lst xs] => P (.lst xs)
  | [.tup xs] => P (.lst xs)
  | [.tupK xs] => P (.lst xs)
  | [.str l] => l.length ≤ 16777216 ∧ P (.lst (sgn l))
  | _ => False
def gTuple : GC := fun ds P => match ds with
  | [.lst xs] => P (.tup xs)
  | [.tup xs] => P (.tup xs)
  | [.str l] => l.length ≤ 16777216 ∧ P (.tup (sgn l))
  | _ => False
def isInts : List D → Option (List Int)
  | [] => some []
  | .int i :: r => (isInts r).map (i :: ·)
  | _ :: _ => none
theorem isInts_map : ∀ {ds : List D} {ns : List Int}, isInts ds = some ns → ds = ns.map D.int
  | [], ns, h => by
    cases h
    rfl
  | .int i :: r, ns, h => by
    rw [isInts] at h
    cases e : isInts r with
    | none =>
      rw [e] at h
      cases h
    | some ms =>
      rw [e] at h
      cases h
      rw [isInts_map e]
      rfl
  | .non :: _, _, h => by cases h
  | .bl _ :: _, _, h => by cases h
  | .str _ :: _, _, h => by cases h
  | .lst _ :: _, _, h => by cases h
  | .tup _ :: _, _, h => by cases h
  | .obj _ _ :: _, _, h => by cases h
  | .pot :: _, _, h => by cases h
  | .scr _ :: _, _, h => by cases h
  | .ref _ :: _, _, h => by cases h
def isBls : List D → Option (List Bool)
  | [] => some []
  | .bl i :: r => (isBls r).map (i :: ·)
  | _ :: _ => none
theorem isBls_map : ∀ {ds : List D} {ns : List Bool}, isBls ds = some ns → ds = ns.map D.bl
  | [], ns, h => by
    cases h
    rfl
  | .bl i :: r, ns, h => by
    rw [isBls] at h
    cases e : isBls r with
    | none =>
      rw [e] at h
      cases h
    | some ms =>
      rw [e] at h
      cases h
      rw [isBls_map e]
      rfl
  | .non :: _, _, h => by cases h
  | .int _ :: _, _, h => by cases h
  | .str _ :: _, _, h => by cases h
  | .lst _ :: _, _, h => by cases h
  | .tup _ :: _, _, h => by cases h
  | .obj _ _ :: _, _, h => by cases h
  | .pot :: _, _, h => by cases h
  | .scr _ :: _, _, h => by cases h
  | .ref _ :: _, _, h => by cases h
theorem map_isBls : ∀ (ns : List Bool), isBls (ns.map D.bl) = some ns
  | [] => rfl
  | n :: ns => by
    rw [List.map_cons, isBls, map_isBls ns]
    rfl
def isStrs : List D → Option (List (List Nat))
  | [] => some []
  | .str i :: r => (isStrs r).map (i :: ·)
  | _ :: _ => none
theorem isStrs_map : ∀ {ds : List D} {ns : List (List Nat)}, isStrs ds = some ns → ds = ns.map D.str
  | [], ns, h => by
    cases h
    rfl
  | .str i :: r, ns, h => by
    rw [isStrs] at h
    cases e : isStrs r with
    | none =>
      rw [e] at h
      cases h
    | some ms =>
      rw [e] at h
      cases h
      rw [isStrs_map e]
      rfl
  | .non :: _, _, h => by cases h
  | .int _ :: _, _, h => by cases h
  | .bl _ :: _, _, h => by cases h
  | .lst _ :: _, _, h => by cases h
  | .tup _ :: _, _, h => by cases h
  | .obj _ _ :: _, _, h => by cases h
  | .pot :: _, _, h => by cases h
  | .scr _ :: _, _, h => by cases h
  | .ref _ :: _, _, h => by cases h
theorem map_isStrs : ∀ (ns : List (List Nat)), isStrs (ns.map D.str) = some ns
  | [] => rfl
  | n :: ns => by
    rw [List.map_cons, isStrs, map_isStrs ns]
    rfl
def gMax : GC := fun ds P => match ds with
  | [.int i, .int j] => P (.int (if j > i then j else i))
  | [.lst xs] => ∃ ns, isInts xs = some ns ∧ 0 < ns.length ∧ ∀ m, m ∈ ns → (∀ y, y ∈ ns → y ≤ m) → P (.int m)
  | _ => False
def gMin : GC := fun ds P => match ds with
  | [.int i, .int j] => P (.int (if j < i then j else i))
  | [.lst xs] => ∃ ns, isInts xs = some ns ∧ 0 < ns.length ∧ ∀ m, m ∈ ns → (∀ y, y ∈ ns → m ≤ y) → P (.int m)
  | _ => False
def gAny : GC := fun ds P => match ds with
  | [.lst xs] => ∃ ns, isBls xs = some ns ∧ P (.bl (ns.any id))
  | _ => False
def gAll : GC := fun ds P => match ds with
  | [.lst xs] => ∃ ns, isBls xs = some ns ∧ P (.bl (ns.all id))
  | _ => False
section
variable {X : Cx}
theorem so_abs : SCall X.K (fun xs H Q => ∃ i, xs = [.int i] ∧ Q (.int (if i < 0 then -i else i)) H) gAbs := ⟨fun {g H n xs ds P Q} ok ex q k => by
  match ds, ex, q with
  | [.int i], .cons (.int _) .nil, q => exact ⟨i, rfl, k.flat ok q (.int _)⟩⟩
def rIntA : List V → Hp → VK → Prop := fun xs H Q => ((∃ i, xs = [.int i] ∧ Q (.int i) H) ∨ ∃ k, xs = [.bl k] ∧ Q (.int (if k then 1 else 0)) H) ∨ ∃ a n, xs = [.str a] ∧ PySem.intText? a = some n ∧ a.length ≤ 640 ∧ Q (.int n) H
theorem call_intA : CallR X (.type "int") rIntA := call_int1.or call_int_str
theorem so_int : SCall X.K rIntA gInt := ⟨fun {g H n xs ds P Q} ok ex q k => by
  match ds, ex, q with
  | [.int i], .cons (.int _) .nil, q => exact .inl (.inl ⟨i, rfl, k.flat ok q (.int _)⟩)
  | [.bl b], .cons (.bl _) .nil, q => exact .inl (.inr ⟨b, rfl, k.flat ok q (.int _)⟩)
  | [.str l], .cons (.str _) .nil, q =>
    obtain ⟨q0, n, q1, q2⟩ := q
    exact .inr ⟨_, n, rfl, q1, by simpa [Str.length] using q0, k.flat ok q2 (.int _)⟩⟩
def rStrA : List V → Hp → VK → Prop := fun xs H Q => (∃ i, xs = [.int i] ∧ i.natAbs.log2 < 1920 ∧ Q (.str (toString i)) H) ∨ ∃ a, xs = [.str a] ∧ Q (.str a) H
theorem call_strA : CallR X (.type "str") rStrA := call_str_int.or SkE.call_str_str
theorem numD_str (i : Int) : (⟨(numD i).toArray⟩ : Str) = toString i := by
  unfold numD
  simp
theorem so_str : SCall X.K rStrA gStr := ⟨fun {g H n xs ds P Q} ok ex q k => by
  match ds, ex, q with
  | [.int i], .cons (.int _) .nil, q => exact .inl ⟨i, rfl, q.1, by rw [← numD_str]; exact k.flat ok q.2 (.str _)⟩
  | [.str l], .cons (.str _) .nil, q => exact .inr ⟨_, rfl, k.flat ok q (.str _)⟩⟩
def rLenA (K : PySem.W.Frag) : List V → Hp → VK → Prop := fun xs H Q => (∃ p ys, xs = [.ref p] ∧ (SqL K H p ys ∨ SqT K H p ys) ∧ Q (.int ys.length) H) ∨ ∃ z : Str, xs = [.str z] ∧ z.length ≤ sizeLine ∧ Q (.int z.length) H
theorem call_lenA : CallR X (.builtin "len") (rLenA X.K) := call_len_seq.or call_len_str
theorem so_len : SCall X.K (rLenA X.K) gLen := ⟨fun {g H n xs ds P Q} ok ex q k => by
  match ds, ex, q with
  | [.lst l], .cons (.lst h1 h2) .nil, q => exact .inl ⟨_, _, rfl, .inl (SqL.of (ok.sub _ _ h1)), by rw [h2.length]; exact k.flat ok q (.int _)⟩
  | [.tup l], .cons (.tup h1 h2) .nil, q => exact .inl ⟨_, _, rfl, .inr (Or.inl (h1.same ok.sub)), by rw [h2.length]; exact k.flat ok q (.int _)⟩
  | [.str l], .cons (.str _) .nil, q =>
    refine .inr ⟨_, rfl, sz (by simpa [Str.length] using q.1), ?_⟩
    rw [show ((⟨l.toArray⟩ : Str).length : Int) = (l.length : Int) by simp [Str.length]]
    exact k.flat ok q.2 (.int _)
  | [.scr ns], .cons (.scr h) .nil, q => exact .inl ⟨_, _, rfl, .inl (ok.sub.seq h), by rw [List.length_map]; exact k.flat ok q (.int _)⟩⟩
def sgnV (z : Str) : List V := z.cps.toList.map fun c => .str ⟨#[c]⟩
theorem vals_sgn {z : Str} {acc : Array Value} (h : ItemsOf (SignAt z) acc z.cps.size) : Vals (sgnV z) acc.toList := by
  refine vals_of_at (by unfold sgnV; rw [List.length_map, Array.length_toList, Array.length_toList, h.1]) fun j x u e1 e2 => ?_
  obtain ⟨c, t, e3, rfl⟩ := h.2 j u (by simpa using e2)
  unfold sgnV at e1
  rw [List.getElem?_map] at e1
  have e4 : z.cps.toList[j]? = some c := by simpa using e3
  rw [e4] at e1
  cases e1
  exact ⟨t, rfl⟩
def rListT : List V → Hp → VK → Prop := fun xs H Q => ∃ z : Str, xs = [.str z] ∧ z.length ≤ sizeLine ∧ ∀ p, H p = none → Q (.ref p) (upd H p (.lst (sgnV z)))
theorem call_listT (hc : X.calm = true) : CallR X (.type "list") rListT := by
  intro pins s σ H xs us Q I r h
  obtain ⟨z, rfl, hz, q⟩ := h
  cases r with
  | cons r0 r1 =>
    cases r1
    obtain ⟨t, rfl⟩ := r0
    refine call_list_str (I.ok.hd hc) z t (hn := hz) fun h' tk acc' c' hk hS' hacc => ?_
    refine ⟨.ref _, upd H s.heap.objs.size (.lst (sgnV z)), I.laid (t' := tk) hk (Nat.le_refl _) ⟨?_, acc'.toList, c', vals_sgn hacc, by simpa using hS'⟩, rfl, q _ (I.hok.fresh (Nat.le_refl _))⟩
    unfold sgnV
    rw [List.length_map, Array.length_toList]
    exact hz
def rListA (K : PySem.W.Frag) : List V → Hp → VK → Prop := fun xs H Q => (∃ p ys, xs = [.ref p] ∧ (SqL K H p ys ∨ SqT K H p ys) ∧ ∀ l, H l = none → Q (.ref l) (upd H l (.lst ys))) ∨ rListT xs H Q
theorem call_listA (hc : X.calm = true) : CallR X (.type "list") (rListA X.K) := call_list_of.or (call_listT hc)
theorem dens_sgn {K : PySem.W.Frag} {g : Gh} (l : List Nat) : Dens K g (sgnV ⟨l.toArray⟩) (sgn l) := by
  unfold sgnV sgn
  induction l with
  | nil => exact .nil
  | cons c l ih => exact .cons (.str [c]) (by simpa using ih)
theorem so_list : SCall X.K (rListA X.K) gList := ⟨fun {g H n xs ds P Q} ok ex q k => by
  match ds, ex, q with
  | [.lst l], .cons (.lst h1 h2) .nil, q => exact .inl ⟨_, _, rfl, .inl (SqL.of (ok.sub _ _ h1)), fun p hp => k.newL ok q h2 hp⟩
  | [.tup l], .cons (.tup h1 h2) .nil, q => exact .inl ⟨_, _, rfl, .inr (Or.inl (h1.same ok.sub)), fun p hp => k.newL ok q h2 hp⟩
  | [.tupK l], .cons (.tupK h1 h2) .nil, q => exact .inl ⟨_, _, rfl, .inr (h1 _), fun p hp => k.newL ok q h2 hp⟩
  | [.str l], .cons (.str _) .nil, q => exact .inr ⟨_, rfl, sz (by simpa [Str.length] using q.1), fun p hp => k.newL ok q.2 (dens_sgn l) hp⟩⟩
def rTupT : List V → Hp → VK → Prop := fun xs H Q => ∃ z : Str, xs = [.str z] ∧ z.length ≤ sizeLine ∧ ∀ p, H p = none → Q (.ref p) (upd H p (.tup (sgnV z)))
theorem call_tupT (hc : X.calm = true) : CallR X (.type "tuple") rTupT := by
  intro pins s σ H xs us Q I r h
  obtain ⟨z, rfl, hz, q⟩ := h
  cases r with
  | cons r0 r1 =>
    cases r1
    obtain ⟨t, rfl⟩ := r0
    refine call_tuple_str (I.ok.hd hc) z t (hsz := hz) fun h' tk acc' hk hacc => ?_
    have hlen : (sgnV z).length ≤ sizeLine := by
      unfold sgnV
      rw [List.length_map, Array.length_toList]
      exact hz
    have I2 : Inv X pins σ H { s with heap := h', toks := tk } := I.kept hk
    refine ⟨.ref h'.objs.size, upd H h'.objs.size (.tup (sgnV z)), I2.laid (t' := tk) (fun c o e => Heap.get?_push_of_some _ e) (Nat.le_refl _) (show ObjOk X.prog X.w _ _ _ (.tup (sgnV z)) from ⟨hlen, acc'.toList, vals_sgn hacc, ?_⟩), rfl, q _ (I2.hok.fresh (Nat.le_refl _))⟩
    rw [Array.toArray_toList]
    exact PyProof.Rows.IsTup.new _ _
def rTupA (K : PySem.W.Frag) : List V → Hp → VK → Prop := fun xs H Q => (∃ p ys, xs = [.ref p] ∧ ((SqL K H p ys ∧ ∀ l, H l = none → Q (.ref l) (upd H l (.tup ys))) ∨ (SqT K H p ys ∧ Q (.ref p) H))) ∨ rTupT xs H Q
theorem call_tupA (hc : X.calm = true) : CallR X (.type "tuple") (rTupA X.K) := call_tuple_of.or (call_tupT hc)
theorem so_tuple : SCall X.K (rTupA X.K) gTuple := ⟨fun {g H n xs ds P Q} ok ex q k => by
  match ds, ex, q with
  | [.lst l], .cons (.lst h1 h2) .nil, q => exact .inl ⟨_, _, rfl, .inl ⟨SqL.of (ok.sub _ _ h1), fun p hp => k.newT ok q h2 hp⟩⟩
  | [.tup l], .cons (.tup h1 h2) .nil, q => exact .inl ⟨_, _, rfl, .inr ⟨Or.inl (h1.same ok.sub), k.flat ok q (.tup h1 h2)⟩⟩
  | [.str l], .cons (.str _) .nil, q => exact .inr ⟨_, rfl, sz (by simpa [Str.length] using q.1), fun p hp => k.newT ok q.2 (dens_sgn l) hp⟩⟩
def rMaxA (K : PySem.W.Frag) : List V → Hp → VK → Prop := fun xs H Q => (∃ i j, xs = [.int i, .int j] ∧ Q (.int (if j > i then j else i)) H) ∨ rMax K xs H Q
def rMinA (K : PySem.W.Frag) : List V → Hp → VK → Prop := fun xs H Q => (∃ i j, xs = [.int i, .int j] ∧ Q (.int (if j < i then j else i)) H) ∨ rMin K xs H Q
theorem call_maxA (hc : X.calm = true) : CallR X (.builtin "max") (rMaxA X.K) := (call_max2 hc).or (cr_max hc)
theorem call_minA (hc : X.calm = true) : CallR X (.builtin "min") (rMinA X.K) := (call_min2 hc).or (cr_min hc)
theorem so_max : SCall X.K (rMaxA X.K) gMax := ⟨fun {g H n xs ds P Q} ok ex q k => by
  match ds, ex, q with
  | [.int i, .int j], .cons (.int _) (.cons (.int _) .nil), q => exact .inl ⟨i, j, rfl, k.flat ok q (.int _)⟩
  | [.lst l], .cons (.lst h1 h2) .nil, q =>
    obtain ⟨ns, q0, q1, q2⟩ := q
    have e := isInts_map q0
    subst e
    have ev := h2.ints
    subst ev
    exact .inr ⟨_, ns, rfl, SqL.of (ok.sub _ _ h1), q1, fun m m1 m2 => k.flat ok (q2 m m1 m2) (.int _)⟩⟩
theorem so_min : SCall X.K (rMinA X.K) gMin := ⟨fun {g H n xs ds P Q} ok ex q k => by
  match ds, ex, q with
  | [.int i, .int j], .cons (.int _) (.cons (.int _) .nil), q => exact .inl ⟨i, j, rfl, k.flat ok q (.int _)⟩
  | [.lst l], .cons (.lst h1 h2) .nil, q =>
    obtain ⟨ns, q0, q1, q2⟩ := q
    have e := isInts_map q0
    subst e
    have ev := h2.ints
    subst ev
    exact .inr ⟨_, ns, rfl, SqL.of (ok.sub _ _ h1), q1, fun m m1 m2 => k.flat ok (q2 m m1 m2) (.int _)⟩⟩
theorem so_any : SCall X.K (rAny X.K) gAny := ⟨fun {g H n xs ds P Q} ok ex q k => by
  match ds, ex, q with
  | [.lst l], .cons (.lst h1 h2) .nil, q =>
    obtain ⟨ns, q0, q1⟩ := q
    have e := isBls_map q0
    subst e
    have ev := h2.bls
    subst ev
    exact ⟨_, ns, rfl, SqL.of (ok.sub _ _ h1), k.flat ok q1 (.bl _)⟩⟩
theorem so_all : SCall X.K (rAll X.K) gAll := ⟨fun {g H n xs ds P Q} ok ex q k => by
  match ds, ex, q with
  | [.lst l], .cons (.lst h1 h2) .nil, q =>
    obtain ⟨ns, q0, q1⟩ := q
    have e := isBls_map q0
    subst e
    have ev := h2.bls
    subst ev
    exact ⟨_, ns, rfl, SqL.of (ok.sub _ _ h1), k.flat ok q1 (.bl _)⟩⟩
end
structure InsOk (K : PySem.W.Frag) (C : Addr) : Prop where
  cl : Cls K C
  ha : PySem.W.findIn K (.ref C) "__class__" = some (some (.builtin "object.__class__"))
  hn : PySem.W.specialIn K (.builtin "object.__class__") "__get__" = some (some (.builtin "getset_descriptor.__get__"))
  htk : PySem.W.takesIn K (.builtin "object.__class__") = some true
  hm : PySem.W.mroIn K C (.type "object") = some true
structure ErrI (K : PySem.W.Frag) (C : Addr) : Prop where
  hcl : (PySem.W.clsIn K C).isSome = true
  hga : PySem.W.findIn K (.ref C) "__getattribute__" = some (some (.builtin "BaseException.__getattribute__"))
  hgt : PySem.W.findIn K (.ref C) "__getattr__" = some none
  hsb : PySem.W.subIn K (.ref C) (.type "BaseException") = some true
  ha : PySem.W.findIn K (.ref C) "__class__" = some (some (.builtin "object.__class__"))
  hn : PySem.W.specialIn K (.builtin "object.__class__") "__get__" = some (some (.builtin "getset_descriptor.__get__"))
  htk : PySem.W.takesIn K (.builtin "object.__class__") = some true
  hm : PySem.W.mroIn K C (.type "object") = some true
inductive TyE (K : PySem.W.Frag) (H : Hp) : V → Value → Prop
  | old {x : V} {t : Value} : TyX K H x t → TyE K H x t
  | exc {a C dx : Addr} {fs : List (Str × V)} : H a = some (Exq a C dx) → H dx = some (.xd fs) → ErrI K C → TyE K H (.ref a) (.ref C)
def rIsE (K : PySem.W.Frag) : List V → Hp → VK → Prop := fun xs H Q => ∃ (x c : V) (t u : Value) (b : Bool), xs = [x, c] ∧ ClsV c u ∧ TyE K H x t ∧ PySem.W.kitOne K t u = some b ∧ Q (.bl b) H
theorem call_isE {X : Cx} : CallR X (.builtin "isinstance") (rIsE X.K) := by
  intro pins s σ H xs us Q I r h
  obtain ⟨x, c, t, u, b, rfl, k, ty, e, q⟩ := h
  cases ty with
  | old ty => exact call_isi pins s σ H _ us Q I r ⟨x, c, t, u, b, rfl, k, ty, e, q⟩
  | @exc a C dx fs h1 h2 T =>
    obtain ⟨u1, u2, rfl, r1, r2⟩ := vals2 r
    have e2 := k.eq r2
    subst e2
    cases (show u1 = Value.ref a from r1)
    obtain ⟨⟨⟨oc, od0, oda, osl⟩, vs, ho, h3, h4, h5⟩, _⟩ := I.hok a _ h1
    dsimp only at h3 h4 h5
    subst h3 h4 h5
    obtain ⟨mA, ⟨od, es, ep, hd, _⟩, _⟩ := I.hok dx _ h2
    exact PySem.W.kia_one (PySem.W.kitx_exc (od := some od) T.hcl T.hga T.hgt T.hsb T.ha T.hn T.htk T.hm) I.kIn (PySem.W.InstAt.mk ho rfl rfl hd) e (fun z => nomatch z) fun tk => ⟨.bl b, H, I.tok tk, rfl, q⟩
def tyD : D → Option Value
  | .non => some (.type "NoneType")
  | .bl _ => some (.type "bool")
  | .int _ => some (.type "int")
  | .str _ => some (.type "str")
  | .lst _ => some (.type "list")
  | .tup _ => some (.type "tuple")
  | .obj C _ => some (.ref C)
  | .tupF _ => some (.type "tuple")
  | .err C _ => some (.ref C)
  | .dic _ _ => some (.type "dict")
  | _ => none
def ClOk (K : PySem.W.Frag) : D → Prop
  | .obj C _ => InsOk K C
  | .err C _ => ErrI K C
  | _ => True
structure IsT (K : PySem.W.Frag) (c : V) (tb : D → Option Bool) : Prop where
  cl : ∃ u, ClsV c u ∧ ∀ d b, tb d = some b → ∃ t, tyD d = some t ∧ ClOk K d ∧ PySem.W.kitOne K t u = some b
theorem den_ty {K : PySem.W.Frag} {g : Gh} {H : Hp} {v : V} {d : D} {t : Value} (sm : Same g.G H) (h : Den K g v d) (e : tyD d = some t) (i : ClOk K d) : TyE K H v t := by
  cases h with
  | non => cases e; exact .old (.base .non)
  | bl b => cases e; exact .old (.base (.bl b))
  | int b => cases e; exact .old (.base (.int b))
  | str b => cases e; exact .old (.base (.str _))
  | lst h1 h2 => cases e; exact .old (.base (.lst (sm _ _ h1)))
  | tup h1 h2 =>
    cases e
    rcases h1 with h1 | ⟨o, h1⟩
    · exact .old (.base (.tup (sm _ _ h1)))
    · exact .old (.fTuple (sm _ _ h1))
  | obj h1 h2 =>
    cases e
    have z : InsOk K _ := i
    exact .old (.base (.ins (sm _ _ h1) z.cl z.ha z.hn z.htk z.hm))
  | tupF h1 _ _ _ => cases e; exact .old (.fTuple (sm _ _ h1))
  | err h1 h2 h3 => cases e; exact .exc (sm _ _ h1) (sm _ _ h2) i
  | dic h1 h2 h3 => cases e; exact .old (.base (.dK (sm _ _ h1)))
  | _ => cases e
def dIsi (tb : D → Option Bool) (d : DE) : DE := fun n ε P => d n ε fun n1 x => ∃ b, tb x = some b ∧ P n1 (.bl b)
section
variable {X : Cx} {pos p p2 : Pos} {a c : Expr} {d : DE} {v : V} {tb : D → Option Bool}
theorem de_isi (hT : IsT X.K v tb) (hg : Gl X "isinstance") (hm : X.mg "isinstance" = none) (ha : PE X a (liftE X.K d)) (hc : PE X c (tC v))
    (h1 : starEach [a, c] X.env = (false, eval a X.env) :: starEach [c] X.env := by rfl) (h2 : starEach [c] X.env = (false, eval c X.env) :: starEach [] X.env := by rfl) (hpl : (backTo pos (starEach [c] X.env)).any (·.1) = false := by rfl) :
    PE X (.Call (.Name "isinstance" p) [a, c] [] pos) (liftE X.K (dIsi tb d)) :=
  pe_w (pe_callB (r := rIsE X.K) call_isE hg hm PyProof.Rows.boot_isinstance (pa_cons ha (pa_cons hc pa_nil h2) h1) (by decide) (by decide) h1 hpl) fun σ H Q ⟨O, g, n, ε, P, r, q, k⟩ =>
    ⟨O, g, n, ε, _, r, q, fun w g1 H1 n1 x q1 s1 o1 e1 => by
      obtain ⟨b, q2, q3⟩ := q1
      obtain ⟨u, cu, f⟩ := hT.cl
      obtain ⟨t, t1, t2, t3⟩ := f x b q2
      exact ⟨w, v, t, u, b, rfl, cu, den_ty o1.sub e1 t1 t2, t3, k _ g1 H1 n1 _ q3 s1 o1 (.bl b)⟩⟩
theorem pe_tyN {x : Str} {T : String} (hg : Gl X x) (hm : X.mg x = none) (hv : bootBuiltins x = some (.type T)) (hn : x ≠ "__name__" := by decide) (hd : (x == ("__debug__" : Str)) = false := by decide) : PE X (.Name x pos) (tC (.ty T)) := pe_bltn hg hm hv rfl hn hd
theorem pe_clN {x : Str} {C : Addr} (hg : Gl X x) (hm : X.mg x = some (.ref C)) (hd : (x == ("__debug__" : Str)) = false := by decide) : PE X (.Name x pos) (tC (.ref C)) := pe_glob hg hm rfl hd
end
def shownD (d : D) : List Nat := (toPD d).shown.cps.toList
def okRepr (d : D) : Bool := okD d && (toPD d).showable
section
variable {X : Cx}
def gRepr : GC := fun ds P => match ds with
  | [x] => okRepr x = true ∧ (shownD x).length ≤ 16777216 ∧ P (.str (shownD x))
  | _ => False
end
theorem joinL_nil : ∀ ys : List (List Nat), TL.joinL [] ys = ys.flatten
  | [] => rfl
  | [p] => by simp [TL.joinL]
  | p :: q :: r => by
    show p ++ ([] ++ TL.joinL [] (q :: r)) = _
    rw [joinL_nil (q :: r)]
    simp
def dJoin (da db : DE) : DE := fun n ε P => da n ε fun n1 x => match x with
  | .str a => db n1 ε fun n2 y => match y with
    | .lst xs => ∃ ls, isStrs xs = some ls ∧ (ls.map (·.length)).sum + ls.length * a.length ≤ 16777216 ∧ P n2 (.str (TL.joinL a ls))
    | .tup xs => ∃ ls, isStrs xs = some ls ∧ (ls.map (·.length)).sum + ls.length * a.length ≤ 16777216 ∧ P n2 (.str (TL.joinL a ls))
    | _ => False
  | _ => False
section
variable {X : Cx} {pos apos : Pos} {o e : Expr} {da db : DE}
theorem join_len (ls : List (List Nat)) : ((ls.map fun l => (⟨l.toArray⟩ : Str)).map (·.length)) = ls.map (·.length) := by
  rw [List.map_map]
  exact List.map_congr_left fun l _ => by simp [Str.length]
theorem de_join (ho : PE X o (liftE X.K da)) (he : PE X e (liftE X.K db)) (hs : starEach [e] X.env = [(false, eval e X.env)] := by rfl) (hbase : attributeBase o "join" X.env (eval o X.env) = eval o X.env := by rfl) (hline : (apos.endLine == pos.line) = true := by rfl) :
    PE X (.Call (.Attribute o "join" apos) [e] [] pos) (liftE X.K (dJoin da db)) :=
  de_of (pe_join ho he hs hbase hline) fun O g H n σ ε P Q r q k => ⟨O, g, n, ε, _, r, q, fun v g1 H1 n1 x q1 s1 o1 e1 => by
    cases e1 with
    | str a =>
      refine ⟨⟨_, rfl⟩, O, g1, n1, ε, _, r.step s1 o1, q1, fun w g2 H2 n2 y q2 s2 o2 e2 => ?_⟩
      cases e2 with
      | lst h1 h2 =>
        obtain ⟨ls, z1, z2, z3⟩ := q2
        have ez := isStrs_map z1
        subst ez
        have ev := h2.strs
        subst ev
        refine ⟨_, _, _, rfl, rfl, .inl (SqL.of (o2.sub _ _ h1)), ?_, ?_⟩
        · rw [join_len, List.length_map]
          simpa [Str.length] using z2
        · have ej := SX.join_S a ls
          have ej2 : Txt.join ⟨a.toArray⟩ (ls.map fun l => (⟨l.toArray⟩ : Str)) = ⟨(TL.joinL a ls).toArray⟩ := ej
          rw [ej2]
          exact k _ g2 H2 n2 _ z3 (s1.trans s2) o2 (.str _)
      | tup h1 h2 =>
        obtain ⟨ls, z1, z2, z3⟩ := q2
        have ez := isStrs_map z1
        subst ez
        have ev := h2.strs
        subst ev
        refine ⟨_, _, _, rfl, rfl, .inr (Or.inl (h1.same o2.sub)), ?_, ?_⟩
        · rw [join_len, List.length_map]
          simpa [Str.length] using z2
        · have ej := SX.join_S a ls
          have ej2 : Txt.join ⟨a.toArray⟩ (ls.map fun l => (⟨l.toArray⟩ : Str)) = ⟨(TL.joinL a ls).toArray⟩ := ej
          rw [ej2]
          exact k _ g2 H2 n2 _ z3 (s1.trans s2) o2 (.str _)
      | _ => exact q2.elim
    | _ => exact q1.elim⟩
end
abbrev DR := Nat → Ev → (Nat → Int → Int → Prop) → Prop
def liftR (K : PySem.W.Frag) (d : DR) : L2.St → Hp → (Int → Int → Hp → Prop) → Prop := fun σ H Q => ∃ O g n ε P, Rp K O g H n σ ε ∧ d n ε P ∧ ∀ a b g' H' n', P n' a b → Stp g H g' H' → Ok K g' H' n' → Q a b H'
def r1 (d : DE) : DR := fun n ε P => d n ε fun n1 x => match x with
  | .int i => P n1 0 i
  | _ => False
def r2 (d e : DE) : DR := fun n ε P => d n ε fun n1 x => e n1 ε fun n2 y => match x, y with
  | .int i, .int j => P n2 i j
  | _, _ => False
def rgD (a b : Int) : List D := (List.range (b - a).toNat).map fun i => D.int (a + (i : Nat))
def okRg (a b : Int) : Prop := -(2 ^ 62) ≤ a ∧ a < 2 ^ 62 ∧ -(2 ^ 62) ≤ b ∧ b < 2 ^ 62 ∧ (b - a).toNat ≤ 2 ^ 24
def dLRg (d : DR) : DE := fun n ε P => d n ε fun n1 a b => okRg a b ∧ P n1 (.lst (rgD a b))
section
variable {X : Cx} {pos p : Pos} {e a b : Expr} {d da db : DE} {dr : DR}
theorem dens_rg {K : PySem.W.Frag} {g : Gh} (a b : Int) : Dens K g (rgV a b) (rgD a b) := by
  unfold rgV rgD
  induction List.range (b - a).toNat with
  | nil => exact .nil
  | cons c l ih => exact .cons (.int _) ih
theorem prg_w {t t' : L2.St → Hp → (Int → Int → Hp → Prop) → Prop} (h : PRg X e t) (w : ∀ σ H Q, t' σ H Q → t σ H Q) : PRg X e t' := fun pins s σ H Q I q => h pins s σ H Q I (w σ H Q q)
theorem dr_1 (hg : Gl X "range") (hm : X.mg "range" = none) (ha : PE X a (liftE X.K da)) (na : starEach [a] X.env = (false, eval a X.env) :: starEach [] X.env := by rfl) : PRg X (.Call (.Name "range" p) [a] [] pos) (liftR X.K (r1 da)) :=
  prg_w (prg_1 hg hm ha na) fun σ H Q ⟨O, g, n, ε, P, r, q, k⟩ => ⟨O, g, n, ε, _, r, q, fun v g1 H1 n1 x q1 s1 o1 e1 => by
    cases e1 with
    | int i => exact ⟨i, rfl, k 0 i g1 H1 n1 q1 s1 o1⟩
    | _ => exact q1.elim⟩
theorem de_lrg (hc : X.calm = true) (hg : Gl X "list") (hm : X.mg "list" = none) (he : PRg X e (liftR X.K dr)) (na : starEach [e] X.env = (false, eval e X.env) :: starEach [] X.env := by rfl) : PE X (.Call (.Name "list" p) [e] [] pos) (liftE X.K (dLRg dr)) :=
  de_of (pe_listRg hc hg hm he na) fun O g H n σ ε P Q r q k => ⟨O, g, n, ε, _, r, q, fun a b g1 H1 n1 q1 s1 o1 => ⟨q1.1, fun p hp => (Fin.of k s1).newL o1 q1.2 (dens_rg a b) hp⟩⟩
end
end Pd
namespace L2
open PySem PySem.Spec PyProof.Rows
theorem meets_enumerate_newI {v : Value} {itf : Heap → Addr} {hpf : Heap → Heap} {H : Heap → Prop}
    (B : ∀ (prog : Program) (w : World) (A : Around) (E : Value → Shared → Prop) (s : Shared) (Q : Value → Shared → Prop), H s.heap → Q (.ref (itf s.heap)) { s with heap := hpf s.heap } → wpAny (model prog w) A (pyIter v) Q E s) :
    Meets (Builtin.«enumerate.__new__» ⟨[.type "enumerate", v], []⟩) (fun _ R s => H s.heap ∧
      R (.ok (.ret (.ref (hpf s.heap).objs.size))) { s with heap := (hpf s.heap).push { cls := .type "enumerate", data := .fields #[.none, .bool false, .ref (itf s.heap), rawInt 0, .none, .none] } }) :=
  .of_wp fun prog w A R s h => by
    obtain ⟨hp, g, d, tk, os⟩ := s; obtain ⟨h1, h⟩ := h
    have hsub := sub_enumerate
    have q1 : ∀ {A' : Around} {E : Value → Shared → Prop} {Q : Value → Shared → Prop}, Q (.ref (itf hp)) ⟨hpf hp, g, d, tk, os⟩ → wpAny (model prog w) A' (pyIter v) Q E ⟨hp, g, d, tk, os⟩ :=
      fun q => B prog w _ _ ⟨hp, g, d, tk, os⟩ _ h1 q
    wp_walk using q1
    refine wpAny_stack_any fun st => wpAny_pure ?_
    split
    · rename_i c _ _ _ _ _
      cases (c == Value.type "enumerate")
      · wp_walk using q1
        exact ⟨_, rfl, h⟩
      · wp_walk using q1
        exact ⟨_, rfl, h⟩
    · wp_walk using q1
      exact ⟨_, rfl, h⟩
section
variable {prog : Program} {w : World} {A : Around} {E : Value → Shared → Prop} {s : Shared}
theorem enum_begins1 {v : Value} {o : Obj} {H : Heap → Prop} {Q : Value → Shared → Prop} (B : Begins v o H) (h1 : H s.heap)
    (h : ∀ h', IsEnum h' (s.heap.objs.size + 1) s.heap.objs.size 0 .none → h'.get? s.heap.objs.size = some o → h'.objs.size = s.heap.objs.size + 2 →
      (∀ b o, s.heap.get? b = some o → h'.get? b = some o) → Q (.ref (s.heap.objs.size + 1)) { s with heap := h' }) :
    wpAny (model prog w) A (call (.type "enumerate") [v]) Q E s := by
  refine callType_new F.called_enumerate (by decide) (F.typeCall_enumerate_1 _) (F.newCall_enumerate_1 _) (fun obj => F.args_object_init_2 obj _) F.entry_enumerate_new
    (meets_enumerate_newI (itf := fun h => h.objs.size) (hpf := fun h => h.push o) B.iter) ⟨h1, ?_⟩
  have hz : (s.heap.push o).objs.size = s.heap.objs.size + 1 := Heap.size_push ..
  show _ ∧ _
  rw [hz]
  have he : IsEnum ((s.heap.push o).push { cls := .type "enumerate", data := .fields #[.none, .bool false, .ref s.heap.objs.size, rawInt 0, .none, .none] }) (s.heap.objs.size + 1) s.heap.objs.size 0 .none := by
    have := Heap.get?_push_size (s.heap.push o) (o := { cls := .type "enumerate", data := .fields #[.none, .bool false, .ref s.heap.objs.size, rawInt 0, .none, .none] }) rfl
    rw [hz] at this; exact this
  refine ⟨⟨_, he, rfl⟩, h _ he (Heap.get?_push_of_some _ (Heap.get?_push_size _ B.free)) (by rw [Heap.size_push, hz]) fun b o x => Heap.get?_push_of_some _ (Heap.get?_push_of_some _ x)⟩
end
inductive Sk where
  | lst (a : Addr) | tup (a : Addr) | str (z : Str)
def Sk.v : Sk → V
  | .lst a => .ref a
  | .tup a => .ref a
  | .str z => .str z
def sgV (z : Str) : List V := z.cps.toList.map fun c => .str ⟨#[c]⟩
def Sk.at (H : Hp) : Sk → List V → Prop
  | .lst a, xs => H a = some (.lst xs)
  | .tup a, xs => Rd H a (.tup xs)
  | .str z, xs => xs = sgV z
def Sk.val (t : Tok) : Sk → Value
  | .lst a => .ref a
  | .tup a => .ref a
  | .str z => .str z t
def Sk.obj (t : Tok) : Sk → Obj
  | .lst a => { cls := .type "list_iterator", data := .fields #[.ref a, .int 0 0] }
  | .tup a => { cls := .type "tuple_iterator", data := .fields #[.ref a, .int 0 0] }
  | .str z => { cls := .type (strIterType z), data := .fields #[.str z t, .int 0 0] }
def Sk.tn (t : Tok) (it : Addr) (i : Nat) (h : Heap) : Sk → Prop
  | .lst a => h.IsListIter it a i
  | .tup a => h.IsTupleIter it a i
  | .str z => h.IsStrIter it (strIterType z) z t i
theorem Sk.rel {k : Sk} {u : Value} (h : RelV k.v u) : ∃ t, u = k.val t := by
  cases k with
  | lst a => exact ⟨0, h⟩
  | tup a => exact ⟨0, h⟩
  | str z =>
    obtain ⟨t, e⟩ := h
    exact ⟨t, e⟩
theorem Sk.tn0 {k : Sk} {t : Tok} {it : Addr} {h : Heap} (e : h.get? it = some (k.obj t)) : k.tn t it 0 h := by
  cases k with
  | lst a => exact ⟨_, e, rfl, rfl⟩
  | tup a => exact ⟨_, e, rfl, rfl⟩
  | str z => exact ⟨_, e, rfl, rfl⟩
theorem Sk.tn_keep {k : Sk} {t : Tok} {it : Addr} {i : Nat} {h h' : Heap} (s : k.tn t it i h) (hk : ∀ o, h.get? it = some o → h'.get? it = some o) : k.tn t it i h' := by
  cases k with
  | lst a => exact Heap.IsListIter.at s hk
  | tup a => exact Heap.IsTupleIter.at s hk
  | str z =>
    obtain ⟨o, e, c, d⟩ := s
    exact ⟨o, hk _ e, c, d⟩
theorem Sk.tn_obj {k : Sk} {t : Tok} {it : Addr} {i : Nat} {h : Heap} (s : k.tn t it i h) : ∃ o, h.get? it = some o ∧ ∀ v, o.data ≠ .cell v := by
  cases k with
  | lst a =>
    obtain ⟨o, e, _, d⟩ := s
    exact ⟨o, e, fun v z => by rw [d] at z; cases z⟩
  | tup a =>
    obtain ⟨o, e, _, d⟩ := s
    exact ⟨o, e, fun v z => by rw [d] at z; cases z⟩
  | str z =>
    obtain ⟨o, e, _, d⟩ := s
    exact ⟨o, e, fun v z => by rw [d] at z; cases z⟩
theorem Sk.len {X : Cx} {pins : List (Addr × Obj)} {σ : St} {H : Hp} {s : Shared} {k : Sk} {xs : List V} (I : Inv X pins σ H s) (h : k.at H xs) : True := trivial
section
variable {X : Cx} {pins : List (Addr × Obj)} {σ : St} {H : Hp} {s : Shared} {k : Sk} {xs : List V}
theorem Sk.begins (I : Inv X pins σ H s) (h : k.at H xs) (t : Tok) : ∃ Hh, Begins (k.val t) (k.obj t) Hh ∧ Hh s.heap := by
  cases k with
  | lst a =>
    obtain ⟨its, n, r, ho, hz⟩ := I.lst h
    exact ⟨_, begins_list a its.toArray, ⟨_, ho, rfl, n, rfl⟩⟩
  | tup a =>
    obtain ⟨its, r, p, hz⟩ := I.tuple (Or.inl h)
    exact ⟨_, begins_tuple a its.toArray, p⟩
  | str z => exact ⟨_, begins_text z t, trivial⟩
theorem Sk.draws (I : Inv X pins σ H s) (h : k.at H xs) (t : Tok) {P : Program} {w : World} {A : Around} (hh : A.handled = none) {it : Addr} (hit : H it = none) :
    ∃ fp St P', Draws P w A it fp xs.length P' St ∧ (∀ i, k.tn t it i s.heap → St i s.heap) ∧ (∀ i h, St i h → k.tn t it i h) ∧ it ∈ fp ∧ (∀ b ∈ fp, b = it ∨ ∃ o, H b = some o) ∧ (∀ i u, P' i u → ∃ y, xs[i]? = some y ∧ RelV y u) := by
  cases k with
  | lst a =>
    obtain ⟨its, n, r, ho, hz⟩ := I.lst h
    have hne : a ≠ it := fun e => by
      have h' : H a = some (.lst xs) := h
      rw [e, hit] at h'
      cases h'
    have hl : s.heap.IsList a its.toArray := ⟨_, ho, rfl, n, rfl⟩
    have D := Draws.list (prog := P) (w := w) (A := A) hh it a hne its.toArray
    rw [List.size_toArray, ← r.length] at D
    refine ⟨_, _, _, D, fun i q => ⟨q, hl⟩, fun i h q => q.1, by simp, fun b hb => ?_, fun i u e => ?_⟩
    · have e : b = it ∨ b = a := by simpa using hb
      exact e.imp id fun z => ⟨_, by rw [z]; exact h⟩
    · have e' : its[i]? = some u := by simpa using e
      obtain ⟨hi, _⟩ := List.getElem?_eq_some_iff.mp e'
      have hx : i < xs.length := by rw [r.length]; exact hi
      obtain ⟨u', e2, r2⟩ := r.get (List.getElem?_eq_getElem hx)
      rw [e'] at e2
      cases e2
      exact ⟨_, List.getElem?_eq_getElem hx, r2⟩
  | tup a =>
    obtain ⟨its, r, p, hz⟩ := I.tuple (Or.inl h)
    obtain ⟨oo, hoo⟩ : ∃ o, H a = some o := (show Rd H a (.tup xs) from h).elim (fun h => ⟨_, h⟩) fun ⟨o, h⟩ => ⟨_, h⟩
    have hne : a ≠ it := fun e => by
      rw [e, hit] at hoo
      cases hoo
    have D := Draws.tuple (prog := P) (w := w) (A := A) hh it a hne its.toArray
    rw [List.size_toArray, ← r.length] at D
    refine ⟨_, _, _, D, fun i q => ⟨q, p⟩, fun i h q => q.1, by simp, fun b hb => ?_, fun i u e => ?_⟩
    · have e : b = it ∨ b = a := by simpa using hb
      exact e.imp id fun z => ⟨_, by rw [z]; exact hoo⟩
    · have e' : its[i]? = some u := by simpa using e
      obtain ⟨hi, _⟩ := List.getElem?_eq_some_iff.mp e'
      have hx : i < xs.length := by rw [r.length]; exact hi
      obtain ⟨u', e2, r2⟩ := r.get (List.getElem?_eq_getElem hx)
      rw [e'] at e2
      cases e2
      exact ⟨_, List.getElem?_eq_getElem hx, r2⟩
  | str z =>
    have e0 : xs = sgV z := h
    subst e0
    refine ⟨_, _, _, by
      have D := Draws.text (prog := P) (w := w) (A := A) hh it z t
      have e : (sgV z).length = z.cps.size := by
        unfold sgV
        rw [List.length_map, Array.length_toList]
      rw [e]
      exact D, fun i q => q, fun i h q => q, by simp, fun b hb => .inl (by simpa using hb), fun i u e => ?_⟩
    obtain ⟨c, u', e1, rfl⟩ := e
    refine ⟨.str ⟨#[c]⟩, ?_, u', rfl⟩
    unfold sgV
    rw [List.getElem?_map]
    have e2 : z.cps.toList[i]? = some c := by simpa using e1
    rw [e2]
    rfl
end
theorem turn_newT {P : Program} {w : World} {K : PySem.W.Frag} {tg : Expr} {J : It} {fp wr : List Addr} {it : Addr} {tn : Nat → Heap → Prop}
    (mem : it ∈ fp) (obj : ∀ i h, tn i h → ∀ b ∈ fp, ∃ o, h.get? b = some o ∧ ∀ v, o.data ≠ .cell v) (keep : ∀ i h h', tn i h → (∀ b ∈ fp, ∀ o, h.get? b = some o → h'.get? b = some o) → tn i h')
    (self : ∀ (A : Around) (i : Nat) (s : Shared) (Q : Value → Shared → Prop) (E : Value → Shared → Prop), tn i s.heap → Q (.ref it) s → wpAny (model P w) A (pyIter (.ref it)) Q E s)
    (hwr : ∀ b ∈ wr, b ∈ fp)
    (step : ∀ (X : Cx), X.prog = P → X.w = w → X.K = K → X.calm = true → ∀ (i : Nat) (pins : List (Addr × Obj)) (s : Shared) (σ : St) (H : Hp), Inv X pins σ H s → (∀ b ∈ fp, FpOk X pins H b) → tn i s.heap → (J.go i H ∨ J.stop i H) →
      ∃ (fpG : List Addr) (n : Nat) (Y : Nat → Heap → Value → Heap → Prop) (St : Nat → Heap → Prop), GoesN P w X.A tg it fpG wr n Y St ∧ St i s.heap ∧ (J.go i H → i < n) ∧ (J.stop i H → i = n) ∧ (∀ h', St (i + 1) h' → tn (i + 1) h') ∧
        ∀ v h', Y i s.heap v h' → ∃ T xs us, v = .ref T ∧ s.heap.objs.size ≤ T ∧ h'.IsTuple T us.toArray ∧ Vals xs us ∧ xs.length ≤ 1000 ∧ J.yld i H (.ref T) (upd H T (.tup xs))) :
    Turn P w K tg J fp it tn where
  mem := mem
  obj := obj
  keep := keep
  self := self
  item := by
    intro X hP hw hK hc i pins s σ H E I hf st hg
    obtain ⟨fpG, n, Y, St, G, s0, s1, _, s2, s3⟩ := step X hP hw hK hc i pins s σ H I hf st (.inl hg)
    subst hP hw hK
    refine thn (G.goes i s (fun v s2 => ∃ x H', Inv X pins σ H' s2 ∧ RelV x v ∧ J.yld i H x H' ∧ tn (i + 1) s2.heap ∧ ∀ b ∈ fp, H' b = none) E (s1 hg) s0 fun v h' tk y st' hk _ => ?_) fun r s1 q => q
    obtain ⟨T, xs, us, rfl, hT, hI, hv, hl, q⟩ := s3 v h' y
    have I1 : Inv X pins σ (upd H T (.tup xs)) { s with heap := h', toks := tk } :=
      I.turnedNew (ch := wr) hk (fun b hb => hf b (hwr b hb)) hT ⟨Nat.le_trans hl (by decide), us, hv, hI⟩
    refine ⟨.ref T, _, I1, rfl, q, s2 h' st', fun b hb => ?_⟩
    obtain ⟨o, eo, _⟩ := obj i s.heap st b hb
    have hlt := Heap.lt_size eo
    rw [upd_ne (Nat.ne_of_lt (Nat.lt_of_lt_of_le hlt hT))]
    exact (hf b hb).1
  done := by
    intro X hP hw hK hc i pins s σ H E I hf st hg
    obtain ⟨fpG, n, Y, St, G, s0, _, s1, _, _⟩ := step X hP hw hK hc i pins s σ H I hf st (.inr hg)
    subst hP hw hK
    have e := s1 hg
    subst e
    exact G.stops s (fun s1 => Inv X pins σ H s1) E s0 fun h' tk hk _ => I.turnedL hk fun b hb => hf b (hwr b hb)
end L2
namespace L2
open PySem PySem.Spec PyProof.Rows
def ItE (k : Sk) (xs : List V) : It :=
  ⟨fun i H => k.at H xs ∧ i < xs.length, fun i H v H' => ∃ T x, v = .ref T ∧ H T = none ∧ H' = upd H T (.tup [.int (i : Nat), x]) ∧ xs[i]? = some x, fun i H => k.at H xs ∧ i = xs.length⟩
def ItZ (k l : Sk) (xs ys : List V) : It :=
  ⟨fun i H => (k.at H xs ∧ l.at H ys) ∧ i < min xs.length ys.length, fun i H v H' => ∃ T x y, v = .ref T ∧ H T = none ∧ H' = upd H T (.tup [x, y]) ∧ xs[i]? = some x ∧ ys[i]? = some y, fun i H => (k.at H xs ∧ l.at H ys) ∧ i = min xs.length ys.length⟩
theorem off_fp {H : Hp} {fp : List Addr} {it b : Addr} (h : ∀ b ∈ fp, b = it ∨ ∃ o, H b = some o) (hb : H b = none) (hne : b ≠ it) : b ∉ fp := fun m => by
  rcases h b m with e | ⟨o, e⟩
  · exact hne e
  · rw [hb] at e
    cases e
section
variable {P : Program} {w : World} {K : PySem.W.Frag} {elts : List Expr} {kk : Nat} {tpos : Pos}
theorem turn_enumS (k : Sk) (t : Tok) (xs : List V) (e it : Addr) :
    Turn P w K (.Tuple elts kk tpos) (ItE k xs) [e, it] e (fun i h => (∃ old, IsEnum h e it (0 + ((i : Nat) : Int)) old) ∧ k.tn t it i h ∧ e ≠ it) := by
  refine turn_newT (wr := [e, it]) (by simp) (fun i h st b hb => ?_) (fun i h h' st hk => ?_) (fun A i s Q E st h => ?_) (fun b hb => hb) (fun X hP hw hK hc i pins s σ H I hf st hg => ?_)
  · have e' : b = e ∨ b = it := by simpa using hb
    obtain ⟨⟨old, he⟩, st2, _⟩ := st
    rcases e' with z | z
    · rw [z]; exact ⟨_, he, fun v q => nomatch q⟩
    · rw [z]; exact Sk.tn_obj st2
  · obtain ⟨⟨old, he⟩, st2, hne⟩ := st
    exact ⟨⟨old, hk e (by simp) _ he⟩, Sk.tn_keep st2 fun o q => hk it (by simp) o q, hne⟩
  · obtain ⟨⟨old, he⟩, _⟩ := st
    exact wpAny_pyIter_enum he h
  · obtain ⟨⟨old, he⟩, st2, hne⟩ := st
    have hat : k.at H xs := hg.elim (·.1) (·.1)
    have hn1 := (hf e (by simp)).1
    have hn2 := (hf it (by simp)).1
    obtain ⟨fp, St, P', D, d1, d2, d3, d4, d5⟩ := Sk.draws I hat t (P := P) (w := w) (A := X.A.in1) (show X.A.in1.handled = none from I.ok.hd hc) hn2
    refine ⟨_, _, _, _, GoesN.enumFrom 0 D e hne (off_fp d4 hn1 hne) d3, ⟨⟨old, he⟩, d1 i st2⟩, fun g => g.2, fun g => g.2, fun h' st' => ⟨st'.1, d2 _ _ st'.2, hne⟩, fun v h' y => ?_⟩
    obtain ⟨T, tt, x, rfl, hT, hx, hI⟩ := y
    obtain ⟨y, e1, ry⟩ := d5 i x hx
    have e0 : ((0 : Int) + (i : Nat)) = (i : Nat) := Int.zero_add _
    rw [e0] at hI
    exact ⟨T, [.int (i : Nat), y], [.int (i : Nat) tt, x], rfl, hT, hI, .cons ⟨_, rfl⟩ (.cons ry .nil), by simp, T, y, rfl, I.hok.fresh hT, rfl, e1⟩
theorem turn_zipS (k l : Sk) (t u : Tok) (xs ys : List V) (z TI TO i1 i2 : Addr) (nd : [z, TI, TO, i1, i2].Nodup) :
    Turn P w K (.Tuple elts kk tpos) (ItZ k l xs ys) [z, TI, TO, i1, i2] z (fun i h => IsZip h z TI TO .none ∧ IsTupOf2 h TI (.ref i1) (.ref i2) ∧ (∃ a1 a2, IsTupOf2 h TO a1 a2) ∧ k.tn t i1 i h ∧ l.tn u i2 i h) := by
  refine turn_newT (wr := [z, TO, i1, i2]) (by simp) (fun i h st b hb => ?_) (fun i h h' st hk => ?_) (fun A i s Q E st h => ?_) (fun b hb => ?_) (fun X hP hw hK hc i pins s σ H I hf st hg => ?_)
  · obtain ⟨s1, s2, ⟨a1, a2, s3⟩, s4, s5⟩ := st
    have e' : b = z ∨ b = TI ∨ b = TO ∨ b = i1 ∨ b = i2 := by simpa using hb
    rcases e' with q | q | q | q | q
    · rw [q]; exact ⟨_, s1, fun v q => nomatch q⟩
    · rw [q]; exact ⟨_, s2, fun v q => nomatch q⟩
    · rw [q]; exact ⟨_, s3, fun v q => nomatch q⟩
    · rw [q]; exact Sk.tn_obj s4
    · rw [q]; exact Sk.tn_obj s5
  · obtain ⟨s1, s2, ⟨a1, a2, s3⟩, s4, s5⟩ := st
    exact ⟨hk z (by simp) _ s1, hk TI (by simp) _ s2, ⟨a1, a2, hk TO (by simp) _ s3⟩, Sk.tn_keep s4 fun o q => hk i1 (by simp) o q, Sk.tn_keep s5 fun o q => hk i2 (by simp) o q⟩
  · exact wpAny_pyIter_zip st.1 h
  · have e' : b = z ∨ b = TO ∨ b = i1 ∨ b = i2 := by simpa using hb
    rcases e' with q | q | q | q <;> rw [q] <;> simp
  · obtain ⟨s1, s2, s3, s4, s5⟩ := st
    have hat : k.at H xs ∧ l.at H ys := hg.elim (·.1) (·.1)
    have nz := (hf z (by simp)).1
    have nTO := (hf TO (by simp)).1
    have n1 := (hf i1 (by simp)).1
    have n2 := (hf i2 (by simp)).1
    obtain ⟨fp1, St1, P1, D1, d1, d2, d3, d4, d5⟩ := Sk.draws I hat.1 t (P := P) (w := w) (A := X.A.in1) (show X.A.in1.handled = none from I.ok.hd hc) n1
    obtain ⟨fp2, St2, P2, D2, f1, f2, f3, f4, f5⟩ := Sk.draws I hat.2 u (P := P) (w := w) (A := X.A.in1) (show X.A.in1.handled = none from I.ok.hd hc) n2
    have nd' := nd
    simp only [List.nodup_cons, List.mem_cons, List.mem_nil_iff, not_or, or_false, not_false_eq_true, List.nodup_nil, and_true] at nd'
    obtain ⟨⟨a1, a2, a3, a4⟩, ⟨b1, b2, b3⟩, ⟨c1, c2⟩, e1⟩ := nd'
    have S : ZipSep2 z TI TO i1 i2 fp1 fp2 := { TIz := Ne.symm a1, TOz := Ne.symm a2, TITO := b1, TIi1 := b2, mem1 := d3, zf1 := off_fp d4 nz a3, Tf1 := off_fp d4 nTO c1, TIi2 := b3, mem2 := f3, zf2 := off_fp f4 nz a4, Tf2 := off_fp f4 nTO c2, sep1_2 := off_fp f4 n1 e1, sep2_1 := off_fp d4 n2 (Ne.symm e1) }
    refine ⟨_, _, _, _, GoesN.zip2 S D1 D2, ⟨s1, s2, s3, d1 i s4, f1 i s5⟩, fun g => g.2, fun g => g.2, fun h' st' => ⟨st'.1, st'.2.1, st'.2.2.1, d2 _ _ st'.2.2.2.1, f2 _ _ st'.2.2.2.2⟩, fun v h' y => ?_⟩
    obtain ⟨T, x, y, rfl, hT, hx, hy, hI⟩ := y
    obtain ⟨x', g1, rx⟩ := d5 i x hx
    obtain ⟨y', g2, ry⟩ := f5 i y hy
    exact ⟨T, [x', y'], [x, y], rfl, hT, hI, .cons rx (.cons ry .nil), by simp, T, x', y', rfl, I.hok.fresh hT, rfl, g1, g2⟩
end
theorem nodup_off (N : Nat) (l : List Nat) (h : l.Nodup) : (l.map fun i => (N + i : Addr)).Nodup := by
  exact List.pairwise_map.mpr (h.imp fun ne e => ne (Nat.add_left_cancel e))
section
variable {X : Cx}
def iEnumS (te : TA) : TI := fun σ H R => te σ H fun vs H1 => ∃ k xs, vs = [Sk.v k] ∧ k.at H1 xs ∧ R (ItE k xs) H1
theorem pi_enumS {e : Expr} {ta : TA} {p pos tpos : Pos} {elts : List Expr} {kk : Nat} (hg : Gl X "enumerate") (hm : X.mg "enumerate" = none) (ha : PA X [e] ta) (hs : starEach [e] X.env = [(false, eval e X.env)] := by rfl) :
    PI X (.Tuple elts kk tpos) (.Call (.Name "enumerate" p) [e] [] pos) (iEnumS ta) := by
  refine ⟨fun pins s σ H R I h => ?_⟩
  refine Call_ (ld_blt I hg hm boot_enumerate (PyProof.Rows.callWith_type1 (thn (ha.run pos pins s σ H _ I h) fun us s1 ⟨vs, H1, I1, r1, q1⟩ => ?_) hs rfl))
  obtain ⟨k, xs, ex, hq, q⟩ := q1
  subst ex
  cases r1 with
  | cons r rr =>
    cases rr
    obtain ⟨t, rfl⟩ := Sk.rel r
    obtain ⟨Hh, B, hH⟩ := Sk.begins I1 hq t
    refine enum_begins1 B hH fun h' he hit hsz hk => wpAny_pyIter_enum he ?_
    have I2 : Inv X pins σ H1 { s1 with heap := h' } := I1.kept (t' := s1.toks) hk
    refine ⟨s1.heap.objs.size + 1, [s1.heap.objs.size + 1, s1.heap.objs.size], _, _, H1, rfl, I2, turn_enumS k t xs (s1.heap.objs.size + 1) s1.heap.objs.size, ⟨⟨.none, he⟩, Sk.tn0 hit, Nat.succ_ne_self _⟩, fun b hb => ?_, q⟩
    have e' : b = s1.heap.objs.size + 1 ∨ b = s1.heap.objs.size := by simpa using hb
    have hle : s1.heap.objs.size ≤ b := by
      rcases e' with z | z
      · rw [z]; exact Nat.le_add_right _ _
      · rw [z]; exact Nat.le_refl _
    exact I1.fpOk hle (I1.hok.fresh hle)
def iZipS (ta : TA) : TI := fun σ H R => ta σ H fun vs H1 => ∃ k l xs ys, vs = [Sk.v k, Sk.v l] ∧ k.at H1 xs ∧ l.at H1 ys ∧ R (ItZ k l xs ys) H1
theorem pi_zipS {e e2 : Expr} {ta : TA} {p pos tpos : Pos} {elts : List Expr} {kk : Nat} (hg : Gl X "zip") (hm : X.mg "zip" = none) (ha : PA X [e, e2] ta)
    (hs : starEach [e, e2] X.env = (false, eval e X.env) :: starEach [e2] X.env := by rfl) (hpl : (backTo pos (starEach [e2] X.env)).any (·.1) = false := by rfl) :
    PI X (.Tuple elts kk tpos) (.Call (.Name "zip" p) [e, e2] [] pos) (iZipS ta) := by
  refine ⟨fun pins s σ H R I h => ?_⟩
  refine Call_ (ld_blt I hg hm boot_zip (PyProof.Rows.callWith_type1 (thn (ha.run pos pins s σ H _ I h) fun us s1 ⟨vs, H1, I1, r1, q1⟩ => ?_) hs hpl))
  obtain ⟨k, l, xs, ys, ex, hq, hq2, q⟩ := q1
  subst ex
  cases r1 with
  | cons r rr =>
    cases rr with
    | cons r2 rr =>
      cases rr
      obtain ⟨t, rfl⟩ := Sk.rel r
      obtain ⟨t2, rfl⟩ := Sk.rel r2
      obtain ⟨H1', B1, h1⟩ := Sk.begins I1 hq t
      obtain ⟨H2', B2, h2⟩ := Sk.begins I1 hq2 t2
      refine zip_begins2 B1 B2 h1 h2 fun h' hz hTI hTO g1 g2 hsz hk => wpAny_pyIter_zip hz ?_
      have I2 : Inv X pins σ H1 { s1 with heap := h' } := I1.kept (t' := s1.toks) hk
      have nd := nodup_off s1.heap.objs.size [4, 2, 3, 0, 1] (by decide)
      refine ⟨s1.heap.objs.size + 4, [s1.heap.objs.size + 4, s1.heap.objs.size + 2, s1.heap.objs.size + 3, s1.heap.objs.size, s1.heap.objs.size + 1], _, _, H1, rfl, I2, turn_zipS k l t t2 xs ys _ _ _ _ _ nd, ⟨hz, hTI, ⟨_, _, hTO⟩, Sk.tn0 g1, Sk.tn0 g2⟩, fun b hb => ?_, q⟩
      have hle : s1.heap.objs.size ≤ b := by
        have e' : b = s1.heap.objs.size + 4 ∨ b = s1.heap.objs.size + 2 ∨ b = s1.heap.objs.size + 3 ∨ b = s1.heap.objs.size ∨ b = s1.heap.objs.size + 1 := by simpa using hb
        rcases e' with z | z | z | z | z <;> rw [z] <;> first | exact Nat.le_add_right _ _ | exact Nat.le_refl _
      exact I1.fpOk hle (I1.hok.fresh hle)
def iAny (K : PySem.W.Frag) (te : TE) : TI := fun σ H R => te σ H fun v H1 => (∃ a, v = .ref a ∧ (∃ xs, SqL K H1 a xs) ∧ R (Itl K a) H1) ∨ (∃ a, v = .ref a ∧ (∃ xs, SqT K H1 a xs) ∧ R (Itt K a) H1) ∨ ∃ x, v = .str x ∧ R (Its x) H1
theorem pi_any {tg e : Expr} {te : TE} (he : PE X e te) : PI X tg e (iAny X.K te) := by
  refine ⟨fun pins s σ H R I h => ?_⟩
  refine thn (he.run pins s σ H _ I h) fun v s1 ⟨x, H1, I1, r1, q1⟩ => ?_
  rcases q1 with ⟨a, e, ⟨xs, hq⟩, q⟩ | ⟨a, e, ⟨xs, hq⟩, q⟩ | ⟨x, ex, q⟩
  · subst e
    cases r1
    obtain ⟨its, rv, p, hz⟩ := I1.list hq
    refine wpAny_pyIter_list p.isList ?_
    refine ⟨s1.heap.objs.size, [s1.heap.objs.size], _, _, H1, rfl, I1.kept (t' := s1.toks) fun b o e => Heap.get?_push_of_some _ e, turn_list a _, ⟨_, Heap.get?_push_size _ rfl, rfl, rfl⟩, fun b hb => ?_, q⟩
    have e : b = s1.heap.objs.size := by simpa using hb
    subst e
    exact I1.fpOk (Nat.le_refl _) (I1.hok.fresh (Nat.le_refl _))
  · subst e
    cases r1
    obtain ⟨its, rv, p, hz⟩ := I1.tuple hq
    refine wpAny_pyIter_tuple (show s1.heap.IsTuple a its.toArray from p) ?_
    refine ⟨s1.heap.objs.size, [s1.heap.objs.size], _, _, H1, rfl, I1.kept (t' := s1.toks) fun b o e => Heap.get?_push_of_some _ e, turn_tuple a _, ⟨_, Heap.get?_push_size _ rfl, rfl, rfl⟩, fun b hb => ?_, q⟩
    have e : b = s1.heap.objs.size := by simpa using hb
    subst e
    exact I1.fpOk (Nat.le_refl _) (I1.hok.fresh (Nat.le_refl _))
  · subst ex
    obtain ⟨t, rfl⟩ := r1
    cases ha : x.cps.all (· < 128)
    · exact wpAny_pyIter_wide ha (pi_one (tk := s1.toks) I1 _ (turn_str _ x t "str_iterator" (.inr rfl)) ⟨_, Heap.get?_push_size _ rfl, rfl, rfl⟩ q)
    · exact wpAny_pyIter_ascii ha (pi_one (tk := s1.toks) I1 _ (turn_str _ x t "str_ascii_iterator" (.inl rfl)) ⟨_, Heap.get?_push_size _ rfl, rfl, rfl⟩ q)
end
end L2
namespace Pd
open PySem L2
def srcD : D → Option (List D)
  | .lst xs => some xs
  | .tup xs => some xs
  | .str l => some (sgn l)
  | _ => none
theorem den_src {K : PySem.W.Frag} {g : Gh} {v : V} {d : D} {xs : List D} (h : Den K g v d) (e : srcD d = some xs) : ∃ (k : Sk) (vs : List V), v = k.v ∧ (∀ H, Same g.G H → k.at H vs) ∧ Dens K g vs xs := by
  cases h with
  | lst h1 h2 =>
    cases e
    exact ⟨.lst _, _, rfl, fun H s => s _ _ h1, h2⟩
  | tup h1 h2 =>
    cases e
    exact ⟨.tup _, _, rfl, fun H s => h1.same s, h2⟩
  | str l =>
    cases e
    exact ⟨.str ⟨l.toArray⟩, _, rfl, fun H s => rfl, dens_sgn l⟩
  | _ => cases e
def iVal (d : DE) : DI := fun n ε P => d n ε fun n1 x => ∃ xs, srcD x = some xs ∧ P n1 xs
def rngD (lo : Int) (n : Nat) : List D := (List.range n).map fun i => D.int (lo + (i : Nat))
def iRg1 (d : DE) : DI := fun n ε P => d n ε fun n1 x => match x with
  | .int j => -(2 ^ 62) ≤ j ∧ j < 2 ^ 62 ∧ P n1 (rngD 0 j.toNat)
  | _ => False
def enumD (xs : List D) : List D := xs.zipIdx.map fun p => .tup [.int (p.2 : Nat), p.1]
def zipD (xs ys : List D) : List D := List.zipWith (fun x y => .tup [x, y]) xs ys
def iEnm (d : DE) : DI := fun n ε P => d n ε fun n1 x => ∃ xs, srcD x = some xs ∧ P n1 (enumD xs)
def iZp (d e : DE) : DI := fun n ε P => d n ε fun n1 x => e n1 ε fun n2 y => ∃ xs ys, srcD x = some xs ∧ srcD y = some ys ∧ P n2 (zipD xs ys)
theorem enumD_length (xs : List D) : (enumD xs).length = xs.length := by simp [enumD]
theorem zipD_length (xs ys : List D) : (zipD xs ys).length = min xs.length ys.length := by simp [zipD]
theorem enumD_get {xs : List D} {i : Nat} {d : D} (h : xs[i]? = some d) : (enumD xs)[i]? = some (.tup [.int (i : Nat), d]) := by
  unfold enumD
  rw [List.getElem?_map, List.getElem?_zipIdx, h]
  simp
theorem zipD_get {xs ys : List D} {i : Nat} {d e : D} (h : xs[i]? = some d) (h' : ys[i]? = some e) : (zipD xs ys)[i]? = some (.tup [d, e]) := by
  unfold zipD
  rw [List.getElem?_zipWith, h, h']
section
variable {K : PySem.W.Frag} {g : Gh}
theorem walk_flat {J : It} {xs : List D} (go : ∀ i H, i < xs.length → Same g.G H → J.go i H) (stop : ∀ H, Same g.G H → J.stop xs.length H) (yld : ∀ i x H H', i < xs.length → Same g.G H → J.yld i H x H' → H' = H ∧ ∃ d, xs[i]? = some d ∧ Den K g x d) : WalkD K g J xs :=
  ⟨go, stop, fun i x H H' g1 n hi ex ok y => by
    obtain ⟨rfl, d, e, dd⟩ := yld i x H H' hi (ex.G.trans ok.sub) y
    exact ⟨g1, d, e, Stp.refl _ _, ok, dd.mono ex⟩⟩
theorem walk_list {a : Addr} {vs : List V} {xs : List D} (h : g.G a = some (.lst vs)) (dd : Dens K g vs xs) : WalkD K g (Itl K a) xs :=
  walk_flat (fun i H hi sm => ⟨vs, vs[i]'(by rw [dd.length]; exact hi), SqL.of (sm _ _ h), List.getElem?_eq_getElem _⟩) (fun H sm => ⟨vs, SqL.of (sm _ _ h), by rw [dd.length]; exact Nat.le_refl _⟩) fun i x H H' hi sm y => ⟨y.1, dd.getV (y.2 vs (SqL.of (sm _ _ h)))⟩
theorem walk_tup {a : Addr} {vs : List V} {xs : List D} (h : Rd g.G a (.tup vs)) (dd : Dens K g vs xs) : WalkD K g (Itt K a) xs :=
  walk_flat (fun i H hi sm => ⟨vs, vs[i]'(by rw [dd.length]; exact hi), Or.inl (h.same sm), List.getElem?_eq_getElem _⟩) (fun H sm => ⟨vs, Or.inl (h.same sm), by rw [dd.length]; exact Nat.le_refl _⟩) fun i x H H' hi sm y => ⟨y.1, dd.getV (y.2 vs (Or.inl (h.same sm)))⟩
theorem sgn_length (l : List Nat) : (sgn l).length = l.length := by simp [sgn]
theorem walk_str (l : List Nat) : WalkD K g (Its ⟨l.toArray⟩) (sgn l) :=
  walk_flat (fun i H hi sm => by
    show i < l.toArray.size
    rw [List.size_toArray, ← sgn_length l]
    exact hi) (fun H sm => by
    show l.toArray.size ≤ _
    rw [List.size_toArray, sgn_length]
    exact Nat.le_refl _) fun i x H H' hi sm y => by
    obtain ⟨e, c, e1, rfl⟩ := y
    have e2 : l[i]? = some c := by simpa using e1
    refine ⟨e, .str [c], ?_, .str [c]⟩
    unfold sgn
    rw [List.getElem?_map, e2]
    rfl
theorem rngD_length (lo : Int) (n : Nat) : (rngD lo n).length = n := by simp [rngD]
theorem walk_rng (lo : Int) (n : Nat) : WalkD K g (Itr lo n) (rngD lo n) :=
  walk_flat (fun i H hi sm => by
    rw [rngD_length] at hi
    exact hi) (fun H sm => by
    show n ≤ _
    rw [rngD_length]
    exact Nat.le_refl _) fun i x H H' hi sm y => by
    obtain ⟨e, rfl⟩ := y
    rw [rngD_length] at hi
    refine ⟨e, .int (lo + i), ?_, .int _⟩
    unfold rngD
    rw [List.getElem?_map, List.getElem?_range hi]
    rfl
theorem walk_tupN {J : It} {xs : List D} (go : ∀ i H, i < xs.length → Same g.G H → J.go i H) (stop : ∀ H, Same g.G H → J.stop xs.length H)
    (yld : ∀ i x H H', i < xs.length → Same g.G H → J.yld i H x H' → ∃ T vs ds, x = .ref T ∧ H T = none ∧ H' = upd H T (.tup vs) ∧ Dens K g vs ds ∧ xs[i]? = some (.tup ds)) : WalkD K g J xs :=
  ⟨go, stop, fun i x H H' g1 n hi ex ok y => by
    obtain ⟨T, vs, ds, rfl, hT, rfl, dd, e⟩ := yld i x H H' hi (ex.G.trans ok.sub) y
    exact ⟨g1.add T (.tup vs), _, e, Stp.add ok hT, ok.add hT, .tup (.inl Gh.at) (dd.mono (ex.trans (Stp.add ok hT).ext))⟩⟩
theorem walk_enum {k : Sk} {vs : List V} {xs : List D} (h : ∀ H, Same g.G H → k.at H vs) (dd : Dens K g vs xs) : WalkD K g (ItE k vs) (enumD xs) := by
  have hl := dd.length
  refine walk_tupN (fun i H hi sm => ⟨h H sm, by rw [enumD_length] at hi; omega⟩) (fun H sm => ⟨h H sm, by rw [enumD_length]; omega⟩) fun i x H H' hi sm y => ?_
  obtain ⟨T, u, rfl, hT, rfl, e⟩ := y
  obtain ⟨d, e1, dv⟩ := dd.getV e
  exact ⟨T, _, _, rfl, hT, rfl, .cons (.int _) (.cons dv .nil), enumD_get e1⟩
theorem walk_zip {k l : Sk} {vs ws : List V} {xs ys : List D} (h : ∀ H, Same g.G H → k.at H vs) (dd : Dens K g vs xs) (h' : ∀ H, Same g.G H → l.at H ws) (dd' : Dens K g ws ys) : WalkD K g (ItZ k l vs ws) (zipD xs ys) := by
  have hl := dd.length
  have hl' := dd'.length
  refine walk_tupN (fun i H hi sm => ⟨⟨h H sm, h' H sm⟩, by rw [zipD_length] at hi; rw [hl, hl']; exact hi⟩) (fun H sm => ⟨⟨h H sm, h' H sm⟩, by rw [zipD_length, hl, hl']⟩) fun i x H H' hi sm y => ?_
  obtain ⟨T, u, v, rfl, hT, rfl, e, e'⟩ := y
  obtain ⟨d, e1, dv⟩ := dd.getV e
  obtain ⟨d', e1', dv'⟩ := dd'.getV e'
  exact ⟨T, _, _, rfl, hT, rfl, .cons dv (.cons dv' .nil), zipD_get e1 e1'⟩
end
section
variable {X : Cx} {pos p tpos : Pos} {tg e a b c : Expr} {elts : List Expr} {kk : Nat} {d da db dc : DE}
theorem pi_w {wi wi' : TI} (h : PI X tg e wi) (w : ∀ σ H R, wi' σ H R → wi σ H R) : PI X tg e wi' := ⟨fun pins s σ H R I q => h.run pins s σ H R I (w σ H R q)⟩
theorem di_val (he : PE X e (liftE X.K d)) : PI X tg e (liftI X.K (iVal d)) :=
  pi_w (pi_any he) fun σ H R ⟨O, g, n, ε, P, r, q, k⟩ => ⟨O, g, n, ε, _, r, q, fun v g1 H1 n1 x q1 s1 o1 e1 => by
    obtain ⟨xs, e2, q2⟩ := q1
    cases e1 with
    | lst h1 h2 =>
      cases e2
      exact .inl ⟨_, rfl, ⟨_, SqL.of (o1.sub _ _ h1)⟩, k _ g1 H1 n1 _ q2 s1 o1 (walk_list h1 h2)⟩
    | tup h1 h2 =>
      cases e2
      exact .inr (.inl ⟨_, rfl, ⟨_, Or.inl (h1.same o1.sub)⟩, k _ g1 H1 n1 _ q2 s1 o1 (walk_tup h1 h2)⟩)
    | str l =>
      cases e2
      exact .inr (.inr ⟨_, rfl, k _ g1 H1 n1 _ q2 s1 o1 (walk_str l)⟩)
    | _ => cases e2⟩
theorem di_rg1 (hg : Gl X "range") (hm : X.mg "range" = none) (ha : PE X a (liftE X.K da)) (hs : starEach [a] X.env = [(false, eval a X.env)] := by rfl) : PI X tg (.Call (.Name "range" p) [a] [] pos) (liftI X.K (iRg1 da)) :=
  pi_w (pi_range1 hg hm (pa_cons ha pa_nil hs) hs) fun σ H R ⟨O, g, n, ε, P, r, q, k⟩ => ⟨O, g, n, ε, _, r, q, fun v g1 H1 n1 x q1 s1 o1 e1 => by
    cases e1 with
    | int j => exact ⟨j, rfl, q1.1, q1.2.1, k _ g1 H1 n1 _ q1.2.2 s1 o1 (walk_rng 0 _)⟩
    | _ => exact q1.elim⟩
theorem di_enum (hg : Gl X "enumerate") (hm : X.mg "enumerate" = none) (ha : PE X a (liftE X.K da)) (hs : starEach [a] X.env = [(false, eval a X.env)] := by rfl) : PI X (.Tuple elts kk tpos) (.Call (.Name "enumerate" p) [a] [] pos) (liftI X.K (iEnm da)) :=
  pi_w (pi_enumS hg hm (pa_cons ha pa_nil hs) hs) fun σ H R ⟨O, g, n, ε, P, r, q, k⟩ => ⟨O, g, n, ε, _, r, q, fun v g1 H1 n1 x q1 s1 o1 e1 => by
    obtain ⟨xs, e2, q2⟩ := q1
    obtain ⟨sk, vs, rfl, hat, dd⟩ := den_src e1 e2
    exact ⟨sk, vs, rfl, hat _ o1.sub, k _ g1 H1 n1 _ q2 s1 o1 (walk_enum hat dd)⟩⟩
theorem di_zip (hg : Gl X "zip") (hm : X.mg "zip" = none) (ha : PE X a (liftE X.K da)) (hb : PE X b (liftE X.K db)) (hs : starEach [a, b] X.env = (false, eval a X.env) :: starEach [b] X.env := by rfl) (hs2 : starEach [b] X.env = (false, eval b X.env) :: starEach [] X.env := by rfl)
    (hpl : (backTo pos (starEach [b] X.env)).any (·.1) = false := by rfl) : PI X (.Tuple elts kk tpos) (.Call (.Name "zip" p) [a, b] [] pos) (liftI X.K (iZp da db)) :=
  pi_w (pi_zipS hg hm (pa_cons ha (pa_cons hb pa_nil hs2) hs) hs hpl) fun σ H R ⟨O, g, n, ε, P, r, q, k⟩ => two_ok r q fun x y g' H' n' dx dy q2 s o e1 e2 => by
    obtain ⟨xs, ys, z1, z2, q3⟩ := q2
    obtain ⟨k1, vs, rfl, a1, d1⟩ := den_src e1 z1
    obtain ⟨k2, ws, rfl, a2, d2⟩ := den_src e2 z2
    exact ⟨k1, k2, vs, ws, rfl, a1 _ o.sub, a2 _ o.sub, k _ g' H' n' _ q3 s o (walk_zip a1 d1 a2 d2)⟩
theorem chain_ok {K : PySem.W.Frag} {r r' : R2} {go go' : G2} (hs : SOp K r go) (hs' : SOp K r' go') : ∀ σ H Q, liftE K (dChain go go' da db dc) σ H Q → tChain r r' (liftE K da) (liftE K db) (liftE K dc) σ H Q := fun σ H Q ⟨O, g, n, ε, P, rr, q, k⟩ =>
  ⟨O, g, n, ε, _, rr, q, fun v1 g1 H1 n1 x q1 s1 o1 e1 => ⟨O, g1, n1, ε, _, rr.step s1 o1, q1, fun v2 g2 H2 n2 y q2 s2 o2 e2 => hs.ok o2 (e1.mono s2.ext) e2 q2 fun v g3 H3 z q3 s3 o3 e3 => by
    cases e3 with
    | bl b =>
      refine ⟨b, rfl, ?_⟩
      have st := (s1.trans s2).trans s3
      cases b with
      | true =>
        rw [if_pos rfl]
        exact ⟨O, g3, n2, ε, _, rr.step st o3, q3.1 rfl, fun v4 g4 H4 n4 w q4 s4 o4 e4 => hs'.ok o4 (e2.mono (s3.trans s4).ext) e4 q4 (Fin.of k (st.trans s4))⟩
      | false =>
        rw [if_neg (by decide)]
        exact k _ g3 H3 n2 _ (q3.2 rfl) st o3 (.bl false)
    | _ => exact q3.elim⟩⟩
theorem dt_chain {op op' : CmpOp} {r r' : R2} {go go' : G2} (ho : OpR X (compareOp op) r) (ho' : OpR X (compareOp op') r') (hs : SOp X.K r go) (hs' : SOp X.K r' go') (ha : PE X a (liftE X.K da)) (hb : PE X b (liftE X.K db)) (hc : PE X c (liftE X.K dc))
    (hm : lastMarks [op, op'] [b, c] = false := by with_unfolding_all rfl) : PT X (.Compare a [op, op'] [b, c] pos) (liftT X.K (dTB (dChain go go' da db dc))) :=
  pt_w (pt_chain ho ho' ha hb hc hm) fun σ H Q ⟨O, g, n, ε, P, r, q, k⟩ => chain_ok hs hs' _ _ _ ⟨O, g, n, ε, _, r, q, fun v g1 H1 n1 x q1 s1 o1 e1 => by
    cases e1 with
    | bl b => exact ⟨b, rfl, k b g1 H1 n1 q1 s1 o1⟩
    | _ => exact q1.elim⟩
def dNeg (d : DE) : DE := fun n ε P => d n ε fun n1 x => match x with
  | .int i => P n1 (.int (-i))
  | _ => False
theorem de_neg (ha : PE X a (liftE X.K da)) : PE X (.UnaryOp .USub a pos) (liftE X.K (dNeg da)) :=
  de_of (pe_un un_neg ha) fun O g H n σ ε P Q r q k => ⟨O, g, n, ε, _, r, q, fun v g1 H1 n1 x q1 s1 o1 e1 => by
    cases e1 with
    | int i => exact ⟨i, rfl, k _ g1 H1 n1 _ q1 s1 o1 (.int _)⟩
    | _ => exact q1.elim⟩
def dStar (d : DE) (t : DA) : DA := fun n ε P => d n ε fun n1 x => match x with
  | .lst xs => t n1 ε fun n2 ys => P n2 (xs ++ ys)
  | .tup xs => t n1 ε fun n2 ys => P n2 (xs ++ ys)
  | _ => False
theorem da_star {es : List Expr} {t : DA} (he : PE X e (liftE X.K d)) (hr : PA X es (liftA X.K t)) (hs : starEach (.Starred e p :: es) X.env = (true, eval e X.env) :: starEach es X.env := by rfl) : PA X (.Starred e p :: es) (liftA X.K (dStar d t)) :=
  pa_w (StX.pa_star he hr hs) fun σ H Q ⟨O, g, n, ε, P, r, q, k⟩ => ⟨O, g, n, ε, _, r, q, fun v g1 H1 n1 x q1 s1 o1 e1 => by
    cases e1 with
    | lst h1 h2 => exact ⟨_, _, rfl, .inr (SqL.of (o1.sub _ _ h1)), O, g1, n1, ε, _, r.step s1 o1, q1, fun vs g2 H2 n2 ds q2 s2 o2 e2 => k _ g2 H2 n2 _ q2 (s1.trans s2) o2 ((h2.mono s2.ext).append e2)⟩
    | tup h1 h2 => exact ⟨_, _, rfl, .inl (Or.inl (h1.same o1.sub)), O, g1, n1, ε, _, r.step s1 o1, q1, fun vs g2 H2 n2 ds q2 s2 o2 e2 => k _ g2 H2 n2 _ q2 (s1.trans s2) o2 ((h2.mono s2.ext).append e2)⟩
    | _ => exact q1.elim⟩
end
end Pd
namespace Pd
open PySem L2
structure HasF (P : Program) (w : World) (K : PySem.W.Frag) (mg : Str → Option Value) (base : Heap) (k : Nat) (f : Addr) (ps : List Str) (dd : List D) (sp : FD) : Prop where
  ex : ∃ fd dvs ds, FnOk P w K mg base CX0 k f fd ps (liftF K sp) ∧ PySem.W.keepIn K (.ref f) = true ∧ Binds K fd ps ds ∧ Vals dvs ds ∧ ∀ g, Dens K g dvs dd
structure HasG (P : Program) (w : World) (K : PySem.W.Frag) (mg : Str → Option Value) (base : Heap) (k : Nat) (f : Addr) (ps : List Str) (dd : List D) (sp : FD) : Prop where
  ex : ∃ fd dvs ds, FnG P w K mg base k f fd ps (liftF K sp) ∧ PySem.W.keepIn K (.ref f) = true ∧ Binds K fd ps ds ∧ Vals dvs ds ∧ ∀ g, Dens K g dvs dd
structure HasI (P : Program) (w : World) (K : PySem.W.Frag) (mg : Str → Option Value) (base : Heap) (k : Nat) (C : Addr) (ps : List Str) (dd : List D) (fi : FI) : Prop where
  ex : ∃ f fd dvs ds, FnOk P w K mg base CX0 k f fd ps (liftInit K C fi) ∧ Mk K C f ∧ Binds K fd ps ds ∧ Vals dvs ds ∧ ∀ g, Dens K g dvs dd
structure HasM (P : Program) (w : World) (K : PySem.W.Frag) (mg : Str → Option Value) (base : Heap) (k : Nat) (C : Addr) (m : Str) (ps : List Str) (dd : List D) (sp : FD) : Prop where
  ex : ∃ f fd dvs ds, FnOk P w K mg base CX0 k f fd ps (liftF K sp) ∧ Cls K C ∧ Meth K C m f ∧ Binds K fd ps ds ∧ Vals dvs ds ∧ ∀ g, Dens K g dvs dd
structure HasP (P : Program) (w : World) (K : PySem.W.Frag) (mg : Str → Option Value) (base : Heap) (k : Nat) (C : Addr) (m : Str) (ps : List Str) (sp : FD) : Prop where
  ex : ∃ p f fd, FnOk P w K mg base CX0 k f fd ps (liftF K sp) ∧ Cls K C ∧ PropOf K C m p f ∧ Binds K fd ps []
section
variable {X : Cx} {k : Nat} {f C : Addr} {ps : List Str} {sp : FD} {dd : List D} {x m : Str} {p pos apos : Pos} {e o : Expr} {es : List Expr} {da : DE} {t : DA} {fi : FI}
theorem de_callF (G : HasF X.prog X.w X.K X.mg X.base k f ps dd sp) (hr : Room k X.A) (hg : Gl X x) (hm : X.mg x = some (.ref f))
    (ha : PA X (e :: es) (liftA X.K t)) (hdb : (x == ("__debug__" : Str)) = false := by decide) (he : starEach (e :: es) X.env = (false, eval e X.env) :: starEach es X.env := by rfl) (hpl : (backTo pos (starEach es X.env)).any (·.1) = false := by rfl) :
    PE X (.Call (.Name x p) (e :: es) [] pos) (liftE X.K (dCall sp dd t)) := by
  obtain ⟨fd, dvs, ds, F, hk, hb, hv, hd⟩ := G.ex
  exact de_call F hr hg hm hk hb hv hd ha hdb he hpl
theorem de_callHG (G : HasG X.prog X.w X.K X.mg X.base k f ps dd sp) (hr : Room k X.A) (hgd : X.A.guards = some []) (hg : Gl X x) (hm : X.mg x = some (.ref f))
    (ha : PA X (e :: es) (liftA X.K t)) (hdb : (x == ("__debug__" : Str)) = false := by decide) (he : starEach (e :: es) X.env = (false, eval e X.env) :: starEach es X.env := by rfl) (hpl : (backTo pos (starEach es X.env)).any (·.1) = false := by rfl) :
    PE X (.Call (.Name x p) (e :: es) [] pos) (liftE X.K (dCall sp dd t)) := by
  obtain ⟨fd, dvs, ds, F, hk, hb, hv, hd⟩ := G.ex
  exact de_callG F hr hgd hg hm hk hb hv hd ha hdb he hpl
theorem de_makeF (G : HasI X.prog X.w X.K X.mg X.base k C ps dd fi) (hr : Room (k + 1) X.A) (hg : Gl X x) (hm : X.mg x = some (.ref C))
    (ha : PA X (e :: es) (liftA X.K t)) (hdb : (x == ("__debug__" : Str)) = false := by decide) (he : starEach (e :: es) X.env = (false, eval e X.env) :: starEach es X.env := by rfl) (hpl : (backTo pos (starEach es X.env)).any (·.1) = false := by rfl) :
    PE X (.Call (.Name x p) (e :: es) [] pos) (liftE X.K (dMake C fi dd t)) := by
  obtain ⟨f, fd, dvs, ds, F, M, hb, hv, hd⟩ := G.ex
  exact de_make M F hr hg hm hb hv hd ha hdb he hpl
theorem de_propF (G : HasP X.prog X.w X.K X.mg X.base k C m ps sp) (hr : Room (k + 1) X.A) (ha : PE X o (liftE X.K da)) (hab : attributeBase o m X.env (eval o X.env) = eval o X.env := by rfl) : PE X (.Attribute o m pos) (liftE X.K (dProp C sp da)) := by
  obtain ⟨p, f, fd, F, c, hp, hb⟩ := G.ex
  exact de_prop c hp F hr hb ha hab
theorem de_methF {pl : Sem Bool} (G : HasM X.prog X.w X.K X.mg X.base k C m ps dd sp) (hr : Room k X.A) (ho : PE X o (liftE X.K da)) (ha : PA X (e :: es) (liftA X.K t))
    (hst : starEach (e :: es) X.env = (false, eval e X.env) :: starEach es X.env := by rfl) (hpl : (backTo pos (starEach es X.env)).any (·.1) = false := by rfl)
    (ht : eval (.Call (.Attribute o m apos) (e :: es) [] pos) X.env = (do
      let ov ← eval o X.env
      standAt apos.atName
      let (f, first) ← holding [ov] (getMethod ov m pl)
      callWith pos f first (backTo pos (starEach (e :: es) X.env)) (backToKw pos (keywordEach [] X.env))) := by rfl) :
    PE X (.Call (.Attribute o m apos) (e :: es) [] pos) (liftE X.K (dMeth C m sp dd da t)) := by
  obtain ⟨f, fd, dvs, ds, F, c, M, hb, hv, hd⟩ := G.ex
  exact de_meth (pl := pl) c M F hr hb hv hd ho ha hst hpl ht
theorem ru {k : Nat} {A : Around} (r : Room k A) : A.units + 65 < cLine := by
  have := r.un
  omega
end
theorem bt_abs : bootBuiltins "abs" = some (.builtin "abs") := by decide +kernel
theorem bt_len : bootBuiltins "len" = some (.builtin "len") := by decide +kernel
theorem bt_max : bootBuiltins "max" = some (.builtin "max") := by decide +kernel
theorem bt_min : bootBuiltins "min" = some (.builtin "min") := by decide +kernel
theorem bt_any : bootBuiltins "any" = some (.builtin "any") := by decide +kernel
theorem bt_all : bootBuiltins "all" = some (.builtin "all") := by decide +kernel
theorem bt_repr : bootBuiltins "repr" = some (.builtin "repr") := by decide +kernel
theorem bt_int : bootBuiltins "int" = some (.type "int") := by decide +kernel
theorem bt_str : bootBuiltins "str" = some (.type "str") := by decide +kernel
theorem bt_bool : bootBuiltins "bool" = some (.type "bool") := by decide +kernel
theorem bt_list : bootBuiltins "list" = some (.type "list") := by decide +kernel
theorem bt_tuple : bootBuiltins "tuple" = some (.type "tuple") := by decide +kernel
def LamD (K : PySem.W.Frag) (qual : Str) (fd : FuncData) : Prop := ∃ (c P : Addr) (o : Obj), fd.code = .ref c ∧ K.lookup c = some o ∧ tabOf o = some (P, qual ++ ".<locals>." ++ "<lambda>")
theorem lamD_of {K : PySem.W.Frag} {qual : Str} {fd : FuncData} (h1 : PySem.W.codeIn K fd.code qual = true) (h2 : (match fd.code with
    | .ref c => (match K.lookup c with
      | some o => (tabOf o).isSome
      | none => false)
    | _ => false) = true) : LamD K qual fd := by
  unfold PySem.W.codeIn at h1
  split at h1
  · rename_i c hc
    rw [hc] at h2
    dsimp only at h2
    split at h1
    · rename_i oc od vs osl hl
      rw [hl] at h2
      dsimp only at h2
      split at h1
      · rename_i v0 n tn rest hv
        have e1 : vs[1]? = some (.str n tn) := by
          rw [← Array.getElem?_toList, hv]
          rfl
        have en : n = qual := beq_iff_eq.mp h1
        subst en
        cases z : tabOf (⟨oc, od, .fields vs, osl⟩ : Obj) with
        | none =>
          rw [z] at h2
          cases h2
        | some pq =>
          obtain ⟨P, q⟩ := pq
          refine ⟨c, P, _, hc, hl, ?_⟩
          have z' := z
          unfold tabOf at z'
          split at z'
          · rename_i vs' hcls hdat
            cases hdat
            split at z'
            · rename_i P' q' t' e11 e12
              rw [e1] at e12
              cases e12
              cases z'
              exact z
            · cases z'
          · cases z'
      · cases h1
    · cases h1
  · cases h1
theorem PDef.fun_ {K : PySem.W.Frag} {d : PDef} (e : psg K (d.loc K) = d.said) (c : d.good K = true) (hc : d.clo = []) : ∃ fd, FunD K d.name d.qual d.params d.body d.scope (d.dvs K) [] (d.loc K) fd ∧ LamD K d.qual fd := by
  unfold PDef.good at c
  rw [Bool.and_eq_true] at c
  obtain ⟨kp, c⟩ := c
  unfold psg PDef.said at e
  rw [hc] at e
  generalize d.loc K = a at *
  cases q : K.lookup a with
  | none => simp [q] at c
  | some o =>
    obtain ⟨oc, od, dt, osl⟩ := o
    rw [q] at c e
    cases dt with
    | func fd =>
      have c' := c
      dsimp only at c' e
      rw [Bool.and_eq_true, Bool.and_eq_true, Bool.and_eq_true] at c'
      obtain ⟨c1, c2, c3, c4⟩ := c'
      have cl := lamD_of c1 c4
      simp only [Option.some.injEq, Prod.mk.injEq, List.map_eq_nil_iff] at e
      obtain ⟨h1, h2, h3, h4, h5, h6, h7, h8⟩ := e
      cases fd
      dsimp only at h1 h2 h3 h4 h5 h6 h7 h8 c1 c2 c3
      subst h1 h2 h3 h4 h5 h6 h7 h8
      exact ⟨_, ⟨⟨oc, od, _, _, _, _, _, _, _, osl, rfl, q, c1, He.dflB_ok c2, He.kwdB_ok c3⟩, kp⟩, cl⟩
    | _ => simp at c
theorem prop_ok {K : PySem.W.Frag} {C f : Str} (h : (Fx.prop C f).ok K = true) : PropOf K (He.ga K C) f (propAt K C f) (getterAt C f K) := by
  simp only [Fx.ok, Bool.and_eq_true, decide_eq_true_eq] at h
  obtain ⟨h1, h2, h3, h4⟩ := h
  refine ⟨h1, h2, h3, ?_⟩
  unfold getterAt
  split at h4
  · rename_i a r e
    rw [e]
    exact ⟨r, rfl⟩
  · cases h4
theorem ins_ok {K : PySem.W.Frag} {C : Str} (c : Cls K (He.ga K C)) (h : (Fx.ins C).ok K = true) : InsOk K (He.ga K C) := by
  simp only [Fx.ok, Bool.and_eq_true, decide_eq_true_eq] at h
  obtain ⟨h1, h2, h3, h4⟩ := h
  exact ⟨c, h1, h2, h3, h4⟩
theorem isi_ok {K : PySem.W.Frag} {t : Value} {c : Str ⊕ String} {b : Bool} (h : (Fx.isi t c b).ok K = true) : PySem.W.kitOne K t (clsOf K c) = some b := of_decide_eq_true h
theorem isiC_ok {K : PySem.W.Frag} {C : Str} {c : Str ⊕ String} {b : Bool} (h : (Fx.isiC C c b).ok K = true) : PySem.W.kitOne K (.ref (He.ga K C)) (clsOf K c) = some b := of_decide_eq_true h
theorem SaysP.fx {fx : List Fx} {fn : List PDef} {K : PySem.W.Frag} (c : SaysP fx fn K) {f : Fx} (h : f ∈ fx) : f.ok K = true := by
  have c1 : ((fx.all fun f => f.ok K) && fn.all fun d => d.good K) = true := congrArg (fun z : AlP => z.1) c
  exact List.all_eq_true.mp (Bool.and_eq_true_iff.mp c1).1 f h
theorem SaysP.fnL {fx : List Fx} {fn : List PDef} {K : PySem.W.Frag} (c : SaysP fx fn K) {d : PDef} (i : Nat) (h : fn[i]? = some d := by rfl) (hc : d.clo = [] := by rfl) : ∃ fd, FunD K d.name d.qual d.params d.body d.scope (d.dvs K) [] (d.loc K) fd ∧ LamD K d.qual fd := by
  have c1 : ((fx.all fun f => f.ok K) && fn.all fun d => d.good K) = true := congrArg (fun z : AlP => z.1) c
  have c2 : (fn.map fun d => psg K (d.loc K)) = fn.map PDef.said := congrArg (fun z : AlP => z.2) c
  have c3 : (fn.map fun d => psg K (d.loc K))[i]? = (fn.map PDef.said)[i]? := by rw [c2]
  rw [List.getElem?_map, List.getElem?_map, h] at c3
  exact PDef.fun_ (Option.some.inj c3) (List.all_eq_true.mp (Bool.and_eq_true_iff.mp c1).2 d (List.mem_of_getElem? h)) hc
theorem SaysP.fn {fx : List Fx} {fn : List PDef} {K : PySem.W.Frag} (c : SaysP fx fn K) {d : PDef} (i : Nat) (h : fn[i]? = some d := by rfl) (hc : d.clo = [] := by rfl) : ∃ fd, FunD K d.name d.qual d.params d.body d.scope (d.dvs K) [] (d.loc K) fd :=
  let ⟨fd, F, _⟩ := c.fnL i h hc
  ⟨fd, F⟩
theorem SaysP.psg {fx : List Fx} {fn : List PDef} {K : PySem.W.Frag} (c : SaysP fx fn K) {d : PDef} (i : Nat) (h : fn[i]? = some d := by rfl) : Pd.psg K (d.loc K) = d.said := by
  have c2 : (fn.map fun d => Pd.psg K (d.loc K)) = fn.map PDef.said := congrArg (fun z : AlP => z.2) c
  have c3 : (fn.map fun d => Pd.psg K (d.loc K))[i]? = (fn.map PDef.said)[i]? := by rw [c2]
  rw [List.getElem?_map, List.getElem?_map, h] at c3
  exact Option.some.inj c3
end Pd
namespace Pd
open PySem PyProof.Rows L2
theorem script_track {P : Program} {w : World} {K : PySem.W.Frag} {h : Heap} {a : Addr} {vs : List Value} {ns : List Int} (KX : K.In h) (ha : h.get? a = some { cls := .type "list", data := .seq vs.toArray }) (hi : IntsAre vs ns) (hl : ns.length ≤ sizeLine) :
    ∃ H : Hp, L2.Only H ∧ SqL K H a (ns.map V.int) ∧ HOk P w H h ∧ (∀ b, H b ≠ none → b = a ∧ K.lookup b = none) := by
  have rv := vals_ints hi
  by_cases hk : K.lookup a = none
  · refine ⟨fun b => if b = a then some (.frz { cls := .type "list", data := .seq vs.toArray } (.lst (ns.map V.int))) else none, fun b => ?_, .inl (.inr ⟨{ cls := .type "list", data := .seq vs.toArray }, if_pos rfl⟩), fun b u z => ?_, fun b z => ?_⟩
    · by_cases e : b = a
      · exact .inr ⟨_, _, if_pos e⟩
      · exact .inl (if_neg e)
    · dsimp only at z
      split at z
      · rename_i e
        cases z
        rw [e]
        exact ⟨ha, by rw [List.length_map]; exact hl, vs, _, rv, ha⟩
      · cases z
    · dsimp only at z
      split at z
      · rename_i e
        rw [e]
        exact ⟨rfl, hk⟩
      · exact absurd rfl z
  · obtain ⟨o, ho⟩ := Option.ne_none_iff_exists'.mp hk
    have e := KX a o ho
    rw [ha] at e
    cases e
    exact ⟨fun _ => none, fun _ => .inl rfl, .inr ⟨_, vs.toArray, _, ho, rfl, rfl, rfl, by rw [List.size_toArray, hi.length]; exact hl, by simpa using rv⟩, fun b u z => (by cases (show (none : Option HO) = some u from z)), fun b z => absurd rfl z⟩
end Pd
namespace Pd
open PySem L2
variable {W : WX}
theorem ne_of_pot {K : PySem.W.Frag} {g : Gh} {H : Hp} {n : Nat} (ok : Ok K g H n) {p a : Addr} (h : g.pot p) {o : HO} (e : g.G a = some o) : a ≠ p := fun q => by
  rw [q, (ok.pot p h).1] at e
  cases e
theorem Ok.turn {K : PySem.W.Frag} {g : Gh} {H : Hp} {n m : Nat} (ok : Ok K g H n) (hm : m ≤ n) {p : Addr} (h : g.pot p) (hn : ∀ q, (p, q) ∉ tabsK K) {o : HO} (ho : PotH m (some o)) : Ok K g (upd H p o) m := by
  refine ⟨fun a u e => ?_, fun a z => ⟨(ok.pot a z).1, ?_⟩, ok.t.upd (fun u z => ?_) fun ps z => ?_⟩
  · rw [upd_ne (ne_of_pot ok h e)]
    exact ok.sub a u e
  · by_cases q : a = p
    · rw [q, upd_same]
      exact .inr ho
    · rw [upd_ne q]
      refine (ok.pot a z).2.imp id fun ⟨x, y, z, h1, h2, h3, h4, h5, h6, h7⟩ => ⟨x, y, z, h1, h2, h3, h4, h5, h6, by omega⟩
  · obtain ⟨x, y, w, e, _⟩ := ok.potH h hn
    rw [e] at z
    cases z
    exact .inl ⟨_, rfl⟩
  · obtain ⟨x, y, w, e, _⟩ := ho
    rw [z] at e
    cases e
theorem Stp.turn {g : Gh} {H : Hp} {p : Addr} {o : HO} (h : g.pot p) (hn : H p ≠ none) : Stp g H g (upd H p o) := by
  refine ⟨Ext.refl g, fun _ _ z => z, fun _ _ z => z, fun a u e z => ?_, fun a e => ?_⟩
  · rw [upd_ne fun q => z (by rw [q]; exact h)]
    exact e
  · by_cases q : a = p
    · rw [q, upd_same]
      exact Option.some_ne_none o
    · rw [upd_ne q]
      exact e
def takeF : FD := fun ds n P => ∃ u : Int, ds = [.pot, .int u] ∧ 0 < u ∧ u.natAbs < 2 ^ 200 ∧ ∃ m, n = m + 1 ∧ ∀ r : Int, 0 ≤ r → r < u → P m (.int r)
abbrev rInt1 : List V → Hp → VK → Prop := fun xs H Q => (∃ i, xs = [.int i] ∧ Q (.int i) H) ∨ ∃ k, xs = [.bl k] ∧ Q (.int (if k then 1 else 0)) H
abbrev tI (t : TE) : TE := tCB rInt1 (tCons t tNil)
abbrev ixP (K : PySem.W.Frag) (i : Int) : TE := tOp (rIx K) (tVar 0) (tC (.int i))
abbrev setP (i : Int) (t : TE) : TS := tAsg t (L2.gSub (tVar 0) (tC (.int i)) rSetL)
abbrev rGt0 : R2 := rI0 fun i j => .bl (decide (j < i))
abbrev rPls : R2 := rI0 fun i j => .int (i + j)
abbrev rTms : R2 := rI CMulW fun i j => .int (i * j)
abbrev rMd : R2 := rI (fun _ j => 0 < j) fun i j => .int (i % j)
abbrev rFd : R2 := rI CDivW fun i j => .int (i / j)
abbrev rPw : R2 := rI CPowW fun i j => .int (i ^ j.toNat)
def t_take (K : PySem.W.Frag) : TS :=
  tSeq (tIfS (tTest (tOp rGt0 (ixP K 0) (tC (.int 0))))
    (tSeq (tAsg (tOp rMd (tI (ixP K 0)) (tVar 1)) (gName 2)) (tSeq (setP 0 (tOp rFd (ixP K 0) (tVar 1))) (tRet (tVar 2)))) tNext)
  (tSeq (setP 2 (tOp rPls (ixP K 2) (tC (.int 1))))
  (tSeq (tAsg (tOp (rIx K) (tLst (tCons (tC (.int 2147483647)) (tCons (tC (.int 2147483629)) (tCons (tC (.int 2147483587)) (tCons (tC (.int 2147483579)) (tCons (tC (.int 2147483563)) tNil)))))) (tOp rMd (tI (ixP K 2)) (tC (.int 5)))) (gName 3))
  (tSeq (tAsg (tOp rMd (tI (tOp rPw (tI (tOp rPls (tOp rPls (ixP K 1) (tOp rTms (tOp rTms (tC (.int 98873)) (ixP K 2)) (ixP K 2))) (tC (.int 97)))) (tC (.int 3)))) (tVar 3)) (gName 4))
  (tSeq (tAsg (tOp rMd (tI (tOp rTms (tVar 4) (tOp rPls (tOp rMd (tI (tVar 4)) (tC (.int 10529))) (tOp rTms (tC (.int 193)) (ixP K 2))))) (tC (.int 2305843009213693907))) (gName 4))
  (tRet (tOp rMd (tI (tOp rFd (tVar 4) (tC (.int 173)))) (tVar 1)))))))
theorem bits_lt {a : Int} {n : Nat} (h : a.natAbs < 2 ^ n) (h0 : 0 < n) : a.natAbs.log2 < n := PySem.Flt.log2_lt_of h0 h
theorem mulW {a b : Int} (ha : a.natAbs < 2 ^ 400000) (hb : b.natAbs < 2 ^ 400000) : CMulW a b := wide_mul ha hb (by decide) (by decide) (by decide)
theorem pw {m n : Nat} {a : Nat} (h : a < 2 ^ m) (hmn : m ≤ n) : a < 2 ^ n := Nat.lt_of_lt_of_le h (Nat.pow_le_pow_right (by decide) hmn)
theorem take_ok {K : PySem.W.Frag} {vs : List V} {H : Hp} {Q : VK} {E : XK} {names : List Str} (hN : names.length = 5) (h : liftF K takeF vs H Q E) : t_take K { nx := fun _ H' => Q .non H', rt := Q } (L2.start names vs) H := by
  obtain ⟨g, n, ds, P, ok, dd, ⟨u, rfl, u0, u1, m, rfl, hp⟩, kk⟩ := h
  cases dd with
  | cons d1 d2 =>
    cases d2 with
    | cons d2 d3 =>
      cases d3
      cases d1 with
      | pot hpot hnt =>
        rename_i p
        cases d2
        have hG := (ok.pot p hpot).1
        obtain ⟨x, y, z, hH, x0, x1, y0, y1, z0, z1⟩ := ok.potH hpot hnt
        have hs : L2.start names [.ref p, .int u] = [some (.ref p), some (.int u), none, none, none] := by
          unfold L2.start
          rw [hN]
          rfl
        rw [hs]
        have hn : H p ≠ none := by rw [hH]; exact Option.some_ne_none _
        have ix : ∀ (H : Hp) (a b c : Int), H p = some (.lst [.int a, .int b, .int c]) → ∀ (j : Nat) (v : V), ([.int a, .int b, .int c] : List V)[j]? = some v → ∀ (Q : VK), Q v H → rIx K (.ref p) (.int (j : Int)) H Q := fun H a b c e j v ev Q q =>
          .inl ⟨p, _, (j : Int), v, rfl, rfl, SqL.of e, atI_nat ev, q⟩
        have st : ∀ (H : Hp) (a b c : Int), H p = some (.lst [.int a, .int b, .int c]) → ∀ (j : Nat) (v : V), j < 3 → ∀ (R : Hp → Prop), R (upd H p (.lst (([.int a, .int b, .int c] : List V).set j v))) → rSetL (.ref p) (.int (j : Int)) v H R := fun H a b c e j v hj R q =>
          ⟨p, _, (j : Int), j, rfl, rfl, e, by unfold ixN; rw [if_pos (Int.natCast_nonneg j), if_pos (by show (j : Int) < 3; omega)]; simp, q⟩
        have fin : ∀ (H' : Hp) (o : HO) (r : Int), H' = upd H p o → PotH m (some o) → 0 ≤ r → r < u → Q (.int r) H' := fun H' o r e ho r0 r1 => by
          rw [e]
          exact kk _ g _ m _ (hp r r0 r1) (Stp.turn hpot hn) (ok.turn (by omega) hpot hnt ho) (.int r)
        refine ⟨_, rfl, ix H x y z hH 0 _ rfl _ ?_⟩
        refine ⟨x, 0, rfl, rfl, _, rfl, ?_⟩
        by_cases hx : (0 : Int) < x
        · rw [decide_eq_true hx]
          refine iteT ?_
          refine ⟨_, rfl, ix H x y z hH 0 _ rfl _ ?_⟩
          refine .inl ⟨x, rfl, _, rfl, x, u, rfl, rfl, u0, ?_⟩
          refine ⟨_, rfl, ix H x y z hH 0 _ rfl _ ⟨_, rfl, x, u, rfl, rfl, ⟨u0, Nat.lt_of_lt_of_le (bits_lt u1 (by decide)) (by decide)⟩, ?_⟩⟩
          refine ⟨_, rfl, st H x y z hH 0 _ (by decide) _ ?_⟩
          refine ⟨_, rfl, fin _ _ (x % u) rfl ⟨x / u, y, z, rfl, Int.ediv_nonneg x0 (Int.le_of_lt u0), ?_, y0, y1, z0, by omega⟩ (Int.emod_nonneg _ (by omega)) (Int.emod_lt_of_pos _ u0)⟩
          have h1 : x / u ≤ x := Int.ediv_le_self u x0
          have h2 : 0 ≤ x / u := Int.ediv_nonneg x0 (Int.le_of_lt u0)
          exact Nat.lt_of_le_of_lt (by omega) x1
        · rw [decide_eq_false hx]
          refine iteF ?_
          have z2 : z + 1 ≤ 1000000000 := by omega
          refine ⟨_, rfl, ix H x y z hH 2 _ rfl _ ⟨z, 1, rfl, rfl, ?_⟩⟩
          refine ⟨_, rfl, st H x y z hH 2 _ (by decide) _ ?_⟩
          have hH1 : upd H p (.lst (([.int x, .int y, .int z] : List V).set 2 (.int (z + 1)))) p = some (.lst [.int x, .int y, .int (z + 1)]) := upd_same
          have s1 : Stp g H g (upd H p (.lst (([.int x, .int y, .int z] : List V).set 2 (.int (z + 1))))) := Stp.turn hpot hn
          have o1 : Ok K g (upd H p (.lst (([.int x, .int y, .int z] : List V).set 2 (.int (z + 1))))) m := ok.turn (by omega) hpot hnt ⟨x, y, z + 1, rfl, x0, x1, y0, y1, by omega, by omega⟩
          generalize upd H p (.lst (([.int x, .int y, .int z] : List V).set 2 (.int (z + 1)))) = H1 at hH1 s1 o1 ⊢
          refine ⟨by rw [sizeLine_eq]; decide, fun l hl => ?_⟩
          obtain ⟨a1, a2, _, _⟩ := new_own o1 hl (.lst [.int 2147483647, .int 2147483629, .int 2147483587, .int 2147483579, .int 2147483563])
          have hlp : p ≠ l := ne_of_none hH1 hl
          have hH2 : upd H1 l (.lst [.int 2147483647, .int 2147483629, .int 2147483587, .int 2147483579, .int 2147483563]) p = some (.lst [.int x, .int y, .int (z + 1)]) := by
            rw [upd_ne hlp]
            exact hH1
          have hl2 : upd H1 l (.lst [.int 2147483647, .int 2147483629, .int 2147483587, .int 2147483579, .int 2147483563]) l = some (.lst [.int 2147483647, .int 2147483629, .int 2147483587, .int 2147483579, .int 2147483563]) := upd_same
          have fin3 : ∀ r : Int, 0 ≤ r → r < u → Q (.int r) (upd H1 l (.lst [.int 2147483647, .int 2147483629, .int 2147483587, .int 2147483579, .int 2147483563])) := fun r r0 r1 => kk _ g _ m _ (hp r r0 r1) (s1.trans a1) a2 (.int r)
          generalize upd H1 l (.lst [.int 2147483647, .int 2147483629, .int 2147483587, .int 2147483579, .int 2147483563]) = H2 at hH2 hl2 fin3 ⊢
          refine ⟨_, rfl, ix H2 x y (z + 1) hH2 2 _ rfl _ (.inl ⟨_, rfl, _, _, rfl, rfl, (show (0 : Int) < 5 by decide), ?_⟩)⟩
          have q1 : 0 ≤ (z + 1) % 5 := Int.emod_nonneg _ (by decide)
          have q2 : (z + 1) % 5 < 5 := Int.emod_lt_of_pos _ (by decide)
          obtain ⟨j, ej⟩ : ∃ j : Nat, (z + 1) % 5 = j := ⟨((z + 1) % 5).toNat, by omega⟩
          have hj : j < 5 := by omega
          obtain ⟨pr, e1, e2, e3⟩ : ∃ pr : Int, ([.int 2147483647, .int 2147483629, .int 2147483587, .int 2147483579, .int 2147483563] : List V)[j]? = some (.int pr) ∧ 0 < pr ∧ pr ≤ 2147483647 := by
            match j, hj with
            | 0, _ => exact ⟨_, rfl, by decide, by decide⟩
            | 1, _ => exact ⟨_, rfl, by decide, by decide⟩
            | 2, _ => exact ⟨_, rfl, by decide, by decide⟩
            | 3, _ => exact ⟨_, rfl, by decide, by decide⟩
            | 4, _ => exact ⟨_, rfl, by decide, by decide⟩
          show rIx K (V.ref l) (V.int ((z + 1) % 5)) H2 _
          rw [ej]
          refine .inl ⟨l, _, _, _, rfl, rfl, SqL.of hl2, atI_nat e1, ?_⟩
          have zb : (z + 1).natAbs < 2 ^ 400000 := pw (m := 31) (by omega) (by decide)
          have zp : (z + 1) * (z + 1) ≤ 1000000000 * 1000000000 := Int.mul_le_mul (by omega) (by omega) (by omega) (by omega)
          have zq : 0 ≤ (z + 1) * (z + 1) := Int.mul_nonneg (by omega) (by omega)
          have ea : (98873 : Int) * (z + 1) * (z + 1) = 98873 * ((z + 1) * (z + 1)) := Int.mul_assoc _ _ _
          refine ⟨_, rfl, ix H2 x y (z + 1) hH2 1 _ rfl _ ?_⟩
          refine ⟨_, rfl, ix H2 x y (z + 1) hH2 2 _ rfl _ ⟨_, _, rfl, rfl, mulW (pw (m := 17) (by decide) (by decide)) zb, ?_⟩⟩
          refine ⟨_, rfl, ix H2 x y (z + 1) hH2 2 _ rfl _ ⟨_, _, rfl, rfl, mulW (pw (m := 50) (by omega) (by decide)) zb, ?_⟩⟩
          refine ⟨_, _, rfl, rfl, _, _, rfl, rfl, .inl ⟨_, rfl, ?_⟩⟩
          have bt : (y + 98873 * (z + 1) * (z + 1) + 97).natAbs < 2 ^ 90 := by
            rw [ea]
            omega
          refine ⟨_, _, rfl, rfl, ⟨by decide, by decide, ?_⟩, .inl ⟨_, rfl, ?_⟩⟩
          · have hb : Builtin.Int.intBits (y + 98873 * (z + 1) * (z + 1) + 97) ≤ 90 := PyProof.Rows.intBits_le bt
            omega
          refine ⟨_, rfl, _, _, rfl, rfl, e2, ?_⟩
          generalize (y + 98873 * (z + 1) * (z + 1) + 97) ^ (3 : Int).toNat = w
          have m0 : 0 ≤ w % pr := Int.emod_nonneg _ (by omega)
          have m1 : w % pr < pr := Int.emod_lt_of_pos _ e2
          have c0 : 0 ≤ w % pr % 10529 := Int.emod_nonneg _ (by decide)
          have c1 : w % pr % 10529 < 10529 := Int.emod_lt_of_pos _ (by decide)
          refine ⟨_, rfl, _, rfl, .inl ⟨_, rfl, _, _, rfl, rfl, (show (0 : Int) < 10529 by decide), ?_⟩⟩
          refine ⟨_, rfl, ix H2 x y (z + 1) hH2 2 _ rfl _ ⟨_, _, rfl, rfl, mulW (pw (m := 8) (by decide) (by decide)) zb, ?_⟩⟩
          refine ⟨_, _, rfl, rfl, _, _, rfl, rfl, mulW (pw (m := 31) (by omega) (by decide)) (pw (m := 60) (by omega) (by decide)), .inl ⟨_, rfl, _, _, rfl, rfl, (show (0 : Int) < 2305843009213693907 by decide), ?_⟩⟩
          refine ⟨_, rfl, _, _, rfl, rfl, (show CDivW _ 173 from ⟨by decide, by decide⟩), .inl ⟨_, rfl, _, rfl, _, _, rfl, rfl, u0, ?_⟩⟩
          exact fin3 _ (Int.emod_nonneg _ (by omega)) (Int.emod_lt_of_pos _ u0)
def dRetPot (d : DO) : DS := fun N n ε => d n ε fun n1 ds => ∃ x y z : Int, ds = [.int x, .int y, .int z] ∧ 0 ≤ x ∧ x.natAbs < 2 ^ 1100 ∧ 0 ≤ y ∧ y < 2 ^ 61 ∧ 0 ≤ z ∧ z + n1 ≤ 1000000000 ∧ N.rt n1 .pot
theorem ds_retPot {X : Cx} {e : Expr} {pos : Pos} {o : DO} (he : PE X e (liftO X.K o)) : PS X (.Return (some e) pos) (liftS W X.K (dRetPot o)) :=
  ps_w (ps_ret he) fun E σ H ⟨U, g0, H0, g, n, ε, N, uo, r, s0, q, k1, k2, k3, k4⟩ => ⟨_, g, n, ε, _, r, q, fun p vs g1 H1 n1 ds q1 s1 o1 h0 h1 h2 h3 h4 => by
    obtain ⟨x, y, z, rfl, x0, x1, y0, y1, z0, z1, q2⟩ := q1
    have ev : vs = [.int x, .int y, .int z] := Dens.ints (ns := [x, y, z]) h4
    subst ev
    have st := s0.trans s1
    refine k4.1 (.ref p) ⟨g1.G, fun a => g1.pot a ∨ a = p⟩ H1 n1 .pot q2 ⟨⟨st.ext.G, fun a z => .inl (st.ext.p a z)⟩, st.gro, fun a z w => ?_, st.kep, st.dom⟩ ⟨o1.sub, fun a w => ?_, o1.t.pots fun a z => .inl z⟩ (.pot (.inr rfl) (o1.t.no fun ps z => by rw [h3] at z; cases z))
    · rcases w with w | w
      · exact st.grp a z w
      · exact absurd (s0.back0 h0) (by rw [← w]; exact z)
    · rcases w with w | w
      · exact o1.pot a w
      · rw [w]
        exact ⟨h1, .inr ⟨x, y, z, h3, x0, x1, y0, y1, z0, z1⟩⟩⟩
def blkB (N : List Str) (sc scope : Scope) (own : List (Str × Nat)) : Bool :=
  decide (scope.kind = .function) && (decide (∀ y ∈ scope.names, scope.names.lookup y.1 = some y.2) && (decide (∀ p ∈ own, N[p.2]? = some p.1) &&
    (decide (∀ y ∈ scope.names, y.2 = .free → sc.names.lookup y.1 = some .cell ∨ sc.names.lookup y.1 = some .free) && decide (∀ y ∈ scope.names, y.2 = .local ∨ y.2 = .cell → y.1 ∈ own.map (·.1) ∨ y.1 ∉ N))))
theorem blk {N : List Str} {sc scope : Scope} {own : List (Str × Nat)} (h : blkB N sc scope own = true) : BlkOk N sc scope own := by
  unfold blkB at h
  simp only [Bool.and_eq_true, decide_eq_true_eq] at h
  obtain ⟨h1, h2, h3, h4, h5⟩ := h
  exact ⟨h1, h2, h3, h4, h5⟩
def isT (T : String) (cs : List Addr) : D → Option Bool
  | .obj C _ => if C ∈ cs then some false else none
  | .non => some (decide ("NoneType" = T))
  | .bl _ => some (decide ("bool" = T ∨ T = "int"))
  | .int _ => some (decide ("int" = T))
  | .str _ => some (decide ("str" = T))
  | .lst _ => some (decide ("list" = T))
  | .tup _ => some (decide ("tuple" = T))
  | .tupF _ => some (decide ("tuple" = T))
  | .dic _ _ => some (decide ("dict" = T))
  | _ => none
def isC (C0 : Addr) (cs : List Addr) : D → Option Bool
  | .obj C _ => if C = C0 then some true else if C ∈ cs then some false else none
  | .non => some false
  | .bl _ => some false
  | .int _ => some false
  | .str _ => some false
  | .lst _ => some false
  | .tup _ => some false
  | .tupF _ => some false
  | .dic _ _ => some false
  | _ => none
theorem isT_ok {K : PySem.W.Frag} {T : String} {cs : List Addr} (hb : ∀ S ∈ ["NoneType", "bool", "int", "str", "list", "tuple", "dict"], PySem.W.kitOne K (.type S) (.type T) = some (decide (S = T ∨ (S = "bool" ∧ T = "int"))))
    (hc : ∀ C ∈ cs, InsOk K C ∧ PySem.W.kitOne K (.ref C) (.type T) = some false) : IsT K (.ty T) (isT T cs) := by
  refine ⟨_, .ty T, fun d b e => ?_⟩
  cases d with
  | obj C fs =>
    simp only [isT] at e
    split at e
    · rename_i h
      cases e
      exact ⟨_, rfl, (hc C h).1, (hc C h).2⟩
    · cases e
  | non =>
    cases e
    refine ⟨_, rfl, trivial, ?_⟩
    rw [hb "NoneType" (by simp)]
    simp
  | bl x =>
    cases e
    refine ⟨_, rfl, trivial, ?_⟩
    rw [hb "bool" (by simp)]
    simp
  | int x =>
    cases e
    refine ⟨_, rfl, trivial, ?_⟩
    rw [hb "int" (by simp)]
    simp
  | str x =>
    cases e
    refine ⟨_, rfl, trivial, ?_⟩
    rw [hb "str" (by simp)]
    simp
  | lst x =>
    cases e
    refine ⟨_, rfl, trivial, ?_⟩
    rw [hb "list" (by simp)]
    simp
  | tup x =>
    cases e
    refine ⟨_, rfl, trivial, ?_⟩
    rw [hb "tuple" (by simp)]
    simp
  | tupF x =>
    cases e
    refine ⟨_, rfl, trivial, ?_⟩
    rw [hb "tuple" (by simp)]
    simp
  | dic x y =>
    cases e
    refine ⟨_, rfl, trivial, ?_⟩
    rw [hb "dict" (by simp)]
    simp
  | _ => cases e
theorem isC_ok {K : PySem.W.Frag} {C0 : Addr} {cs : List Addr} (hb : ∀ S ∈ ["NoneType", "bool", "int", "str", "list", "tuple", "dict"], PySem.W.kitOne K (.type S) (.ref C0) = some false)
    (h0 : InsOk K C0 ∧ PySem.W.kitOne K (.ref C0) (.ref C0) = some true) (hc : ∀ C ∈ cs, InsOk K C ∧ PySem.W.kitOne K (.ref C) (.ref C0) = some false) : IsT K (.ref C0) (isC C0 cs) := by
  refine ⟨_, .own C0, fun d b e => ?_⟩
  cases d with
  | obj C fs =>
    simp only [isC] at e
    split at e
    · rename_i h
      cases e
      rw [h]
      exact ⟨_, rfl, h0.1, h0.2⟩
    · split at e
      · rename_i h
        cases e
        exact ⟨_, rfl, (hc C h).1, (hc C h).2⟩
      · cases e
  | non => cases e; exact ⟨_, rfl, trivial, hb "NoneType" (by simp)⟩
  | bl x => cases e; exact ⟨_, rfl, trivial, hb "bool" (by simp)⟩
  | int x => cases e; exact ⟨_, rfl, trivial, hb "int" (by simp)⟩
  | str x => cases e; exact ⟨_, rfl, trivial, hb "str" (by simp)⟩
  | lst x => cases e; exact ⟨_, rfl, trivial, hb "list" (by simp)⟩
  | tup x => cases e; exact ⟨_, rfl, trivial, hb "tuple" (by simp)⟩
  | tupF x => cases e; exact ⟨_, rfl, trivial, hb "tuple" (by simp)⟩
  | dic x y => cases e; exact ⟨_, rfl, trivial, hb "dict" (by simp)⟩
  | _ => cases e
def isE (ys ns : List Addr) : D → Option Bool
  | .err C _ => if C ∈ ys then some true else if C ∈ ns then some false else none
  | .non => some false
  | .bl _ => some false
  | .int _ => some false
  | .str _ => some false
  | .lst _ => some false
  | .tup _ => some false
  | .tupF _ => some false
  | .dic _ _ => some false
  | _ => none
theorem isE_ok {K : PySem.W.Frag} {C0 : Addr} {ys ns : List Addr} (hb : ∀ S ∈ ["NoneType", "bool", "int", "str", "list", "tuple", "dict"], PySem.W.kitOne K (.type S) (.ref C0) = some false)
    (hy : ∀ C ∈ ys, ErrI K C ∧ PySem.W.kitOne K (.ref C) (.ref C0) = some true) (hn : ∀ C ∈ ns, ErrI K C ∧ PySem.W.kitOne K (.ref C) (.ref C0) = some false) : IsT K (.ref C0) (isE ys ns) := by
  refine ⟨_, .own C0, fun d b e => ?_⟩
  cases d with
  | err C x =>
    simp only [isE] at e
    split at e
    · rename_i h
      cases e
      exact ⟨_, rfl, (hy C h).1, (hy C h).2⟩
    · split at e
      · rename_i h
        cases e
        exact ⟨_, rfl, (hn C h).1, (hn C h).2⟩
      · cases e
  | non => cases e; exact ⟨_, rfl, trivial, hb "NoneType" (by simp)⟩
  | bl x => cases e; exact ⟨_, rfl, trivial, hb "bool" (by simp)⟩
  | int x => cases e; exact ⟨_, rfl, trivial, hb "int" (by simp)⟩
  | str x => cases e; exact ⟨_, rfl, trivial, hb "str" (by simp)⟩
  | lst x => cases e; exact ⟨_, rfl, trivial, hb "list" (by simp)⟩
  | tup x => cases e; exact ⟨_, rfl, trivial, hb "tuple" (by simp)⟩
  | tupF x => cases e; exact ⟨_, rfl, trivial, hb "tuple" (by simp)⟩
  | dic x y => cases e; exact ⟨_, rfl, trivial, hb "dict" (by simp)⟩
  | _ => cases e
section
variable {P : Program} {w : World} {K : PySem.W.Frag} {mg : Str → Option Value} {base : Heap} {k : Nat} {f : Addr} {ps : List Str} {x qual : Str} {params : Arguments} {body : List Stmt} {scope : Scope} {N : List Str} {b : DS} {sp : FD}
theorem has_f (D : ∃ fd, FunD K x qual params body scope [] [] f fd) (S : FnScope N ps scope)
    (hbind : ∀ (kV doc pm : Value) (an : Option Addr) (cdv ct : Value) (us : List Value), us.length = ps.length → bindArgs (PySem.W.fnOf x qual params body scope .none kV doc pm an cdv ct) ⟨us, []⟩ = pure (ps.zip us))
    (hb : ∀ (fd : FuncData) (cdv : Value) (A : Around) (outer : List Env) (s : Shared) (H : Hp) (E : XK), Room k (A.deeper (PyProof.Rows.envOfC qual scope s.heap.objs.size f cdv)) → PSs (cxOf CX0 P w K mg base N qual scope f cdv A outer s H E).nox body (liftS W0 K b))
    (hs : ∀ ds n Q, sp ds n Q → dFn N.length ps.length b ds n Q) : HasF P w K mg base (k + 1) f ps [] sp := by
  obtain ⟨fd, F⟩ := D
  exact ⟨fd, [], [], fn_ok F S (fun cdv A outer s H E hr => hb fd cdv A outer s H E hr) hs, F.kp, F.bindsN hbind, .nil, fun _ => .nil⟩
theorem has_g (D : ∃ fd, FunD K x qual params body scope [] [] f fd) (S : FnScope N ps scope)
    (hbind : ∀ (kV doc pm : Value) (an : Option Addr) (cdv ct : Value) (us : List Value), us.length = ps.length → bindArgs (PySem.W.fnOf x qual params body scope .none kV doc pm an cdv ct) ⟨us, []⟩ = pure (ps.zip us))
    (hb : ∀ (fd : FuncData) (cdv : Value) (A : Around) (outer : List Env) (s : Shared) (H : Hp) (E : XK), Room k (A.deeper (PyProof.Rows.envOfC qual scope s.heap.objs.size f cdv)) → (A.deeper (PyProof.Rows.envOfC qual scope s.heap.objs.size f cdv)).guards = some [] → PSs (cxOf CX0 P w K mg base N qual scope f cdv A outer s H E).nox body (liftS W0 K b))
    (hs : ∀ ds n Q, sp ds n Q → dFn N.length ps.length b ds n Q) : HasG P w K mg base (k + 1) f ps [] sp := by
  obtain ⟨fd, F⟩ := D
  exact ⟨fd, [], [], fnG_ok F S (fun cdv _ A outer s H E hr hg => hb fd cdv A outer s H E hr hg) hs, F.kp, F.bindsN hbind, .nil, fun _ => .nil⟩
theorem has_take (D : ∃ fd, FunD K x qual params body scope [] [] f fd) (S : FnScope N ps scope) (h2 : ps.length = 2) (h5 : N.length = 5)
    (hbind : ∀ (kV doc pm : Value) (an : Option Addr) (cdv ct : Value) (us : List Value), us.length = ps.length → bindArgs (PySem.W.fnOf x qual params body scope .none kV doc pm an cdv ct) ⟨us, []⟩ = pure (ps.zip us))
    (hb : ∀ (fd : FuncData) (cdv : Value) (A : Around) (outer : List Env) (s : Shared) (H : Hp) (E : XK), Room k (A.deeper (PyProof.Rows.envOfC qual scope s.heap.objs.size f cdv)) → PSs (cxOf CX0 P w K mg base N qual scope f cdv A outer s H E).nox body (t_take K)) :
    HasF P w K mg base (k + 1) f ps [] takeF := by
  obtain ⟨fd, F⟩ := D
  refine ⟨fd, [], [], F.ok S (fun vs H Q E h => ?_) (fun cdv A outer s H vs Q E hr h => ⟨_, PSs.nox (hb fd cdv A outer s H E hr), take_ok h5 h⟩), F.kp, F.bindsN hbind, .nil, fun _ => .nil⟩
  obtain ⟨g, n, ds, P, ok, dd, ⟨u, rfl, _⟩, _⟩ := h
  rw [dd.length, h2]
  rfl
theorem has_init {C : Addr} {n1 : Str} {fi : FI} (M : Mk K C f) (D : ∃ fd, FunD K x qual params body scope [] [] f fd) (S : FnScope (n1 :: N) ps scope)
    (hbind : ∀ (kV doc pm : Value) (an : Option Addr) (cdv ct : Value) (us : List Value), us.length = ps.length → bindArgs (PySem.W.fnOf x qual params body scope .none kV doc pm an cdv ct) ⟨us, []⟩ = pure (ps.zip us))
    (hb : ∀ (fd : FuncData) (cdv : Value) (A : Around) (outer : List Env) (s : Shared) (H : Hp) (E : XK), Room k (A.deeper (PyProof.Rows.envOfC qual scope s.heap.objs.size f cdv)) → PSs (cxOf CX0 P w K mg base (n1 :: N) qual scope f cdv A outer s H E).nox body (liftS W0 K b))
    (hs : ∀ ds n P, fi ds n P → dIni C (n1 :: N).length ps.length b ds n P) : HasI P w K mg base (k + 1) C ps [] fi := by
  obtain ⟨fd, F⟩ := D
  have up : ∀ vs H Q E, liftInit K C fi vs H Q E → liftInit K C (dIni C (n1 :: N).length ps.length b) vs H Q E := fun vs H Q E ⟨g, n, x, dx, vs', ds, P, h1, h2, h3, h4, h5, h6, h7, h8⟩ => ⟨g, n, x, dx, vs', ds, P, h1, h2, h3, h4, h5, h6, hs _ _ _ h7, h8⟩
  refine ⟨f, fd, [], [], F.ok S (fun vs H Q E h => ?_) (fun cdv A outer s H vs Q E hr h => ⟨_, PSs.nox (hb fd cdv A outer s H E hr), liftInit_body (up vs H Q E h)⟩), M, F.bindsN hbind, .nil, fun _ => .nil⟩
  obtain ⟨g, n, x, dx, vs', ds, P, rfl, h2, h3, h4, h5, h6, h7, h8⟩ := up vs H Q E h
  rw [← h7.1, List.length_cons, h6.length]
theorem has_p {C : Addr} {m : Str} {p : Addr} (c : Cls K C) (hp : PropOf K C m p f) (D : ∃ fd, FunD K x qual params body scope [] [] f fd) (S : FnScope N ps scope)
    (hbind : ∀ (kV doc pm : Value) (an : Option Addr) (cdv ct : Value) (us : List Value), us.length = ps.length → bindArgs (PySem.W.fnOf x qual params body scope .none kV doc pm an cdv ct) ⟨us, []⟩ = pure (ps.zip us))
    (hb : ∀ (fd : FuncData) (cdv : Value) (A : Around) (outer : List Env) (s : Shared) (H : Hp) (E : XK), Room k (A.deeper (PyProof.Rows.envOfC qual scope s.heap.objs.size f cdv)) → PSs (cxOf CX0 P w K mg base N qual scope f cdv A outer s H E).nox body (liftS W0 K b))
    (hs : ∀ ds n Q, sp ds n Q → dFn N.length ps.length b ds n Q) : HasP P w K mg base (k + 1) C m ps sp := by
  obtain ⟨fd, F⟩ := D
  exact ⟨p, f, fd, fn_ok F S (fun cdv A outer s H E hr => hb fd cdv A outer s H E hr) hs, c, hp, F.bindsN hbind⟩
theorem has_m {C : Addr} {m : Str} (c : Cls K C) (hm : Meth K C m f) (D : ∃ fd, FunD K x qual params body scope [] [] f fd) (S : FnScope N ps scope)
    (hbind : ∀ (kV doc pm : Value) (an : Option Addr) (cdv ct : Value) (us : List Value), us.length = ps.length → bindArgs (PySem.W.fnOf x qual params body scope .none kV doc pm an cdv ct) ⟨us, []⟩ = pure (ps.zip us))
    (hb : ∀ (fd : FuncData) (cdv : Value) (A : Around) (outer : List Env) (s : Shared) (H : Hp) (E : XK), Room k (A.deeper (PyProof.Rows.envOfC qual scope s.heap.objs.size f cdv)) → PSs (cxOf CX0 P w K mg base N qual scope f cdv A outer s H E).nox body (liftS W0 K b))
    (hs : ∀ ds n Q, sp ds n Q → dFn N.length ps.length b ds n Q) : HasM P w K mg base (k + 1) C m ps [] sp := by
  obtain ⟨fd, F⟩ := D
  exact ⟨f, fd, [], [], fn_ok F S (fun cdv A outer s H E hr => hb fd cdv A outer s H E hr) hs, c, hm, F.bindsN hbind, .nil, fun _ => .nil⟩
end
theorem SaysP.fact {fx : List Fx} {fn : List PDef} {K : PySem.W.Frag} (c : SaysP fx fn K) (i : Nat) {f : Fx} (h : fx[i]? = some f := by rfl) : f.ok K = true := c.fx (List.mem_of_getElem? h)
end Pd
namespace L2
open PySem PySem.Spec PyProof.Rows
end L2
namespace Pd
open PySem L2
end Pd
namespace Pd
open PySem PyProof.Rows L2
def TabBs (K : PySem.W.Frag) (mg : Str → Option Value) (base : Heap) : Prop := ∀ (c P : Addr) (q : Str) (o : Obj), K.lookup c = some o → tabOf o = some (P, q) → LamX.TabB base mg c P
theorem law_calledG {P : Program} {w : World} {K : PySem.W.Frag} {mg mb : Str → Option Value} {k : Nat} {fa a : Addr} {x : Str} {sp : FD} {s : Shared} {vs : List Value} {ns : List Int}
    (KX : K.In s.heap) (TA : TabAt s.heap K) (hbm : ∃ (bm : Addr) (ob : Obj), mg "__builtins__" = some (.ref bm) ∧ bm ≠ builtinsNs ∧ s.heap.get? bm = some ob ∧ ob.cls = .type "module" ∧ ob.dict = some builtinsNs ∧ ob.data = .plain) (hns : s.heap.Ns mainGlobals mg) (hb : s.heap.Ns builtinsNs mb) (hbb : ∀ x : Str, x ≠ "__name__" → mb x = bootBuiltins x) (hlim : s.heap.NoLimit) (hg : s.gens = #[])
    (ha : s.heap.get? a = some { cls := .type "list", data := .seq vs.toArray }) (hi : IntsAre vs ns) (hl : ns.length ≤ sizeLine) (hr : Room k callerA)
    (F : ∀ base : Heap, K.In base → base.Ns mainGlobals mg → TabBs K mg base → HasG P w K mg base k fa [x] [] sp)
    (hsp : sp [.scr ns] 1000000000 fun _ r => r = .bl true) :
    codeAny (model P w) callerA (.call (.ref fa) ⟨[.ref a], []⟩) (fun r s' => r = .ok (.ret (.bool true)) ∧ OldK s.heap s'.heap ∧ s'.os = s.os ∧ AllBare s'.gens) s := by
  obtain ⟨H0, hO0, hS0, hok0, hA0⟩ := script_track (P := P) (w := w) KX ha hi hl
  have atT : ∀ b, b ∈ (tabsK K).map (·.1) → s.heap.get? b = some { cls := .none, data := .fields #[] } := fun b hb => by
    obtain ⟨p, hp, rfl⟩ := List.mem_map.mp hb
    exact TA.obj p hp
  have aT : a ∉ (tabsK K).map (·.1) := fun z => by
    have q := atT a z
    rw [ha] at q
    have z' : Data.seq vs.toArray _ = Data.fields #[] := congrArg Obj.data (Option.some.inj q)
    cases z'
  obtain ⟨H, hH⟩ : ∃ H : Hp, H = fun b => if b ∈ (tabsK K).map (·.1) then some (.tbl #[]) else H0 b := ⟨_, rfl⟩
  have onT : ∀ b, b ∈ (tabsK K).map (·.1) → H b = some (.tbl #[]) := fun b hb => by rw [hH]; exact if_pos hb
  have offT : ∀ b, b ∉ (tabsK K).map (·.1) → H b = H0 b := fun b hb => by rw [hH]; exact if_neg hb
  have sm : Same H0 H := fun b u e => by
    rw [offT b (by rw [(hA0 b (by rw [e]; exact Option.some_ne_none u)).1]; exact aT)]
    exact e
  have hS : SqL K H a (ns.map V.int) := sm.seq hS0
  have hok : HOk P w H s.heap := fun b u e => by
    by_cases hb : b ∈ (tabsK K).map (·.1)
    · rw [onT b hb] at e
      cases e
      exact atT b hb
    · rw [offT b hb] at e
      exact (hok0 b u e).stay (fun _ _ _ q => q) (fun c q => sm _ _ q) fun c xs q => sm _ _ q
  have low : ∀ {b : Addr} {o : Obj}, s.heap.get? b = some o → H b = none → (hidT s.heap H).get? b = some o := fun e n => hidT_get e n
  have noH : ∀ {b : Addr} {o : Obj}, s.heap.get? b = some o → (∀ vs n, o.data ≠ .seq vs n) → o.data ≠ .fields #[] → H b = none := fun {b o} e d1 d2 => by
    by_cases hb : b ∈ (tabsK K).map (·.1)
    · rw [atT b hb] at e
      cases e
      exact (d2 rfl).elim
    · rw [offT b hb]
      refine Classical.byContradiction fun n => ?_
      rw [(hA0 b n).1, ha] at e
      cases e
      exact d1 _ _ rfl
  have dictOff : ∀ {b : Addr} {o : Obj} {es : Array DictEntry} {ep : Nat}, s.heap.get? b = some o → o.data = .dict es ep → H b = none := fun {b o es ep} e d => noH e (fun vs n z => by rw [d] at z; cases z) fun z => by rw [d] at z; cases z
  have nsUp : ∀ {b : Addr} {m : Str → Option Value}, s.heap.Ns b m → (hidT s.heap H).Ns b m := fun {b m} q => by
    obtain ⟨o, es, ep, e, d, r⟩ := q
    exact ⟨o, es, ep, low e (dictOff e d), d, r⟩
  have KB : K.In (hidT s.heap H) := fun b o e => low (KX b o e) (by
    by_cases hb : b ∈ (tabsK K).map (·.1)
    · obtain ⟨p, hp, rfl⟩ := List.mem_map.mp hb
      rw [TA.out p hp] at e
      cases e
    · rw [offT b hb]
      refine Classical.byContradiction fun n => ?_
      rw [(hA0 b n).2] at e
      cases e)
  have M : Mod K mg (hidT s.heap H) := by
    obtain ⟨mc, h1, h2⟩ := hlim
    exact ⟨KB, nsUp hns, ⟨mb, nsUp hb, hbb⟩, mc, nsUp h1, h2⟩
  have none0 : ∀ {b : Addr}, ¬ b ∈ ([] : List Addr) := fun z => nomatch z
  have e0 : Env0 P w K mg (hidT s.heap H) callerA [] s H := ⟨rfl, M, fun b o e => of_hidT e, Nat.le_of_eq (hidT_size _ _), trivial, fun b z => absurd (show b ∈ ([] : List Addr) from z) none0, hok, .of_eq hg⟩
  have TBs : TabBs K mg (hidT s.heap H) := fun c Pt q o hl ht => by
    have hm := tabs_mem hl ht
    have hP := TA.obj _ hm
    obtain ⟨bm, ob, b1, b2, b3, b4, b5, b6⟩ := hbm
    refine ⟨PySem.W.codeHd_of_K KB (TA.code c Pt q o hl ht), ⟨bm, ob, b1, b2, fun z => ?_, fun z => ?_, low b3 (noH b3 (fun vs n z => by rw [b6] at z; cases z) fun z => by rw [b6] at z; cases z), b4, b5, b6⟩, fun z => ?_⟩
    · obtain ⟨o, es, ep, e, hd, _⟩ := hns
      rw [z, e] at b3
      cases b3
      rw [hd] at b6
      cases b6
    · rw [z] at b3
      rw [show s.heap.get? Pt = _ from hP] at b3
      cases b3
      cases b6
    · obtain ⟨o, es, ep, e, hd, _⟩ := hns
      rw [z, show s.heap.get? Pt = _ from hP] at e
      cases e
      cases hd
  let g : Gh := ⟨H0, fun b => b ∈ (tabsK K).map (·.1)⟩
  have ok : Ok K g H 1000000000 := by
    refine ⟨sm, fun b hb => ⟨?_, ?_⟩, ⟨fun p hp => ?_, fun p hp => List.mem_map.mpr ⟨p, hp, rfl⟩, fun b ps e => ?_⟩⟩
    · refine Classical.byContradiction fun n => ?_
      exact aT (by rw [← (hA0 b n).1]; exact hb)
    · obtain ⟨p, hp, rfl⟩ := List.mem_map.mp hb
      exact .inl ⟨p.2, hp⟩
    · exact LamX.TabS.nil (onT _ (List.mem_map.mpr ⟨p, hp, rfl⟩))
    · by_cases hb : b ∈ (tabsK K).map (·.1)
      · obtain ⟨p, hp, rfl⟩ := List.mem_map.mp hb
        exact ⟨p.2, hp⟩
      · rw [offT b hb] at e
        rcases hO0 b with z | ⟨ob, xs, z⟩ <;> (rw [z] at e; cases e)
  have L : liftF K sp [.ref a] H (fun v _ => v = .bl true) E0 := ⟨g, 1000000000, [.scr ns], _, ok, .cons (.scr hS0) .nil, hsp, fun v g' H' n' r q _ _ d => by
    have q' : r = .bl true := q
    rw [q'] at d
    cases d
    rfl⟩
  obtain ⟨fd, dvs, ds, FG, _, B, hv, hd⟩ := (F _ KB (nsUp hns) TBs).ex
  have hdv : dvs = [] := by
    cases hd g
    rfl
  subst hdv
  have hds : ds = [] := by
    cases hv
    rfl
  subst hds
  refine codeAny_mono (FG.run callerA [] s H ⟨[.ref a], []⟩ [.ref a] [.ref a] _ E0 hr rfl e0 (B s [.ref a] KX rfl) (.cons rfl .nil) L) fun r s' z => ?_
  match r, z with
  | .error _, z => exact False.elim z
  | .ok .next, z => exact False.elim z
  | .ok .brk, z => exact False.elim z
  | .ok .cont, z => exact False.elim z
  | .ok (.ret u), z =>
    obtain ⟨v, H', os, bare, un, hok', rv, q⟩ := z
    have q' : v = .bl true := q
    rw [q'] at rv
    obtain rfl : u = Value.bool true := rv
    have same : ∀ b o, b ∉ (tabsK K).map (·.1) → s.heap.get? b = some o → s'.heap.get? b = some o := fun b o nb e => by
      rcases hO0 b with hz | ⟨ob, xs, hz⟩
      · exact un.keep b o e (by rw [offT b nb]; exact hz) (fun z => absurd (show b ∈ ([] : List Addr) from z) none0) (by simp)
      · have hz' : H b = some (.frz ob (.lst xs)) := sm _ _ hz
        obtain ⟨e1, _⟩ := hok b _ hz'
        obtain ⟨e2, _⟩ := hok' b _ (un.frzs b ob _ hz')
        rw [e] at e1
        cases e1
        exact e2
    have grown : ∀ b, b ∈ (tabsK K).map (·.1) → ∃ more : Array Value, s'.heap.get? b = some { cls := .none, data := .fields more } := fun b hb => by
      obtain ⟨more, z⟩ := un.tbls b #[] (onT b hb)
      exact ⟨_, hok' b _ z⟩
    refine ⟨rfl, ⟨fun b o e => ?_, fun b o e => ?_⟩, os, bare⟩
    · by_cases hb : b ∈ (tabsK K).map (·.1)
      · obtain ⟨more, hm⟩ := grown b hb
        obtain ⟨p, hp, ep⟩ := List.mem_map.mp hb
        obtain ⟨c, o1, hl1, ht1⟩ := tabs_of hp
        have CH := PySem.W.codeHd_of_K KX (TA.code c p.1 p.2 o1 hl1 ht1)
        have tb := atT b hb
        rw [tb] at e
        cases e
        rw [← ep] at hm tb ⊢
        exact .inr (.inl ⟨(CH.tab tb).isCodeTable, rfl, #[], more, rfl, by rw [Array.empty_append]; exact hm⟩)
      · exact .inl (same b o hb e)
    · by_cases hb : b ∈ (tabsK K).map (·.1)
      · obtain ⟨more, hm⟩ := grown b hb
        exact ⟨_, hm⟩
      · exact ⟨o, same b o hb e⟩
theorem law_walkG {l : PySem.W.OpenLaw} {n k : Nat} {q : Program} {loose : List Str} {XP : (Str → Option Value) → Heap → Prop} {YP : World → Heap → Prop} {d : DefRec} {x : Str}
    (hn : l.most = some n) (hn2 : n ≤ sizeLine) (hdf : d.params.defaults = []) (hr : Room k callerA)
    (F : ∀ (w : World) (mg : Str → Option Value) (fa : Addr) (h : Heap), YP w h → h.Ns mainGlobals mg → mg d.name = some (.ref fa) →
      ∃ (K : PySem.W.Frag) (sp : FD), K.In h ∧ TabAt h K ∧
        (∀ ns : List Int, ns.length ≤ n → sp [.scr ns] 1000000000 fun _ r => r = .bl true) ∧
        ∀ base : Heap, K.In base → base.Ns mainGlobals mg → TabBs K mg base → HasG l.prog w K mg base k fa [x] [] sp) :
    PySem.W.WalkO q loose XP YP l.row.toRowW d [] (fun f vs => PySem.call f vs) := by
  refine Att.attach_call hn hdf fun w s₀ s₁ mg mb fa o pm cd doc a vs ns G Y ho hd hcd hmg hobj hints hlen hg => ?_
  obtain ⟨K, sp, KX, TA, hsp, hF⟩ := F w mg fa _ Y G.T.g hmg
  exact law_calledG KX TA G.T.bmain G.T.g G.T.b G.T.builtins G.T.nolimit hg hobj hints (Nat.le_trans hlen hn2) hr hF (hsp ns hlen)
end Pd
namespace PySem
end PySem
namespace L2
open PySem PySem.Spec PyProof.Rows
end L2
namespace Pd
open PySem L2
end Pd
namespace L2
open PySem PySem.Spec PyProof.Rows
end L2
namespace Pd
open PySem L2 PyProof.Rows
variable {W : WX}
section
variable {P : Program} {w : World} {K : PySem.W.Frag} {mg : Str → Option Value} {base : Heap} {k : Nat} {f : Addr} {ps : List Str} {x qual : Str} {params : Arguments} {body : List Stmt} {scope : Scope} {N : List Str} {b : DS} {sp : FD} {dvs : List V} {dd : List D}
theorem has_fD (D : ∃ fd, FunD K x qual params body scope dvs [] f fd) (S : FnScope N ps scope) (n j : Nat) (hd : dvs ≠ []) (hn : n + (dvs.length - j) = ps.length)
    (hbind : ∀ (T : Addr) (kV doc pm : Value) (an : Option Addr) (cdv ct : Value) (us its : List Value), us.length = n → its.length = dvs.length →
      ∃ k, bindArgs (PySem.W.fnOf x qual params body scope (.ref T) kV doc pm an cdv ct) ⟨us, []⟩ = seqItems? (.ref T) >>= k ∧ k (some its.toArray) = pure (ps.zip (us ++ its.drop j)))
    (hdd : ∀ g, Dens K g (dvs.drop j) dd)
    (hb : ∀ (fd : FuncData) (cdv : Value) (A : Around) (outer : List Env) (s : Shared) (H : Hp) (E : XK), Room k (A.deeper (PyProof.Rows.envOfC qual scope s.heap.objs.size f cdv)) → PSs (cxOf CX0 P w K mg base N qual scope f cdv A outer s H E).nox body (liftS W0 K b))
    (hs : ∀ ds n Q, sp ds n Q → dFn N.length ps.length b ds n Q) : HasF P w K mg base (k + 1) f ps dd sp := by
  obtain ⟨fd, F⟩ := D
  obtain ⟨ds, hv, hB⟩ := F.binds1 n j hd hn hbind
  exact ⟨fd, _, ds, fn_ok F S (fun cdv A outer s H E hr => hb fd cdv A outer s H E hr) hs, F.kp, hB, hv, hdd⟩
end
def gIsB : G2 := fun x y P => match x, y with
  | .bl a, .bl b => P (.bl (decide (a = b)))
  | _, _ => False
def gIsNotB : G2 := fun x y P => match x, y with
  | .bl a, .bl b => P (.bl (!decide (a = b)))
  | _, _ => False
end Pd
namespace L2
open PySem PySem.Spec PyProof.Rows HT
end L2
namespace Pd
open PySem L2
end Pd
namespace Pd
open PySem L2
end Pd
namespace L2
open PySem PySem.Spec PyProof.Rows HT
end L2
namespace Pd
open PySem L2
end Pd
namespace Pd
open PySem L2
variable {W : WX}
mutual
def D.still : D → Bool
  | .non => true
  | .bl _ => true
  | .int _ => true
  | .str _ => true
  | .tup xs => D.stills xs
  | .tupK xs => D.stills xs
  | .tupF xs => D.stills xs
  | .pot => true
  | .ref _ => true
  | .err _ d => d.still
  | .dic _ vs => D.stills vs
  | _ => false
def D.stills : List D → Bool
  | [] => true
  | x :: xs => x.still && D.stills xs
end
section
variable {X : Cx} {C : Addr} {pos pos' : Pos} {o e : Expr} {d : DE} {i : Nat} {f : Str}
def dTmq (i : Nat) (d : DE) : DE := fun n ε P => d n (frzE ε i) fun n' r => r.still = true ∧ P n' r
def dFldO (C : Addr) (i : Nat) (f : Str) : DE := fun n ε P => match ε[i]? with
  | some (.own (.ins C' fs)) => C' = C ∧ ∃ y, fs.lookup f = some y ∧ P n y
  | _ => False
end
abbrev DQ := Nat → Ev → (Nat → List (Str × D) → Prop) → Prop
def qMake (fi : FI) (dd : List D) (t : DA) : DQ := fun n ε P => t n ε fun n1 ds => fi (ds ++ dd) n1 P
section
variable {X : Cx} {C : Addr} {pos : Pos} {x : Str} {p : Pos} {e : Expr} {es : List Expr} {t : DA} {k : Nat} {ps : List Str} {dd : List D} {fi : FI} {dvs : List V} {E : XK}
def dSetQ (C : Addr) (i : Nat) (d : DQ) : DS := fun N n ε => N.slf ≠ some C ∧ d n ε fun n1 fs => N.nx n1 (ε.set i (.own (.ins C fs)))
variable {q : DQ} {i : Nat} {y : Str} {pos' : Pos} {a : Expr}
def dParQ (C : Addr) (i j : Nat) (q : DQ) (d : DE) : DS := fun N n ε => N.slf ≠ some C ∧ q n ε fun n1 fs => d n1 ε fun n2 y => N.nx n2 ((ε.set i (.own (.ins C fs))).set j (.val y))
end
abbrev FM := List (Str × D) → List D → Nat → (Nat → List (Str × D) → Prop) → Prop
def dMut (C : Addr) (i : Nat) (m : Str) (sp : FM) (dd : List D) (t : DA) : DS := fun N n ε => match ε[i]? with
  | some (.own (.ins C' fs)) => C' = C ∧ fs.lookup m = none ∧ t n ε fun n1 ds => sp fs (ds ++ dd) n1 fun n2 fs' => N.nx n2 (ε.set i (.own (.ins C fs')))
  | _ => False
end Pd
namespace Pd
open PySem L2
end Pd
namespace Pd
open PySem L2
end Pd
namespace Pd
open PySem L2
variable {W : WX}
def rsz (i j c : Int) : Nat := (if i < j then (j - i - 1) / c + 1 else 0).toNat
theorem rsz_eq {i j c : Int} (hc : 0 < c) : Builtin.Range.rangeSize i j c = (rsz i j c : Nat) := by
  unfold Builtin.Range.rangeSize rsz
  rw [if_pos (by omega)]
  split
  · have := Int.ediv_nonneg (a := j - i - 1) (b := c) (by omega) (by omega)
    omega
  · rfl
theorem RgC.pos {i j c : Int} (hc : 0 < c) (hc' : c < 1073741824) (ha : -(2 ^ 60) ≤ i) (ha' : i < 2 ^ 60) (hb : -(2 ^ 60) ≤ j) (hb' : j < 2 ^ 60) : RgC i j c (rsz i j c) := by
  refine ⟨by omega, by omega, ?_, rsz_eq hc⟩
  have h1 : Builtin.Range.rangeSize i j c ≤ 2 ^ 62 ∧ 0 ≤ Builtin.Range.rangeSize i j c := by
    unfold Builtin.Range.rangeSize
    rw [if_pos (by omega)]
    split
    · have h1 := Int.ediv_le_self c (show (0 : Int) ≤ j - i - 1 by omega)
      have h2 := Int.ediv_nonneg (a := j - i - 1) (b := c) (by omega) (by omega)
      omega
    · omega
  unfold Builtin.Range.small
  simp only [Builtin.Range.rangeFitsLong, Bool.and_eq_true, Bool.or_eq_true, decide_eq_true_eq, beq_iff_eq, if_pos (show c > 0 from hc)]
  omega
end Pd
namespace Pd
open PySem L2
end Pd
namespace L2
open PySem PySem.Spec PyProof.Rows HT
def keyS (e : Int × Value) : Str := match e.2 with | .str k _ => k | _ => ⟨#[]⟩
def GoodT (w : World) (e : Int × Value) : Prop := ∃ k tk, e.2 = Value.str k tk ∧ e.1 = hashStr w k
def SetT (w : World) (h : Heap) (a : Addr) (S : Str → Bool) (n : Nat) : Prop :=
  ∃ o es ep t, h.get? a = some o ∧ o.ExactSet ∧ o.data = .set es ep t ∧ (∀ e ∈ es.toList, GoodT w e) ∧ (es.toList.map keyS).Nodup ∧ (∀ k, S k = true ↔ k ∈ es.toList.map keyS) ∧
    es.size < scanBound ∧ t.fits es.size = true ∧ es.size = n ∧ Ris t.place.toList ∧ (w.params.followText "set-order" = true ∨ t.led = true)
section
variable {P : Program} {w : World} {h h' : Heap} {a : Addr} {S : Str → Bool} {n : Nat}
theorem SetT.at (R : SetT w h a S n) (k : ∀ o, h.get? a = some o → h'.get? a = some o) : SetT w h' a S n := by
  obtain ⟨o, es, ep, t, ho, r⟩ := R
  exact ⟨o, es, ep, t, k o ho, r⟩
end
end L2
namespace L2
open PySem PySem.Spec PyProof.Rows HT
end L2
namespace Pd
open PySem L2
end Pd
namespace L2
open PySem PySem.Spec PyProof.Rows HT
end L2
namespace Pd
open PySem L2
end Pd
namespace L2
open PySem PySem.Spec PyProof.Rows HT
end L2
namespace Pd
open PySem L2
end Pd
namespace Pd
open PySem L2
end Pd
namespace L2
open PySem PySem.Spec PyProof.Rows HT
end L2
namespace L2
open PySem PySem.Spec PyProof.Rows HT
end L2
namespace Pd
open PySem L2
end Pd
namespace Pd
open PySem L2
def rOwn (C : Addr) (ng : Bool) (sp : Sp) : R2 := fun x y H Q => ∃ a b dx dy fs gs, x = .ref a ∧ y = .ref b ∧ H a = some (.ins C dx fs) ∧ H b = some (.ins C dy gs) ∧ sp [.ref a, .ref b] H (fun v H' => ∃ k, v = .bl k ∧ Q (.bl (k != ng)) H') E0
section
variable {X : Cx} {n : Nat} {C f : Addr} {fd : FuncData} {ps : List Str} {sp : Sp} {pins : List (Addr × Obj)} {σ : L2.St} {H : Hp} {s : Shared} {a b : Addr}
theorem own_called (F : FnOk X.prog X.w X.K X.mg X.base CX0 n f fd ps sp) (hb : Binds X.K fd ps []) {A : Around} (hr : Room n A) (hfr : A.frames = X.A.frames) (I : Inv X pins σ H s) {Q : Bool → Hp → Prop}
    (q : sp [.ref a, .ref b] H (fun v H' => ∃ k, v = .bl k ∧ Q k H') E0) {E : Value → Shared → Prop} :
    wpAny (model X.prog X.w) A (call (.ref f) [.ref a, .ref b]) (fun r s' => ∃ k H', r = .bool k ∧ Inv X pins σ H' s' ∧ Q k H') E s := by
  have hl := F.len _ _ _ _ q
  have hbt := hb s [.ref a, .ref b] I.kIn (by simpa using hl)
  have e := I.env0
  have e0 : Env0 X.prog X.w X.K X.mg X.base A X.stack s H := ⟨hfr.trans e.frames, e.mod, e.bs, e.bsz, e.funs, e.frf, e.hok, e.bare⟩
  refine wpAny_call (codeAny_mono (F.run A X.stack s H ⟨[.ref a, .ref b], []⟩ [.ref a, .ref b] [.ref a, .ref b] _ _ hr e0 (by simpa using hbt) (.cons rfl (.cons rfl .nil)) q) fun r s' z => ?_)
  cases r with
  | error er =>
    have z' : CX0 X.stack H s E0 er s' := z
    exact z'.elim
  | ok fl =>
    cases fl with
    | ret w =>
      obtain ⟨v, H', I', rv, k, ek, qk⟩ := I.after z
      subst ek
      cases rv
      exact ⟨k, H', rfl, I', qk⟩
    | next => exact False.elim z
    | brk => exact False.elim z
    | cont => exact False.elim z
theorem ins_both (I : Inv X pins σ H s) {dx dy : Addr} {fs gs : List (Str × V)} (ha : H a = some (.ins C dx fs)) (hb : H b = some (.ins C dy gs)) :
    ∃ ox od oy od', PySem.W.InstAt s.heap a ox C od ∧ PySem.W.InstAt s.heap b oy C od' := by
  obtain ⟨_, J, _⟩ := ins_get I.hok ha
  obtain ⟨_, J', _⟩ := ins_get I.hok hb
  obtain ⟨od, J, _⟩ := J.look
  obtain ⟨od', J', _⟩ := J'.look
  exact ⟨_, _, _, _, J, J'⟩
theorem op_own_eq (F : FnOk X.prog X.w X.K X.mg X.base CX0 n f fd ps sp) (hs : PySem.W.findIn X.K (.ref C) "__eq__" = some (some (.ref f))) (hf : PySem.W.isFn X.K (.ref f) = true) (hb : Binds X.K fd ps []) (hr : Room n X.A) : OpR X (compareOp .Eq) (rOwn C false sp) := by
  intro pins s σ H x y v u Q I rx ry q
  obtain ⟨a, b, dx, dy, fs, gs, rfl, rfl, ha, hb', q⟩ := q
  cases rx
  cases ry
  obtain ⟨ox, od, oy, od', J, J'⟩ := ins_both I ha hb'
  obtain ⟨m, hF⟩ := I.fr
  show wpAny (model X.prog X.w) X.A (richCompare .Eq (.ref a) (.ref b)) _ _ s
  refine PySem.W.cmp_K (tb := .ref C) hr.units0 hF I.ok.mod.kin J J'.type (by simp [PySem.W.notFirst]) hs hf (wpAny_mono (own_called F hb hr rfl I q) (fun r s' z => ?_) fun _ _ z => z)
  obtain ⟨k, H', rfl, I', qk⟩ := z
  rw [Bool.bne_false] at qk
  exact ⟨.bl k, H', I', rfl, qk⟩
theorem ne_slot : Slot "object" "__ne__" "object.__ne__" := PySem.F.cmp_object.ne
theorem ne_body {K : PySem.W.Frag} {A : Around} {ox : Obj} {od : Option Obj} {Q : PySem.Fin → Shared → Prop} {E : Value → Shared → Prop} (hu : A.units < cLine) (KX : K.In s.heap) (J : PySem.W.InstAt s.heap a ox C od) (hs : PySem.W.findIn K (.ref C) "__eq__" = some (some (.ref f))) (hf : PySem.W.isFn K (.ref f) = true)
    (h : wpAny (model X.prog X.w) A (call (.ref f) [.ref a, .ref b]) (fun r s' => ∃ k, r = .bool k ∧ Q (.done (.ret (.bool (!k)))) s') E s) :
    wpAny (model X.prog X.w) A (Builtin.«object.__ne__» ⟨[.ref a, .ref b], []⟩) Q E s := by
  unfold Builtin.«object.__ne__»
  refine wpAny_bind (wpAny_of_eq (a := ((Value.ref a : Value), [Value.ref b])) (by first | rfl | (simp only [slotArgs]; rfl)) ?_)
  refine wpAny_bind (wpAny_cRoomFor hu (wpAny_bind (PySem.W.ifBound_K KX J hs hf (wpAny_mono h (fun r s' z => ?_) fun _ _ z => z))))
  obtain ⟨k, rfl, q⟩ := z
  exact wpAny_bind (wpAny_of_eq (a := k) (by cases k <;> rfl) (wpAny_pure q))
theorem ne_try {K : PySem.W.Frag} {A : Around} {ox : Obj} {od : Option Obj} {Q : Option Value → Shared → Prop} {E : Value → Shared → Prop} (hu : A.units + 1 < cLine) (KX : K.In s.heap) (J : PySem.W.InstAt s.heap a ox C od)
    (hne : PySem.W.findIn K (.ref C) "__ne__" = some (some (.builtin "object.__ne__"))) (hob : PySem.W.mroIn K C (.type "object") = some true) (hs : PySem.W.findIn K (.ref C) "__eq__" = some (some (.ref f))) (hf : PySem.W.isFn K (.ref f) = true)
    (h : wpAny (model X.prog X.w) A.in1 (call (.ref f) [.ref a, .ref b]) (fun r s' => ∃ k, r = .bool k ∧ Q (some (.bool (!k))) s') E s) :
    wpAny (model X.prog X.w) A (callSpecialIfBound? (.ref a) "__ne__" [.ref b]) Q E s := by
  have run : wpAny (model X.prog X.w) A (call (.builtin "object.__ne__") ([.ref a] ++ [.ref b])) (fun v s' => Q (some v) s') E s := by
    refine wpAny_call (codeAny_call_builtin ne_slot.plain PySem.F.cmpEntry_ne (PySem.W.check_slot PySem.F.cmpKind_ne PySem.F.cmpSplit_ne (J.type.andThen (PySem.W.looks_mroIn KX hob)) (PySem.F.cmpArgs_ne _ _) ?_))
    exact ne_body (X := X) (A := A.in1) hu KX J hs hf (wpAny_mono h (fun r s' ⟨k, e, q⟩ => ⟨k, e, q⟩) fun _ _ z => z)
  have fin : wpAny (model X.prog X.w) A (call (.builtin "object.__ne__") ([.ref a] ++ [.ref b]) >>= fun v => pure (some v)) Q E s := wpAny_bind (wpAny_mono run (fun v s' z => wpAny_pure z) fun _ _ z => z)
  simp only [callSpecialIfBound?, bindSpecialIfBound?]
  refine wpAny_holding (wpAny_bind (wpAny_bind (wpAny_bind (J.type.here ((PySem.W.looks_findIn KX hne).here (by
    simp only [ne_slot.bind]
    refine wpAny_bind (wpAny_askSetting (wpAny_ite ?_))
    split
    · exact wpAny_bind (wpAny_pure (wpAny_pure fin))
    · exact wpAny_tryCatch (wpAny_bind (wpAny_pure (wpAny_pure fin)))))))))
theorem op_own_ne (F : FnOk X.prog X.w X.K X.mg X.base CX0 n f fd ps sp) (hs : PySem.W.findIn X.K (.ref C) "__eq__" = some (some (.ref f))) (hne : PySem.W.findIn X.K (.ref C) "__ne__" = some (some (.builtin "object.__ne__"))) (hob : PySem.W.mroIn X.K C (.type "object") = some true)
    (hf : PySem.W.isFn X.K (.ref f) = true) (hb : Binds X.K fd ps []) (hr : Room (n + 1) X.A) : OpR X (compareOp .NotEq) (rOwn C true sp) := by
  intro pins s σ H x y v u Q I rx ry q
  obtain ⟨a, b, dx, dy, fs, gs, rfl, rfl, ha, hb', q⟩ := q
  cases rx
  cases ry
  obtain ⟨ox, od, oy, od', J, J'⟩ := ins_both I ha hb'
  have tried : wpAny (model X.prog X.w) X.A (tryCompare (.ref a) "__ne__" (.ref b)) (fun r s' => ∃ v, r = some v ∧ EP X pins σ Q v s') X.xe s := by
    unfold tryCompare
    refine wpAny_bind (ne_try (X := X) (by have := hr.un; omega) I.kIn J hne hob hs hf (wpAny_mono (own_called F hb hr.in1 rfl I q) (fun r s' z => ?_) fun _ _ z => z))
    obtain ⟨k, H', rfl, I', qk⟩ := z
    rw [Bool.bne_true] at qk
    exact ⟨k, rfl, wpAny_pure ⟨_, rfl, .bl (!k), H', I', rfl, qk⟩⟩
  have ask : wpAny (model X.prog X.w) X.A (richCompare .NotEq (.ref a) (.ref b)) (EP X pins σ Q) X.xe s := by
    unfold richCompare
    simp only [oneThing_ref, cmpInfo_NotEq]
    refine wpAny_holding (wpAny_bind (wpAny_cRoomFor hr.units0 (wpAny_bind (J.type.here (wpAny_bind (J'.type.here ?_))))))
    rw [if_neg (show ¬ (Value.ref C != Value.ref C) = true by simp)]
    refine wpAny_bind (wpAny_pure ?_)
    rw [if_neg (by decide)]
    refine wpAny_bind (wpAny_mono tried (fun r s' z => ?_) fun _ _ z => z)
    obtain ⟨v, rfl, q'⟩ := z
    exact wpAny_pure q'
  exact ask
end
end Pd
namespace Pd
open PySem L2
structure EqnOk (K : PySem.W.Frag) (C : Addr) : Prop where
  ne : PySem.W.findIn K (.ref C) "__ne__" = some (some (.builtin "object.__ne__"))
  ob : PySem.W.mroIn K C (.type "object") = some true
theorem eqn_ok {K : PySem.W.Frag} {C : Str} (h : (Fx.eqn C).ok K = true) : EqnOk K (He.ga K C) := by
  simp only [Fx.ok, Bool.and_eq_true, decide_eq_true_eq] at h
  exact ⟨h.1, h.2⟩
def gOwn (C : Addr) (ng : Bool) (sp : FD) : G2 := fun dx dy P => ∃ fs gs, dx = .obj C fs ∧ dy = .obj C gs ∧ ∀ n, sp [dx, dy] n fun n' r => n' = n ∧ ∃ k, r = .bl k ∧ P (.bl (k != ng))
theorem so_own {K : PySem.W.Frag} {C : Addr} {ng : Bool} {sp : FD} : SOp K (rOwn C ng (liftF K sp)) (gOwn C ng sp) := ⟨fun {g H n x y dx dy P Q} ok hx hy q f => by
  obtain ⟨fs, gs, rfl, rfl, q⟩ := q
  cases hx with
  | obj h1 h2 =>
    cases hy with
    | obj h3 h4 =>
      refine ⟨_, _, _, _, _, _, rfl, rfl, ok.sub _ _ h1, ok.sub _ _ h3, g, n, _, _, ok, .cons (.obj h1 h2) (.cons (.obj h3 h4) .nil), q n, fun v g' H' n' r p s o d => ?_⟩
      obtain ⟨rfl, k, rfl, p⟩ := p
      cases d
      exact ⟨k, rfl, f _ _ _ _ p s o (.bl _)⟩⟩
section
variable {X : Cx} {k : Nat} {C : Addr} {ps : List Str} {sp : FD} {pos : Pos} {a b : Expr} {da db : DE}
theorem de_ownEq (G : HasM X.prog X.w X.K X.mg X.base k C "__eq__" ps [] sp) (hq : EqnOk X.K C) (hr : Room (k + 1) X.A) (ha : PE X a (liftE X.K da)) (hb : PE X b (liftE X.K db)) (hm : behindInMarks .Eq b = false := by first | exact nomark _ | rfl) : PE X (.Compare a [.Eq] [b] pos) (liftE X.K (dOp (gOwn C false sp) da db)) := by
  obtain ⟨f, fd, dvs, ds, F, _, ⟨h1, h2, _⟩, hb', hv, hd⟩ := G.ex
  obtain rfl : dvs = [] := by
    have := hd ⟨fun _ => none, fun _ => False⟩
    cases this
    rfl
  cases hv
  exact de_cmp (op_own_eq F h1 h2 hb' (hr.mono (Nat.le_succ k))) so_own ha hb hm
theorem de_ownNe (G : HasM X.prog X.w X.K X.mg X.base k C "__eq__" ps [] sp) (hq : EqnOk X.K C) (hr : Room (k + 1) X.A) (ha : PE X a (liftE X.K da)) (hb : PE X b (liftE X.K db)) (hm : behindInMarks .NotEq b = false := by first | exact nomark _ | rfl) : PE X (.Compare a [.NotEq] [b] pos) (liftE X.K (dOp (gOwn C true sp) da db)) := by
  obtain ⟨f, fd, dvs, ds, F, _, ⟨h1, h2, _⟩, hb', hv, hd⟩ := G.ex
  obtain rfl : dvs = [] := by
    have := hd ⟨fun _ => none, fun _ => False⟩
    cases this
    rfl
  cases hv
  exact de_cmp (op_own_ne F h1 hq.ne hq.ob h2 hb' hr) so_own ha hb hm
end
end Pd
namespace Pd
open PySem L2
end Pd
namespace Pd
open PySem L2
end Pd
namespace Pd
open PySem L2
end Pd
namespace Pd
open PySem PySem.Spec PyProof.Rows L2
end Pd
namespace Pd
open PySem L2 PyProof.Rows
structure SupD (K : PySem.W.Frag) (P : Program) (fI D cc cda : Addr) (params : Arguments) (body : List Stmt) (scope : Scope) (fd : FuncData) : Prop where
  ex : ∃ (oc : Value) (od : Option Addr) (dV kV doc pm : Value) (an : Option Addr) (ct : Value) (osl : Array (Option Value)), fd = PySem.W.fnX "__init__" "CutError.__init__" params body scope [("__class__", cc)] dV kV doc pm an (.ref cda) ct ∧
    K.lookup fI = some ⟨oc, od, .func fd, osl⟩
  code : PySem.W.codeIn K (.ref cda) "CutError.__init__" = true
  file : ∃ (c : Value) (d : Option Addr) (vs : Array Value) (sl : Array (Option Value)) (file : Str) (tf : Tok), K.lookup cda = some ⟨c, d, .fields vs, sl⟩ ∧ vs[2]? = some (.str file tf) ∧ ((P.main.file : Str) == file) = true
  cell : ∃ (c : Value) (d : Option Addr) (sl : Array (Option Value)), K.lookup cc = some ⟨c, d, .cell (some (.ref D)), sl⟩
  cls : ∃ cd, PySem.W.clsIn K D = some cd
  any : PySem.W.nsIn K cStatics "thirdparty.any" = some none
structure SupC (K : PySem.W.Frag) (D C : Addr) : Prop where
  oex : OexC K C
  mro : PySem.W.mroIn K C (.ref D) = some true
  sup : PySem.W.ks_superIn K C D "__init__" = some (some (.builtin "ValueError.__init__"))
  sub : PySem.W.subIn K (.ref C) (.type "ValueError") = some true
  val : PySem.W.findIn K (.ref C) "value" = some none
def spSup (K : PySem.W.Frag) (D : Addr) : Sp := fun vs H Q _ => ∃ (a C : Addr) (v : V), vs = [.ref a, v] ∧ SupC K D C ∧ H a = some (exo a C none) ∧
  ∀ dx, H dx = none → dx ≠ a → Q .non (upd (upd H dx (exd dx [("value", v)])) a (exo a C (some dx)))
section
variable {P : Program} {w : World} {K : PySem.W.Frag} {mg : Str → Option Value} {base : Heap} {M : Model} {A : Around} {E : Value → Shared → Prop} {h : Heap} {g : Array GenState} {d : Drawn} {t : Nat} {os : OsState}
theorem mw_call {u e C t0 : Addr} {nm q : Str} {N : Addr} {bs bm : List Value} {hd : Bool} {sn : List Str} {sub : List Value} {ab : Bool} {col : Option Bool} {dd : Option Addr} {k0 k1 k2 k3 k5 : Option Value} {rest : List Value} {Q : Value → Shared → Prop}
    (hC : h.get? C = some (excClassObj nm q C N bs bm hd sn sub ab col dd k0 k1 k2 k3 k5 "ValueError.__new__")) (he : h.get? e = some ({ cls := .ref C, dict := none, data := .fields #[.ref t0, .none, .none, .none, .bool false, .none] } : Obj))
    (hu : h.get? u = some (PySem.W.kxs_mw "ValueError.__init__" e)) (hr : rest.length ≤ sizeLine)
    (hq : ∀ h' t1, (∀ b o, b ≠ e → h.get? b = some o → h'.get? b = some o) → h'.get? e = some ({ cls := .ref C, dict := none, data := .fields #[.ref t1, .none, .none, .none, .bool false, .none] } : Obj) → Q .none ⟨h', g, d, t, os⟩) :
    wpAny (model P w) A (call (.ref u) rest) Q E ⟨h, g, d, t, os⟩ := by
  refine wpAny_call (codeAny_of_tree ?_)
  show wpAny _ A.in1 (callAny (.ref u) ⟨rest, []⟩) _ _ _
  simp only [callAny]
  refine wpAny_bind (wpAny_load hu ?_)
  simp only [PySem.W.kxs_mw, show (Value.type "method-wrapper" == Value.type "method" || Value.type "method-wrapper" == Value.type "builtin_function_or_method" || Value.type "method-wrapper" == Value.type "method-wrapper") = true by decide, if_true]
  refine PySem.W.KFB.if_so (by decide) (wpAny_bind (PySem.W.check_bound_init F.excBase_ValueError.toExcCallFacts hC he rfl (wpAny_bind (wpAny_pure (wpAny_pure ?_)))))
  refine ⟨plainId_quiet F.excBase_ValueError.init.plain _, codeAny_builtin F.excBase_ValueError.initEntry ?_⟩
  exact PySem.W.exc_init_tree (cls := .ref C) (t0 := t0) (dv := none) (c2 := .none) (c3 := .none) (b4 := .bool false) he hr fun h' k e' _ => hq h' _ k e'
end
section
variable {P : Program} {w : World} {K : PySem.W.Frag} {mg : Str → Option Value} {base : Heap} {fI D cc cda : Addr} {params : Arguments} {scope : Scope} {fd : FuncData} {p0 p1 p2 p3 p4 p5 p6 p7 p8 p9 : Pos}
abbrev supBody (p0 p1 p2 p3 p4 p5 p6 p7 p8 p9 : Pos) : List Stmt :=
  [.Expr (.Call (.Attribute (.Call (.Name "super" p0) [] [] p1) "__init__" p2) [.Name "value" p3] [] p4) p5, .Assign [.Attribute (.Name "self" p6) "value" p7] (.Name "value" p8) p9]
theorem sup_ok {ar : Arg} (S : SupD K P fI D cc cda params (supBody p0 p1 p2 p3 p4 p5 p6 p7 p8 p9) scope fd) (N : NdefX.NScope ["self", "value", "__class__"] ["self", "value"] ["__class__"] scope) (hsu : scope.names.lookup ("super" : Str) = some .globalImplicit)
    (hp : (params.posonlyargs ++ params.args).head? = some ar) (har : ar.arg = "self") (hm : mg "super" = none) (htop : (P.main.scope.names.lookup ("super" : Str)).isSome = false)
    (hcall : ∀ env : Env, ∃ pl : Sem Bool, eval (.Call (.Attribute (.Call (.Name "super" p0) [] [] p1) "__init__" p2) [.Name "value" p3] [] p4) env = (do
      let ov ← attributeBase (.Call (.Name "super" p0) [] [] p1) "__init__" env (eval (.Call (.Name "super" p0) [] [] p1) env)
      standAt p2.atName
      let (f, first) ← holding [ov] (getMethod ov "__init__" pl)
      callWith p4 f first (backTo p4 (starEach [.Name "value" p3] env)) [])) :
    FnOk P w K mg base CX0 1 fI fd ["self", "value"] (spSup K D) := by
  obtain ⟨oc, od, dV, kV, doc, pm, an, ct, osl, hfd, lk⟩ := S.ex
  obtain ⟨fc, fdd, fvs, fsl, file, tf, lkc, hvs, hfile⟩ := S.file
  obtain ⟨c1, c2, c3, lkcc⟩ := S.cell
  obtain ⟨cdD, hD⟩ := S.cls
  refine ⟨fun vs H Q E ⟨a, C, v, e, _⟩ => by rw [e]; rfl, fun A outer s H args us vs Q E hr e0 hb r hsp => ?_⟩
  obtain ⟨a, C, v, rfl, SC, ha, hq⟩ := hsp
  obtain ⟨ua, u, rfl, ra, ru⟩ := vals2 r
  obtain rfl : ua = Value.ref a := ra
  have kb : ∀ b o, base.get? b = some o → s.heap.get? b = some o := fun b o e => (e0.bs b o e).1
  have KX : K.In s.heap := e0.mod.kin.keeps kb
  subst hfd
  let F : NdefX.NF := ⟨"__init__", "CutError.__init__", params, supBody p0 p1 p2 p3 p4 p5 p6 p7 p8 p9, scope, [("__class__", cc)], cda⟩
  have Hcc : H cc = none := (e0.bs cc _ (e0.mod.kin _ _ lkcc)).2
  have cellAt : s.heap.IsCell cc (some (.ref D)) := ⟨_, KX _ _ lkcc, rfl⟩
  have lk1 : ∀ y c, ([("__class__", cc)] : List (Str × Addr)).lookup y = some c → y = "__class__" ∧ c = cc := fun y c e => by
    have z := PySem.mem_of_lookup e
    simp only [List.mem_singleton, Prod.mk.injEq] at z
    exact z
  have CA : NdefX.CellsAt F.cl ["__class__"] [some (.ref D)] s.heap H := ⟨rfl, fun y c e => by
    obtain ⟨_, rfl⟩ := lk1 y c e
    exact ⟨Hcc, _, cellAt⟩, fun x y c e1 e2 => (lk1 x c e1).1.trans (lk1 y c e2).1.symm, fun i y e => by
    match i, e with
    | 0, e =>
      cases e
      refine ⟨cc, by simp [F, List.lookup], fun v0 hv => ?_⟩
      cases hv
      exact ⟨.ref D, rfl, cellAt⟩
    | i + 1, e => simp at e⟩
  refine PySem.ks_codeAny_call_defAt hr.depth (KX _ _ lk) rfl (e0.mod.nolimit.keeps kb) (PySem.W.codeRec_of KX S.code) rfl hb N.nocell (fun x hx => N.par _ (List.of_mem_zip hx).1) (fun h1 hns kp => ?_) N.co N.gen N.kind
  have I : Inv (NdefX.ncx CX0 P w K mg base ["self", "value", "__class__"] F fI A outer s H E) [] (NdefX.startF ["self", "value", "__class__"] [.ref a, v] [some (.ref D)]) H { s with heap := h1, toks := s.toks + ((["self", "value"] : List Str).zip [Value.ref a, u]).length } :=
    NdefX.inv_startN N hr.hd e0 rfl r CA hns kp
  obtain ⟨mb, hbl, hbb⟩ := e0.mod.blt
  have kp0 : ∀ b o, base.get? b = some o → h1.get? b = some o := fun b o e => kp b o (kb b o e)
  have KX1 : K.In h1 := e0.mod.kin.keeps kp0
  obtain ⟨nm, q, Nn, bs, bm, sn, sub, ab, col, dd, k0, k1, k2, k3, k5, hC, hbm⟩ := SC.oex.cls
  obtain ⟨t0, hoa⟩ := exo_at e0.hok ha
  have hoa1 := kp _ _ hoa
  have hDo : ∃ oD, h1.get? D = some oD ∧ oD.data = .cls cdD := by
    unfold PySem.W.clsIn at hD
    split at hD
    · rename_i c d' cd' sl' ho
      cases hD
      exact ⟨_, KX1 _ _ ho, rfl⟩
    · cases hD
  obtain ⟨oD, hD1, hD2⟩ := hDo
  have hself : (((["self", "value"] : List Str).zip [Value.ref a, u]).reverse.lookup ("self" : Str)) = some (.ref a) := NdefX.zip_look (i := 0) (by decide) rfl rfl
  have hval : (((["self", "value"] : List Str).zip [Value.ref a, u]).reverse.lookup ("value" : Str)) = some u := NdefX.zip_look (i := 1) (by decide) rfl rfl
  have KF := PySem.W.kxs_ValueError
  generalize htk : s.toks + ((["self", "value"] : List Str).zip [Value.ref a, u]).length = tk at I ⊢
  obtain ⟨hp0, g0, d0, t00, os0⟩ := s
  obtain ⟨pl, hcall⟩ := hcall (callEnv (PySem.W.fnX "__init__" "CutError.__init__" params (supBody p0 p1 p2 p3 p4 p5 p6 p7 p8 p9) scope [("__class__", cc)] dV kV doc pm an (.ref cda) ct) hp0.objs.size fI)
  refine PySem.ks_wpAt_execs_cons (PySem.ks_wpAt_Expr_any (hi := by unfold interactive; first | (rw [show (callEnv _ _ _).scope.kind = .function from N.kind]; rfl) | simp [callEnv, newEnv, N.kind]) (PySem.ks_wpAt_MethodCall (he := hcall) (PySem.ks_wpAt_super_base (show scope.names.lookup ("super" : Str) = some .globalImplicit from hsu) (N.frk _ (List.mem_singleton.mpr rfl)) (by decide) rfl (KX1 _ _ lk) rfl hp rfl (KX1 _ _ lkc) rfl hvs hfile htop ?_)))
  refine PySem.W.ks_loadName_global N.kind hsu (Calls.loadGlobal_builtin (e0.mod.glob.keeps kp0) hm (hbl.keeps kp0) ((hbb _ (by decide +kernel)).trans (by first | rfl | decide +kernel | kernel_rfl)) ⟨rfl, ?_⟩)
  refine wpAny_loadName_free (c := cc) (v := .ref D) N.kind (N.frk _ (List.mem_singleton.mpr rfl)) (by simp [callEnv, newEnv, List.lookup]) ⟨_, KX1 _ _ lkcc, rfl⟩ ?_
  rw [har]
  refine wpAny_loadName_local N.kind (N.par "self" (by simp)) hns hself ?_
  refine PySem.ks_wpAny_isType_cls hD1 hD2 ⟨rfl, ?_⟩
  refine PySem.ks_wpAny_call_super hD1 hD2 hoa1 rfl (fun c e => by cases e) (PySem.W.looks_mroIn KX1 SC.mro) fun h2 hso kp2 => ?_
  have KX2 : K.In h2 := KX1.keeps kp2
  have hoa2 := kp2 _ _ hoa1
  obtain ⟨cdC, hcC⟩ : ∃ cd, PySem.W.clsIn K C = some cd := ⟨_, by unfold PySem.W.clsIn; rw [hC]⟩
  have hsup := SC.sup
  unfold PySem.W.ks_superIn at hsup
  rw [hcC] at hsup
  have IA : PySem.W.InstAt h2 a ({ cls := .ref C, dict := none, data := .fields #[.ref t0, .none, .none, .none, .bool false, .none] } : Obj) C none := ⟨hoa2, rfl, rfl, trivial⟩
  refine PySem.W.kxs_getMethod KF hso (PySem.W.looks_opaque KX2 S.any) (l₀ := cdC.mro) (fun A Q E s k q => wpAny_bind ((PySem.W.looks_clsIn KX2 hcC) A _ E s k (wpAny_pure q))) rfl KX2 hsup (IA.type.andThen (PySem.W.looks_subIn KX2 SC.sub)) (PySem.W.ks_ne KX2 IA hcC) (by decide) ?_
  have kp3 : ∀ b o, h1.get? b = some o → (h2.push (PySem.W.kxs_mw "ValueError.__init__" a)).get? b = some o := fun b o e => Heap.get?_push_of_some _ (kp2 b o e)
  refine PySem.W.kxs_callWith (i := "ValueError.__init__") (x := a) (by rfl) ?_
  show wpAny _ _ (evalArgs _ true ((false, _) :: _) []) _ _ _
  refine Calls.evalArgs_plain (Calls.spliced_cons (wpAny_Name (wpAny_loadName_local N.kind (N.par "value" (by simp)) (hns.at fun o e => kp3 _ o e) hval (Calls.spliced_nil ?_)) (by decide)))
  refine ⟨Heap.get?_push_size _ rfl, ?_⟩
  refine mw_call (KX2.keeps (fun b o e => Heap.get?_push_of_some _ e) _ _ hC) (kp3 _ _ hoa1) (Heap.get?_push_size _ rfl) (by rw [sizeLine_eq]; show (1 : Nat) ≤ 16777216; decide) fun h4 t4 k4 e4 => ?_
  have I3 := (I.kept (t' := tk + 1) (h' := h2.push (PySem.W.kxs_mw "ValueError.__init__" a)) kp3)
  have I4 := I3.write (t' := tk + 1) (x := a) (e := a) (o := exo a C none) (by rw [ha]; exact True.intro) (.inl rfl) k4 ⟨_, e4⟩ (exo_ok e4)
  have eu : upd H a (exo a C none) = H := by
    funext b
    by_cases hb : b = a
    · rw [hb, upd_same, ha]
    · rw [upd_ne hb]
  rw [eu] at I4
  have P2 := (pss_one (ps_ost (pos := p9) (p' := p7) (pv (X := NdefX.ncx CX0 P w K mg base ["self", "value", "__class__"] F fI A outer ⟨hp0, g0, d0, t00, os0⟩ H E) 0 (x := "self") (pos := p6) rfl (.inl (N.par "self" (by simp)))) (pv 1 (x := "value") (pos := p8) rfl (.inl (N.par "value" (by simp)))))).run [] _ _ H { nx := fun _ H' => Q .non H', rt := Q } I4 (by
    refine ⟨v, rfl, .ref a, rfl, a, C, rfl, SC.oex, SC.val, .inl ⟨ha, hq⟩⟩)
  refine PySem.wpAt_of_wpAny (wpAny_mono P2 (fun fl s' hs => ?_) fun e s' hs => hs)
  have fin : ∀ {σ' : L2.St} {H' : Hp} {v : V} {u : Value}, Inv (NdefX.ncx CX0 P w K mg base ["self", "value", "__class__"] F fI A outer ⟨hp0, g0, d0, t00, os0⟩ H E) [] σ' H' s' → L2.RelV v u → Q v H' → CE outer P w H ⟨hp0, g0, d0, t00, os0⟩ Q u s' :=
    fun {σ' H' v u} J rv q => ⟨v, H', J.os, J.bare, J.base, J.hok, rv, q⟩
  cases fl with
  | ret u =>
    obtain ⟨v, σ', H', J, rv, q⟩ := hs
    exact fin J rv q
  | next =>
    obtain ⟨σ', H', J, q⟩ := hs
    exact fin (v := V.non) (u := Value.none) J rfl q
  | brk =>
    obtain ⟨_, _, _, q⟩ := hs
    exact False.elim q
  | cont =>
    obtain ⟨_, _, _, q⟩ := hs
    exact False.elim q
end
end Pd
namespace Pd
open PySem L2 PyProof.Rows
variable {W : WX}
theorem exq_ok {P : Program} {w : World} {H : Hp} {h : Heap} {a C dx : Addr} {oe : Obj} {vs : Array Value} (e : h.get? a = some oe) (h1 : oe.cls = .ref C) (h2 : oe.dict = some dx) (h3 : oe.data = .fields vs) : ObjOk P w H h a (Exq a C dx) :=
  ⟨⟨oe, vs, e, h1, h2, h3⟩, ⟨oe, e⟩, fun _ _ ⟨o, v, q, r⟩ k => ⟨o, v, k o q, r⟩⟩
theorem exq_nt {a C dx : Addr} (ps : Array Value) : Exq a C dx ≠ .tbl ps := fun z => by
  unfold Exq at z
  cases z
structure HasE (P : Program) (w : World) (K : PySem.W.Frag) (mg : Str → Option Value) (base : Heap) (k : Nat) (C : Addr) : Prop where
  ex : ∃ (D fI : Addr) (fd : FuncData), FnOk P w K mg base CX0 k fI fd ["self", "value"] (spSup K D) ∧ SupC K D C ∧ PySem.W.findIn K (.ref C) "__init__" = some (some (.ref fI)) ∧ PySem.W.typeIn K (.ref fI) = some (.type "function") ∧ Binds K fd ["self", "value"] []
def outX (K : PySem.W.Frag) (g : Gh) (H : Hp) (R : Nat → Addr → D → Prop) (W : Value → Option Addr → Hp → Prop) : Prop :=
  ∀ g' H' n' C dx u r, R n' C r → Stp g H g' H' → Ok K g' H' n' → g'.G dx = some (.xd [("value", u)]) → Den K g' u r → W (.ref C) (some dx) H'
def one (P : Nat → D → Prop) : Nat → List D → Prop := fun n vs => match vs with
  | [v] => P n v
  | _ => False
theorem mkE_ok {K : PySem.W.Frag} {D C : Addr} (SC : SupC K D C) {t : DA} {σ : L2.St} {H : Hp} {Q : XK} {O : OD → Addr → Prop} {g : Gh} {n : Nat} {ε : Ev} {R : Nat → Addr → Pd.D → Prop} (r : Rp K O g H n σ ε) (q : t n ε (one fun n v => R n C v)) (k : outX K g H R Q) : tMkO C (spSup K D) [] (liftA K t) σ H Q := by
  refine ⟨O, g, n, ε, _, r, q, fun vs g1 H1 n1 rs q1 s1 o1 e1 => ?_⟩
  match rs, vs, e1, q1 with
  | [x], [v], .cons ev .nil, q1 =>
    refine ⟨by show (1 : Nat) ≤ 1000; decide, fun a ha => ⟨a, C, v, rfl, SC, upd_same, fun dx hdx hne => ⟨rfl, dx, [("value", v)], upd_same, ?_, ?_, ?_⟩⟩⟩
    · rw [upd_ne hne, upd_same]
    · rw [upd_ne hne] at hdx
      exact hdx
    · have hd : H1 dx = none := by
        rw [upd_ne hne] at hdx
        exact hdx
      have eH : upd (del (upd (upd (upd H1 a (exo a C none)) dx (exd dx [("value", v)])) a (exo a C (some dx))) a) dx (.xd [("value", v)]) = upd H1 dx (.xd [("value", v)]) := by
        funext b
        by_cases h1 : b = dx
        · rw [h1, upd_same, upd_same]
        · rw [upd_ne h1, upd_ne h1]
          by_cases h2 : b = a
          · rw [h2, del_same, ha]
          · rw [del_ne h2, upd_ne h2, upd_ne h1, upd_ne h2]
      rw [eH]
      have ex := (Stp.add (o := .xd [("value", v)]) o1 hd)
      exact k (g1.add dx (.xd [("value", v)])) _ n1 C dx v x q1 (s1.trans ex) (o1.add hd) Gh.at (ev.mono ex.ext)
def dRaise (C : Addr) (t : DA) : DS := fun N n ε => t n ε (one fun n1 v => N.xc n1 ε C v)
section
variable {X : Cx} {k : Nat} {C : Addr} {x : Str} {e : Expr} {t : DA} {p pos pos' : Pos}
theorem pmk_err (G : HasE X.prog X.w X.K X.mg X.base k C) (hr : Room (k + 1) X.A) (hg : Gl X x) (hm : X.mg x = some (.ref C)) (ha : PA X [e] (liftA X.K t)) (hdb : (x == ("__debug__" : Str)) = false := by decide)
    (he : starEach [e] X.env = (false, eval e X.env) :: starEach [] X.env := by rfl) (hpl : (backTo pos (starEach [] X.env)).any (·.1) = false := by rfl) :
    PMk X (.Call (.Name x p) [e] [] pos) (fun σ H Q => ∃ O g n ε R, Rp X.K O g H n σ ε ∧ t n ε (one fun n v => R n C v) ∧ outX X.K g H R Q) := by
  obtain ⟨D, fI, fd, F1, SC, iC, tI, hb⟩ := G.ex
  have z := pmk_oex (pos := pos) (p := p) (ds := []) (dvs := []) SC.oex iC tI F1 hr hb .nil pass0 hg hm ha hdb he hpl
  exact fun pins s σ H Q I ⟨O, g, n, ε, R, r, q, kk⟩ => z pins s σ H Q I (mkE_ok SC r q kk)
theorem ds_raise (G : HasE X.prog X.w X.K X.mg X.base k C) (hc : X.calm = true) (tk : Takes X W) (hr : Room (k + 1) X.A) (hg : Gl X x) (hm : X.mg x = some (.ref C)) (ha : PA X [e] (liftA X.K t)) (hdb : (x == ("__debug__" : Str)) = false := by decide)
    (he : starEach [e] X.env = (false, eval e X.env) :: starEach [] X.env := by rfl) (hpl : (backTo pos (starEach [] X.env)).any (·.1) = false := by rfl) :
    PS X (.Raise (some (.Call (.Name x p) [e] [] pos)) none pos') (liftS W X.K (dRaise C t)) :=
  ps_w (ps_raise hc tk (pmk_err G hr hg hm ha hdb he hpl)) fun E σ H ⟨U, g0, H0, g, n, ε, N, uo, r, s0, q, k1, k2, k3, k4⟩ =>
    ⟨_, g, n, ε, fun n C v => N.xc n ε C v, r, q, fun g' H' n' C dx u v q1 s1 o1 e1 e2 => k4.2.2.2 σ g' H' n' ε C dx v u q1 (r.step s1 o1) (s0.trans s1) e1 e2⟩
end
structure ErrV (K : PySem.W.Frag) (C : Addr) : Prop where
  xf : XfC K C
  val : PySem.W.findIn K (.ref C) "value" = some none
def dVal (cs : List Addr) (d : DE) : DE := fun n ε P => d n ε fun n1 x => match x with
  | .err C v => C ∈ cs ∧ P n1 v
  | _ => False
section
variable {X : Cx} {e : Expr} {pos : Pos} {cs : List Addr} {d : DE}
theorem pe_errv {te : TE} (he : PE X e te) (hb : attributeBase e "value" X.env (eval e X.env) = eval e X.env := by rfl) :
    PE X (.Attribute e "value" pos) (fun σ H Q => te σ H fun x H1 => ∃ a C dx v, x = .ref a ∧ ErrV X.K C ∧ H1 a = some (Exq a C dx) ∧ H1 dx = some (.xd [("value", v)]) ∧ Q v H1) := by
  refine ⟨fun pins s σ H Q I h => attr_of hb (thn (he.run pins s σ H _ I h) fun u s1 hh => ?_)⟩
  obtain ⟨x, H1, I1, rx, a, C, dx, v, rfl, T, h1, h2, q⟩ := hh
  obtain rfl : u = Value.ref a := rx
  obtain ⟨⟨oe, vs, ho, z1, z2, z3⟩, _⟩ := I1.hok a _ h1
  obtain ⟨mA, hns, hr⟩ := (show ObjOk X.prog X.w H1 s1.heap dx (.xd [("value", v)]) from I1.hok dx _ h2)
  obtain ⟨od, hd, hl⟩ := lookIn_ns hns
  obtain ⟨u, hu, ru⟩ := RelO.some_of (v := v) (o := mA "value") (by have z := hr "value"; simpa [List.lookup] using z)
  have J : PySem.W.InstAt s1.heap a oe C (some od) := ⟨ho, z1, by unfold PySem.W.notCls; rw [z3] <;> rfl, by rw [z2]; exact hd⟩
  exact HandSPX.exc_get I1.kIn J T.xf.ga T.xf.gg T.xf.exC (PySem.W.findObj_own T.xf.hdC T.val rfl (by rw [hl, hu])) (handed_of ru) ⟨v, H1, I1.tok _, ru, q⟩
theorem de_errv (T : ∀ C ∈ cs, ErrV X.K C) (he : PE X e (liftE X.K d)) (hb : attributeBase e "value" X.env (eval e X.env) = eval e X.env := by rfl) : PE X (.Attribute e "value" pos) (liftE X.K (dVal cs d)) :=
  de_of (pe_errv he hb) fun O g H n σ ε P Q r q kk => ⟨O, g, n, ε, _, r, q, fun v g1 H1 n1 x q1 s1 o1 e1 => by
    cases e1 with
    | err h1 h2 h3 => exact ⟨_, _, _, _, rfl, T _ q1.1, o1.sub _ _ h1, o1.sub _ _ h2, kk _ g1 H1 n1 _ q1.2 s1 o1 h3⟩
    | _ => exact q1.elim⟩
end
end Pd
namespace Pd
open PySem L2 PyProof.Rows
abbrev FDX := List D → Nat → (Nat → D → Prop) → (Nat → Addr → D → Prop) → Prop
abbrev wE (E : XK) : WX := fun cls d _ H => E cls d H
def liftFX (K : PySem.W.Frag) (f : FDX) : Sp := fun vs H Q E => ∃ g n ds P R, Ok K g H n ∧ Dens K g vs ds ∧ f ds n P R ∧ (∀ v g' H' n' r, P n' r → Stp g H g' H' → Ok K g' H' n' → Den K g' v r → Q v H') ∧ outX K g H R E
def dFnX (N np : Nat) (b : DS) : FDX := fun ds n P R => ds.length = np ∧ b { nx := fun n _ => P n .non, rt := P, xc := fun n _ C v => R n C v } n (envOf N ds)
theorem liftFX_body {K : PySem.W.Frag} {b : DS} {names : List Str} {np : Nat} {vs : List V} {H : Hp} {Q : VK} {E : XK} (h : liftFX K (dFnX names.length np b) vs H Q E) : liftS (wE E) K b { nx := fun _ H' => Q .non H', rt := Q } (L2.start names vs) H := by
  obtain ⟨g, n, ds, P, R, ok, dd, ⟨_, q⟩, k, kx⟩ := h
  exact ⟨fun _ _ => True, g, H, g, n, _, _, ⟨fun _ _ => trivial, fun _ _ _ _ _ => trivial, fun _ _ _ _ => trivial⟩, Rp.start ok dd, Stp.refl g H, q, fun σ' g' H' n' ε' q' r' s' => k .non g' H' n' .non q' s' r'.ok .non, fun _ _ _ _ _ q' _ _ => q'.elim, fun _ _ _ _ _ q' _ _ => q'.elim, k, fun _ _ _ _ _ _ _ q' _ _ _ => q'.elim, fun _ _ _ _ _ _ _ q' _ _ _ => q'.elim,
    fun σ' g' H' n' ε' C dx r v q' r' s' e1 e2 => kx g' H' n' C dx v r q' s' r'.ok e1 e2⟩
theorem liftFX_mono {K : PySem.W.Frag} {f f' : FDX} (h : ∀ ds n P R, f' ds n P R → f ds n P R) : ∀ vs H Q E, liftFX K f' vs H Q E → liftFX K f vs H Q E := fun vs H Q E ⟨g, n, ds, P, R, ok, dd, q, k⟩ => ⟨g, n, ds, P, R, ok, dd, h _ _ _ _ q, k⟩
theorem liftFX_len {K : PySem.W.Frag} {b : DS} {N np : Nat} {vs : List V} {H : Hp} {Q : VK} {E : XK} (h : liftFX K (dFnX N np b) vs H Q E) : vs.length = np := by
  obtain ⟨g, n, ds, P, R, ok, dd, ⟨q, _⟩, k⟩ := h
  rw [dd.length]
  exact q
structure HasMX (P : Program) (w : World) (K : PySem.W.Frag) (mg : Str → Option Value) (base : Heap) (k : Nat) (C : Addr) (m : Str) (ps : List Str) (dd : List D) (sp : FDX) : Prop where
  ex : ∃ f fd dvs ds, FnOk P w K mg base (L2.CX P w) k f fd ps (liftFX K sp) ∧ Cls K C ∧ Meth K C m f ∧ Binds K fd ps ds ∧ Vals dvs ds ∧ ∀ g, Dens K g dvs dd
section
variable {P : Program} {w : World} {K : PySem.W.Frag} {mg : Str → Option Value} {base : Heap} {k : Nat} {f C : Addr} {ps : List Str} {x m qual : Str} {params : Arguments} {body : List Stmt} {scope : Scope} {N : List Str} {b : DS} {sp : FDX}
theorem fnX_ok {fd : FuncData} {dvs : List V} {kws : List (Str × V)} (F : FunD K x qual params body scope dvs kws f fd) (S : FnScope N ps scope)
    (hb : ∀ (cdv : Value) (A : Around) (outer : List Env) (s : Shared) (H : Hp) (E : XK), Room k (A.deeper (PyProof.Rows.envOfC qual scope s.heap.objs.size f cdv)) → PSs (cxOf (L2.CX P w) P w K mg base N qual scope f cdv A outer s H E) body (liftS (wE E) K b))
    (hs : ∀ ds n Q R, sp ds n Q R → dFnX N.length ps.length b ds n Q R) : FnOk P w K mg base (L2.CX P w) (k + 1) f fd ps (liftFX K sp) := by
  have z := F.ok (CX := L2.CX P w) (mg := mg) (base := base) (k := k) (sp := liftFX K (dFnX N.length ps.length b)) S (fun vs H Q E h => liftFX_len h) fun cdv A outer s H vs Q E hr h => ⟨_, hb cdv A outer s H E hr, liftFX_body h⟩
  exact z.imp (liftFX_mono hs)
theorem has_mx (cl : Cls K C) (M : Meth K C m f) (D : ∃ fd, FunD K x qual params body scope [] [] f fd) (S : FnScope N ps scope)
    (hbind : ∀ (kV doc pm : Value) (an : Option Addr) (cdv ct : Value) (us : List Value), us.length = ps.length → bindArgs (PySem.W.fnOf x qual params body scope .none kV doc pm an cdv ct) ⟨us, []⟩ = pure (ps.zip us))
    (hb : ∀ (fd : FuncData) (cdv : Value) (A : Around) (outer : List Env) (s : Shared) (H : Hp) (E : XK), Room k (A.deeper (PyProof.Rows.envOfC qual scope s.heap.objs.size f cdv)) → PSs (cxOf (L2.CX P w) P w K mg base N qual scope f cdv A outer s H E) body (liftS (wE E) K b))
    (hs : ∀ ds n Q R, sp ds n Q R → dFnX N.length ps.length b ds n Q R) : HasMX P w K mg base (k + 1) C m ps [] sp := by
  obtain ⟨fd, F⟩ := D
  exact ⟨f, fd, [], [], fnX_ok F S (fun cdv A outer s H E hr => hb fd cdv A outer s H E hr) hs, cl, M, F.bindsN hbind, .nil, fun _ => .nil⟩
end
abbrev DXc := Nat → Ev → (Nat → D → Prop) → (Nat → Addr → D → Prop) → Prop
def liftXc (E : XK) (K : PySem.W.Frag) (d : DXc) : TE := fun σ H Q => ∃ O g n ε P R, Rp K O g H n σ ε ∧ d n ε P R ∧ (∀ v g' H' n' r, P n' r → Stp g H g' H' → Ok K g' H' n' → Den K g' v r → Q v H') ∧ outX K g H R E
def dMethR (C : Addr) (m : Str) (sp : FDX) (dd : List D) (d : DE) (t : DA) : DXc := fun n ε P R => d n ε fun n1 x => match x with
  | .obj C' fs => C' = C ∧ fs.lookup m = none ∧ t n1 ε fun n2 ds => sp (.obj C' fs :: (ds ++ dd)) n2 P R
  | _ => False
theorem outX.step {K : PySem.W.Frag} {g g' : Gh} {H H' : Hp} {R : Nat → Addr → D → Prop} {W : Value → Option Addr → Hp → Prop} (k : outX K g H R W) (s : Stp g H g' H') : outX K g' H' R W := fun g2 H2 n2 C dx u r q s2 o2 e1 e2 => k g2 H2 n2 C dx u r q (s.trans s2) o2 e1 e2
section
variable {X : Cx} {k : Nat} {f C : Addr} {ps : List Str} {sp : FDX} {dvs : List V} {dd : List D} {ds : List Value} {E : XK} {x m : Str} {p pos apos : Pos} {e o c a b : Expr} {es : List Expr} {da : DE} {t : DA} {d dx dy : DXc} {u : DT}
theorem methR_ok {K : PySem.W.Frag} (hd : ∀ g, Dens K g dvs dd) : ∀ σ H Q, liftXc E K (dMethR C m sp dd da t) σ H Q → tMeth C m (liftFX K sp) dvs E (liftE K da) (liftA K t) σ H Q := fun σ H Q ⟨O, g, n, ε, P, R, r, q, kk, kx⟩ =>
  ⟨O, g, n, ε, _, r, q, fun v g1 H1 n1 x q1 s1 o1 e1 => by
    cases e1 with
    | obj h1 h2 =>
      obtain ⟨rfl, l, q2⟩ := q1
      exact ⟨_, _, _, rfl, o1.sub _ _ h1, h2.lookupN l, O, g1, n1, ε, _, r.step s1 o1, q2, fun vs g2 H2 n2 d2 q3 s3 o3 e3 => ⟨g2, n2, _, P, R, o3, .cons ((Den.obj h1 h2).mono s3.ext) (e3.append (hd g2)), q3, fun v2 g4 H4 n4 z q4 s4 o4 e4 => kk v2 g4 H4 n4 z q4 ((s1.trans s3).trans s4) o4 e4, kx.step (s1.trans s3)⟩⟩
    | _ => exact q1.elim⟩
theorem de_methR {pl : Sem Bool} (G : HasMX X.prog X.w X.K X.mg X.base k C m ps dd sp) (tk : Takes X (wE E)) (hr : Room k X.A) (ho : PE X o (liftE X.K da)) (ha : PA X (e :: es) (liftA X.K t))
    (hst : starEach (e :: es) X.env = (false, eval e X.env) :: starEach es X.env := by rfl) (hpl : (backTo pos (starEach es X.env)).any (·.1) = false := by rfl)
    (ht : eval (.Call (.Attribute o m apos) (e :: es) [] pos) X.env = (do
      let ov ← eval o X.env
      standAt apos.atName
      let (f, first) ← holding [ov] (getMethod ov m pl)
      callWith pos f first (backTo pos (starEach (e :: es) X.env)) (backToKw pos (keywordEach [] X.env))) := by rfl) :
    PE X (.Call (.Attribute o m apos) (e :: es) [] pos) (liftXc E X.K (dMethR C m sp dd da t)) := by
  obtain ⟨f, fd, dvs, ds, F, c, M, hb, hv, hd⟩ := G.ex
  exact pe_w (pe_meth ho c M F hr hb hv (E := E) (passes_call tk fun _ _ _ _ h => h) ha hst hpl ht) (methR_ok hd)
end
end Pd
namespace Pd
open PySem L2 PyProof.Rows
end Pd
namespace Pd
open PySem L2 PyProof.Rows
section
variable {X : Cx} {pins : List (Addr × Obj)} {σ : L2.St} {H : Hp} {s : Shared}
theorem Inv.track {a : Addr} {o : HO} (I : Inv X pins σ H s) (hn : H a = none) (h0 : X.s_0.heap.get? a = none) (hp : ∀ p ∈ X.pn ++ pins, p.1 ≠ a) (hl : X.env.locals ≠ a) (hc : ∀ x c, X.env.cells.lookup x = some c → c ≠ a) (hob : ObjOk X.prog X.w (upd H a o) s.heap a o) : Inv X pins σ (upd H a o) s := by
  have n0 : ∀ {b : Addr} {u : Obj}, X.s_0.heap.get? b = some u → b ≠ a := fun {b u} e z => by
    rw [z, h0] at e
    cases e
  refine ⟨I.ok, I.os, I.bare, ⟨I.base.keep, I.base.slot, fun b u e n hx => ?_, I.base.there, fun b xs e => ?_, fun b ob u e => ?_, fun b ps e => ?_⟩, I.loc, I.cell, ?_, fun x c e => ?_, fun p hpp => ?_, fun b u e => ?_, I.len⟩
  · rw [upd_ne (n0 e)]
    exact I.base.free b u e n hx
  · have q := I.base.tups b xs e
    rw [upd_ne (ne_of_none q hn)]
    exact q
  · have q := I.base.frzs b ob u e
    rw [upd_ne (ne_of_none q hn)]
    exact q
  · obtain ⟨m, q⟩ := I.base.tbls b ps e
    exact ⟨m, by rw [upd_ne (ne_of_none q hn)]; exact q⟩
  · rw [upd_ne hl]
    exact I.free
  · rw [upd_ne (hc x c e)]
    exact I.freeC x c e
  · obtain ⟨p1, p2, p3⟩ := I.pin p hpp
    exact ⟨p1, by rw [upd_ne (hp p hpp)]; exact p2, p3⟩
  · by_cases hb : b = a
    · subst hb
      rw [upd_same] at e
      cases e
      exact hob
    · rw [upd_ne hb] at e
      exact (I.hok b u e).stay (fun _ _ _ q => q) (fun c q => by rw [upd_ne (ne_of_none q hn)]; exact q) fun c xs q => by rw [upd_ne (ne_of_none q hn)]; exact q
end
def wKeep (K : PySem.W.Frag) (c : Value) (i : Nat) (ts : Addr → TS) (D : Ends) : WX := fun cls d σ H => ∃ C dx, cls = .ref C ∧ d = some dx ∧ PySem.W.exmOne K cls c = some true ∧ ∀ a, H a = none →
  ts a { nx := fun σ' H' => D.nx (σ'.set i none) (upd H' a (Exq a C dx)), rt := fun _ _ => False, bk := fun _ _ => False, ct := fun _ _ => False } (σ.set i (some (.ref a))) H
section
variable {X : Cx} {x n : Str} {c : Value} {i : Nat} {body suite : List Stmt} {b₀ : Stmt} {np pos pos' : Pos} {tb : WX → TS} {ts : Addr → TS}
theorem ps_try_keep (hs : X.stack = X.env :: X.outer) (hf : X.env.frame = some X.env.locals) (hex : X.ex = []) (hN : X.N.Nodup) (hi : X.N[i]? = some n) (hln : X.env.kindOf n = some .local) (hc : Names X x c)
    (hb : ∀ (W : WX) (pn : List (Addr × Obj)) (xe : Value → Shared → Prop), Takes (X.tr pn xe) W → PassesOwn (model X.prog X.w) X.A X.env xe → PSs (X.tr pn xe) body (tb W))
    (hsu : ∀ (a : Addr) (oe : Obj) (pn : List (Addr × Obj)), PSs (X.suite a ((a, oe) :: pn)) (b₀ :: suite) (ts a)) :
    PS X (.Try body [.ExceptHandler (some (.Name x np)) (some n) (b₀ :: suite) pos'] [] [] pos) (fun D σ H => tb (wKeep X.K c i ts D) D σ H) := by
  refine ⟨fun pins s σ H D I h => ?_⟩
  have frs0 : X.A.frames = some (X.env :: X.outer) := by rw [I.ok.frames, hs]
  let hnds : List ExceptHandler := [.ExceptHandler (some (.Name x np)) (some n) (b₀ :: suite) pos']
  let caught : Value → Shared → Prop := fun e s₁ => wpAny (model X.prog X.w) X.A (noteFrame e X.env) (fun _ s₂ => wpAny (model X.prog X.w) X.A (setFlight e none) (fun _ s₃ => wpAny (model X.prog X.w) X.A (handleBy e X.env hnds) (SP X pins D) X.xe s₃) X.xe s₂) X.xe s₁
  have tk : Takes (X.tr (X.pn ++ pins) caught) (wKeep X.K c i ts D) := by
    intro u s' xx
    obtain ⟨a, B, sI, pins', σ1, H1, cls, d, rfl, J', nb, up, sky, na, os, ag, C, dx, rfl, rfl, hm, hq⟩ := xx
    have J : Inv X pins σ1 H1 sI := J'.ofTry I.ok
    refine Sky.land Zc.steady frs0 hf (show Sky B (X.env :: X.outer) a (Zc (.ref C) (some dx)) X.env.locals s'.heap by rw [← hs]; exact sky) fun h3 f3 up3 => ?_
    have J3 := J.landed (s' := { s' with heap := h3 }) nb f3.1 (up.trans up3) os ag
    obtain ⟨oe3, vs3, he3, hz3, hd3⟩ := f3.there
    have off : a ∉ frs (X.env :: X.outer) := fun hm2 => by
      obtain ⟨_, o', e', hnf⟩ := f3.2.2.1.mem hm2
      rw [he3] at e'
      cases e'
      exact hnf _ hd3
    have nL : a ≠ X.env.locals := fun z => off (List.mem_filterMap.mpr ⟨X.env, List.mem_cons_self, by rw [hf, z]⟩)
    have nF : a ∉ X.fs := fun hm2 => by
      obtain ⟨e, he, q⟩ := List.mem_filterMap.mp hm2
      exact off (List.mem_filterMap.mpr ⟨e, List.mem_cons_of_mem _ he, q⟩)
    have newI : sI.heap.get? a = none := by
      cases e : sI.heap.get? a with
      | none => rfl
      | some o =>
        have z := nb a o e (by rw [hs]; exact off)
        rw [f3.2.1] at z
        cases z
    have new0 : X.s_0.heap.get? a = none := by
      cases e : X.s_0.heap.get? a with
      | none => rfl
      | some o =>
        obtain ⟨o', z⟩ := J.base.there a o e (by rw [hex]; exact fun z => nomatch z)
        rw [newI] at z
        cases z
    have newP : ∀ p ∈ X.pn ++ pins, p.1 ≠ a := fun p hp z => by
      have q := (J.pin p hp).1
      rw [z, newI] at q
      cases q
    have newC : ∀ y cc, X.env.cells.lookup y = some cc → cc ≠ a := fun y cc e z => by
      obtain ⟨v, o, q, _⟩ := J.cell y cc e
      rw [z, newI] at q
      cases q
    refine wpAny_handleBy_cons (codeAny_handlers_test ?_) (by intro q; cases q)
    have S3 := J3.suite he3 hd3 na nL nF
    have LT : PySem.W.Looks (model X.prog X.w) h3 (typeOf (.ref a)) (.ref C) := fun A Q E s k q => wpAny_typeOf_ref (k _ _ he3) (by rw [hz3.1]; exact q)
    have said : ∀ {Q E : Value → Shared → Prop}, Q c { s' with heap := h3 } → wpAny (model X.prog X.w) (X.A.mark (some (.ref a))) (eval (.Name x np) X.env) Q E { s' with heap := h3 } := fun {Q E} q => by
      obtain ⟨g1, g2, g3 | ⟨g3, g4, g5⟩⟩ := hc
      · exact ld_glob (X := X.suite a ((a, oe3) :: (X.pn ++ pins))) S3 g1 g3 q g2
      · exact ld_blt (X := X.suite a ((a, oe3) :: (X.pn ++ pins))) S3 g1 g3 g4 q g5 g2
    refine said ((PySem.W.exm_one (M := model X.prog X.w) J3.kIn LT hm).here (codeAny_handlers_suite_as (HandSPX.lands_againZ f3 fun h4 f4 up4 => ?_)))
    obtain ⟨oe4, vs4, he4, hz4, hd4⟩ := f4.there
    have S4 := (J.landed (s' := { s' with heap := h4 }) nb f4.1 ((up.trans up3).trans up4) os ag).suite he4 hd4 na nL nF
    refine store_ok (X := X.suite a ((a, oe4) :: (X.pn ++ pins))) (v := .ref a) S4 hN hi (.inl hln) rfl (fun s5 S5 => ?_) (.inr hln)
    refine wpAny_mono ((hsu a oe4 (X.pn ++ pins)).run [] s5 _ H1 _ S5 (hq a na)) (fun fl s6 hsp => ?_) fun _ _ z => False.elim z
    cases fl with
    | next =>
      obtain ⟨σ6, H6, S6, q6⟩ := hsp
      refine gone_ok (X := X.suite a ((a, oe4) :: (X.pn ++ pins))) S6 hN hi hln fun s7 S7 => ?_
      obtain ⟨p1, p2, _⟩ := S7.pin (a, oe4) (List.mem_append_left _ List.mem_cons_self)
      exact ⟨_, _, Inv.track (S7.unsuite I.ok) p2 new0 newP (Ne.symm nL) newC (exq_ok p1 hz4.1 hz4.2 hd4), q6⟩
    | brk =>
      obtain ⟨_, _, _, q6⟩ := hsp
      exact q6.elim
    | cont =>
      obtain ⟨_, _, _, q6⟩ := hsp
      exact q6.elim
    | ret u =>
      obtain ⟨_, _, _, _, _, q6⟩ := hsp
      exact q6.elim
  refine wpAny_Try_except (wpAny_mono ((hb _ _ caught tk PassesOwn.looking).run [] s σ H D (I.toTry _) h) (fun fl s1 hsp => ?_) fun e s1 he => he)
  cases fl with
  | next =>
    obtain ⟨σ', H', J', q⟩ := hsp
    exact wpAny_execs_nil ⟨σ', H', J'.ofTry I.ok, q⟩
  | brk =>
    obtain ⟨σ', H', J', q⟩ := hsp
    exact ⟨σ', H', J'.ofTry I.ok, q⟩
  | cont =>
    obtain ⟨σ', H', J', q⟩ := hsp
    exact ⟨σ', H', J'.ofTry I.ok, q⟩
  | ret u =>
    obtain ⟨v, σ', H', J', r, q⟩ := hsp
    exact ⟨v, σ', H', J'.ofTry I.ok, r, q⟩
end
end Pd
namespace Pd
open PySem L2 PyProof.Rows LamX
abbrev hearCx (X : Cx) (Ng : List Str) (q : Str) (sg : Scope) (g : Addr) (cdg : Value) (s : Shared) (H : Hp) : Cx := cxOf C8.CX0 X.prog X.w X.K X.mg X.base Ng q sg g cdg X.A X.stack s H C8.E0
section
variable {X : Cx} {pins : List (Addr × Obj)} {σ : L2.St} {H : Hp} {s : Shared}
theorem pe_lamAct {Ng : List Str} {qg : Str} {sg : Scope} {g f c' : Addr} {cdg pm ctv : Value} {params : Arguments} {body : Expr} {scope : Scope} {k i : Nat} {a : Str} {pn : List (Addr × Obj)} {xe : Value → Shared → Prop} {W : WX} {tb : XK → TE} {p1 p2 : Pos}
    (I : Inv X pins σ H s) (L : LamS X.env.scope scope) (hobj : s.heap.get? f = some (PySem.W.kla_obj "<lambda>" (X.env.qual ++ "<lambda>") params body scope (cloFrom X.env.cells scope.names []) pm c' ctv)) (hfn : H f = none) (hfr : f ∉ frs X.stack)
    (hbind : bindArgs (PySem.W.kla_fn "<lambda>" (X.env.qual ++ "<lambda>") params body scope (cloFrom X.env.cells scope.names []) pm (.ref c') ctv) ⟨[], []⟩ = pure [])
    (tk : Takes ((hearCx X Ng qg sg g cdg s H).tr pn xe) W) (hr : Room (k + 1) (X.A.deeper (envOfC qg sg s.heap.objs.size g cdg)))
    (hbody : ∀ (A : Around) (outer : List Env) (s : Shared) (H : Hp) (E : XK), Room k (A.deeper (lamEnv X scope s.heap.objs.size f c')) → PE (lamCx X A outer s H E scope f c') body (tb E))
    (hN : Ng[i]? = some a) (hv : Vis sg a) (hd : (a == ("__debug__" : Str)) = false := by decide) (hcd : (a == ("__classdict__" : Str)) = false := by decide) :
    PE ((hearCx X Ng qg sg g cdg s H).tr pn xe) (.Call (.Name a p1) [] [] p2)
      (fun σZ HZ Q => σZ[i]? = some (some (.ref f)) ∧ HZ c' = some (CodeO c' (X.env.qual ++ "<lambda>")) ∧ ∃ E : XK, (∀ cls d H', E cls d H' → W cls d σZ H') ∧ tb E σ HZ Q) := by
  refine ⟨fun pz sz σZ HZ Q IZ hyp => ?_⟩
  obtain ⟨slot, code, E, hE, hq⟩ := hyp
  refine wpAny_Call_Name_kw (thn ((pe_var (pos := p1) (i := i) hN hv hd hcd).run pz sz σZ HZ (fun v K1 => v = .ref f ∧ K1 = HZ) IZ ⟨.ref f, slot, rfl, rfl⟩) fun u s1 ⟨v, K1, I1, r1, ev, eK⟩ => ?_)
  subst ev
  rw [eK] at I1
  obtain rfl : u = Value.ref f := r1
  have still := I1.base.keep f _ hobj hfn hfr (fun z => nomatch (show f ∈ ([] : List Addr) from z))
  refine PySem.W.callWith_F0 ⟨_, _, _, _, still⟩ (wpAny_call ?_)
  obtain ⟨⟨oc, fs, t, ho, hd1, hd2⟩, _, _⟩ := I1.hok c' _ code
  have un : Un (frs X.stack) [] H HZ s.heap s1.heap := I1.base
  have done : codeAny (model X.prog X.w) (X.A.deeper (envOfC qg sg s.heap.objs.size g cdg)) (.call (.ref f) ⟨[] ++ [], []⟩) (CR (L2.CX X.prog X.w) (envOfC qg sg s.heap.objs.size g cdg :: X.stack) X.prog X.w HZ s1 Q E) s1 := by
    refine PySem.W.kla_callFunE hr.depth still rfl L.co L.gen rfl ⟨c', oc, fs, t, rfl, ho, hd1, hd2⟩ ?_
    show wpAny _ _ (bindArgs _ ⟨[], []⟩) _ _ _
    rw [hbind]
    refine wpAny_pure (wpAny_newFunctionEnv (fun y hy => (L.own y hy).2) (fun y hy => absurd hy (by simp)) (fun h₁ hns hsb => ⟨I1.nolimit.fresh _ hsb, ?_⟩) L.kind)
    have kp : ∀ b o, s1.heap.get? b = some o → h₁.get? b = some o := fun b o e => hsb.extBut b o (Nat.ne_of_lt (Heap.lt_size e)) (Heap.get?_push_of_some _ e)
    have J : Inv (lamCx X (X.A.deeper (envOfC qg sg s.heap.objs.size g cdg)) (envOfC qg sg s.heap.objs.size g cdg :: X.stack) s1 HZ E scope f c') [] σ HZ { s1 with heap := h₁, toks := s1.toks + ([] : List (Str × Value)).length } := lam_start2 I L I1.env0 hr.hd un hns kp
    refine PySem.W.kla_codeExpr (wpAny_mono ((hbody _ _ s1 HZ E (hr.deeper _)).run [] _ _ HZ Q J hq) (fun v s' hv => ?_) fun e s' he => he)
    obtain ⟨w', H', J', rv, q⟩ := hv
    exact ⟨w', H', J'.os, J'.bare, J'.base, J'.hok, rv, q⟩
  refine codeAny_mono done fun r s' hr' => ?_
  cases r with
  | error e => exact tk e s' (XE.of_call I1 (fun cls d H' z => hE cls d H' z) hr')
  | ok fl =>
    cases fl with
    | ret u => exact I1.after hr'
    | next => exact False.elim hr'
    | brk => exact False.elim hr'
    | cont => exact False.elim hr'
end
theorem pe_wish {X : Cx} {e : Expr} {t : TE} (h : PE X e t) : PE X e (fun σ H Q => ∃ Q' : VK, (∀ v H', Q' v H' → Q v H') ∧ t σ H Q') :=
  ⟨fun pins s σ H Q I ⟨Q', m, q⟩ => wpAny_mono (h.run pins s σ H Q' I q) (fun _ _ ⟨v, H1, I1, r1, q1⟩ => ⟨v, H1, I1, r1, m _ _ q1⟩) fun _ _ z => z⟩
def hearT (K : PySem.W.Frag) (CS : Addr) (tl : XK → Hp → VK → Prop) (H : Hp) (Q : VK) : Prop := ∀ p, H p = none →
  tl (fun cls d H' => ∃ C dx, cls = .ref C ∧ d = some dx ∧ PySem.W.exmOne K (.ref C) (.ref CS) = some true ∧ ∀ a p2, H' a = none → upd H' a (Exq a C dx) p2 = none → Q (.ref p2) (upd (upd H' a (Exq a C dx)) p2 (.tup [.ref a, .non])))
    (upd H p (.tup [.non, .non])) (fun v H' => ∀ p2, H' p2 = none → Q (.ref p2) (upd H' p2 (.tup [.non, v])))
section
variable {X : Cx} {l ct bk er cn qg q : Str} {sg : Scope} {g CS : Addr} {cdg : Value} {s : Shared} {H : Hp} {f c' : Addr} {Q : VK} {tl : XK → Hp → VK → Prop}
  {a1 a2 a3 a4 a5 a6 a7 b1 b2 b3 b4 b5 b6 b7 b8 b9 c1 c2 c3 c4 c5 : Pos} {m1 m2 m3 m4 m5 : Nat}
abbrev hearBody (l ct bk er cn : Str) (a1 a2 a3 a4 a5 a6 a7 b1 b2 b3 b4 b5 b6 b7 b8 b9 c1 c2 c3 c4 c5 : Pos) : List Stmt :=
  [.Assign [.Tuple [.Name ct a1, .Name bk a2] 0 a3] (.Tuple [.Constant .none 0 a4, .Constant .none 0 a5] 0 a6) a7,
   .Try [.Assign [.Name bk b1] (.Call (.Name l b2) [] [] b3) b4] [.ExceptHandler (some (.Name cn b5)) (some er) [.Assign [.Name ct b6] (.Name er b7) b8] b9] [] [] c1,
   .Return (some (.Tuple [.Name ct c2, .Name bk c3] 0 c4)) c5]
theorem hear_body (S : FnScope [l, ct, bk, er] [l] sg) (hl : sg.names.lookup l = some .local) (hct : sg.names.lookup ct = some .local) (hbk : sg.names.lookup bk = some .local) (her : sg.names.lookup er = some .local) (hcn : sg.names.lookup cn = some .globalImplicit) (hmn : X.mg cn = some (.ref CS)) (hdn : (cn == ("__debug__" : Str)) = false)
    (d1 : ∀ x ∈ [l, ct, bk, er], (x == ("__debug__" : Str)) = false) (d2 : ∀ x ∈ [l, ct, bk, er], (x == ("__classdict__" : Str)) = false)
    (act : ∀ (W : WX) (pn : List (Addr × Obj)) (xe : Value → Shared → Prop) (p1 p2 : Pos), Takes ((hearCx X [l, ct, bk, er] qg sg g cdg s H).tr pn xe) W →
      PE ((hearCx X [l, ct, bk, er] qg sg g cdg s H).tr pn xe) (.Call (.Name l p1) [] [] p2) (fun σZ HZ Q => σZ[0]? = some (some (.ref f)) ∧ HZ c' = some (CodeO c' q) ∧ ∃ E : XK, (∀ cls d H', E cls d H' → W cls d σZ H') ∧ tl E HZ Q))
    (hw : ∀ env : Env, env.scope = sg → swappedStores [.Tuple [.Name ct a1, .Name bk a2] 0 a3] (.Tuple [.Constant .none 0 a4, .Constant .none 0 a5] 0 a6) env = pure none)
    (hcode : H c' = some (CodeO c' q)) (h : hearT X.K CS tl H Q) :
    ∃ t, PSs (hearCx X [l, ct, bk, er] qg sg g cdg s H).nox (hearBody l ct bk er cn a1 a2 a3 a4 a5 a6 a7 b1 b2 b3 b4 b5 b6 b7 b8 b9 c1 c2 c3 c4 c5) t ∧ t { nx := fun _ H' => Q .non H', rt := Q } (L2.start [l, ct, bk, er] [.ref f]) H := by
  have nd := S.nd
  let Z := (hearCx X [l, ct, bk, er] qg sg g cdg s H).nox
  have i1 : PS Z (.Assign [.Tuple [.Name ct a1, .Name bk a2] 0 a3] (.Tuple [.Constant .none 0 a4, .Constant .none 0 a5] 0 a6) a7) _ :=
    ps_asg (pe_tup (pa_cons pe_non (pa_cons pe_non pa_nil))) (pg_tup rfl (pgs_cons (pg_name (i := 1) nd rfl (.inl hct) (.inl rfl)) (pgs_cons (pg_name (i := 2) nd rfl (.inl hbk) (.inl rfl)) pgs_nil))) (hw := hw _ rfl)
  have i3 : PS Z (.Return (some (.Tuple [.Name ct c2, .Name bk c3] 0 c4)) c5) _ :=
    ps_ret (pe_tup (pa_cons (pv 1 (x := ct) rfl (.inl hct) (d1 _ (by simp)) (d2 _ (by simp))) (pa_cons (pv 2 (x := bk) rfl (.inl hbk) (d1 _ (by simp)) (d2 _ (by simp))) pa_nil)))
  have i2 : PS Z (.Try [.Assign [.Name bk b1] (.Call (.Name l b2) [] [] b3) b4] [.ExceptHandler (some (.Name cn b5)) (some er) [.Assign [.Name ct b6] (.Name er b7) b8] b9] [] [] c1) _ :=
    ps_try_keep (X := Z) (c := .ref CS) (i := 3) (tb := fun W D σ H => ∃ (Q' : VK), (∀ v H', Q' v H' → D.nx (σ.set 2 (some v)) H') ∧ (σ[0]? = some (some (.ref f)) ∧ H c' = some (CodeO c' q) ∧ ∃ E : XK, (∀ cls d H', E cls d H' → W cls d σ H') ∧ tl E H Q'))
      rfl rfl rfl nd rfl her ⟨hcn, hdn, .inl hmn⟩ (fun W pn xe tk _ => pss_one (ps_set (i := 2) nd rfl (.inl hbk) (pe_wish (act W pn xe b2 b3 tk)) rfl (.inl rfl)))
      (fun a oe pn => pss_one (ps_set (i := 1) nd rfl (.inl hct) (pv 3 (x := er) rfl (.inl her) (d1 _ (by simp)) (d2 _ (by simp))) rfl (.inl rfl)))
  refine ⟨_, pss_cons i1 (pss_cons i2 (pss_one i3)), ?_⟩
  refine ⟨sz (by decide), fun p hp => ⟨p, _, rfl, SqT.of upd_same, rfl, _, _, rfl, _, _, rfl, rfl, ?_⟩⟩
  have nc : c' ≠ p := fun z => by
    rw [z, hp] at hcode
    cases hcode
  refine ⟨_, fun v H' z => ⟨_, rfl, _, rfl, sz (by show (2 : Nat) ≤ 16777216; decide), z⟩, rfl, by rw [upd_ne nc]; exact hcode, _, fun cls d H' z => ?_, h p hp⟩
  obtain ⟨C, dx, rfl, rfl, em, fin⟩ := z
  exact ⟨C, dx, rfl, rfl, em, fun a ha => ⟨_, rfl, ⟨_, rfl, _, rfl, sz (by show (2 : Nat) ≤ 16777216; decide), fun p2 hp2 => fin a p2 ha hp2⟩⟩⟩
end
end Pd
namespace Pd
open PySem L2 PyProof.Rows LamX
section
variable {X : Cx} {pins : List (Addr × Obj)} {σ : L2.St} {H H' : Hp} {s : Shared}
theorem Inv.forget (I : Inv X pins σ H s) (hs : ∀ b, H' b = H b ∨ (H' b = none ∧ ∃ ps, H b = some (.tbl ps))) (ht : ∀ b ps, X.H_0 b = some (.tbl ps) → H' b = H b) : Inv X pins σ H' s := by
  have stay : ∀ {b : Addr} {u : HO}, H b = some u → (∀ ps, u ≠ .tbl ps) → H' b = some u := fun {b u} e n => by
    rcases hs b with z | ⟨_, ps, z⟩
    · rw [z]
      exact e
    · rw [e] at z
      exact (n ps (Option.some.inj z)).elim
  have gone : ∀ {b : Addr}, H b = none → H' b = none := fun {b} e => by
    rcases hs b with z | ⟨z, _⟩
    · rw [z]
      exact e
    · exact z
  refine ⟨I.ok, I.os, I.bare, ⟨I.base.keep, I.base.slot, fun b u e n hx => gone (I.base.free b u e n hx), I.base.there, fun b xs e => stay (I.base.tups b xs e) fun ps z => (by cases z), fun b ob u e => stay (I.base.frzs b ob u e) fun ps z => (by cases z), fun b ps e => ?_⟩, I.loc, I.cell, gone I.free, fun x c e => gone (I.freeC x c e), fun p hp => ?_, fun b u e => ?_, I.len⟩
  · rw [ht b ps e]
    exact I.base.tbls b ps e
  · obtain ⟨p1, p2, p3⟩ := I.pin p hp
    exact ⟨p1, gone p2, p3⟩
  · have e' : H b = some u := by
      rcases hs b with z | ⟨z, _⟩
      · rw [← z]
        exact e
      · rw [z] at e
        cases e
    exact (I.hok b u e').stay (fun _ _ _ q => q) (fun c q => stay q fun ps z => by cases z) fun c xs q => stay q fun ps z => by cases z
end
def TAll (T : List (Addr × Str)) (H : Hp) : Prop := ∀ a ps, H a = some (.tbl ps) → ∃ q, (a, q) ∈ T
def tHear (K : PySem.W.Frag) (T : List (Addr × Str)) (CS : Addr) (t : XK → TE) : TE := fun σ H Q => Tabs T H ∧ TAll T H ∧ ∀ H1, ExtN H H1 → Tabs T H1 → TAll T H1 → hearT K CS (fun E H' Q' => t E σ H' Q') H1 Q
section
variable {X : Cx} {x l ct bk er cn : Str} {g c P CS : Addr} {k : Nat} {pg : Arguments} {sg : Scope} {fd : FuncData} {T : List (Addr × Str)} {params : Arguments} {body : Expr} {scope : Scope} {t : XK → TE} {p lpos pos : Pos}
  {a1 a2 a3 a4 a5 a6 a7 b1 b2 b3 b4 b5 b6 b7 b8 b9 c1 c2 c3 c4 c5 : Pos}
theorem pe_hear (hg : Gl X x) (hm : X.mg x = some (.ref g)) (D : FunD X.K x x pg (hearBody l ct bk er cn a1 a2 a3 a4 a5 a6 a7 b1 b2 b3 b4 b5 b6 b7 b8 b9 c1 c2 c3 c4 c5) sg [] [] g fd) (hb : L2.Binds X.K fd [l] [])
    (S : FnScope [l, ct, bk, er] [l] sg) (hl : sg.names.lookup l = some .local) (hct : sg.names.lookup ct = some .local) (hbk : sg.names.lookup bk = some .local) (her : sg.names.lookup er = some .local) (hcn : sg.names.lookup cn = some .globalImplicit) (hmn : X.mg cn = some (.ref CS)) (hdn : (cn == ("__debug__" : Str)) = false)
    (d1 : ∀ y ∈ [l, ct, bk, er], (y == ("__debug__" : Str)) = false) (d2 : ∀ y ∈ [l, ct, bk, er], (y == ("__classdict__" : Str)) = false)
    (TB : TabB X.base X.mg c P) (hcode : X.env.code = .ref c) (hmT : (P, X.env.qual ++ "<lambda>") ∈ T) (hu : ∀ p ∈ T, p.1 = P → p.2 = X.env.qual ++ "<lambda>") (hr : Room (k + 2) X.A) (L : LamS X.env.scope scope) (hdef : defaultsOf params X.env = ([], []))
    (hbind : ∀ (q : Str) (cl : List (Str × Addr)) (pm cv ctv : Value), bindArgs (PySem.W.kla_fn "<lambda>" q params body scope cl pm cv ctv) ⟨[], []⟩ = pure [])
    (hbody : ∀ (A : Around) (outer : List Env) (s : Shared) (H : Hp) (E : XK) (f c' : Addr), Room k (A.deeper (lamEnv X scope s.heap.objs.size f c')) → PE (lamCx X A outer s H E scope f c') body (t E))
    (hw : ∀ env : Env, env.scope = sg → swappedStores [.Tuple [.Name ct a1, .Name bk a2] 0 a3] (.Tuple [.Constant .none 0 a4, .Constant .none 0 a5] 0 a6) env = pure none)
    (hdb : (x == ("__debug__" : Str)) = false := by decide) : PE X (.Call (.Name x p) [.Lambda params body scope lpos] [] pos) (tHear X.K T CS t) := by
  obtain ⟨oc, od, dV, kV, doc, pm0, an, cdv, cte, osl, hfd, lk, hcg, _, _⟩ := D.ex
  refine ⟨fun pins s σ H Q I hyp => ?_⟩
  obtain ⟨hT, hA, hyp⟩ := hyp
  refine wpAny_Call_Name_kw (ld_glob I hg hm (PySem.W.callWith_K (h₀ := X.base) I.ok.mod.kin D.kp ?_ (by rfl) (by rfl)) hdb)
  show wpAny _ _ (spliced ((false, eval (.Lambda params body scope lpos) X.env) :: backTo pos (starEach [] X.env))) _ _ s
  refine Calls.spliced_cons (lam_make2 I TB hcode hmT hu hT hdef (L.has I.ok) fun f c' pm ctv H1 s' I1 eN T1 hobj hfn hfr hco => ?_)
  classical
  obtain ⟨H2, hH2⟩ : ∃ H2 : Hp, H2 = fun b => if (∃ ps, H1 b = some (.tbl ps)) ∧ ¬ ∃ q, (b, q) ∈ T then none else H1 b := ⟨_, rfl⟩
  have alt : ∀ b, H2 b = H1 b ∨ (H2 b = none ∧ ∃ ps, H1 b = some (.tbl ps)) := fun b => by
    by_cases z : (∃ ps, H1 b = some (.tbl ps)) ∧ ¬ ∃ q, (b, q) ∈ T
    · exact .inr ⟨by rw [hH2]; exact if_pos z, z.1⟩
    · exact .inl (by rw [hH2]; exact if_neg z)
  have inT : ∀ b, (∃ q, (b, q) ∈ T) → H2 b = H1 b := fun b z => by rw [hH2]; exact if_neg fun w => w.2 z
  have non : ∀ {b : Addr} {u : HO}, H1 b = some u → (∀ ps, u ≠ .tbl ps) → H2 b = some u := fun {b u} e n => by
    rcases alt b with z | ⟨_, ps, z⟩
    · rw [z]
      exact e
    · rw [e] at z
      exact (n ps (Option.some.inj z)).elim
  have I2 : Inv X pins σ H2 s' := Inv.forget I1 alt fun b ps e => by
    obtain ⟨m, z⟩ := I.base.tbls b ps e
    exact inT b (hA b _ z)
  have e2 : ExtN H H2 := fun b o e n => non (eN b o e n) n
  have T2 : Tabs T H2 := fun p hp => by
    obtain ⟨ps, y1, y2, y3⟩ := T1 p hp
    refine ⟨ps, by rw [inT p.1 ⟨p.2, hp⟩]; exact y1, y2, fun po cv hc => ?_⟩
    obtain ⟨c0, w1, w2⟩ := y3 po cv hc
    exact ⟨c0, w1, non w2 codeO_ne⟩
  have A2 : TAll T H2 := fun b ps e => Classical.byContradiction fun w => by
    rcases alt b with z | ⟨z, _⟩
    · rw [hH2] at e
      have e : (if (∃ ps, H1 b = some (.tbl ps)) ∧ ¬ ∃ q, (b, q) ∈ T then none else H1 b) = some (.tbl ps) := e
      split at e
      · cases e
      · rename_i y
        exact y ⟨⟨ps, e⟩, w⟩
    · rw [z] at e
      cases e
  have f2 : H2 f = none := by
    rcases alt f with z | ⟨z, _⟩
    · rw [z]
      exact hfn
    · exact z
  have hc2 := non hco codeO_ne
  refine Calls.spliced_nil ⟨I2.kIn, wpAny_call ?_⟩
  subst hfd
  have go : codeAny (model X.prog X.w) X.A (.call (.ref g) ⟨[.ref f], []⟩) (CR C8.CX0 X.stack X.prog X.w H2 s' Q C8.E0) s' := by
    refine run_ofS (N := [l, ct, bk, er]) (ps := [l]) (us := [.ref f]) (vs := [.ref f]) lk hcg S hr I2.env0 (hb s' [.ref f] I2.kIn rfl) (.cons rfl .nil) rfl fun hr' => ?_
    obtain ⟨t', ht', hq'⟩ := hear_body (X := X) (qg := x) (g := g) (cdg := cdv) (s := s') (H := H2) (f := f) (c' := c') (Q := Q) (q := X.env.qual ++ "<lambda>") (tl := fun E H' Q' => t E σ H' Q') S hl hct hbk her hcn hmn hdn d1 d2
      (a1 := a1) (a2 := a2) (a3 := a3) (a4 := a4) (a5 := a5) (a6 := a6) (a7 := a7) (b1 := b1) (b2 := b2) (b3 := b3) (b4 := b4) (b5 := b5) (b6 := b6) (b7 := b7) (b8 := b8) (b9 := b9) (c1 := c1) (c2 := c2) (c3 := c3) (c4 := c4)
      (fun W pn xe p1 p2 tk => pe_lamAct (i := 0) I2 L hobj f2 hfr (hbind _ _ _ _ _) tk hr' (fun A outer s H E hr2 => hbody A outer s H E f c' hr2) rfl (.inl hl) (d1 _ (by simp)) (d2 _ (by simp))) hw hc2 (hyp H2 e2 T2 A2)
    exact ⟨t', ht'.nox, hq'⟩
  refine codeAny_mono go fun r s2 hq => ?_
  cases r with
  | error e => exact (show False from hq).elim
  | ok fl =>
    cases fl with
    | ret u => exact I2.after hq
    | next => exact False.elim hq
    | brk => exact False.elim hq
    | cont => exact False.elim hq
end
def dHear (cs : List Addr) (d : DXc) : DE := fun n ε P => d n ε (fun n1 r => P n1 (.tup [.non, r])) fun n1 C v => C ∈ cs ∧ P n1 (.tup [.err C v, .non])
theorem lam_step {K : PySem.W.Frag} {g : Gh} {H H1 : Hp} {n : Nat} (ok : Ok K g H n) (e : ExtN H H1) (t : Tabs (tabsK K) H1) (a : TAll (tabsK K) H1) : Stp g H g H1 ∧ Ok K g H1 n := by
  have isT : ∀ {b : Addr} {ps : Array Value}, H b = some (.tbl ps) → g.pot b := fun {b ps} z => by
    obtain ⟨q, w⟩ := ok.t.all b ps z
    exact ok.t.tp _ w
  have kep : ∀ {b : Addr} {o : HO}, H b = some o → (∀ ps, o ≠ .tbl ps) → H1 b = some o := fun {b o} z w => e b o z w
  refine ⟨⟨Ext.refl g, fun _ _ z => z, fun _ _ z => z, fun b o z w => kep z fun ps y => ?_, fun b z => ?_⟩, ⟨fun b o z => kep (ok.sub b o z) fun ps y => ?_, fun b z => ⟨(ok.pot b z).1, (ok.pot b z).2.imp id fun ⟨x, y, w, e1, e2⟩ => ⟨x, y, w, kep e1 (fun ps q => (by cases q)), e2⟩⟩, ⟨t, ok.t.tp, a⟩⟩⟩
  · exact w (isT (by rw [z, y]))
  · obtain ⟨o, w⟩ := Option.ne_none_iff_exists'.mp z
    by_cases y : ∃ ps, o = .tbl ps
    · obtain ⟨ps, rfl⟩ := y
      obtain ⟨q, v⟩ := ok.t.all b ps w
      obtain ⟨ps', v', _⟩ := t _ v
      have v' : H1 b = some (.tbl ps') := v'
      rw [v']
      exact Option.some_ne_none _
    · rw [kep w fun ps q => y ⟨ps, q⟩]
      exact Option.some_ne_none _
  · have q := ok.sub b o z
    rw [y] at q
    have w := (ok.pot b (isT q)).1
    rw [z] at w
    cases w
theorem hear_ok {K : PySem.W.Frag} {CS : Addr} {cs : List Addr} {d : DXc} (hcs : ∀ C ∈ cs, PySem.W.exmOne K (.ref C) (.ref CS) = some true) : ∀ σ H Q, liftE K (dHear cs d) σ H Q → tHear K (tabsK K) CS (fun E => liftXc E K d) σ H Q := fun σ H Q ⟨O, g, n, ε, P, r, q, k⟩ => by
  refine ⟨r.ok.t.tabs, r.ok.t.all, fun H1 e1 t1 a1 p hp => ?_⟩
  obtain ⟨s1, o1⟩ := lam_step r.ok e1 t1 a1
  obtain ⟨s2, o2, _, _⟩ := new_own o1 hp (.tup [.non, .non])
  have st := s1.trans s2
  refine ⟨O, g, n, ε, _, _, r.step st o2, q, fun v g' H' n' x q3 s3 o3 e3 p2 hp2 => ?_, fun g' H' n' C dx u x q3 s3 o3 e3 e4 => ⟨C, dx, rfl, rfl, hcs C q3.1, fun a p2 ha hp2 => ?_⟩⟩
  · have s4 := Stp.add (o := .tup [.non, v]) o3 hp2
    exact k _ _ _ n' _ q3 ((st.trans s3).trans s4) (o3.add hp2) (.tup (.inl Gh.at) (.cons .non (.cons (e3.mono s4.ext) .nil)))
  · have s4 := Stp.add (o := Exq a C dx) o3 ha
    have o4 := o3.add (o := Exq a C dx) ha exq_nt
    have s5 := Stp.add (o := .tup [.ref a, .non]) o4 hp2
    exact k _ _ _ n' _ q3.2 (((st.trans s3).trans s4).trans s5) (o4.add hp2) (.tup (.inl Gh.at) (.cons ((Den.err (Gh.at (g := g')) (s4.ext.G _ _ e3) (e4.mono s4.ext)).mono s5.ext) (.cons .non .nil)))
end Pd
namespace Pd
open PySem L2 PyProof.Rows LamX
structure ErrAll (K : PySem.W.Frag) (D fI C : Addr) : Prop where
  sc : SupC K D C
  ei : ErrI K C
  ev : ErrV K C
  init : PySem.W.findIn K (.ref C) "__init__" = some (some (.ref fI))
  fn : PySem.W.typeIn K (.ref fI) = some (.type "function")
  ex : PySem.W.exmOne K (.ref C) (.ref D) = some true
theorem oexB_ok {K : PySem.W.Frag} {C : Addr} (h : oexB K C = true) : ∃ nm q N bs bm sn sub ab col dd k0 k1 k2 k3 k5, K.lookup C = some (excClassObj nm q C N bs bm true sn sub ab col dd k0 k1 k2 k3 k5 "ValueError.__new__") ∧ PySem.HandSPX.refsVE bm = true := by
  unfold oexB at h
  split at h
  · rename_i dd cd sl hl
    split at h
    · rename_i C' bm k0 k1 k2 k3 n k5 hm hs
      simp only [Bool.and_eq_true, beq_iff_eq, Bool.not_eq_true'] at h
      obtain ⟨h1, h2, h3, h4, h5⟩ := h
      subst h1 h2
      obtain ⟨nm, bs, mro, ns, qn, hd, sn, sub, ab, col, del⟩ := cd
      dsimp only at hm h3 h4
      subst hm h3 h4
      obtain ⟨sl0⟩ := sl
      have e : sl0 = [k0, k1, k2, k3, some (.builtin "ValueError.__new__"), k5] := hs
      subst e
      exact ⟨nm, qn, ns, bs, bm, sn, sub, ab, col, dd, k0, k1, k2, k3, k5, hl, h5⟩
    · cases h
  · cases h
abbrev supI (K : PySem.W.Frag) : Addr := He.ma K (He.ga K "CutError") "__init__"
theorem exc_ok {K : PySem.W.Frag} {C : Str} (h : (Fx.exc C).ok K = true) : ErrAll K (He.ga K "CutError") (supI K) (He.ga K C) := by
  have h' : excB K (He.ga K "CutError") (supI K) (He.ga K C) = true := h
  unfold excB at h'
  simp only [Bool.and_eq_true, decide_eq_true_eq] at h'
  obtain ⟨a1, a2, a3, a4, a5, a6, a7, a8, a9, b1, b2, b3, b4, b5, b6, b7, b8, b9, c1, c2⟩ := h'
  exact ⟨⟨⟨oexB_ok a1, a2, a3, a4, a5⟩, a6, a7, a8, a9⟩, ⟨b7, b4, b5, a3, b8, b9, c1, c2⟩, ⟨⟨b4, b5, a3, b6⟩, a9⟩, b1, b2, b3⟩
theorem sup_fn {K : PySem.W.Frag} {P : Program} {d : PDef} {file : Str} (e : psg K (d.loc K) = d.said) (hg : d.good K = true) (h1 : d.clo = ([("__class__" : Str)] : List Str)) (hn : d.name = "__init__") (hq : d.qual = "CutError.__init__") (hd : d.dfl = []) (hl : d.loc K = supI K) (hs : (Fx.sup file).ok K = true) (hf : ((P.main.file : Str) == file) = true)
    (hbind : ∀ (cl : List (Str × Addr)) (kV doc pm : Value) (an : Option Addr) (cdv ct : Value) (us : List Value), us.length = 2 → bindArgs (PySem.W.fnX "__init__" "CutError.__init__" d.params d.body d.scope cl .none kV doc pm an cdv ct) ⟨us, []⟩ = pure ((["self", "value"] : List Str).zip us)) :
    ∃ cc cda fd, SupD K P (supI K) (He.ga K "CutError") cc cda d.params d.body d.scope fd ∧ Binds K fd ["self", "value"] [] := by
  have hs' : supB K (He.ga K "CutError") (supI K) file = true := hs
  rw [hl] at e
  unfold PDef.good at hg
  rw [hl, Bool.and_eq_true] at hg
  obtain ⟨_, hg⟩ := hg
  unfold supB at hs'
  rw [Bool.and_eq_true, Bool.and_eq_true] at hs'
  obtain ⟨hs1, hs2, hs3⟩ := hs'
  unfold psg PDef.said at e
  generalize supI K = a at *
  cases q : K.lookup a with
  | none => simp [q] at hs1
  | some o =>
    obtain ⟨oc, od, dt, osl⟩ := o
    rw [q] at e hs1 hg
    cases dt with
    | func fd =>
      dsimp only at e hs1 hg
      split at hs1
      · rename_i x cc cda hcl hco
        rw [Bool.and_eq_true, Bool.and_eq_true, Bool.and_eq_true] at hs1
        obtain ⟨x1, x2, x3, x4⟩ := hs1
        have x1 : x = "__class__" := beq_iff_eq.mp x1
        subst x1
        rw [Bool.and_eq_true, Bool.and_eq_true] at hg
        have dn : fd.defaults = .none := by
          have z := He.dflB_ok hg.2.1
          have ev : d.dvs K = [] := by unfold PDef.dvs; rw [hd]; rfl
          rw [ev] at z
          rcases z with ⟨_, z⟩ | ⟨z, _⟩
          · exact z
          · exact absurd rfl z
        simp only [Option.some.injEq, Prod.mk.injEq] at e
        obtain ⟨e1, e2, e3, e4, e5, e6, e7, e8⟩ := e
        rw [hn] at e1
        rw [hq] at e2
        cases fd
        dsimp only at e1 e2 e3 e4 e5 e6 e8 hcl hco dn
        subst e1 e2 e3 e4 e5 e6 e8 hcl hco dn
        refine ⟨cc, cda, _, ⟨⟨oc, od, _, _, _, _, _, _, osl, rfl, q⟩, x2, ?_, ?_, ?_, of_decide_eq_true hs3⟩, .all (hbind _ _ _ _ _ _ _)⟩
        · split at x3
          · rename_i c0 d0 vs sl0 hc
            split at x3
            · rename_i f tf hv
              have x3 : f = file := beq_iff_eq.mp x3
              subst x3
              exact ⟨_, _, vs, _, f, tf, hc, hv, hf⟩
            · cases x3
          · cases x3
        · split at x4
          · rename_i c0 d0 D' sl0 hc
            have x4 : D' = He.ga K "CutError" := beq_iff_eq.mp x4
            subst x4
            exact ⟨_, _, _, hc⟩
          · cases x4
        · cases z : PySem.W.clsIn K (He.ga K "CutError") with
          | none => rw [z] at hs2; cases hs2
          | some cd => exact ⟨cd, rfl⟩
      · cases hs1
    | _ => simp at hs1
theorem HasE.of {P : Program} {w : World} {K : PySem.W.Frag} {mg : Str → Option Value} {base : Heap} {D fI C : Addr} {fd : FuncData} (F : FnOk P w K mg base CX0 1 fI fd ["self", "value"] (spSup K D)) (hb : Binds K fd ["self", "value"] []) (A : ErrAll K D fI C) : HasE P w K mg base 1 C :=
  ⟨D, fI, fd, F, A.sc, A.init, A.fn, hb⟩
section
variable {P : Program} {w : World} {K : PySem.W.Frag} {mg : Str → Option Value} {base : Heap} {k : Nat} {f : Addr} {ps : List Str} {x qual : Str} {params : Arguments} {body : List Stmt} {scope : Scope} {N : List Str} {b : DS} {sp : FD}
structure LamAt (K : PySem.W.Frag) (mg : Str → Option Value) (base : Heap) (qual : Str) (cdv : Value) (c Pt : Addr) : Prop where
  code : cdv = .ref c
  tb : TabB base mg c Pt
  mem : (Pt, qual ++ ".<locals>." ++ "<lambda>") ∈ tabsK K
  one : ∀ p ∈ tabsK K, p.1 = Pt → p.2 = qual ++ ".<locals>." ++ "<lambda>"
theorem has_gL (TBs : TabBs K mg base) (one : ∀ p ∈ tabsK K, ∀ q ∈ tabsK K, p.1 = q.1 → p = q) (D : ∃ fd, FunD K x qual params body scope [] [] f fd ∧ LamD K qual fd) (S : FnScope N ps scope)
    (hbind : ∀ (kV doc pm : Value) (an : Option Addr) (cdv ct : Value) (us : List Value), us.length = ps.length → bindArgs (PySem.W.fnOf x qual params body scope .none kV doc pm an cdv ct) ⟨us, []⟩ = pure (ps.zip us))
    (hb : ∀ (fd : FuncData) (cdv : Value) (c Pt : Addr), LamAt K mg base qual cdv c Pt → ∀ (A : Around) (outer : List Env) (s : Shared) (H : Hp) (E : XK), Room k (A.deeper (PyProof.Rows.envOfC qual scope s.heap.objs.size f cdv)) → (A.deeper (PyProof.Rows.envOfC qual scope s.heap.objs.size f cdv)).guards = some [] → PSs (cxOf CX0 P w K mg base N qual scope f cdv A outer s H E).nox body (liftS W0 K b))
    (hs : ∀ ds n Q, sp ds n Q → dFn N.length ps.length b ds n Q) : HasG P w K mg base (k + 1) f ps [] sp := by
  obtain ⟨fd, F, c, Pt, o, hc, hl, ht⟩ := D
  have hm := tabs_mem hl ht
  exact ⟨fd, [], [], fnG_ok F S (fun cdv hcd A outer s H E hr hg => hb fd cdv c Pt ⟨hcd.trans hc, TBs c Pt _ o hl ht, hm, fun p hp e => by rw [one p hp _ hm e]⟩ A outer s H E hr hg) hs, F.kp, F.bindsN hbind, .nil, fun _ => .nil⟩
end
structure HearD (K : PySem.W.Frag) (mg : Str → Option Value) (g : Addr) (x : Str) : Prop where
  ex : ∃ (fd : FuncData) (pg : Arguments) (sg : Scope) (l ct bk er : Str) (a1 a2 a3 a4 a5 a6 a7 b1 b2 b3 b4 b5 b6 b7 b8 b9 c1 c2 c3 c4 c5 : Pos), FunD K x x pg (hearBody l ct bk er "CutError" a1 a2 a3 a4 a5 a6 a7 b1 b2 b3 b4 b5 b6 b7 b8 b9 c1 c2 c3 c4 c5) sg [] [] g fd ∧ L2.Binds K fd [l] [] ∧
    FnScope [l, ct, bk, er] [l] sg ∧ sg.names.lookup l = some .local ∧ sg.names.lookup ct = some .local ∧ sg.names.lookup bk = some .local ∧ sg.names.lookup er = some .local ∧ sg.names.lookup ("CutError" : Str) = some .globalImplicit ∧
    (∀ y ∈ [l, ct, bk, er], (y == ("__debug__" : Str)) = false) ∧ (∀ y ∈ [l, ct, bk, er], (y == ("__classdict__" : Str)) = false) ∧
    ∀ env : Env, env.scope = sg → swappedStores [.Tuple [.Name ct a1, .Name bk a2] 0 a3] (.Tuple [.Constant .none 0 a4, .Constant .none 0 a5] 0 a6) env = pure none
theorem hear_fn {K : PySem.W.Frag} {mg : Str → Option Value} {g : Addr} {x l ct bk er : Str} {pg : Arguments} {body : List Stmt} {sg : Scope} {a1 a2 a3 a4 a5 a6 a7 b1 b2 b3 b4 b5 b6 b7 b8 b9 c1 c2 c3 c4 c5 : Pos}
    (D : ∃ fd, FunD K x x pg body sg [] [] g fd) (hbody : body = hearBody l ct bk er "CutError" a1 a2 a3 a4 a5 a6 a7 b1 b2 b3 b4 b5 b6 b7 b8 b9 c1 c2 c3 c4 c5) (S : FnScope [l, ct, bk, er] [l] sg)
    (hbind : ∀ (kV doc pm : Value) (an : Option Addr) (cdv ct : Value) (us : List Value), us.length = 1 → bindArgs (PySem.W.fnOf x x pg body sg .none kV doc pm an cdv ct) ⟨us, []⟩ = pure (([l] : List Str).zip us))
    (h1 : sg.names.lookup l = some .local) (h2 : sg.names.lookup ct = some .local) (h3 : sg.names.lookup bk = some .local) (h4 : sg.names.lookup er = some .local) (h5 : sg.names.lookup ("CutError" : Str) = some .globalImplicit)
    (d1 : ∀ y ∈ [l, ct, bk, er], (y == ("__debug__" : Str)) = false) (d2 : ∀ y ∈ [l, ct, bk, er], (y == ("__classdict__" : Str)) = false)
    (hw : ∀ env : Env, env.scope = sg → swappedStores [.Tuple [.Name ct a1, .Name bk a2] 0 a3] (.Tuple [.Constant .none 0 a4, .Constant .none 0 a5] 0 a6) env = pure none) : HearD K mg g x := by
  obtain ⟨fd, F⟩ := D
  subst hbody
  exact ⟨fd, pg, sg, l, ct, bk, er, a1, a2, a3, a4, a5, a6, a7, b1, b2, b3, b4, b5, b6, b7, b8, b9, c1, c2, c3, c4, c5, F, F.bindsN hbind, S, h1, h2, h3, h4, h5, d1, d2, hw⟩
section
variable {X : Cx} {x qual : Str} {g c Pt CS : Addr} {cdv : Value} {k : Nat} {cs : List Addr} {params : Arguments} {body : Expr} {scope : Scope} {d : DXc} {p lpos pos : Pos}
theorem de_hear (G : HearD X.K X.mg g x) (LA : LamAt X.K X.mg X.base qual cdv c Pt) (hcd : X.env.code = cdv) (hqu : X.env.qual = qual ++ ".<locals>.") (hr : Room (k + 2) X.A) (hg : Gl X x) (hm : X.mg x = some (.ref g)) (hcs : ∀ C ∈ cs, PySem.W.exmOne X.K (.ref C) (.ref CS) = some true) (hmn : X.mg "CutError" = some (.ref CS))
    (L : LamS X.env.scope scope) (hdef : defaultsOf params X.env = ([], []))
    (hbind : ∀ (q : Str) (cl : List (Str × Addr)) (pm cv ctv : Value), bindArgs (PySem.W.kla_fn "<lambda>" q params body scope cl pm cv ctv) ⟨[], []⟩ = pure [])
    (hbody : ∀ (A : Around) (outer : List Env) (s : Shared) (H : Hp) (E : XK) (f c' : Addr), Room k (A.deeper (lamEnv X scope s.heap.objs.size f c')) → PE (lamCx X A outer s H E scope f c') body (liftXc E X.K d))
    (hdb : (x == ("__debug__" : Str)) = false := by decide) : PE X (.Call (.Name x p) [.Lambda params body scope lpos] [] pos) (liftE X.K (dHear cs d)) := by
  obtain ⟨fd, pg, sg, l, ct, bk, er, a1, a2, a3, a4, a5, a6, a7, b1, b2, b3, b4, b5, b6, b7, b8, b9, c1, c2, c3, c4, c5, F, B, S, h1, h2, h3, h4, h5, d1, d2, hw⟩ := G.ex
  exact pe_w (pe_hear (T := tabsK X.K) (t := fun E => liftXc E X.K d) hg hm F B S h1 h2 h3 h4 h5 hmn (by decide) d1 d2 LA.tb (hcd.trans LA.code) (by rw [hqu]; exact LA.mem) (fun p hp e => by rw [hqu]; exact LA.one p hp e) hr L hdef hbind hbody hw hdb) (hear_ok hcs)
end
end Pd
namespace Pd
open PySem L2 PyProof.Rows
theorem SaysP.good {fx : List Fx} {fn : List PDef} {K : PySem.W.Frag} (c : SaysP fx fn K) {d : PDef} (i : Nat) (h : fn[i]? = some d := by rfl) : d.good K = true := by
  have c1 : ((fx.all fun f => f.ok K) && fn.all fun d => d.good K) = true := congrArg (fun z : AlP => z.1) c
  exact List.all_eq_true.mp (Bool.and_eq_true_iff.mp c1).2 d (List.mem_of_getElem? h)
def dDic0 : DE := fun n ε P => P n (.dic [] [])
section
variable {X : Cx} {pos p : Pos} {e : Expr} {dr : DR}
theorem de_dic0 : PE X (.Dict [] [] pos) (liftE X.K dDic0) :=
  de_of pe_dnewK fun O g H n σ ε P Q r q k => fun p hp => k _ _ _ _ _ q (Stp.add r.ok hp) (r.ok.add hp) (.dic Gh.at rfl .nil)
end
end Pd
namespace Pd
open PySem L2 PyProof.Rows
structure SysD (K : PySem.W.Frag) : Prop where
  ex : ∃ o : Obj, K.lookup sysModules = some o ∧ o.cls = .type "dict"
mutual
def isPx : D → Bool
  | .non => true
  | .bl _ => true
  | .int _ => true
  | .str l => l.all (· < 1114112)
  | .lst xs => isPxs xs
  | .tup xs => isPxs xs
  | .obj _ _ => false
  | .pot => false
  | .scr _ => false
  | .ref _ => false
  | .tupK xs => isPxs xs
  | .tupF _ => false
  | .err _ _ => false
  | .dic _ vs => isPxs vs
def isPxs : List D → Bool
  | [] => true
  | x :: xs => isPx x && isPxs xs
end
section
variable {X : Cx} {pins : List (Addr × Obj)} {σ : L2.St} {H : Hp} {s : Shared} {g : Gh}
theorem not_sys (I : Inv X pins σ H s) (S : SysD X.K) {a : Addr} {o : Obj} (ho : s.heap.get? a = some o) (hc : o.cls = .type "list") : sysModules ≠ a := fun e => by
  subst e
  obtain ⟨o', h1, h2⟩ := S.ex
  have h3 := I.kIn _ _ h1
  rw [ho] at h3
  cases h3
  rw [hc] at h2
  injection h2 with h2
  exact absurd h2 (by decide)
theorem keys_read {h : Heap} {P : Program} {w : World} : ∀ {es : List DictEntry} {ps : List (Key × Value)} {ks : List (List Nat)}, Pairs (mixKind P w) es ps → ps.map (·.1) = ks.map (fun x => Sum.inr ⟨x.toArray⟩) → ReadsAll h (es.map (·.key)) (ks.map fun x => PyData.str ⟨x.toArray⟩) []
  | [], [], [], .nil, _ => .nil
  | [], [], _ :: _, .nil, e => by cases e
  | e :: es, p :: ps, [], .cons _ _ _, x => by cases x
  | e :: es, p :: ps, k :: ks, .cons h1 h2 h3, x => by
    rw [List.map_cons, List.map_cons, List.cons.injEq] at x
    obtain ⟨x1, x2⟩ := x
    have h1' : keyIs p.1 e.key = true := h1
    rw [x1] at h1'
    rcases keyIs_shape h1' with ⟨i, t, z, _⟩ | ⟨y, t, z, hk⟩
    · cases z
    · injection z with z
      subst z
      rw [List.map_cons, List.map_cons, hk]
      exact .cons (.str _ t) (keys_read h3 x2)
  | [], _ :: _, _, h, _ => nomatch h
theorem vals_pair {P : Program} {w : World} : ∀ {es : List DictEntry} {ps : List (Key × Value)} {kvs : List (Key × V)}, Pairs (mixKind P w) es ps → KV kvs ps → Vals (kvs.map (·.2)) (es.map (·.val))
  | _, _, _, .nil, .nil => .nil
  | _, _, _, .cons h1 h2 h3, .cons r t => by
    rw [List.map_cons, List.map_cons, h2]
    exact .cons r.2 (vals_pair h3 t)
theorem keys_pair {kvs : List (Key × V)} {ps : List (Key × Value)} (h : KV kvs ps) : kvs.map (·.1) = ps.map (·.1) := by
  induction h with
  | nil => rfl
  | cons r _ ih => rw [List.map_cons, List.map_cons, ih, r.1]
mutual
theorem Den.reads (I : Inv X pins σ H s) (S : SysD X.K) (sm : Same g.G H) : ∀ {v : V} {d : D}, Den X.K g v d → isPx d = true → ∀ u, RelV v u → ∃ as, Reads s.heap u (toPD d) as ∧ sysModules ∉ as
  | _, _, .non, _, u, r => by cases r; exact ⟨_, .none, by simp⟩
  | _, _, .bl b, _, u, r => by cases r; exact ⟨_, .bool b, by simp⟩
  | _, _, .int i, _, u, r => by obtain ⟨t, rfl⟩ := r; exact ⟨_, .int i t, by simp⟩
  | _, _, .str l, _, u, r => by obtain ⟨t, rfl⟩ := r; exact ⟨_, .str _ t, by simp⟩
  | _, _, .lst h1 h2, h, u, r => by
    cases r
    obtain ⟨its, rv, ⟨o, n, ho, hc, _, hd⟩, _⟩ := I.list (SqL.of (sm _ _ h1))
    obtain ⟨as, hr, hn⟩ := Dens.reads I S sm h2 (by simpa [isPx] using h) its rv
    refine ⟨_, Reads.list ho hc hd hr, fun hm => ?_⟩
    rcases List.mem_cons.mp hm with e | hm
    · exact not_sys I S ho hc e
    · exact hn hm
  | _, _, .tup h1 h2, h, u, r => by
    cases r
    obtain ⟨its, rv, ⟨o, ho, hc, n, hd⟩, _⟩ := I.tuple (Or.inl (h1.same sm))
    obtain ⟨as, hr, hn⟩ := Dens.reads I S sm h2 (by simpa [isPx] using h) its rv
    exact ⟨_, Reads.tuple ho hc hd hr, hn⟩
  | _, _, .obj h1 h2, h, _, _ => by simp [isPx] at h
  | _, _, .pot h1 _, h, _, _ => by simp [isPx] at h
  | _, _, .scr h1, h, _, _ => by simp [isPx] at h
  | _, _, .ref a, h, _, _ => by simp [isPx] at h
  | _, _, .tupK h1 h2, h, u, r => by
    cases r
    obtain ⟨its, rv, ⟨o, ho, hc, n, hd⟩, _⟩ := I.tuple (h1 _)
    obtain ⟨as, hr, hn⟩ := Dens.reads I S sm h2 (by simpa [isPx] using h) its rv
    exact ⟨_, Reads.tuple ho hc hd hr, hn⟩
  | _, _, .tupF _ _ _ _, h, _, _ => by simp [isPx] at h
  | _, _, .err _ _ _, h, _, _ => by simp [isPx] at h
  | _, _, .dic h1 h2 h3, h, u, r => by
    cases r
    obtain ⟨_, hs, ps, kv, o, es, ep, ho, hx, hd, _, hp, _⟩ := dk_of I.hok (sm _ _ h1)
    obtain ⟨as, hr, hn⟩ := Dens.reads I S sm h3 (by simpa [isPx] using h) _ (vals_pair hp kv)
    have hk := keys_read (h := s.heap) hp ((keys_pair kv).symm.trans h2)
    have hl := h3.length
    have hlk := congrArg List.length h2
    simp only [List.length_map] at hl hlk
    rw [toPD]
    have hlen : ∀ ds : List D, (toPDs ds).length = ds.length := by
      intro ds
      induction ds with
      | nil => simp [toPDs]
      | cons x xs ih => simp [toPDs, ih]
    refine ⟨_, Reads.dict ho hx.1 hd (as := []) (bs := as) ?_ ?_, fun hm => ?_⟩
    · rw [List.map_fst_zip (by rw [List.length_map, hlen]; omega)]
      exact hk
    · rw [List.map_snd_zip (by rw [List.length_map, hlen]; omega)]
      exact hr
    · simp only [List.append_nil, List.cons_append, List.nil_append] at hm
      rcases List.mem_cons.mp hm with e | hm
      · rw [← e] at hs
        simp at hs
      · exact hn hm
theorem Dens.reads (I : Inv X pins σ H s) (S : SysD X.K) (sm : Same g.G H) : ∀ {vs : List V} {ds : List D}, Dens X.K g vs ds → isPxs ds = true → ∀ us, Vals vs us → ∃ as, ReadsAll s.heap us (toPDs ds) as ∧ sysModules ∉ as
  | _, _, .nil, _, us, r => by cases r; exact ⟨_, .nil, by simp⟩
  | _, _, .cons h t, q, us, r => by
    rw [isPxs, Bool.and_eq_true] at q
    cases r with
    | cons r1 r2 =>
      obtain ⟨as, q1, n1⟩ := Den.reads I S sm h q.1 _ r1
      obtain ⟨bs, q2, n2⟩ := Dens.reads I S sm t q.2 _ r2
      exact ⟨_, ReadsAll.cons q1 q2, fun hm => (List.mem_append.mp hm).elim n1 n2⟩
end
end
def okRx (d : D) : Bool := isPx d && (decide ((toPD d).depth ≤ 50) && (toPD d).showable)
def rReprX (K : PySem.W.Frag) : List V → Hp → VK → Prop := fun xs H Q => ∃ x d g, xs = [x] ∧ Same g.G H ∧ Den K g x d ∧ okRx d = true ∧ (shownD d).length ≤ 16777216 ∧ Q (.str (toPD d).shown) H
theorem call_reprX {X : Cx} (S : SysD X.K) (hgd : X.A.guards = some []) (hu : X.A.units + 64 < cLine) : CallR X (.builtin "repr") (rReprX X.K) := by
  intro pins s σ H xs us Q I r h
  obtain ⟨x, d, g, rfl, sm, hd, ok, hl, q⟩ := h
  cases r with
  | cons r0 r1 =>
    rename_i u us
    cases r1
    unfold okRx at ok
    rw [Bool.and_eq_true, Bool.and_eq_true] at ok
    have hz : (toPD d).shown.length ≤ sizeLine := sz (by simpa [shownD, Str.length] using hl)
    have hdep : (toPD d).depth ≤ 50 := of_decide_eq_true ok.2.1
    obtain ⟨as, rd, hn⟩ := Den.reads I S sm hd ok.1 u r0
    have byRef : ∀ a, u = .ref a → wpAny (model X.prog X.w) X.A (call (.builtin "repr") [u]) (EP X pins σ Q) X.xe s := fun a e => by
      subst e
      exact repr_of_reads' rd ok.2.2 (fun _ => hn) hgd (by omega) (fun _ _ e => e) (fun h' t tk hk => ⟨.str _, H, I.kept hk, ⟨t, rfl⟩, q⟩) hz
    cases hd with
    | non =>
      cases r0
      exact P.repr_of_none ⟨.str _, H, I.tok _, ⟨_, rfl⟩, q⟩
    | bl b =>
      cases r0
      exact P.repr_of_bool ⟨.str _, H, I.tok _, ⟨_, rfl⟩, q⟩
    | int i =>
      obtain ⟨t, rfl⟩ := r0
      refine P.repr_of_int ?_ ⟨.str _, H, I.tok _, ⟨_, rfl⟩, q⟩
      have := ok.2.2
      simp only [toPD, PyData.showable] at this
      exact of_decide_eq_true this
    | str l =>
      obtain ⟨t, rfl⟩ := r0
      exact P.repr_of_str ⟨.str _, H, I.tok _, ⟨_, rfl⟩, q⟩ (by simpa [toPD, PyData.shown] using hz)
    | lst => exact byRef _ r0
    | tup => exact byRef _ r0
    | tupK => exact byRef _ r0
    | dic => exact byRef _ r0
    | obj => exact absurd ok.1 (by simp [isPx])
    | pot => exact absurd ok.1 (by simp [isPx])
    | scr => exact absurd ok.1 (by simp [isPx])
    | ref => exact absurd ok.1 (by simp [isPx])
    | tupF => exact absurd ok.1 (by simp [isPx])
    | err => exact absurd ok.1 (by simp [isPx])
def gReprX : GC := fun ds P => match ds with
  | [x] => okRx x = true ∧ (shownD x).length ≤ 16777216 ∧ P (.str (shownD x))
  | _ => False
theorem so_reprX {X : Cx} : SCall X.K (rReprX X.K) gReprX := ⟨fun {g H n xs ds P Q} ok ex q k => by
  match ds, ex, q with
  | [x], .cons h .nil, q =>
    obtain ⟨q1, q2, q3⟩ := q
    refine ⟨_, x, g, rfl, ok.sub, h, q1, q2, ?_⟩
    have z := k.flat ok q3 (.str (shownD x))
    have e : (⟨(shownD x).toArray⟩ : Str) = (toPD x).shown := by
      unfold shownD
      simp
    rw [e] at z
    exact z⟩
theorem sysd_ok {K : PySem.W.Frag} (h : Fx.sysd.ok K = true) : SysD K := by
  have h' : (match K.lookup sysModules with
    | some ⟨.type n, _, _, _⟩ => decide (n = "dict")
    | _ => false) = true := h
  split at h'
  · rename_i n a b c e
    have := of_decide_eq_true h'
    subst this
    exact ⟨⟨_, e, rfl⟩⟩
  · cases h'
end Pd
namespace Pd
open PySem L2 PyProof.Rows
end Pd
namespace Pd
open PySem L2 PyProof.Rows
end Pd
namespace Pd
open PySem L2 PyProof.Rows
end Pd
namespace L2
open PySem PySem.Spec PyProof.Rows HT
end L2
namespace Pd
open PySem L2 PyProof.Rows
end Pd
namespace Pd
open PySem L2
def rOwnV (K : PySem.W.Frag) (C : Addr) (sp : Sp) : R2 := fun x y H Q => ∃ a dx fs t, x = .ref a ∧ H a = some (.ins C dx fs) ∧ L2.TyX K H y t ∧ PySem.W.notFirst K C t = true ∧ sp [.ref a, y] H (fun v H' => ∃ k, v = .bl k ∧ Q (.bl k) H') E0
section
variable {X : Cx} {n : Nat} {C f : Addr} {fd : FuncData} {ps : List Str} {sp : Sp} {pins : List (Addr × Obj)} {σ : L2.St} {H : Hp} {s : Shared} {a b : Addr}
theorem own_calledV (F : FnOk X.prog X.w X.K X.mg X.base CX0 n f fd ps sp) (hb : Binds X.K fd ps []) {A : Around} (hr : Room n A) (hfr : A.frames = X.A.frames) (I : Inv X pins σ H s) {y : V} {u : Value} (ry : RelV y u) {Q : Bool → Hp → Prop}
    (q : sp [.ref a, y] H (fun v H' => ∃ k, v = .bl k ∧ Q k H') E0) {E : Value → Shared → Prop} :
    wpAny (model X.prog X.w) A (call (.ref f) [.ref a, u]) (fun r s' => ∃ k H', r = .bool k ∧ Inv X pins σ H' s' ∧ Q k H') E s := by
  have hl := F.len _ _ _ _ q
  have hbt := hb s [.ref a, u] I.kIn (by simpa using hl)
  have e := I.env0
  have e0 : Env0 X.prog X.w X.K X.mg X.base A X.stack s H := ⟨hfr.trans e.frames, e.mod, e.bs, e.bsz, e.funs, e.frf, e.hok, e.bare⟩
  refine wpAny_call (codeAny_mono (F.run A X.stack s H ⟨[.ref a, u], []⟩ [.ref a, u] [.ref a, y] _ _ hr e0 (by simpa using hbt) (.cons rfl (.cons ry .nil)) q) fun r s' z => ?_)
  cases r with
  | error er =>
    have z' : CX0 X.stack H s E0 er s' := z
    exact z'.elim
  | ok fl =>
    cases fl with
    | ret w =>
      obtain ⟨v, H', I', rv, k, ek, qk⟩ := I.after z
      subst ek
      cases rv
      exact ⟨k, H', rfl, I', qk⟩
    | next => exact False.elim z
    | brk => exact False.elim z
    | cont => exact False.elim z
theorem op_ownV (F : FnOk X.prog X.w X.K X.mg X.base CX0 n f fd ps sp) (hs : PySem.W.findIn X.K (.ref C) "__eq__" = some (some (.ref f))) (hf : PySem.W.isFn X.K (.ref f) = true) (hb : Binds X.K fd ps []) (hr : Room n X.A) : OpR X (compareOp .Eq) (rOwnV X.K C sp) := by
  intro pins s σ H x y v u Q I rx ry q
  obtain ⟨a, dx, fs, t, rfl, ha, ty, nf, q⟩ := q
  cases rx
  obtain ⟨_, J, _⟩ := ins_get I.hok ha
  obtain ⟨od, J, _⟩ := J.look
  obtain ⟨m, hF⟩ := I.fr
  obtain ⟨P, kx, hP, _⟩ := L2.kit_of I ry ty
  show wpAny (model X.prog X.w) X.A (richCompare .Eq (.ref a) u) _ _ s
  refine PySem.W.cmp_K (tb := t) hr.units0 hF I.ok.mod.kin J (kx.ty _ _ I.kIn hP) nf hs hf (wpAny_mono (own_calledV F hb hr rfl I ry q) (fun r s' z => ?_) fun _ _ z => z)
  obtain ⟨k, H', rfl, I', qk⟩ := z
  exact ⟨.bl k, H', I', rfl, qk⟩
end
def plnD : D → Bool
  | .non => true
  | .bl _ => true
  | .int _ => true
  | .str _ => true
  | .lst _ => true
  | .tup _ => true
  | .dic _ _ => true
  | _ => false
end Pd
namespace Pd
open PySem L2 PyProof.Rows
end Pd
namespace Pd
open PySem L2 PyProof.Rows
end Pd
namespace Pd
open PySem L2 PyProof.Rows
open Builtin.Str in
theorem occ_stays (s sub : Str) (hi : Nat) : ∀ (l : List Nat) (st : Array Nat × Nat), st.fst.size = 1 → (forIn l st (StrLaws.occBody s sub hi 1)).run.fst = st.fst
  | [], st, h => rfl
  | a :: l, st, h => by
    rw [List.forIn_cons]
    unfold StrLaws.occBody
    rw [if_neg (by rw [h]; intro z; exact absurd z.1.1.1 (by decide))]
    exact occ_stays s sub hi l st h
open Builtin.Str in
theorem occ_first (s sub : Str) (hi : Nat) : ∀ (l : List Nat) (free : Nat), (∀ i ∈ l, free ≤ i) →
    (forIn l ((#[] : Array Nat), free) (StrLaws.occBody s sub hi 1)).run.fst.toList = (l.find? fun i => decide (i + sub.length ≤ hi ∧ subAt s sub i = true)).toList
  | [], free, _ => rfl
  | a :: l, free, hf => by
    rw [List.forIn_cons]
    unfold StrLaws.occBody
    have ha : free ≤ a := hf a (List.mem_cons_self ..)
    by_cases hc : a + sub.length ≤ hi ∧ subAt s sub a = true
    · have c1 : (((#[] : Array Nat), free).fst.size < 1 ∧ ((#[] : Array Nat), free).snd ≤ a) ∧ a + sub.length ≤ hi := ⟨⟨by simp, ha⟩, hc.1⟩
      rw [if_pos ⟨c1, hc.2⟩, List.find?_cons_of_pos (by simpa using hc)]
      have := occ_stays s sub hi l ((#[] : Array Nat).push a, a + sub.length) (by simp)
      show (forIn l ((#[] : Array Nat).push a, a + sub.length) (StrLaws.occBody s sub hi 1)).run.fst.toList = _
      rw [this]
      rfl
    · have c2 : ¬ (((((#[] : Array Nat), free).fst.size < 1 ∧ ((#[] : Array Nat), free).snd ≤ a) ∧ a + sub.length ≤ hi) ∧ subAt s sub a = true) := fun h => hc ⟨h.1.2, h.2⟩
      rw [if_neg c2, List.find?_cons_of_neg (by simpa using hc)]
      exact occ_first s sub hi l free (fun i hi' => hf i (List.mem_cons_of_mem _ hi'))
open Builtin.Str in
theorem occ_one (p q : List Nat) (c : Nat) (h : c ∉ p) : occurrences (⟨(p ++ c :: q).toArray⟩ : Str) ⟨#[c]⟩ 0 (⟨(p ++ c :: q).toArray⟩ : Str).length 1 = [p.length] := by
  rw [StrLaws.occ_eq, occ_first _ _ _ _ _ fun _ _ => Nat.zero_le _]
  have e : ((List.range' 0 ((⟨(p ++ c :: q).toArray⟩ : Str).length + 1 - 0)).find? fun i => decide (i + (⟨#[c]⟩ : Str).length ≤ (⟨(p ++ c :: q).toArray⟩ : Str).length ∧ subAt (⟨(p ++ c :: q).toArray⟩ : Str) ⟨#[c]⟩ i = true)) = some p.length := by
    rw [List.find?_eq_some_iff_append]
    have hl : (⟨(p ++ c :: q).toArray⟩ : Str).length = p.length + (q.length + 1) := by simp [Str.length]
    refine ⟨?_, List.range' 0 p.length, List.range' (p.length + 1) (q.length + 1), ?_, fun i hi => ?_⟩
    · rw [decide_eq_true_eq, StrLaws.subAt_one]
      simp
    · rw [hl, Nat.sub_zero]
      have : p.length + (q.length + 1) + 1 = p.length + (1 + (q.length + 1)) := by omega
      rw [this, ← List.range'_append_1, ← List.range'_append_1]
      simp
    · rw [Bool.not_eq_true', decide_eq_false_iff_not, StrLaws.subAt_one]
      rw [List.mem_range'_1] at hi
      intro z
      have z : (p ++ c :: q)[i]? = some c := z
      rw [List.getElem?_append_left (by omega)] at z
      exact h (List.mem_of_getElem? z)
  rw [e]
  rfl
theorem splitMax_one (p q : List Nat) (c : Nat) (hc : c < 128) (h : c ∉ p) : Txt.splitMax (⟨(p ++ c :: q).toArray⟩ : Str) ⟨#[c]⟩ 1 = [⟨p.toArray⟩, ⟨q.toArray⟩] := by
  unfold Txt.splitMax
  have h1 : (decide ((⟨(p ++ c :: q).toArray⟩ : Str).length < (⟨#[c]⟩ : Str).length) || decide (Builtin.Str.strKind (⟨(p ++ c :: q).toArray⟩ : Str) < Builtin.Str.strKind (⟨#[c]⟩ : Str))) = false := by
    have k1 : Builtin.Str.strKind (⟨#[c]⟩ : Str) = 1 := by
      unfold Builtin.Str.strKind
      simp
      omega
    have k2 : 1 ≤ Builtin.Str.strKind (⟨(p ++ c :: q).toArray⟩ : Str) := by
      unfold Builtin.Str.strKind
      split
      · decide
      · split <;> decide
    rw [k1, Bool.or_eq_false_iff, decide_eq_false_iff_not, decide_eq_false_iff_not]
    refine ⟨?_, by omega⟩
    simp [Str.length]
  have h2 : limitOf (⟨(p ++ c :: q).toArray⟩ : Str) 1 = 1 := rfl
  rw [h1, h2, occ_one p q c h]
  simp only [Bool.false_eq_true, if_false, List.isEmpty_cons]
  have ext : ∀ a b : Str, a.cps.toList = b.cps.toList → a = b := fun a b e => by
    cases a
    cases b
    simpa using e
  unfold Builtin.Str.partsBetween
  simp only [List.map_cons, List.map_nil, List.singleton_append, List.zip_cons_cons, List.zip_nil_right]
  refine congr (congrArg _ (ext _ _ ?_)) (congr (congrArg _ (ext _ _ ?_)) rfl)
  · rw [StrLaws.strSub_toList]
    simp
  · rw [StrLaws.strSub_toList]
    have e1 : (⟨#[c]⟩ : Str).length = 1 := rfl
    have e2 : (⟨(p ++ c :: q).toArray⟩ : Str).length = p.length + (q.length + 1) := by simp [Str.length]
    rw [e1, e2]
    show ((p ++ c :: q).drop (p.length + 1)).take _ = q
    rw [show p ++ c :: q = (p ++ [c]) ++ q by simp, show p.length + 1 = (p ++ [c]).length by simp, List.drop_left, List.take_of_length_le (by simp; omega)]
theorem mt_splitMax {X : Cx} : MtR X "str.split" (fun x xs H Q => ∃ a b, x = .str a ∧ xs = [.str b, .int 1] ∧ (b.length == 0) = false ∧ a.length + 2 ≤ sizeLine ∧ rNewStrs (Txt.splitMax a b 1) H Q) := by
  intro pins s σ H x xs v us Q I rx rs h
  obtain ⟨a, b, rfl, rfl, hb, hz, h⟩ := h
  obtain ⟨t, rfl⟩ := rx
  cases rs with
  | cons r1 rs =>
    cases rs with
    | cons r2 rs =>
      cases rs
      obtain ⟨u, rfl⟩ := r1
      obtain ⟨w2, rfl⟩ := r2
      have hk : (decide ((1 : Int) < -(2 ^ 63 : Int)) || decide ((1 : Int) ≥ 2 ^ 63)) = false := by decide
      have hn : (Builtin.Str.partsBetween a (Builtin.Str.occurrences a b 0 a.length (limitOf a 1)) b.length).length ≤ sizeLine := by
        have e1 := StrLaws.occ_length_le_len a b 0 a.length (limitOf a 1)
        rw [length_partsBetween]; omega
      have hl1 : 1 ≤ sizeLine := by decide
      cases h1 : (decide (a.length < b.length) || decide (Builtin.Str.strKind a < Builtin.Str.strKind b))
      · cases hf : (Builtin.Str.occurrences a b 0 a.length (limitOf a 1)).isEmpty
        · refine call_meets F.slot_str_split (typeIs_str _ _ _) F.entry_str_split (F.args_str_split_3 _ _ _) (meets_str_split_sep_max a b 1 t u w2 hk h1 hb hf (by omega) hn) ?_
          show EP X pins σ Q (.ref s.heap.objs.size) { s with toks := _, heap := s.heap.push { cls := .type "list", data := .seq (strsFrom s.toks (Builtin.Str.partsBetween a (Builtin.Str.occurrences a b 0 a.length (limitOf a 1)) b.length)).toArray } }
          rw [strsFrom_eq]
          have e : Txt.splitMax a b 1 = Builtin.Str.partsBetween a (Builtin.Str.occurrences a b 0 a.length (limitOf a 1)) b.length := (if_neg (ne_true_of_eq_false h1)).trans (if_neg (ne_true_of_eq_false hf))
          exact laid_strs (ys := Txt.splitMax a b 1) I ((numbered_texts _ _).trans e.symm) (by rw [e]; exact hn) h
        · refine call_meets F.slot_str_split (typeIs_str _ _ _) F.entry_str_split (F.args_str_split_3 _ _ _) (meets_str_split_max_not_found a b 1 t u w2 hk h1 hb hf) ?_
          have e : Txt.splitMax a b 1 = [a] := (if_neg (ne_true_of_eq_false h1)).trans (if_pos hf)
          exact laid_strs (l := [(a, t)]) (ys := Txt.splitMax a b 1) (k := s.toks) I e.symm (by rw [e]; exact hl1) h
      · refine call_meets F.slot_str_split (typeIs_str _ _ _) F.entry_str_split (F.args_str_split_3 _ _ _) (meets_str_split_max_cannot_occur a b 1 t u w2 hk h1) ?_
        have e : Txt.splitMax a b 1 = [a] := if_pos h1
        exact laid_strs (l := [(a, t)]) (ys := Txt.splitMax a b 1) (k := s.toks) I e.symm (by rw [e]; exact hl1) h
def dSpl (d e : DE) : DE := fun n ε P => d n ε fun n1 x => match x with
  | .str t => e n1 ε fun n2 y => match y with
    | .str [c] => c < 128 ∧ t.length ≤ 1000000 ∧ ∃ p q, t = p ++ c :: q ∧ c ∉ p ∧ P n2 (.lst [.str p, .str q])
    | _ => False
  | _ => False
theorem de_spl {X : Cx} {o e : Expr} {da db : DE} {apos cpos p1 : Pos} {j : Nat} (ho : PE X o (liftE X.K da)) (he : PE X e (liftE X.K db))
    (hbase : attributeBase o "split" X.env (eval o X.env) = eval o X.env := by rfl)
    (hfew : ((backTo cpos (starEach [e, .Constant (.int 1) j p1] X.env)).all (fun x => !x.1) && (backToKw cpos (keywordEach [] X.env)).all (fun x => x.1.isSome)
      && decide (([e, .Constant (.int 1) j p1] : List Expr).length + ([] : List Keyword).length + (if ([] : List Keyword).isEmpty then 0 else 1) < 30)) = true := by rfl)
    (hline : (apos.endLine == cpos.line) = true := by rfl) (hst : starEach [e, .Constant (.int 1) j p1] X.env = (false, eval e X.env) :: starEach [.Constant (.int 1) j p1] X.env := by rfl)
    (hst2 : starEach [.Constant (.int 1) j p1] X.env = (false, eval (.Constant (.int 1) j p1) X.env) :: starEach [] X.env := by rfl) :
    PE X (.Call (.Attribute o "split" apos) [e, .Constant (.int 1) j p1] [] cpos) (liftE X.K (dSpl da db)) := by
  refine pe_w (pe_bm PySem.F.plainAttrs_str PySem.F.slot_str_split PySem.F.type_str_split mt_splitMax ho (pa_cons he (pa_cons pe_int pa_nil hst2) hst) hbase hfew hline hst) fun σ H Q ⟨O, g, n, ε, P, r, q, k⟩ => ?_
  refine ⟨O, g, n, ε, _, r, q, fun v1 g1 H1 n1 d1 q1 s1 o1 e1 => ?_⟩
  cases e1 with
  | str a =>
    refine ⟨rfl, O, g1, n1, ε, _, r.step s1 o1, q1, fun v2 g2 H2 n2 d2 q2 s2 o2 e2 => ?_⟩
    cases e2 with
    | str b =>
      match b, q2 with
      | [c], q2 =>
        obtain ⟨hc, hl, p, q, rfl, hp, q3⟩ := q2
        refine ⟨_, _, rfl, rfl, rfl, ?_, ?_⟩
        · rw [sizeLine_eq]
          show (p ++ c :: q).toArray.size + 2 ≤ _
          simp at hl ⊢
          omega
        · intro a hn
          rw [splitMax_one p q c hc hp]
          exact (Fin.of k (s1.trans s2)).newL o2 q3 (.cons (.str p) (.cons (.str q) .nil)) hn
    | _ => exact q2.elim
  | _ => exact q1.elim
end Pd
namespace Pd
open PySem L2
structure ErrT (K : PySem.W.Frag) (D : Str) (Cs : List Str) : Prop where
  top : ∀ A ∈ D :: Cs, PySem.W.kitOne K (.ref (He.ga K A)) (.ref (He.ga K D)) = some true
  ve : ∀ A ∈ D :: Cs, PySem.W.kitOne K (.ref (He.ga K A)) (.type "ValueError") = some true
  one : ∀ A ∈ D :: Cs, ∀ B ∈ Cs, PySem.W.kitOne K (.ref (He.ga K A)) (.ref (He.ga K B)) = some (decide (A = B))
  bi : ∀ A ∈ D :: Cs, ∀ S ∈ ["NoneType", "bool", "int", "str", "list", "tuple", "dict"], PySem.W.kitOne K (.type S) (.ref (He.ga K A)) = some false
theorem kit_self {K : PySem.W.Frag} (a : Addr) : PySem.W.kitOne K (.ref a) (.ref a) = some true := by
  unfold PySem.W.kitOne
  rw [if_pos (by simp)]
theorem ErrT.inj {K : PySem.W.Frag} {D : Str} {Cs : List Str} (t : ErrT K D Cs) : ∀ A ∈ D :: Cs, ∀ B ∈ Cs, He.ga K A = He.ga K B → A = B := fun A hA B hB e => by
  have h := t.one A hA B hB
  rw [e, kit_self] at h
  simpa using h.symm
end Pd
namespace Pd
open PySem L2
end Pd
namespace L2
open PySem PySem.Spec PyProof.Rows HT
end L2
namespace Pd
open PySem L2
end Pd
namespace Pd
open PySem L2
end Pd
namespace L2
open PySem PySem.Spec PyProof.Rows HT
end L2
namespace Pd
open PySem L2
end Pd
namespace L2
open PySem PySem.Spec PyProof.Rows
end L2
namespace Pd
open PySem L2
end Pd
namespace Pd
open PySem L2
def gOwnA (C : Addr) (tb : D → Option Bool) (sp : FD) : G2 := fun dx dy P => ∃ fs, dx = .obj C fs ∧ (plnD dy = true ∨ ∃ C' gs, dy = .obj C' gs) ∧ tb dy = some false ∧ ∀ n, sp [dx, dy] n fun n' r => n' = n ∧ ∃ k, r = .bl k ∧ P (.bl k)
theorem notFirst_ofA {K : PySem.W.Frag} {C : Addr} {t : Value} (h : PySem.W.kitOne K t (.ref C) = some false) : PySem.W.notFirst K C t = true := by
  unfold PySem.W.kitOne at h
  split at h
  · cases h
  · unfold PySem.W.kitCls at h
    dsimp only at h
    split at h
    · unfold PySem.W.notFirst
      rw [h]
      simp
    · cases h
theorem den_tyO {K : PySem.W.Frag} {g : Gh} {H : Hp} {v : V} {d : D} {t : Value} (sm : Same g.G H) (h : Den K g v d) (e : tyD d = some t) (i : ClOk K d) (hp : plnD d = true ∨ ∃ C' gs, d = .obj C' gs) : L2.TyX K H v t := by
  cases h with
  | non => cases e; exact .base .non
  | bl b => cases e; exact .base (.bl b)
  | int b => cases e; exact .base (.int b)
  | str b => cases e; exact .base (.str _)
  | lst h1 h2 => cases e; exact .base (.lst (sm _ _ h1))
  | tup h1 h2 =>
    cases e
    rcases h1 with h1 | ⟨o, h1⟩
    · exact .base (.tup (sm _ _ h1))
    · exact .fTuple (sm _ _ h1)
  | obj h1 h2 =>
    cases e
    have z : InsOk K _ := i
    exact .base (.ins (sm _ _ h1) z.cl z.ha z.hn z.htk z.hm)
  | dic h1 h2 h3 => cases e; exact .base (.dK (sm _ _ h1))
  | _ => rcases hp with hp | ⟨C', gs, hp⟩
         · simp [plnD] at hp
         · cases hp
theorem so_ownA {K : PySem.W.Frag} {C : Addr} {tb : D → Option Bool} {sp : FD} (hi : IsT K (.ref C) tb) : SOp K (rOwnV K C (liftF K sp)) (gOwnA C tb sp) := ⟨fun {g H n x y dx dy P Q} ok hx hy q f => by
  obtain ⟨fs, rfl, hp, ht, q⟩ := q
  obtain ⟨u, cu, hall⟩ := hi.cl
  obtain ⟨t, t1, t2, t3⟩ := hall dy false ht
  cases cu
  have ty := den_tyO ok.sub hy t1 t2 hp
  cases hx with
  | obj h1 h2 =>
    refine ⟨_, _, _, _, rfl, ok.sub _ _ h1, ty, notFirst_ofA t3, g, n, _, _, ok, .cons (.obj h1 h2) (.cons hy .nil), q n, fun v g' H' n' r p s o d => ?_⟩
    obtain ⟨rfl, k, rfl, p⟩ := p
    cases d
    exact ⟨k, rfl, f _ _ _ _ p s o (.bl _)⟩⟩
section
variable {X : Cx} {k : Nat} {C : Addr} {ps : List Str} {sp : FD} {pos : Pos} {a b : Expr} {da db : DE} {tb : D → Option Bool}
theorem de_ownA (G : HasM X.prog X.w X.K X.mg X.base k C "__eq__" ps [] sp) (hi : IsT X.K (.ref C) tb) (hr : Room (k + 1) X.A) (ha : PE X a (liftE X.K da)) (hb : PE X b (liftE X.K db)) (hm : behindInMarks .Eq b = false := by first | exact nomark _ | rfl) : PE X (.Compare a [.Eq] [b] pos) (liftE X.K (dOp (gOwnA C tb sp) da db)) := by
  obtain ⟨f, fd, dvs, ds, F, _, ⟨h1, h2, _⟩, hb', hv, hd⟩ := G.ex
  obtain rfl : dvs = [] := by
    have := hd ⟨fun _ => none, fun _ => False⟩
    cases this
    rfl
  cases hv
  exact de_cmp (op_ownV F h1 h2 hb' (hr.mono (Nat.le_succ k))) (so_ownA hi) ha hb hm
end
theorem ne_isi {K : PySem.W.Frag} {A B : Str} (h : (Fx.isiC A (.inl B) false).ok K = true) : He.ga K A ≠ He.ga K B := fun e => by
  have z : PySem.W.kitOne K (.ref (He.ga K A)) (.ref (He.ga K B)) = some false := isiC_ok h
  rw [e] at z
  unfold PySem.W.kitOne at z
  rw [if_pos (by simp)] at z
  cases z
end Pd
namespace LW
open PySem L2 Pd
def b__law_cells (c : Str → Addr)  : DS := (dRet (dLRg (r1 (dBi gMax (dCons (dC (.int 1)) (dCons (dBi gMin (dCons (dVar 1) (dCons (dBi gLen (dCons (dVar 0) dNil)) dNil))) dNil))))))
def b__law_pot (c : Str → Addr)  : DS := (dSeq (dSet 2 (dIte (dTB (dOp gLt (dVar 1) (dBi gLen (dCons (dVar 0) dNil)))) (dOp gIx (dVar 0) (dVar 1)) (dOp gAdd (dOp gMul (dC (.int 281)) (dVar 1)) (dC (.int 127)))))
    (dSeq (dSet 3 (dOp gMul (dOp gMod (dBi gInt (dCons (dBi gAbs (dCons (dVar 2) dNil)) dNil)) (dOp gPow (dOp gPow (dC (.int 10)) (dC (.int 60))) (dC (.int 5)))) (dBi gInt (dCons (dOp gGe (dBi gAbs (dCons (dVar 2) dNil)) (dOp gPow (dC (.int 10)) (dC (.int 18)))) dNil))))
    (dSeq (dSet 4 (dOp gMod (dBi gInt (dCons (dVar 2) dNil)) (dC (.int 2305843009213693951))))
    (dRetPot (dLstO (dCons (dVar 3) (dCons (dOp gMod (dBi gInt (dCons (dOp gAdd (dOp gAdd (dOp gMul (dVar 4) (dC (.int 74521))) (dOp gMul (dOp gMul (dC (.int 7823)) (dVar 1)) (dVar 1))) (dC (.int 199))) dNil)) (dC (.int 2305843009213693921))) (dCons (dC (.int 0)) dNil))))))))
def b__law_of (c : Str → Addr) (s__law_take : FD) : DS := (dRet (dOp gIx (dVar 1) (dCall s__law_take [] (dCons (dVar 0) (dCons (dBi gLen (dCons (dVar 1) dNil)) dNil)))))
def b__law_block_text (c : Str → Addr)  : DS := (dRet (dJoin (dC (.str [])) (dO (dComp (iVal (dVar 0)) (gTp 2 (gsCons (gNm 1) (gsCons (gNm 2) gsNil))) dYes (dOp gAdd (dVar 1) (dIte (dTB (dOp gGt (dVar 2) (dC (.int 1)))) (dBi gStr (dCons (dVar 2) dNil)) (dC (.str [])))) [1, 2]))))
def b_pieces_of (c : Str → Addr)  : DS := (dSeq (dSet 1 (dO (dComp (iEnm (dVar 0)) (gTp 2 (gsCons (gNm 2) (gsCons (gNm 3) gsNil))) (dTB (dOp gIn (dVar 3) (dC (.str [97, 98, 99, 100, 101, 102, 103, 104, 105, 106, 107, 108, 109, 110, 111, 112, 113, 114, 115, 116, 117, 118, 119, 120, 121, 122])))) (dVar 2) [2, 3])))
    (dRet (dO (dComp (iZp (dVar 1) (dLst (dStar (dSl (dVar 1) (pSome (dC (.int 1))) pNo) (dCons (dBi gLen (dCons (dVar 0) dNil)) dNil)))) (gTp 2 (gsCons (gNm 2) (gsCons (gNm 4) gsNil))) dYes (dTup (dCons (dOp gIx (dVar 0) (dVar 2)) (dCons (dSl (dVar 0) (pSome (dOp gAdd (dVar 2) (dC (.int 1)))) (pSome (dVar 4))) dNil))) [2, 4]))))
def b_whole_in (c : Str → Addr)  : DS := (dSeq (dSet 1 (dIte (dTB (dOp gEq (dSl (dVar 0) pNo (pSome (dC (.int 1)))) (dC (.str [45])))) (dSl (dVar 0) (pSome (dC (.int 1))) pNo) (dVar 0)))
    (dSeq (dIf (dOr (dNot (dTB (dChain gLt gLe (dC (.int 0)) (dBi gLen (dCons (dVar 1) dNil)) (dC (.int 40))))) (dNot (dTB (dBi gAll (dCons (dO (dComp (iVal (dVar 1)) (gNm 2) dYes (dOp gIn (dVar 2) (dC (.str [48, 49, 50, 51, 52, 53, 54, 55, 56, 57]))) [2])) dNil))))) (dRet (dC .non)) dNx)
    (dRet (dIte (dTB (dOp gEq (dBi gStr (dCons (dBi gInt (dCons (dVar 0) dNil)) dNil)) (dVar 0))) (dBi gInt (dCons (dVar 0) dNil)) (dC .non)))))
def b_block_in (c : Str → Addr) (s_whole_in : FD) : DS := (dSeq (dAsg (dVar 0) (gTp 2 (gsCons (gNm 1) (gsCons (gNm 2) gsNil))))
    (dSeq (dIf (dTB (dOp gEq (dVar 2) (dC (.str [])))) (dRet (dTup (dCons (dVar 1) (dCons (dC (.int 1)) dNil)))) dNx)
    (dSeq (dSet 3 (dCall s_whole_in [] (dCons (dVar 2) dNil)))
    (dRet (dIte (dAnd (dTB (dOp gIsNot (dVar 3) (dC .non))) (dTB (dChain gLt gLt (dC (.int 1)) (dVar 3) (dC (.int 1000000000000000000000000000000))))) (dTup (dCons (dVar 1) (dCons (dVar 3) dNil))) (dC .non))))))
def b_Word___init__ (c : Str → Addr) (s_blocks_told : FD) : DS := (dSeq (dSet 2 (dCall s_blocks_told [] (dCons (dVar 1) dNil)))
    (dSeq (dIf (dTB (dOp gIs (dVar 2) (dC .non))) dNev dNx)
    (dSeq (dFst (c "Word") 0 "own_text" (dVar 1))
    (dSeq (dFst (c "Word") 0 "own_blocks" (dVar 2))
    (dSeq (dSetO 3 (dLstO (dCons (dC (.int 0)) dNil)))
    (dSeq (dFor (iVal (dVar 2)) (gTp 2 (gsCons (gNm 4) (gsCons (gNm 5) gsNil))) (dApp 3 (dOp gAdd (dIxO 3 (dNeg (dC (.int 1)))) (dVar 5))))
    (dFrz [3] (dFst (c "Word") 0 "own_ends" (dBi gTuple (dCons (dVar 3) dNil))))))))))
end LW
namespace LW
open PySem L2 Pd
def b_is_said_v2 (c : Str → Addr)  : DS := (dRet (dAndV (dTB (dIsi (isT "str" [c "Word", c "Grown"]) (dVar 0))) (dOp gIn (dVar 0) (dVar 1))))
end LW
namespace LW
open PySem L2 Pd
section
variable {P : D → Prop} {C : Int → Int → Prop} {f : Int → Int → D} {i j : Int} {a b : List Nat} {xs ys : List D} {ns : List Int} {d : D} {lo hi : Option Int}
theorem ev_gI : gI C f (.int i) (.int j) P = (C i j ∧ P (f i j)) := rfl
theorem ev_addi : gAdd (.int i) (.int j) P = P (.int (i + j)) := rfl
theorem ev_adds : gAdd (.str a) (.str b) P = (a.length + b.length ≤ 16777216 ∧ P (.str (a ++ b))) := rfl
theorem ev_addl : gAdd (.lst xs) (.lst ys) P = (xs.length + ys.length ≤ 16777216 ∧ P (.lst (xs ++ ys))) := rfl
theorem ev_addt : gAdd (.tup xs) (.tup ys) P = (xs.length + ys.length ≤ 16777216 ∧ P (.tup (xs ++ ys))) := rfl
theorem ev_muli : gMul (.int i) (.int j) P = (CMulW i j ∧ P (.int (i * j))) := rfl
theorem ev_muls : gMul (.str a) (.int j) P = (-1000000 ≤ j ∧ j ≤ 1000000 ∧ a.length * j.toNat ≤ 16777216 ∧ P (.str (List.replicate j.toNat a).flatten)) := rfl
theorem ev_mull : gMul (.lst xs) (.int j) P = (-1000000 ≤ j ∧ j ≤ 1000000 ∧ xs.length * j.toNat ≤ 16777216 ∧ P (.lst (List.replicate j.toNat xs).flatten)) := rfl
theorem ev_oki : okEq (.int i) (.int j) = true := rfl
theorem ev_oks : okEq (.str a) (.str b) = true := rfl
theorem ev_okl : okEq (.lst xs) d = (okD (.lst xs) && okD d) := rfl
theorem ev_okt : okEq (.tup xs) d = (okD (.tup xs) && okD d) := rfl
theorem ev_ixl : gIx (.lst xs) (.int i) P = ∃ d, L2.atI xs i = some d ∧ P d := rfl
theorem ev_ixt : gIx (.tup xs) (.int i) P = ∃ d, L2.atI xs i = some d ∧ P d := rfl
theorem ev_ixs : gIx (.str a) (.int i) P = (a.length ≤ 16777216 ∧ ∃ c, L2.atI a i = some c ∧ P (.str [c])) := rfl
theorem ev_ixr : gIx (.scr ns) (.int i) P = ∃ k, L2.atI ns i = some k ∧ P (.int k) := rfl
theorem ev_lenl : gLen [.lst xs] P = P (.int xs.length) := rfl
theorem ev_lent : gLen [.tup xs] P = P (.int xs.length) := rfl
theorem ev_lens : gLen [.str a] P = (a.length ≤ 16777216 ∧ P (.int a.length)) := rfl
theorem ev_lenr : gLen [.scr ns] P = P (.int ns.length) := rfl
theorem ev_sll : gSl (.lst xs) lo hi P = P (.lst (cut xs lo hi)) := rfl
theorem ev_slt : gSl (.tup xs) lo hi P = P (.tup (cut xs lo hi)) := rfl
theorem ev_sls : gSl (.str a) lo hi P = (a.length ≤ 16777216 ∧ P (.str (cut a lo hi))) := rfl
theorem ev_inttoi : gInt [.int i] P = P (.int i) := rfl
theorem ev_inttob {x : Bool} : gInt [.bl x] P = P (.int (if x then 1 else 0)) := rfl
theorem ev_inttos : gInt [.str a] P = (a.length ≤ 640 ∧ ∃ n, PySem.intText? ⟨a.toArray⟩ = some n ∧ P (.int n)) := rfl
theorem ev_strtoi : gStr [.int i] P = (i.natAbs.log2 < 1920 ∧ P (.str (numD i))) := rfl
theorem ev_tupl : gTuple [.lst xs] P = P (.tup xs) := rfl
theorem ev_tupt : gTuple [.tup xs] P = P (.tup xs) := rfl
theorem ev_listl : gList [.lst xs] P = P (.lst xs) := rfl
theorem ev_listt : gList [.tup xs] P = P (.lst xs) := rfl
theorem ev_lists : gList [.str a] P = (a.length ≤ 16777216 ∧ P (.lst (sgn a))) := rfl
theorem ev_max : gMax [.int i, .int j] P = P (.int (if j > i then j else i)) := rfl
theorem ev_min : gMin [.int i, .int j] P = P (.int (if j < i then j else i)) := rfl
theorem ev_abs : gAbs [.int i] P = P (.int (if i < 0 then -i else i)) := rfl
theorem ev_all : gAll [.lst xs] P = ∃ ns, isBls xs = some ns ∧ P (.bl (ns.all id)) := rfl
theorem ev_any : gAny [.lst xs] P = ∃ ns, isBls xs = some ns ∧ P (.bl (ns.any id)) := rfl
theorem ev_srcl : srcD (.lst xs) = some xs := rfl
theorem ev_srct : srcD (.tup xs) = some xs := rfl
theorem ev_srcs : srcD (.str a) = some (sgn a) := rfl
theorem ev_at0 {α : Type} (x : α) (l : List α) : L2.atI (x :: l) 0 = some x := L2.atI_nat (j := 0) rfl
theorem ev_at1 {α : Type} (x y : α) (l : List α) : L2.atI (x :: y :: l) 1 = some y := L2.atI_nat (j := 1) rfl
theorem ev_atl {α : Type} (l : List α) (x : α) : L2.atI (l ++ [x]) (-1) = some x := L2.atI_last l x
theorem ev_atn {α : Type} : L2.atI ([] : List α) (-1) = none := by
  unfold L2.atI ixN
  rfl
theorem ev_ixn (n : Nat) : ixN (n + 1) (-1) = some n := by
  unfold ixN
  rw [if_neg (by decide), if_pos (by omega)]
  congr 1
  omega
end
theorem cut_from {α : Type} (l : List α) (k : Nat) : cut l (some (k : Int)) none = l.drop k := by
  unfold cut
  rw [show HT.sIx l.length 0 (some (k : Int)) = min k l.length from HT.sIx_nat _ _ _, show HT.sIx l.length l.length none = l.length from rfl]
  by_cases h : k ≤ l.length
  · rw [Nat.min_eq_left h]
    exact List.take_of_length_le (by rw [List.length_drop]; exact Nat.le_refl _)
  · rw [Nat.min_eq_right (by omega), List.drop_of_length_le (Nat.le_refl _), List.drop_of_length_le (by omega)]
    simp
theorem cut_to {α : Type} (l : List α) (k : Nat) : cut l none (some (k : Int)) = l.take k := by
  unfold cut
  rw [show HT.sIx l.length l.length (some (k : Int)) = min k l.length from HT.sIx_nat _ _ _, show HT.sIx l.length 0 none = 0 from rfl, List.drop_zero, Nat.sub_zero]
  by_cases h : k ≤ l.length
  · rw [Nat.min_eq_left h]
  · rw [Nat.min_eq_right (by omega), List.take_of_length_le (Nat.le_refl _), List.take_of_length_le (by omega)]
theorem cut_mid {α : Type} (l : List α) (i j : Nat) : cut l (some (i : Int)) (some (j : Int)) = (l.drop i).take (j - i) := by
  unfold cut
  rw [show HT.sIx l.length 0 (some (i : Int)) = min i l.length from HT.sIx_nat _ _ _, show HT.sIx l.length l.length (some (j : Int)) = min j l.length from HT.sIx_nat _ _ _]
  by_cases h : i ≤ l.length
  · rw [Nat.min_eq_left h]
    by_cases h2 : j ≤ l.length
    · rw [Nat.min_eq_left h2]
    · rw [Nat.min_eq_right (by omega), List.take_of_length_le (by rw [List.length_drop]; exact Nat.le_refl _), List.take_of_length_le (by rw [List.length_drop]; omega)]
  · rw [Nat.min_eq_right (by omega : l.length ≤ i), List.drop_of_length_le (Nat.le_refl _), List.drop_of_length_le (by omega)]
    simp
theorem compW_pure {dg : DG} {t : DT} {d : DE} {ε : Ev} {P : Nat → List D → Prop} (f : D → Bool) (g : D → D) : ∀ (xs acc : List D) (n : Nat),
    (∀ x ∈ xs, ∀ (n : Nat) (K : Nat → D → Prop) (K' : Nat → Prop), (f x = true → K n (g x)) → (f x = false → K' n) → dg x ε fun ε' => t n ε' fun n1 k => (k = true → d n1 ε' fun n2 y => K n2 y) ∧ (k = false → K' n1)) →
    P n (acc ++ (xs.filter f).map g) → compW dg t d ε P xs acc n
  | [], acc, n, _, q => by
    rw [List.filter_nil, List.map_nil, List.append_nil] at q
    exact q
  | x :: xs, acc, n, h, q => by
    refine h x (by simp) n (fun n2 y => compW dg t d ε P xs (acc ++ [y]) n2) (fun n1 => compW dg t d ε P xs acc n1) (fun hf => ?_) (fun hf => ?_)
    · refine compW_pure f g xs _ n (fun y hy => h y (List.mem_cons_of_mem _ hy)) ?_
      rw [List.filter_cons_of_pos hf, List.map_cons] at q
      rw [List.append_assoc]
      exact q
    · refine compW_pure f g xs _ n (fun y hy => h y (List.mem_cons_of_mem _ hy)) ?_
      rw [List.filter_cons_of_neg (by rw [hf]; decide)] at q
      exact q
theorem eqD_str (a b : List Nat) : eqD (.str a) (.str b) = decide (a = b) := by
  rw [eqD, Bool.eq_iff_iff]
  simp
theorem eqD_int (a b : Int) : eqD (.int a) (.int b) = decide (a = b) := by
  rw [eqD, Bool.eq_iff_iff]
  simp
theorem eqD_bl (a b : Bool) : eqD (.bl a) (.bl b) = (a == b) := by
  rw [eqD]
theorem forW_ind {dg : DG} {b : DS} {N : DN} {Inv : List D → Nat → Ev → Prop} (h0 : ∀ n ε, Inv [] n ε → N.nx n ε)
    (hs : ∀ x xs n ε, (∀ n ε, Inv xs n ε → forW dg b N xs n ε) → Inv (x :: xs) n ε → dg x ε fun ε' => b { N with nx := fun n' ε'' => forW dg b N xs n' ε'', ct := fun n' ε'' => forW dg b N xs n' ε'', bk := N.nx } n ε') :
    ∀ xs n ε, Inv xs n ε → forW dg b N xs n ε
  | [], n, ε, i => h0 n ε i
  | x :: xs, n, ε, i => hs x xs n ε (fun n ε => forW_ind h0 hs xs n ε) i
def s_of : FD := fun ds n P => ∃ (s : D) (xs : List D) (m : Nat), ds = [.pot, s] ∧ srcD s = some xs ∧ (∀ l, s = .str l → l.length ≤ 16777216) ∧ 0 < xs.length ∧ xs.length ≤ 1000000 ∧ n = m + 1 ∧ ∀ x ∈ xs, P m x
theorem l_of (c : Str → Addr) : ∀ ds n Q, s_of ds n Q → dFn 2 2 (b__law_of c takeF) ds n Q := by
  rintro ds n Q ⟨s, xs, m, rfl, hs, hl, h0, h1, rfl, q⟩
  refine ⟨rfl, ?_⟩
  have idx : ∀ {α : Type} (l : List α) (r : Int), 0 ≤ r → r < (l.length : Int) → ∃ j x, r = (j : Nat) ∧ l[j]? = some x := fun l r r0 r1 => by
    have hj : r.toNat < l.length := by omega
    exact ⟨r.toNat, _, by omega, List.getElem?_eq_getElem hj⟩
  cases s with
  | lst ys =>
    cases hs
    simp only [b__law_of, envOf, dRet, dRetN, dOp, dSl, dSlO, dVar, dC, pSome, pNo, ev_sll, ev_slt, ev_sls, dBi, dCons, dNil, ev_lenl, ev_lent, ev_lens, ev_lenr, ev_gI, TC, Pd.gSub, gLt, gLe, gGt, gGe, gMod, gFdiv, gPow, gEq, gNe, ev_oki, ev_oks, ev_okl, ev_okt, gIs, gIsNot, gIsB, gIsNotB, Pd.isNon, dCall, dSeq, dSet, dSetO, dMul, setL, bCons, bOwn, bNil, dIf, dIte, dTB, dAnd, dOr, dNot, dBV, dAndV, dOrV, dChain, dTmp, dTmpT, frzE, dFrz, OD.d, dIxO, dApp, dSetI, dNeg, dLst, dLstO, dTup, dO, dDrop, ev_abs, ev_inttoi, ev_inttob, ev_inttos, ev_strtoi, ev_listl, ev_listt, ev_lists, ev_tupl, ev_tupt, ev_addi, ev_adds, ev_addl, ev_addt, ev_muli, ev_muls, ev_mull, ev_max, ev_min, ev_all, ev_any, gRepr, dLRg, Pd.r1, Pd.r2, eqD_str, eqD_int, eqD_bl, dFld, dProp, dMeth, dAugI, dRev, dMake, dIsi, isT, isC, dNx, dBrk, dNev, dFst, putFD, gNm, gTp, gsCons, gsNil, dAsg, dStar, dYes, iniEnd, flatD, wipeE, ev_ixl, ev_ixt, ev_ixs, ev_ixr, ev_srcl, ev_srct, ev_srcs, ev_at0, ev_at1, ev_atl, ev_atn, ev_ixn, Option.some.injEq, exists_eq_left', exists_eq_left, List.foldl_cons, List.foldl_nil, List.map_cons, List.map_nil, List.replicate, List.length_append, List.length_map, List.length_cons, List.length_nil, List.cons_append, List.nil_append, List.append_nil, List.getElem?_cons_zero, List.getElem?_cons_succ, List.set_cons_zero, List.set_cons_succ, Nat.zero_add, Nat.reduceAdd, Nat.reduceSub, Nat.reduceLeDiff, true_and, and_true, decide_eq_true_eq, decide_eq_false_iff_not, ne_eq, reduceCtorEq, false_implies, true_implies, forall_const, Bool.and_self, Bool.and_true, Bool.true_and, takeF]
    refine ⟨_, rfl, by omega, Nat.lt_of_le_of_lt (by simpa using h1) (by decide), m, rfl, fun r r0 r1 => ?_⟩
    obtain ⟨j, x, rfl, e⟩ := idx _ r r0 r1
    exact ⟨x, atI_nat e, q x (List.mem_of_getElem? e)⟩
  | tup ys =>
    cases hs
    simp only [b__law_of, envOf, dRet, dRetN, dOp, dSl, dSlO, dVar, dC, pSome, pNo, ev_sll, ev_slt, ev_sls, dBi, dCons, dNil, ev_lenl, ev_lent, ev_lens, ev_lenr, ev_gI, TC, Pd.gSub, gLt, gLe, gGt, gGe, gMod, gFdiv, gPow, gEq, gNe, ev_oki, ev_oks, ev_okl, ev_okt, gIs, gIsNot, gIsB, gIsNotB, Pd.isNon, dCall, dSeq, dSet, dSetO, dMul, setL, bCons, bOwn, bNil, dIf, dIte, dTB, dAnd, dOr, dNot, dBV, dAndV, dOrV, dChain, dTmp, dTmpT, frzE, dFrz, OD.d, dIxO, dApp, dSetI, dNeg, dLst, dLstO, dTup, dO, dDrop, ev_abs, ev_inttoi, ev_inttob, ev_inttos, ev_strtoi, ev_listl, ev_listt, ev_lists, ev_tupl, ev_tupt, ev_addi, ev_adds, ev_addl, ev_addt, ev_muli, ev_muls, ev_mull, ev_max, ev_min, ev_all, ev_any, gRepr, dLRg, Pd.r1, Pd.r2, eqD_str, eqD_int, eqD_bl, dFld, dProp, dMeth, dAugI, dRev, dMake, dIsi, isT, isC, dNx, dBrk, dNev, dFst, putFD, gNm, gTp, gsCons, gsNil, dAsg, dStar, dYes, iniEnd, flatD, wipeE, ev_ixl, ev_ixt, ev_ixs, ev_ixr, ev_srcl, ev_srct, ev_srcs, ev_at0, ev_at1, ev_atl, ev_atn, ev_ixn, Option.some.injEq, exists_eq_left', exists_eq_left, List.foldl_cons, List.foldl_nil, List.map_cons, List.map_nil, List.replicate, List.length_append, List.length_map, List.length_cons, List.length_nil, List.cons_append, List.nil_append, List.append_nil, List.getElem?_cons_zero, List.getElem?_cons_succ, List.set_cons_zero, List.set_cons_succ, Nat.zero_add, Nat.reduceAdd, Nat.reduceSub, Nat.reduceLeDiff, true_and, and_true, decide_eq_true_eq, decide_eq_false_iff_not, ne_eq, reduceCtorEq, false_implies, true_implies, forall_const, Bool.and_self, Bool.and_true, Bool.true_and, takeF]
    refine ⟨_, rfl, by omega, Nat.lt_of_le_of_lt (by simpa using h1) (by decide), m, rfl, fun r r0 r1 => ?_⟩
    obtain ⟨j, x, rfl, e⟩ := idx _ r r0 r1
    exact ⟨x, atI_nat e, q x (List.mem_of_getElem? e)⟩
  | str l =>
    cases hs
    rw [sgn_length] at h0 h1
    simp only [b__law_of, envOf, dRet, dRetN, dOp, dSl, dSlO, dVar, dC, pSome, pNo, ev_sll, ev_slt, ev_sls, dBi, dCons, dNil, ev_lenl, ev_lent, ev_lens, ev_lenr, ev_gI, TC, Pd.gSub, gLt, gLe, gGt, gGe, gMod, gFdiv, gPow, gEq, gNe, ev_oki, ev_oks, ev_okl, ev_okt, gIs, gIsNot, gIsB, gIsNotB, Pd.isNon, dCall, dSeq, dSet, dSetO, dMul, setL, bCons, bOwn, bNil, dIf, dIte, dTB, dAnd, dOr, dNot, dBV, dAndV, dOrV, dChain, dTmp, dTmpT, frzE, dFrz, OD.d, dIxO, dApp, dSetI, dNeg, dLst, dLstO, dTup, dO, dDrop, ev_abs, ev_inttoi, ev_inttob, ev_inttos, ev_strtoi, ev_listl, ev_listt, ev_lists, ev_tupl, ev_tupt, ev_addi, ev_adds, ev_addl, ev_addt, ev_muli, ev_muls, ev_mull, ev_max, ev_min, ev_all, ev_any, gRepr, dLRg, Pd.r1, Pd.r2, eqD_str, eqD_int, eqD_bl, dFld, dProp, dMeth, dAugI, dRev, dMake, dIsi, isT, isC, dNx, dBrk, dNev, dFst, putFD, gNm, gTp, gsCons, gsNil, dAsg, dStar, dYes, iniEnd, flatD, wipeE, ev_ixl, ev_ixt, ev_ixs, ev_ixr, ev_srcl, ev_srct, ev_srcs, ev_at0, ev_at1, ev_atl, ev_atn, ev_ixn, Option.some.injEq, exists_eq_left', exists_eq_left, List.foldl_cons, List.foldl_nil, List.map_cons, List.map_nil, List.replicate, List.length_append, List.length_map, List.length_cons, List.length_nil, List.cons_append, List.nil_append, List.append_nil, List.getElem?_cons_zero, List.getElem?_cons_succ, List.set_cons_zero, List.set_cons_succ, Nat.zero_add, Nat.reduceAdd, Nat.reduceSub, Nat.reduceLeDiff, true_and, and_true, decide_eq_true_eq, decide_eq_false_iff_not, ne_eq, reduceCtorEq, false_implies, true_implies, forall_const, Bool.and_self, Bool.and_true, Bool.true_and, takeF]
    refine ⟨hl l rfl, _, rfl, by omega, Nat.lt_of_le_of_lt (by simpa using h1) (by decide), m, rfl, fun r r0 r1 => ?_⟩
    obtain ⟨j, x, rfl, e⟩ := idx _ r r0 r1
    refine ⟨hl l rfl, x, atI_nat e, q _ ?_⟩
    unfold sgn
    exact List.mem_map_of_mem (List.mem_of_getElem? e)
  | _ => cases hs
abbrev Bl := Nat × Nat
def blkD (b : Bl) : D := .tup [.str [b.1], .int (b.2 : Nat)]
def expand : List Bl → List Nat
  | [] => []
  | b :: r => List.replicate b.2 b.1 ++ expand r
def Adj : List Bl → Prop
  | [] => True
  | [_] => True
  | a :: b :: r => a.1 ≠ b.1 ∧ Adj (b :: r)
structure Good (bs : List Bl) : Prop where
  adj : Adj bs
  pos : ∀ b ∈ bs, 1 ≤ b.2
theorem expand_append : ∀ (a b : List Bl), expand (a ++ b) = expand a ++ expand b
  | [], b => rfl
  | x :: a, b => by
    rw [List.cons_append, expand, expand, expand_append a b, List.append_assoc]
theorem Adj.snoc : ∀ {a : List Bl} {d : Bl} {x : Bl}, Adj (a ++ [d]) → d.1 ≠ x.1 → Adj (a ++ [d] ++ [x])
  | [], d, x, _, h => ⟨h, trivial⟩
  | [y], d, x, g, h => ⟨g.1, h, trivial⟩
  | y :: z :: a, d, x, g, h => ⟨g.1, Adj.snoc (a := z :: a) g.2 h⟩
theorem Adj.last : ∀ {a : List Bl} {d e : Bl}, Adj (a ++ [d]) → d.1 = e.1 → Adj (a ++ [e])
  | [], d, e, _, _ => trivial
  | [y], d, e, g, h => ⟨fun q => g.1 (q.trans h.symm), trivial⟩
  | y :: z :: a, d, e, g, h => ⟨g.1, Adj.last (a := z :: a) g.2 h⟩
theorem isPds_blk : ∀ {bs : List Bl}, (∀ b ∈ bs, b.1 < 1114112) → isPds (bs.map blkD) = true
  | [], _ => by simp [isPds]
  | b :: bs, h => by
    have h1 := h b (by simp)
    rw [List.map_cons, isPds, isPds_blk fun x hx => h x (List.mem_cons_of_mem _ hx)]
    simp [blkD, isPd, isPds, h1]
theorem dpts_blk : ∀ (bs : List Bl), dpts (bs.map blkD) ≤ 1
  | [] => by simp [dpts]
  | b :: bs => by
    rw [List.map_cons, dpts]
    have := dpts_blk bs
    have e : dpt (blkD b) = 1 := by simp [blkD, dpt, dpts]
    omega
theorem okD_blks {bs : List Bl} (h : ∀ b ∈ bs, b.1 < 1114112) : okD (.lst (bs.map blkD)) = true := by
  unfold okD
  rw [isPd, isPds_blk h, dpt]
  have := dpts_blk bs
  simp only [Bool.true_and, decide_eq_true_eq]
  omega
theorem okD_nil : okD (.lst []) = true := by decide
end LW
namespace LW
open PySem L2 Pd
def b__law_odd (c : Str → Addr) (s__law_of : FD) : DS := (dSeq (dSet 1 (dLst (dCons (dC .non) (dCons (dC (.bl true)) (dCons (dC (.bl false)) (dCons (dC (.int 0)) (dCons (dC (.int 1)) (dCons (dNeg (dC (.int 1))) (dCons (dC (.int 2)) (dCons (dC (.int 7)) (dCons (dC (.str [])) (dCons (dC (.str [97])) (dCons (dC (.str [97, 98])) (dCons (dC (.str [97, 50])) (dCons (dC (.str [114, 105, 103, 104, 116])) (dCons (dTup dNil) (dCons (dLst dNil) (dCons dDic0 (dCons (dTup (dCons (dC (.int 0)) dNil)) (dCons (dTup (dCons (dTup dNil) dNil)) (dCons (dLst (dCons (dC (.int 0)) dNil)) (dCons (dC (.str [65])) (dCons (dC (.str [49])) dNil)))))))))))))))))))))))
    (dSeq (dSet 1 (dOp gAdd (dVar 1) (dLst (dCons (dTup (dCons (dC (.int 0)) (dCons (dC (.int 1)) dNil))) (dCons (dTup (dCons (dC (.int 0)) (dCons (dC (.int 1)) (dCons (dC (.bl true)) dNil)))) (dCons (dTup (dCons (dC (.str [97])) dNil)) (dCons (dTup (dCons (dC (.str [97])) (dCons (dC (.str [98])) dNil))) (dCons (dTup (dCons (dTup (dCons (dC (.int 0)) (dCons (dC (.int 0)) dNil))) dNil)) (dCons (dTup (dCons (dC .non) dNil)) (dCons (dOp gPow (dC (.int 10)) (dC (.int 8))) (dCons (dTup (dCons (dC (.str [114, 101, 112, 101, 97, 116])) dNil)) (dCons (dTup (dCons (dC (.str [97, 112, 97, 114, 116])) (dCons (dC (.int 0)) dNil))) dNil))))))))))))
    (dRet (dCall s__law_of [] (dCons (dVar 0) (dCons (dVar 1) dNil))))))
end LW
namespace LW
open PySem L2 Pd
theorem numD_digits (k : Nat) : numD (k : Int) = (Nat.toDigits 10 k).map Char.toNat := PySem.W.KIN.signs_num k
theorem numD_dig {k c : Nat} (h : c ∈ numD (k : Int)) : 48 ≤ c ∧ c ≤ 57 := by
  rw [numD_digits] at h
  obtain ⟨ch, hch, e⟩ := List.mem_map.mp h
  have r := PyProof.Rows.digit_range (Nat.isDigit_of_mem_toDigits (by decide) (by decide) hch)
  rw [← e]
  exact r
theorem numD_ne (k : Nat) : numD (k : Int) ≠ [] := by
  rw [numD_digits]
  intro e
  have h := PyProof.Rows.tDigits_len_ge 10 k
  rw [List.map_eq_nil_iff.mp e] at h
  exact absurd h (by decide)
theorem numD_len {k : Nat} (h : k < 10 ^ 31) : (numD (k : Int)).length ≤ 31 := by
  rw [numD_digits, List.length_map]
  exact PyProof.Rows.digits10_le (by decide) h
theorem numD_back {k : Nat} (h : k < 10 ^ 31) : PySem.intText? ⟨(numD (k : Int)).toArray⟩ = some (k : Int) := by
  have hl := numD_len h
  have e := intText_digits (x := ⟨(numD (k : Int)).toArray⟩) (fun c hc => numD_dig (by simpa using hc)) (by simpa using numD_ne k) (by simp only [Str.length, List.size_toArray]; omega)
  have e2 : (⟨(numD (k : Int)).toArray⟩ : Str).cps.toList = (Nat.toDigits 10 k).map Char.toNat := by
    rw [← numD_digits]
  rw [e2, PySem.W.KIN.val_back] at e
  exact e
theorem log_lt {k : Nat} (h : k < 10 ^ 31) : ((k : Int)).natAbs.log2 < 1920 := by
  rw [Int.natAbs_natCast]
  by_cases h0 : k = 0
  · subst h0
    decide
  · rw [Nat.log2_lt h0]
    exact Nat.lt_of_lt_of_le h (by decide)
def tail (k : Nat) : List Nat := if 1 < k then numD (k : Int) else []
def txt : List Bl → List Nat
  | [] => []
  | b :: r => (b.1 :: tail b.2) ++ txt r
theorem tail_len {k : Nat} (h : k < 10 ^ 31) : (tail k).length ≤ 31 := by
  unfold tail
  split
  · exact numD_len h
  · exact Nat.zero_le _
theorem txt_len : ∀ {bs : List Bl}, (∀ b ∈ bs, b.2 < 10 ^ 31) → (txt bs).length ≤ 32 * bs.length
  | [], _ => Nat.le_refl _
  | b :: r, h => by
    have h1 := tail_len (h b (by simp))
    have h2 := txt_len (bs := r) fun x hx => h x (List.mem_cons_of_mem _ hx)
    rw [txt, List.length_append, List.length_cons, List.length_cons]
    omega
def s_block_text : FD := fun ds n P => ∃ bs : List Bl, ds = [.lst (bs.map blkD)] ∧ bs.length ≤ 1000 ∧ (∀ b ∈ bs, b.2 < 10 ^ 31) ∧ P n (.str (txt bs))
theorem txt_flat : ∀ bs : List Bl, (bs.map fun b => b.1 :: tail b.2).flatten = txt bs
  | [] => rfl
  | b :: r => by rw [List.map_cons, List.flatten_cons, txt_flat r]; rfl
theorem l_block_text (c : Str → Addr) : ∀ ds n Q, s_block_text ds n Q → dFn 3 1 (b__law_block_text c) ds n Q := by
  rintro ds n Q ⟨bs, rfl, h0, h1, q⟩
  refine ⟨rfl, ?_⟩
  simp only [b__law_block_text, envOf, dRet, dRetN, dOp, dSl, dSlO, dVar, dC, pSome, pNo, ev_sll, ev_slt, ev_sls, dBi, dCons, dNil, ev_lenl, ev_lent, ev_lens, ev_lenr, ev_gI, TC, Pd.gSub, gLt, gLe, gGt, gGe, gMod, gFdiv, gPow, gEq, gNe, ev_oki, ev_oks, ev_okl, ev_okt, gIs, gIsNot, gIsB, gIsNotB, Pd.isNon, dCall, dSeq, dSet, dSetO, dMul, setL, bCons, bOwn, bNil, dIf, dIte, dTB, dAnd, dOr, dNot, dBV, dAndV, dOrV, dChain, dTmp, dTmpT, frzE, dFrz, OD.d, dIxO, dApp, dSetI, dNeg, dLst, dLstO, dTup, dO, dDrop, ev_abs, ev_inttoi, ev_inttob, ev_inttos, ev_strtoi, ev_listl, ev_listt, ev_lists, ev_tupl, ev_tupt, ev_addi, ev_adds, ev_addl, ev_addt, ev_muli, ev_muls, ev_mull, ev_max, ev_min, ev_all, ev_any, gRepr, dLRg, Pd.r1, Pd.r2, eqD_str, eqD_int, eqD_bl, dFld, dProp, dMeth, dAugI, dRev, dMake, dIsi, isT, isC, dNx, dBrk, dNev, dFst, putFD, gNm, gTp, gsCons, gsNil, dAsg, dStar, dYes, iniEnd, flatD, wipeE, ev_ixl, ev_ixt, ev_ixs, ev_ixr, ev_srcl, ev_srct, ev_srcs, ev_at0, ev_at1, ev_atl, ev_atn, ev_ixn, Option.some.injEq, exists_eq_left', exists_eq_left, List.foldl_cons, List.foldl_nil, List.map_cons, List.map_nil, List.replicate, List.length_append, List.length_map, List.length_cons, List.length_nil, List.cons_append, List.nil_append, List.append_nil, List.getElem?_cons_zero, List.getElem?_cons_succ, List.set_cons_zero, List.set_cons_succ, Nat.zero_add, Nat.reduceAdd, Nat.reduceSub, Nat.reduceLeDiff, true_and, and_true, decide_eq_true_eq, decide_eq_false_iff_not, ne_eq, reduceCtorEq, false_implies, true_implies, forall_const, Bool.and_self, Bool.and_true, Bool.true_and, dJoin, dComp, iVal]
  refine ⟨by omega, ?_⟩
  refine compW_pure (fun _ => true) (fun d => match d with
    | .tup [.str [a], .int k] => .str (a :: tail k.toNat)
    | _ => .non) _ _ _ (fun x hx n K K' q1 q2 => ?_) ?_
  · obtain ⟨b, hb, rfl⟩ := List.mem_map.mp hx
    have hk := h1 b hb
    have q3 : K n (.str (b.1 :: tail b.2)) := q1 rfl
    simp only [blkD, envOf, dRet, dRetN, dOp, dSl, dSlO, dVar, dC, pSome, pNo, ev_sll, ev_slt, ev_sls, dBi, dCons, dNil, ev_lenl, ev_lent, ev_lens, ev_lenr, ev_gI, TC, Pd.gSub, gLt, gLe, gGt, gGe, gMod, gFdiv, gPow, gEq, gNe, ev_oki, ev_oks, ev_okl, ev_okt, gIs, gIsNot, gIsB, gIsNotB, Pd.isNon, dCall, dSeq, dSet, dSetO, dMul, setL, bCons, bOwn, bNil, dIf, dIte, dTB, dAnd, dOr, dNot, dBV, dAndV, dOrV, dChain, dTmp, dTmpT, frzE, dFrz, OD.d, dIxO, dApp, dSetI, dNeg, dLst, dLstO, dTup, dO, dDrop, ev_abs, ev_inttoi, ev_inttob, ev_inttos, ev_strtoi, ev_listl, ev_listt, ev_lists, ev_tupl, ev_tupt, ev_addi, ev_adds, ev_addl, ev_addt, ev_muli, ev_muls, ev_mull, ev_max, ev_min, ev_all, ev_any, gRepr, dLRg, Pd.r1, Pd.r2, eqD_str, eqD_int, eqD_bl, dFld, dProp, dMeth, dAugI, dRev, dMake, dIsi, isT, isC, dNx, dBrk, dNev, dFst, putFD, gNm, gTp, gsCons, gsNil, dAsg, dStar, dYes, iniEnd, flatD, wipeE, ev_ixl, ev_ixt, ev_ixs, ev_ixr, ev_srcl, ev_srct, ev_srcs, ev_at0, ev_at1, ev_atl, ev_atn, ev_ixn, Option.some.injEq, exists_eq_left', exists_eq_left, List.foldl_cons, List.foldl_nil, List.map_cons, List.map_nil, List.replicate, List.length_append, List.length_map, List.length_cons, List.length_nil, List.cons_append, List.nil_append, List.append_nil, List.getElem?_cons_zero, List.getElem?_cons_succ, List.set_cons_zero, List.set_cons_succ, Nat.zero_add, Nat.reduceAdd, Nat.reduceSub, Nat.reduceLeDiff, true_and, and_true, decide_eq_true_eq, decide_eq_false_iff_not, ne_eq, reduceCtorEq, false_implies, true_implies, forall_const, Bool.and_self, Bool.and_true, Bool.true_and]
    refine ⟨fun h => ?_, fun h => ?_⟩
    · have hk1 : 1 < b.2 := by omega
      have e : tail b.2 = numD (b.2 : Int) := by unfold tail; rw [if_pos hk1]
      rw [e] at q3
      have := numD_len hk
      exact ⟨log_lt hk, by omega, q3⟩
    · have hk1 : ¬ 1 < b.2 := by omega
      have e : tail b.2 = [] := by unfold tail; rw [if_neg hk1]
      rw [e] at q3
      exact q3
  · have e : (([] : List D) ++ ((bs.map blkD).filter fun _ => true).map (fun d : D => match d with
      | .tup [.str [a], .int k] => D.str (a :: tail k.toNat)
      | _ => .non)) = (bs.map fun b => b.1 :: tail b.2).map D.str := by
      rw [List.nil_append, List.filter_eq_self.mpr (fun _ _ => rfl), List.map_map, List.map_map]
      exact List.map_congr_left fun b _ => by simp [blkD]
    rw [e, map_isStrs]
    refine ⟨_, rfl, ?_, ?_⟩
    · have e2 : ((bs.map fun b => b.1 :: tail b.2).map (·.length)).sum = (txt bs).length := by
        rw [← txt_flat, List.length_flatten]
      rw [e2]
      have := txt_len h1
      simp only [Nat.mul_zero, Nat.add_zero]
      omega
    · rw [joinL_nil, txt_flat]
      exact q
def s_whole_in : FD := fun ds n P => ∃ k : Nat, ds = [.str (numD (k : Int))] ∧ k < 10 ^ 31 ∧ P n (.int k)
theorem l_whole_in (c : Str → Addr) : ∀ ds n Q, s_whole_in ds n Q → dFn 3 1 (b_whole_in c) ds n Q := by
  rintro ds n Q ⟨k, rfl, h0, q⟩
  refine ⟨rfl, ?_⟩
  have hl := numD_len h0
  have hne := numD_ne k
  have hd := fun c => numD_dig (k := k) (c := c)
  have hb := numD_back h0
  generalize hD : numD (k : Int) = l at *
  have e1 : ¬ (cut l none (some 1) = [45]) := by
    rw [show (1 : Int) = ((1 : Nat) : Int) from rfl, cut_to]
    match l, hne with
    | a :: r, _ =>
      intro e
      have := (hd a (by simp)).1
      simp at e
      omega
  have hpos : 0 < l.length := List.length_pos_iff.mpr hne
  simp only [b_whole_in, envOf, dRet, dRetN, dOp, dSl, dSlO, dVar, dC, pSome, pNo, ev_sll, ev_slt, ev_sls, dBi, dCons, dNil, ev_lenl, ev_lent, ev_lens, ev_lenr, ev_gI, TC, Pd.gSub, gLt, gLe, gGt, gGe, gMod, gFdiv, gPow, gEq, gNe, ev_oki, ev_oks, ev_okl, ev_okt, gIs, gIsNot, gIsB, gIsNotB, Pd.isNon, dCall, dSeq, dSet, dSetO, dMul, setL, bCons, bOwn, bNil, dIf, dIte, dTB, dAnd, dOr, dNot, dBV, dAndV, dOrV, dChain, dTmp, dTmpT, frzE, dFrz, OD.d, dIxO, dApp, dSetI, dNeg, dLst, dLstO, dTup, dO, dDrop, ev_abs, ev_inttoi, ev_inttob, ev_inttos, ev_strtoi, ev_listl, ev_listt, ev_lists, ev_tupl, ev_tupt, ev_addi, ev_adds, ev_addl, ev_addt, ev_muli, ev_muls, ev_mull, ev_max, ev_min, ev_all, ev_any, gRepr, dLRg, Pd.r1, Pd.r2, eqD_str, eqD_int, eqD_bl, dFld, dProp, dMeth, dAugI, dRev, dMake, dIsi, isT, isC, dNx, dBrk, dNev, dFst, putFD, gNm, gTp, gsCons, gsNil, dAsg, dStar, dYes, iniEnd, flatD, wipeE, ev_ixl, ev_ixt, ev_ixs, ev_ixr, ev_srcl, ev_srct, ev_srcs, ev_at0, ev_at1, ev_atl, ev_atn, ev_ixn, Option.some.injEq, exists_eq_left', exists_eq_left, List.foldl_cons, List.foldl_nil, List.map_cons, List.map_nil, List.replicate, List.length_append, List.length_map, List.length_cons, List.length_nil, List.cons_append, List.nil_append, List.append_nil, List.getElem?_cons_zero, List.getElem?_cons_succ, List.set_cons_zero, List.set_cons_succ, Nat.zero_add, Nat.reduceAdd, Nat.reduceSub, Nat.reduceLeDiff, true_and, and_true, decide_eq_true_eq, decide_eq_false_iff_not, ne_eq, reduceCtorEq, false_implies, true_implies, forall_const, Bool.and_self, Bool.and_true, Bool.true_and, dComp, iVal]
  refine ⟨by omega, fun h => absurd h e1, fun _ => ⟨by omega, fun _ => ⟨fun h => ?_, fun _ => ⟨by rw [sgn_length]; omega, ?_⟩⟩, fun h => absurd (by omega) h⟩⟩
  · have : (l.length : Int) ≤ 40 := by omega
    rw [decide_eq_true this] at h
    cases h
  · refine compW_pure (fun _ => true) (fun _ => .bl true) _ _ _ (fun x hx n K K' q1 q2 => ?_) ?_
    · unfold sgn at hx
      obtain ⟨ch, hc, rfl⟩ := List.mem_map.mp hx
      have hr := hd ch hc
      have hm : ch ∈ [48, 49, 50, 51, 52, 53, 54, 55, 56, 57] := by
        simp only [List.mem_cons, List.mem_nil_iff, or_false]
        omega
      simp only [envOf, dRet, dRetN, dOp, dSl, dSlO, dVar, dC, pSome, pNo, ev_sll, ev_slt, ev_sls, dBi, dCons, dNil, ev_lenl, ev_lent, ev_lens, ev_lenr, ev_gI, TC, Pd.gSub, gLt, gLe, gGt, gGe, gMod, gFdiv, gPow, gEq, gNe, ev_oki, ev_oks, ev_okl, ev_okt, gIs, gIsNot, gIsB, gIsNotB, Pd.isNon, dCall, dSeq, dSet, dSetO, dMul, setL, bCons, bOwn, bNil, dIf, dIte, dTB, dAnd, dOr, dNot, dBV, dAndV, dOrV, dChain, dTmp, dTmpT, frzE, dFrz, OD.d, dIxO, dApp, dSetI, dNeg, dLst, dLstO, dTup, dO, dDrop, ev_abs, ev_inttoi, ev_inttob, ev_inttos, ev_strtoi, ev_listl, ev_listt, ev_lists, ev_tupl, ev_tupt, ev_addi, ev_adds, ev_addl, ev_addt, ev_muli, ev_muls, ev_mull, ev_max, ev_min, ev_all, ev_any, gRepr, dLRg, Pd.r1, Pd.r2, eqD_str, eqD_int, eqD_bl, dFld, dProp, dMeth, dAugI, dRev, dMake, dIsi, isT, isC, dNx, dBrk, dNev, dFst, putFD, gNm, gTp, gsCons, gsNil, dAsg, dStar, dYes, iniEnd, flatD, wipeE, ev_ixl, ev_ixt, ev_ixs, ev_ixr, ev_srcl, ev_srct, ev_srcs, ev_at0, ev_at1, ev_atl, ev_atn, ev_ixn, Option.some.injEq, exists_eq_left', exists_eq_left, List.foldl_cons, List.foldl_nil, List.map_cons, List.map_nil, List.replicate, List.length_append, List.length_map, List.length_cons, List.length_nil, List.cons_append, List.nil_append, List.append_nil, List.getElem?_cons_zero, List.getElem?_cons_succ, List.set_cons_zero, List.set_cons_succ, Nat.zero_add, Nat.reduceAdd, Nat.reduceSub, Nat.reduceLeDiff, true_and, and_true, decide_eq_true_eq, decide_eq_false_iff_not, ne_eq, reduceCtorEq, false_implies, true_implies, forall_const, Bool.and_self, Bool.and_true, Bool.true_and, gInB, decide_eq_true hm]
      exact q1 rfl
    · have e2 : (([] : List D) ++ ((sgn l).filter fun _ => true).map fun _ => D.bl true) = (l.map fun _ => true).map D.bl := by
        rw [List.nil_append, List.filter_eq_self.mpr (fun _ _ => rfl)]
        unfold sgn
        rw [List.map_map, List.map_map]
        rfl
      have e3 : (l.map fun _ => true).all id = true := by simp
      rw [e2, map_isBls]
      refine ⟨_, rfl, fun h => ?_, fun _ => ⟨by omega, _, hb, log_lt h0, fun _ => ⟨by omega, _, hb, q⟩, fun h => absurd hD h⟩⟩
      rw [e3] at h
      cases h
def pcD (b : Bl) : D := .tup [.str [b.1], .str (tail b.2)]
def s_block_in : FD := fun ds n P => ∃ b : Bl, ds = [pcD b] ∧ 1 ≤ b.2 ∧ b.2 < 10 ^ 30 ∧ P n (blkD b)
theorem l_block_in (c : Str → Addr) : ∀ ds n Q, s_block_in ds n Q → dFn 4 1 (b_block_in c s_whole_in) ds n Q := by
  rintro ds n Q ⟨b, rfl, h0, h1, q⟩
  refine ⟨rfl, ?_⟩
  simp only [b_block_in, pcD, envOf, dRet, dRetN, dOp, dSl, dSlO, dVar, dC, pSome, pNo, ev_sll, ev_slt, ev_sls, dBi, dCons, dNil, ev_lenl, ev_lent, ev_lens, ev_lenr, ev_gI, TC, Pd.gSub, gLt, gLe, gGt, gGe, gMod, gFdiv, gPow, gEq, gNe, ev_oki, ev_oks, ev_okl, ev_okt, gIs, gIsNot, gIsB, gIsNotB, Pd.isNon, dCall, dSeq, dSet, dSetO, dMul, setL, bCons, bOwn, bNil, dIf, dIte, dTB, dAnd, dOr, dNot, dBV, dAndV, dOrV, dChain, dTmp, dTmpT, frzE, dFrz, OD.d, dIxO, dApp, dSetI, dNeg, dLst, dLstO, dTup, dO, dDrop, ev_abs, ev_inttoi, ev_inttob, ev_inttos, ev_strtoi, ev_listl, ev_listt, ev_lists, ev_tupl, ev_tupt, ev_addi, ev_adds, ev_addl, ev_addt, ev_muli, ev_muls, ev_mull, ev_max, ev_min, ev_all, ev_any, gRepr, dLRg, Pd.r1, Pd.r2, eqD_str, eqD_int, eqD_bl, dFld, dProp, dMeth, dAugI, dRev, dMake, dIsi, isT, isC, dNx, dBrk, dNev, dFst, putFD, gNm, gTp, gsCons, gsNil, dAsg, dStar, dYes, iniEnd, flatD, wipeE, ev_ixl, ev_ixt, ev_ixs, ev_ixr, ev_srcl, ev_srct, ev_srcs, ev_at0, ev_at1, ev_atl, ev_atn, ev_ixn, Option.some.injEq, exists_eq_left', exists_eq_left, List.foldl_cons, List.foldl_nil, List.map_cons, List.map_nil, List.replicate, List.length_append, List.length_map, List.length_cons, List.length_nil, List.cons_append, List.nil_append, List.append_nil, List.getElem?_cons_zero, List.getElem?_cons_succ, List.set_cons_zero, List.set_cons_succ, Nat.zero_add, Nat.reduceAdd, Nat.reduceSub, Nat.reduceLeDiff, true_and, and_true, decide_eq_true_eq, decide_eq_false_iff_not, ne_eq, reduceCtorEq, false_implies, true_implies, forall_const, Bool.and_self, Bool.and_true, Bool.true_and]
  refine ⟨fun h => ?_, fun h => ?_⟩
  · have hb : b.2 = 1 := by
      by_cases h2 : 1 < b.2
      · unfold tail at h
        rw [if_pos h2] at h
        exact absurd h (numD_ne _)
      · omega
    have e : blkD b = .tup [.str [b.1], .int 1] := by unfold blkD; rw [hb]; rfl
    rw [e] at q
    exact q
  · have h2 : 1 < b.2 := by
      by_cases h2 : 1 < b.2
      · exact h2
      · unfold tail at h
        rw [if_neg h2] at h
        exact absurd rfl h
    have e : tail b.2 = numD (b.2 : Int) := by unfold tail; rw [if_pos h2]
    rw [e]
    refine ⟨b.2, rfl, Nat.lt_trans h1 (by decide), ?_⟩
    simp only [envOf, dRet, dRetN, dOp, dSl, dSlO, dVar, dC, pSome, pNo, ev_sll, ev_slt, ev_sls, dBi, dCons, dNil, ev_lenl, ev_lent, ev_lens, ev_lenr, ev_gI, TC, Pd.gSub, gLt, gLe, gGt, gGe, gMod, gFdiv, gPow, gEq, gNe, ev_oki, ev_oks, ev_okl, ev_okt, gIs, gIsNot, gIsB, gIsNotB, Pd.isNon, dCall, dSeq, dSet, dSetO, dMul, setL, bCons, bOwn, bNil, dIf, dIte, dTB, dAnd, dOr, dNot, dBV, dAndV, dOrV, dChain, dTmp, dTmpT, frzE, dFrz, OD.d, dIxO, dApp, dSetI, dNeg, dLst, dLstO, dTup, dO, dDrop, ev_abs, ev_inttoi, ev_inttob, ev_inttos, ev_strtoi, ev_listl, ev_listt, ev_lists, ev_tupl, ev_tupt, ev_addi, ev_adds, ev_addl, ev_addt, ev_muli, ev_muls, ev_mull, ev_max, ev_min, ev_all, ev_any, gRepr, dLRg, Pd.r1, Pd.r2, eqD_str, eqD_int, eqD_bl, dFld, dProp, dMeth, dAugI, dRev, dMake, dIsi, isT, isC, dNx, dBrk, dNev, dFst, putFD, gNm, gTp, gsCons, gsNil, dAsg, dStar, dYes, iniEnd, flatD, wipeE, ev_ixl, ev_ixt, ev_ixs, ev_ixr, ev_srcl, ev_srct, ev_srcs, ev_at0, ev_at1, ev_atl, ev_atn, ev_ixn, Option.some.injEq, exists_eq_left', exists_eq_left, List.foldl_cons, List.foldl_nil, List.map_cons, List.map_nil, List.replicate, List.length_append, List.length_map, List.length_cons, List.length_nil, List.cons_append, List.nil_append, List.append_nil, List.getElem?_cons_zero, List.getElem?_cons_succ, List.set_cons_zero, List.set_cons_succ, Nat.zero_add, Nat.reduceAdd, Nat.reduceSub, Nat.reduceLeDiff, true_and, and_true, decide_eq_true_eq, decide_eq_false_iff_not, ne_eq, reduceCtorEq, false_implies, true_implies, forall_const, Bool.and_self, Bool.and_true, Bool.true_and, Bool.not_false]
    exact ⟨fun _ => ⟨fun _ => q, fun h => absurd (by have : ((10 ^ 30 : Nat) : Int) = 1000000000000000000000000000000 := by decide
                                                     omega) h⟩, fun h => absurd (by omega) h⟩
end LW
namespace LW
open PySem L2 Pd
def letters : List Nat := [97, 98, 99, 100, 101, 102, 103, 104, 105, 106, 107, 108, 109, 110, 111, 112, 113, 114, 115, 116, 117, 118, 119, 120, 121, 122]
def pse : Nat → List Bl → List (Nat × Nat)
  | _, [] => []
  | k, b :: r => (k, k + 1 + (tail b.2).length) :: pse (k + 1 + (tail b.2).length) r
def inD (d : D) : D := match d with
  | .tup [.int a, _] => .int a
  | _ => .non
def isLetter (d : D) : Bool := match d with
  | .tup [_, .str [c]] => decide (c ∈ letters)
  | _ => false
theorem not_letter {c : Nat} (h : 48 ≤ c ∧ c ≤ 57) : c ∉ letters := by
  intro e
  have : ∀ x ∈ letters, 58 ≤ x := by decide
  have := this c e
  omega
theorem tail_not {k c : Nat} (h : c ∈ tail k) : c ∉ letters := by
  unfold tail at h
  split at h
  · exact not_letter (numD_dig h)
  · cases h
def enD (k : Nat) (xs : List Nat) : List D := ((sgn xs).zipIdx k).map fun p => D.tup [.int (p.2 : Nat), p.1]
theorem enD_cons (k c : Nat) (xs : List Nat) : enD k (c :: xs) = .tup [.int (k : Nat), .str [c]] :: enD (k + 1) xs := rfl
theorem enD_skip : ∀ (l xs : List Nat) (k : Nat), (∀ c ∈ l, c ∉ letters) → (enD k (l ++ xs)).filter isLetter = (enD (k + l.length) xs).filter isLetter
  | [], xs, k, _ => by rw [List.nil_append, List.length_nil, Nat.add_zero]
  | a :: l, xs, k, h => by
    rw [List.cons_append, enD_cons, List.filter_cons_of_neg, enD_skip l xs (k + 1) fun c hc => h c (List.mem_cons_of_mem _ hc), List.length_cons]
    · rw [show k + 1 + l.length = k + (l.length + 1) by omega]
    · simp only [isLetter, decide_eq_true_eq]
      exact h a (by simp)
theorem spots_eq : ∀ (bs : List Bl) (k : Nat), (∀ b ∈ bs, b.1 ∈ letters) → ((enD k (txt bs)).filter isLetter).map inD = (pse k bs).map fun p => D.int (p.1 : Nat)
  | [], _, _ => rfl
  | b :: r, k, h => by
    have hb : isLetter (.tup [.int (k : Nat), .str [b.1]]) = true := by
      simp only [isLetter, decide_eq_true_eq]
      exact h b (by simp)
    rw [txt, List.cons_append, enD_cons, List.filter_cons_of_pos hb, enD_skip _ _ _ fun c hc => tail_not hc, List.map_cons, spots_eq r _ fun x hx => h x (List.mem_cons_of_mem _ hx), pse, List.map_cons]
    rfl
theorem zip_pse : ∀ (bs : List Bl) (k : Nat), zipD ((pse k bs).map fun p => D.int (p.1 : Nat)) (((pse k bs).map fun p => D.int (p.1 : Nat)).drop 1 ++ [.int ((k + (txt bs).length : Nat))]) = (pse k bs).map fun p => D.tup [.int (p.1 : Nat), .int (p.2 : Nat)]
  | [], _ => rfl
  | [b], k => by
    simp only [pse, List.map_cons, List.map_nil, List.drop_succ_cons, List.drop_zero, List.nil_append, zipD, List.zipWith, txt, List.append_nil, List.length_cons]
    rw [show k + 1 + (tail b.snd).length = k + ((tail b.snd).length + 1) by omega]
  | b :: b2 :: r, k => by
    have ih := zip_pse (b2 :: r) (k + 1 + (tail b.2).length)
    have e : k + (txt (b :: b2 :: r)).length = k + 1 + (tail b.2).length + (txt (b2 :: r)).length := by
      rw [txt, List.length_append, List.length_cons]
      omega
    rw [e, pse, List.map_cons, List.map_cons, List.drop_succ_cons, List.drop_zero, ← ih]
    rfl
def pcOf (t : List Nat) (d : D) : D := match d with
  | .tup [.int a, .int e] => .tup [.str [t.getD a.toNat 0], .str (cut t (some (a + 1)) (some e))]
  | _ => .non
theorem pse_at : ∀ (bs : List Bl) (pre : List Nat) (p : Nat × Nat), p ∈ pse pre.length bs → ∃ b : Bl, ∃ pr rest, pre ++ txt bs = pr ++ (b.1 :: (tail b.2 ++ rest)) ∧ p.1 = pr.length ∧ p.2 = pr.length + 1 + (tail b.2).length
  | [], _, _, h => by cases h
  | b :: r, pre, p, h => by
    rw [pse] at h
    rcases List.mem_cons.mp h with rfl | h
    · exact ⟨b, pre, txt r, by rw [txt, List.cons_append], rfl, rfl⟩
    · have h2 : p ∈ pse (pre ++ b.1 :: tail b.2).length r := by
        rw [List.length_append, List.length_cons, show pre.length + ((tail b.snd).length + 1) = pre.length + 1 + (tail b.2).length by omega]
        exact h
      obtain ⟨b', pr, rest, e, e1, e2⟩ := pse_at r _ p h2
      exact ⟨b', pr, rest, by rw [← e, txt, List.append_assoc], e1, e2⟩
theorem pcOf_at (b : Bl) (pr rest : List Nat) : pcOf (pr ++ (b.1 :: (tail b.2 ++ rest))) (.tup [.int (pr.length : Nat), .int ((pr.length + 1 + (tail b.2).length : Nat))]) = pcD b := by
  have e1 : (pr ++ (b.1 :: (tail b.2 ++ rest))).getD (pr.length : Int).toNat 0 = b.1 := by
    simp [List.getD]
  have e2 : cut (pr ++ (b.1 :: (tail b.2 ++ rest))) (some ((pr.length : Nat) + 1)) (some ((pr.length + 1 + (tail b.2).length : Nat))) = tail b.2 := by
    rw [show ((pr.length : Nat) : Int) + 1 = ((pr.length + 1 : Nat) : Int) from rfl, cut_mid]
    rw [show pr.length + 1 + (tail b.2).length - (pr.length + 1) = (tail b.2).length by omega]
    rw [show pr ++ (b.1 :: (tail b.2 ++ rest)) = (pr ++ [b.1]) ++ (tail b.2 ++ rest) by simp]
    rw [show pr.length + 1 = (pr ++ [b.1]).length by simp, List.drop_left, List.take_left]
  unfold pcOf pcD
  simp only
  rw [e1, e2]
theorem pcOf_all : ∀ (bs : List Bl) (pre t : List Nat), pre ++ txt bs = t → ((pse pre.length bs).map fun p => D.tup [.int (p.1 : Nat), .int (p.2 : Nat)]).map (pcOf t) = bs.map pcD
  | [], _, _, _ => rfl
  | b :: r, pre, t, e => by
    have e1 : (pre ++ b.1 :: tail b.2).length = pre.length + 1 + (tail b.2).length := by
      rw [List.length_append, List.length_cons]
      omega
    have ih := pcOf_all r (pre ++ b.1 :: tail b.2) t (by rw [← e, txt, List.append_assoc])
    rw [e1] at ih
    rw [pse, List.map_cons, List.map_cons, ih, List.map_cons]
    congr 1
    rw [← e, txt, List.cons_append]
    exact pcOf_at b pre (txt r)
def s_pieces_of : FD := fun ds n P => ∃ bs : List Bl, ds = [.str (txt bs)] ∧ bs.length ≤ 1000 ∧ (∀ b ∈ bs, b.2 < 10 ^ 31 ∧ b.1 ∈ letters) ∧ P n (.lst (bs.map pcD))
theorem l_pieces_of (c : Str → Addr) : ∀ ds n Q, s_pieces_of ds n Q → dFn 5 1 (b_pieces_of c) ds n Q := by
  rintro ds n Q ⟨bs, rfl, h0, h1, q⟩
  refine ⟨rfl, ?_⟩
  have ht := txt_len fun b hb => (h1 b hb).1
  simp only [b_pieces_of, envOf, dRet, dRetN, dOp, dSl, dSlO, dVar, dC, pSome, pNo, ev_sll, ev_slt, ev_sls, dBi, dCons, dNil, ev_lenl, ev_lent, ev_lens, ev_lenr, ev_gI, TC, Pd.gSub, gLt, gLe, gGt, gGe, gMod, gFdiv, gPow, gEq, gNe, ev_oki, ev_oks, ev_okl, ev_okt, gIs, gIsNot, gIsB, gIsNotB, Pd.isNon, dCall, dSeq, dSet, dSetO, dMul, setL, bCons, bOwn, bNil, dIf, dIte, dTB, dAnd, dOr, dNot, dBV, dAndV, dOrV, dChain, dTmp, dTmpT, frzE, dFrz, OD.d, dIxO, dApp, dSetI, dNeg, dLst, dLstO, dTup, dO, dDrop, ev_abs, ev_inttoi, ev_inttob, ev_inttos, ev_strtoi, ev_listl, ev_listt, ev_lists, ev_tupl, ev_tupt, ev_addi, ev_adds, ev_addl, ev_addt, ev_muli, ev_muls, ev_mull, ev_max, ev_min, ev_all, ev_any, gRepr, dLRg, Pd.r1, Pd.r2, eqD_str, eqD_int, eqD_bl, dFld, dProp, dMeth, dAugI, dRev, dMake, dIsi, isT, isC, dNx, dBrk, dNev, dFst, putFD, gNm, gTp, gsCons, gsNil, dAsg, dStar, dYes, iniEnd, flatD, wipeE, ev_ixl, ev_ixt, ev_ixs, ev_ixr, ev_srcl, ev_srct, ev_srcs, ev_at0, ev_at1, ev_atl, ev_atn, ev_ixn, Option.some.injEq, exists_eq_left', exists_eq_left, List.foldl_cons, List.foldl_nil, List.map_cons, List.map_nil, List.replicate, List.length_append, List.length_map, List.length_cons, List.length_nil, List.cons_append, List.nil_append, List.append_nil, List.getElem?_cons_zero, List.getElem?_cons_succ, List.set_cons_zero, List.set_cons_succ, Nat.zero_add, Nat.reduceAdd, Nat.reduceSub, Nat.reduceLeDiff, true_and, and_true, decide_eq_true_eq, decide_eq_false_iff_not, ne_eq, reduceCtorEq, false_implies, true_implies, forall_const, Bool.and_self, Bool.and_true, Bool.true_and, dComp, iVal, iEnm, iZp]
  have len1 : ∀ l : List Nat, (enumD (sgn l)).length = l.length := fun l => by simp [enumD, sgn]
  refine ⟨by rw [len1]; omega, ?_⟩
  refine compW_pure isLetter inD _ _ _ (fun x hx n K K' q1 q2 => ?_) ?_
  · obtain ⟨p, hp, rfl⟩ := List.mem_map.mp hx
    obtain ⟨y, i⟩ := p
    have hy : y ∈ sgn (txt bs) := by
      have := List.mem_zipIdx hp
      rw [this.2.2]
      exact List.getElem_mem _
    unfold sgn at hy
    obtain ⟨ch, hc, rfl⟩ := List.mem_map.mp hy
    simp only [envOf, dRet, dRetN, dOp, dSl, dSlO, dVar, dC, pSome, pNo, ev_sll, ev_slt, ev_sls, dBi, dCons, dNil, ev_lenl, ev_lent, ev_lens, ev_lenr, ev_gI, TC, Pd.gSub, gLt, gLe, gGt, gGe, gMod, gFdiv, gPow, gEq, gNe, ev_oki, ev_oks, ev_okl, ev_okt, gIs, gIsNot, gIsB, gIsNotB, Pd.isNon, dCall, dSeq, dSet, dSetO, dMul, setL, bCons, bOwn, bNil, dIf, dIte, dTB, dAnd, dOr, dNot, dBV, dAndV, dOrV, dChain, dTmp, dTmpT, frzE, dFrz, OD.d, dIxO, dApp, dSetI, dNeg, dLst, dLstO, dTup, dO, dDrop, ev_abs, ev_inttoi, ev_inttob, ev_inttos, ev_strtoi, ev_listl, ev_listt, ev_lists, ev_tupl, ev_tupt, ev_addi, ev_adds, ev_addl, ev_addt, ev_muli, ev_muls, ev_mull, ev_max, ev_min, ev_all, ev_any, gRepr, dLRg, Pd.r1, Pd.r2, eqD_str, eqD_int, eqD_bl, dFld, dProp, dMeth, dAugI, dRev, dMake, dIsi, isT, isC, dNx, dBrk, dNev, dFst, putFD, gNm, gTp, gsCons, gsNil, dAsg, dStar, dYes, iniEnd, flatD, wipeE, ev_ixl, ev_ixt, ev_ixs, ev_ixr, ev_srcl, ev_srct, ev_srcs, ev_at0, ev_at1, ev_atl, ev_atn, ev_ixn, Option.some.injEq, exists_eq_left', exists_eq_left, List.foldl_cons, List.foldl_nil, List.map_cons, List.map_nil, List.replicate, List.length_append, List.length_map, List.length_cons, List.length_nil, List.cons_append, List.nil_append, List.append_nil, List.getElem?_cons_zero, List.getElem?_cons_succ, List.set_cons_zero, List.set_cons_succ, Nat.zero_add, Nat.reduceAdd, Nat.reduceSub, Nat.reduceLeDiff, true_and, and_true, decide_eq_true_eq, decide_eq_false_iff_not, ne_eq, reduceCtorEq, false_implies, true_implies, forall_const, Bool.and_self, Bool.and_true, Bool.true_and, gInB]
    refine ⟨fun h => q1 (by simp only [isLetter]; exact decide_eq_true h), fun h => q2 (by simp only [isLetter]; exact decide_eq_false h)⟩
  · have e0 : ([] : List D) ++ ((enumD (sgn (txt bs))).filter isLetter).map inD = (pse 0 bs).map fun p => D.int (p.1 : Nat) := by
      rw [List.nil_append]
      exact spots_eq bs 0 fun b hb => (h1 b hb).2
    have hpl : ∀ k, (pse k bs).length = bs.length := by
      clear h0 h1 q ht e0
      induction bs with
      | nil => exact fun _ => rfl
      | cons b r ih => exact fun k => by rw [pse, List.length_cons, List.length_cons, ih]
    have e1 := zip_pse bs 0
    have e2 := pcOf_all bs [] _ rfl
    rw [List.nil_append, List.length_nil] at e2
    rw [Nat.zero_add] at e1
    rw [e0, show (1 : Int) = ((1 : Nat) : Int) from rfl, cut_from]
    refine ⟨by omega, by rw [List.length_drop, List.length_map, hpl]; omega, _, _, rfl, rfl, ?_, ?_⟩
    · rw [e1, List.length_map, hpl]
      omega
    · rw [e1]
      refine compW_pure (fun _ => true) (pcOf (txt bs)) _ _ _ (fun x hx n K K' q1 q2 => ?_) ?_
      · obtain ⟨p, hp, rfl⟩ := List.mem_map.mp hx
        obtain ⟨b, pr, rest, e, e3, e4⟩ := pse_at bs [] p hp
        have q3 := q1 rfl
        obtain ⟨a, z⟩ := p
        subst e3 e4
        rw [List.nil_append] at e
        rw [e] at q3 ht ⊢
        rw [pcOf_at] at q3
        simp only [envOf, dRet, dRetN, dOp, dSl, dSlO, dVar, dC, pSome, pNo, ev_sll, ev_slt, ev_sls, dBi, dCons, dNil, ev_lenl, ev_lent, ev_lens, ev_lenr, ev_gI, TC, Pd.gSub, gLt, gLe, gGt, gGe, gMod, gFdiv, gPow, gEq, gNe, ev_oki, ev_oks, ev_okl, ev_okt, gIs, gIsNot, gIsB, gIsNotB, Pd.isNon, dCall, dSeq, dSet, dSetO, dMul, setL, bCons, bOwn, bNil, dIf, dIte, dTB, dAnd, dOr, dNot, dBV, dAndV, dOrV, dChain, dTmp, dTmpT, frzE, dFrz, OD.d, dIxO, dApp, dSetI, dNeg, dLst, dLstO, dTup, dO, dDrop, ev_abs, ev_inttoi, ev_inttob, ev_inttos, ev_strtoi, ev_listl, ev_listt, ev_lists, ev_tupl, ev_tupt, ev_addi, ev_adds, ev_addl, ev_addt, ev_muli, ev_muls, ev_mull, ev_max, ev_min, ev_all, ev_any, gRepr, dLRg, Pd.r1, Pd.r2, eqD_str, eqD_int, eqD_bl, dFld, dProp, dMeth, dAugI, dRev, dMake, dIsi, isT, isC, dNx, dBrk, dNev, dFst, putFD, gNm, gTp, gsCons, gsNil, dAsg, dStar, dYes, iniEnd, flatD, wipeE, ev_ixl, ev_ixt, ev_ixs, ev_ixr, ev_srcl, ev_srct, ev_srcs, ev_at0, ev_at1, ev_atl, ev_atn, ev_ixn, Option.some.injEq, exists_eq_left', exists_eq_left, List.foldl_cons, List.foldl_nil, List.map_cons, List.map_nil, List.replicate, List.length_append, List.length_map, List.length_cons, List.length_nil, List.cons_append, List.nil_append, List.append_nil, List.getElem?_cons_zero, List.getElem?_cons_succ, List.set_cons_zero, List.set_cons_succ, Nat.zero_add, Nat.reduceAdd, Nat.reduceSub, Nat.reduceLeDiff, true_and, and_true, decide_eq_true_eq, decide_eq_false_iff_not, ne_eq, reduceCtorEq, false_implies, true_implies, forall_const, Bool.and_self, Bool.and_true, Bool.true_and]
        simp only [List.length_append, List.length_cons] at ht
        have e3 : cut (pr ++ b.1 :: (tail b.2 ++ rest)) (some ((pr.length : Int) + 1)) (some ((pr.length + 1 + (tail b.2).length : Nat))) = tail b.2 := by
          have := pcOf_at b pr rest
          unfold pcOf pcD at this
          injection this with this
          injection this with _ this
          injection this with this
          injection this
        refine ⟨by omega, b.1, atI_nat (by simp), by omega, ?_⟩
        have q4 := q3
        unfold pcD at q4
        rw [← e3] at q4
        exact q4
      · rw [List.filter_eq_self.mpr (fun _ _ => rfl), e2]
        exact q
def rightW : List Nat := [114, 105, 103, 104, 116]
def missesW : List Nat := [109, 105, 115, 115, 101, 115]
def tellsW : List Nat := [116, 101, 108, 108, 115]
def s_is_said : FD := fun ds n P => (∃ (b : Nat) , ds = [.str [b], .lst (sgn letters)] ∧ b ∈ letters ∧ P n (.bl true)) ∨ (∃ a : List Nat, ds = [.str a, .tup [.str rightW, .str missesW, .str tellsW]] ∧ (a = rightW ∨ a = missesW ∨ a = tellsW) ∧ P n (.bl true))
theorem in_sgn {b : Nat} {l : List Nat} (h : b ∈ l) : ((sgn l).any fun y => eqD y (.str [b])) = true := by
  rw [List.any_eq_true]
  exact ⟨.str [b], List.mem_map_of_mem h, by rw [eqD_str]; simp⟩
theorem okIn_sgn (b : Nat) (l : List Nat) : okIn (.str [b]) (sgn l) = true := by
  unfold okIn
  rw [Bool.or_eq_true]
  left
  rw [List.all_eq_true]
  intro y hy
  obtain ⟨c, _, rfl⟩ := List.mem_map.mp hy
  rfl
def Told (bs : List Bl) : Prop := Good bs ∧ bs.length ≤ 40 ∧ (∀ b ∈ bs, b.2 < 10 ^ 30 ∧ b.1 ∈ letters) ∧ bs ≠ []
def s_blocks_told : FD := fun ds n P => ∃ bs : List Bl, ds = [.str (txt bs)] ∧ Told bs ∧ P n (.tup (bs.map blkD))
theorem letters_lt {c : Nat} (h : c ∈ letters) : c < 1114112 := by
  have : ∀ x ∈ letters, x < 1114112 := by decide
  exact this c h
theorem noneIn (bs : List Bl) : ((bs.map blkD).any fun y => eqD y .non) = false := by
  rw [List.any_eq_false]
  intro y hy
  obtain ⟨b, _, rfl⟩ := List.mem_map.mp hy
  simp [blkD, eqD]
theorem okIn_blk {bs : List Bl} (h : ∀ b ∈ bs, b.1 < 1114112) : okIn .non (bs.map blkD) = true := by
  have := okD_blks h
  unfold okIn
  rw [Bool.or_eq_true]
  right
  unfold okD at this
  rw [isPd, isPds_blk h, dpt] at this
  simp only [Bool.true_and, decide_eq_true_eq] at this
  rw [isPds_blk h]
  simp only [Bool.and_eq_true, Bool.true_and, decide_eq_true_eq]
  exact ⟨by decide, by omega⟩
theorem compW_map {α : Type} {dg : DG} {t : DT} {d : DE} {ε : Ev} {P : Nat → List D → Prop} (f g : α → D) : ∀ (bs : List α) (acc : List D) (n : Nat),
    (∀ b ∈ bs, ∀ (n : Nat) (K : Nat → D → Prop) (K' : Nat → Prop), K n (g b) → dg (f b) ε fun ε' => t n ε' fun n1 k => (k = true → d n1 ε' fun n2 y => K n2 y) ∧ (k = false → K' n1)) →
    P n (acc ++ bs.map g) → compW dg t d ε P (bs.map f) acc n
  | [], acc, n, _, q => by
    rw [List.map_nil, List.append_nil] at q
    exact q
  | x :: xs, acc, n, h, q => by
    refine h x (by simp) n (fun n2 y => compW dg t d ε P (xs.map f) (acc ++ [y]) n2) (fun n1 => compW dg t d ε P (xs.map f) acc n1) ?_
    refine compW_map f g xs _ n (fun y hy => h y (List.mem_cons_of_mem _ hy)) ?_
    rw [List.append_assoc]
    exact q
theorem adj_ne : ∀ {bs : List Bl}, Adj bs → ∀ d ∈ zipD (bs.map blkD) ((bs.map blkD).drop 1), ∃ a b : Bl, d = .tup [blkD a, blkD b] ∧ a.1 ≠ b.1
  | [], _, d, h => by cases h
  | [_], _, d, h => by cases h
  | a :: b :: r, g, d, h => by
    rcases List.mem_cons.mp h with rfl | h
    · exact ⟨a, b, rfl, g.1⟩
    · exact adj_ne (bs := b :: r) g.2 d h
end LW
namespace LW
open PySem L2 Pd NumText
def optI : Option Int → D
  | some v => .int v
  | none => .non
end LW
namespace LW
open PySem L2 Pd
def NH (a : Nat) (l : List Nat) : Prop := ∀ x ∈ l.head?, x ≠ a
theorem pre_rep (a : Nat) : ∀ (c0 c : Nat) (x y : List Nat), NH a x → NH a y → (List.replicate c0 a ++ x <+: List.replicate c a ++ y ↔ (c0 = c ∧ x <+: y) ∨ (x = [] ∧ c0 ≤ c))
  | 0, 0, x, y, hx, hy => by
    simp only [List.replicate, List.nil_append, true_and, Nat.le_refl, and_true]
    exact ⟨Or.inl, fun h => h.elim id fun e => e ▸ List.nil_prefix⟩
  | 0, c + 1, x, y, hx, hy => by
    rw [List.replicate, List.nil_append, List.replicate_succ, List.cons_append]
    constructor
    · intro h
      match x, hx, h with
      | [], _, _ => exact Or.inr ⟨rfl, Nat.zero_le _⟩
      | b :: x, hx, h => exact absurd (List.cons_prefix_cons.mp h).1 (hx b rfl)
    · rintro (⟨h, _⟩ | ⟨rfl, _⟩)
      · cases h
      · exact List.nil_prefix
  | c0 + 1, 0, x, y, hx, hy => by
    rw [List.replicate_succ, List.cons_append, List.replicate, List.nil_append]
    constructor
    · intro h
      match y, hy, h with
      | [], _, h => exact absurd (List.prefix_nil.mp h) (by simp)
      | b :: y, hy, h => exact absurd (List.cons_prefix_cons.mp h).1.symm (hy b rfl)
    · rintro (⟨h, _⟩ | ⟨_, h⟩)
      · cases h
      · omega
  | c0 + 1, c + 1, x, y, hx, hy => by
    rw [List.replicate_succ, List.cons_append, List.replicate_succ, List.cons_append, List.cons_prefix_cons, pre_rep a c0 c x y hx hy]
    simp only [true_and, Nat.add_right_cancel_iff, Nat.add_le_add_iff_right]
theorem nh_expand {a : Bl} : ∀ {r : List Bl}, Good (a :: r) → NH a.1 (expand r)
  | [], _ => fun x h => by cases h
  | b :: r, g => fun x h => by
    have hb : 1 ≤ b.2 := g.pos b (by simp)
    rw [expand] at h
    obtain ⟨m, hm⟩ : ∃ m, b.2 = m + 1 := ⟨b.2 - 1, by omega⟩
    rw [hm, List.replicate_succ] at h
    have : x = b.1 := by simpa using h.symm
    rw [this]
    exact fun e => g.adj.1 e.symm
theorem Good.tl {a : Bl} : ∀ {r : List Bl}, Good (a :: r) → Good r
  | [], g => ⟨trivial, fun b hb => by cases hb⟩
  | b :: r, g => ⟨g.adj.2, fun x hx => g.pos x (List.mem_cons_of_mem _ hx)⟩
theorem expand_ne {a : Bl} {r : List Bl} (g : Good (a :: r)) : expand (a :: r) ≠ [] := by
  have := g.pos a (by simp)
  rw [expand]
  obtain ⟨m, hm⟩ : ∃ m, a.2 = m + 1 := ⟨a.2 - 1, by omega⟩
  rw [hm, List.replicate_succ]
  simp
theorem expand_nil {r : List Bl} (g : Good r) : expand r = [] ↔ r = [] := by
  cases r with
  | nil => exact ⟨fun _ => rfl, fun _ => rfl⟩
  | cons a r => exact ⟨fun h => absurd h (expand_ne g), fun h => by cases h⟩
theorem pre_head {a b : Bl} {x y : List Nat} (ha : 1 ≤ a.2) (hb : 1 ≤ b.2) (h : List.replicate a.2 a.1 ++ x <+: List.replicate b.2 b.1 ++ y) : a.1 = b.1 := by
  obtain ⟨m, hm⟩ : ∃ m, a.2 = m + 1 := ⟨a.2 - 1, by omega⟩
  obtain ⟨k, hk⟩ : ∃ k, b.2 = k + 1 := ⟨b.2 - 1, by omega⟩
  rw [hm, hk, List.replicate_succ, List.replicate_succ, List.cons_append, List.cons_append] at h
  exact (List.cons_prefix_cons.mp h).1
theorem pre_blk {a b : Bl} {r q : List Bl} (ga : Good (a :: r)) (gb : Good (b :: q)) : expand (a :: r) <+: expand (b :: q) ↔ a.1 = b.1 ∧ ((a.2 = b.2 ∧ expand r <+: expand q) ∨ (r = [] ∧ a.2 ≤ b.2)) := by
  have na := nh_expand ga
  have nb := nh_expand gb
  rw [expand, expand]
  constructor
  · intro h
    have e := pre_head (ga.pos a (by simp)) (gb.pos b (by simp)) h
    rw [← e] at h nb
    have := (pre_rep a.1 _ _ _ _ na nb).mp h
    rw [expand_nil ga.tl] at this
    exact ⟨e, this⟩
  · rintro ⟨e, h⟩
    rw [← e] at nb ⊢
    rw [← expand_nil ga.tl] at h
    exact (pre_rep a.1 _ _ _ _ na nb).mpr h
theorem good_unique : ∀ {x y : List Bl}, Good x → Good y → expand x = expand y → x = y
  | [], y, _, gy, e => ((expand_nil gy).mp e.symm).symm
  | a :: r, [], gx, _, e => absurd e (expand_ne gx)
  | a :: r, b :: q, gx, gy, e => by
    have h1 := (pre_blk gx gy).mp (e ▸ List.prefix_rfl)
    have h2 := (pre_blk gy gx).mp (e ▸ List.prefix_rfl)
    have hc : a.2 = b.2 := by
      rcases h1.2 with h | h
      · exact h.1
      · rcases h2.2 with h' | h'
        · exact h'.1.symm
        · omega
    have hr : expand r = expand q := by
      rw [expand, expand, hc, h1.1] at e
      exact List.append_cancel_left e
    have hr2 := good_unique gx.tl gy.tl hr
    obtain ⟨a1, a2⟩ := a
    obtain ⟨b1, b2⟩ := b
    simp only at hc
    have := h1.1
    simp only at this
    rw [hc, hr2, this]
end LW
namespace LW
open PySem L2 Pd
def sts : Nat → List Bl → List Nat
  | _, [] => []
  | k, b :: r => k :: sts (k + b.2) r
def tot : Nat → List Bl → Nat
  | k, [] => k
  | k, b :: r => tot (k + b.2) r
def intD (k : Nat) : D := .int (k : Nat)
def fldsW (bs : List Bl) : List (Str × D) := [("own_text", .str (txt bs)), ("own_blocks", .tup (bs.map blkD)), ("own_ends", .tup ((sts 0 bs ++ [tot 0 bs]).map intD))]
def i_word : FI := fun ds n P => ∃ bs : List Bl, ds = [.str (txt bs)] ∧ Told bs ∧ P n (fldsW bs)
theorem l_word_init (c : Str → Addr) : ∀ ds n Q, i_word ds n Q → dIni (c "Word") 6 2 (b_Word___init__ c s_blocks_told) ds n Q := by
  rintro ds n Q ⟨bs, rfl, ht, q⟩
  refine ⟨rfl, ?_⟩
  simp only [b_Word___init__, envOf, dRet, dRetN, dOp, dSl, dSlO, dVar, dC, pSome, pNo, ev_sll, ev_slt, ev_sls, dBi, dCons, dNil, ev_lenl, ev_lent, ev_lens, ev_lenr, ev_gI, TC, Pd.gSub, gLt, gLe, gGt, gGe, gMod, gFdiv, gPow, gEq, gNe, ev_oki, ev_oks, ev_okl, ev_okt, gIs, gIsNot, gIsB, gIsNotB, Pd.isNon, dCall, dSeq, dSet, dSetO, dMul, setL, bCons, bOwn, bNil, dIf, dIte, dTB, dAnd, dOr, dNot, dBV, dAndV, dOrV, dChain, dTmp, dTmpT, frzE, dFrz, OD.d, dIxO, dApp, dSetI, dNeg, dLst, dLstO, dTup, dO, dDrop, ev_abs, ev_inttoi, ev_inttob, ev_inttos, ev_strtoi, ev_listl, ev_listt, ev_lists, ev_tupl, ev_tupt, ev_addi, ev_adds, ev_addl, ev_addt, ev_muli, ev_muls, ev_mull, ev_max, ev_min, ev_all, ev_any, gRepr, dLRg, Pd.r1, Pd.r2, eqD_str, eqD_int, eqD_bl, dFld, dProp, dMeth, dAugI, dRev, dMake, dIsi, isT, isC, dNx, dBrk, dNev, dFst, putFD, gNm, gTp, gsCons, gsNil, dAsg, dStar, dYes, iniEnd, flatD, wipeE, ev_ixl, ev_ixt, ev_ixs, ev_ixr, ev_srcl, ev_srct, ev_srcs, ev_at0, ev_at1, ev_atl, ev_atn, ev_ixn, Option.some.injEq, exists_eq_left', exists_eq_left, List.foldl_cons, List.foldl_nil, List.map_cons, List.map_nil, List.replicate, List.length_append, List.length_map, List.length_cons, List.length_nil, List.cons_append, List.nil_append, List.append_nil, List.getElem?_cons_zero, List.getElem?_cons_succ, List.set_cons_zero, List.set_cons_succ, Nat.zero_add, Nat.reduceAdd, Nat.reduceSub, Nat.reduceLeDiff, true_and, and_true, decide_eq_true_eq, decide_eq_false_iff_not, ne_eq, reduceCtorEq, false_implies, true_implies, forall_const, Bool.and_self, Bool.and_true, Bool.true_and, dFor, iVal]
  refine ⟨bs, rfl, ht, fun h => (by cases h), fun _ => ?_⟩
  simp only [putFD, envOf, dRet, dRetN, dOp, dSl, dSlO, dVar, dC, pSome, pNo, ev_sll, ev_slt, ev_sls, dBi, dCons, dNil, ev_lenl, ev_lent, ev_lens, ev_lenr, ev_gI, TC, Pd.gSub, gLt, gLe, gGt, gGe, gMod, gFdiv, gPow, gEq, gNe, ev_oki, ev_oks, ev_okl, ev_okt, gIs, gIsNot, gIsB, gIsNotB, Pd.isNon, dCall, dSeq, dSet, dSetO, dMul, setL, bCons, bOwn, bNil, dIf, dIte, dTB, dAnd, dOr, dNot, dBV, dAndV, dOrV, dChain, dTmp, dTmpT, frzE, dFrz, OD.d, dIxO, dApp, dSetI, dNeg, dLst, dLstO, dTup, dO, dDrop, ev_abs, ev_inttoi, ev_inttob, ev_inttos, ev_strtoi, ev_listl, ev_listt, ev_lists, ev_tupl, ev_tupt, ev_addi, ev_adds, ev_addl, ev_addt, ev_muli, ev_muls, ev_mull, ev_max, ev_min, ev_all, ev_any, gRepr, dLRg, Pd.r1, Pd.r2, eqD_str, eqD_int, eqD_bl, dFld, dProp, dMeth, dAugI, dRev, dMake, dIsi, isT, isC, dNx, dBrk, dNev, dFst, putFD, gNm, gTp, gsCons, gsNil, dAsg, dStar, dYes, iniEnd, flatD, wipeE, ev_ixl, ev_ixt, ev_ixs, ev_ixr, ev_srcl, ev_srct, ev_srcs, ev_at0, ev_at1, ev_atl, ev_atn, ev_ixn, Option.some.injEq, exists_eq_left', exists_eq_left, List.foldl_cons, List.foldl_nil, List.map_cons, List.map_nil, List.replicate, List.length_append, List.length_map, List.length_cons, List.length_nil, List.cons_append, List.nil_append, List.append_nil, List.getElem?_cons_zero, List.getElem?_cons_succ, List.set_cons_zero, List.set_cons_succ, Nat.zero_add, Nat.reduceAdd, Nat.reduceSub, Nat.reduceLeDiff, true_and, and_true, decide_eq_true_eq, decide_eq_false_iff_not, ne_eq, reduceCtorEq, false_implies, true_implies, forall_const, Bool.and_self, Bool.and_true, Bool.true_and]
  refine ⟨by decide, by decide, ?_⟩
  rw [if_neg (show ¬ ((Str.ofString "own_text") = (Str.ofString "own_blocks")) by decide)]
  refine forW_ind (Inv := fun ys n' ε => ∃ (rem : List Bl) (L : List Nat) (k : Nat) (s4 s5 : Sl), ys = rem.map blkD ∧ n' = n ∧ ε = [.own (.ins (c "Word") [("own_text", .str (txt bs)), ("own_blocks", .tup (bs.map blkD))]), .val (.str (txt bs)), .val (.tup (bs.map blkD)), .own (.lst (L.map intD ++ [intD k])), s4, s5] ∧ L ++ sts k rem = sts 0 bs ∧ tot k rem = tot 0 bs ∧ L.length + rem.length = bs.length) ?_ ?_ _ _ _ ⟨bs, [], 0, .no, .no, rfl, rfl, rfl, rfl, rfl, by simp⟩
  · rintro n' ε ⟨rem, L, k, s4, s5, e, rfl, rfl, h1, h2, h3⟩
    have : rem = [] := List.map_eq_nil_iff.mp e.symm
    subst this
    simp only [putFD, envOf, dRet, dRetN, dOp, dSl, dSlO, dVar, dC, pSome, pNo, ev_sll, ev_slt, ev_sls, dBi, dCons, dNil, ev_lenl, ev_lent, ev_lens, ev_lenr, ev_gI, TC, Pd.gSub, gLt, gLe, gGt, gGe, gMod, gFdiv, gPow, gEq, gNe, ev_oki, ev_oks, ev_okl, ev_okt, gIs, gIsNot, gIsB, gIsNotB, Pd.isNon, dCall, dSeq, dSet, dSetO, dMul, setL, bCons, bOwn, bNil, dIf, dIte, dTB, dAnd, dOr, dNot, dBV, dAndV, dOrV, dChain, dTmp, dTmpT, frzE, dFrz, OD.d, dIxO, dApp, dSetI, dNeg, dLst, dLstO, dTup, dO, dDrop, ev_abs, ev_inttoi, ev_inttob, ev_inttos, ev_strtoi, ev_listl, ev_listt, ev_lists, ev_tupl, ev_tupt, ev_addi, ev_adds, ev_addl, ev_addt, ev_muli, ev_muls, ev_mull, ev_max, ev_min, ev_all, ev_any, gRepr, dLRg, Pd.r1, Pd.r2, eqD_str, eqD_int, eqD_bl, dFld, dProp, dMeth, dAugI, dRev, dMake, dIsi, isT, isC, dNx, dBrk, dNev, dFst, putFD, gNm, gTp, gsCons, gsNil, dAsg, dStar, dYes, iniEnd, flatD, wipeE, ev_ixl, ev_ixt, ev_ixs, ev_ixr, ev_srcl, ev_srct, ev_srcs, ev_at0, ev_at1, ev_atl, ev_atn, ev_ixn, Option.some.injEq, exists_eq_left', exists_eq_left, List.foldl_cons, List.foldl_nil, List.map_cons, List.map_nil, List.replicate, List.length_append, List.length_map, List.length_cons, List.length_nil, List.cons_append, List.nil_append, List.append_nil, List.getElem?_cons_zero, List.getElem?_cons_succ, List.set_cons_zero, List.set_cons_succ, Nat.zero_add, Nat.reduceAdd, Nat.reduceSub, Nat.reduceLeDiff, true_and, and_true, decide_eq_true_eq, decide_eq_false_iff_not, ne_eq, reduceCtorEq, false_implies, true_implies, forall_const, Bool.and_self, Bool.and_true, Bool.true_and]
    refine ⟨by decide, ?_⟩
    rw [if_neg (show ¬ ((Str.ofString "own_text") = (Str.ofString "own_ends")) by decide), if_neg (show ¬ ((Str.ofString "own_blocks") = (Str.ofString "own_ends")) by decide)]
    have e : L.map intD ++ [intD k] = (sts 0 bs ++ [tot 0 bs]).map intD := by
      rw [← h1, ← h2, sts, List.append_nil, tot, List.map_append]
      rfl
    rw [e]
    exact q
  · rintro y ys n' ε ih ⟨rem, L, k, s4, s5, e, rfl, rfl, h1, h2, h3⟩
    match rem, e with
    | b :: rem, e =>
      obtain ⟨rfl, rfl⟩ : y = blkD b ∧ ys = rem.map blkD := by simpa using e
      have ih' := ih n' _ ⟨rem, L ++ [k], k + b.2, .val (.str [b.1]), .val (.int b.2), rfl, rfl, rfl, by rw [List.append_assoc]; exact h1, h2, by rw [List.length_append, ← h3]; simp; omega⟩
      simp only [blkD, intD, envOf, dRet, dRetN, dOp, dSl, dSlO, dVar, dC, pSome, pNo, ev_sll, ev_slt, ev_sls, dBi, dCons, dNil, ev_lenl, ev_lent, ev_lens, ev_lenr, ev_gI, TC, Pd.gSub, gLt, gLe, gGt, gGe, gMod, gFdiv, gPow, gEq, gNe, ev_oki, ev_oks, ev_okl, ev_okt, gIs, gIsNot, gIsB, gIsNotB, Pd.isNon, dCall, dSeq, dSet, dSetO, dMul, setL, bCons, bOwn, bNil, dIf, dIte, dTB, dAnd, dOr, dNot, dBV, dAndV, dOrV, dChain, dTmp, dTmpT, frzE, dFrz, OD.d, dIxO, dApp, dSetI, dNeg, dLst, dLstO, dTup, dO, dDrop, ev_abs, ev_inttoi, ev_inttob, ev_inttos, ev_strtoi, ev_listl, ev_listt, ev_lists, ev_tupl, ev_tupt, ev_addi, ev_adds, ev_addl, ev_addt, ev_muli, ev_muls, ev_mull, ev_max, ev_min, ev_all, ev_any, gRepr, dLRg, Pd.r1, Pd.r2, eqD_str, eqD_int, eqD_bl, dFld, dProp, dMeth, dAugI, dRev, dMake, dIsi, isT, isC, dNx, dBrk, dNev, dFst, putFD, gNm, gTp, gsCons, gsNil, dAsg, dStar, dYes, iniEnd, flatD, wipeE, ev_ixl, ev_ixt, ev_ixs, ev_ixr, ev_srcl, ev_srct, ev_srcs, ev_at0, ev_at1, ev_atl, ev_atn, ev_ixn, Option.some.injEq, exists_eq_left', exists_eq_left, List.foldl_cons, List.foldl_nil, List.map_cons, List.map_nil, List.replicate, List.length_append, List.length_map, List.length_cons, List.length_nil, List.cons_append, List.nil_append, List.append_nil, List.getElem?_cons_zero, List.getElem?_cons_succ, List.set_cons_zero, List.set_cons_succ, Nat.zero_add, Nat.reduceAdd, Nat.reduceSub, Nat.reduceLeDiff, true_and, and_true, decide_eq_true_eq, decide_eq_false_iff_not, ne_eq, reduceCtorEq, false_implies, true_implies, forall_const, Bool.and_self, Bool.and_true, Bool.true_and]
      have hl := ht.2.1
      rw [List.length_cons] at h3
      rw [List.map_append] at ih'
      exact ⟨by omega, ih'⟩
def wordD (c : Str → Addr) (bs : List Bl) : D := .obj (c "Word") (fldsW bs)
end LW
namespace LW
open PySem L2 Pd
mutual
def rbD : D → Nat
  | .non => 4
  | .bl _ => 5
  | .int i => (numD i).length
  | .str t => 10 * t.length + 2
  | .lst xs => rbDs xs + 3
  | .tup xs => rbDs xs + 3
  | .obj _ _ => 4
  | .pot => 4
  | .scr _ => 4
  | .ref _ => 4
  | .tupK xs => rbDs xs + 3
  | .tupF _ => 4
  | .err _ _ => 4
  | .dic ks vs => if ks.length = 0 then 2 else 0
def rbDs : List D → Nat
  | [] => 0
  | x :: xs => rbD x + 2 + rbDs xs
end
mutual
def smD : D → Bool
  | .non => true
  | .bl _ => true
  | .int _ => true
  | .str t => t.all (· < 1114112)
  | .lst xs => smDs xs
  | .tup xs => smDs xs
  | .obj _ _ => false
  | .pot => false
  | .scr _ => false
  | .ref _ => false
  | .tupK xs => smDs xs
  | .tupF _ => false
  | .err _ _ => false
  | .dic ks vs => decide (ks.length = 0)
def smDs : List D → Bool
  | [] => true
  | x :: xs => smD x && smDs xs
end
theorem strlen (x : Str) : x.cps.toList.length = x.length := by simp [Str.length]
mutual
theorem rb_ok : ∀ d : D, smD d = true → (toPD d).shown.length ≤ rbD d
  | .non, _ => by rw [toPD, PyData.shown, rbD]; decide
  | .bl b, _ => by cases b <;> (rw [toPD, PyData.shown, rbD]; decide)
  | .int i, _ => by
    rw [toPD, PyData.shown, rbD]
    exact Nat.le_of_eq (strlen _).symm
  | .str t, h => by
    rw [smD] at h
    rw [toPD, PyData.shown, rbD]
    have := PySem.StrLaws.reprText_len ⟨t.toArray⟩ fun c hc => by
      have := of_decide_eq_true (List.all_eq_true.mp h c (by simpa using hc))
      omega
    have e : (⟨t.toArray⟩ : Str).length = t.length := by simp [Str.length]
    rw [e] at this
    exact this
  | .lst xs, h => by
    rw [smD] at h
    rw [toPD, PyData.shown, rbD]
    refine Nat.le_trans (listText_len_le _) ?_
    have := rbs_ok xs h
    omega
  | .tup xs, h => by
    rw [smD] at h
    rw [toPD, PyData.shown, rbD]
    refine Nat.le_trans (tupleText_len_le _) ?_
    have := rbs_ok xs h
    omega
  | .obj _ _, h => by simp [smD] at h
  | .pot, h => by simp [smD] at h
  | .scr _, h => by simp [smD] at h
  | .ref _, h => by simp [smD] at h
  | .tupK xs, h => by
    rw [smD] at h
    rw [toPD, PyData.shown, rbD]
    refine Nat.le_trans (tupleText_len_le _) ?_
    have := rbs_ok xs h
    omega
  | .tupF _, h => by simp [smD] at h
  | .err _ _, h => by simp [smD] at h
  | .dic ks vs, h => by
    rw [smD] at h
    have hk : ks = [] := List.length_eq_zero_iff.mp (of_decide_eq_true h)
    subst hk
    rw [toPD, rbD]
    show (PyData.shown (.dict [])).length ≤ _
    rw [PyData.shown, PyData.shownKv]
    decide
theorem rbs_ok : ∀ ds : List D, smDs ds = true → ((PyData.shownAll (toPDs ds)).map (·.length)).sum + 2 * (PyData.shownAll (toPDs ds)).length ≤ rbDs ds
  | [], _ => by simp [toPDs, PyData.shownAll, rbDs]
  | d :: ds, h => by
    rw [smDs, Bool.and_eq_true] at h
    have h1 := rb_ok d h.1
    have h2 := rbs_ok ds h.2
    rw [toPDs, PyData.shownAll, rbDs, List.map_cons, List.sum_cons, List.length_cons]
    omega
end
def oddL : List D := [.non, .bl true, .bl false, .int 0, .int 1, .int (-1), .int 2, .int 7, .str [], .str [97], .str [97, 98], .str [97, 50], .str [114, 105, 103, 104, 116], .tup [], .lst [], .dic [] [], .tup [.int 0], .tup [.tup []], .lst [.int 0], .str [65], .str [49],
  .tup [.int 0, .int 1], .tup [.int 0, .int 1, .bl true], .tup [.str [97]], .tup [.str [97], .str [98]], .tup [.tup [.int 0, .int 0]], .tup [.non], .int 100000000, .tup [.str [114, 101, 112, 101, 97, 116]], .tup [.str [97, 112, 97, 114, 116], .int 0]]
def s_odd : FD := fun ds n P => ∃ m : Nat, ds = [.pot] ∧ n = m + 1 ∧ ∀ x ∈ oddL, P m x
theorem seqAt {A B : DS} {N : DN} {n : Nat} {ε : Ev} (n1 : Nat) (ε1 : Ev) (h : ∀ nx : Nat → Ev → Prop, nx n1 ε1 → A { N with nx := nx } n ε) (k : B N n1 ε1) : dSeq A B N n ε := h _ k
theorem l_odd (c : Str → Addr) : ∀ ds n Q, s_odd ds n Q → dFn 2 1 (b__law_odd c s_of) ds n Q := by
  rintro ds n Q ⟨m, rfl, rfl, q⟩
  refine ⟨rfl, ?_⟩
  unfold b__law_odd
  refine seqAt (m + 1) [.val .pot, .val (.lst (oddL.take 21))] (fun nx hnx => ?_) ?_
  · simp only [dSet, dLst, dCons, dC, dNeg, dNil, dTup, dDic0]
    exact ⟨by decide, by decide, by decide, by decide, by decide, by decide, (show (21 : Nat) ≤ 16777216 by decide), hnx⟩
  refine seqAt (m + 1) [.val .pot, .val (.lst oddL)] (fun nx hnx => ?_) ?_
  · simp only [envOf, dRet, dRetN, dOp, dSl, dSlO, dVar, dC, pSome, pNo, ev_sll, ev_slt, ev_sls, dBi, dCons, dNil, ev_lenl, ev_lent, ev_lens, ev_lenr, ev_gI, TC, Pd.gSub, gLt, gLe, gGt, gGe, gMod, gFdiv, gPow, gEq, gNe, ev_oki, ev_oks, ev_okl, ev_okt, gIs, gIsNot, gIsB, gIsNotB, Pd.isNon, dCall, dSeq, dSet, dSetO, dMul, setL, bCons, bOwn, bNil, dIf, dIte, dTB, dAnd, dOr, dNot, dBV, dAndV, dOrV, dChain, dTmp, dTmpT, frzE, dFrz, OD.d, dIxO, dApp, dSetI, dNeg, dLst, dLstO, dTup, dO, dDrop, ev_abs, ev_inttoi, ev_inttob, ev_inttos, ev_strtoi, ev_listl, ev_listt, ev_lists, ev_tupl, ev_tupt, ev_addi, ev_adds, ev_addl, ev_addt, ev_muli, ev_muls, ev_mull, ev_max, ev_min, ev_all, ev_any, gRepr, dLRg, Pd.r1, Pd.r2, eqD_str, eqD_int, eqD_bl, dFld, dProp, dMeth, dAugI, dRev, dMake, dIsi, isT, isC, dNx, dBrk, dNev, dFst, putFD, gNm, gTp, gsCons, gsNil, dAsg, dStar, dYes, iniEnd, flatD, wipeE, ev_ixl, ev_ixt, ev_ixs, ev_ixr, ev_srcl, ev_srct, ev_srcs, ev_at0, ev_at1, ev_atl, ev_atn, ev_ixn, Option.some.injEq, exists_eq_left', exists_eq_left, List.foldl_cons, List.foldl_nil, List.map_cons, List.map_nil, List.replicate, List.length_append, List.length_map, List.length_cons, List.length_nil, List.cons_append, List.nil_append, List.append_nil, List.getElem?_cons_zero, List.getElem?_cons_succ, List.set_cons_zero, List.set_cons_succ, Nat.zero_add, Nat.reduceAdd, Nat.reduceSub, Nat.reduceLeDiff, true_and, and_true, decide_eq_true_eq, decide_eq_false_iff_not, ne_eq, reduceCtorEq, false_implies, true_implies, forall_const, Bool.and_self, Bool.and_true, Bool.true_and]
    refine ⟨⟨by decide, by decide, by decide +kernel⟩, by decide, ?_⟩
    exact hnx
  · simp only [envOf, dRet, dRetN, dOp, dSl, dSlO, dVar, dC, pSome, pNo, ev_sll, ev_slt, ev_sls, dBi, dCons, dNil, ev_lenl, ev_lent, ev_lens, ev_lenr, ev_gI, TC, Pd.gSub, gLt, gLe, gGt, gGe, gMod, gFdiv, gPow, gEq, gNe, ev_oki, ev_oks, ev_okl, ev_okt, gIs, gIsNot, gIsB, gIsNotB, Pd.isNon, dCall, dSeq, dSet, dSetO, dMul, setL, bCons, bOwn, bNil, dIf, dIte, dTB, dAnd, dOr, dNot, dBV, dAndV, dOrV, dChain, dTmp, dTmpT, frzE, dFrz, OD.d, dIxO, dApp, dSetI, dNeg, dLst, dLstO, dTup, dO, dDrop, ev_abs, ev_inttoi, ev_inttob, ev_inttos, ev_strtoi, ev_listl, ev_listt, ev_lists, ev_tupl, ev_tupt, ev_addi, ev_adds, ev_addl, ev_addt, ev_muli, ev_muls, ev_mull, ev_max, ev_min, ev_all, ev_any, gRepr, dLRg, Pd.r1, Pd.r2, eqD_str, eqD_int, eqD_bl, dFld, dProp, dMeth, dAugI, dRev, dMake, dIsi, isT, isC, dNx, dBrk, dNev, dFst, putFD, gNm, gTp, gsCons, gsNil, dAsg, dStar, dYes, iniEnd, flatD, wipeE, ev_ixl, ev_ixt, ev_ixs, ev_ixr, ev_srcl, ev_srct, ev_srcs, ev_at0, ev_at1, ev_atl, ev_atn, ev_ixn, Option.some.injEq, exists_eq_left', exists_eq_left, List.foldl_cons, List.foldl_nil, List.map_cons, List.map_nil, List.replicate, List.length_append, List.length_map, List.length_cons, List.length_nil, List.cons_append, List.nil_append, List.append_nil, List.getElem?_cons_zero, List.getElem?_cons_succ, List.set_cons_zero, List.set_cons_succ, Nat.zero_add, Nat.reduceAdd, Nat.reduceSub, Nat.reduceLeDiff, true_and, and_true, decide_eq_true_eq, decide_eq_false_iff_not, ne_eq, reduceCtorEq, false_implies, true_implies, forall_const, Bool.and_self, Bool.and_true, Bool.true_and]
    exact ⟨.lst oddL, oddL, m, rfl, rfl, fun l e => (by cases e), by decide, by decide, rfl, q⟩
end LW
namespace LW
open PySem L2 Pd
def pos (bs : List Bl) (j : Nat) : Nat := ((bs.take j).map (·.2)).sum
theorem pos_zero (bs : List Bl) : pos bs 0 = 0 := by simp [pos]
theorem pos_cons (a : Bl) (r : List Bl) (j : Nat) : pos (a :: r) (j + 1) = a.2 + pos r j := by simp [pos]
theorem sts_pos : ∀ (bs : List Bl) (k : Nat), sts k bs = (List.range bs.length).map fun j => k + pos bs j
  | [], k => rfl
  | b :: r, k => by
    rw [sts, sts_pos r, List.length_cons, List.range_succ_eq_map, List.map_cons, List.map_map, pos_zero, Nat.add_zero]
    congr 1
    refine List.map_congr_left fun j _ => ?_
    show k + b.2 + pos r j = k + pos (b :: r) (j + 1)
    rw [pos_cons]
    omega
theorem tot_pos : ∀ (bs : List Bl) (k : Nat), tot k bs = k + pos bs bs.length
  | [], k => by simp [tot, pos]
  | b :: r, k => by
    rw [tot, tot_pos r, List.length_cons, pos_cons]
    omega
def endsD (bs : List Bl) : List D := (List.range (bs.length + 1)).map fun j => intD (pos bs j)
theorem ends_eq (bs : List Bl) : (sts 0 bs ++ [tot 0 bs]).map intD = endsD bs := by
  unfold endsD
  rw [sts_pos, tot_pos, List.range_succ, List.map_append, List.map_append, List.map_map]
  congr 1
  · refine List.map_congr_left fun j _ => ?_
    show intD (0 + pos bs j) = _
    rw [Nat.zero_add]
  · rw [Nat.zero_add]; rfl
theorem lk_text (bs : List Bl) : List.lookup (Str.ofString "own_text") (fldsW bs) = some (.str (txt bs)) := rfl
theorem lk_blocks (bs : List Bl) : List.lookup (Str.ofString "own_blocks") (fldsW bs) = some (.tup (bs.map blkD)) := rfl
theorem lk_ends (bs : List Bl) : List.lookup (Str.ofString "own_ends") (fldsW bs) = some (.tup (endsD bs)) := by
  rw [← ends_eq]
  rfl
theorem lk_spot (bs : List Bl) : (List.lookup (Str.ofString "spot") (fldsW bs) = none) = True := eq_true rfl
theorem lk_letter (bs : List Bl) : (List.lookup (Str.ofString "letter") (fldsW bs) = none) = True := eq_true rfl
theorem for_ind {dg : DG} {b : DS} {N : DN} (Inv : List D → Nat → Ev → Prop) {xs : List D} {n : Nat} {ε : Ev} (hi : Inv xs n ε) (h0 : ∀ n ε, Inv [] n ε → N.nx n ε)
    (hs : ∀ x xs n ε (nxt : Nat → Ev → Prop), (∀ n ε, Inv xs n ε → nxt n ε) → Inv (x :: xs) n ε → dg x ε fun ε' => b { N with nx := nxt, ct := nxt, bk := N.nx } n ε') : forW dg b N xs n ε :=
  forW_ind h0 (fun x xs n ε ih i => hs x xs n ε (forW dg b N xs) ih i) xs n ε hi
end LW
namespace LW
open PySem L2 Pd
def size (bs : List Bl) : Nat := (expand bs).length
end LW
namespace LW
open PySem L2 Pd
def rep (w : List Nat) (c k : Nat) : Prop := ∀ i, c - k ≤ i → i < c → i + k < w.length → w[i]? = w[i + k]?
instance (w : List Nat) (c k : Nat) : Decidable (rep w c k) :=
  decidable_of_iff (∀ i < c, c - k ≤ i → i + k < w.length → w[i]? = w[i + k]?) ⟨fun h i a b d => h i b a d, fun h i b a d => h i a b d⟩
end LW
namespace LW
open PySem L2 Pd
def AL (l : List Nat) : Prop := ∀ c ∈ l, c ∈ letters
theorem AL.sub {a b : List Nat} (h : AL b) (g : ∀ c ∈ a, c ∈ b) : AL a := fun c hc => h c (g c hc)
theorem AL.rep {a : List Nat} (h : AL a) (k : Nat) : AL (List.replicate k a).flatten := fun c hc => by
  obtain ⟨l, h1, h2⟩ := List.mem_flatten.mp hc
  exact h c (List.eq_of_mem_replicate h1 ▸ h2)
theorem AL.take {a : List Nat} (h : AL a) (k : Nat) : AL (a.take k) := h.sub fun c hc => List.mem_of_mem_take hc
theorem AL.drop {a : List Nat} (h : AL a) (k : Nat) : AL (a.drop k) := h.sub fun c hc => List.mem_of_mem_drop hc
end LW
namespace LW
open PySem L2 Pd
theorem AL.lt {l : List Nat} (h : AL l) : ∀ c ∈ l, c < 1114112 := fun c hc => letters_lt (h c hc)
theorem rngD_eq (n lo : Nat) : rngD (lo : Int) n = (List.range' lo n).map intD := by
  unfold rngD
  have e : List.range' lo n = (List.range n).map fun i => lo + i := by
    rw [List.range_eq_range', List.map_add_range']
    simp
  rw [e, List.map_map]
  refine List.map_congr_left fun i _ => ?_
  show D.int ((lo : Int) + (i : Nat)) = D.int ((lo + i : Nat) : Int)
  congr 1
def s_cells : FD := fun ds n P => ∃ (ns : List Int) (lim : Nat), ds = [.scr ns, .int lim] ∧ 1 ≤ lim ∧ lim ≤ 8 ∧ ∀ xs : List D, xs.length ≤ lim → (∀ x ∈ xs, ∃ k : Nat, x = .int k ∧ k < lim) → P n (.lst xs)
theorem l_cells (c : Str → Addr) : ∀ ds n Q, s_cells ds n Q → dFn 2 2 (b__law_cells c) ds n Q := by
  rintro ds n Q ⟨ns, lim, rfl, hl1, hl8, q⟩
  refine ⟨rfl, ?_⟩
  simp only [b__law_cells, envOf, dRet, dRetN, dOp, dSl, dSlO, dVar, dC, pSome, pNo, ev_sll, ev_slt, ev_sls, dBi, dCons, dNil, ev_lenl, ev_lent, ev_lens, ev_lenr, ev_gI, TC, Pd.gSub, gLt, gLe, gGt, gGe, gMod, gFdiv, gPow, gEq, gNe, ev_oki, ev_oks, ev_okl, ev_okt, gIs, gIsNot, gIsB, gIsNotB, Pd.isNon, dCall, dSeq, dSet, dSetO, dMul, setL, bCons, bOwn, bNil, dIf, dIte, dTB, dAnd, dOr, dNot, dBV, dAndV, dOrV, dChain, dTmp, dTmpT, frzE, dFrz, OD.d, dIxO, dApp, dSetI, dNeg, dLst, dLstO, dTup, dO, dDrop, ev_abs, ev_inttoi, ev_inttob, ev_inttos, ev_strtoi, ev_listl, ev_listt, ev_lists, ev_tupl, ev_tupt, ev_addi, ev_adds, ev_addl, ev_addt, ev_muli, ev_muls, ev_mull, ev_max, ev_min, ev_all, ev_any, gRepr, dLRg, Pd.r1, Pd.r2, eqD_str, eqD_int, eqD_bl, dFld, dProp, dMeth, dAugI, dRev, dMake, dIsi, isT, isC, dNx, dBrk, dNev, dFst, putFD, gNm, gTp, gsCons, gsNil, dAsg, dStar, dYes, iniEnd, flatD, wipeE, ev_ixl, ev_ixt, ev_ixs, ev_ixr, ev_srcl, ev_srct, ev_srcs, ev_at0, ev_at1, ev_atl, ev_atn, ev_ixn, Option.some.injEq, exists_eq_left', exists_eq_left, List.foldl_cons, List.foldl_nil, List.map_cons, List.map_nil, List.replicate, List.length_append, List.length_map, List.length_cons, List.length_nil, List.cons_append, List.nil_append, List.append_nil, List.getElem?_cons_zero, List.getElem?_cons_succ, List.set_cons_zero, List.set_cons_succ, Nat.zero_add, Nat.reduceAdd, Nat.reduceSub, Nat.reduceLeDiff, true_and, and_true, decide_eq_true_eq, decide_eq_false_iff_not, ne_eq, reduceCtorEq, false_implies, true_implies, forall_const, Bool.and_self, Bool.and_true, Bool.true_and]
  have hm : ∃ m : Nat, (if (if (ns.length : Int) < lim then (ns.length : Int) else lim) > 1 then (if (ns.length : Int) < lim then (ns.length : Int) else lim) else 1) = m ∧ m ≤ lim := by
    by_cases h : (ns.length : Int) < lim
    · rw [if_pos h]
      by_cases h2 : (ns.length : Int) > 1
      · rw [if_pos h2]
        exact ⟨ns.length, rfl, by omega⟩
      · rw [if_neg h2]
        exact ⟨1, rfl, by omega⟩
    · rw [if_neg h]
      by_cases h2 : (lim : Int) > 1
      · rw [if_pos h2]
        exact ⟨lim, rfl, by omega⟩
      · rw [if_neg h2]
        exact ⟨1, rfl, by omega⟩
  obtain ⟨m, hm, h4⟩ := hm
  rw [hm]
  refine ⟨⟨by omega, by omega, by omega, by omega, by omega⟩, ?_⟩
  have e : (((m : Int) - 0).toNat) = m := by omega
  unfold rgD
  rw [e]
  refine q _ (by rw [List.length_map, List.length_range]; exact h4) fun x hx => ?_
  obtain ⟨i, hi, rfl⟩ := List.mem_map.mp hx
  have hi := List.mem_range.mp hi
  exact ⟨i, by rw [Int.zero_add], by omega⟩
theorem abs_lt_pow {z M : Int} {a : Nat} (h0 : 0 ≤ z) (h1 : z < M) (h2 : M < ((2 ^ a : Nat) : Int)) : z.natAbs < 2 ^ a := by
  omega
def s_pot : FD := fun ds n P => ∃ (ns : List Int) (k : Nat), ds = [.scr ns, .int k] ∧ k < 8 ∧ n ≤ 1000000000 ∧ P n .pot
theorem l_pot (c : Str → Addr) : ∀ ds n Q, s_pot ds n Q → dFn 5 2 (b__law_pot c) ds n Q := by
  rintro ds n Q ⟨ns, k, rfl, hk, h0, q⟩
  refine ⟨rfl, ?_⟩
  simp only [b__law_pot, envOf, dRet, dRetN, dOp, dSl, dSlO, dVar, dC, pSome, pNo, ev_sll, ev_slt, ev_sls, dBi, dCons, dNil, ev_lenl, ev_lent, ev_lens, ev_lenr, ev_gI, TC, Pd.gSub, gLt, gLe, gGt, gGe, gMod, gFdiv, gPow, gEq, gNe, ev_oki, ev_oks, ev_okl, ev_okt, gIs, gIsNot, gIsB, gIsNotB, Pd.isNon, dCall, dSeq, dSet, dSetO, dMul, setL, bCons, bOwn, bNil, dIf, dIte, dTB, dAnd, dOr, dNot, dBV, dAndV, dOrV, dChain, dTmp, dTmpT, frzE, dFrz, OD.d, dIxO, dApp, dSetI, dNeg, dLst, dLstO, dTup, dO, dDrop, ev_abs, ev_inttoi, ev_inttob, ev_inttos, ev_strtoi, ev_listl, ev_listt, ev_lists, ev_tupl, ev_tupt, ev_addi, ev_adds, ev_addl, ev_addt, ev_muli, ev_muls, ev_mull, ev_max, ev_min, ev_all, ev_any, gRepr, dLRg, Pd.r1, Pd.r2, eqD_str, eqD_int, eqD_bl, dFld, dProp, dMeth, dAugI, dRev, dMake, dIsi, isT, isC, dNx, dBrk, dNev, dFst, putFD, gNm, gTp, gsCons, gsNil, dAsg, dStar, dYes, iniEnd, flatD, wipeE, ev_ixl, ev_ixt, ev_ixs, ev_ixr, ev_srcl, ev_srct, ev_srcs, ev_at0, ev_at1, ev_atl, ev_atn, ev_ixn, Option.some.injEq, exists_eq_left', exists_eq_left, List.foldl_cons, List.foldl_nil, List.map_cons, List.map_nil, List.replicate, List.length_append, List.length_map, List.length_cons, List.length_nil, List.cons_append, List.nil_append, List.append_nil, List.getElem?_cons_zero, List.getElem?_cons_succ, List.set_cons_zero, List.set_cons_succ, Nat.zero_add, Nat.reduceAdd, Nat.reduceSub, Nat.reduceLeDiff, true_and, and_true, decide_eq_true_eq, decide_eq_false_iff_not, ne_eq, reduceCtorEq, false_implies, true_implies, forall_const, Bool.and_self, Bool.and_true, Bool.true_and]
  have hk2 : (k : Int).natAbs < 2 ^ 3 := by
    have : (2 : Nat) ^ 3 = 8 := by decide
    omega
  have fin : ∀ (x z : Int), 0 ≤ z → z.natAbs < 2 ^ 1000 → dRetPot
                        (dLstO
                          (dCons (dVar 3)
                            (dCons
                              (dOp gMod
                                (dBi gInt
                                  (dCons
                                    (dOp gAdd
                                      (dOp gAdd (dOp gMul (dVar 4) (dC (D.int 74521)))
                                        (dOp gMul (dOp gMul (dC (D.int 7823)) (dVar 1)) (dVar 1)))
                                      (dC (D.int 199)))
                                    dNil))
                                (dC (D.int 2305843009213693921)))
                              (dCons (dC (D.int 0)) dNil))))
                        { nx := fun n x => Q n D.non, rt := Q } n
                        [Sl.val (D.scr ns), Sl.val (D.int k), Sl.val (D.int x), Sl.val (D.int z), Sl.val (D.int (x % 2305843009213693951))] := by
    intro x z z0 z1
    have y0 := Int.emod_nonneg x (b := 2305843009213693951) (by decide)
    have y1 := Int.emod_lt_of_pos x (b := 2305843009213693951) (by decide)
    have y2 := abs_lt_pow (a := 61) y0 y1 (by decide)
    simp only [dRetPot, envOf, dRet, dRetN, dOp, dSl, dSlO, dVar, dC, pSome, pNo, ev_sll, ev_slt, ev_sls, dBi, dCons, dNil, ev_lenl, ev_lent, ev_lens, ev_lenr, ev_gI, TC, Pd.gSub, gLt, gLe, gGt, gGe, gMod, gFdiv, gPow, gEq, gNe, ev_oki, ev_oks, ev_okl, ev_okt, gIs, gIsNot, gIsB, gIsNotB, Pd.isNon, dCall, dSeq, dSet, dSetO, dMul, setL, bCons, bOwn, bNil, dIf, dIte, dTB, dAnd, dOr, dNot, dBV, dAndV, dOrV, dChain, dTmp, dTmpT, frzE, dFrz, OD.d, dIxO, dApp, dSetI, dNeg, dLst, dLstO, dTup, dO, dDrop, ev_abs, ev_inttoi, ev_inttob, ev_inttos, ev_strtoi, ev_listl, ev_listt, ev_lists, ev_tupl, ev_tupt, ev_addi, ev_adds, ev_addl, ev_addt, ev_muli, ev_muls, ev_mull, ev_max, ev_min, ev_all, ev_any, gRepr, dLRg, Pd.r1, Pd.r2, eqD_str, eqD_int, eqD_bl, dFld, dProp, dMeth, dAugI, dRev, dMake, dIsi, isT, isC, dNx, dBrk, dNev, dFst, putFD, gNm, gTp, gsCons, gsNil, dAsg, dStar, dYes, iniEnd, flatD, wipeE, ev_ixl, ev_ixt, ev_ixs, ev_ixr, ev_srcl, ev_srct, ev_srcs, ev_at0, ev_at1, ev_atl, ev_atn, ev_ixn, Option.some.injEq, exists_eq_left', exists_eq_left, List.foldl_cons, List.foldl_nil, List.map_cons, List.map_nil, List.replicate, List.length_append, List.length_map, List.length_cons, List.length_nil, List.cons_append, List.nil_append, List.append_nil, List.getElem?_cons_zero, List.getElem?_cons_succ, List.set_cons_zero, List.set_cons_succ, Nat.zero_add, Nat.reduceAdd, Nat.reduceSub, Nat.reduceLeDiff, true_and, and_true, decide_eq_true_eq, decide_eq_false_iff_not, ne_eq, reduceCtorEq, false_implies, true_implies, forall_const, Bool.and_self, Bool.and_true, Bool.true_and]
    refine ⟨wide_mul y2 (b := 20) (by decide) (by decide) (by decide) (by decide), wide_mul (a := 20) (by decide) hk2 (by decide) (by decide) (by decide), wide_mul (a := 20) (b := 3) ?_ hk2 (by decide) (by decide) (by decide), by decide, _, _, _, rfl, z0, Nat.lt_trans z1 (by decide +kernel), Int.emod_nonneg _ (by decide), Int.lt_trans (Int.emod_lt_of_pos _ (by decide)) (by decide), by decide, by omega, q⟩
    have : (2 : Nat) ^ 20 = 1048576 := by decide
    omega
  have core : ∀ y : Int, 0 ≤ y % (10 ^ Int.toNat 60) ^ Int.toNat 5 ∧ (y % (10 ^ Int.toNat 60) ^ Int.toNat 5).natAbs < 2 ^ 999 := fun y => by
    have hM : (0 : Int) < (10 ^ Int.toNat 60) ^ Int.toNat 5 := by decide +kernel
    have hM2 : ((10 ^ Int.toNat 60) ^ Int.toNat 5 : Int) < ((2 ^ 999 : Nat) : Int) := by decide +kernel
    have l0 := Int.emod_nonneg y (Int.ne_of_gt hM)
    exact ⟨l0, abs_lt_pow l0 (Int.emod_lt_of_pos y hM) hM2⟩
  have tim : ∀ (z : Int) (p : Prop) [Decidable p], 0 ≤ z → z.natAbs < 2 ^ 999 → CMulW z (if p then 1 else 0) ∧ 0 ≤ z * (if p then 1 else 0) ∧ (z * (if p then 1 else 0)).natAbs < 2 ^ 1000 := fun z p _ z0 z1 => by
    refine ⟨wide_mul z1 (b := 1) (by split <;> decide) (by decide) (by decide) (by decide), ?_, ?_⟩
    · split
      · omega
      · omega
    · split
      · rw [Int.mul_one]
        exact Nat.lt_trans z1 (by decide +kernel)
      · rw [Int.mul_zero]
        decide +kernel
  have p1 : CPowW 10 60 := ⟨by decide, by decide, by decide +kernel⟩
  have p2 : CPowW (10 ^ Int.toNat 60) 5 := ⟨by decide, by decide, by decide +kernel⟩
  have p3 : CPowW 10 18 := ⟨by decide, by decide, by decide +kernel⟩
  refine ⟨fun h => ?_, fun h => ?_⟩
  · have hj : k < ns.length := by omega
    refine ⟨ns[k], atI_nat (List.getElem?_eq_getElem hj), p1, p2, by decide +kernel, p3, ?_, by decide, ?_⟩
    · exact (tim _ _ (core _).1 (core _).2).1
    · exact fin _ _ (tim _ _ (core _).1 (core _).2).2.1 (tim _ _ (core _).1 (core _).2).2.2
  · refine ⟨wide_mul (a := 20) (by decide) hk2 (by decide) (by decide) (by decide), p1, p2, by decide +kernel, p3, ?_, by decide, ?_⟩
    · exact (tim _ _ (core _).1 (core _).2).1
    · exact fin _ _ (tim _ _ (core _).1 (core _).2).2.1 (tim _ _ (core _).1 (core _).2).2.2
end LW
namespace LW
open PySem L2 Pd
theorem all_bls {α : Type} (l : List α) : ∃ ns, isBls (l.map fun _ => D.bl true) = some ns ∧ ns.all id = true := by
  refine ⟨l.map fun _ => true, ?_, by simp⟩
  rw [show (l.map fun _ => D.bl true) = (l.map fun _ => true).map D.bl by rw [List.map_map]; rfl, map_isBls]
def RightOk (s : FD) (B : Nat) : Prop := ∀ n Q, B ≤ n → (∀ n', n' ≤ n → n ≤ n' + B → Q n' (.bl true)) → s [.pot] n Q
theorem isBls_rep (m : Nat) : ∃ ns, isBls (List.replicate m (D.bl true)) = some ns ∧ ns.all id = true := by
  have := all_bls (List.range m)
  rw [List.map_const', List.length_range] at this
  exact this
def s_law2 : FD := fun ds n P => ∃ ns : List Int, ds = [.scr ns] ∧ n = 1000000000 ∧ ∀ n', P n' (.bl true)
end LW
namespace LW
open PySem L2 Pd
theorem rngD0 (n : Nat) : rngD 0 n = (List.range n).map intD := by
  have := rngD_eq n 0
  rw [List.range_eq_range']
  exact this
end LW
namespace LW
open PySem L2 Pd
structure PS where
  pl : Nat
  kn : Nat
  fd : List Nat
  lk : Nat
def s_is_integer : FD := fun ds n P => (∃ (v lo hi : Int), ds = [.int v, .int lo, .int hi] ∧ P n (.bl (decide (lo ≤ v ∧ v ≤ hi)))) ∨ (∃ (v lo : Int), ds = [.int v, .int lo, .non] ∧ P n (.bl (decide (lo ≤ v))))
end LW
namespace LW
open PySem L2 Pd
def goes (w : List Nat) (c k : Nat) : Prop := ∀ i, max c k ≤ i → i < w.length → w[i]? = w[i - k]?
instance (w : List Nat) (c k : Nat) : Decidable (goes w c k) :=
  decidable_of_iff (∀ i < w.length, max c k ≤ i → w[i]? = w[i - k]?) ⟨fun h i a b => h i b a, fun h i b a => h i a b⟩
def standsAt (w t : List Nat) (p : Nat) : Prop := (t.drop p).take w.length = w
instance (w t : List Nat) (p : Nat) : Decidable (standsAt w t p) := by unfold standsAt; exact inferInstance
end LW
namespace LW
open PySem L2 Pd
def b_law_v13 (c : Str → Addr) (s__law_cells : FD) (s__law_pot : FD) (s__law_right : FD) : DS := (dSeq (dFor (iVal (dCall s__law_cells [] (dCons (dVar 0) (dCons (dC (.int 4)) dNil)))) (gNm 1) (dSeq (dSet 2 (dCall s__law_pot [] (dCons (dVar 0) (dCons (dVar 1) dNil))))
    (dIf (dNot (dTB (dBi gAll (dCons (dO (dComp (iRg1 (dC (.int 1))) (gNm 3) dYes (dCall s__law_right [] (dCons (dVar 2) dNil)) [3])) dNil)))) (dRet (dC (.bl false))) dNx)))
    (dRet (dC (.bl true))))
end LW
namespace LW
open PySem L2 Pd
def lawL (lim L : Int) (s_cells s_pot s_right : FD) : DS := (dSeq (dFor (iVal (dCall s_cells [] (dCons (dVar 0) (dCons (dC (.int lim)) dNil)))) (gNm 1) (dSeq (dSet 2 (dCall s_pot [] (dCons (dVar 0) (dCons (dVar 1) dNil))))
    (dIf (dNot (dTB (dBi gAll (dCons (dO (dComp (iRg1 (dC (.int L))) (gNm 3) dYes (dCall s_right [] (dCons (dVar 2) dNil)) [3])) dNil)))) (dRet (dC (.bl false))) dNx)))
    (dRet (dC (.bl true))))
theorem laps_all {s : FD} {B : Nat} (hs : RightOk s B) {a b e d : Sl} {P : Nat → Bool → Prop} : ∀ (xs : List D) (m n : Nat), xs.length * B ≤ n → (∀ n', n' ≤ n → n ≤ n' + xs.length * B → P n' true) →
    compW (gNm 3) dYes (dCall s [] (dCons (dVar 2) dNil)) [a, b, .val .pot, d] (fun n' ds => ∃ ns, isBls ds = some ns ∧ P n' (ns.all id)) xs (List.replicate m (.bl true)) n
  | [], m, n, _, q => by
    obtain ⟨ns, e1, e2⟩ := isBls_rep m
    exact ⟨ns, e1, by rw [e2]; exact q n (Nat.le_refl _) (by omega)⟩
  | x :: xs, m, n, hn, q => by
    rw [List.length_cons, Nat.succ_mul] at hn q
    simp only [compW, envOf, dRet, dRetN, dOp, dSl, dSlO, dVar, dC, pSome, pNo, ev_sll, ev_slt, ev_sls, dBi, dCons, dNil, ev_lenl, ev_lent, ev_lens, ev_lenr, ev_gI, TC, Pd.gSub, gLt, gLe, gGt, gGe, gMod, gFdiv, gPow, gEq, gNe, ev_oki, ev_oks, ev_okl, ev_okt, gIs, gIsNot, gIsB, gIsNotB, Pd.isNon, dCall, dSeq, dSet, dSetO, dMul, setL, bCons, bOwn, bNil, dIf, dIte, dTB, dAnd, dOr, dNot, dBV, dAndV, dOrV, dChain, dTmp, dTmpT, frzE, dFrz, OD.d, dIxO, dApp, dSetI, dNeg, dLst, dLstO, dTup, dO, dDrop, ev_abs, ev_inttoi, ev_inttob, ev_inttos, ev_strtoi, ev_listl, ev_listt, ev_lists, ev_tupl, ev_tupt, ev_addi, ev_adds, ev_addl, ev_addt, ev_muli, ev_muls, ev_mull, ev_max, ev_min, ev_all, ev_any, gRepr, dLRg, Pd.r1, Pd.r2, eqD_str, eqD_int, eqD_bl, dFld, dProp, dMeth, dAugI, dRev, dMake, dIsi, isT, isC, dNx, dBrk, dNev, dFst, putFD, gNm, gTp, gsCons, gsNil, dAsg, dStar, dYes, iniEnd, flatD, wipeE, ev_ixl, ev_ixt, ev_ixs, ev_ixr, ev_srcl, ev_srct, ev_srcs, ev_at0, ev_at1, ev_atl, ev_atn, ev_ixn, Option.some.injEq, exists_eq_left', exists_eq_left, List.foldl_cons, List.foldl_nil, List.map_cons, List.map_nil, List.replicate, List.length_append, List.length_map, List.length_cons, List.length_nil, List.cons_append, List.nil_append, List.append_nil, List.getElem?_cons_zero, List.getElem?_cons_succ, List.set_cons_zero, List.set_cons_succ, Nat.zero_add, Nat.reduceAdd, Nat.reduceSub, Nat.reduceLeDiff, true_and, and_true, decide_eq_true_eq, decide_eq_false_iff_not, ne_eq, reduceCtorEq, false_implies, true_implies, forall_const, Bool.and_self, Bool.and_true, Bool.true_and, lk_ends, lk_blocks, lk_text, lk_spot, lk_letter, Int.toNat_natCast]
    refine hs n _ (by omega) fun n' a b => ?_
    rw [show List.replicate m (D.bl true) ++ [D.bl true] = List.replicate (m + 1) (D.bl true) by rw [List.replicate_succ']]
    exact laps_all (e := e) hs xs (m + 1) n' (by omega) fun n'' g1 g2 => q n'' (by omega) (by omega)
theorem l_lawL {s : FD} {B lim L : Nat} (hs : RightOk s B) (h1 : 1 ≤ lim) (h8 : lim ≤ 8) (hL : L ≤ 100) (hB : B ≤ 1000000) : ∀ ds n Q, s_law2 ds n Q → dFn 4 1 (lawL lim L s_cells s_pot s) ds n Q := by
  rintro ds n Q ⟨ns, rfl, rfl, q⟩
  refine ⟨rfl, ?_⟩
  have hLB : L * B ≤ 100000000 := Nat.le_trans (Nat.mul_le_mul hL hB) (by decide)
  generalize hw : L * B = W at hLB
  simp only [lawL, envOf, dRet, dRetN, dOp, dSl, dSlO, dVar, dC, pSome, pNo, ev_sll, ev_slt, ev_sls, dBi, dCons, dNil, ev_lenl, ev_lent, ev_lens, ev_lenr, ev_gI, TC, Pd.gSub, gLt, gLe, gGt, gGe, gMod, gFdiv, gPow, gEq, gNe, ev_oki, ev_oks, ev_okl, ev_okt, gIs, gIsNot, gIsB, gIsNotB, Pd.isNon, dCall, dSeq, dSet, dSetO, dMul, setL, bCons, bOwn, bNil, dIf, dIte, dTB, dAnd, dOr, dNot, dBV, dAndV, dOrV, dChain, dTmp, dTmpT, frzE, dFrz, OD.d, dIxO, dApp, dSetI, dNeg, dLst, dLstO, dTup, dO, dDrop, ev_abs, ev_inttoi, ev_inttob, ev_inttos, ev_strtoi, ev_listl, ev_listt, ev_lists, ev_tupl, ev_tupt, ev_addi, ev_adds, ev_addl, ev_addt, ev_muli, ev_muls, ev_mull, ev_max, ev_min, ev_all, ev_any, gRepr, dLRg, Pd.r1, Pd.r2, eqD_str, eqD_int, eqD_bl, dFld, dProp, dMeth, dAugI, dRev, dMake, dIsi, isT, isC, dNx, dBrk, dNev, dFst, putFD, gNm, gTp, gsCons, gsNil, dAsg, dStar, dYes, iniEnd, flatD, wipeE, ev_ixl, ev_ixt, ev_ixs, ev_ixr, ev_srcl, ev_srct, ev_srcs, ev_at0, ev_at1, ev_atl, ev_atn, ev_ixn, Option.some.injEq, exists_eq_left', exists_eq_left, List.foldl_cons, List.foldl_nil, List.map_cons, List.map_nil, List.replicate, List.length_append, List.length_map, List.length_cons, List.length_nil, List.cons_append, List.nil_append, List.append_nil, List.getElem?_cons_zero, List.getElem?_cons_succ, List.set_cons_zero, List.set_cons_succ, Nat.zero_add, Nat.reduceAdd, Nat.reduceSub, Nat.reduceLeDiff, true_and, and_true, decide_eq_true_eq, decide_eq_false_iff_not, ne_eq, reduceCtorEq, false_implies, true_implies, forall_const, Bool.and_self, Bool.and_true, Bool.true_and, lk_ends, lk_blocks, lk_text, lk_spot, lk_letter, Int.toNat_natCast, dFor, iVal]
  refine ⟨ns, lim, rfl, h1, h8, fun xs hx hk => ⟨xs, rfl, ?_⟩⟩
  refine for_ind (fun ys n' ε => ∃ s1 s2 s3 : Sl, ε = [.val (.scr ns), s1, s2, s3] ∧ (∀ x ∈ ys, ∃ k : Nat, x = .int k ∧ k < 8) ∧ n' ≤ 1000000000 ∧ ys.length * W ≤ n') ⟨.no, .no, .no, rfl, fun x hx => ?_, Nat.le_refl _, ?_⟩ ?_ ?_
  · obtain ⟨k, e, h⟩ := hk x hx
    exact ⟨k, e, by omega⟩
  · exact Nat.le_trans (Nat.mul_le_mul hx hLB) (Nat.le_trans (Nat.mul_le_mul_right _ h8) (by decide))
  · rintro n' ε ⟨s1, s2, s3, rfl, -, -, -⟩
    simp only [envOf, dRet, dRetN, dOp, dSl, dSlO, dVar, dC, pSome, pNo, ev_sll, ev_slt, ev_sls, dBi, dCons, dNil, ev_lenl, ev_lent, ev_lens, ev_lenr, ev_gI, TC, Pd.gSub, gLt, gLe, gGt, gGe, gMod, gFdiv, gPow, gEq, gNe, ev_oki, ev_oks, ev_okl, ev_okt, gIs, gIsNot, gIsB, gIsNotB, Pd.isNon, dCall, dSeq, dSet, dSetO, dMul, setL, bCons, bOwn, bNil, dIf, dIte, dTB, dAnd, dOr, dNot, dBV, dAndV, dOrV, dChain, dTmp, dTmpT, frzE, dFrz, OD.d, dIxO, dApp, dSetI, dNeg, dLst, dLstO, dTup, dO, dDrop, ev_abs, ev_inttoi, ev_inttob, ev_inttos, ev_strtoi, ev_listl, ev_listt, ev_lists, ev_tupl, ev_tupt, ev_addi, ev_adds, ev_addl, ev_addt, ev_muli, ev_muls, ev_mull, ev_max, ev_min, ev_all, ev_any, gRepr, dLRg, Pd.r1, Pd.r2, eqD_str, eqD_int, eqD_bl, dFld, dProp, dMeth, dAugI, dRev, dMake, dIsi, isT, isC, dNx, dBrk, dNev, dFst, putFD, gNm, gTp, gsCons, gsNil, dAsg, dStar, dYes, iniEnd, flatD, wipeE, ev_ixl, ev_ixt, ev_ixs, ev_ixr, ev_srcl, ev_srct, ev_srcs, ev_at0, ev_at1, ev_atl, ev_atn, ev_ixn, Option.some.injEq, exists_eq_left', exists_eq_left, List.foldl_cons, List.foldl_nil, List.map_cons, List.map_nil, List.replicate, List.length_append, List.length_map, List.length_cons, List.length_nil, List.cons_append, List.nil_append, List.append_nil, List.getElem?_cons_zero, List.getElem?_cons_succ, List.set_cons_zero, List.set_cons_succ, Nat.zero_add, Nat.reduceAdd, Nat.reduceSub, Nat.reduceLeDiff, true_and, and_true, decide_eq_true_eq, decide_eq_false_iff_not, ne_eq, reduceCtorEq, false_implies, true_implies, forall_const, Bool.and_self, Bool.and_true, Bool.true_and, lk_ends, lk_blocks, lk_text, lk_spot, lk_letter, Int.toNat_natCast]
    exact q _
  · rintro x xs n' ε nxt ih ⟨s1, s2, s3, rfl, hk, g1, g2⟩
    obtain ⟨k, rfl, hk8⟩ := hk x (by simp)
    rw [List.length_cons, Nat.succ_mul] at g2
    simp only [envOf, dRet, dRetN, dOp, dSl, dSlO, dVar, dC, pSome, pNo, ev_sll, ev_slt, ev_sls, dBi, dCons, dNil, ev_lenl, ev_lent, ev_lens, ev_lenr, ev_gI, TC, Pd.gSub, gLt, gLe, gGt, gGe, gMod, gFdiv, gPow, gEq, gNe, ev_oki, ev_oks, ev_okl, ev_okt, gIs, gIsNot, gIsB, gIsNotB, Pd.isNon, dCall, dSeq, dSet, dSetO, dMul, setL, bCons, bOwn, bNil, dIf, dIte, dTB, dAnd, dOr, dNot, dBV, dAndV, dOrV, dChain, dTmp, dTmpT, frzE, dFrz, OD.d, dIxO, dApp, dSetI, dNeg, dLst, dLstO, dTup, dO, dDrop, ev_abs, ev_inttoi, ev_inttob, ev_inttos, ev_strtoi, ev_listl, ev_listt, ev_lists, ev_tupl, ev_tupt, ev_addi, ev_adds, ev_addl, ev_addt, ev_muli, ev_muls, ev_mull, ev_max, ev_min, ev_all, ev_any, gRepr, dLRg, Pd.r1, Pd.r2, eqD_str, eqD_int, eqD_bl, dFld, dProp, dMeth, dAugI, dRev, dMake, dIsi, isT, isC, dNx, dBrk, dNev, dFst, putFD, gNm, gTp, gsCons, gsNil, dAsg, dStar, dYes, iniEnd, flatD, wipeE, ev_ixl, ev_ixt, ev_ixs, ev_ixr, ev_srcl, ev_srct, ev_srcs, ev_at0, ev_at1, ev_atl, ev_atn, ev_ixn, Option.some.injEq, exists_eq_left', exists_eq_left, List.foldl_cons, List.foldl_nil, List.map_cons, List.map_nil, List.replicate, List.length_append, List.length_map, List.length_cons, List.length_nil, List.cons_append, List.nil_append, List.append_nil, List.getElem?_cons_zero, List.getElem?_cons_succ, List.set_cons_zero, List.set_cons_succ, Nat.zero_add, Nat.reduceAdd, Nat.reduceSub, Nat.reduceLeDiff, true_and, and_true, decide_eq_true_eq, decide_eq_false_iff_not, ne_eq, reduceCtorEq, false_implies, true_implies, forall_const, Bool.and_self, Bool.and_true, Bool.true_and, lk_ends, lk_blocks, lk_text, lk_spot, lk_letter, Int.toNat_natCast]
    refine ⟨ns, k, rfl, hk8, g1, ?_⟩
    simp only [dComp, iRg1, envOf, dRet, dRetN, dOp, dSl, dSlO, dVar, dC, pSome, pNo, ev_sll, ev_slt, ev_sls, dBi, dCons, dNil, ev_lenl, ev_lent, ev_lens, ev_lenr, ev_gI, TC, Pd.gSub, gLt, gLe, gGt, gGe, gMod, gFdiv, gPow, gEq, gNe, ev_oki, ev_oks, ev_okl, ev_okt, gIs, gIsNot, gIsB, gIsNotB, Pd.isNon, dCall, dSeq, dSet, dSetO, dMul, setL, bCons, bOwn, bNil, dIf, dIte, dTB, dAnd, dOr, dNot, dBV, dAndV, dOrV, dChain, dTmp, dTmpT, frzE, dFrz, OD.d, dIxO, dApp, dSetI, dNeg, dLst, dLstO, dTup, dO, dDrop, ev_abs, ev_inttoi, ev_inttob, ev_inttos, ev_strtoi, ev_listl, ev_listt, ev_lists, ev_tupl, ev_tupt, ev_addi, ev_adds, ev_addl, ev_addt, ev_muli, ev_muls, ev_mull, ev_max, ev_min, ev_all, ev_any, gRepr, dLRg, Pd.r1, Pd.r2, eqD_str, eqD_int, eqD_bl, dFld, dProp, dMeth, dAugI, dRev, dMake, dIsi, isT, isC, dNx, dBrk, dNev, dFst, putFD, gNm, gTp, gsCons, gsNil, dAsg, dStar, dYes, iniEnd, flatD, wipeE, ev_ixl, ev_ixt, ev_ixs, ev_ixr, ev_srcl, ev_srct, ev_srcs, ev_at0, ev_at1, ev_atl, ev_atn, ev_ixn, Option.some.injEq, exists_eq_left', exists_eq_left, List.foldl_cons, List.foldl_nil, List.map_cons, List.map_nil, List.replicate, List.length_append, List.length_map, List.length_cons, List.length_nil, List.cons_append, List.nil_append, List.append_nil, List.getElem?_cons_zero, List.getElem?_cons_succ, List.set_cons_zero, List.set_cons_succ, Nat.zero_add, Nat.reduceAdd, Nat.reduceSub, Nat.reduceLeDiff, true_and, and_true, decide_eq_true_eq, decide_eq_false_iff_not, ne_eq, reduceCtorEq, false_implies, true_implies, forall_const, Bool.and_self, Bool.and_true, Bool.true_and, lk_ends, lk_blocks, lk_text, lk_spot, lk_letter, Int.toNat_natCast]
    refine ⟨by omega, by omega, by rw [rngD_length]; omega, ?_⟩
    refine laps_all (e := .no) (P := fun n1 b => ((!b) = true → Q n1 (D.bl false)) ∧ ((!b) = false → nxt n1 [Sl.val (D.scr ns), Sl.val (D.int k), Sl.val D.pot, s3])) hs (rngD 0 _) 0 n' (by rw [rngD_length, hw]; omega) fun n'' a1 a2 => ?_
    rw [rngD_length, hw] at a2
    exact ⟨fun h => (by cases h), fun _ => ih _ _ ⟨_, _, _, rfl, fun x hx => hk x (List.mem_cons_of_mem _ hx), by omega, by omega⟩⟩
theorem l_law_v13 (c : Str → Addr) {s : FD} {B : Nat} (hs : RightOk s B) (hB : B ≤ 1000000) : ∀ ds n Q, s_law2 ds n Q → dFn 4 1 (b_law_v13 c s_cells s_pot s) ds n Q := l_lawL (lim := 4) (L := 1) hs (by decide) (by decide) (by decide) hB
end LW
namespace LW
open PySem L2 Pd
def plD : D → Bool
  | .non => true
  | .bl _ => true
  | .int _ => true
  | .str _ => true
  | .lst _ => true
  | .tup _ => true
  | .dic _ _ => true
  | _ => false
def intIn (d : D) (lo : Int) (hi : Option Int) : Bool := match d with
  | .int v => decide (lo ≤ v) && (match hi with
    | some h => decide (v ≤ h)
    | none => true)
  | _ => false
def s_intG : FD := fun ds n P => ∃ (d : D) (lo : Int) (hi : Option Int), ds = [d, .int lo, optI hi] ∧ plD d = true ∧ P n (.bl (intIn d lo hi))
end LW
namespace LW
open PySem L2 Pd
mutual
def anD : D → Bool
  | .non => true
  | .bl _ => true
  | .int i => decide (i.natAbs.log2 < 1920)
  | .str t => t.all (· < 1114112)
  | .lst xs => anDs xs
  | .tup xs => anDs xs
  | .obj _ _ => false
  | .pot => false
  | .scr _ => false
  | .ref _ => false
  | .tupK _ => false
  | .tupF _ => false
  | .err _ _ => false
  | .dic ks vs => decide (ks.length = 0) && decide (vs.length = 0)
def anDs : List D → Bool
  | [] => true
  | x :: xs => anD x && anDs xs
end
mutual
def dpD : D → Nat
  | .lst xs => dpDs xs + 1
  | .tup xs => dpDs xs + 1
  | .dic _ _ => 1
  | .tupK xs => dpDs xs + 1
  | _ => 0
def dpDs : List D → Nat
  | [] => 0
  | x :: xs => max (dpD x) (dpDs xs)
end
mutual
theorem an_ok : ∀ d : D, anD d = true → smD d = true ∧ isPx d = true ∧ (toPD d).showable = true ∧ (toPD d).depth ≤ dpD d
  | .non, _ => by rw [smD, isPx, toPD, PyData.showable, PyData.depth]; exact ⟨rfl, rfl, rfl, Nat.zero_le _⟩
  | .bl b, _ => by rw [smD, isPx, toPD, PyData.showable, PyData.depth]; exact ⟨rfl, rfl, rfl, Nat.zero_le _⟩
  | .int i, h => by
    rw [anD] at h
    rw [smD, isPx, toPD, PyData.showable, PyData.depth]
    exact ⟨rfl, rfl, h, Nat.zero_le _⟩
  | .str t, h => by
    rw [anD] at h
    rw [smD, isPx, toPD, PyData.showable, PyData.depth]
    exact ⟨h, h, rfl, Nat.zero_le _⟩
  | .lst xs, h => by
    rw [anD] at h
    obtain ⟨h1, h2, h3, h4⟩ := ans_ok xs h
    rw [smD, isPx, toPD, PyData.showable, PyData.depth, dpD]
    exact ⟨h1, h2, h3, by omega⟩
  | .tup xs, h => by
    rw [anD] at h
    obtain ⟨h1, h2, h3, h4⟩ := ans_ok xs h
    rw [smD, isPx, toPD, PyData.showable, PyData.depth, dpD]
    exact ⟨h1, h2, h3, by omega⟩
  | .dic ks vs, h => by
    rw [anD, Bool.and_eq_true, decide_eq_true_eq, decide_eq_true_eq] at h
    obtain ⟨hk, hv⟩ := h
    have hk := List.length_eq_zero_iff.mp hk
    have hv := List.length_eq_zero_iff.mp hv
    subst hk hv
    refine ⟨rfl, rfl, ?_, ?_⟩
    · decide +kernel
    · decide +kernel
  | .obj _ _, h => by simp [anD] at h
  | .pot, h => by simp [anD] at h
  | .scr _, h => by simp [anD] at h
  | .ref _, h => by simp [anD] at h
  | .tupK _, h => by simp [anD] at h
  | .tupF _, h => by simp [anD] at h
  | .err _ _, h => by simp [anD] at h
theorem ans_ok : ∀ ds : List D, anDs ds = true → smDs ds = true ∧ isPxs ds = true ∧ PyData.showableAll (toPDs ds) = true ∧ PyData.depthAll (toPDs ds) ≤ dpDs ds
  | [], _ => by rw [smDs, isPxs, toPDs, PyData.showableAll, PyData.depthAll]; exact ⟨rfl, rfl, rfl, Nat.zero_le _⟩
  | d :: ds, h => by
    rw [anDs, Bool.and_eq_true] at h
    obtain ⟨h1, h2, h3, h4⟩ := an_ok d h.1
    obtain ⟨g1, g2, g3, g4⟩ := ans_ok ds h.2
    rw [smDs, isPxs, toPDs, PyData.showableAll, PyData.depthAll, dpDs, h1, h2, h3, g1, g2, g3]
    exact ⟨rfl, rfl, rfl, by omega⟩
end
theorem numD_any {i : Int} {k : Nat} (hk : 0 < k) (h : i.natAbs < 10 ^ k) : (numD i).length ≤ k + 1 := by
  have e := int_text_length_le10 hk h
  have e2 : (numD i).length = (toString i : Str).length := by
    unfold numD
    simp [Str.length]
  rw [e2]
  exact Nat.le_trans (Nat.le_of_eq (ofString_length _)) e
theorem log_any {i : Int} (h : i.natAbs < 10 ^ 300) : i.natAbs.log2 < 1920 := by
  by_cases h0 : i.natAbs = 0
  · rw [h0]
    decide
  · rw [Nat.log2_lt h0]
    exact Nat.lt_trans h (by decide)
def Any (B : Nat) (d : D) : Prop := anD d = true ∧ dpD d ≤ 30 ∧ rbD d ≤ B
theorem Any.repr {B : Nat} {d : D} (h : Any B d) (hB : B ≤ 16777216) : okRx d = true ∧ (shownD d).length ≤ 16777216 := by
  obtain ⟨h1, h2, h3⟩ := h
  obtain ⟨g1, g2, g3, g4⟩ := an_ok d h1
  constructor
  · unfold okRx
    rw [g2, g3, decide_eq_true (by omega)]
    rfl
  · unfold shownD
    rw [strlen]
    exact Nat.le_trans (rb_ok d g1) (by omega)
theorem Any.mono {A B : Nat} {d : D} (h : Any A d) (hAB : A ≤ B) : Any B d := ⟨h.1, h.2.1, Nat.le_trans h.2.2 hAB⟩
theorem Any.pl {B : Nat} {d : D} (h : Any B d) : plD d = true := by
  have := h.1
  cases d <;> first | rfl | simp [anD] at this
theorem odd_any : ∀ x ∈ oddL, anD x = true ∧ dpD x ≤ 3 ∧ rbD x ≤ 1000 := by
  have h : (oddL.all fun x => anD x && (decide (dpD x ≤ 3) && decide (rbD x ≤ 1000))) = true := by decide +kernel
  intro x hx
  have := List.all_eq_true.mp h x hx
  simp only [Bool.and_eq_true, decide_eq_true_eq] at this
  exact this
theorem Any.int {i : Int} {B : Nat} (h : i.natAbs.log2 < 1920) (hB : (numD i).length ≤ B) : Any B (.int i) := ⟨by rw [anD]; exact decide_eq_true h, by simp [dpD], by rw [rbD]; exact hB⟩
theorem Any.str {t : List Nat} {B : Nat} (h : ∀ c ∈ t, c < 1114112) (hB : 10 * t.length + 2 ≤ B) : Any B (.str t) := ⟨by rw [anD]; exact List.all_eq_true.mpr fun c hc => decide_eq_true (h c hc), by simp [dpD], by rw [rbD]; exact hB⟩
def V5 (d : D) : Prop := anD d = true ∧ dpD d ≤ 3 ∧ rbD d ≤ 1000
theorem V5.pl {d : D} (h : V5 d) : plD d = true := Any.pl (B := 1000) ⟨h.1, Nat.le_trans h.2.1 (by decide), h.2.2⟩
theorem V5.repr {d : D} (h : V5 d) : okRx d = true ∧ (shownD d).length ≤ 16777216 := Any.repr (B := 1000) ⟨h.1, Nat.le_trans h.2.1 (by decide), h.2.2⟩ (by decide)
theorem V5.odd {x : D} (h : x ∈ oddL) : V5 x := odd_any x h
theorem V5.int {i : Int} (h : i.natAbs < 10 ^ 300) : V5 (.int i) := ⟨by rw [anD]; exact decide_eq_true (log_any h), by simp [dpD], by rw [rbD]; exact Nat.le_trans (numD_any (by decide) h) (by decide)⟩
end LW
namespace LW
open PySem L2 Pd
theorem for_map {α : Type} (f : α → D) {dg : DG} {b : DS} {N : DN} (Inv : List α → List α → Nat → Ev → Prop) (l : List α) {n : Nat} {ε : Ev} (hi : Inv [] l n ε) (h0 : ∀ n ε, Inv l [] n ε → N.nx n ε)
    (hs : ∀ a x r n ε (nxt : Nat → Ev → Prop), l = a ++ x :: r → (∀ n' ε', Inv (a ++ [x]) r n' ε' → nxt n' ε') → Inv a (x :: r) n ε → dg (f x) ε fun ε' => b { N with nx := nxt, ct := nxt, bk := N.nx } n ε') : forW dg b N (l.map f) n ε := by
  refine for_ind (fun ys n' ε' => ∃ a r, l = a ++ r ∧ ys = r.map f ∧ Inv a r n' ε') ⟨[], l, rfl, rfl, hi⟩ ?_ ?_
  · rintro n' ε' ⟨a, r, e1, e2, i⟩
    have : r = [] := List.map_eq_nil_iff.mp e2.symm
    subst this
    rw [List.append_nil] at e1
    rw [← e1] at i
    exact h0 n' ε' i
  · rintro y ys n' ε' nxt ih ⟨a, r, e1, e2, i⟩
    match r, e2 with
    | x :: r, e2 =>
      rw [List.map_cons] at e2
      obtain ⟨rfl, rfl⟩ := List.cons.inj e2
      exact hs a x r n' ε' nxt e1 (fun n2 ε2 i2 => ih n2 ε2 ⟨a ++ [x], r, by rw [e1, List.append_assoc]; rfl, rfl, i2⟩) i
theorem compW_inv {dg : DG} {t : DT} {d : DE} {ε : Ev} {P : Nat → List D → Prop} (Inv : List D → List D → Nat → Prop) (h0 : ∀ acc n, Inv [] acc n → P n acc)
    (hs : ∀ x xs acc n (K : List D → Nat → Prop), (∀ acc' n', Inv xs acc' n' → K acc' n') → Inv (x :: xs) acc n → dg x ε fun ε' => t n ε' fun n1 k => (k = true → d n1 ε' fun n2 y => K (acc ++ [y]) n2) ∧ (k = false → K acc n1)) :
    ∀ (xs acc : List D) (n : Nat), Inv xs acc n → compW dg t d ε P xs acc n
  | [], acc, n, i => h0 acc n i
  | x :: xs, acc, n, i => hs x xs acc n (fun acc' n' => compW dg t d ε P xs acc' n') (fun acc' n' i' => compW_inv Inv h0 hs xs acc' n' i') i
theorem compW_fm {α : Type} {dg : DG} {t : DT} {d : DE} {ε : Ev} {P : Nat → List D → Prop} (f g : α → D) (p : α → Bool) : ∀ (bs : List α) (acc : List D) (n : Nat),
    (∀ b ∈ bs, ∀ (n : Nat) (K : Nat → D → Prop) (K' : Nat → Prop), (p b = true → K n (g b)) → (p b = false → K' n) → dg (f b) ε fun ε' => t n ε' fun n1 k => (k = true → d n1 ε' fun n2 y => K n2 y) ∧ (k = false → K' n1)) →
    P n (acc ++ (bs.filter p).map g) → compW dg t d ε P (bs.map f) acc n
  | [], acc, n, _, q => by
    rw [List.filter_nil, List.map_nil, List.append_nil] at q
    exact q
  | x :: xs, acc, n, h, q => by
    refine h x (by simp) n (fun n2 y => compW dg t d ε P (xs.map f) (acc ++ [y]) n2) (fun n1 => compW dg t d ε P (xs.map f) acc n1) (fun hf => ?_) (fun hf => ?_)
    · refine compW_fm f g p xs _ n (fun y hy => h y (List.mem_cons_of_mem _ hy)) ?_
      rw [List.filter_cons_of_pos hf, List.map_cons] at q
      rw [List.append_assoc]
      exact q
    · refine compW_fm f g p xs _ n (fun y hy => h y (List.mem_cons_of_mem _ hy)) ?_
      rw [List.filter_cons_of_neg (by rw [hf]; decide)] at q
      exact q
end LW
namespace LW
open PySem L2 Pd
def b_Word_text (c : Str → Addr)  : DS := (dRet (dFld (c "Word") "own_text" (dVar 0)))
end LW
namespace LW
open PySem L2 Pd
def goodP (w t : List Nat) (p : Nat) : Prop := p + w.length ≤ t.length ∧ standsAt w t p
instance (w t : List Nat) (p : Nat) : Decidable (goodP w t p) := by unfold goodP; exact inferInstance
def upTo (w t : List Nat) (p : Nat) : List Nat := (List.range p).filter fun q => decide (goodP w t q)
def KnOk (w t : List Nat) (st : PS) : Prop := ∀ j, j < st.kn → w[j]? = t[st.pl + j]?
end LW
namespace LW
open PySem L2 Pd
def momF (d s : D) (t : List Nat) (x : D) : List (Str × D) := [("deed_then", d), ("search_then", s), ("text_then", .str t), ("state_then", x)]
def finF (c : Str → Addr) (bs : List Bl) (past : List D) (later : D) : List (Str × D) := [("own_word", wordD c bs), ("own_letters", .str (expand bs)), ("own_past", .tup past), ("own_later", later), ("own_block", .non)]
theorem put_ne {f g : Str} {v x : D} {r : List (Str × D)} (h : g ≠ f) : putFD f v ((g, x) :: r) = (g, x) :: putFD f v r := by
  show (if g = f then (g, v) :: r else (g, x) :: putFD f v r) = _
  rw [if_neg h]
theorem put_at {f : Str} {v x : D} {r : List (Str × D)} : putFD f v ((f, x) :: r) = (f, v) :: r := by
  show (if f = f then (f, v) :: r else (f, x) :: putFD f v r) = _
  rw [if_pos rfl]
section
variable {a b d e x v : D} {c : Str → Addr} {bs : List Bl} {p : List D} {t : List Nat}
theorem pm1 : putFD "deed_then" a ([] : List (Str × D)) = ([("deed_then", a)] : List (Str × D)) := rfl
theorem pm2 : putFD "search_then" b ([("deed_then", a)] : List (Str × D)) = ([("deed_then", a), ("search_then", b)] : List (Str × D)) := by rw [put_ne (by decide)]; rfl
theorem pm3 : putFD "text_then" d ([("deed_then", a), ("search_then", b)] : List (Str × D)) = ([("deed_then", a), ("search_then", b), ("text_then", d)] : List (Str × D)) := by rw [put_ne (by decide), put_ne (by decide)]; rfl
theorem pm4 : putFD "state_then" e ([("deed_then", a), ("search_then", b), ("text_then", d)] : List (Str × D)) = ([("deed_then", a), ("search_then", b), ("text_then", d), ("state_then", e)] : List (Str × D)) := by rw [put_ne (by decide), put_ne (by decide), put_ne (by decide)]; rfl
theorem pi1 : putFD "own_word" a ([] : List (Str × D)) = ([("own_word", a)] : List (Str × D)) := rfl
theorem pi2 : putFD "own_letters" b ([("own_word", a)] : List (Str × D)) = ([("own_word", a), ("own_letters", b)] : List (Str × D)) := by rw [put_ne (by decide)]; rfl
theorem pi3 : putFD "own_past" d ([("own_word", a), ("own_letters", b)] : List (Str × D)) = ([("own_word", a), ("own_letters", b), ("own_past", d)] : List (Str × D)) := by rw [put_ne (by decide), put_ne (by decide)]; rfl
theorem pi4 : putFD "own_later" e ([("own_word", a), ("own_letters", b), ("own_past", d)] : List (Str × D)) = ([("own_word", a), ("own_letters", b), ("own_past", d), ("own_later", e)] : List (Str × D)) := by rw [put_ne (by decide), put_ne (by decide), put_ne (by decide)]; rfl
theorem pi5 : putFD "own_block" x ([("own_word", a), ("own_letters", b), ("own_past", d), ("own_later", e)] : List (Str × D)) = ([("own_word", a), ("own_letters", b), ("own_past", d), ("own_later", e), ("own_block", x)] : List (Str × D)) := by rw [put_ne (by decide), put_ne (by decide), put_ne (by decide), put_ne (by decide)]; rfl
theorem pf_past {p' : List D} : putFD "own_past" (.tup p') (finF c bs p v) = finF c bs p' v := by
  unfold finF
  rw [put_ne (by decide), put_ne (by decide), put_at]
theorem pf_later : putFD "own_later" a (finF c bs p v) = finF c bs p a := by
  unfold finF
  rw [put_ne (by decide), put_ne (by decide), put_ne (by decide), put_at]
theorem lf_word : List.lookup ("own_word" : Str) (finF c bs p v) = some (wordD c bs : D) := rfl
theorem lf_letters : List.lookup ("own_letters" : Str) (finF c bs p v) = some (.str (expand bs) : D) := rfl
theorem lf_past : List.lookup ("own_past" : Str) (finF c bs p v) = some (.tup p : D) := rfl
theorem lm_search : List.lookup ("search_then" : Str) (momF a b t x) = some (b : D) := rfl
theorem lm_text : List.lookup ("text_then" : Str) (momF a b t x) = some (.str t : D) := rfl
theorem lm_state : List.lookup ("state_then" : Str) (momF a b t x) = some (x : D) := rfl
end
end LW
namespace LW
open PySem L2 Pd
structure RtOk (w t : List Nat) (st : PS) : Prop where
  kn : st.kn < w.length
  en : t.length < st.pl + w.length
  pl : st.pl ≤ t.length
  ln : st.fd.length ≤ st.pl
  up : ∀ v, KnOk w (t ++ v) st ∧ st.fd = upTo w (t ++ v) st.pl
section
variable {w t u : List Nat} {c s : Nat} {kp : Bool}
theorem RtOk.turn {st : PS} (r : RtOk w t st) : RtOk w t ⟨st.pl, 0, st.fd, st.lk⟩ :=
  ⟨by show 0 < _; have := r.kn; omega, r.en, r.pl, r.ln, fun v => ⟨fun j hj => absurd hj (Nat.not_lt_zero _), (r.up v).2⟩⟩
end
end LW
namespace LW
open PySem L2 Pd
def mst (acc : List Bl) (y : Bl) : List Bl := match acc.reverse with
  | [] => [y]
  | d :: r => if d.1 = y.1 then r.reverse ++ [(y.1, d.2 + y.2)] else acc ++ [y]
theorem mst_nil (y : Bl) : mst [] y = [y] := rfl
theorem mst_snoc (as : List Bl) (d y : Bl) : mst (as ++ [d]) y = if d.1 = y.1 then as ++ [(y.1, d.2 + y.2)] else as ++ [d] ++ [y] := by
  unfold mst
  rw [List.reverse_append, List.reverse_singleton, List.singleton_append]
  simp only [List.reverse_reverse]
def mrg (xs : List Bl) : List Bl := xs.foldl mst []
structure Mrg (xs bs : List Bl) : Prop where
  good : Good bs
  exp : expand bs = expand xs
  len : bs.length ≤ xs.length
  mem : ∀ b ∈ bs, ∃ x ∈ xs, x.1 = b.1
theorem mst_ok {xs bs : List Bl} {y : Bl} (h : Mrg xs bs) (hy : 1 ≤ y.2) : Mrg (xs ++ [y]) (mst bs y) := by
  rcases List.eq_nil_or_concat bs with rfl | ⟨as, d, rfl⟩
  · rw [mst_nil]
    refine ⟨⟨trivial, fun b hb => by rw [List.mem_singleton.mp hb]; exact hy⟩, ?_, by simp, fun b hb => ⟨y, by simp, by rw [List.mem_singleton.mp hb]⟩⟩
    rw [expand_append, ← h.exp]
    rfl
  · rw [List.concat_eq_append] at *
    obtain ⟨g, e, l, m⟩ := h
    rw [mst_snoc]
    have m2 : ∀ b ∈ as ++ [d], ∃ x ∈ xs ++ [y], x.1 = b.1 := fun b hb => by
      obtain ⟨x, hx, hx2⟩ := m b hb
      exact ⟨x, List.mem_append_left _ hx, hx2⟩
    by_cases he : d.1 = y.1
    · rw [if_pos he]
      refine ⟨⟨Adj.last g.adj he, fun b hb => ?_⟩, ?_, by rw [List.length_append, List.length_singleton] at *; rw [List.length_append, List.length_singleton]; omega, fun b hb => ?_⟩
      · rcases List.mem_append.mp hb with z | z
        · exact g.pos b (List.mem_append_left _ z)
        · rw [List.mem_singleton.mp z]
          show 1 ≤ d.2 + y.2
          omega
      · rw [expand_append, expand_append, ← e, expand_append, List.append_assoc]
        congr 1
        simp only [expand, List.append_nil]
        rw [he, List.replicate_append_replicate]
      · rcases List.mem_append.mp hb with z | z
        · exact m2 b (List.mem_append_left _ z)
        · rw [List.mem_singleton.mp z]
          exact ⟨y, by simp, rfl⟩
    · rw [if_neg he]
      refine ⟨⟨Adj.snoc g.adj he, fun b hb => ?_⟩, ?_, by rw [List.length_append, List.length_append (as := xs)]; simp only [List.length_singleton]; omega, fun b hb => ?_⟩
      · rcases List.mem_append.mp hb with z | z
        · exact g.pos b z
        · rw [List.mem_singleton.mp z]
          exact hy
      · rw [expand_append, e, expand_append]
      · rcases List.mem_append.mp hb with z | z
        · exact m2 b z
        · rw [List.mem_singleton.mp z]
          exact ⟨y, by simp, rfl⟩
theorem mrg_ok : ∀ {xs : List Bl}, (∀ b ∈ xs, 1 ≤ b.2) → Mrg xs (mrg xs) := by
  have go : ∀ (r xs : List Bl) (bs : List Bl), Mrg xs bs → (∀ b ∈ r, 1 ≤ b.2) → Mrg (xs ++ r) (r.foldl mst bs) := by
    intro r
    induction r with
    | nil => intro xs bs h _; rw [List.append_nil]; exact h
    | cons y r ih =>
      intro xs bs h hr
      rw [List.append_cons, List.foldl_cons]
      exact ih _ _ (mst_ok h (hr y (by simp))) fun b hb => hr b (List.mem_cons_of_mem _ hb)
  intro xs h
  exact go xs [] [] ⟨⟨trivial, fun b hb => by cases hb⟩, rfl, Nat.le_refl _, fun b hb => by cases hb⟩ h
theorem mst_last {bs : List Bl} {y : Bl} {e : Bl} (h : (mst bs y).getLast? = some e) : e.1 = y.1 ∧ (e.2 = y.2 ∨ ∃ d, bs.getLast? = some d ∧ d.1 = y.1 ∧ e.2 = d.2 + y.2) := by
  rcases List.eq_nil_or_concat bs with rfl | ⟨as, d, rfl⟩
  · rw [mst_nil] at h
    simp at h
    subst h
    exact ⟨rfl, .inl rfl⟩
  · rw [List.concat_eq_append] at *
    rw [mst_snoc] at h
    split at h
    · rename_i hd
      simp at h
      subst h
      exact ⟨rfl, .inr ⟨d, by simp, hd, rfl⟩⟩
    · simp at h
      subst h
      exact ⟨rfl, .inl rfl⟩
theorem fold_bound {M K : Nat} : ∀ (r : List Bl) (bs : List Bl), Good r → (∀ b ∈ r, b.2 ≤ M) → (∀ b ∈ bs, b.2 ≤ K + M) → (∀ d, bs.getLast? = some d → d.2 ≤ K ∨ ∀ y, r.head? = some y → d.1 ≠ y.1) →
    ∀ b ∈ r.foldl mst bs, b.2 ≤ K + M
  | [], bs, _, _, h, _ => h
  | y :: r, bs, g, hr, h, hl => by
    rw [List.foldl_cons]
    have hy := hr y (by simp)
    have gr : Good r := ⟨by
      have := g.adj
      cases r with
      | nil => trivial
      | cons x r => exact this.2, fun x hx => g.pos x (List.mem_cons_of_mem _ hx)⟩
    have hb : ∀ b ∈ mst bs y, b.2 ≤ K + M := by
      rcases List.eq_nil_or_concat bs with rfl | ⟨as, d, rfl⟩
      · rw [mst_nil]
        intro b hb
        rw [List.mem_singleton.mp hb]
        omega
      · rw [List.concat_eq_append] at *
        rw [mst_snoc]
        intro b hb
        split at hb
        · rename_i hd
          rcases List.mem_append.mp hb with z | z
          · exact h b (List.mem_append_left _ z)
          · rw [List.mem_singleton.mp z]
            rcases hl d (by simp) with q | q
            · show d.2 + y.2 ≤ _
              omega
            · exact (q y rfl hd).elim
        · rcases List.mem_append.mp hb with z | z
          · exact h b z
          · rw [List.mem_singleton.mp z]
            omega
    refine fold_bound r _ gr (fun b hb => hr b (List.mem_cons_of_mem _ hb)) hb fun d hd => .inr fun x hx => ?_
    rw [(mst_last hd).1]
    cases r with
    | nil => cases hx
    | cons x' r =>
      have : x' = x := by simpa using hx
      rw [← this]
      exact g.adj.1
end LW
namespace LW
open PySem L2 Pd
theorem mrg_good {a : List Bl} (g : Good a) : mrg a = a := good_unique (mrg_ok g.pos).good g (mrg_ok g.pos).exp
theorem mrg_app (a b : List Bl) : mrg (a ++ b) = b.foldl mst (mrg a) := List.foldl_append
theorem pos_app {a b : List Bl} (ha : ∀ x ∈ a, 1 ≤ x.2) (hb : ∀ x ∈ b, 1 ≤ x.2) : ∀ x ∈ a ++ b, 1 ≤ x.2 := fun x hx => (List.mem_append.mp hx).elim (ha x) (hb x)
structure Wds (bs : List Bl) (L M : Nat) : Prop where
  good : Good bs
  len : bs.length ≤ L
  num : ∀ b ∈ bs, b.2 ≤ M
  let_ : ∀ b ∈ bs, b.1 ∈ letters
  ne : bs ≠ []
theorem Wds.mono {bs : List Bl} {L M L' M' : Nat} (w : Wds bs L M) (h1 : L ≤ L') (h2 : M ≤ M') : Wds bs L' M' := ⟨w.good, Nat.le_trans w.len h1, fun b hb => Nat.le_trans (w.num b hb) h2, w.let_, w.ne⟩
theorem exp_pos {bs : List Bl} (g : ∀ b ∈ bs, 1 ≤ b.2) (hne : bs ≠ []) : 0 < (expand bs).length := by
  obtain ⟨b, r, rfl⟩ := List.exists_cons_of_ne_nil hne
  have := g b (by simp)
  rw [expand, List.length_append, List.length_replicate]
  omega
theorem Wds.join {a b : List Bl} {L M L' M' : Nat} (w : Wds a L M) (v : Wds b L' M') : Wds (mrg (a ++ b)) (L + L') (M + M') := by
  have hp := pos_app w.good.pos v.good.pos
  have m := mrg_ok hp
  refine ⟨m.good, ?_, ?_, fun x hx => ?_, fun e => ?_⟩
  · have := m.len
    have := w.len
    have := v.len
    rw [List.length_append] at *
    omega
  · rw [mrg_app, mrg_good w.good]
    exact fold_bound b a v.good v.num (fun x hx => by have := w.num x hx; omega) fun d hd => .inl (w.num d (List.mem_of_getLast? hd))
  · obtain ⟨y, hy, e⟩ := m.mem x hx
    rw [← e]
    exact (List.mem_append.mp hy).elim (w.let_ y) (v.let_ y)
  · have h1 := m.exp
    rw [e, expand_append] at h1
    have h2 := exp_pos w.good.pos w.ne
    have h3 := congrArg List.length h1
    rw [List.length_append] at h3
    simp [expand] at h3
    omega
end LW
namespace LW
open PySem L2 Pd
def s_Word_text (c : Str → Addr) : FD := fun ds n P => ∃ bs : List Bl, ds = [wordD c bs] ∧ P n (.str (txt bs))
theorem l_Word_text (c : Str → Addr) : ∀ ds n Q, s_Word_text c ds n Q → dFn 1 1 (b_Word_text c) ds n Q := by
  rintro ds n Q ⟨bs, rfl, q⟩
  refine ⟨rfl, ?_⟩
  simp only [b_Word_text, wordD, envOf, dRet, dRetN, dOp, dSl, dSlO, dVar, dC, pSome, pNo, ev_sll, ev_slt, ev_sls, dBi, dCons, dNil, ev_lenl, ev_lent, ev_lens, ev_lenr, ev_gI, TC, Pd.gSub, gLt, gLe, gGt, gGe, gMod, gFdiv, gPow, gEq, gNe, ev_oki, ev_oks, ev_okl, ev_okt, gIs, gIsNot, gIsB, gIsNotB, Pd.isNon, dCall, dSeq, dSet, dSetO, dMul, setL, bCons, bOwn, bNil, dIf, dIte, dTB, dAnd, dOr, dNot, dBV, dAndV, dOrV, dChain, dTmp, dTmpT, frzE, dFrz, OD.d, dIxO, dApp, dSetI, dNeg, dLst, dLstO, dTup, dO, dDrop, ev_abs, ev_inttoi, ev_inttob, ev_inttos, ev_strtoi, ev_listl, ev_listt, ev_lists, ev_tupl, ev_tupt, ev_addi, ev_adds, ev_addl, ev_addt, ev_muli, ev_muls, ev_mull, ev_max, ev_min, ev_all, ev_any, gRepr, dLRg, Pd.r1, Pd.r2, eqD_str, eqD_int, eqD_bl, dFld, dProp, dMeth, dAugI, dRev, dMake, dIsi, isT, isC, dNx, dBrk, dNev, dFst, gNm, gTp, gsCons, gsNil, dAsg, dStar, dYes, iniEnd, flatD, wipeE, ev_ixl, ev_ixt, ev_ixs, ev_ixr, ev_srcl, ev_srct, ev_srcs, ev_at0, ev_at1, ev_atl, ev_atn, ev_ixn, Option.some.injEq, exists_eq_left', exists_eq_left, List.foldl_cons, List.foldl_nil, List.map_cons, List.map_nil, List.replicate, List.length_append, List.length_map, List.length_cons, List.length_nil, List.cons_append, List.nil_append, List.append_nil, List.getElem?_cons_zero, List.getElem?_cons_succ, List.set_cons_zero, List.set_cons_succ, Nat.zero_add, Nat.reduceAdd, Nat.reduceSub, Nat.reduceLeDiff, true_and, and_true, decide_eq_true_eq, decide_eq_false_iff_not, ne_eq, reduceCtorEq, false_implies, true_implies, forall_const, Bool.and_self, Bool.and_true, Bool.true_and, lk_ends, lk_blocks, lk_text, lk_spot, lk_letter, Int.toNat_natCast, dFldO, dTmq, dMut, dSetQ, dParQ, qMake, D.still, D.stills, lf_past, lf_word, lf_letters, pf_past, pf_later, pm1, pm2, pm3, pm4, pi1, pi2, pi3, pi4, pi5, lm_state, lm_text, lm_search]
  exact q
def s_Word_eq (c : Str → Addr) : FD := fun ds n P => ∃ a b : List Bl, ds = [wordD c a, wordD c b] ∧ P n (.bl (decide (txt a = txt b)))
end LW
namespace LW
open PySem L2 Pd
def seven : List Nat := [97, 98, 99, 113, 120, 121, 122]
theorem seven_lt {c : Nat} (h : c ∈ seven) : c < 1114112 := (by decide : ∀ c ∈ seven, c < 1114112) c h
def A7 (l : List Nat) : Prop := ∀ c ∈ l, c ∈ seven
theorem A7.sub {a b : List Nat} (h : A7 b) (g : ∀ c ∈ a, c ∈ b) : A7 a := fun c hc => h c (g c hc)
theorem A7.rep {a : List Nat} (h : A7 a) (k : Nat) : A7 (List.replicate k a).flatten := fun c hc => by
  obtain ⟨l, h1, h2⟩ := List.mem_flatten.mp hc
  exact h c (List.eq_of_mem_replicate h1 ▸ h2)
theorem A7.take {a : List Nat} (h : A7 a) (k : Nat) : A7 (a.take k) := h.sub fun c hc => List.mem_of_mem_take hc
theorem A7.drop {a : List Nat} (h : A7 a) (k : Nat) : A7 (a.drop k) := h.sub fun c hc => List.mem_of_mem_drop hc
theorem A7.lt {l : List Nat} (h : A7 l) : ∀ c ∈ l, c < 1114112 := fun c hc => seven_lt (h c hc)
end LW
namespace LW
open PySem L2 Pd
theorem seq_all {A B : DS} {N : DN} {n : Nat} {ε : Ev} (F : Nat → Ev → Prop) (h : ∀ nx : Nat → Ev → Prop, (∀ n ε, F n ε → nx n ε) → A { N with nx := nx } n ε) (k : ∀ n ε, F n ε → B N n ε) : dSeq A B N n ε := h _ k
end LW
namespace LW
open PySem L2 Pd
mutual
def bvD : D → Bool
  | .non => true
  | .bl _ => true
  | .int i => decide (i.natAbs < 10 ^ 300)
  | .str t => t.all (· < 128)
  | .lst xs => bvDs xs
  | .tup xs => bvDs xs
  | .obj _ _ => false
  | .pot => false
  | .scr _ => false
  | .ref _ => false
  | .tupK _ => false
  | .tupF _ => false
  | .err _ _ => false
  | .dic _ _ => false
def bvDs : List D → Bool
  | [] => true
  | x :: xs => bvD x && bvDs xs
end
theorem anDs_iff : ∀ {xs : List D}, anDs xs = true ↔ ∀ x ∈ xs, anD x = true
  | [] => by simp [anDs]
  | x :: xs => by
    rw [anDs, Bool.and_eq_true, anDs_iff (xs := xs)]
    simp
theorem dpDs_iff {k : Nat} : ∀ {xs : List D}, dpDs xs ≤ k ↔ ∀ x ∈ xs, dpD x ≤ k
  | [] => by simp [dpDs]
  | x :: xs => by
    rw [dpDs, Nat.max_le, dpDs_iff (xs := xs)]
    simp
theorem rbDs_mem {x : D} : ∀ {xs : List D}, x ∈ xs → rbD x + 2 ≤ rbDs xs
  | y :: ys, h => by
    rw [rbDs]
    rcases List.mem_cons.mp h with rfl | h
    · omega
    · have := rbDs_mem h
      omega
end LW
namespace LW
open PySem L2 Pd
def b_is_integer_v2 (c : Str → Addr)  : DS := (dSeq (dIf (dOr (dNot (dTB (dIsi (isT "int" [c "Word", c "Grown"]) (dVar 0)))) (dTB (dIsi (isT "bool" [c "Word", c "Grown"]) (dVar 0)))) (dRet (dC (.bl false))) dNx)
    (dRet (dAndV (dTB (dOp gLe (dVar 1) (dVar 0))) (dOrV (dTB (dOp gIs (dVar 2) (dC .non))) (dOp gLe (dVar 0) (dVar 2))))))
def b__law_is_int_v2 (c : Str → Addr)  : DS := (dSeq (dIf (dOr (dNot (dTB (dIsi (isT "int" [c "Word", c "Grown"]) (dVar 0)))) (dTB (dIsi (isT "bool" [c "Word", c "Grown"]) (dVar 0)))) (dRet (dC (.bl false))) dNx)
    (dRet (dAndV (dTB (dOp gLe (dVar 1) (dVar 0))) (dOrV (dTB (dOp gIs (dVar 2) (dC .non))) (dOp gLe (dVar 0) (dVar 2))))))
end LW
namespace LW
open PySem L2 Pd
theorem l_intG2 (c : Str → Addr) : ∀ ds n Q, s_intG ds n Q → dFn 3 3 (b_is_integer_v2 c) ds n Q := by
  rintro ds n Q ⟨d, lo, hi, rfl, hd, q⟩
  refine ⟨rfl, ?_⟩
  cases d with
  | int v =>
    cases hi with
    | none =>
      simp only [b_is_integer_v2, envOf, dRet, dRetN, dOp, dSl, dSlO, dVar, dC, pSome, pNo, ev_sll, ev_slt, ev_sls, dBi, dCons, dNil, ev_lenl, ev_lent, ev_lens, ev_lenr, ev_gI, TC, Pd.gSub, gLt, gLe, gGt, gGe, gMod, gFdiv, gPow, gEq, gNe, ev_oki, ev_oks, ev_okl, ev_okt, gIs, gIsNot, gIsB, gIsNotB, Pd.isNon, dCall, dSeq, dSet, dSetO, dMul, setL, bCons, bOwn, bNil, dIf, dIte, dTB, dAnd, dOr, dNot, dBV, dAndV, dOrV, dChain, dTmp, dTmpT, frzE, dFrz, OD.d, dIxO, dApp, dSetI, dNeg, dLst, dLstO, dTup, dO, dDrop, ev_abs, ev_inttoi, ev_inttob, ev_inttos, ev_strtoi, ev_listl, ev_listt, ev_lists, ev_tupl, ev_tupt, ev_addi, ev_adds, ev_addl, ev_addt, ev_muli, ev_muls, ev_mull, ev_max, ev_min, ev_all, ev_any, gRepr, dLRg, Pd.r1, Pd.r2, eqD_str, eqD_int, eqD_bl, dFld, dProp, dMeth, dAugI, dRev, dMake, dIsi, isT, isC, dNx, dBrk, dNev, dFst, putFD, gNm, gTp, gsCons, gsNil, dAsg, dStar, dYes, iniEnd, flatD, wipeE, ev_ixl, ev_ixt, ev_ixs, ev_ixr, ev_srcl, ev_srct, ev_srcs, ev_at0, ev_at1, ev_atl, ev_atn, ev_ixn, Option.some.injEq, exists_eq_left', exists_eq_left, List.foldl_cons, List.foldl_nil, List.map_cons, List.map_nil, List.replicate, List.length_append, List.length_map, List.length_cons, List.length_nil, List.cons_append, List.nil_append, List.append_nil, List.getElem?_cons_zero, List.getElem?_cons_succ, List.set_cons_zero, List.set_cons_succ, Nat.zero_add, Nat.reduceAdd, Nat.reduceSub, Nat.reduceLeDiff, true_and, and_true, decide_eq_true_eq, decide_eq_false_iff_not, ne_eq, reduceCtorEq, false_implies, true_implies, forall_const, Bool.and_self, Bool.and_true, Bool.true_and, lk_ends, lk_blocks, lk_text, lk_spot, lk_letter, Int.toNat_natCast, optI]
      simp only [intIn, Bool.and_true] at q
      refine ⟨fun h => by simp at h, fun _ => ⟨fun h => by simp at h, fun _ => ⟨fun h => ?_, fun h => ?_⟩⟩⟩
      · rw [decide_eq_true h] at q
        exact q
      · rw [decide_eq_false h] at q
        exact q
    | some hi =>
      simp only [b_is_integer_v2, envOf, dRet, dRetN, dOp, dSl, dSlO, dVar, dC, pSome, pNo, ev_sll, ev_slt, ev_sls, dBi, dCons, dNil, ev_lenl, ev_lent, ev_lens, ev_lenr, ev_gI, TC, Pd.gSub, gLt, gLe, gGt, gGe, gMod, gFdiv, gPow, gEq, gNe, ev_oki, ev_oks, ev_okl, ev_okt, gIs, gIsNot, gIsB, gIsNotB, Pd.isNon, dCall, dSeq, dSet, dSetO, dMul, setL, bCons, bOwn, bNil, dIf, dIte, dTB, dAnd, dOr, dNot, dBV, dAndV, dOrV, dChain, dTmp, dTmpT, frzE, dFrz, OD.d, dIxO, dApp, dSetI, dNeg, dLst, dLstO, dTup, dO, dDrop, ev_abs, ev_inttoi, ev_inttob, ev_inttos, ev_strtoi, ev_listl, ev_listt, ev_lists, ev_tupl, ev_tupt, ev_addi, ev_adds, ev_addl, ev_addt, ev_muli, ev_muls, ev_mull, ev_max, ev_min, ev_all, ev_any, gRepr, dLRg, Pd.r1, Pd.r2, eqD_str, eqD_int, eqD_bl, dFld, dProp, dMeth, dAugI, dRev, dMake, dIsi, isT, isC, dNx, dBrk, dNev, dFst, putFD, gNm, gTp, gsCons, gsNil, dAsg, dStar, dYes, iniEnd, flatD, wipeE, ev_ixl, ev_ixt, ev_ixs, ev_ixr, ev_srcl, ev_srct, ev_srcs, ev_at0, ev_at1, ev_atl, ev_atn, ev_ixn, Option.some.injEq, exists_eq_left', exists_eq_left, List.foldl_cons, List.foldl_nil, List.map_cons, List.map_nil, List.replicate, List.length_append, List.length_map, List.length_cons, List.length_nil, List.cons_append, List.nil_append, List.append_nil, List.getElem?_cons_zero, List.getElem?_cons_succ, List.set_cons_zero, List.set_cons_succ, Nat.zero_add, Nat.reduceAdd, Nat.reduceSub, Nat.reduceLeDiff, true_and, and_true, decide_eq_true_eq, decide_eq_false_iff_not, ne_eq, reduceCtorEq, false_implies, true_implies, forall_const, Bool.and_self, Bool.and_true, Bool.true_and, lk_ends, lk_blocks, lk_text, lk_spot, lk_letter, Int.toNat_natCast, optI]
      simp only [intIn] at q
      refine ⟨fun h => by simp at h, fun _ => ⟨fun h => by simp at h, fun _ => ⟨fun h => ?_, fun h => ?_⟩⟩⟩
      · rw [decide_eq_true h, Bool.true_and] at q
        exact q
      · rw [decide_eq_false h, Bool.false_and] at q
        exact q
  | bl b =>
    simp only [b_is_integer_v2, envOf, dRet, dRetN, dOp, dSl, dSlO, dVar, dC, pSome, pNo, ev_sll, ev_slt, ev_sls, dBi, dCons, dNil, ev_lenl, ev_lent, ev_lens, ev_lenr, ev_gI, TC, Pd.gSub, gLt, gLe, gGt, gGe, gMod, gFdiv, gPow, gEq, gNe, ev_oki, ev_oks, ev_okl, ev_okt, gIs, gIsNot, gIsB, gIsNotB, Pd.isNon, dCall, dSeq, dSet, dSetO, dMul, setL, bCons, bOwn, bNil, dIf, dIte, dTB, dAnd, dOr, dNot, dBV, dAndV, dOrV, dChain, dTmp, dTmpT, frzE, dFrz, OD.d, dIxO, dApp, dSetI, dNeg, dLst, dLstO, dTup, dO, dDrop, ev_abs, ev_inttoi, ev_inttob, ev_inttos, ev_strtoi, ev_listl, ev_listt, ev_lists, ev_tupl, ev_tupt, ev_addi, ev_adds, ev_addl, ev_addt, ev_muli, ev_muls, ev_mull, ev_max, ev_min, ev_all, ev_any, gRepr, dLRg, Pd.r1, Pd.r2, eqD_str, eqD_int, eqD_bl, dFld, dProp, dMeth, dAugI, dRev, dMake, dIsi, isT, isC, dNx, dBrk, dNev, dFst, putFD, gNm, gTp, gsCons, gsNil, dAsg, dStar, dYes, iniEnd, flatD, wipeE, ev_ixl, ev_ixt, ev_ixs, ev_ixr, ev_srcl, ev_srct, ev_srcs, ev_at0, ev_at1, ev_atl, ev_atn, ev_ixn, Option.some.injEq, exists_eq_left', exists_eq_left, List.foldl_cons, List.foldl_nil, List.map_cons, List.map_nil, List.replicate, List.length_append, List.length_map, List.length_cons, List.length_nil, List.cons_append, List.nil_append, List.append_nil, List.getElem?_cons_zero, List.getElem?_cons_succ, List.set_cons_zero, List.set_cons_succ, Nat.zero_add, Nat.reduceAdd, Nat.reduceSub, Nat.reduceLeDiff, true_and, and_true, decide_eq_true_eq, decide_eq_false_iff_not, ne_eq, reduceCtorEq, false_implies, true_implies, forall_const, Bool.and_self, Bool.and_true, Bool.true_and, lk_ends, lk_blocks, lk_text, lk_spot, lk_letter, Int.toNat_natCast]
    exact ⟨fun h => by simp at h, fun _ => ⟨fun _ => q, fun h => by simp at h⟩⟩
  | non => simp only [b_is_integer_v2, envOf, dRet, dRetN, dOp, dSl, dSlO, dVar, dC, pSome, pNo, ev_sll, ev_slt, ev_sls, dBi, dCons, dNil, ev_lenl, ev_lent, ev_lens, ev_lenr, ev_gI, TC, Pd.gSub, gLt, gLe, gGt, gGe, gMod, gFdiv, gPow, gEq, gNe, ev_oki, ev_oks, ev_okl, ev_okt, gIs, gIsNot, gIsB, gIsNotB, Pd.isNon, dCall, dSeq, dSet, dSetO, dMul, setL, bCons, bOwn, bNil, dIf, dIte, dTB, dAnd, dOr, dNot, dBV, dAndV, dOrV, dChain, dTmp, dTmpT, frzE, dFrz, OD.d, dIxO, dApp, dSetI, dNeg, dLst, dLstO, dTup, dO, dDrop, ev_abs, ev_inttoi, ev_inttob, ev_inttos, ev_strtoi, ev_listl, ev_listt, ev_lists, ev_tupl, ev_tupt, ev_addi, ev_adds, ev_addl, ev_addt, ev_muli, ev_muls, ev_mull, ev_max, ev_min, ev_all, ev_any, gRepr, dLRg, Pd.r1, Pd.r2, eqD_str, eqD_int, eqD_bl, dFld, dProp, dMeth, dAugI, dRev, dMake, dIsi, isT, isC, dNx, dBrk, dNev, dFst, putFD, gNm, gTp, gsCons, gsNil, dAsg, dStar, dYes, iniEnd, flatD, wipeE, ev_ixl, ev_ixt, ev_ixs, ev_ixr, ev_srcl, ev_srct, ev_srcs, ev_at0, ev_at1, ev_atl, ev_atn, ev_ixn, Option.some.injEq, exists_eq_left', exists_eq_left, List.foldl_cons, List.foldl_nil, List.map_cons, List.map_nil, List.replicate, List.length_append, List.length_map, List.length_cons, List.length_nil, List.cons_append, List.nil_append, List.append_nil, List.getElem?_cons_zero, List.getElem?_cons_succ, List.set_cons_zero, List.set_cons_succ, Nat.zero_add, Nat.reduceAdd, Nat.reduceSub, Nat.reduceLeDiff, true_and, and_true, decide_eq_true_eq, decide_eq_false_iff_not, ne_eq, reduceCtorEq, false_implies, true_implies, forall_const, Bool.and_self, Bool.and_true, Bool.true_and, lk_ends, lk_blocks, lk_text, lk_spot, lk_letter, Int.toNat_natCast]; exact ⟨fun _ => q, fun h => by simp at h⟩
  | str t => simp only [b_is_integer_v2, envOf, dRet, dRetN, dOp, dSl, dSlO, dVar, dC, pSome, pNo, ev_sll, ev_slt, ev_sls, dBi, dCons, dNil, ev_lenl, ev_lent, ev_lens, ev_lenr, ev_gI, TC, Pd.gSub, gLt, gLe, gGt, gGe, gMod, gFdiv, gPow, gEq, gNe, ev_oki, ev_oks, ev_okl, ev_okt, gIs, gIsNot, gIsB, gIsNotB, Pd.isNon, dCall, dSeq, dSet, dSetO, dMul, setL, bCons, bOwn, bNil, dIf, dIte, dTB, dAnd, dOr, dNot, dBV, dAndV, dOrV, dChain, dTmp, dTmpT, frzE, dFrz, OD.d, dIxO, dApp, dSetI, dNeg, dLst, dLstO, dTup, dO, dDrop, ev_abs, ev_inttoi, ev_inttob, ev_inttos, ev_strtoi, ev_listl, ev_listt, ev_lists, ev_tupl, ev_tupt, ev_addi, ev_adds, ev_addl, ev_addt, ev_muli, ev_muls, ev_mull, ev_max, ev_min, ev_all, ev_any, gRepr, dLRg, Pd.r1, Pd.r2, eqD_str, eqD_int, eqD_bl, dFld, dProp, dMeth, dAugI, dRev, dMake, dIsi, isT, isC, dNx, dBrk, dNev, dFst, putFD, gNm, gTp, gsCons, gsNil, dAsg, dStar, dYes, iniEnd, flatD, wipeE, ev_ixl, ev_ixt, ev_ixs, ev_ixr, ev_srcl, ev_srct, ev_srcs, ev_at0, ev_at1, ev_atl, ev_atn, ev_ixn, Option.some.injEq, exists_eq_left', exists_eq_left, List.foldl_cons, List.foldl_nil, List.map_cons, List.map_nil, List.replicate, List.length_append, List.length_map, List.length_cons, List.length_nil, List.cons_append, List.nil_append, List.append_nil, List.getElem?_cons_zero, List.getElem?_cons_succ, List.set_cons_zero, List.set_cons_succ, Nat.zero_add, Nat.reduceAdd, Nat.reduceSub, Nat.reduceLeDiff, true_and, and_true, decide_eq_true_eq, decide_eq_false_iff_not, ne_eq, reduceCtorEq, false_implies, true_implies, forall_const, Bool.and_self, Bool.and_true, Bool.true_and, lk_ends, lk_blocks, lk_text, lk_spot, lk_letter, Int.toNat_natCast]; exact ⟨fun _ => q, fun h => by simp at h⟩
  | lst t => simp only [b_is_integer_v2, envOf, dRet, dRetN, dOp, dSl, dSlO, dVar, dC, pSome, pNo, ev_sll, ev_slt, ev_sls, dBi, dCons, dNil, ev_lenl, ev_lent, ev_lens, ev_lenr, ev_gI, TC, Pd.gSub, gLt, gLe, gGt, gGe, gMod, gFdiv, gPow, gEq, gNe, ev_oki, ev_oks, ev_okl, ev_okt, gIs, gIsNot, gIsB, gIsNotB, Pd.isNon, dCall, dSeq, dSet, dSetO, dMul, setL, bCons, bOwn, bNil, dIf, dIte, dTB, dAnd, dOr, dNot, dBV, dAndV, dOrV, dChain, dTmp, dTmpT, frzE, dFrz, OD.d, dIxO, dApp, dSetI, dNeg, dLst, dLstO, dTup, dO, dDrop, ev_abs, ev_inttoi, ev_inttob, ev_inttos, ev_strtoi, ev_listl, ev_listt, ev_lists, ev_tupl, ev_tupt, ev_addi, ev_adds, ev_addl, ev_addt, ev_muli, ev_muls, ev_mull, ev_max, ev_min, ev_all, ev_any, gRepr, dLRg, Pd.r1, Pd.r2, eqD_str, eqD_int, eqD_bl, dFld, dProp, dMeth, dAugI, dRev, dMake, dIsi, isT, isC, dNx, dBrk, dNev, dFst, putFD, gNm, gTp, gsCons, gsNil, dAsg, dStar, dYes, iniEnd, flatD, wipeE, ev_ixl, ev_ixt, ev_ixs, ev_ixr, ev_srcl, ev_srct, ev_srcs, ev_at0, ev_at1, ev_atl, ev_atn, ev_ixn, Option.some.injEq, exists_eq_left', exists_eq_left, List.foldl_cons, List.foldl_nil, List.map_cons, List.map_nil, List.replicate, List.length_append, List.length_map, List.length_cons, List.length_nil, List.cons_append, List.nil_append, List.append_nil, List.getElem?_cons_zero, List.getElem?_cons_succ, List.set_cons_zero, List.set_cons_succ, Nat.zero_add, Nat.reduceAdd, Nat.reduceSub, Nat.reduceLeDiff, true_and, and_true, decide_eq_true_eq, decide_eq_false_iff_not, ne_eq, reduceCtorEq, false_implies, true_implies, forall_const, Bool.and_self, Bool.and_true, Bool.true_and, lk_ends, lk_blocks, lk_text, lk_spot, lk_letter, Int.toNat_natCast]; exact ⟨fun _ => q, fun h => by simp at h⟩
  | tup t => simp only [b_is_integer_v2, envOf, dRet, dRetN, dOp, dSl, dSlO, dVar, dC, pSome, pNo, ev_sll, ev_slt, ev_sls, dBi, dCons, dNil, ev_lenl, ev_lent, ev_lens, ev_lenr, ev_gI, TC, Pd.gSub, gLt, gLe, gGt, gGe, gMod, gFdiv, gPow, gEq, gNe, ev_oki, ev_oks, ev_okl, ev_okt, gIs, gIsNot, gIsB, gIsNotB, Pd.isNon, dCall, dSeq, dSet, dSetO, dMul, setL, bCons, bOwn, bNil, dIf, dIte, dTB, dAnd, dOr, dNot, dBV, dAndV, dOrV, dChain, dTmp, dTmpT, frzE, dFrz, OD.d, dIxO, dApp, dSetI, dNeg, dLst, dLstO, dTup, dO, dDrop, ev_abs, ev_inttoi, ev_inttob, ev_inttos, ev_strtoi, ev_listl, ev_listt, ev_lists, ev_tupl, ev_tupt, ev_addi, ev_adds, ev_addl, ev_addt, ev_muli, ev_muls, ev_mull, ev_max, ev_min, ev_all, ev_any, gRepr, dLRg, Pd.r1, Pd.r2, eqD_str, eqD_int, eqD_bl, dFld, dProp, dMeth, dAugI, dRev, dMake, dIsi, isT, isC, dNx, dBrk, dNev, dFst, putFD, gNm, gTp, gsCons, gsNil, dAsg, dStar, dYes, iniEnd, flatD, wipeE, ev_ixl, ev_ixt, ev_ixs, ev_ixr, ev_srcl, ev_srct, ev_srcs, ev_at0, ev_at1, ev_atl, ev_atn, ev_ixn, Option.some.injEq, exists_eq_left', exists_eq_left, List.foldl_cons, List.foldl_nil, List.map_cons, List.map_nil, List.replicate, List.length_append, List.length_map, List.length_cons, List.length_nil, List.cons_append, List.nil_append, List.append_nil, List.getElem?_cons_zero, List.getElem?_cons_succ, List.set_cons_zero, List.set_cons_succ, Nat.zero_add, Nat.reduceAdd, Nat.reduceSub, Nat.reduceLeDiff, true_and, and_true, decide_eq_true_eq, decide_eq_false_iff_not, ne_eq, reduceCtorEq, false_implies, true_implies, forall_const, Bool.and_self, Bool.and_true, Bool.true_and, lk_ends, lk_blocks, lk_text, lk_spot, lk_letter, Int.toNat_natCast]; exact ⟨fun _ => q, fun h => by simp at h⟩
  | dic k v => simp only [b_is_integer_v2, envOf, dRet, dRetN, dOp, dSl, dSlO, dVar, dC, pSome, pNo, ev_sll, ev_slt, ev_sls, dBi, dCons, dNil, ev_lenl, ev_lent, ev_lens, ev_lenr, ev_gI, TC, Pd.gSub, gLt, gLe, gGt, gGe, gMod, gFdiv, gPow, gEq, gNe, ev_oki, ev_oks, ev_okl, ev_okt, gIs, gIsNot, gIsB, gIsNotB, Pd.isNon, dCall, dSeq, dSet, dSetO, dMul, setL, bCons, bOwn, bNil, dIf, dIte, dTB, dAnd, dOr, dNot, dBV, dAndV, dOrV, dChain, dTmp, dTmpT, frzE, dFrz, OD.d, dIxO, dApp, dSetI, dNeg, dLst, dLstO, dTup, dO, dDrop, ev_abs, ev_inttoi, ev_inttob, ev_inttos, ev_strtoi, ev_listl, ev_listt, ev_lists, ev_tupl, ev_tupt, ev_addi, ev_adds, ev_addl, ev_addt, ev_muli, ev_muls, ev_mull, ev_max, ev_min, ev_all, ev_any, gRepr, dLRg, Pd.r1, Pd.r2, eqD_str, eqD_int, eqD_bl, dFld, dProp, dMeth, dAugI, dRev, dMake, dIsi, isT, isC, dNx, dBrk, dNev, dFst, putFD, gNm, gTp, gsCons, gsNil, dAsg, dStar, dYes, iniEnd, flatD, wipeE, ev_ixl, ev_ixt, ev_ixs, ev_ixr, ev_srcl, ev_srct, ev_srcs, ev_at0, ev_at1, ev_atl, ev_atn, ev_ixn, Option.some.injEq, exists_eq_left', exists_eq_left, List.foldl_cons, List.foldl_nil, List.map_cons, List.map_nil, List.replicate, List.length_append, List.length_map, List.length_cons, List.length_nil, List.cons_append, List.nil_append, List.append_nil, List.getElem?_cons_zero, List.getElem?_cons_succ, List.set_cons_zero, List.set_cons_succ, Nat.zero_add, Nat.reduceAdd, Nat.reduceSub, Nat.reduceLeDiff, true_and, and_true, decide_eq_true_eq, decide_eq_false_iff_not, ne_eq, reduceCtorEq, false_implies, true_implies, forall_const, Bool.and_self, Bool.and_true, Bool.true_and, lk_ends, lk_blocks, lk_text, lk_spot, lk_letter, Int.toNat_natCast]; exact ⟨fun _ => q, fun h => by simp at h⟩
  | _ => cases hd
theorem l_lawIntG2 (c : Str → Addr) : ∀ ds n Q, s_intG ds n Q → dFn 3 3 (b__law_is_int_v2 c) ds n Q := by
  rintro ds n Q ⟨d, lo, hi, rfl, hd, q⟩
  refine ⟨rfl, ?_⟩
  cases d with
  | int v =>
    cases hi with
    | none =>
      simp only [b__law_is_int_v2, envOf, dRet, dRetN, dOp, dSl, dSlO, dVar, dC, pSome, pNo, ev_sll, ev_slt, ev_sls, dBi, dCons, dNil, ev_lenl, ev_lent, ev_lens, ev_lenr, ev_gI, TC, Pd.gSub, gLt, gLe, gGt, gGe, gMod, gFdiv, gPow, gEq, gNe, ev_oki, ev_oks, ev_okl, ev_okt, gIs, gIsNot, gIsB, gIsNotB, Pd.isNon, dCall, dSeq, dSet, dSetO, dMul, setL, bCons, bOwn, bNil, dIf, dIte, dTB, dAnd, dOr, dNot, dBV, dAndV, dOrV, dChain, dTmp, dTmpT, frzE, dFrz, OD.d, dIxO, dApp, dSetI, dNeg, dLst, dLstO, dTup, dO, dDrop, ev_abs, ev_inttoi, ev_inttob, ev_inttos, ev_strtoi, ev_listl, ev_listt, ev_lists, ev_tupl, ev_tupt, ev_addi, ev_adds, ev_addl, ev_addt, ev_muli, ev_muls, ev_mull, ev_max, ev_min, ev_all, ev_any, gRepr, dLRg, Pd.r1, Pd.r2, eqD_str, eqD_int, eqD_bl, dFld, dProp, dMeth, dAugI, dRev, dMake, dIsi, isT, isC, dNx, dBrk, dNev, dFst, putFD, gNm, gTp, gsCons, gsNil, dAsg, dStar, dYes, iniEnd, flatD, wipeE, ev_ixl, ev_ixt, ev_ixs, ev_ixr, ev_srcl, ev_srct, ev_srcs, ev_at0, ev_at1, ev_atl, ev_atn, ev_ixn, Option.some.injEq, exists_eq_left', exists_eq_left, List.foldl_cons, List.foldl_nil, List.map_cons, List.map_nil, List.replicate, List.length_append, List.length_map, List.length_cons, List.length_nil, List.cons_append, List.nil_append, List.append_nil, List.getElem?_cons_zero, List.getElem?_cons_succ, List.set_cons_zero, List.set_cons_succ, Nat.zero_add, Nat.reduceAdd, Nat.reduceSub, Nat.reduceLeDiff, true_and, and_true, decide_eq_true_eq, decide_eq_false_iff_not, ne_eq, reduceCtorEq, false_implies, true_implies, forall_const, Bool.and_self, Bool.and_true, Bool.true_and, lk_ends, lk_blocks, lk_text, lk_spot, lk_letter, Int.toNat_natCast, optI]
      simp only [intIn, Bool.and_true] at q
      refine ⟨fun h => by simp at h, fun _ => ⟨fun h => by simp at h, fun _ => ⟨fun h => ?_, fun h => ?_⟩⟩⟩
      · rw [decide_eq_true h] at q
        exact q
      · rw [decide_eq_false h] at q
        exact q
    | some hi =>
      simp only [b__law_is_int_v2, envOf, dRet, dRetN, dOp, dSl, dSlO, dVar, dC, pSome, pNo, ev_sll, ev_slt, ev_sls, dBi, dCons, dNil, ev_lenl, ev_lent, ev_lens, ev_lenr, ev_gI, TC, Pd.gSub, gLt, gLe, gGt, gGe, gMod, gFdiv, gPow, gEq, gNe, ev_oki, ev_oks, ev_okl, ev_okt, gIs, gIsNot, gIsB, gIsNotB, Pd.isNon, dCall, dSeq, dSet, dSetO, dMul, setL, bCons, bOwn, bNil, dIf, dIte, dTB, dAnd, dOr, dNot, dBV, dAndV, dOrV, dChain, dTmp, dTmpT, frzE, dFrz, OD.d, dIxO, dApp, dSetI, dNeg, dLst, dLstO, dTup, dO, dDrop, ev_abs, ev_inttoi, ev_inttob, ev_inttos, ev_strtoi, ev_listl, ev_listt, ev_lists, ev_tupl, ev_tupt, ev_addi, ev_adds, ev_addl, ev_addt, ev_muli, ev_muls, ev_mull, ev_max, ev_min, ev_all, ev_any, gRepr, dLRg, Pd.r1, Pd.r2, eqD_str, eqD_int, eqD_bl, dFld, dProp, dMeth, dAugI, dRev, dMake, dIsi, isT, isC, dNx, dBrk, dNev, dFst, putFD, gNm, gTp, gsCons, gsNil, dAsg, dStar, dYes, iniEnd, flatD, wipeE, ev_ixl, ev_ixt, ev_ixs, ev_ixr, ev_srcl, ev_srct, ev_srcs, ev_at0, ev_at1, ev_atl, ev_atn, ev_ixn, Option.some.injEq, exists_eq_left', exists_eq_left, List.foldl_cons, List.foldl_nil, List.map_cons, List.map_nil, List.replicate, List.length_append, List.length_map, List.length_cons, List.length_nil, List.cons_append, List.nil_append, List.append_nil, List.getElem?_cons_zero, List.getElem?_cons_succ, List.set_cons_zero, List.set_cons_succ, Nat.zero_add, Nat.reduceAdd, Nat.reduceSub, Nat.reduceLeDiff, true_and, and_true, decide_eq_true_eq, decide_eq_false_iff_not, ne_eq, reduceCtorEq, false_implies, true_implies, forall_const, Bool.and_self, Bool.and_true, Bool.true_and, lk_ends, lk_blocks, lk_text, lk_spot, lk_letter, Int.toNat_natCast, optI]
      simp only [intIn] at q
      refine ⟨fun h => by simp at h, fun _ => ⟨fun h => by simp at h, fun _ => ⟨fun h => ?_, fun h => ?_⟩⟩⟩
      · rw [decide_eq_true h, Bool.true_and] at q
        exact q
      · rw [decide_eq_false h, Bool.false_and] at q
        exact q
  | bl b =>
    simp only [b__law_is_int_v2, envOf, dRet, dRetN, dOp, dSl, dSlO, dVar, dC, pSome, pNo, ev_sll, ev_slt, ev_sls, dBi, dCons, dNil, ev_lenl, ev_lent, ev_lens, ev_lenr, ev_gI, TC, Pd.gSub, gLt, gLe, gGt, gGe, gMod, gFdiv, gPow, gEq, gNe, ev_oki, ev_oks, ev_okl, ev_okt, gIs, gIsNot, gIsB, gIsNotB, Pd.isNon, dCall, dSeq, dSet, dSetO, dMul, setL, bCons, bOwn, bNil, dIf, dIte, dTB, dAnd, dOr, dNot, dBV, dAndV, dOrV, dChain, dTmp, dTmpT, frzE, dFrz, OD.d, dIxO, dApp, dSetI, dNeg, dLst, dLstO, dTup, dO, dDrop, ev_abs, ev_inttoi, ev_inttob, ev_inttos, ev_strtoi, ev_listl, ev_listt, ev_lists, ev_tupl, ev_tupt, ev_addi, ev_adds, ev_addl, ev_addt, ev_muli, ev_muls, ev_mull, ev_max, ev_min, ev_all, ev_any, gRepr, dLRg, Pd.r1, Pd.r2, eqD_str, eqD_int, eqD_bl, dFld, dProp, dMeth, dAugI, dRev, dMake, dIsi, isT, isC, dNx, dBrk, dNev, dFst, putFD, gNm, gTp, gsCons, gsNil, dAsg, dStar, dYes, iniEnd, flatD, wipeE, ev_ixl, ev_ixt, ev_ixs, ev_ixr, ev_srcl, ev_srct, ev_srcs, ev_at0, ev_at1, ev_atl, ev_atn, ev_ixn, Option.some.injEq, exists_eq_left', exists_eq_left, List.foldl_cons, List.foldl_nil, List.map_cons, List.map_nil, List.replicate, List.length_append, List.length_map, List.length_cons, List.length_nil, List.cons_append, List.nil_append, List.append_nil, List.getElem?_cons_zero, List.getElem?_cons_succ, List.set_cons_zero, List.set_cons_succ, Nat.zero_add, Nat.reduceAdd, Nat.reduceSub, Nat.reduceLeDiff, true_and, and_true, decide_eq_true_eq, decide_eq_false_iff_not, ne_eq, reduceCtorEq, false_implies, true_implies, forall_const, Bool.and_self, Bool.and_true, Bool.true_and, lk_ends, lk_blocks, lk_text, lk_spot, lk_letter, Int.toNat_natCast]
    exact ⟨fun h => by simp at h, fun _ => ⟨fun _ => q, fun h => by simp at h⟩⟩
  | non => simp only [b__law_is_int_v2, envOf, dRet, dRetN, dOp, dSl, dSlO, dVar, dC, pSome, pNo, ev_sll, ev_slt, ev_sls, dBi, dCons, dNil, ev_lenl, ev_lent, ev_lens, ev_lenr, ev_gI, TC, Pd.gSub, gLt, gLe, gGt, gGe, gMod, gFdiv, gPow, gEq, gNe, ev_oki, ev_oks, ev_okl, ev_okt, gIs, gIsNot, gIsB, gIsNotB, Pd.isNon, dCall, dSeq, dSet, dSetO, dMul, setL, bCons, bOwn, bNil, dIf, dIte, dTB, dAnd, dOr, dNot, dBV, dAndV, dOrV, dChain, dTmp, dTmpT, frzE, dFrz, OD.d, dIxO, dApp, dSetI, dNeg, dLst, dLstO, dTup, dO, dDrop, ev_abs, ev_inttoi, ev_inttob, ev_inttos, ev_strtoi, ev_listl, ev_listt, ev_lists, ev_tupl, ev_tupt, ev_addi, ev_adds, ev_addl, ev_addt, ev_muli, ev_muls, ev_mull, ev_max, ev_min, ev_all, ev_any, gRepr, dLRg, Pd.r1, Pd.r2, eqD_str, eqD_int, eqD_bl, dFld, dProp, dMeth, dAugI, dRev, dMake, dIsi, isT, isC, dNx, dBrk, dNev, dFst, putFD, gNm, gTp, gsCons, gsNil, dAsg, dStar, dYes, iniEnd, flatD, wipeE, ev_ixl, ev_ixt, ev_ixs, ev_ixr, ev_srcl, ev_srct, ev_srcs, ev_at0, ev_at1, ev_atl, ev_atn, ev_ixn, Option.some.injEq, exists_eq_left', exists_eq_left, List.foldl_cons, List.foldl_nil, List.map_cons, List.map_nil, List.replicate, List.length_append, List.length_map, List.length_cons, List.length_nil, List.cons_append, List.nil_append, List.append_nil, List.getElem?_cons_zero, List.getElem?_cons_succ, List.set_cons_zero, List.set_cons_succ, Nat.zero_add, Nat.reduceAdd, Nat.reduceSub, Nat.reduceLeDiff, true_and, and_true, decide_eq_true_eq, decide_eq_false_iff_not, ne_eq, reduceCtorEq, false_implies, true_implies, forall_const, Bool.and_self, Bool.and_true, Bool.true_and, lk_ends, lk_blocks, lk_text, lk_spot, lk_letter, Int.toNat_natCast]; exact ⟨fun _ => q, fun h => by simp at h⟩
  | str t => simp only [b__law_is_int_v2, envOf, dRet, dRetN, dOp, dSl, dSlO, dVar, dC, pSome, pNo, ev_sll, ev_slt, ev_sls, dBi, dCons, dNil, ev_lenl, ev_lent, ev_lens, ev_lenr, ev_gI, TC, Pd.gSub, gLt, gLe, gGt, gGe, gMod, gFdiv, gPow, gEq, gNe, ev_oki, ev_oks, ev_okl, ev_okt, gIs, gIsNot, gIsB, gIsNotB, Pd.isNon, dCall, dSeq, dSet, dSetO, dMul, setL, bCons, bOwn, bNil, dIf, dIte, dTB, dAnd, dOr, dNot, dBV, dAndV, dOrV, dChain, dTmp, dTmpT, frzE, dFrz, OD.d, dIxO, dApp, dSetI, dNeg, dLst, dLstO, dTup, dO, dDrop, ev_abs, ev_inttoi, ev_inttob, ev_inttos, ev_strtoi, ev_listl, ev_listt, ev_lists, ev_tupl, ev_tupt, ev_addi, ev_adds, ev_addl, ev_addt, ev_muli, ev_muls, ev_mull, ev_max, ev_min, ev_all, ev_any, gRepr, dLRg, Pd.r1, Pd.r2, eqD_str, eqD_int, eqD_bl, dFld, dProp, dMeth, dAugI, dRev, dMake, dIsi, isT, isC, dNx, dBrk, dNev, dFst, putFD, gNm, gTp, gsCons, gsNil, dAsg, dStar, dYes, iniEnd, flatD, wipeE, ev_ixl, ev_ixt, ev_ixs, ev_ixr, ev_srcl, ev_srct, ev_srcs, ev_at0, ev_at1, ev_atl, ev_atn, ev_ixn, Option.some.injEq, exists_eq_left', exists_eq_left, List.foldl_cons, List.foldl_nil, List.map_cons, List.map_nil, List.replicate, List.length_append, List.length_map, List.length_cons, List.length_nil, List.cons_append, List.nil_append, List.append_nil, List.getElem?_cons_zero, List.getElem?_cons_succ, List.set_cons_zero, List.set_cons_succ, Nat.zero_add, Nat.reduceAdd, Nat.reduceSub, Nat.reduceLeDiff, true_and, and_true, decide_eq_true_eq, decide_eq_false_iff_not, ne_eq, reduceCtorEq, false_implies, true_implies, forall_const, Bool.and_self, Bool.and_true, Bool.true_and, lk_ends, lk_blocks, lk_text, lk_spot, lk_letter, Int.toNat_natCast]; exact ⟨fun _ => q, fun h => by simp at h⟩
  | lst t => simp only [b__law_is_int_v2, envOf, dRet, dRetN, dOp, dSl, dSlO, dVar, dC, pSome, pNo, ev_sll, ev_slt, ev_sls, dBi, dCons, dNil, ev_lenl, ev_lent, ev_lens, ev_lenr, ev_gI, TC, Pd.gSub, gLt, gLe, gGt, gGe, gMod, gFdiv, gPow, gEq, gNe, ev_oki, ev_oks, ev_okl, ev_okt, gIs, gIsNot, gIsB, gIsNotB, Pd.isNon, dCall, dSeq, dSet, dSetO, dMul, setL, bCons, bOwn, bNil, dIf, dIte, dTB, dAnd, dOr, dNot, dBV, dAndV, dOrV, dChain, dTmp, dTmpT, frzE, dFrz, OD.d, dIxO, dApp, dSetI, dNeg, dLst, dLstO, dTup, dO, dDrop, ev_abs, ev_inttoi, ev_inttob, ev_inttos, ev_strtoi, ev_listl, ev_listt, ev_lists, ev_tupl, ev_tupt, ev_addi, ev_adds, ev_addl, ev_addt, ev_muli, ev_muls, ev_mull, ev_max, ev_min, ev_all, ev_any, gRepr, dLRg, Pd.r1, Pd.r2, eqD_str, eqD_int, eqD_bl, dFld, dProp, dMeth, dAugI, dRev, dMake, dIsi, isT, isC, dNx, dBrk, dNev, dFst, putFD, gNm, gTp, gsCons, gsNil, dAsg, dStar, dYes, iniEnd, flatD, wipeE, ev_ixl, ev_ixt, ev_ixs, ev_ixr, ev_srcl, ev_srct, ev_srcs, ev_at0, ev_at1, ev_atl, ev_atn, ev_ixn, Option.some.injEq, exists_eq_left', exists_eq_left, List.foldl_cons, List.foldl_nil, List.map_cons, List.map_nil, List.replicate, List.length_append, List.length_map, List.length_cons, List.length_nil, List.cons_append, List.nil_append, List.append_nil, List.getElem?_cons_zero, List.getElem?_cons_succ, List.set_cons_zero, List.set_cons_succ, Nat.zero_add, Nat.reduceAdd, Nat.reduceSub, Nat.reduceLeDiff, true_and, and_true, decide_eq_true_eq, decide_eq_false_iff_not, ne_eq, reduceCtorEq, false_implies, true_implies, forall_const, Bool.and_self, Bool.and_true, Bool.true_and, lk_ends, lk_blocks, lk_text, lk_spot, lk_letter, Int.toNat_natCast]; exact ⟨fun _ => q, fun h => by simp at h⟩
  | tup t => simp only [b__law_is_int_v2, envOf, dRet, dRetN, dOp, dSl, dSlO, dVar, dC, pSome, pNo, ev_sll, ev_slt, ev_sls, dBi, dCons, dNil, ev_lenl, ev_lent, ev_lens, ev_lenr, ev_gI, TC, Pd.gSub, gLt, gLe, gGt, gGe, gMod, gFdiv, gPow, gEq, gNe, ev_oki, ev_oks, ev_okl, ev_okt, gIs, gIsNot, gIsB, gIsNotB, Pd.isNon, dCall, dSeq, dSet, dSetO, dMul, setL, bCons, bOwn, bNil, dIf, dIte, dTB, dAnd, dOr, dNot, dBV, dAndV, dOrV, dChain, dTmp, dTmpT, frzE, dFrz, OD.d, dIxO, dApp, dSetI, dNeg, dLst, dLstO, dTup, dO, dDrop, ev_abs, ev_inttoi, ev_inttob, ev_inttos, ev_strtoi, ev_listl, ev_listt, ev_lists, ev_tupl, ev_tupt, ev_addi, ev_adds, ev_addl, ev_addt, ev_muli, ev_muls, ev_mull, ev_max, ev_min, ev_all, ev_any, gRepr, dLRg, Pd.r1, Pd.r2, eqD_str, eqD_int, eqD_bl, dFld, dProp, dMeth, dAugI, dRev, dMake, dIsi, isT, isC, dNx, dBrk, dNev, dFst, putFD, gNm, gTp, gsCons, gsNil, dAsg, dStar, dYes, iniEnd, flatD, wipeE, ev_ixl, ev_ixt, ev_ixs, ev_ixr, ev_srcl, ev_srct, ev_srcs, ev_at0, ev_at1, ev_atl, ev_atn, ev_ixn, Option.some.injEq, exists_eq_left', exists_eq_left, List.foldl_cons, List.foldl_nil, List.map_cons, List.map_nil, List.replicate, List.length_append, List.length_map, List.length_cons, List.length_nil, List.cons_append, List.nil_append, List.append_nil, List.getElem?_cons_zero, List.getElem?_cons_succ, List.set_cons_zero, List.set_cons_succ, Nat.zero_add, Nat.reduceAdd, Nat.reduceSub, Nat.reduceLeDiff, true_and, and_true, decide_eq_true_eq, decide_eq_false_iff_not, ne_eq, reduceCtorEq, false_implies, true_implies, forall_const, Bool.and_self, Bool.and_true, Bool.true_and, lk_ends, lk_blocks, lk_text, lk_spot, lk_letter, Int.toNat_natCast]; exact ⟨fun _ => q, fun h => by simp at h⟩
  | dic k v => simp only [b__law_is_int_v2, envOf, dRet, dRetN, dOp, dSl, dSlO, dVar, dC, pSome, pNo, ev_sll, ev_slt, ev_sls, dBi, dCons, dNil, ev_lenl, ev_lent, ev_lens, ev_lenr, ev_gI, TC, Pd.gSub, gLt, gLe, gGt, gGe, gMod, gFdiv, gPow, gEq, gNe, ev_oki, ev_oks, ev_okl, ev_okt, gIs, gIsNot, gIsB, gIsNotB, Pd.isNon, dCall, dSeq, dSet, dSetO, dMul, setL, bCons, bOwn, bNil, dIf, dIte, dTB, dAnd, dOr, dNot, dBV, dAndV, dOrV, dChain, dTmp, dTmpT, frzE, dFrz, OD.d, dIxO, dApp, dSetI, dNeg, dLst, dLstO, dTup, dO, dDrop, ev_abs, ev_inttoi, ev_inttob, ev_inttos, ev_strtoi, ev_listl, ev_listt, ev_lists, ev_tupl, ev_tupt, ev_addi, ev_adds, ev_addl, ev_addt, ev_muli, ev_muls, ev_mull, ev_max, ev_min, ev_all, ev_any, gRepr, dLRg, Pd.r1, Pd.r2, eqD_str, eqD_int, eqD_bl, dFld, dProp, dMeth, dAugI, dRev, dMake, dIsi, isT, isC, dNx, dBrk, dNev, dFst, putFD, gNm, gTp, gsCons, gsNil, dAsg, dStar, dYes, iniEnd, flatD, wipeE, ev_ixl, ev_ixt, ev_ixs, ev_ixr, ev_srcl, ev_srct, ev_srcs, ev_at0, ev_at1, ev_atl, ev_atn, ev_ixn, Option.some.injEq, exists_eq_left', exists_eq_left, List.foldl_cons, List.foldl_nil, List.map_cons, List.map_nil, List.replicate, List.length_append, List.length_map, List.length_cons, List.length_nil, List.cons_append, List.nil_append, List.append_nil, List.getElem?_cons_zero, List.getElem?_cons_succ, List.set_cons_zero, List.set_cons_succ, Nat.zero_add, Nat.reduceAdd, Nat.reduceSub, Nat.reduceLeDiff, true_and, and_true, decide_eq_true_eq, decide_eq_false_iff_not, ne_eq, reduceCtorEq, false_implies, true_implies, forall_const, Bool.and_self, Bool.and_true, Bool.true_and, lk_ends, lk_blocks, lk_text, lk_spot, lk_letter, Int.toNat_natCast]; exact ⟨fun _ => q, fun h => by simp at h⟩
  | _ => cases hd
end LW
namespace LW
open PySem L2 Pd
def b_Grown___eq___v2 (c : Str → Addr) (s_Grown_text : FD) : DS := (dRet (dAndV (dTB (dIsi (isC (c "Grown") [c "Word"]) (dVar 1))) (dOp gEq (dFld (c "Grown") "own_text" (dVar 0)) (dProp (c "Grown") s_Grown_text (dVar 1)))))
def b_Grown___init__ (c : Str → Addr) (s_blocks_in : FD) : DS := (dSeq (dSet 2 (dIte (dTB (dIsi (isT "str" [c "Word", c "Grown"]) (dVar 1))) (dCall s_blocks_in [] (dCons (dVar 1) dNil)) (dC .non)))
    (dSeq (dIf (dTB (dOp gIs (dVar 2) (dC .non))) dNev dNx)
    (dSeq (dFst (c "Grown") 0 "own_text" (dVar 1))
    (dFst (c "Grown") 0 "own_blocks" (dBi gTuple (dCons (dVar 2) dNil))))))
def b_Grown_at_v2 (c : Str → Addr) (s_is_integer : FD) (i_Word : FI) : DS := (dSeq (dIf (dNot (dTB (dCall s_is_integer [] (dCons (dVar 1) (dCons (dC (.int 1)) (dCons (dC (.int 100000000000000000000)) dNil)))))) dNev dNx)
    (dSeq (dSet 2 (dO (dComp (iVal (dFld (c "Grown") "own_blocks" (dVar 0))) (gTp 3 (gsCons (gNm 3) (gsCons (gNm 4) (gsCons (gNm 5) gsNil)))) dYes (dTup (dCons (dVar 3) (dCons (dOp gAdd (dVar 4) (dOp gMul (dVar 5) (dVar 1))) dNil))) [3, 4, 5])))
    (dRet (dMake (c "Word") i_Word [] (dCons (dJoin (dC (.str [])) (dO (dComp (iVal (dVar 2)) (gTp 2 (gsCons (gNm 3) (gsCons (gNm 6) gsNil))) dYes (dOp gAdd (dVar 3) (dIte (dTB (dOp gEq (dVar 6) (dC (.int 1)))) (dC (.str [])) (dBi gStr (dCons (dVar 6) dNil)))) [3, 6]))) dNil)))))
def b_Grown_at_x_v2 (c : Str → Addr) (s_is_integer : FD) (i_Word : FI) : DS := (dSeq (dIf (dNot (dTB (dCall s_is_integer [] (dCons (dVar 1) (dCons (dC (.int 1)) (dCons (dC (.int 100000000000000000000)) dNil)))))) (dRaise (c "BadNumber") (dCons (dVar 1) dNil)) dNx)
    (dSeq (dSet 2 (dO (dComp (iVal (dFld (c "Grown") "own_blocks" (dVar 0))) (gTp 3 (gsCons (gNm 3) (gsCons (gNm 4) (gsCons (gNm 5) gsNil)))) dYes (dTup (dCons (dVar 3) (dCons (dOp gAdd (dVar 4) (dOp gMul (dVar 5) (dVar 1))) dNil))) [3, 4, 5])))
    (dRet (dMake (c "Word") i_Word [] (dCons (dJoin (dC (.str [])) (dO (dComp (iVal (dVar 2)) (gTp 2 (gsCons (gNm 3) (gsCons (gNm 6) gsNil))) dYes (dOp gAdd (dVar 3) (dIte (dTB (dOp gEq (dVar 6) (dC (.int 1)))) (dC (.str [])) (dBi gStr (dCons (dVar 6) dNil)))) [3, 6]))) dNil)))))
def b_Grown_blocks_v2 (c : Str → Addr)  : DS := (dRet (dFld (c "Grown") "own_blocks" (dVar 0)))
def b_Grown_text_v2 (c : Str → Addr)  : DS := (dRet (dFld (c "Grown") "own_text" (dVar 0)))
def b_Word___eq___v2 (c : Str → Addr) (s_Word_text : FD) : DS := (dRet (dAndV (dTB (dIsi (isC (c "Word") [c "Grown"]) (dVar 1))) (dOp gEq (dFld (c "Word") "own_text" (dVar 0)) (dProp (c "Word") s_Word_text (dVar 1)))))
def b__law_form_text (c : Str → Addr)  : DS := (dSeq (dAsg (dVar 0) (gTp 2 (gsCons (gNm 1) (gsCons (gNm 2) gsNil))))
    (dSeq (dIf (dTB (dOp gEq (dVar 2) (dC (.int 0)))) (dRet (dIte (dTB (dOp gGt (dVar 1) (dC (.int 1)))) (dBi gStr (dCons (dVar 1) dNil)) (dC (.str [])))) dNx)
    (dRet (dOp gAdd (dOp gAdd (dIte (dTB (dOp gGt (dVar 2) (dC (.int 1)))) (dBi gStr (dCons (dVar 2) dNil)) (dC (.str []))) (dC (.str [78]))) (dIte (dTB (dOp gGt (dVar 1) (dC (.int 0)))) (dOp gAdd (dC (.str [43])) (dBi gStr (dCons (dVar 1) dNil))) (dC (.str [])))))))
def b__law_grown_at (c : Str → Addr) (s__law_block_text : FD) : DS := (dRet (dCall s__law_block_text [] (dCons (dO (dComp (iVal (dVar 0)) (gTp 3 (gsCons (gNm 2) (gsCons (gNm 3) (gsCons (gNm 4) gsNil)))) dYes (dTup (dCons (dVar 2) (dCons (dOp gAdd (dVar 3) (dOp gMul (dVar 4) (dVar 1))) dNil))) [2, 3, 4])) dNil)))
def b__law_grown_blocks (c : Str → Addr) (s__law_take : FD) (s__law_of : FD) : DS := (dSeq (dMul [4, 5, 6] (bCons (dOp gAdd (dVar 1) (dCall s__law_take [] (dCons (dVar 0) (dCons (dOp gAdd (dOp gSub (dVar 2) (dVar 1)) (dC (.int 1))) dNil)))) (bOwn (dLstO dNil) (bCons (dCall s__law_of [] (dCons (dVar 0) (dCons (dLst (dCons (dC (.str [97, 98, 99])) (dCons (dC (.str [97, 98, 99])) (dCons (dC (.str [97, 98, 99, 120, 121])) dNil)))) dNil))) bNil))))
    (dSeq (dFor (iRg1 (dVar 4)) (gNm 7) (dSeq (dSet 8 (dCall s__law_of [] (dCons (dVar 0) (dCons (dO (dComp (iVal (dVar 6)) (gNm 12) (dOr (dTmpT 5 (dTB (dOp gEq (dVar 5) (dLst dNil)))) (dTB (dOp gNe (dVar 12) (dOp gIx (dIxO 5 (dNeg (dC (.int 1)))) (dC (.int 0)))))) (dVar 12) [12])) dNil))))
    (dSeq (dMul [9, 10] (bCons (dCall s__law_of [] (dCons (dVar 0) (dCons (dLst (dCons (dC (.int 0)) (dCons (dC (.int 1)) (dCons (dC (.int 1)) (dCons (dC (.int 2)) (dCons (dOp gAdd (dC (.int 1)) (dCall s__law_take [] (dCons (dVar 0) (dCons (dVar 3) dNil)))) dNil)))))) dNil))) (bCons (dCall s__law_of [] (dCons (dVar 0) (dCons (dLst (dCons (dC (.int 0)) (dCons (dC (.int 1)) (dCons (dC (.int 1)) (dCons (dC (.int 2)) (dCons (dOp gAdd (dC (.int 1)) (dCall s__law_take [] (dCons (dVar 0) (dCons (dC (.int 9)) dNil)))) dNil)))))) dNil))) bNil)))
    (dApp 5 (dTup (dCons (dVar 8) (dCons (dBi gMax (dCons (dVar 9) (dCons (dBi gInt (dCons (dOp gEq (dVar 10) (dC (.int 0))) dNil)) dNil))) (dCons (dVar 10) dNil))))))))
    (dSeq (dSet 11 (dCall s__law_take [] (dCons (dVar 0) (dCons (dVar 4) dNil))))
    (dSeq (dIf (dTB (dTmp 5 (dBi gAll (dCons (dO (dComp (iVal (dVar 5)) (gTp 3 (gsCons (gNm 8) (gsCons (gNm 9) (gsCons (gNm 10) gsNil)))) dYes (dOp gEq (dVar 10) (dC (.int 0))) [8, 9, 10])) dNil)))) (dSetI 5 (dVar 11) (dTup (dCons (dOp gIx (dIxO 5 (dVar 11)) (dC (.int 0))) (dCons (dOp gIx (dIxO 5 (dVar 11)) (dC (.int 1))) (dCons (dC (.int 1)) dNil))))) dNx)
    (dFrz [5] (dRet (dVar 5)))))))
def b__law_grown_text (c : Str → Addr) (s__law_form_text : FD) : DS := (dRet (dJoin (dC (.str [])) (dO (dComp (iVal (dVar 0)) (gTp 3 (gsCons (gNm 1) (gsCons (gNm 2) (gsCons (gNm 3) gsNil)))) dYes (dOp gAdd (dVar 1) (dCall s__law_form_text [] (dCons (dTup (dCons (dVar 2) (dCons (dVar 3) dNil))) dNil))) [1, 2, 3]))))
def b__law_is_at_right_v4 (c : Str → Addr) (s_Grown_at_x : FDX) (s__law_is_int : FD) (s__law_grown_at : FD) (i_Word : FI) (s_Word___eq__ : FD) (s_Word_text : FD) : DS := (dSeq (dAsg (dHear [c "BadNumber"] (dMethR (c "Grown") "at" s_Grown_at_x [] (dVar 0) (dCons (dVar 2) dNil))) (gTp 2 (gsCons (gNm 3) (gsCons (gNm 4) gsNil))))
    (dSeq (dIf (dNot (dTB (dCall s__law_is_int [] (dCons (dVar 2) (dCons (dC (.int 1)) (dCons (dOp gPow (dC (.int 10)) (dC (.int 20))) dNil)))))) (dRet (dAndV (dTB (dIsi (isE [c "BadNumber"] []) (dVar 3))) (dOp gEq (dBi gReprX (dCons (dVal [c "BadNumber"] (dVar 3)) dNil)) (dBi gReprX (dCons (dVar 2) dNil))))) dNx)
    (dSeq (dSet 5 (dCall s__law_grown_at [] (dCons (dVar 1) (dCons (dVar 2) dNil))))
    (dRet (dAndV (dTB (dOp gIs (dVar 3) (dC .non))) (dAndV (dTB (dOp (gOwn (c "Word") false s_Word___eq__) (dVar 4) (dMake (c "Word") i_Word [] (dCons (dVar 5) dNil)))) (dOp gEq (dProp (c "Word") s_Word_text (dVar 4)) (dVar 5))))))))
def b__law_right_v123 (c : Str → Addr) (s__law_of : FD) (s__law_grown_blocks : FD) (s__law_grown_text : FD) (i_Grown : FI) (s_Grown_text : FD) (s_Grown_blocks : FD) (s__law_take : FD) (s__law_odd : FD) (s__law_is_at_right : FD) (s_Grown_at : FD) (s_Grown___eq__ : FD) : DS := (dSeq (dSet 1 (dO (dComp (iRg1 (dC (.int 4))) (gNm 10) dYes (dCall s__law_grown_blocks [] (dCons (dVar 0) (dCons (dC (.int 2)) (dCons (dCall s__law_of [] (dCons (dVar 0) (dCons (dLst (dCons (dC (.int 3)) (dCons (dC (.int 6)) (dCons (dC (.int 10)) dNil)))) dNil))) (dCons (dC (.int 99)) dNil))))) [10])))
    (dSeq (dSet 3 (dO (dComp (iVal (dVar 1)) (gNm 2) dYes (dMake (c "Grown") i_Grown [] (dCons (dCall s__law_grown_text [] (dCons (dVar 2) dNil)) dNil)) [2])))
    (dSeq (dFor (iZp (dVar 1) (dVar 3)) (gTp 2 (gsCons (gNm 2) (gsCons (gNm 4) gsNil))) (dSeq (dIf (dOr (dTB (dOp gNe (dProp (c "Grown") s_Grown_text (dVar 4)) (dCall s__law_grown_text [] (dCons (dVar 2) dNil)))) (dTB (dOp gNe (dProp (c "Grown") s_Grown_blocks (dVar 4)) (dBi gTuple (dCons (dVar 2) dNil))))) (dRet (dC (.bl false))) dNx)
    (dSeq (dSet 5 (dLst (dCons (dC (.int 1)) (dCons (dC (.int 2)) (dCons (dOp gPow (dC (.int 10)) (dC (.int 20))) (dCons (dOp gAdd (dOp gPow (dC (.int 10)) (dC (.int 20))) (dC (.int 1))) (dCons (dC (.int 0)) (dCons (dNeg (dC (.int 1))) (dCons (dC (.bl true)) (dCons (dC .non) (dCons (dC (.str [49])) (dCons (dTup (dCons (dC (.int 1)) dNil)) (dCons (dOp gAdd (dC (.int 1)) (dCall s__law_take [] (dCons (dVar 0) (dCons (dC (.int 1000)) dNil)))) (dCons (dCall s__law_odd [] (dCons (dVar 0) dNil)) dNil))))))))))))))
    (dSeq (dIf (dNot (dTB (dBi gAll (dCons (dO (dComp (iVal (dVar 5)) (gNm 11) dYes (dCall s__law_is_at_right [] (dCons (dVar 4) (dCons (dVar 2) (dCons (dVar 11) dNil)))) [11])) dNil)))) (dRet (dC (.bl false))) dNx)
    (dIf (dTB (dBi gAny (dCons (dO (dComp (iVal (dTup (dCons (dC .non) (dCons (dProp (c "Grown") s_Grown_text (dVar 4)) (dCons (dProp (c "Grown") s_Grown_blocks (dVar 4)) (dCons (dMeth (c "Grown") "at" s_Grown_at [] (dVar 4) (dCons (dC (.int 1)) dNil)) (dCons (dC (.int 0)) (dCons (dCall s__law_odd [] (dCons (dVar 0) dNil)) dNil)))))))) (gNm 12) dYes (dOp (gOwnA (c "Grown") (isC (c "Grown") [c "Word"]) s_Grown___eq__) (dVar 4) (dVar 12)) [12])) dNil))) (dRet (dC (.bl false))) dNx)))))
    (dSeq (dFor (iZp (dVar 1) (dVar 3)) (gTp 2 (gsCons (gNm 6) (gsCons (gNm 7) gsNil))) (dFor (iZp (dVar 1) (dVar 3)) (gTp 2 (gsCons (gNm 8) (gsCons (gNm 9) gsNil))) (dIf (dOr (dTB (dOp gNe (dOp (gOwn (c "Grown") false s_Grown___eq__) (dVar 7) (dVar 9)) (dOp gEq (dVar 6) (dVar 8)))) (dTB (dOp gNe (dOp (gOwn (c "Grown") true s_Grown___eq__) (dVar 7) (dVar 9)) (dOp gNe (dVar 6) (dVar 8))))) (dRet (dC (.bl false))) dNx)))
    (dRet (dOp (gOwn (c "Grown") false s_Grown___eq__) (dOp gIx (dVar 3) (dC (.int 0))) (dMake (c "Grown") i_Grown [] (dCons (dCall s__law_grown_text [] (dCons (dOp gIx (dVar 1) (dC (.int 0))) dNil)) dNil))))))))
def b_blocks_in (c : Str → Addr) (s_form_in : FD) : DS := (dSeq (dMul [2, 3] (bOwn (dLstO dNil) (bCons (dO (dComp (iEnm (dVar 0)) (gTp 2 (gsCons (gNm 1) (gsCons (gNm 6) gsNil))) (dTB (dOp gIn (dVar 6) (dC (.str [97, 98, 99, 100, 101, 102, 103, 104, 105, 106, 107, 108, 109, 110, 111, 112, 113, 114, 115, 116, 117, 118, 119, 120, 121, 122])))) (dVar 1) [1, 6])) bNil)))
    (dSeq (dIf (dOr (dNot (dTB (dChain gLe gLe (dC (.int 2)) (dBi gLen (dCons (dVar 3) dNil)) (dC (.int 10))))) (dTB (dOp gNe (dOp gIx (dVar 3) (dC (.int 0))) (dC (.int 0))))) (dRet (dC .non)) dNx)
    (dSeq (dFor (iZp (dVar 3) (dLst (dStar (dSl (dVar 3) (pSome (dC (.int 1))) pNo) (dCons (dBi gLen (dCons (dVar 0) dNil)) dNil)))) (gTp 2 (gsCons (gNm 1) (gsCons (gNm 4) gsNil))) (dSeq (dSet 5 (dCall s_form_in [] (dCons (dSl (dVar 0) (pSome (dOp gAdd (dVar 1) (dC (.int 1)))) (pSome (dVar 4))) dNil)))
    (dSeq (dIf (dOr (dTB (dOp gIs (dVar 5) (dC .non))) (dAnd (dTmpT 2 (dTB (dOp gNe (dVar 2) (dLst dNil)))) (dTB (dOp gEq (dOp gIx (dIxO 2 (dNeg (dC (.int 1)))) (dC (.int 0))) (dOp gIx (dVar 0) (dVar 1)))))) (dRet (dC .non)) dNx)
    (dApp 2 (dTup (dCons (dOp gIx (dVar 0) (dVar 1)) (dStar (dVar 5) dNil)))))))
    (dFrz [2] (dRet (dIte (dTB (dBi gAny (dCons (dO (dComp (iVal (dVar 2)) (gNm 7) dYes (dOp gGt (dOp gIx (dVar 7) (dNeg (dC (.int 1)))) (dC (.int 0))) [7])) dNil))) (dVar 2) (dC .non)))))))
def b_blocks_told_v2 (c : Str → Addr) (s_is_said : FD) (s_pieces_of : FD) (s_block_in : FD) : DS := (dSeq (dIf (dOr (dNot (dTB (dIsi (isT "str" [c "Word", c "Grown"]) (dVar 0)))) (dNot (dTB (dCall s_is_said [] (dCons (dSl (dVar 0) pNo (pSome (dC (.int 1)))) (dCons (dBi gList (dCons (dC (.str [97, 98, 99, 100, 101, 102, 103, 104, 105, 106, 107, 108, 109, 110, 111, 112, 113, 114, 115, 116, 117, 118, 119, 120, 121, 122])) dNil)) dNil)))))) (dRet (dC .non)) dNx)
    (dSeq (dSet 1 (dBi gTuple (dCons (dO (dComp (iVal (dCall s_pieces_of [] (dCons (dVar 0) dNil))) (gNm 2) dYes (dCall s_block_in [] (dCons (dVar 2) dNil)) [2])) dNil)))
    (dSeq (dIf (dOr (dTB (dOp gGt (dBi gLen (dCons (dVar 1) dNil)) (dC (.int 40)))) (dTB (dOp gIn (dC .non) (dVar 1)))) (dRet (dC .non)) dNx)
    (dRet (dIte (dTB (dBi gAll (dCons (dO (dComp (iZp (dVar 1) (dSl (dVar 1) (pSome (dC (.int 1))) pNo)) (gTp 2 (gsCons (gNm 3) (gsCons (gNm 4) gsNil))) dYes (dOp gNe (dOp gIx (dVar 3) (dC (.int 0))) (dOp gIx (dVar 4) (dC (.int 0)))) [3, 4])) dNil))) (dVar 1) (dC .non))))))
def b_form_in (c : Str → Addr) (s_number_in : FD) : DS := (dSeq (dIf (dTB (dOp gEq (dVar 0) (dC (.str [])))) (dRet (dTup (dCons (dC (.int 1)) (dCons (dC (.int 0)) dNil)))) dNx)
    (dSeq (dIf (dTB (dOp gNotIn (dC (.str [78])) (dVar 0))) (dSeq (dSet 1 (dCall s_number_in [] (dCons (dVar 0) (dCons (dC (.int 2)) (dCons (dC (.int 99)) dNil)))))
    (dRet (dIte (dTB (dOp gIs (dVar 1) (dC .non))) (dC .non) (dTup (dCons (dVar 1) (dCons (dC (.int 0)) dNil)))))) dNx)
    (dSeq (dAsg (dSpl (dVar 0) (dC (.str [78]))) (gTp 2 (gsCons (gNm 2) (gsCons (gNm 3) gsNil))))
    (dSeq (dSet 4 (dIte (dTB (dOp gEq (dVar 2) (dC (.str [])))) (dC (.int 1)) (dCall s_number_in [] (dCons (dVar 2) (dCons (dC (.int 2)) (dCons (dC (.int 9)) dNil))))))
    (dSeq (dSet 5 (dIte (dTB (dOp gEq (dVar 3) (dC (.str [])))) (dC (.int 0)) (dCall s_number_in [] (dCons (dSl (dVar 3) (pSome (dC (.int 1))) pNo) (dCons (dC (.int 1)) (dCons (dC (.int 99)) dNil))))))
    (dSeq (dIf (dOr (dTB (dOp gIs (dVar 4) (dC .non))) (dOr (dTB (dOp gIs (dVar 5) (dC .non))) (dAnd (dTB (dOp gNe (dVar 3) (dC (.str [])))) (dTB (dOp gNe (dOp gIx (dVar 3) (dC (.int 0))) (dC (.str [43]))))))) (dRet (dC .non)) dNx)
    (dRet (dTup (dCons (dVar 5) (dCons (dVar 4) dNil))))))))))
def b_number_in (c : Str → Addr) (s_whole_in : FD) : DS := (dSeq (dSet 3 (dCall s_whole_in [] (dCons (dVar 0) dNil)))
    (dRet (dIte (dAnd (dTB (dOp gIsNot (dVar 3) (dC .non))) (dTB (dChain gLe gLe (dVar 1) (dVar 3) (dVar 2)))) (dVar 3) (dC .non))))
end LW
namespace LW
open PySem L2 Pd
def plS (v : D) : Prop := plD v = true ∧ ∀ xs, v = .tup xs → xs.length ≤ 1000000 ∧ ∀ x ∈ xs, plD x = true
def A51 (v : D) : Prop := anD v = true ∧ dpD v ≤ 10 ∧ rbD v ≤ 5000
theorem rb_len : ∀ xs : List D, 2 * xs.length ≤ rbDs xs
  | [] => by simp [rbDs]
  | x :: xs => by
    have := rb_len xs
    rw [List.length_cons, rbDs]
    omega
theorem A51.pl {v : D} (h : A51 v) : plS v := by
  refine ⟨Any.pl (B := 5000) ⟨h.1, Nat.le_trans h.2.1 (by decide), h.2.2⟩, fun xs e => ?_⟩
  subst e
  obtain ⟨h1, h2, h3⟩ := h
  rw [rbD] at h3
  have := rb_len xs
  rw [anD] at h1
  refine ⟨by omega, fun x hx => Any.pl (B := 5000) ⟨anDs_iff.mp h1 x hx, ?_, ?_⟩⟩
  · rw [dpD] at h2
    have := dpDs_iff.mp (Nat.le_refl (dpDs xs)) x hx
    omega
  · have := rbDs_mem hx
    omega
theorem A51.repr {v : D} (h : A51 v) : okRx v = true ∧ (shownD v).length ≤ 16777216 := Any.repr (B := 5000) ⟨h.1, Nat.le_trans h.2.1 (by decide), h.2.2⟩ (by decide)
def F51 (x : D) : Prop := anD x = true ∧ dpD x ≤ 1 ∧ rbD x ≤ 30
theorem F51.A {x : D} (h : F51 x) : A51 x := ⟨h.1, Nat.le_trans h.2.1 (by decide), Nat.le_trans h.2.2 (by decide)⟩
end LW
namespace LW
open PySem L2 Pd
theorem A51.mem {xs : List D} {x : D} (h : A51 (.tup xs)) (hx : x ∈ xs) : A51 x := by
  obtain ⟨h1, h2, h3⟩ := h
  rw [anD] at h1
  rw [dpD] at h2
  rw [rbD] at h3
  have := rbDs_mem hx
  have := dpDs_iff.mp (Nat.le_refl (dpDs xs)) x hx
  exact ⟨anDs_iff.mp h1 x hx, by omega, by omega⟩
theorem A51.len {xs : List D} (h : A51 (.tup xs)) : xs.length ≤ 5000 := by
  obtain ⟨h1, h2, h3⟩ := h
  rw [rbD] at h3
  have := rb_len xs
  omega
end LW
namespace LW
open PySem L2 Pd
def SV (x : D) : Prop := anD x = true ∧ dpD x ≤ 4 ∧ rbD x ≤ 100
theorem SV.A {x : D} (h : SV x) : A51 x := ⟨h.1, Nat.le_trans h.2.1 (by decide), Nat.le_trans h.2.2 (by decide)⟩
theorem SV_rb : ∀ {xs : List D}, (∀ x ∈ xs, SV x) → anDs xs = true ∧ dpDs xs ≤ 4 ∧ rbDs xs ≤ 102 * xs.length
  | [], _ => by simp [anDs, dpDs, rbDs]
  | x :: xs, h => by
    obtain ⟨h1, h2, h3⟩ := h x (by simp)
    obtain ⟨g1, g2, g3⟩ := SV_rb (xs := xs) fun y hy => h y (List.mem_cons_of_mem _ hy)
    rw [anDs, dpDs, rbDs, List.length_cons, h1, g1]
    exact ⟨rfl, by omega, by omega⟩
theorem SV_tup {xs : List D} (h : ∀ x ∈ xs, SV x) (hl : xs.length ≤ 40) : A51 (.tup xs) := by
  obtain ⟨g1, g2, g3⟩ := SV_rb h
  exact ⟨by rw [anD]; exact g1, by rw [dpD]; omega, by rw [rbD]; omega⟩
theorem SV.int {i : Int} (h : i.natAbs < 10 ^ 60) : SV (.int i) := ⟨by rw [anD]; exact decide_eq_true (log_any (Nat.lt_trans h (by decide))), by simp [dpD], by rw [rbD]; exact Nat.le_trans (numD_any (by decide) h) (by decide)⟩
def ToldA (d : D) : Prop := ∃ xs : List D, d = .tup xs ∧ 1 ≤ xs.length ∧ xs.length ≤ 2 ∧ (∀ x ∈ xs, SV x) ∧ bvD (.tup xs) = true
theorem ToldA.A {d : D} (h : ToldA d) : A51 d := by
  obtain ⟨xs, rfl, h1, h2, h3, h4⟩ := h
  exact SV_tup h3 (by omega)
end LW
namespace LW
open PySem L2 Pd NumText
def dg (c : Nat) : Prop := 48 ≤ c ∧ c ≤ 57
def Blk (bs : List Bl) : Prop := ∀ b ∈ bs, 1 ≤ b.2 ∧ b.2 < 10 ^ 30 ∧ b.1 ∈ letters
theorem Told.blk {bs : List Bl} (T : Told bs) : Blk bs := fun b hb => ⟨T.1.pos b hb, (T.2.2.1 b hb).1, (T.2.2.1 b hb).2⟩
end LW
namespace LW
open PySem L2 Pd
abbrev GB := Nat × Nat × Nat
def ft (a b : Nat) : List Nat := if b = 0 then (if 1 < a then numD (a : Int) else []) else (if 1 < b then numD (b : Int) else []) ++ 78 :: (if 0 < a then 43 :: numD (a : Int) else [])
def ftg (g : GB) : List Nat := ft g.2.1 g.2.2
def gwx : List GB → List Nat
  | [] => []
  | g :: r => g.1 :: ftg g ++ gwx r
def gD (g : GB) : D := .tup [.str [g.1], .int (g.2.1 : Nat), .int (g.2.2 : Nat)]
def FOk (a b : Nat) : Prop := a ≤ 99 ∧ b ≤ 9 ∧ (b = 0 → 1 ≤ a)
structure GOk (gs : List GB) : Prop where
  few : 2 ≤ gs.length
  most : gs.length ≤ 10
  lt : ∀ g ∈ gs, g.1 ∈ letters
  fo : ∀ g ∈ gs, FOk g.2.1 g.2.2
  adj : Adj (gs.map fun g => (g.1, 1))
  grows : ∃ g ∈ gs, 0 < g.2.2
theorem small_num {a : Nat} (h : a ≤ 99) : (numD (a : Int)).length ≤ 2 := (by decide +kernel : ∀ a : Fin 100, (numD ((a.1 : Nat) : Int)).length ≤ 2) ⟨a, by omega⟩
theorem small_log {a : Nat} (h : a ≤ 99) : ((a : Nat) : Int).natAbs.log2 < 1920 := by
  have : a.log2 < 1920 := (by decide +kernel : ∀ a : Fin 100, a.1.log2 < 1920) ⟨a, by omega⟩
  exact this
theorem ft_len {a b : Nat} (h : FOk a b) : (ft a b).length ≤ 6 := by
  obtain ⟨h1, h2, h3⟩ := h
  have l1 := small_num h1
  have l2 := small_num (a := b) (by omega)
  unfold ft
  repeat' split
  all_goals (try simp only [List.length_append, List.length_cons, List.length_nil])
  all_goals omega
theorem ft_not {a b c : Nat} (h : c ∈ ft a b) : c ∉ letters := by
  have n1 : ∀ k : Nat, c ∈ numD (k : Int) → c ∉ letters := fun k hk => not_letter (numD_dig hk)
  unfold ft at h
  by_cases hb : b = 0
  · rw [if_pos hb] at h
    by_cases ha : 1 < a
    · rw [if_pos ha] at h; exact n1 _ h
    · rw [if_neg ha] at h; cases h
  · rw [if_neg hb] at h
    rcases List.mem_append.mp h with h | h
    · by_cases ha : 1 < b
      · rw [if_pos ha] at h; exact n1 _ h
      · rw [if_neg ha] at h; cases h
    · rcases List.mem_cons.mp h with rfl | h
      · decide
      · by_cases ha : 0 < a
        · rw [if_pos ha] at h
          rcases List.mem_cons.mp h with rfl | h
          · decide
          · exact n1 _ h
        · rw [if_neg ha] at h; cases h
def s_form_text : FD := fun ds n P => ∃ a b : Nat, ds = [.tup [.int (a : Nat), .int (b : Nat)]] ∧ FOk a b ∧ P n (.str (ft a b))
theorem l_form_text (c : Str → Addr) : ∀ ds n Q, s_form_text ds n Q → dFn 3 1 (b__law_form_text c) ds n Q := by
  rintro ds n Q ⟨a, b, rfl, ⟨h1, h2, h3⟩, q⟩
  refine ⟨rfl, ?_⟩
  have L1 := small_log h1
  have L2 := small_log (a := b) (by omega)
  simp only [b__law_form_text, envOf, dRet, dRetN, dOp, dSl, dSlO, dVar, dC, pSome, pNo, ev_sll, ev_slt, ev_sls, dBi, dCons, dNil, ev_lenl, ev_lent, ev_lens, ev_lenr, ev_gI, TC, Pd.gSub, gLt, gLe, gGt, gGe, gMod, gFdiv, gPow, gEq, gNe, ev_oki, ev_oks, ev_okl, ev_okt, gIs, gIsNot, gIsB, gIsNotB, Pd.isNon, dCall, dSeq, dSet, dSetO, dMul, setL, bCons, bOwn, bNil, dIf, dIte, dTB, dAnd, dOr, dNot, dBV, dAndV, dOrV, dChain, dTmp, dTmpT, frzE, dFrz, OD.d, dIxO, dApp, dSetI, dNeg, dLst, dLstO, dTup, dO, dDrop, ev_abs, ev_inttoi, ev_inttob, ev_inttos, ev_strtoi, ev_listl, ev_listt, ev_lists, ev_tupl, ev_tupt, ev_addi, ev_adds, ev_addl, ev_addt, ev_muli, ev_muls, ev_mull, ev_max, ev_min, ev_all, ev_any, gRepr, dLRg, Pd.r1, Pd.r2, eqD_str, eqD_int, eqD_bl, dFld, dProp, dMeth, dAugI, dRev, dMake, dIsi, isT, isC, dNx, dBrk, dNev, dFst, putFD, gNm, gTp, gsCons, gsNil, dAsg, dStar, dYes, iniEnd, flatD, wipeE, ev_ixl, ev_ixt, ev_ixs, ev_ixr, ev_srcl, ev_srct, ev_srcs, ev_at0, ev_at1, ev_atl, ev_atn, ev_ixn, Option.some.injEq, exists_eq_left', exists_eq_left, List.foldl_cons, List.foldl_nil, List.map_cons, List.map_nil, List.replicate, List.length_append, List.length_map, List.length_cons, List.length_nil, List.cons_append, List.nil_append, List.append_nil, List.getElem?_cons_zero, List.getElem?_cons_succ, List.set_cons_zero, List.set_cons_succ, Nat.zero_add, Nat.reduceAdd, Nat.reduceSub, Nat.reduceLeDiff, true_and, and_true, decide_eq_true_eq, decide_eq_false_iff_not, ne_eq, reduceCtorEq, false_implies, true_implies, forall_const, Bool.and_self, Bool.and_true, Bool.true_and]
  unfold ft at q
  refine ⟨fun h => ?_, fun h => ?_⟩
  · have hb : b = 0 := by omega
    rw [if_pos hb] at q
    refine ⟨fun h => ⟨L1, ?_⟩, fun h => ?_⟩
    · rw [if_pos (by omega)] at q; exact q
    · rw [if_neg (by omega)] at q; exact q
  · have hb : ¬ b = 0 := by omega
    rw [if_neg hb] at q
    have l1 := small_num h1
    have l2 := small_num (a := b) (by omega)
    refine ⟨fun h => ?_, fun h => ⟨fun h' => ?_, fun h' => ?_⟩⟩
    · refine ⟨L2, by omega, fun h' => ⟨L1, by omega, by omega, ?_⟩, fun h' => ⟨by omega, ?_⟩⟩
      · rw [if_pos (by omega), if_pos (by omega)] at q
        rw [List.append_assoc]; exact q
      · rw [if_pos (by omega), if_neg (by omega)] at q
        exact q
    · rw [if_neg (by omega), if_pos (by omega)] at q
      exact ⟨L1, by omega, by omega, q⟩
    · rw [if_neg (by omega), if_neg (by omega)] at q
      exact q
def s_number_in : FD := fun ds n P => ∃ k lo hi : Nat, ds = [.str (numD (k : Int)), .int (lo : Nat), .int (hi : Nat)] ∧ lo ≤ k ∧ k ≤ hi ∧ hi ≤ 99 ∧ P n (.int (k : Nat))
theorem l_number_in (c : Str → Addr) : ∀ ds n Q, s_number_in ds n Q → dFn 4 3 (b_number_in c s_whole_in) ds n Q := by
  rintro ds n Q ⟨k, lo, hi, rfl, h1, h2, h3, q⟩
  refine ⟨rfl, ?_⟩
  simp only [b_number_in, envOf, dRet, dRetN, dOp, dSl, dSlO, dVar, dC, pSome, pNo, ev_sll, ev_slt, ev_sls, dBi, dCons, dNil, ev_lenl, ev_lent, ev_lens, ev_lenr, ev_gI, TC, Pd.gSub, gLt, gLe, gGt, gGe, gMod, gFdiv, gPow, gEq, gNe, ev_oki, ev_oks, ev_okl, ev_okt, gIs, gIsNot, gIsB, gIsNotB, Pd.isNon, dCall, dSeq, dSet, dSetO, dMul, setL, bCons, bOwn, bNil, dIf, dIte, dTB, dAnd, dOr, dNot, dBV, dAndV, dOrV, dChain, dTmp, dTmpT, frzE, dFrz, OD.d, dIxO, dApp, dSetI, dNeg, dLst, dLstO, dTup, dO, dDrop, ev_abs, ev_inttoi, ev_inttob, ev_inttos, ev_strtoi, ev_listl, ev_listt, ev_lists, ev_tupl, ev_tupt, ev_addi, ev_adds, ev_addl, ev_addt, ev_muli, ev_muls, ev_mull, ev_max, ev_min, ev_all, ev_any, gRepr, dLRg, Pd.r1, Pd.r2, eqD_str, eqD_int, eqD_bl, dFld, dProp, dMeth, dAugI, dRev, dMake, dIsi, isT, isC, dNx, dBrk, dNev, dFst, putFD, gNm, gTp, gsCons, gsNil, dAsg, dStar, dYes, iniEnd, flatD, wipeE, ev_ixl, ev_ixt, ev_ixs, ev_ixr, ev_srcl, ev_srct, ev_srcs, ev_at0, ev_at1, ev_atl, ev_atn, ev_ixn, Option.some.injEq, exists_eq_left', exists_eq_left, List.foldl_cons, List.foldl_nil, List.map_cons, List.map_nil, List.replicate, List.length_append, List.length_map, List.length_cons, List.length_nil, List.cons_append, List.nil_append, List.append_nil, List.getElem?_cons_zero, List.getElem?_cons_succ, List.set_cons_zero, List.set_cons_succ, Nat.zero_add, Nat.reduceAdd, Nat.reduceSub, Nat.reduceLeDiff, true_and, and_true, decide_eq_true_eq, decide_eq_false_iff_not, ne_eq, reduceCtorEq, false_implies, true_implies, forall_const, Bool.and_self, Bool.and_true, Bool.true_and]
  refine ⟨k, rfl, Nat.lt_of_le_of_lt (Nat.le_trans h2 h3) (by decide), ?_⟩
  refine ⟨fun _ => ?_, fun h => by cases h⟩
  simp only [gI, envOf, dRet, dRetN, dOp, dSl, dSlO, dVar, dC, pSome, pNo, ev_sll, ev_slt, ev_sls, dBi, dCons, dNil, ev_lenl, ev_lent, ev_lens, ev_lenr, ev_gI, TC, Pd.gSub, gLt, gLe, gGt, gGe, gMod, gFdiv, gPow, gEq, gNe, ev_oki, ev_oks, ev_okl, ev_okt, gIs, gIsNot, gIsB, gIsNotB, Pd.isNon, dCall, dSeq, dSet, dSetO, dMul, setL, bCons, bOwn, bNil, dIf, dIte, dTB, dAnd, dOr, dNot, dBV, dAndV, dOrV, dChain, dTmp, dTmpT, frzE, dFrz, OD.d, dIxO, dApp, dSetI, dNeg, dLst, dLstO, dTup, dO, dDrop, ev_abs, ev_inttoi, ev_inttob, ev_inttos, ev_strtoi, ev_listl, ev_listt, ev_lists, ev_tupl, ev_tupt, ev_addi, ev_adds, ev_addl, ev_addt, ev_muli, ev_muls, ev_mull, ev_max, ev_min, ev_all, ev_any, gRepr, dLRg, Pd.r1, Pd.r2, eqD_str, eqD_int, eqD_bl, dFld, dProp, dMeth, dAugI, dRev, dMake, dIsi, isT, isC, dNx, dBrk, dNev, dFst, putFD, gNm, gTp, gsCons, gsNil, dAsg, dStar, dYes, iniEnd, flatD, wipeE, ev_ixl, ev_ixt, ev_ixs, ev_ixr, ev_srcl, ev_srct, ev_srcs, ev_at0, ev_at1, ev_atl, ev_atn, ev_ixn, Option.some.injEq, exists_eq_left', exists_eq_left, List.foldl_cons, List.foldl_nil, List.map_cons, List.map_nil, List.replicate, List.length_append, List.length_map, List.length_cons, List.length_nil, List.cons_append, List.nil_append, List.append_nil, List.getElem?_cons_zero, List.getElem?_cons_succ, List.set_cons_zero, List.set_cons_succ, Nat.zero_add, Nat.reduceAdd, Nat.reduceSub, Nat.reduceLeDiff, true_and, and_true, decide_eq_true_eq, decide_eq_false_iff_not, ne_eq, reduceCtorEq, false_implies, true_implies, forall_const, Bool.and_self, Bool.and_true, Bool.true_and]
  exact ⟨fun _ => ⟨fun _ => q, fun h => absurd (show (k : Int) ≤ hi by omega) h⟩, fun h => absurd (show (lo : Int) ≤ k by omega) h⟩
def s_form_in : FD := fun ds n P => ∃ a b : Nat, ds = [.str (ft a b)] ∧ FOk a b ∧ P n (.tup [.int (a : Nat), .int (b : Nat)])
theorem num_no78 (k : Nat) : 78 ∉ numD (k : Int) := fun h => by
  have := numD_dig h
  omega
theorem l_form_in (c : Str → Addr) : ∀ ds n Q, s_form_in ds n Q → dFn 6 1 (b_form_in c s_number_in) ds n Q := by
  rintro ds n Q ⟨a, b, rfl, ⟨h1, h2, h3⟩, q⟩
  refine ⟨rfl, ?_⟩
  have E0 : ∀ x : List Nat, okEq (.str x) (.str []) = true := fun x => rfl
  simp only [b_form_in, envOf, dRet, dRetN, dOp, dSl, dSlO, dVar, dC, pSome, pNo, ev_sll, ev_slt, ev_sls, dBi, dCons, dNil, ev_lenl, ev_lent, ev_lens, ev_lenr, ev_gI, TC, Pd.gSub, gLt, gLe, gGt, gGe, gMod, gFdiv, gPow, gEq, gNe, ev_oki, ev_oks, ev_okl, ev_okt, gIs, gIsNot, gIsB, gIsNotB, Pd.isNon, dCall, dSeq, dSet, dSetO, dMul, setL, bCons, bOwn, bNil, dIf, dIte, dTB, dAnd, dOr, dNot, dBV, dAndV, dOrV, dChain, dTmp, dTmpT, frzE, dFrz, OD.d, dIxO, dApp, dSetI, dNeg, dLst, dLstO, dTup, dO, dDrop, ev_abs, ev_inttoi, ev_inttob, ev_inttos, ev_strtoi, ev_listl, ev_listt, ev_lists, ev_tupl, ev_tupt, ev_addi, ev_adds, ev_addl, ev_addt, ev_muli, ev_muls, ev_mull, ev_max, ev_min, ev_all, ev_any, gRepr, dLRg, Pd.r1, Pd.r2, eqD_str, eqD_int, eqD_bl, dFld, dProp, dMeth, dAugI, dRev, dMake, dIsi, isT, isC, dNx, dBrk, dNev, dFst, putFD, gNm, gTp, gsCons, gsNil, dAsg, dStar, dYes, iniEnd, flatD, wipeE, ev_ixl, ev_ixt, ev_ixs, ev_ixr, ev_srcl, ev_srct, ev_srcs, ev_at0, ev_at1, ev_atl, ev_atn, ev_ixn, Option.some.injEq, exists_eq_left', exists_eq_left, List.foldl_cons, List.foldl_nil, List.map_cons, List.map_nil, List.replicate, List.length_append, List.length_map, List.length_cons, List.length_nil, List.cons_append, List.nil_append, List.append_nil, List.getElem?_cons_zero, List.getElem?_cons_succ, List.set_cons_zero, List.set_cons_succ, Nat.zero_add, Nat.reduceAdd, Nat.reduceSub, Nat.reduceLeDiff, true_and, and_true, decide_eq_true_eq, decide_eq_false_iff_not, ne_eq, reduceCtorEq, false_implies, true_implies, forall_const, Bool.and_self, Bool.and_true, Bool.true_and, gNotIn, gInB]
  have ns : ∀ z : Nat, (match D.int (z : Nat) with | .non => true | _ => false) = false := fun _ => rfl
  by_cases hb : b = 0
  · subst hb
    have ha := h3 rfl
    by_cases ha1 : a = 1
    · subst ha1
      exact ⟨fun _ => q, fun h => absurd rfl h⟩
    · have e : ft a 0 = numD (a : Int) := by
        unfold ft
        rw [if_pos rfl, if_pos (by omega)]
      rw [e]
      have hne := numD_ne a
      refine ⟨fun h => absurd h (by simpa using hne), fun _ => ⟨fun h => ?_, fun h => ?_⟩⟩
      · exact ⟨a, 2, 99, rfl, by omega, by omega, by omega, fun h => (by cases h), fun _ => q⟩
      · rw [decide_eq_false (num_no78 a)] at h
        cases h
  · have e : ft a b = (if 1 < b then numD (b : Int) else []) ++ 78 :: (if 0 < a then 43 :: numD (a : Int) else []) := by
      unfold ft
      rw [if_neg hb]
    have l1 := small_num h1
    have l2 := small_num (a := b) (by omega)
    rw [e]
    refine ⟨fun h => absurd h (by simp), fun _ => ⟨fun h => ?_, fun _ => ?_⟩⟩
    · rw [decide_eq_true (by simp)] at h
      cases h
    have hn78 : 78 ∉ (if 1 < b then numD (b : Int) else []) := by
      split
      · exact num_no78 b
      · simp
    have hbn : 1 < b → numD (b : Int) ≠ [] := fun _ => numD_ne b
    have hbl : (if 1 < b then numD (b : Int) else []).length ≤ 2 := by split <;> (try simp only [List.length_cons, List.length_nil]) <;> omega
    have hal : (if 0 < a then 43 :: numD (a : Int) else []).length ≤ 3 := by split <;> (try simp only [List.length_cons, List.length_nil]) <;> omega
    simp only [dSpl, envOf, dRet, dRetN, dOp, dSl, dSlO, dVar, dC, pSome, pNo, ev_sll, ev_slt, ev_sls, dBi, dCons, dNil, ev_lenl, ev_lent, ev_lens, ev_lenr, ev_gI, TC, Pd.gSub, gLt, gLe, gGt, gGe, gMod, gFdiv, gPow, gEq, gNe, ev_oki, ev_oks, ev_okl, ev_okt, gIs, gIsNot, gIsB, gIsNotB, Pd.isNon, dCall, dSeq, dSet, dSetO, dMul, setL, bCons, bOwn, bNil, dIf, dIte, dTB, dAnd, dOr, dNot, dBV, dAndV, dOrV, dChain, dTmp, dTmpT, frzE, dFrz, OD.d, dIxO, dApp, dSetI, dNeg, dLst, dLstO, dTup, dO, dDrop, ev_abs, ev_inttoi, ev_inttob, ev_inttos, ev_strtoi, ev_listl, ev_listt, ev_lists, ev_tupl, ev_tupt, ev_addi, ev_adds, ev_addl, ev_addt, ev_muli, ev_muls, ev_mull, ev_max, ev_min, ev_all, ev_any, gRepr, dLRg, Pd.r1, Pd.r2, eqD_str, eqD_int, eqD_bl, dFld, dProp, dMeth, dAugI, dRev, dMake, dIsi, isT, isC, dNx, dBrk, dNev, dFst, putFD, gNm, gTp, gsCons, gsNil, dAsg, dStar, dYes, iniEnd, flatD, wipeE, ev_ixl, ev_ixt, ev_ixs, ev_ixr, ev_srcl, ev_srct, ev_srcs, ev_at0, ev_at1, ev_atl, ev_atn, ev_ixn, Option.some.injEq, exists_eq_left', exists_eq_left, List.foldl_cons, List.foldl_nil, List.map_cons, List.map_nil, List.replicate, List.length_append, List.length_map, List.length_cons, List.length_nil, List.cons_append, List.nil_append, List.append_nil, List.getElem?_cons_zero, List.getElem?_cons_succ, List.set_cons_zero, List.set_cons_succ, Nat.zero_add, Nat.reduceAdd, Nat.reduceSub, Nat.reduceLeDiff, true_and, and_true, decide_eq_true_eq, decide_eq_false_iff_not, ne_eq, reduceCtorEq, false_implies, true_implies, forall_const, Bool.and_self, Bool.and_true, Bool.true_and]
    refine ⟨by decide, by omega, _, _, rfl, hn78, ?_⟩
    by_cases ha : 0 < a
    · rw [if_pos ha]
      have hcut : cut (43 :: numD (a : Int)) (some 1) none = numD (a : Int) := by
        rw [show (1 : Int) = ((1 : Nat) : Int) from rfl, cut_from]
        rfl
      have hat : atI (43 :: numD (a : Int)) 0 = some 43 := atI_nat (j := 0) rfl
      have hln : (43 :: numD (a : Int)).length ≤ 16777216 := by simp only [List.length_cons]; omega
      by_cases h1b : 1 < b
      · rw [if_pos h1b]
        refine ⟨fun h => absurd h (numD_ne b), fun _ => ⟨b, 2, 9, rfl, by omega, by omega, by omega, fun h => (by cases h), fun _ => ⟨hln, ?_⟩⟩⟩
        rw [hcut]
        refine ⟨a, 1, 99, rfl, by omega, by omega, by omega, fun h => (by cases h), fun _ => ⟨fun h => (by cases h), fun _ => ⟨fun _ => ⟨hln, 43, hat, fun h => (by simp at h), fun _ => q⟩, fun h => (by simp at h)⟩⟩⟩
      · rw [if_neg h1b]
        obtain rfl : b = 1 := by omega
        refine ⟨fun _ => ⟨fun h => (by cases h), fun _ => ⟨hln, ?_⟩⟩, fun h => absurd rfl h⟩
        rw [hcut]
        exact ⟨a, 1, 99, rfl, by omega, by omega, by omega, fun h => (by cases h), fun _ => ⟨fun _ => ⟨hln, 43, hat, fun h => (by simp at h), fun _ => q⟩, fun h => (by simp at h)⟩⟩
    · rw [if_neg ha]
      obtain rfl : a = 0 := by omega
      by_cases h1b : 1 < b
      · rw [if_pos h1b]
        exact ⟨fun h => absurd h (numD_ne b), fun _ => ⟨b, 2, 9, rfl, by omega, by omega, by omega, fun _ => ⟨fun h => (by cases h), fun _ => ⟨fun h => (by simp at h), fun _ => q⟩⟩, fun h => absurd rfl h⟩⟩
      · rw [if_neg h1b]
        obtain rfl : b = 1 := by omega
        exact ⟨fun _ => ⟨fun _ => ⟨fun h => (by simp at h), fun _ => q⟩, fun h => absurd rfl h⟩, fun h => absurd rfl h⟩
end LW
namespace LW
open PySem L2 Pd
def gse : Nat → List GB → List (Nat × GB)
  | _, [] => []
  | k, b :: r => (k, b) :: gse (k + 1 + (ftg b).length) r
def spG (p : Nat × GB) : D := .int (p.1 : Nat)
def prG (p : Nat × GB) : D := .tup [.int (p.1 : Nat), .int ((p.1 + 1 + (ftg p.2).length : Nat))]
theorem gw_spots : ∀ (bs : List GB) (k : Nat), (∀ b ∈ bs, b.1 ∈ letters) → ((enD k (gwx bs)).filter isLetter).map inD = (gse k bs).map spG
  | [], _, _ => rfl
  | b :: r, k, h => by
    have hb : isLetter (.tup [.int (k : Nat), .str [b.1]]) = true := by
      simp only [isLetter, decide_eq_true_eq]
      exact h b (by simp)
    rw [gwx, List.cons_append, enD_cons, List.filter_cons_of_pos hb, enD_skip (ftg b) _ _ fun c hc => ft_not hc, List.map_cons, gw_spots r _ fun x hx => h x (List.mem_cons_of_mem _ hx), gse, List.map_cons]
    rfl
theorem gw_zip : ∀ (bs : List GB) (k : Nat), zipD ((gse k bs).map spG) (((gse k bs).map spG).drop 1 ++ [.int ((k + (gwx bs).length : Nat))]) = (gse k bs).map prG
  | [], _ => rfl
  | [b], k => by
    simp only [gse, List.map_cons, List.map_nil, List.drop_succ_cons, List.drop_zero, List.nil_append, zipD, List.zipWith, gwx, List.append_nil, List.length_cons, spG, prG]
    rw [show k + 1 + (ftg b).length = k + ((ftg b).length + 1) by omega]
  | b :: b2 :: r, k => by
    have ih := gw_zip (b2 :: r) (k + 1 + (ftg b).length)
    have e : k + (gwx (b :: b2 :: r)).length = k + 1 + (ftg b).length + (gwx (b2 :: r)).length := by
      rw [gwx, List.length_append, List.length_cons]
      omega
    rw [e, gse, List.map_cons, List.map_cons, List.drop_succ_cons, List.drop_zero, ← ih]
    rfl
theorem gse_snd : ∀ (gs : List GB) (k : Nat), (gse k gs).map (·.2) = gs
  | [], _ => rfl
  | g :: r, k => by rw [gse, List.map_cons, gse_snd r]
theorem gwx_app : ∀ a b : List GB, gwx (a ++ b) = gwx a ++ gwx b
  | [], _ => rfl
  | g :: r, b => by rw [List.cons_append, gwx, gwx, gwx_app r b, List.append_assoc]
theorem gse_at : ∀ (gs : List GB) (k : Nat) (a : List (Nat × GB)) (x : Nat × GB) (r : List (Nat × GB)), gse k gs = a ++ x :: r → gs = a.map (·.2) ++ x.2 :: r.map (·.2) ∧ x.1 = k + (gwx (a.map (·.2))).length
  | [], _, a, x, r, h => by cases a <;> cases h
  | g :: gs, k, [], x, r, h => by
    rw [gse, List.nil_append] at h
    injection h with h1 h2
    subst h1
    refine ⟨?_, rfl⟩
    rw [← h2, gse_snd]
    rfl
  | g :: gs, k, y :: a, x, r, h => by
    rw [gse, List.cons_append] at h
    injection h with h1 h2
    obtain ⟨e1, e2⟩ := gse_at gs _ a x r h2
    subst h1
    refine ⟨by rw [List.map_cons, List.cons_append, ← e1], ?_⟩
    rw [e2, List.map_cons, gwx, List.length_append, List.length_cons]
    simp only
    omega
theorem gwx_len : ∀ gs : List GB, (∀ g ∈ gs, FOk g.2.1 g.2.2) → (gwx gs).length ≤ 7 * gs.length
  | [], _ => Nat.le_refl _
  | g :: r, h => by
    have h1 := ft_len (h g (by simp))
    have h2 := gwx_len r fun x hx => h x (List.mem_cons_of_mem _ hx)
    rw [gwx, List.length_append, List.length_cons, List.length_cons]
    unfold ftg
    omega
theorem adj_dropL : ∀ {a b : List Bl}, Adj (a ++ b) → Adj b
  | [], _, h => h
  | [x], [], _ => trivial
  | [x], y :: b, h => h.2
  | x :: y :: a, b, h => adj_dropL (a := y :: a) h.2
theorem okD_list45 {xs : List D} (h : ∀ x ∈ xs, isPd x = true ∧ dpt x ≤ 8) : okD (.lst xs) = true := by
  have key : ∀ xs : List D, (∀ x ∈ xs, isPd x = true ∧ dpt x ≤ 8) → isPds xs = true ∧ dpts xs ≤ 8 := fun xs => by
    induction xs with
    | nil => exact fun _ => ⟨rfl, by decide⟩
    | cons x xs ih =>
      intro h
      have h1 := h x (by simp)
      have h2 := ih fun y hy => h y (List.mem_cons_of_mem _ hy)
      exact ⟨by rw [isPds, h1.1, h2.1]; rfl, by rw [dpts]; omega⟩
  have := key xs h
  unfold okD
  rw [isPd, dpt, this.1, Bool.true_and, decide_eq_true_eq]
  omega
theorem isPd_gD (g : GB) (h : g.1 ∈ letters) : isPd (gD g) = true ∧ dpt (gD g) ≤ 2 := by
  have := letters_lt h
  refine ⟨?_, by simp [gD, dpt, dpts]⟩
  simp [gD, isPd, isPds, this]
theorem okD_gs {gs : List GB} (h : ∀ g ∈ gs, g.1 ∈ letters) : okD (.lst (gs.map gD)) = true := okD_list45 fun x hx => by
  obtain ⟨g, hg, rfl⟩ := List.mem_map.mp hx
  exact ⟨(isPd_gD g (h g hg)).1, Nat.le_trans (isPd_gD g (h g hg)).2 (by decide)⟩
def s_blocks_in : FD := fun ds n P => ∃ gs : List GB, ds = [.str (gwx gs)] ∧ GOk gs ∧ P n (.lst (gs.map gD))
theorem l_blocks_in (c : Str → Addr) : ∀ ds n Q, s_blocks_in ds n Q → dFn 8 1 (b_blocks_in c s_form_in) ds n Q := by
  rintro ds n Q ⟨gs, rfl, G, q⟩
  refine ⟨rfl, ?_⟩
  have h2 := G.few
  have h10 := G.most
  have ht := gwx_len gs G.fo
  have len1 : ∀ l : List Nat, (enumD (sgn l)).length = l.length := fun l => by simp [enumD, sgn]
  have hsl : ∀ k, (gse k gs).length = gs.length := fun k => by
    have := congrArg List.length (gse_snd gs k)
    rwa [List.length_map] at this
  show dSeq _ _ _ _ _
  refine seqAt n [.val (.str (gwx gs)), .no, .own (.lst []), .val (.lst ((gse 0 gs).map spG)), .no, .no, .no, .no] (fun nx hnx => ?_) ?_
  · simp only [envOf, dRet, dRetN, dOp, dSl, dSlO, dVar, dC, pSome, pNo, ev_sll, ev_slt, ev_sls, dBi, dCons, dNil, ev_lenl, ev_lent, ev_lens, ev_lenr, ev_gI, TC, Pd.gSub, gLt, gLe, gGt, gGe, gMod, gFdiv, gPow, gEq, gNe, ev_oki, ev_oks, ev_okl, ev_okt, gIs, gIsNot, gIsB, gIsNotB, Pd.isNon, dCall, dSeq, dSet, dSetO, dMul, setL, bCons, bOwn, bNil, dIf, dIte, dTB, dAnd, dOr, dNot, dBV, dAndV, dOrV, dChain, dTmp, dTmpT, frzE, dFrz, OD.d, dIxO, dApp, dSetI, dNeg, dLst, dLstO, dTup, dO, dDrop, ev_abs, ev_inttoi, ev_inttob, ev_inttos, ev_strtoi, ev_listl, ev_listt, ev_lists, ev_tupl, ev_tupt, ev_addi, ev_adds, ev_addl, ev_addt, ev_muli, ev_muls, ev_mull, ev_max, ev_min, ev_all, ev_any, gRepr, dLRg, Pd.r1, Pd.r2, eqD_str, eqD_int, eqD_bl, dFld, dProp, dMeth, dAugI, dRev, dMake, dIsi, isT, isC, dNx, dBrk, dNev, dFst, putFD, gNm, gTp, gsCons, gsNil, dAsg, dStar, dYes, iniEnd, flatD, wipeE, ev_ixl, ev_ixt, ev_ixs, ev_ixr, ev_srcl, ev_srct, ev_srcs, ev_at0, ev_at1, ev_atl, ev_atn, ev_ixn, Option.some.injEq, exists_eq_left', exists_eq_left, List.foldl_cons, List.foldl_nil, List.map_cons, List.map_nil, List.replicate, List.length_append, List.length_map, List.length_cons, List.length_nil, List.cons_append, List.nil_append, List.append_nil, List.getElem?_cons_zero, List.getElem?_cons_succ, List.set_cons_zero, List.set_cons_succ, Nat.zero_add, Nat.reduceAdd, Nat.reduceSub, Nat.reduceLeDiff, true_and, and_true, decide_eq_true_eq, decide_eq_false_iff_not, ne_eq, reduceCtorEq, false_implies, true_implies, forall_const, Bool.and_self, Bool.and_true, Bool.true_and, dComp, iVal, iEnm]
    refine ⟨by rw [len1]; omega, compW_pure isLetter inD _ _ _ (fun x hx n K K' q1 q2 => ?_) ?_⟩
    · obtain ⟨p, hp, rfl⟩ := List.mem_map.mp hx
      obtain ⟨y, i⟩ := p
      have hy : y ∈ sgn (gwx gs) := by
        have := List.mem_zipIdx hp
        rw [this.2.2]
        exact List.getElem_mem _
      unfold sgn at hy
      obtain ⟨ch, hc, rfl⟩ := List.mem_map.mp hy
      simp only [envOf, dRet, dRetN, dOp, dSl, dSlO, dVar, dC, pSome, pNo, ev_sll, ev_slt, ev_sls, dBi, dCons, dNil, ev_lenl, ev_lent, ev_lens, ev_lenr, ev_gI, TC, Pd.gSub, gLt, gLe, gGt, gGe, gMod, gFdiv, gPow, gEq, gNe, ev_oki, ev_oks, ev_okl, ev_okt, gIs, gIsNot, gIsB, gIsNotB, Pd.isNon, dCall, dSeq, dSet, dSetO, dMul, setL, bCons, bOwn, bNil, dIf, dIte, dTB, dAnd, dOr, dNot, dBV, dAndV, dOrV, dChain, dTmp, dTmpT, frzE, dFrz, OD.d, dIxO, dApp, dSetI, dNeg, dLst, dLstO, dTup, dO, dDrop, ev_abs, ev_inttoi, ev_inttob, ev_inttos, ev_strtoi, ev_listl, ev_listt, ev_lists, ev_tupl, ev_tupt, ev_addi, ev_adds, ev_addl, ev_addt, ev_muli, ev_muls, ev_mull, ev_max, ev_min, ev_all, ev_any, gRepr, dLRg, Pd.r1, Pd.r2, eqD_str, eqD_int, eqD_bl, dFld, dProp, dMeth, dAugI, dRev, dMake, dIsi, isT, isC, dNx, dBrk, dNev, dFst, putFD, gNm, gTp, gsCons, gsNil, dAsg, dStar, dYes, iniEnd, flatD, wipeE, ev_ixl, ev_ixt, ev_ixs, ev_ixr, ev_srcl, ev_srct, ev_srcs, ev_at0, ev_at1, ev_atl, ev_atn, ev_ixn, Option.some.injEq, exists_eq_left', exists_eq_left, List.foldl_cons, List.foldl_nil, List.map_cons, List.map_nil, List.replicate, List.length_append, List.length_map, List.length_cons, List.length_nil, List.cons_append, List.nil_append, List.append_nil, List.getElem?_cons_zero, List.getElem?_cons_succ, List.set_cons_zero, List.set_cons_succ, Nat.zero_add, Nat.reduceAdd, Nat.reduceSub, Nat.reduceLeDiff, true_and, and_true, decide_eq_true_eq, decide_eq_false_iff_not, ne_eq, reduceCtorEq, false_implies, true_implies, forall_const, Bool.and_self, Bool.and_true, Bool.true_and, gInB]
      refine ⟨fun h => q1 (by simp only [isLetter]; exact decide_eq_true h), fun h => q2 (by simp only [isLetter]; exact decide_eq_false h)⟩
    · rw [List.nil_append, show ((enumD (sgn (gwx gs))).filter isLetter).map inD = (gse 0 gs).map spG from gw_spots gs 0 G.lt]
      exact hnx
  refine seqAt n [.val (.str (gwx gs)), .no, .own (.lst []), .val (.lst ((gse 0 gs).map spG)), .no, .no, .no, .no] (fun nx hnx => ?_) ?_
  · simp only [envOf, dRet, dRetN, dOp, dSl, dSlO, dVar, dC, pSome, pNo, ev_sll, ev_slt, ev_sls, dBi, dCons, dNil, ev_lenl, ev_lent, ev_lens, ev_lenr, ev_gI, TC, Pd.gSub, gLt, gLe, gGt, gGe, gMod, gFdiv, gPow, gEq, gNe, ev_oki, ev_oks, ev_okl, ev_okt, gIs, gIsNot, gIsB, gIsNotB, Pd.isNon, dCall, dSeq, dSet, dSetO, dMul, setL, bCons, bOwn, bNil, dIf, dIte, dTB, dAnd, dOr, dNot, dBV, dAndV, dOrV, dChain, dTmp, dTmpT, frzE, dFrz, OD.d, dIxO, dApp, dSetI, dNeg, dLst, dLstO, dTup, dO, dDrop, ev_abs, ev_inttoi, ev_inttob, ev_inttos, ev_strtoi, ev_listl, ev_listt, ev_lists, ev_tupl, ev_tupt, ev_addi, ev_adds, ev_addl, ev_addt, ev_muli, ev_muls, ev_mull, ev_max, ev_min, ev_all, ev_any, gRepr, dLRg, Pd.r1, Pd.r2, eqD_str, eqD_int, eqD_bl, dFld, dProp, dMeth, dAugI, dRev, dMake, dIsi, isT, isC, dNx, dBrk, dNev, dFst, putFD, gNm, gTp, gsCons, gsNil, dAsg, dStar, dYes, iniEnd, flatD, wipeE, ev_ixl, ev_ixt, ev_ixs, ev_ixr, ev_srcl, ev_srct, ev_srcs, ev_at0, ev_at1, ev_atl, ev_atn, ev_ixn, Option.some.injEq, exists_eq_left', exists_eq_left, List.foldl_cons, List.foldl_nil, List.map_cons, List.map_nil, List.replicate, List.length_append, List.length_map, List.length_cons, List.length_nil, List.cons_append, List.nil_append, List.append_nil, List.getElem?_cons_zero, List.getElem?_cons_succ, List.set_cons_zero, List.set_cons_succ, Nat.zero_add, Nat.reduceAdd, Nat.reduceSub, Nat.reduceLeDiff, true_and, and_true, decide_eq_true_eq, decide_eq_false_iff_not, ne_eq, reduceCtorEq, false_implies, true_implies, forall_const, Bool.and_self, Bool.and_true, Bool.true_and]
    rw [hsl]
    obtain ⟨g0, r0, rfl⟩ : ∃ g0 r0, gs = g0 :: r0 := by
      cases gs with
      | nil => exact absurd h2 (by decide)
      | cons a r => exact ⟨a, r, rfl⟩
    refine ⟨fun _ => ⟨fun h => ?_, fun _ => ⟨.int 0, ev_at0 _ _, rfl, fun h => (by simp [eqD] at h), fun _ => hnx⟩⟩, fun h => absurd (by omega) h⟩
    rw [decide_eq_true (by omega)] at h
    cases h
  refine seq_all (fun n1 ε => n1 = n ∧ ∃ s1 s4 s5, ε = [.val (.str (gwx gs)), s1, .own (.lst (gs.map gD)), .val (.lst ((gse 0 gs).map spG)), s4, s5, .no, .no]) (fun nx hnx => ?_) ?_
  · simp only [envOf, dRet, dRetN, dOp, dSl, dSlO, dVar, dC, pSome, pNo, ev_sll, ev_slt, ev_sls, dBi, dCons, dNil, ev_lenl, ev_lent, ev_lens, ev_lenr, ev_gI, TC, Pd.gSub, gLt, gLe, gGt, gGe, gMod, gFdiv, gPow, gEq, gNe, ev_oki, ev_oks, ev_okl, ev_okt, gIs, gIsNot, gIsB, gIsNotB, Pd.isNon, dCall, dSeq, dSet, dSetO, dMul, setL, bCons, bOwn, bNil, dIf, dIte, dTB, dAnd, dOr, dNot, dBV, dAndV, dOrV, dChain, dTmp, dTmpT, frzE, dFrz, OD.d, dIxO, dApp, dSetI, dNeg, dLst, dLstO, dTup, dO, dDrop, ev_abs, ev_inttoi, ev_inttob, ev_inttos, ev_strtoi, ev_listl, ev_listt, ev_lists, ev_tupl, ev_tupt, ev_addi, ev_adds, ev_addl, ev_addt, ev_muli, ev_muls, ev_mull, ev_max, ev_min, ev_all, ev_any, gRepr, dLRg, Pd.r1, Pd.r2, eqD_str, eqD_int, eqD_bl, dFld, dProp, dMeth, dAugI, dRev, dMake, dIsi, isT, isC, dNx, dBrk, dNev, dFst, putFD, gNm, gTp, gsCons, gsNil, dAsg, dStar, dYes, iniEnd, flatD, wipeE, ev_ixl, ev_ixt, ev_ixs, ev_ixr, ev_srcl, ev_srct, ev_srcs, ev_at0, ev_at1, ev_atl, ev_atn, ev_ixn, Option.some.injEq, exists_eq_left', exists_eq_left, List.foldl_cons, List.foldl_nil, List.map_cons, List.map_nil, List.replicate, List.length_append, List.length_map, List.length_cons, List.length_nil, List.cons_append, List.nil_append, List.append_nil, List.getElem?_cons_zero, List.getElem?_cons_succ, List.set_cons_zero, List.set_cons_succ, Nat.zero_add, Nat.reduceAdd, Nat.reduceSub, Nat.reduceLeDiff, true_and, and_true, decide_eq_true_eq, decide_eq_false_iff_not, ne_eq, reduceCtorEq, false_implies, true_implies, forall_const, Bool.and_self, Bool.and_true, Bool.true_and, dFor, iZp]
    have e1 := gw_zip gs 0
    rw [Nat.zero_add] at e1
    rw [show cut ((gse 0 gs).map spG) (some 1) none = ((gse 0 gs).map spG).drop 1 from cut_from _ 1]
    refine ⟨by omega, by rw [List.length_drop, List.length_map, hsl]; omega, _, _, rfl, rfl, ?_⟩
    rw [e1]
    refine for_map prG (fun a _ n1 ε => n1 = n ∧ ∃ s1 s4 s5, ε = [.val (.str (gwx gs)), s1, .own (.lst ((a.map (·.2)).map gD)), .val (.lst ((gse 0 gs).map spG)), s4, s5, .no, .no]) _ ⟨rfl, .no, .no, .no, rfl⟩ ?_ ?_
    · rintro n1 ε ⟨rfl, s1, s4, s5, rfl⟩
      rw [gse_snd]
      exact hnx _ _ ⟨rfl, s1, s4, s5, rfl⟩
    · rintro a x r n1 ε nxt hl hn ⟨rfl, s1, s4, s5, rfl⟩
      obtain ⟨k, g⟩ := x
      obtain ⟨h3, h4⟩ := gse_at gs 0 a _ r hl
      rw [Nat.zero_add] at h4
      simp only at h3 h4
      have hg : g ∈ gs := by rw [h3]; simp
      have hF := G.fo g hg
      generalize hA : a.map (·.2) = A at *
      have hlen := ft_len hF
      have ht2 : gwx gs = gwx A ++ (g.1 :: (ft g.2.1 g.2.2 ++ gwx (r.map (·.2)))) := by
        rw [h3, gwx_app, gwx, List.cons_append]
        rfl
      have hat : L2.atI (gwx gs) (k : Int) = some g.1 := atI_nat (by rw [ht2, h4]; simp)
      have hcut : cut (gwx gs) (some ((k : Int) + 1)) (some ((k + 1 + (ftg g).length : Nat))) = ft g.2.1 g.2.2 := by
        rw [show (k : Int) + 1 = ((k + 1 : Nat) : Int) from rfl, cut_mid]
        rw [show k + 1 + (ftg g).length - (k + 1) = (ft g.2.1 g.2.2).length by unfold ftg; omega]
        rw [ht2, show gwx A ++ (g.1 :: (ft g.2.1 g.2.2 ++ gwx (r.map (·.2)))) = (gwx A ++ [g.1]) ++ (ft g.2.1 g.2.2 ++ gwx (r.map (·.2))) by simp]
        rw [show k + 1 = (gwx A ++ [g.1]).length by rw [h4]; simp, List.drop_left, List.take_left]
      have hA10 : A.length ≤ 9 := by
        have := congrArg List.length h3
        rw [List.length_append, List.length_cons] at this
        omega
      have fin : nxt n1 [.val (.str (gwx gs)), .val (.int (k : Nat)), .own (.lst (A.map gD ++ [gD g])), .val (.lst ((gse 0 gs).map spG)), .val (.int ((k + 1 + (ftg g).length : Nat))), .val (.tup [.int (g.2.1 : Nat), .int (g.2.2 : Nat)]), .no, .no] := hn _ _ ⟨rfl, _, _, _, by rw [List.map_append, hA, List.map_append]; rfl⟩
      simp only [prG, envOf, dRet, dRetN, dOp, dSl, dSlO, dVar, dC, pSome, pNo, ev_sll, ev_slt, ev_sls, dBi, dCons, dNil, ev_lenl, ev_lent, ev_lens, ev_lenr, ev_gI, TC, Pd.gSub, gLt, gLe, gGt, gGe, gMod, gFdiv, gPow, gEq, gNe, ev_oki, ev_oks, ev_okl, ev_okt, gIs, gIsNot, gIsB, gIsNotB, Pd.isNon, dCall, dSeq, dSet, dSetO, dMul, setL, bCons, bOwn, bNil, dIf, dIte, dTB, dAnd, dOr, dNot, dBV, dAndV, dOrV, dChain, dTmp, dTmpT, frzE, dFrz, OD.d, dIxO, dApp, dSetI, dNeg, dLst, dLstO, dTup, dO, dDrop, ev_abs, ev_inttoi, ev_inttob, ev_inttos, ev_strtoi, ev_listl, ev_listt, ev_lists, ev_tupl, ev_tupt, ev_addi, ev_adds, ev_addl, ev_addt, ev_muli, ev_muls, ev_mull, ev_max, ev_min, ev_all, ev_any, gRepr, dLRg, Pd.r1, Pd.r2, eqD_str, eqD_int, eqD_bl, dFld, dProp, dMeth, dAugI, dRev, dMake, dIsi, isT, isC, dNx, dBrk, dNev, dFst, putFD, gNm, gTp, gsCons, gsNil, dAsg, dStar, dYes, iniEnd, flatD, wipeE, ev_ixl, ev_ixt, ev_ixs, ev_ixr, ev_srcl, ev_srct, ev_srcs, ev_at0, ev_at1, ev_atl, ev_atn, ev_ixn, Option.some.injEq, exists_eq_left', exists_eq_left, List.foldl_cons, List.foldl_nil, List.map_cons, List.map_nil, List.replicate, List.length_append, List.length_map, List.length_cons, List.length_nil, List.cons_append, List.nil_append, List.append_nil, List.getElem?_cons_zero, List.getElem?_cons_succ, List.set_cons_zero, List.set_cons_succ, Nat.zero_add, Nat.reduceAdd, Nat.reduceSub, Nat.reduceLeDiff, true_and, and_true, decide_eq_true_eq, decide_eq_false_iff_not, ne_eq, reduceCtorEq, false_implies, true_implies, forall_const, Bool.and_self, Bool.and_true, Bool.true_and]
      refine ⟨by omega, ?_⟩
      rw [hcut]
      refine ⟨g.2.1, g.2.2, rfl, hF, fun h => (by cases h), fun _ => ⟨?_, fun hne => ?_, fun _ => ⟨by omega, g.1, hat, by simp, by omega, fin⟩⟩⟩
      · rw [okD_gs fun y hy => G.lt y (by rw [h3]; simp only [List.mem_append]; exact .inl hy), okD_nil]
        rfl
      · obtain ⟨A0, z, rfl⟩ : ∃ A0 z, A = A0 ++ [z] := by
          rcases List.eq_nil_or_concat A with h | ⟨A0, z, h⟩
          · subst h; cases hne
          · exact ⟨A0, z, by rw [h, List.concat_eq_append]⟩
        have hzg : z.1 ≠ g.1 := by
          have ha := G.adj
          rw [h3, List.append_assoc, List.map_append] at ha
          exact (adj_dropL ha).1
        refine ⟨gD z, by rw [List.map_append]; exact ev_atl _ _, ?_⟩
        simp only [gD, envOf, dRet, dRetN, dOp, dSl, dSlO, dVar, dC, pSome, pNo, ev_sll, ev_slt, ev_sls, dBi, dCons, dNil, ev_lenl, ev_lent, ev_lens, ev_lenr, ev_gI, TC, Pd.gSub, gLt, gLe, gGt, gGe, gMod, gFdiv, gPow, gEq, gNe, ev_oki, ev_oks, ev_okl, ev_okt, gIs, gIsNot, gIsB, gIsNotB, Pd.isNon, dCall, dSeq, dSet, dSetO, dMul, setL, bCons, bOwn, bNil, dIf, dIte, dTB, dAnd, dOr, dNot, dBV, dAndV, dOrV, dChain, dTmp, dTmpT, frzE, dFrz, OD.d, dIxO, dApp, dSetI, dNeg, dLst, dLstO, dTup, dO, dDrop, ev_abs, ev_inttoi, ev_inttob, ev_inttos, ev_strtoi, ev_listl, ev_listt, ev_lists, ev_tupl, ev_tupt, ev_addi, ev_adds, ev_addl, ev_addt, ev_muli, ev_muls, ev_mull, ev_max, ev_min, ev_all, ev_any, gRepr, dLRg, Pd.r1, Pd.r2, eqD_str, eqD_int, eqD_bl, dFld, dProp, dMeth, dAugI, dRev, dMake, dIsi, isT, isC, dNx, dBrk, dNev, dFst, putFD, gNm, gTp, gsCons, gsNil, dAsg, dStar, dYes, iniEnd, flatD, wipeE, ev_ixl, ev_ixt, ev_ixs, ev_ixr, ev_srcl, ev_srct, ev_srcs, ev_at0, ev_at1, ev_atl, ev_atn, ev_ixn, Option.some.injEq, exists_eq_left', exists_eq_left, List.foldl_cons, List.foldl_nil, List.map_cons, List.map_nil, List.replicate, List.length_append, List.length_map, List.length_cons, List.length_nil, List.cons_append, List.nil_append, List.append_nil, List.getElem?_cons_zero, List.getElem?_cons_succ, List.set_cons_zero, List.set_cons_succ, Nat.zero_add, Nat.reduceAdd, Nat.reduceSub, Nat.reduceLeDiff, true_and, and_true, decide_eq_true_eq, decide_eq_false_iff_not, ne_eq, reduceCtorEq, false_implies, true_implies, forall_const, Bool.and_self, Bool.and_true, Bool.true_and]
        have hA9 : A0.length ≤ 9 := by rw [List.length_append] at hA10; omega
        refine ⟨by omega, g.1, hat, fun h => ?_, fun _ => ⟨by omega, g.1, hat, by omega, fin⟩⟩
        exact absurd (by simpa [eqD] using h) hzg
  rintro n1 ε ⟨rfl, s1, s4, s5, rfl⟩
  simp only [envOf, dRet, dRetN, dOp, dSl, dSlO, dVar, dC, pSome, pNo, ev_sll, ev_slt, ev_sls, dBi, dCons, dNil, ev_lenl, ev_lent, ev_lens, ev_lenr, ev_gI, TC, Pd.gSub, gLt, gLe, gGt, gGe, gMod, gFdiv, gPow, gEq, gNe, ev_oki, ev_oks, ev_okl, ev_okt, gIs, gIsNot, gIsB, gIsNotB, Pd.isNon, dCall, dSeq, dSet, dSetO, dMul, setL, bCons, bOwn, bNil, dIf, dIte, dTB, dAnd, dOr, dNot, dBV, dAndV, dOrV, dChain, dTmp, dTmpT, frzE, dFrz, OD.d, dIxO, dApp, dSetI, dNeg, dLst, dLstO, dTup, dO, dDrop, ev_abs, ev_inttoi, ev_inttob, ev_inttos, ev_strtoi, ev_listl, ev_listt, ev_lists, ev_tupl, ev_tupt, ev_addi, ev_adds, ev_addl, ev_addt, ev_muli, ev_muls, ev_mull, ev_max, ev_min, ev_all, ev_any, gRepr, dLRg, Pd.r1, Pd.r2, eqD_str, eqD_int, eqD_bl, dFld, dProp, dMeth, dAugI, dRev, dMake, dIsi, isT, isC, dNx, dBrk, dNev, dFst, putFD, gNm, gTp, gsCons, gsNil, dAsg, dStar, dYes, iniEnd, flatD, wipeE, ev_ixl, ev_ixt, ev_ixs, ev_ixr, ev_srcl, ev_srct, ev_srcs, ev_at0, ev_at1, ev_atl, ev_atn, ev_ixn, Option.some.injEq, exists_eq_left', exists_eq_left, List.foldl_cons, List.foldl_nil, List.map_cons, List.map_nil, List.replicate, List.length_append, List.length_map, List.length_cons, List.length_nil, List.cons_append, List.nil_append, List.append_nil, List.getElem?_cons_zero, List.getElem?_cons_succ, List.set_cons_zero, List.set_cons_succ, Nat.zero_add, Nat.reduceAdd, Nat.reduceSub, Nat.reduceLeDiff, true_and, and_true, decide_eq_true_eq, decide_eq_false_iff_not, ne_eq, reduceCtorEq, false_implies, true_implies, forall_const, Bool.and_self, Bool.and_true, Bool.true_and]
  simp only [dComp, iVal, envOf, dRet, dRetN, dOp, dSl, dSlO, dVar, dC, pSome, pNo, ev_sll, ev_slt, ev_sls, dBi, dCons, dNil, ev_lenl, ev_lent, ev_lens, ev_lenr, ev_gI, TC, Pd.gSub, gLt, gLe, gGt, gGe, gMod, gFdiv, gPow, gEq, gNe, ev_oki, ev_oks, ev_okl, ev_okt, gIs, gIsNot, gIsB, gIsNotB, Pd.isNon, dCall, dSeq, dSet, dSetO, dMul, setL, bCons, bOwn, bNil, dIf, dIte, dTB, dAnd, dOr, dNot, dBV, dAndV, dOrV, dChain, dTmp, dTmpT, frzE, dFrz, OD.d, dIxO, dApp, dSetI, dNeg, dLst, dLstO, dTup, dO, dDrop, ev_abs, ev_inttoi, ev_inttob, ev_inttos, ev_strtoi, ev_listl, ev_listt, ev_lists, ev_tupl, ev_tupt, ev_addi, ev_adds, ev_addl, ev_addt, ev_muli, ev_muls, ev_mull, ev_max, ev_min, ev_all, ev_any, gRepr, dLRg, Pd.r1, Pd.r2, eqD_str, eqD_int, eqD_bl, dFld, dProp, dMeth, dAugI, dRev, dMake, dIsi, isT, isC, dNx, dBrk, dNev, dFst, putFD, gNm, gTp, gsCons, gsNil, dAsg, dStar, dYes, iniEnd, flatD, wipeE, ev_ixl, ev_ixt, ev_ixs, ev_ixr, ev_srcl, ev_srct, ev_srcs, ev_at0, ev_at1, ev_atl, ev_atn, ev_ixn, Option.some.injEq, exists_eq_left', exists_eq_left, List.foldl_cons, List.foldl_nil, List.map_cons, List.map_nil, List.replicate, List.length_append, List.length_map, List.length_cons, List.length_nil, List.cons_append, List.nil_append, List.append_nil, List.getElem?_cons_zero, List.getElem?_cons_succ, List.set_cons_zero, List.set_cons_succ, Nat.zero_add, Nat.reduceAdd, Nat.reduceSub, Nat.reduceLeDiff, true_and, and_true, decide_eq_true_eq, decide_eq_false_iff_not, ne_eq, reduceCtorEq, false_implies, true_implies, forall_const, Bool.and_self, Bool.and_true, Bool.true_and]
  refine ⟨by omega, compW_map gD (fun g => .bl (decide (0 < g.2.2))) gs _ _ (fun g hg m K K' hK => ?_) ?_⟩
  · simp only [gD, envOf, dRet, dRetN, dOp, dSl, dSlO, dVar, dC, pSome, pNo, ev_sll, ev_slt, ev_sls, dBi, dCons, dNil, ev_lenl, ev_lent, ev_lens, ev_lenr, ev_gI, TC, Pd.gSub, gLt, gLe, gGt, gGe, gMod, gFdiv, gPow, gEq, gNe, ev_oki, ev_oks, ev_okl, ev_okt, gIs, gIsNot, gIsB, gIsNotB, Pd.isNon, dCall, dSeq, dSet, dSetO, dMul, setL, bCons, bOwn, bNil, dIf, dIte, dTB, dAnd, dOr, dNot, dBV, dAndV, dOrV, dChain, dTmp, dTmpT, frzE, dFrz, OD.d, dIxO, dApp, dSetI, dNeg, dLst, dLstO, dTup, dO, dDrop, ev_abs, ev_inttoi, ev_inttob, ev_inttos, ev_strtoi, ev_listl, ev_listt, ev_lists, ev_tupl, ev_tupt, ev_addi, ev_adds, ev_addl, ev_addt, ev_muli, ev_muls, ev_mull, ev_max, ev_min, ev_all, ev_any, gRepr, dLRg, Pd.r1, Pd.r2, eqD_str, eqD_int, eqD_bl, dFld, dProp, dMeth, dAugI, dRev, dMake, dIsi, isT, isC, dNx, dBrk, dNev, dFst, putFD, gNm, gTp, gsCons, gsNil, dAsg, dStar, dYes, iniEnd, flatD, wipeE, ev_ixl, ev_ixt, ev_ixs, ev_ixr, ev_srcl, ev_srct, ev_srcs, ev_at0, ev_at1, ev_atl, ev_atn, ev_ixn, Option.some.injEq, exists_eq_left', exists_eq_left, List.foldl_cons, List.foldl_nil, List.map_cons, List.map_nil, List.replicate, List.length_append, List.length_map, List.length_cons, List.length_nil, List.cons_append, List.nil_append, List.append_nil, List.getElem?_cons_zero, List.getElem?_cons_succ, List.set_cons_zero, List.set_cons_succ, Nat.zero_add, Nat.reduceAdd, Nat.reduceSub, Nat.reduceLeDiff, true_and, and_true, decide_eq_true_eq, decide_eq_false_iff_not, ne_eq, reduceCtorEq, false_implies, true_implies, forall_const, Bool.and_self, Bool.and_true, Bool.true_and]
    refine ⟨_, ev_atl [_, _] _, ?_⟩
    simp only [gI, envOf, dRet, dRetN, dOp, dSl, dSlO, dVar, dC, pSome, pNo, ev_sll, ev_slt, ev_sls, dBi, dCons, dNil, ev_lenl, ev_lent, ev_lens, ev_lenr, ev_gI, TC, Pd.gSub, gLt, gLe, gGt, gGe, gMod, gFdiv, gPow, gEq, gNe, ev_oki, ev_oks, ev_okl, ev_okt, gIs, gIsNot, gIsB, gIsNotB, Pd.isNon, dCall, dSeq, dSet, dSetO, dMul, setL, bCons, bOwn, bNil, dIf, dIte, dTB, dAnd, dOr, dNot, dBV, dAndV, dOrV, dChain, dTmp, dTmpT, frzE, dFrz, OD.d, dIxO, dApp, dSetI, dNeg, dLst, dLstO, dTup, dO, dDrop, ev_abs, ev_inttoi, ev_inttob, ev_inttos, ev_strtoi, ev_listl, ev_listt, ev_lists, ev_tupl, ev_tupt, ev_addi, ev_adds, ev_addl, ev_addt, ev_muli, ev_muls, ev_mull, ev_max, ev_min, ev_all, ev_any, gRepr, dLRg, Pd.r1, Pd.r2, eqD_str, eqD_int, eqD_bl, dFld, dProp, dMeth, dAugI, dRev, dMake, dIsi, isT, isC, dNx, dBrk, dNev, dFst, putFD, gNm, gTp, gsCons, gsNil, dAsg, dStar, dYes, iniEnd, flatD, wipeE, ev_ixl, ev_ixt, ev_ixs, ev_ixr, ev_srcl, ev_srct, ev_srcs, ev_at0, ev_at1, ev_atl, ev_atn, ev_ixn, Option.some.injEq, exists_eq_left', exists_eq_left, List.foldl_cons, List.foldl_nil, List.map_cons, List.map_nil, List.replicate, List.length_append, List.length_map, List.length_cons, List.length_nil, List.cons_append, List.nil_append, List.append_nil, List.getElem?_cons_zero, List.getElem?_cons_succ, List.set_cons_zero, List.set_cons_succ, Nat.zero_add, Nat.reduceAdd, Nat.reduceSub, Nat.reduceLeDiff, true_and, and_true, decide_eq_true_eq, decide_eq_false_iff_not, ne_eq, reduceCtorEq, false_implies, true_implies, forall_const, Bool.and_self, Bool.and_true, Bool.true_and]
    rw [show decide ((0 : Int) < (g.2.2 : Nat)) = decide (0 < g.2.2) by simp]
    exact hK
  · rw [List.nil_append]
    refine ⟨gs.map fun g => decide (0 < g.2.2), ?_, fun _ => q, fun h => ?_⟩
    · rw [← map_isBls, List.map_map]; rfl
    · obtain ⟨g, hg, h0⟩ := G.grows
      have : (gs.map fun g => decide (0 < g.2.2)).any id = true := List.any_eq_true.mpr ⟨_, List.mem_map_of_mem hg, by simpa using h0⟩
      rw [this] at h
      cases h
end LW
namespace LW
open PySem L2 Pd
def fldsG (gs : List GB) : List (Str × D) := [("own_text", .str (gwx gs)), ("own_blocks", .tup (gs.map gD))]
def grownD (c : Str → Addr) (gs : List GB) : D := .obj (c "Grown") (fldsG gs)
def i_grown : FI := fun ds n P => ∃ gs : List GB, ds = [.str (gwx gs)] ∧ GOk gs ∧ P n (fldsG gs)
theorem l_grown_init (c : Str → Addr) : ∀ ds n Q, i_grown ds n Q → dIni (c "Grown") 3 2 (b_Grown___init__ c s_blocks_in) ds n Q := by
  rintro ds n Q ⟨gs, rfl, G, q⟩
  refine ⟨rfl, ?_⟩
  simp only [b_Grown___init__, envOf, dRet, dRetN, dOp, dSl, dSlO, dVar, dC, pSome, pNo, ev_sll, ev_slt, ev_sls, dBi, dCons, dNil, ev_lenl, ev_lent, ev_lens, ev_lenr, ev_gI, TC, Pd.gSub, gLt, gLe, gGt, gGe, gMod, gFdiv, gPow, gEq, gNe, ev_oki, ev_oks, ev_okl, ev_okt, gIs, gIsNot, gIsB, gIsNotB, Pd.isNon, dCall, dSeq, dSet, dSetO, dMul, setL, bCons, bOwn, bNil, dIf, dIte, dTB, dAnd, dOr, dNot, dBV, dAndV, dOrV, dChain, dTmp, dTmpT, frzE, dFrz, OD.d, dIxO, dApp, dSetI, dNeg, dLst, dLstO, dTup, dO, dDrop, ev_abs, ev_inttoi, ev_inttob, ev_inttos, ev_strtoi, ev_listl, ev_listt, ev_lists, ev_tupl, ev_tupt, ev_addi, ev_adds, ev_addl, ev_addt, ev_muli, ev_muls, ev_mull, ev_max, ev_min, ev_all, ev_any, gRepr, dLRg, Pd.r1, Pd.r2, eqD_str, eqD_int, eqD_bl, dFld, dProp, dMeth, dAugI, dRev, dMake, dIsi, isT, isC, dNx, dBrk, dNev, dFst, gNm, gTp, gsCons, gsNil, dAsg, dStar, dYes, iniEnd, flatD, wipeE, ev_ixl, ev_ixt, ev_ixs, ev_ixr, ev_srcl, ev_srct, ev_srcs, ev_at0, ev_at1, ev_atl, ev_atn, ev_ixn, Option.some.injEq, exists_eq_left', exists_eq_left, List.foldl_cons, List.foldl_nil, List.map_cons, List.map_nil, List.replicate, List.length_append, List.length_map, List.length_cons, List.length_nil, List.cons_append, List.nil_append, List.append_nil, List.getElem?_cons_zero, List.getElem?_cons_succ, List.set_cons_zero, List.set_cons_succ, Nat.zero_add, Nat.reduceAdd, Nat.reduceSub, Nat.reduceLeDiff, true_and, and_true, decide_eq_true_eq, decide_eq_false_iff_not, ne_eq, reduceCtorEq, false_implies, true_implies, forall_const, Bool.and_self, Bool.and_true, Bool.true_and, lk_ends, lk_blocks, lk_text, lk_spot, lk_letter, Int.toNat_natCast, dFldO, dTmq, dMut, dSetQ, dParQ, qMake, D.still, D.stills, lf_past, lf_word, lf_letters, pf_past, pf_later, pm1, pm2, pm3, pm4, pi1, pi2, pi3, pi4, pi5, lm_state, lm_text, lm_search]
  refine ⟨⟨gs, rfl, G, fun h => (by cases h), fun _ => ?_⟩, fun h => absurd trivial h⟩
  simp only [putFD, gTuple, envOf, dRet, dRetN, dOp, dSl, dSlO, dVar, dC, pSome, pNo, ev_sll, ev_slt, ev_sls, dBi, dCons, dNil, ev_lenl, ev_lent, ev_lens, ev_lenr, ev_gI, TC, Pd.gSub, gLt, gLe, gGt, gGe, gMod, gFdiv, gPow, gEq, gNe, ev_oki, ev_oks, ev_okl, ev_okt, gIs, gIsNot, gIsB, gIsNotB, Pd.isNon, dCall, dSeq, dSet, dSetO, dMul, setL, bCons, bOwn, bNil, dIf, dIte, dTB, dAnd, dOr, dNot, dBV, dAndV, dOrV, dChain, dTmp, dTmpT, frzE, dFrz, OD.d, dIxO, dApp, dSetI, dNeg, dLst, dLstO, dTup, dO, dDrop, ev_abs, ev_inttoi, ev_inttob, ev_inttos, ev_strtoi, ev_listl, ev_listt, ev_lists, ev_tupl, ev_tupt, ev_addi, ev_adds, ev_addl, ev_addt, ev_muli, ev_muls, ev_mull, ev_max, ev_min, ev_all, ev_any, gRepr, dLRg, Pd.r1, Pd.r2, eqD_str, eqD_int, eqD_bl, dFld, dProp, dMeth, dAugI, dRev, dMake, dIsi, isT, isC, dNx, dBrk, dNev, dFst, gNm, gTp, gsCons, gsNil, dAsg, dStar, dYes, iniEnd, flatD, wipeE, ev_ixl, ev_ixt, ev_ixs, ev_ixr, ev_srcl, ev_srct, ev_srcs, ev_at0, ev_at1, ev_atl, ev_atn, ev_ixn, Option.some.injEq, exists_eq_left', exists_eq_left, List.foldl_cons, List.foldl_nil, List.map_cons, List.map_nil, List.replicate, List.length_append, List.length_map, List.length_cons, List.length_nil, List.cons_append, List.nil_append, List.append_nil, List.getElem?_cons_zero, List.getElem?_cons_succ, List.set_cons_zero, List.set_cons_succ, Nat.zero_add, Nat.reduceAdd, Nat.reduceSub, Nat.reduceLeDiff, true_and, and_true, decide_eq_true_eq, decide_eq_false_iff_not, ne_eq, reduceCtorEq, false_implies, true_implies, forall_const, Bool.and_self, Bool.and_true, Bool.true_and, lk_ends, lk_blocks, lk_text, lk_spot, lk_letter, Int.toNat_natCast, dFldO, dTmq, dMut, dSetQ, dParQ, qMake, D.still, D.stills, lf_past, lf_word, lf_letters, pf_past, pf_later, pm1, pm2, pm3, pm4, pi1, pi2, pi3, pi4, pi5, lm_state, lm_text, lm_search]
  exact ⟨by decide, by decide, q⟩
def s_Grown_text (c : Str → Addr) : FD := fun ds n P => ∃ gs : List GB, ds = [grownD c gs] ∧ P n (.str (gwx gs))
theorem l_Grown_text (c : Str → Addr) : ∀ ds n Q, s_Grown_text c ds n Q → dFn 1 1 (b_Grown_text_v2 c) ds n Q := by
  rintro ds n Q ⟨bs, rfl, q⟩
  refine ⟨rfl, ?_⟩
  simp only [b_Grown_text_v2, grownD, fldsG, envOf, dRet, dRetN, dOp, dSl, dSlO, dVar, dC, pSome, pNo, ev_sll, ev_slt, ev_sls, dBi, dCons, dNil, ev_lenl, ev_lent, ev_lens, ev_lenr, ev_gI, TC, Pd.gSub, gLt, gLe, gGt, gGe, gMod, gFdiv, gPow, gEq, gNe, ev_oki, ev_oks, ev_okl, ev_okt, gIs, gIsNot, gIsB, gIsNotB, Pd.isNon, dCall, dSeq, dSet, dSetO, dMul, setL, bCons, bOwn, bNil, dIf, dIte, dTB, dAnd, dOr, dNot, dBV, dAndV, dOrV, dChain, dTmp, dTmpT, frzE, dFrz, OD.d, dIxO, dApp, dSetI, dNeg, dLst, dLstO, dTup, dO, dDrop, ev_abs, ev_inttoi, ev_inttob, ev_inttos, ev_strtoi, ev_listl, ev_listt, ev_lists, ev_tupl, ev_tupt, ev_addi, ev_adds, ev_addl, ev_addt, ev_muli, ev_muls, ev_mull, ev_max, ev_min, ev_all, ev_any, gRepr, dLRg, Pd.r1, Pd.r2, eqD_str, eqD_int, eqD_bl, dFld, dProp, dMeth, dAugI, dRev, dMake, dIsi, isT, isC, dNx, dBrk, dNev, dFst, gNm, gTp, gsCons, gsNil, dAsg, dStar, dYes, iniEnd, flatD, wipeE, ev_ixl, ev_ixt, ev_ixs, ev_ixr, ev_srcl, ev_srct, ev_srcs, ev_at0, ev_at1, ev_atl, ev_atn, ev_ixn, Option.some.injEq, exists_eq_left', exists_eq_left, List.foldl_cons, List.foldl_nil, List.map_cons, List.map_nil, List.replicate, List.length_append, List.length_map, List.length_cons, List.length_nil, List.cons_append, List.nil_append, List.append_nil, List.getElem?_cons_zero, List.getElem?_cons_succ, List.set_cons_zero, List.set_cons_succ, Nat.zero_add, Nat.reduceAdd, Nat.reduceSub, Nat.reduceLeDiff, true_and, and_true, decide_eq_true_eq, decide_eq_false_iff_not, ne_eq, reduceCtorEq, false_implies, true_implies, forall_const, Bool.and_self, Bool.and_true, Bool.true_and, lk_ends, lk_blocks, lk_text, lk_spot, lk_letter, Int.toNat_natCast, dFldO, dTmq, dMut, dSetQ, dParQ, qMake, D.still, D.stills, lf_past, lf_word, lf_letters, pf_past, pf_later, pm1, pm2, pm3, pm4, pi1, pi2, pi3, pi4, pi5, lm_state, lm_text, lm_search]
  exact ⟨_, rfl, q⟩
def s_Grown_blocks (c : Str → Addr) : FD := fun ds n P => ∃ gs : List GB, ds = [grownD c gs] ∧ P n (.tup (gs.map gD))
theorem l_Grown_blocks (c : Str → Addr) : ∀ ds n Q, s_Grown_blocks c ds n Q → dFn 1 1 (b_Grown_blocks_v2 c) ds n Q := by
  rintro ds n Q ⟨bs, rfl, q⟩
  refine ⟨rfl, ?_⟩
  simp only [b_Grown_blocks_v2, grownD, fldsG, envOf, dRet, dRetN, dOp, dSl, dSlO, dVar, dC, pSome, pNo, ev_sll, ev_slt, ev_sls, dBi, dCons, dNil, ev_lenl, ev_lent, ev_lens, ev_lenr, ev_gI, TC, Pd.gSub, gLt, gLe, gGt, gGe, gMod, gFdiv, gPow, gEq, gNe, ev_oki, ev_oks, ev_okl, ev_okt, gIs, gIsNot, gIsB, gIsNotB, Pd.isNon, dCall, dSeq, dSet, dSetO, dMul, setL, bCons, bOwn, bNil, dIf, dIte, dTB, dAnd, dOr, dNot, dBV, dAndV, dOrV, dChain, dTmp, dTmpT, frzE, dFrz, OD.d, dIxO, dApp, dSetI, dNeg, dLst, dLstO, dTup, dO, dDrop, ev_abs, ev_inttoi, ev_inttob, ev_inttos, ev_strtoi, ev_listl, ev_listt, ev_lists, ev_tupl, ev_tupt, ev_addi, ev_adds, ev_addl, ev_addt, ev_muli, ev_muls, ev_mull, ev_max, ev_min, ev_all, ev_any, gRepr, dLRg, Pd.r1, Pd.r2, eqD_str, eqD_int, eqD_bl, dFld, dProp, dMeth, dAugI, dRev, dMake, dIsi, isT, isC, dNx, dBrk, dNev, dFst, gNm, gTp, gsCons, gsNil, dAsg, dStar, dYes, iniEnd, flatD, wipeE, ev_ixl, ev_ixt, ev_ixs, ev_ixr, ev_srcl, ev_srct, ev_srcs, ev_at0, ev_at1, ev_atl, ev_atn, ev_ixn, Option.some.injEq, exists_eq_left', exists_eq_left, List.foldl_cons, List.foldl_nil, List.map_cons, List.map_nil, List.replicate, List.length_append, List.length_map, List.length_cons, List.length_nil, List.cons_append, List.nil_append, List.append_nil, List.getElem?_cons_zero, List.getElem?_cons_succ, List.set_cons_zero, List.set_cons_succ, Nat.zero_add, Nat.reduceAdd, Nat.reduceSub, Nat.reduceLeDiff, true_and, and_true, decide_eq_true_eq, decide_eq_false_iff_not, ne_eq, reduceCtorEq, false_implies, true_implies, forall_const, Bool.and_self, Bool.and_true, Bool.true_and, lk_ends, lk_blocks, lk_text, lk_spot, lk_letter, Int.toNat_natCast, dFldO, dTmq, dMut, dSetQ, dParQ, qMake, D.still, D.stills, lf_past, lf_word, lf_letters, pf_past, pf_later, pm1, pm2, pm3, pm4, pi1, pi2, pi3, pi4, pi5, lm_state, lm_text, lm_search]
  exact ⟨_, rfl, q⟩
def s_Grown_eq (c : Str → Addr) : FD := fun ds n P => (∃ a b : List GB, ds = [grownD c a, grownD c b] ∧ P n (.bl (decide (gwx a = gwx b)))) ∨
  (∃ (a : List GB) (d : D), ds = [grownD c a, d] ∧ isC (c "Grown") [c "Word"] d = some false ∧ P n (.bl false))
theorem l_Grown_eq (c : Str → Addr) : ∀ ds n Q, s_Grown_eq c ds n Q → dFn 2 2 (b_Grown___eq___v2 c (s_Grown_text c)) ds n Q := by
  rintro ds n Q (⟨a, b, rfl, q⟩ | ⟨a, d, rfl, hd, q⟩)
  · refine ⟨rfl, ?_⟩
    simp only [b_Grown___eq___v2, grownD, fldsG, envOf, dRet, dRetN, dOp, dSl, dSlO, dVar, dC, pSome, pNo, ev_sll, ev_slt, ev_sls, dBi, dCons, dNil, ev_lenl, ev_lent, ev_lens, ev_lenr, ev_gI, TC, Pd.gSub, gLt, gLe, gGt, gGe, gMod, gFdiv, gPow, gEq, gNe, ev_oki, ev_oks, ev_okl, ev_okt, gIs, gIsNot, gIsB, gIsNotB, Pd.isNon, dCall, dSeq, dSet, dSetO, dMul, setL, bCons, bOwn, bNil, dIf, dIte, dTB, dAnd, dOr, dNot, dBV, dAndV, dOrV, dChain, dTmp, dTmpT, frzE, dFrz, OD.d, dIxO, dApp, dSetI, dNeg, dLst, dLstO, dTup, dO, dDrop, ev_abs, ev_inttoi, ev_inttob, ev_inttos, ev_strtoi, ev_listl, ev_listt, ev_lists, ev_tupl, ev_tupt, ev_addi, ev_adds, ev_addl, ev_addt, ev_muli, ev_muls, ev_mull, ev_max, ev_min, ev_all, ev_any, gRepr, dLRg, Pd.r1, Pd.r2, eqD_str, eqD_int, eqD_bl, dFld, dProp, dMeth, dAugI, dRev, dMake, dIsi, isT, isC, dNx, dBrk, dNev, dFst, gNm, gTp, gsCons, gsNil, dAsg, dStar, dYes, iniEnd, flatD, wipeE, ev_ixl, ev_ixt, ev_ixs, ev_ixr, ev_srcl, ev_srct, ev_srcs, ev_at0, ev_at1, ev_atl, ev_atn, ev_ixn, Option.some.injEq, exists_eq_left', exists_eq_left, List.foldl_cons, List.foldl_nil, List.map_cons, List.map_nil, List.replicate, List.length_append, List.length_map, List.length_cons, List.length_nil, List.cons_append, List.nil_append, List.append_nil, List.getElem?_cons_zero, List.getElem?_cons_succ, List.set_cons_zero, List.set_cons_succ, Nat.zero_add, Nat.reduceAdd, Nat.reduceSub, Nat.reduceLeDiff, true_and, and_true, decide_eq_true_eq, decide_eq_false_iff_not, ne_eq, reduceCtorEq, false_implies, true_implies, forall_const, Bool.and_self, Bool.and_true, Bool.true_and, lk_ends, lk_blocks, lk_text, lk_spot, lk_letter, Int.toNat_natCast, dFldO, dTmq, dMut, dSetQ, dParQ, qMake, D.still, D.stills, lf_past, lf_word, lf_letters, pf_past, pf_later, pm1, pm2, pm3, pm4, pi1, pi2, pi3, pi4, pi5, lm_state, lm_text, lm_search]
    refine ⟨true, by simp [isC], fun _ => ⟨.str (gwx a), rfl, b, rfl, rfl, ?_⟩, fun h => by cases h⟩
    rw [eqD_str]
    exact q
  · refine ⟨rfl, ?_⟩
    simp only [b_Grown___eq___v2, envOf, dRet, dRetN, dOp, dSl, dSlO, dVar, dC, pSome, pNo, ev_sll, ev_slt, ev_sls, dBi, dCons, dNil, ev_lenl, ev_lent, ev_lens, ev_lenr, ev_gI, TC, Pd.gSub, gLt, gLe, gGt, gGe, gMod, gFdiv, gPow, gEq, gNe, ev_oki, ev_oks, ev_okl, ev_okt, gIs, gIsNot, gIsB, gIsNotB, Pd.isNon, dCall, dSeq, dSet, dSetO, dMul, setL, bCons, bOwn, bNil, dIf, dIte, dTB, dAnd, dOr, dNot, dBV, dAndV, dOrV, dChain, dTmp, dTmpT, frzE, dFrz, OD.d, dIxO, dApp, dSetI, dNeg, dLst, dLstO, dTup, dO, dDrop, ev_abs, ev_inttoi, ev_inttob, ev_inttos, ev_strtoi, ev_listl, ev_listt, ev_lists, ev_tupl, ev_tupt, ev_addi, ev_adds, ev_addl, ev_addt, ev_muli, ev_muls, ev_mull, ev_max, ev_min, ev_all, ev_any, gRepr, dLRg, Pd.r1, Pd.r2, eqD_str, eqD_int, eqD_bl, dFld, dProp, dMeth, dAugI, dRev, dMake, dIsi, isT, isC, dNx, dBrk, dNev, dFst, gNm, gTp, gsCons, gsNil, dAsg, dStar, dYes, iniEnd, flatD, wipeE, ev_ixl, ev_ixt, ev_ixs, ev_ixr, ev_srcl, ev_srct, ev_srcs, ev_at0, ev_at1, ev_atl, ev_atn, ev_ixn, Option.some.injEq, exists_eq_left', exists_eq_left, List.foldl_cons, List.foldl_nil, List.map_cons, List.map_nil, List.replicate, List.length_append, List.length_map, List.length_cons, List.length_nil, List.cons_append, List.nil_append, List.append_nil, List.getElem?_cons_zero, List.getElem?_cons_succ, List.set_cons_zero, List.set_cons_succ, Nat.zero_add, Nat.reduceAdd, Nat.reduceSub, Nat.reduceLeDiff, true_and, and_true, decide_eq_true_eq, decide_eq_false_iff_not, ne_eq, reduceCtorEq, false_implies, true_implies, forall_const, Bool.and_self, Bool.and_true, Bool.true_and, lk_ends, lk_blocks, lk_text, lk_spot, lk_letter, Int.toNat_natCast, dFldO, dTmq, dMut, dSetQ, dParQ, qMake, D.still, D.stills, lf_past, lf_word, lf_letters, pf_past, pf_later, pm1, pm2, pm3, pm4, pi1, pi2, pi3, pi4, pi5, lm_state, lm_text, lm_search]
    exact ⟨false, hd, fun h => (by cases h), fun _ => q⟩
theorem l_Word_eq45 (c : Str → Addr) : ∀ ds n Q, s_Word_eq c ds n Q → dFn 2 2 (b_Word___eq___v2 c (s_Word_text c)) ds n Q := by
  rintro ds n Q ⟨a, b, rfl, q⟩
  refine ⟨rfl, ?_⟩
  simp only [b_Word___eq___v2, wordD, envOf, dRet, dRetN, dOp, dSl, dSlO, dVar, dC, pSome, pNo, ev_sll, ev_slt, ev_sls, dBi, dCons, dNil, ev_lenl, ev_lent, ev_lens, ev_lenr, ev_gI, TC, Pd.gSub, gLt, gLe, gGt, gGe, gMod, gFdiv, gPow, gEq, gNe, ev_oki, ev_oks, ev_okl, ev_okt, gIs, gIsNot, gIsB, gIsNotB, Pd.isNon, dCall, dSeq, dSet, dSetO, dMul, setL, bCons, bOwn, bNil, dIf, dIte, dTB, dAnd, dOr, dNot, dBV, dAndV, dOrV, dChain, dTmp, dTmpT, frzE, dFrz, OD.d, dIxO, dApp, dSetI, dNeg, dLst, dLstO, dTup, dO, dDrop, ev_abs, ev_inttoi, ev_inttob, ev_inttos, ev_strtoi, ev_listl, ev_listt, ev_lists, ev_tupl, ev_tupt, ev_addi, ev_adds, ev_addl, ev_addt, ev_muli, ev_muls, ev_mull, ev_max, ev_min, ev_all, ev_any, gRepr, dLRg, Pd.r1, Pd.r2, eqD_str, eqD_int, eqD_bl, dFld, dProp, dMeth, dAugI, dRev, dMake, dIsi, isT, isC, dNx, dBrk, dNev, dFst, gNm, gTp, gsCons, gsNil, dAsg, dStar, dYes, iniEnd, flatD, wipeE, ev_ixl, ev_ixt, ev_ixs, ev_ixr, ev_srcl, ev_srct, ev_srcs, ev_at0, ev_at1, ev_atl, ev_atn, ev_ixn, Option.some.injEq, exists_eq_left', exists_eq_left, List.foldl_cons, List.foldl_nil, List.map_cons, List.map_nil, List.replicate, List.length_append, List.length_map, List.length_cons, List.length_nil, List.cons_append, List.nil_append, List.append_nil, List.getElem?_cons_zero, List.getElem?_cons_succ, List.set_cons_zero, List.set_cons_succ, Nat.zero_add, Nat.reduceAdd, Nat.reduceSub, Nat.reduceLeDiff, true_and, and_true, decide_eq_true_eq, decide_eq_false_iff_not, ne_eq, reduceCtorEq, false_implies, true_implies, forall_const, Bool.and_self, Bool.and_true, Bool.true_and, lk_ends, lk_blocks, lk_text, lk_spot, lk_letter, Int.toNat_natCast, dFldO, dTmq, dMut, dSetQ, dParQ, qMake, D.still, D.stills, lf_past, lf_word, lf_letters, pf_past, pf_later, pm1, pm2, pm3, pm4, pi1, pi2, pi3, pi4, pi5, lm_state, lm_text, lm_search]
  refine ⟨true, by simp [isC], fun _ => ⟨b, rfl, rfl, ?_⟩, fun h => by cases h⟩
  rw [eqD_str]
  exact q
def s_grown_text : FD := fun ds n P => ∃ gs : List GB, ds = [.lst (gs.map gD)] ∧ gs.length ≤ 10 ∧ (∀ g ∈ gs, FOk g.2.1 g.2.2) ∧ P n (.str (gwx gs))
theorem gwx_flat : ∀ bs : List GB, (bs.map fun b => b.1 :: ftg b).flatten = gwx bs
  | [] => rfl
  | b :: r => by rw [List.map_cons, List.flatten_cons, gwx_flat r]; rfl
theorem l_grown_text (c : Str → Addr) : ∀ ds n Q, s_grown_text ds n Q → dFn 4 1 (b__law_grown_text c s_form_text) ds n Q := by
  rintro ds n Q ⟨gs, rfl, h10, hF, q⟩
  refine ⟨rfl, ?_⟩
  have ht := gwx_len gs hF
  simp only [b__law_grown_text, dJoin, dComp, iVal, envOf, dRet, dRetN, dOp, dSl, dSlO, dVar, dC, pSome, pNo, ev_sll, ev_slt, ev_sls, dBi, dCons, dNil, ev_lenl, ev_lent, ev_lens, ev_lenr, ev_gI, TC, Pd.gSub, gLt, gLe, gGt, gGe, gMod, gFdiv, gPow, gEq, gNe, ev_oki, ev_oks, ev_okl, ev_okt, gIs, gIsNot, gIsB, gIsNotB, Pd.isNon, dCall, dSeq, dSet, dSetO, dMul, setL, bCons, bOwn, bNil, dIf, dIte, dTB, dAnd, dOr, dNot, dBV, dAndV, dOrV, dChain, dTmp, dTmpT, frzE, dFrz, OD.d, dIxO, dApp, dSetI, dNeg, dLst, dLstO, dTup, dO, dDrop, ev_abs, ev_inttoi, ev_inttob, ev_inttos, ev_strtoi, ev_listl, ev_listt, ev_lists, ev_tupl, ev_tupt, ev_addi, ev_adds, ev_addl, ev_addt, ev_muli, ev_muls, ev_mull, ev_max, ev_min, ev_all, ev_any, gRepr, dLRg, Pd.r1, Pd.r2, eqD_str, eqD_int, eqD_bl, dFld, dProp, dMeth, dAugI, dRev, dMake, dIsi, isT, isC, dNx, dBrk, dNev, dFst, putFD, gNm, gTp, gsCons, gsNil, dAsg, dStar, dYes, iniEnd, flatD, wipeE, ev_ixl, ev_ixt, ev_ixs, ev_ixr, ev_srcl, ev_srct, ev_srcs, ev_at0, ev_at1, ev_atl, ev_atn, ev_ixn, Option.some.injEq, exists_eq_left', exists_eq_left, List.foldl_cons, List.foldl_nil, List.map_cons, List.map_nil, List.replicate, List.length_append, List.length_map, List.length_cons, List.length_nil, List.cons_append, List.nil_append, List.append_nil, List.getElem?_cons_zero, List.getElem?_cons_succ, List.set_cons_zero, List.set_cons_succ, Nat.zero_add, Nat.reduceAdd, Nat.reduceSub, Nat.reduceLeDiff, true_and, and_true, decide_eq_true_eq, decide_eq_false_iff_not, ne_eq, reduceCtorEq, false_implies, true_implies, forall_const, Bool.and_self, Bool.and_true, Bool.true_and]
  refine ⟨by omega, compW_map gD (fun g => .str (g.1 :: ftg g)) gs _ _ (fun g hg m K K' hK => ?_) ?_⟩
  · simp only [gD, envOf, dRet, dRetN, dOp, dSl, dSlO, dVar, dC, pSome, pNo, ev_sll, ev_slt, ev_sls, dBi, dCons, dNil, ev_lenl, ev_lent, ev_lens, ev_lenr, ev_gI, TC, Pd.gSub, gLt, gLe, gGt, gGe, gMod, gFdiv, gPow, gEq, gNe, ev_oki, ev_oks, ev_okl, ev_okt, gIs, gIsNot, gIsB, gIsNotB, Pd.isNon, dCall, dSeq, dSet, dSetO, dMul, setL, bCons, bOwn, bNil, dIf, dIte, dTB, dAnd, dOr, dNot, dBV, dAndV, dOrV, dChain, dTmp, dTmpT, frzE, dFrz, OD.d, dIxO, dApp, dSetI, dNeg, dLst, dLstO, dTup, dO, dDrop, ev_abs, ev_inttoi, ev_inttob, ev_inttos, ev_strtoi, ev_listl, ev_listt, ev_lists, ev_tupl, ev_tupt, ev_addi, ev_adds, ev_addl, ev_addt, ev_muli, ev_muls, ev_mull, ev_max, ev_min, ev_all, ev_any, gRepr, dLRg, Pd.r1, Pd.r2, eqD_str, eqD_int, eqD_bl, dFld, dProp, dMeth, dAugI, dRev, dMake, dIsi, isT, isC, dNx, dBrk, dNev, dFst, putFD, gNm, gTp, gsCons, gsNil, dAsg, dStar, dYes, iniEnd, flatD, wipeE, ev_ixl, ev_ixt, ev_ixs, ev_ixr, ev_srcl, ev_srct, ev_srcs, ev_at0, ev_at1, ev_atl, ev_atn, ev_ixn, Option.some.injEq, exists_eq_left', exists_eq_left, List.foldl_cons, List.foldl_nil, List.map_cons, List.map_nil, List.replicate, List.length_append, List.length_map, List.length_cons, List.length_nil, List.cons_append, List.nil_append, List.append_nil, List.getElem?_cons_zero, List.getElem?_cons_succ, List.set_cons_zero, List.set_cons_succ, Nat.zero_add, Nat.reduceAdd, Nat.reduceSub, Nat.reduceLeDiff, true_and, and_true, decide_eq_true_eq, decide_eq_false_iff_not, ne_eq, reduceCtorEq, false_implies, true_implies, forall_const, Bool.and_self, Bool.and_true, Bool.true_and]
    have := ft_len (hF g hg)
    exact ⟨_, _, rfl, hF g hg, by unfold ftg at *; simp only [List.length_cons, List.length_nil]; omega, hK⟩
  · rw [List.nil_append, show (gs.map fun g => D.str (g.1 :: ftg g)) = (gs.map fun g => g.1 :: ftg g).map D.str by rw [List.map_map]; rfl, map_isStrs]
    refine ⟨_, rfl, ?_, ?_⟩
    · have e2 : ((gs.map fun b => b.1 :: ftg b).map (·.length)).sum = (gwx gs).length := by
        rw [← gwx_flat, List.length_flatten]
      rw [e2]
      simp only [Nat.mul_zero, Nat.add_zero]
      omega
    · rw [joinL_nil, gwx_flat]
      exact q
def atB (gs : List GB) (k : Nat) : List Bl := gs.map fun g => (g.1, g.2.1 + g.2.2 * k)
theorem adj_atB (k : Nat) : ∀ {gs : List GB}, Adj (gs.map fun g => (g.1, 1)) → Adj (atB gs k)
  | [], _ => trivial
  | [_], _ => trivial
  | _ :: y :: r, h => ⟨h.1, adj_atB k (gs := y :: r) h.2⟩
theorem atB_lt {gs : List GB} {k : Nat} (hF : ∀ g ∈ gs, FOk g.2.1 g.2.2) (hk : k ≤ 10 ^ 20) : ∀ b ∈ atB gs k, b.2 < 10 ^ 22 := fun b hb => by
  obtain ⟨g, hg, rfl⟩ := List.mem_map.mp hb
  obtain ⟨f1, f2, f3⟩ := hF g hg
  have : g.2.2 * k ≤ 9 * 10 ^ 20 := Nat.mul_le_mul f2 hk
  show g.2.1 + g.2.2 * k < 10 ^ 22
  omega
theorem told_at {gs : List GB} {k : Nat} (G : GOk gs) (h1 : 1 ≤ k) (hk : k ≤ 10 ^ 20) : Told (atB gs k) := by
  refine ⟨⟨adj_atB k G.adj, fun b hb => ?_⟩, ?_, fun b hb => ⟨Nat.lt_trans (atB_lt G.fo hk b hb) (by decide), ?_⟩, fun h => ?_⟩
  · obtain ⟨g, hg, rfl⟩ := List.mem_map.mp hb
    obtain ⟨f1, f2, f3⟩ := G.fo g hg
    show 1 ≤ g.2.1 + g.2.2 * k
    by_cases hz : g.2.2 = 0
    · have := f3 hz
      omega
    · have : 1 * 1 ≤ g.2.2 * k := Nat.mul_le_mul (by omega) h1
      omega
  · unfold atB
    rw [List.length_map]
    have := G.most
    omega
  · obtain ⟨g, hg, rfl⟩ := List.mem_map.mp hb
    exact G.lt g hg
  · have := congrArg List.length h
    unfold atB at this
    rw [List.length_map, List.length_nil] at this
    have := G.few
    omega
theorem mul45 {b k : Nat} (hb : b ≤ 9) (hk : k ≤ 10 ^ 20) : CMulW (b : Int) (k : Int) := by
  have h : (2 : Nat) ^ 100 ≤ 2 ^ 400000 := Nat.pow_le_pow_right (by decide) (by decide)
  refine mulW (Nat.lt_of_lt_of_le ?_ h) (Nat.lt_of_lt_of_le ?_ h)
  · rw [Int.natAbs_natCast]
    exact Nat.lt_of_le_of_lt hb (by decide)
  · rw [Int.natAbs_natCast]
    exact Nat.lt_of_le_of_lt hk (by decide)
def s_grown_at : FD := fun ds n P => ∃ (gs : List GB) (k : Nat), ds = [.lst (gs.map gD), .int (k : Nat)] ∧ gs.length ≤ 10 ∧ (∀ g ∈ gs, FOk g.2.1 g.2.2) ∧ k ≤ 10 ^ 20 ∧ P n (.str (txt (atB gs k)))
theorem l_grown_at (c : Str → Addr) : ∀ ds n Q, s_grown_at ds n Q → dFn 5 2 (b__law_grown_at c s_block_text) ds n Q := by
  rintro ds n Q ⟨gs, k, rfl, h10, hF, hk, q⟩
  refine ⟨rfl, ?_⟩
  simp only [b__law_grown_at, dComp, iVal, envOf, dRet, dRetN, dOp, dSl, dSlO, dVar, dC, pSome, pNo, ev_sll, ev_slt, ev_sls, dBi, dCons, dNil, ev_lenl, ev_lent, ev_lens, ev_lenr, ev_gI, TC, Pd.gSub, gLt, gLe, gGt, gGe, gMod, gFdiv, gPow, gEq, gNe, ev_oki, ev_oks, ev_okl, ev_okt, gIs, gIsNot, gIsB, gIsNotB, Pd.isNon, dCall, dSeq, dSet, dSetO, dMul, setL, bCons, bOwn, bNil, dIf, dIte, dTB, dAnd, dOr, dNot, dBV, dAndV, dOrV, dChain, dTmp, dTmpT, frzE, dFrz, OD.d, dIxO, dApp, dSetI, dNeg, dLst, dLstO, dTup, dO, dDrop, ev_abs, ev_inttoi, ev_inttob, ev_inttos, ev_strtoi, ev_listl, ev_listt, ev_lists, ev_tupl, ev_tupt, ev_addi, ev_adds, ev_addl, ev_addt, ev_muli, ev_muls, ev_mull, ev_max, ev_min, ev_all, ev_any, gRepr, dLRg, Pd.r1, Pd.r2, eqD_str, eqD_int, eqD_bl, dFld, dProp, dMeth, dAugI, dRev, dMake, dIsi, isT, isC, dNx, dBrk, dNev, dFst, putFD, gNm, gTp, gsCons, gsNil, dAsg, dStar, dYes, iniEnd, flatD, wipeE, ev_ixl, ev_ixt, ev_ixs, ev_ixr, ev_srcl, ev_srct, ev_srcs, ev_at0, ev_at1, ev_atl, ev_atn, ev_ixn, Option.some.injEq, exists_eq_left', exists_eq_left, List.foldl_cons, List.foldl_nil, List.map_cons, List.map_nil, List.replicate, List.length_append, List.length_map, List.length_cons, List.length_nil, List.cons_append, List.nil_append, List.append_nil, List.getElem?_cons_zero, List.getElem?_cons_succ, List.set_cons_zero, List.set_cons_succ, Nat.zero_add, Nat.reduceAdd, Nat.reduceSub, Nat.reduceLeDiff, true_and, and_true, decide_eq_true_eq, decide_eq_false_iff_not, ne_eq, reduceCtorEq, false_implies, true_implies, forall_const, Bool.and_self, Bool.and_true, Bool.true_and]
  refine ⟨by omega, compW_map gD (fun g => blkD (g.1, g.2.1 + g.2.2 * k)) gs _ _ (fun g hg m K K' hK => ?_) ?_⟩
  · simp only [gD, gI, envOf, dRet, dRetN, dOp, dSl, dSlO, dVar, dC, pSome, pNo, ev_sll, ev_slt, ev_sls, dBi, dCons, dNil, ev_lenl, ev_lent, ev_lens, ev_lenr, ev_gI, TC, Pd.gSub, gLt, gLe, gGt, gGe, gMod, gFdiv, gPow, gEq, gNe, ev_oki, ev_oks, ev_okl, ev_okt, gIs, gIsNot, gIsB, gIsNotB, Pd.isNon, dCall, dSeq, dSet, dSetO, dMul, setL, bCons, bOwn, bNil, dIf, dIte, dTB, dAnd, dOr, dNot, dBV, dAndV, dOrV, dChain, dTmp, dTmpT, frzE, dFrz, OD.d, dIxO, dApp, dSetI, dNeg, dLst, dLstO, dTup, dO, dDrop, ev_abs, ev_inttoi, ev_inttob, ev_inttos, ev_strtoi, ev_listl, ev_listt, ev_lists, ev_tupl, ev_tupt, ev_addi, ev_adds, ev_addl, ev_addt, ev_muli, ev_muls, ev_mull, ev_max, ev_min, ev_all, ev_any, gRepr, dLRg, Pd.r1, Pd.r2, eqD_str, eqD_int, eqD_bl, dFld, dProp, dMeth, dAugI, dRev, dMake, dIsi, isT, isC, dNx, dBrk, dNev, dFst, putFD, gNm, gTp, gsCons, gsNil, dAsg, dStar, dYes, iniEnd, flatD, wipeE, ev_ixl, ev_ixt, ev_ixs, ev_ixr, ev_srcl, ev_srct, ev_srcs, ev_at0, ev_at1, ev_atl, ev_atn, ev_ixn, Option.some.injEq, exists_eq_left', exists_eq_left, List.foldl_cons, List.foldl_nil, List.map_cons, List.map_nil, List.replicate, List.length_append, List.length_map, List.length_cons, List.length_nil, List.cons_append, List.nil_append, List.append_nil, List.getElem?_cons_zero, List.getElem?_cons_succ, List.set_cons_zero, List.set_cons_succ, Nat.zero_add, Nat.reduceAdd, Nat.reduceSub, Nat.reduceLeDiff, true_and, and_true, decide_eq_true_eq, decide_eq_false_iff_not, ne_eq, reduceCtorEq, false_implies, true_implies, forall_const, Bool.and_self, Bool.and_true, Bool.true_and]
    refine ⟨?_, ?_⟩
    · obtain ⟨f1, f2, f3⟩ := hF g hg
      exact mul45 f2 hk
    · rw [show ((g.2.1 : Nat) : Int) + ((g.2.2 : Nat) : Int) * ((k : Nat) : Int) = ((g.2.1 + g.2.2 * k : Nat) : Int) by simp]
      exact hK
  · rw [List.nil_append]
    refine ⟨atB gs k, by unfold atB; rw [List.map_map]; rfl, by unfold atB; rw [List.length_map]; omega, fun b hb => Nat.lt_trans (atB_lt hF hk b hb) (by decide), q⟩
theorem word_at {c : Str → Addr} {gs : List GB} {k : Nat} {m : Nat} {N : DN} {s4 s5 s6 s3 : Sl} {s0 s1 : Sl} (G : GOk gs) (h1 : 1 ≤ k) (hk : k ≤ 10 ^ 20) (q : N.rt m (wordD c (atB gs k))) :
    (dRet (dMake (c "Word") i_word [] (dCons (dJoin (dC (.str [])) (dO (dComp (iVal (dVar 2)) (gTp 2 (gsCons (gNm 3) (gsCons (gNm 6) gsNil))) dYes (dOp gAdd (dVar 3) (dIte (dTB (dOp gEq (dVar 6) (dC (.int 1)))) (dC (.str [])) (dBi gStr (dCons (dVar 6) dNil)))) [3, 6]))) dNil))) N m [s0, s1, .val (.lst ((atB gs k).map blkD)), s3, s4, s5, s6] := by
  have T := told_at G h1 hk
  have hb30 : ∀ b ∈ atB gs k, b.2 < 10 ^ 31 := fun b hb => Nat.lt_trans (T.2.2.1 b hb).1 (by decide)
  generalize atB gs k = bs at *
  have h40 := T.2.1
  simp only [dJoin, dComp, iVal, envOf, dRet, dRetN, dOp, dSl, dSlO, dVar, dC, pSome, pNo, ev_sll, ev_slt, ev_sls, dBi, dCons, dNil, ev_lenl, ev_lent, ev_lens, ev_lenr, ev_gI, TC, Pd.gSub, gLt, gLe, gGt, gGe, gMod, gFdiv, gPow, gEq, gNe, ev_oki, ev_oks, ev_okl, ev_okt, gIs, gIsNot, gIsB, gIsNotB, Pd.isNon, dCall, dSeq, dSet, dSetO, dMul, setL, bCons, bOwn, bNil, dIf, dIte, dTB, dAnd, dOr, dNot, dBV, dAndV, dOrV, dChain, dTmp, dTmpT, frzE, dFrz, OD.d, dIxO, dApp, dSetI, dNeg, dLst, dLstO, dTup, dO, dDrop, ev_abs, ev_inttoi, ev_inttob, ev_inttos, ev_strtoi, ev_listl, ev_listt, ev_lists, ev_tupl, ev_tupt, ev_addi, ev_adds, ev_addl, ev_addt, ev_muli, ev_muls, ev_mull, ev_max, ev_min, ev_all, ev_any, gRepr, dLRg, Pd.r1, Pd.r2, eqD_str, eqD_int, eqD_bl, dFld, dProp, dMeth, dAugI, dRev, dMake, dIsi, isT, isC, dNx, dBrk, dNev, dFst, putFD, gNm, gTp, gsCons, gsNil, dAsg, dStar, dYes, iniEnd, flatD, wipeE, ev_ixl, ev_ixt, ev_ixs, ev_ixr, ev_srcl, ev_srct, ev_srcs, ev_at0, ev_at1, ev_atl, ev_atn, ev_ixn, Option.some.injEq, exists_eq_left', exists_eq_left, List.foldl_cons, List.foldl_nil, List.map_cons, List.map_nil, List.replicate, List.length_append, List.length_map, List.length_cons, List.length_nil, List.cons_append, List.nil_append, List.append_nil, List.getElem?_cons_zero, List.getElem?_cons_succ, List.set_cons_zero, List.set_cons_succ, Nat.zero_add, Nat.reduceAdd, Nat.reduceSub, Nat.reduceLeDiff, true_and, and_true, decide_eq_true_eq, decide_eq_false_iff_not, ne_eq, reduceCtorEq, false_implies, true_implies, forall_const, Bool.and_self, Bool.and_true, Bool.true_and]
  refine ⟨by omega, compW_map blkD (fun b => .str (b.1 :: tail b.2)) bs _ _ (fun b hb n K K' q3 => ?_) ?_⟩
  · have hk := hb30 b hb
    have hp := T.1.pos b hb
    simp only [blkD, envOf, dRet, dRetN, dOp, dSl, dSlO, dVar, dC, pSome, pNo, ev_sll, ev_slt, ev_sls, dBi, dCons, dNil, ev_lenl, ev_lent, ev_lens, ev_lenr, ev_gI, TC, Pd.gSub, gLt, gLe, gGt, gGe, gMod, gFdiv, gPow, gEq, gNe, ev_oki, ev_oks, ev_okl, ev_okt, gIs, gIsNot, gIsB, gIsNotB, Pd.isNon, dCall, dSeq, dSet, dSetO, dMul, setL, bCons, bOwn, bNil, dIf, dIte, dTB, dAnd, dOr, dNot, dBV, dAndV, dOrV, dChain, dTmp, dTmpT, frzE, dFrz, OD.d, dIxO, dApp, dSetI, dNeg, dLst, dLstO, dTup, dO, dDrop, ev_abs, ev_inttoi, ev_inttob, ev_inttos, ev_strtoi, ev_listl, ev_listt, ev_lists, ev_tupl, ev_tupt, ev_addi, ev_adds, ev_addl, ev_addt, ev_muli, ev_muls, ev_mull, ev_max, ev_min, ev_all, ev_any, gRepr, dLRg, Pd.r1, Pd.r2, eqD_str, eqD_int, eqD_bl, dFld, dProp, dMeth, dAugI, dRev, dMake, dIsi, isT, isC, dNx, dBrk, dNev, dFst, putFD, gNm, gTp, gsCons, gsNil, dAsg, dStar, dYes, iniEnd, flatD, wipeE, ev_ixl, ev_ixt, ev_ixs, ev_ixr, ev_srcl, ev_srct, ev_srcs, ev_at0, ev_at1, ev_atl, ev_atn, ev_ixn, Option.some.injEq, exists_eq_left', exists_eq_left, List.foldl_cons, List.foldl_nil, List.map_cons, List.map_nil, List.replicate, List.length_append, List.length_map, List.length_cons, List.length_nil, List.cons_append, List.nil_append, List.append_nil, List.getElem?_cons_zero, List.getElem?_cons_succ, List.set_cons_zero, List.set_cons_succ, Nat.zero_add, Nat.reduceAdd, Nat.reduceSub, Nat.reduceLeDiff, true_and, and_true, decide_eq_true_eq, decide_eq_false_iff_not, ne_eq, reduceCtorEq, false_implies, true_implies, forall_const, Bool.and_self, Bool.and_true, Bool.true_and]
    refine ⟨fun h => ?_, fun h => ?_⟩
    · rw [tail, if_neg (by omega)] at q3
      exact q3
    · rw [tail, if_pos (by omega)] at q3
      have := numD_len hk
      exact ⟨log_lt hk, by omega, q3⟩
  · rw [List.nil_append, show (bs.map fun b => D.str (b.1 :: tail b.2)) = (bs.map fun b => b.1 :: tail b.2).map D.str by rw [List.map_map]; rfl, map_isStrs]
    refine ⟨_, rfl, ?_, ?_⟩
    · have e2 : ((bs.map fun b => b.1 :: tail b.2).map (·.length)).sum = (txt bs).length := by
        rw [← txt_flat, List.length_flatten]
      rw [e2]
      have := txt_len hb30
      simp only [Nat.mul_zero, Nat.add_zero]
      omega
    · rw [joinL_nil, txt_flat]
      exact ⟨bs, rfl, T, q⟩
theorem at_rest {c : Str → Addr} {gs : List GB} {k : Nat} {m : Nat} {N : DN} (G : GOk gs) (h1 : 1 ≤ k) (hk : k ≤ 10 ^ 20) (q : N.rt m (wordD c (atB gs k))) :
    (dSeq (dSet 2 (dO (dComp (iVal (dFld (c "Grown") "own_blocks" (dVar 0))) (gTp 3 (gsCons (gNm 3) (gsCons (gNm 4) (gsCons (gNm 5) gsNil)))) dYes (dTup (dCons (dVar 3) (dCons (dOp gAdd (dVar 4) (dOp gMul (dVar 5) (dVar 1))) dNil))) [3, 4, 5])))
    (dRet (dMake (c "Word") i_word [] (dCons (dJoin (dC (.str [])) (dO (dComp (iVal (dVar 2)) (gTp 2 (gsCons (gNm 3) (gsCons (gNm 6) gsNil))) dYes (dOp gAdd (dVar 3) (dIte (dTB (dOp gEq (dVar 6) (dC (.int 1)))) (dC (.str [])) (dBi gStr (dCons (dVar 6) dNil)))) [3, 6]))) dNil)))) N m [.val (grownD c gs), .val (.int (k : Nat)), .no, .no, .no, .no, .no] := by
  refine seqAt m [.val (grownD c gs), .val (.int (k : Nat)), .val (.lst ((atB gs k).map blkD)), .no, .no, .no, .no] (fun nx hnx => ?_) (word_at G h1 hk q)
  have h10 := G.most
  simp only [dComp, iVal, grownD, fldsG, envOf, dRet, dRetN, dOp, dSl, dSlO, dVar, dC, pSome, pNo, ev_sll, ev_slt, ev_sls, dBi, dCons, dNil, ev_lenl, ev_lent, ev_lens, ev_lenr, ev_gI, TC, Pd.gSub, gLt, gLe, gGt, gGe, gMod, gFdiv, gPow, gEq, gNe, ev_oki, ev_oks, ev_okl, ev_okt, gIs, gIsNot, gIsB, gIsNotB, Pd.isNon, dCall, dSeq, dSet, dSetO, dMul, setL, bCons, bOwn, bNil, dIf, dIte, dTB, dAnd, dOr, dNot, dBV, dAndV, dOrV, dChain, dTmp, dTmpT, frzE, dFrz, OD.d, dIxO, dApp, dSetI, dNeg, dLst, dLstO, dTup, dO, dDrop, ev_abs, ev_inttoi, ev_inttob, ev_inttos, ev_strtoi, ev_listl, ev_listt, ev_lists, ev_tupl, ev_tupt, ev_addi, ev_adds, ev_addl, ev_addt, ev_muli, ev_muls, ev_mull, ev_max, ev_min, ev_all, ev_any, gRepr, dLRg, Pd.r1, Pd.r2, eqD_str, eqD_int, eqD_bl, dFld, dProp, dMeth, dAugI, dRev, dMake, dIsi, isT, isC, dNx, dBrk, dNev, dFst, gNm, gTp, gsCons, gsNil, dAsg, dStar, dYes, iniEnd, flatD, wipeE, ev_ixl, ev_ixt, ev_ixs, ev_ixr, ev_srcl, ev_srct, ev_srcs, ev_at0, ev_at1, ev_atl, ev_atn, ev_ixn, Option.some.injEq, exists_eq_left', exists_eq_left, List.foldl_cons, List.foldl_nil, List.map_cons, List.map_nil, List.replicate, List.length_append, List.length_map, List.length_cons, List.length_nil, List.cons_append, List.nil_append, List.append_nil, List.getElem?_cons_zero, List.getElem?_cons_succ, List.set_cons_zero, List.set_cons_succ, Nat.zero_add, Nat.reduceAdd, Nat.reduceSub, Nat.reduceLeDiff, true_and, and_true, decide_eq_true_eq, decide_eq_false_iff_not, ne_eq, reduceCtorEq, false_implies, true_implies, forall_const, Bool.and_self, Bool.and_true, Bool.true_and, lk_ends, lk_blocks, lk_text, lk_spot, lk_letter, Int.toNat_natCast, dFldO, dTmq, dMut, dSetQ, dParQ, qMake, D.still, D.stills, lf_past, lf_word, lf_letters, pf_past, pf_later, pm1, pm2, pm3, pm4, pi1, pi2, pi3, pi4, pi5, lm_state, lm_text, lm_search]
  refine ⟨.tup (gs.map gD), rfl, ?_⟩
  simp only [envOf, dRet, dRetN, dOp, dSl, dSlO, dVar, dC, pSome, pNo, ev_sll, ev_slt, ev_sls, dBi, dCons, dNil, ev_lenl, ev_lent, ev_lens, ev_lenr, ev_gI, TC, Pd.gSub, gLt, gLe, gGt, gGe, gMod, gFdiv, gPow, gEq, gNe, ev_oki, ev_oks, ev_okl, ev_okt, gIs, gIsNot, gIsB, gIsNotB, Pd.isNon, dCall, dSeq, dSet, dSetO, dMul, setL, bCons, bOwn, bNil, dIf, dIte, dTB, dAnd, dOr, dNot, dBV, dAndV, dOrV, dChain, dTmp, dTmpT, frzE, dFrz, OD.d, dIxO, dApp, dSetI, dNeg, dLst, dLstO, dTup, dO, dDrop, ev_abs, ev_inttoi, ev_inttob, ev_inttos, ev_strtoi, ev_listl, ev_listt, ev_lists, ev_tupl, ev_tupt, ev_addi, ev_adds, ev_addl, ev_addt, ev_muli, ev_muls, ev_mull, ev_max, ev_min, ev_all, ev_any, gRepr, dLRg, Pd.r1, Pd.r2, eqD_str, eqD_int, eqD_bl, dFld, dProp, dMeth, dAugI, dRev, dMake, dIsi, isT, isC, dNx, dBrk, dNev, dFst, gNm, gTp, gsCons, gsNil, dAsg, dStar, dYes, iniEnd, flatD, wipeE, ev_ixl, ev_ixt, ev_ixs, ev_ixr, ev_srcl, ev_srct, ev_srcs, ev_at0, ev_at1, ev_atl, ev_atn, ev_ixn, Option.some.injEq, exists_eq_left', exists_eq_left, List.foldl_cons, List.foldl_nil, List.map_cons, List.map_nil, List.replicate, List.length_append, List.length_map, List.length_cons, List.length_nil, List.cons_append, List.nil_append, List.append_nil, List.getElem?_cons_zero, List.getElem?_cons_succ, List.set_cons_zero, List.set_cons_succ, Nat.zero_add, Nat.reduceAdd, Nat.reduceSub, Nat.reduceLeDiff, true_and, and_true, decide_eq_true_eq, decide_eq_false_iff_not, ne_eq, reduceCtorEq, false_implies, true_implies, forall_const, Bool.and_self, Bool.and_true, Bool.true_and, lk_ends, lk_blocks, lk_text, lk_spot, lk_letter, Int.toNat_natCast, dFldO, dTmq, dMut, dSetQ, dParQ, qMake, D.still, D.stills, lf_past, lf_word, lf_letters, pf_past, pf_later, pm1, pm2, pm3, pm4, pi1, pi2, pi3, pi4, pi5, lm_state, lm_text, lm_search]
  refine ⟨by omega, compW_map gD (fun g => blkD (g.1, g.2.1 + g.2.2 * k)) gs _ _ (fun g hg m K K' hK => ?_) ?_⟩
  · simp only [gD, gI, envOf, dRet, dRetN, dOp, dSl, dSlO, dVar, dC, pSome, pNo, ev_sll, ev_slt, ev_sls, dBi, dCons, dNil, ev_lenl, ev_lent, ev_lens, ev_lenr, ev_gI, TC, Pd.gSub, gLt, gLe, gGt, gGe, gMod, gFdiv, gPow, gEq, gNe, ev_oki, ev_oks, ev_okl, ev_okt, gIs, gIsNot, gIsB, gIsNotB, Pd.isNon, dCall, dSeq, dSet, dSetO, dMul, setL, bCons, bOwn, bNil, dIf, dIte, dTB, dAnd, dOr, dNot, dBV, dAndV, dOrV, dChain, dTmp, dTmpT, frzE, dFrz, OD.d, dIxO, dApp, dSetI, dNeg, dLst, dLstO, dTup, dO, dDrop, ev_abs, ev_inttoi, ev_inttob, ev_inttos, ev_strtoi, ev_listl, ev_listt, ev_lists, ev_tupl, ev_tupt, ev_addi, ev_adds, ev_addl, ev_addt, ev_muli, ev_muls, ev_mull, ev_max, ev_min, ev_all, ev_any, gRepr, dLRg, Pd.r1, Pd.r2, eqD_str, eqD_int, eqD_bl, dFld, dProp, dMeth, dAugI, dRev, dMake, dIsi, isT, isC, dNx, dBrk, dNev, dFst, putFD, gNm, gTp, gsCons, gsNil, dAsg, dStar, dYes, iniEnd, flatD, wipeE, ev_ixl, ev_ixt, ev_ixs, ev_ixr, ev_srcl, ev_srct, ev_srcs, ev_at0, ev_at1, ev_atl, ev_atn, ev_ixn, Option.some.injEq, exists_eq_left', exists_eq_left, List.foldl_cons, List.foldl_nil, List.map_cons, List.map_nil, List.replicate, List.length_append, List.length_map, List.length_cons, List.length_nil, List.cons_append, List.nil_append, List.append_nil, List.getElem?_cons_zero, List.getElem?_cons_succ, List.set_cons_zero, List.set_cons_succ, Nat.zero_add, Nat.reduceAdd, Nat.reduceSub, Nat.reduceLeDiff, true_and, and_true, decide_eq_true_eq, decide_eq_false_iff_not, ne_eq, reduceCtorEq, false_implies, true_implies, forall_const, Bool.and_self, Bool.and_true, Bool.true_and]
    refine ⟨?_, ?_⟩
    · obtain ⟨f1, f2, f3⟩ := G.fo g hg
      exact mul45 f2 hk
    · rw [show ((g.2.1 : Nat) : Int) + ((g.2.2 : Nat) : Int) * ((k : Nat) : Int) = ((g.2.1 + g.2.2 * k : Nat) : Int) by simp]
      exact hK
  · rw [List.nil_append, show (gs.map fun g => blkD (g.1, g.2.1 + g.2.2 * k)) = (atB gs k).map blkD by unfold atB; rw [List.map_map]; rfl]
    exact hnx
def s_GrownAtX (c : Str → Addr) : FDX := fun ds n P R => ∃ (gs : List GB) (d : D), ds = [grownD c gs, d] ∧ GOk gs ∧ plD d = true ∧
  (intIn d 1 (some (10 ^ 20)) = true → ∀ k : Nat, d = .int (k : Nat) → 1 ≤ k → k ≤ 10 ^ 20 → P n (wordD c (atB gs k))) ∧ (intIn d 1 (some (10 ^ 20)) = false → R n (c "BadNumber") d)
theorem l_GrownAtX (c : Str → Addr) : ∀ ds n Q R, s_GrownAtX c ds n Q R → dFnX 7 2 (b_Grown_at_x_v2 c s_intG i_word) ds n Q R := by
  rintro ds n Q R ⟨gs, d, rfl, G, hd, q1, q2⟩
  refine ⟨rfl, ?_⟩
  have h10 := G.most
  show dSeq _ _ _ _ _
  cases hi : intIn d 1 (some (10 ^ 20)) with
  | false =>
    show dIf _ _ _ _ _ _
    simp only [envOf, dRet, dRetN, dOp, dSl, dSlO, dVar, dC, pSome, pNo, ev_sll, ev_slt, ev_sls, dBi, dCons, dNil, ev_lenl, ev_lent, ev_lens, ev_lenr, ev_gI, TC, Pd.gSub, gLt, gLe, gGt, gGe, gMod, gFdiv, gPow, gEq, gNe, ev_oki, ev_oks, ev_okl, ev_okt, gIs, gIsNot, gIsB, gIsNotB, Pd.isNon, dCall, dSeq, dSet, dSetO, dMul, setL, bCons, bOwn, bNil, dIf, dIte, dTB, dAnd, dOr, dNot, dBV, dAndV, dOrV, dChain, dTmp, dTmpT, frzE, dFrz, OD.d, dIxO, dApp, dSetI, dNeg, dLst, dLstO, dTup, dO, dDrop, ev_abs, ev_inttoi, ev_inttob, ev_inttos, ev_strtoi, ev_listl, ev_listt, ev_lists, ev_tupl, ev_tupt, ev_addi, ev_adds, ev_addl, ev_addt, ev_muli, ev_muls, ev_mull, ev_max, ev_min, ev_all, ev_any, gRepr, dLRg, Pd.r1, Pd.r2, eqD_str, eqD_int, eqD_bl, dFld, dProp, dMeth, dAugI, dRev, dMake, dIsi, isT, isC, dNx, dBrk, dNev, dFst, gNm, gTp, gsCons, gsNil, dAsg, dStar, dYes, iniEnd, flatD, wipeE, ev_ixl, ev_ixt, ev_ixs, ev_ixr, ev_srcl, ev_srct, ev_srcs, ev_at0, ev_at1, ev_atl, ev_atn, ev_ixn, Option.some.injEq, exists_eq_left', exists_eq_left, List.foldl_cons, List.foldl_nil, List.map_cons, List.map_nil, List.replicate, List.length_append, List.length_map, List.length_cons, List.length_nil, List.cons_append, List.nil_append, List.append_nil, List.getElem?_cons_zero, List.getElem?_cons_succ, List.set_cons_zero, List.set_cons_succ, Nat.zero_add, Nat.reduceAdd, Nat.reduceSub, Nat.reduceLeDiff, true_and, and_true, decide_eq_true_eq, decide_eq_false_iff_not, ne_eq, reduceCtorEq, false_implies, true_implies, forall_const, Bool.and_self, Bool.and_true, Bool.true_and, lk_ends, lk_blocks, lk_text, lk_spot, lk_letter, Int.toNat_natCast, dFldO, dTmq, dMut, dSetQ, dParQ, qMake, D.still, D.stills, lf_past, lf_word, lf_letters, pf_past, pf_later, pm1, pm2, pm3, pm4, pi1, pi2, pi3, pi4, pi5, lm_state, lm_text, lm_search]
    refine ⟨d, 1, some (10 ^ 20), rfl, hd, ?_⟩
    rw [hi]
    refine ⟨fun _ => ?_, fun h => by cases h⟩
    simp only [dRaise, one, envOf, dRet, dRetN, dOp, dSl, dSlO, dVar, dC, pSome, pNo, ev_sll, ev_slt, ev_sls, dBi, dCons, dNil, ev_lenl, ev_lent, ev_lens, ev_lenr, ev_gI, TC, Pd.gSub, gLt, gLe, gGt, gGe, gMod, gFdiv, gPow, gEq, gNe, ev_oki, ev_oks, ev_okl, ev_okt, gIs, gIsNot, gIsB, gIsNotB, Pd.isNon, dCall, dSeq, dSet, dSetO, dMul, setL, bCons, bOwn, bNil, dIf, dIte, dTB, dAnd, dOr, dNot, dBV, dAndV, dOrV, dChain, dTmp, dTmpT, frzE, dFrz, OD.d, dIxO, dApp, dSetI, dNeg, dLst, dLstO, dTup, dO, dDrop, ev_abs, ev_inttoi, ev_inttob, ev_inttos, ev_strtoi, ev_listl, ev_listt, ev_lists, ev_tupl, ev_tupt, ev_addi, ev_adds, ev_addl, ev_addt, ev_muli, ev_muls, ev_mull, ev_max, ev_min, ev_all, ev_any, gRepr, dLRg, Pd.r1, Pd.r2, eqD_str, eqD_int, eqD_bl, dFld, dProp, dMeth, dAugI, dRev, dMake, dIsi, isT, isC, dNx, dBrk, dNev, dFst, gNm, gTp, gsCons, gsNil, dAsg, dStar, dYes, iniEnd, flatD, wipeE, ev_ixl, ev_ixt, ev_ixs, ev_ixr, ev_srcl, ev_srct, ev_srcs, ev_at0, ev_at1, ev_atl, ev_atn, ev_ixn, Option.some.injEq, exists_eq_left', exists_eq_left, List.foldl_cons, List.foldl_nil, List.map_cons, List.map_nil, List.replicate, List.length_append, List.length_map, List.length_cons, List.length_nil, List.cons_append, List.nil_append, List.append_nil, List.getElem?_cons_zero, List.getElem?_cons_succ, List.set_cons_zero, List.set_cons_succ, Nat.zero_add, Nat.reduceAdd, Nat.reduceSub, Nat.reduceLeDiff, true_and, and_true, decide_eq_true_eq, decide_eq_false_iff_not, ne_eq, reduceCtorEq, false_implies, true_implies, forall_const, Bool.and_self, Bool.and_true, Bool.true_and, lk_ends, lk_blocks, lk_text, lk_spot, lk_letter, Int.toNat_natCast, dFldO, dTmq, dMut, dSetQ, dParQ, qMake, D.still, D.stills, lf_past, lf_word, lf_letters, pf_past, pf_later, pm1, pm2, pm3, pm4, pi1, pi2, pi3, pi4, pi5, lm_state, lm_text, lm_search]
    exact q2 hi
  | true =>
    refine seqAt n [.val (grownD c gs), .val d, .no, .no, .no, .no, .no] (fun nx hnx => ?_) ?_
    · simp only [envOf, dRet, dRetN, dOp, dSl, dSlO, dVar, dC, pSome, pNo, ev_sll, ev_slt, ev_sls, dBi, dCons, dNil, ev_lenl, ev_lent, ev_lens, ev_lenr, ev_gI, TC, Pd.gSub, gLt, gLe, gGt, gGe, gMod, gFdiv, gPow, gEq, gNe, ev_oki, ev_oks, ev_okl, ev_okt, gIs, gIsNot, gIsB, gIsNotB, Pd.isNon, dCall, dSeq, dSet, dSetO, dMul, setL, bCons, bOwn, bNil, dIf, dIte, dTB, dAnd, dOr, dNot, dBV, dAndV, dOrV, dChain, dTmp, dTmpT, frzE, dFrz, OD.d, dIxO, dApp, dSetI, dNeg, dLst, dLstO, dTup, dO, dDrop, ev_abs, ev_inttoi, ev_inttob, ev_inttos, ev_strtoi, ev_listl, ev_listt, ev_lists, ev_tupl, ev_tupt, ev_addi, ev_adds, ev_addl, ev_addt, ev_muli, ev_muls, ev_mull, ev_max, ev_min, ev_all, ev_any, gRepr, dLRg, Pd.r1, Pd.r2, eqD_str, eqD_int, eqD_bl, dFld, dProp, dMeth, dAugI, dRev, dMake, dIsi, isT, isC, dNx, dBrk, dNev, dFst, gNm, gTp, gsCons, gsNil, dAsg, dStar, dYes, iniEnd, flatD, wipeE, ev_ixl, ev_ixt, ev_ixs, ev_ixr, ev_srcl, ev_srct, ev_srcs, ev_at0, ev_at1, ev_atl, ev_atn, ev_ixn, Option.some.injEq, exists_eq_left', exists_eq_left, List.foldl_cons, List.foldl_nil, List.map_cons, List.map_nil, List.replicate, List.length_append, List.length_map, List.length_cons, List.length_nil, List.cons_append, List.nil_append, List.append_nil, List.getElem?_cons_zero, List.getElem?_cons_succ, List.set_cons_zero, List.set_cons_succ, Nat.zero_add, Nat.reduceAdd, Nat.reduceSub, Nat.reduceLeDiff, true_and, and_true, decide_eq_true_eq, decide_eq_false_iff_not, ne_eq, reduceCtorEq, false_implies, true_implies, forall_const, Bool.and_self, Bool.and_true, Bool.true_and, lk_ends, lk_blocks, lk_text, lk_spot, lk_letter, Int.toNat_natCast, dFldO, dTmq, dMut, dSetQ, dParQ, qMake, D.still, D.stills, lf_past, lf_word, lf_letters, pf_past, pf_later, pm1, pm2, pm3, pm4, pi1, pi2, pi3, pi4, pi5, lm_state, lm_text, lm_search]
      refine ⟨d, 1, some (10 ^ 20), rfl, hd, ?_⟩
      rw [hi]
      exact ⟨fun h => (by cases h), fun _ => hnx⟩
    cases d with
    | int v =>
      have hi' := hi
      simp only [intIn, Bool.and_eq_true, decide_eq_true_eq] at hi'
      obtain ⟨k, rfl⟩ : ∃ k : Nat, v = k := ⟨v.toNat, by omega⟩
      have h1 : 1 ≤ k := by omega
      have hk : k ≤ 10 ^ 20 := by omega
      exact at_rest G h1 hk (q1 hi k rfl h1 hk)
    | _ => cases hi
def s_GrownAt (c : Str → Addr) : FD := fun ds n P => ∃ (gs : List GB) (k : Nat), ds = [grownD c gs, .int (k : Nat)] ∧ GOk gs ∧ 1 ≤ k ∧ k ≤ 10 ^ 20 ∧ P n (wordD c (atB gs k))
theorem l_GrownAt (c : Str → Addr) : ∀ ds n Q, s_GrownAt c ds n Q → dFn 7 2 (b_Grown_at_v2 c s_intG i_word) ds n Q := by
  rintro ds n Q ⟨gs, k, rfl, G, h1, hk, q⟩
  refine ⟨rfl, ?_⟩
  refine seqAt n [.val (grownD c gs), .val (.int (k : Nat)), .no, .no, .no, .no, .no] (fun nx hnx => ?_) ?_
  · simp only [envOf, dRet, dRetN, dOp, dSl, dSlO, dVar, dC, pSome, pNo, ev_sll, ev_slt, ev_sls, dBi, dCons, dNil, ev_lenl, ev_lent, ev_lens, ev_lenr, ev_gI, TC, Pd.gSub, gLt, gLe, gGt, gGe, gMod, gFdiv, gPow, gEq, gNe, ev_oki, ev_oks, ev_okl, ev_okt, gIs, gIsNot, gIsB, gIsNotB, Pd.isNon, dCall, dSeq, dSet, dSetO, dMul, setL, bCons, bOwn, bNil, dIf, dIte, dTB, dAnd, dOr, dNot, dBV, dAndV, dOrV, dChain, dTmp, dTmpT, frzE, dFrz, OD.d, dIxO, dApp, dSetI, dNeg, dLst, dLstO, dTup, dO, dDrop, ev_abs, ev_inttoi, ev_inttob, ev_inttos, ev_strtoi, ev_listl, ev_listt, ev_lists, ev_tupl, ev_tupt, ev_addi, ev_adds, ev_addl, ev_addt, ev_muli, ev_muls, ev_mull, ev_max, ev_min, ev_all, ev_any, gRepr, dLRg, Pd.r1, Pd.r2, eqD_str, eqD_int, eqD_bl, dFld, dProp, dMeth, dAugI, dRev, dMake, dIsi, isT, isC, dNx, dBrk, dNev, dFst, gNm, gTp, gsCons, gsNil, dAsg, dStar, dYes, iniEnd, flatD, wipeE, ev_ixl, ev_ixt, ev_ixs, ev_ixr, ev_srcl, ev_srct, ev_srcs, ev_at0, ev_at1, ev_atl, ev_atn, ev_ixn, Option.some.injEq, exists_eq_left', exists_eq_left, List.foldl_cons, List.foldl_nil, List.map_cons, List.map_nil, List.replicate, List.length_append, List.length_map, List.length_cons, List.length_nil, List.cons_append, List.nil_append, List.append_nil, List.getElem?_cons_zero, List.getElem?_cons_succ, List.set_cons_zero, List.set_cons_succ, Nat.zero_add, Nat.reduceAdd, Nat.reduceSub, Nat.reduceLeDiff, true_and, and_true, decide_eq_true_eq, decide_eq_false_iff_not, ne_eq, reduceCtorEq, false_implies, true_implies, forall_const, Bool.and_self, Bool.and_true, Bool.true_and, lk_ends, lk_blocks, lk_text, lk_spot, lk_letter, Int.toNat_natCast, dFldO, dTmq, dMut, dSetQ, dParQ, qMake, D.still, D.stills, lf_past, lf_word, lf_letters, pf_past, pf_later, pm1, pm2, pm3, pm4, pi1, pi2, pi3, pi4, pi5, lm_state, lm_text, lm_search]
    refine ⟨.int (k : Nat), 1, some (10 ^ 20), rfl, rfl, ?_⟩
    rw [show intIn (.int (k : Nat)) 1 (some (10 ^ 20)) = true by simp only [intIn, Bool.and_eq_true, decide_eq_true_eq]; omega]
    exact ⟨fun h => (by cases h), fun _ => hnx⟩
  exact at_rest G h1 hk q
end LW
namespace LW
open PySem L2 Pd
theorem l_is_said45 (c : Str → Addr) : ∀ ds n Q, s_is_said ds n Q → dFn 2 2 (b_is_said_v2 c) ds n Q := by
  rintro ds n Q (⟨b, rfl, h, q⟩ | ⟨a, rfl, h, q⟩)
  · refine ⟨rfl, ?_⟩
    simp only [b_is_said_v2, envOf, dRet, dRetN, dOp, dSl, dSlO, dVar, dC, pSome, pNo, ev_sll, ev_slt, ev_sls, dBi, dCons, dNil, ev_lenl, ev_lent, ev_lens, ev_lenr, ev_gI, TC, Pd.gSub, gLt, gLe, gGt, gGe, gMod, gFdiv, gPow, gEq, gNe, ev_oki, ev_oks, ev_okl, ev_okt, gIs, gIsNot, gIsB, gIsNotB, Pd.isNon, dCall, dSeq, dSet, dSetO, dMul, setL, bCons, bOwn, bNil, dIf, dIte, dTB, dAnd, dOr, dNot, dBV, dAndV, dOrV, dChain, dTmp, dTmpT, frzE, dFrz, OD.d, dIxO, dApp, dSetI, dNeg, dLst, dLstO, dTup, dO, dDrop, ev_abs, ev_inttoi, ev_inttob, ev_inttos, ev_strtoi, ev_listl, ev_listt, ev_lists, ev_tupl, ev_tupt, ev_addi, ev_adds, ev_addl, ev_addt, ev_muli, ev_muls, ev_mull, ev_max, ev_min, ev_all, ev_any, gRepr, dLRg, Pd.r1, Pd.r2, eqD_str, eqD_int, eqD_bl, dFld, dProp, dMeth, dAugI, dRev, dMake, dIsi, isT, isC, dNx, dBrk, dNev, dFst, putFD, gNm, gTp, gsCons, gsNil, dAsg, dStar, dYes, iniEnd, flatD, wipeE, ev_ixl, ev_ixt, ev_ixs, ev_ixr, ev_srcl, ev_srct, ev_srcs, ev_at0, ev_at1, ev_atl, ev_atn, ev_ixn, Option.some.injEq, exists_eq_left', exists_eq_left, List.foldl_cons, List.foldl_nil, List.map_cons, List.map_nil, List.replicate, List.length_append, List.length_map, List.length_cons, List.length_nil, List.cons_append, List.nil_append, List.append_nil, List.getElem?_cons_zero, List.getElem?_cons_succ, List.set_cons_zero, List.set_cons_succ, Nat.zero_add, Nat.reduceAdd, Nat.reduceSub, Nat.reduceLeDiff, true_and, and_true, decide_eq_true_eq, decide_eq_false_iff_not, ne_eq, reduceCtorEq, false_implies, true_implies, forall_const, Bool.and_self, Bool.and_true, Bool.true_and]
    refine ⟨⟨okIn_sgn _ _, ?_⟩, fun h => absurd trivial h⟩
    rw [in_sgn h]
    exact q
  · refine ⟨rfl, ?_⟩
    simp only [b_is_said_v2, envOf, dRet, dRetN, dOp, dSl, dSlO, dVar, dC, pSome, pNo, ev_sll, ev_slt, ev_sls, dBi, dCons, dNil, ev_lenl, ev_lent, ev_lens, ev_lenr, ev_gI, TC, Pd.gSub, gLt, gLe, gGt, gGe, gMod, gFdiv, gPow, gEq, gNe, ev_oki, ev_oks, ev_okl, ev_okt, gIs, gIsNot, gIsB, gIsNotB, Pd.isNon, dCall, dSeq, dSet, dSetO, dMul, setL, bCons, bOwn, bNil, dIf, dIte, dTB, dAnd, dOr, dNot, dBV, dAndV, dOrV, dChain, dTmp, dTmpT, frzE, dFrz, OD.d, dIxO, dApp, dSetI, dNeg, dLst, dLstO, dTup, dO, dDrop, ev_abs, ev_inttoi, ev_inttob, ev_inttos, ev_strtoi, ev_listl, ev_listt, ev_lists, ev_tupl, ev_tupt, ev_addi, ev_adds, ev_addl, ev_addt, ev_muli, ev_muls, ev_mull, ev_max, ev_min, ev_all, ev_any, gRepr, dLRg, Pd.r1, Pd.r2, eqD_str, eqD_int, eqD_bl, dFld, dProp, dMeth, dAugI, dRev, dMake, dIsi, isT, isC, dNx, dBrk, dNev, dFst, putFD, gNm, gTp, gsCons, gsNil, dAsg, dStar, dYes, iniEnd, flatD, wipeE, ev_ixl, ev_ixt, ev_ixs, ev_ixr, ev_srcl, ev_srct, ev_srcs, ev_at0, ev_at1, ev_atl, ev_atn, ev_ixn, Option.some.injEq, exists_eq_left', exists_eq_left, List.foldl_cons, List.foldl_nil, List.map_cons, List.map_nil, List.replicate, List.length_append, List.length_map, List.length_cons, List.length_nil, List.cons_append, List.nil_append, List.append_nil, List.getElem?_cons_zero, List.getElem?_cons_succ, List.set_cons_zero, List.set_cons_succ, Nat.zero_add, Nat.reduceAdd, Nat.reduceSub, Nat.reduceLeDiff, true_and, and_true, decide_eq_true_eq, decide_eq_false_iff_not, ne_eq, reduceCtorEq, false_implies, true_implies, forall_const, Bool.and_self, Bool.and_true, Bool.true_and]
    refine ⟨⟨by rcases h with rfl | rfl | rfl <;> rfl, ?_⟩, fun h => absurd trivial h⟩
    have e : ([D.str rightW, D.str missesW, D.str tellsW].any fun y => eqD y (.str a)) = true := by
      simp only [List.any_cons, eqD_str, List.any_nil, Bool.or_false, Bool.or_eq_true, decide_eq_true_eq]
      rcases h with rfl | rfl | rfl
      · exact .inl rfl
      · exact .inr (.inl rfl)
      · exact .inr (.inr rfl)
    rw [e]
    exact q
theorem l_blocks_told45 (c : Str → Addr) : ∀ ds n Q, s_blocks_told ds n Q → dFn 5 1 (b_blocks_told_v2 c s_is_said s_pieces_of s_block_in) ds n Q := by
  rintro ds n Q ⟨bs, rfl, ⟨hg, h0, h1, hne⟩, q⟩
  refine ⟨rfl, ?_⟩
  have h31 : ∀ b ∈ bs, b.2 < 10 ^ 31 := fun b hb => Nat.lt_trans (h1 b hb).1 (by decide)
  have hlt : ∀ b ∈ bs, b.1 < 1114112 := fun b hb => letters_lt (h1 b hb).2
  have hl := txt_len h31
  simp only [b_blocks_told_v2, envOf, dRet, dRetN, dOp, dSl, dSlO, dVar, dC, pSome, pNo, ev_sll, ev_slt, ev_sls, dBi, dCons, dNil, ev_lenl, ev_lent, ev_lens, ev_lenr, ev_gI, TC, Pd.gSub, gLt, gLe, gGt, gGe, gMod, gFdiv, gPow, gEq, gNe, ev_oki, ev_oks, ev_okl, ev_okt, gIs, gIsNot, gIsB, gIsNotB, Pd.isNon, dCall, dSeq, dSet, dSetO, dMul, setL, bCons, bOwn, bNil, dIf, dIte, dTB, dAnd, dOr, dNot, dBV, dAndV, dOrV, dChain, dTmp, dTmpT, frzE, dFrz, OD.d, dIxO, dApp, dSetI, dNeg, dLst, dLstO, dTup, dO, dDrop, ev_abs, ev_inttoi, ev_inttob, ev_inttos, ev_strtoi, ev_listl, ev_listt, ev_lists, ev_tupl, ev_tupt, ev_addi, ev_adds, ev_addl, ev_addt, ev_muli, ev_muls, ev_mull, ev_max, ev_min, ev_all, ev_any, gRepr, dLRg, Pd.r1, Pd.r2, eqD_str, eqD_int, eqD_bl, dFld, dProp, dMeth, dAugI, dRev, dMake, dIsi, isT, isC, dNx, dBrk, dNev, dFst, putFD, gNm, gTp, gsCons, gsNil, dAsg, dStar, dYes, iniEnd, flatD, wipeE, ev_ixl, ev_ixt, ev_ixs, ev_ixr, ev_srcl, ev_srct, ev_srcs, ev_at0, ev_at1, ev_atl, ev_atn, ev_ixn, Option.some.injEq, exists_eq_left', exists_eq_left, List.foldl_cons, List.foldl_nil, List.map_cons, List.map_nil, List.replicate, List.length_append, List.length_map, List.length_cons, List.length_nil, List.cons_append, List.nil_append, List.append_nil, List.getElem?_cons_zero, List.getElem?_cons_succ, List.set_cons_zero, List.set_cons_succ, Nat.zero_add, Nat.reduceAdd, Nat.reduceSub, Nat.reduceLeDiff, true_and, and_true, decide_eq_true_eq, decide_eq_false_iff_not, ne_eq, reduceCtorEq, false_implies, true_implies, forall_const, Bool.and_self, Bool.and_true, Bool.true_and, dComp, iVal, iZp]
  refine ⟨fun h => absurd h (by decide), fun _ => ⟨by omega, ?_⟩⟩
  obtain ⟨b0, r0, e0⟩ : ∃ b0 r0, bs = b0 :: r0 := by
    cases bs with
    | nil => exact absurd rfl hne
    | cons a r => exact ⟨a, r, rfl⟩
  have e1 : cut (txt bs) none (some 1) = [b0.1] := by
    rw [show (1 : Int) = ((1 : Nat) : Int) from rfl, cut_to, e0]
    rfl
  rw [e1]
  refine .inl ⟨b0.1, rfl, (h1 b0 (by rw [e0]; simp)).2, ?_⟩
  refine ⟨fun h => absurd h (by decide), fun _ => ⟨bs, rfl, by omega, fun b hb => ⟨h31 b hb, (h1 b hb).2⟩, _, rfl, by rw [List.length_map]; omega, ?_⟩⟩
  refine compW_map pcD blkD bs _ _ (fun b hb n K K' q1 => ?_) ?_
  · simp only [envOf, dRet, dRetN, dOp, dSl, dSlO, dVar, dC, pSome, pNo, ev_sll, ev_slt, ev_sls, dBi, dCons, dNil, ev_lenl, ev_lent, ev_lens, ev_lenr, ev_gI, TC, Pd.gSub, gLt, gLe, gGt, gGe, gMod, gFdiv, gPow, gEq, gNe, ev_oki, ev_oks, ev_okl, ev_okt, gIs, gIsNot, gIsB, gIsNotB, Pd.isNon, dCall, dSeq, dSet, dSetO, dMul, setL, bCons, bOwn, bNil, dIf, dIte, dTB, dAnd, dOr, dNot, dBV, dAndV, dOrV, dChain, dTmp, dTmpT, frzE, dFrz, OD.d, dIxO, dApp, dSetI, dNeg, dLst, dLstO, dTup, dO, dDrop, ev_abs, ev_inttoi, ev_inttob, ev_inttos, ev_strtoi, ev_listl, ev_listt, ev_lists, ev_tupl, ev_tupt, ev_addi, ev_adds, ev_addl, ev_addt, ev_muli, ev_muls, ev_mull, ev_max, ev_min, ev_all, ev_any, gRepr, dLRg, Pd.r1, Pd.r2, eqD_str, eqD_int, eqD_bl, dFld, dProp, dMeth, dAugI, dRev, dMake, dIsi, isT, isC, dNx, dBrk, dNev, dFst, putFD, gNm, gTp, gsCons, gsNil, dAsg, dStar, dYes, iniEnd, flatD, wipeE, ev_ixl, ev_ixt, ev_ixs, ev_ixr, ev_srcl, ev_srct, ev_srcs, ev_at0, ev_at1, ev_atl, ev_atn, ev_ixn, Option.some.injEq, exists_eq_left', exists_eq_left, List.foldl_cons, List.foldl_nil, List.map_cons, List.map_nil, List.replicate, List.length_append, List.length_map, List.length_cons, List.length_nil, List.cons_append, List.nil_append, List.append_nil, List.getElem?_cons_zero, List.getElem?_cons_succ, List.set_cons_zero, List.set_cons_succ, Nat.zero_add, Nat.reduceAdd, Nat.reduceSub, Nat.reduceLeDiff, true_and, and_true, decide_eq_true_eq, decide_eq_false_iff_not, ne_eq, reduceCtorEq, false_implies, true_implies, forall_const, Bool.and_self, Bool.and_true, Bool.true_and]
    exact ⟨b, rfl, hg.pos b hb, (h1 b hb).1, q1⟩
  · rw [List.nil_append, List.length_map]
    refine ⟨fun h => absurd h (by omega), fun _ => ⟨okIn_blk hlt, ?_⟩⟩
    rw [noneIn]
    refine ⟨fun h => (by cases h), fun _ => ⟨_, _, rfl, rfl, ?_, ?_⟩⟩
    · rw [zipD, List.length_zipWith, List.length_map]
      omega
    · rw [show (1 : Int) = ((1 : Nat) : Int) from rfl, cut_from]
      refine compW_pure (fun _ => true) (fun _ => .bl true) _ _ _ (fun x hx n K K' q1 q2 => ?_) ?_
      · obtain ⟨a, b, rfl, hab⟩ := adj_ne hg.adj x hx
        simp only [blkD, envOf, dRet, dRetN, dOp, dSl, dSlO, dVar, dC, pSome, pNo, ev_sll, ev_slt, ev_sls, dBi, dCons, dNil, ev_lenl, ev_lent, ev_lens, ev_lenr, ev_gI, TC, Pd.gSub, gLt, gLe, gGt, gGe, gMod, gFdiv, gPow, gEq, gNe, ev_oki, ev_oks, ev_okl, ev_okt, gIs, gIsNot, gIsB, gIsNotB, Pd.isNon, dCall, dSeq, dSet, dSetO, dMul, setL, bCons, bOwn, bNil, dIf, dIte, dTB, dAnd, dOr, dNot, dBV, dAndV, dOrV, dChain, dTmp, dTmpT, frzE, dFrz, OD.d, dIxO, dApp, dSetI, dNeg, dLst, dLstO, dTup, dO, dDrop, ev_abs, ev_inttoi, ev_inttob, ev_inttos, ev_strtoi, ev_listl, ev_listt, ev_lists, ev_tupl, ev_tupt, ev_addi, ev_adds, ev_addl, ev_addt, ev_muli, ev_muls, ev_mull, ev_max, ev_min, ev_all, ev_any, gRepr, dLRg, Pd.r1, Pd.r2, eqD_str, eqD_int, eqD_bl, dFld, dProp, dMeth, dAugI, dRev, dMake, dIsi, isT, isC, dNx, dBrk, dNev, dFst, putFD, gNm, gTp, gsCons, gsNil, dAsg, dStar, dYes, iniEnd, flatD, wipeE, ev_ixl, ev_ixt, ev_ixs, ev_ixr, ev_srcl, ev_srct, ev_srcs, ev_at0, ev_at1, ev_atl, ev_atn, ev_ixn, Option.some.injEq, exists_eq_left', exists_eq_left, List.foldl_cons, List.foldl_nil, List.map_cons, List.map_nil, List.replicate, List.length_append, List.length_map, List.length_cons, List.length_nil, List.cons_append, List.nil_append, List.append_nil, List.getElem?_cons_zero, List.getElem?_cons_succ, List.set_cons_zero, List.set_cons_succ, Nat.zero_add, Nat.reduceAdd, Nat.reduceSub, Nat.reduceLeDiff, true_and, and_true, decide_eq_true_eq, decide_eq_false_iff_not, ne_eq, reduceCtorEq, false_implies, true_implies, forall_const, Bool.and_self, Bool.and_true, Bool.true_and, List.cons.injEq]
        rw [decide_eq_false hab]
        exact q1 rfl
      · have e2 : (([] : List D) ++ ((zipD (bs.map blkD) ((bs.map blkD).drop 1)).filter fun _ => true).map fun _ => D.bl true) = ((zipD (bs.map blkD) ((bs.map blkD).drop 1)).map fun _ => true).map D.bl := by
          rw [List.nil_append, List.filter_eq_self.mpr (fun _ _ => rfl), List.map_map]
          rfl
        rw [e2, map_isBls]
        refine ⟨_, rfl, fun _ => q, fun h => ?_⟩
        exfalso
        revert h
        simp
structure PG (F : List GB) : Prop where
  lt : ∀ g ∈ F, g.1 ∈ letters
  fo : ∀ g ∈ F, FOk g.2.1 g.2.2
  adj : Adj (F.map fun g => (g.1, 1))
def PoolOk (p : List Nat) : Prop := (∀ c ∈ p, c ∈ letters) ∧ p.length ≤ 5 ∧ ∀ x : Nat, (p.filter fun c => decide (c ≠ x)) ≠ []
theorem pool3 : PoolOk [97, 98, 99] := ⟨by decide, by decide, fun x h => by
  by_cases h1 : x = 97
  · subst h1; revert h; decide
  · rw [List.filter_cons_of_pos (by simpa using fun e => h1 e.symm)] at h; cases h⟩
theorem pool5 : PoolOk [97, 98, 99, 120, 121] := ⟨by decide, by decide, fun x h => by
  by_cases h1 : x = 97
  · subst h1; revert h; decide
  · rw [List.filter_cons_of_pos (by simpa using fun e => h1 e.symm)] at h; cases h⟩
theorem rngD_len : ∀ n : Nat, (rngD 0 n).length = n := fun n => by rw [rngD0, List.length_map, List.length_range]
def s_grown_blocks : FD := fun ds n P => ∃ mo : Nat, ds = [.pot, .int 2, .int (mo : Nat), .int 99] ∧ 2 ≤ mo ∧ mo ≤ 10 ∧ 60 ≤ n ∧ ∀ (n' : Nat) (gs : List GB), n' ≤ n → n ≤ n' + 60 → GOk gs → P n' (.lst (gs.map gD))
theorem l_grown_blocks (c : Str → Addr) : ∀ ds n Q, s_grown_blocks ds n Q → dFn 13 4 (b__law_grown_blocks c takeF s_of) ds n Q := by
  rintro ds n Q ⟨mo, rfl, h2, h10, hn, q⟩
  refine ⟨rfl, ?_⟩
  show dSeq _ _ _ _ _
  refine seq_all (fun n1 ε => n1 + 2 = n ∧ ∃ (many : Nat) (p : List Nat), 2 ≤ many ∧ many ≤ mo ∧ PoolOk p ∧ ε = [.val .pot, .val (.int 2), .val (.int (mo : Nat)), .val (.int 99), .val (.int (many : Nat)), .own (.lst []), .val (.str p), .no, .no, .no, .no, .no, .no]) (fun nx hnx => ?_) ?_
  · simp only [takeF, envOf, dRet, dRetN, dOp, dSl, dSlO, dVar, dC, pSome, pNo, ev_sll, ev_slt, ev_sls, dBi, dCons, dNil, ev_lenl, ev_lent, ev_lens, ev_lenr, ev_gI, TC, Pd.gSub, gLt, gLe, gGt, gGe, gMod, gFdiv, gPow, gEq, gNe, ev_oki, ev_oks, ev_okl, ev_okt, gIs, gIsNot, gIsB, gIsNotB, Pd.isNon, dCall, dSeq, dSet, dSetO, dMul, setL, bCons, bOwn, bNil, dIf, dIte, dTB, dAnd, dOr, dNot, dBV, dAndV, dOrV, dChain, dTmp, dTmpT, frzE, dFrz, OD.d, dIxO, dApp, dSetI, dNeg, dLst, dLstO, dTup, dO, dDrop, ev_abs, ev_inttoi, ev_inttob, ev_inttos, ev_strtoi, ev_listl, ev_listt, ev_lists, ev_tupl, ev_tupt, ev_addi, ev_adds, ev_addl, ev_addt, ev_muli, ev_muls, ev_mull, ev_max, ev_min, ev_all, ev_any, gRepr, dLRg, Pd.r1, Pd.r2, eqD_str, eqD_int, eqD_bl, dFld, dProp, dMeth, dAugI, dRev, dMake, dIsi, isT, isC, dNx, dBrk, dNev, dFst, gNm, gTp, gsCons, gsNil, dAsg, dStar, dYes, iniEnd, flatD, wipeE, ev_ixl, ev_ixt, ev_ixs, ev_ixr, ev_srcl, ev_srct, ev_srcs, ev_at0, ev_at1, ev_atl, ev_atn, ev_ixn, Option.some.injEq, exists_eq_left', exists_eq_left, List.foldl_cons, List.foldl_nil, List.map_cons, List.map_nil, List.replicate, List.length_append, List.length_map, List.length_cons, List.length_nil, List.cons_append, List.nil_append, List.append_nil, List.getElem?_cons_zero, List.getElem?_cons_succ, List.set_cons_zero, List.set_cons_succ, Nat.zero_add, Nat.reduceAdd, Nat.reduceSub, Nat.reduceLeDiff, true_and, and_true, decide_eq_true_eq, decide_eq_false_iff_not, ne_eq, reduceCtorEq, false_implies, true_implies, forall_const, Bool.and_self, Bool.and_true, Bool.true_and, lk_ends, lk_blocks, lk_text, lk_spot, lk_letter, Int.toNat_natCast, dFldO, dTmq, dMut, dSetQ, dParQ, qMake, D.still, D.stills, lf_past, lf_word, lf_letters, pf_past, pf_later, pm1, pm2, pm3, pm4, pi1, pi2, pi3, pi4, pi5, lm_state, lm_text, lm_search]
    refine ⟨_, rfl, by omega, ?_, n - 1, by omega, fun r r0 r1 => ?_⟩
    · exact Nat.lt_of_le_of_lt (show ((mo : Int) - 2 + 1).natAbs ≤ 10 by omega) (by decide)
    obtain ⟨k, rfl⟩ : ∃ k : Nat, r = k := ⟨r.toNat, by omega⟩
    refine ⟨_, _, n - 2, rfl, rfl, fun l e => (by cases e), by decide, by decide, by omega, fun x hx => ?_⟩
    have hm : ((2 : Int) + (k : Int)) = ((2 + k : Nat) : Int) := by omega
    rw [hm]
    simp only [List.mem_cons, List.not_mem_nil, or_false] at hx
    rcases hx with rfl | rfl | rfl
    · exact hnx _ _ ⟨by omega, 2 + k, _, by omega, by omega, pool3, rfl⟩
    · exact hnx _ _ ⟨by omega, 2 + k, _, by omega, by omega, pool3, rfl⟩
    · exact hnx _ _ ⟨by omega, 2 + k, _, by omega, by omega, pool5, rfl⟩
  rintro n1 ε ⟨e1, many, p, m1, m2, hp, rfl⟩
  refine seq_all (fun n2 ε => n2 ≤ n1 ∧ n1 ≤ n2 + 50 ∧ ∃ (F : List GB) (s7 s8 s9 s10 s12 : Sl), F.length = many ∧ PG F ∧ ε = [.val .pot, .val (.int 2), .val (.int (mo : Nat)), .val (.int 99), .val (.int (many : Nat)), .own (.lst (F.map gD)), .val (.str p), s7, s8, s9, s10, .no, s12]) (fun nx hnx => ?_) ?_
  · simp only [dFor, iRg1, envOf, dRet, dRetN, dOp, dSl, dSlO, dVar, dC, pSome, pNo, ev_sll, ev_slt, ev_sls, dBi, dCons, dNil, ev_lenl, ev_lent, ev_lens, ev_lenr, ev_gI, TC, Pd.gSub, gLt, gLe, gGt, gGe, gMod, gFdiv, gPow, gEq, gNe, ev_oki, ev_oks, ev_okl, ev_okt, gIs, gIsNot, gIsB, gIsNotB, Pd.isNon, dCall, dSeq, dSet, dSetO, dMul, setL, bCons, bOwn, bNil, dIf, dIte, dTB, dAnd, dOr, dNot, dBV, dAndV, dOrV, dChain, dTmp, dTmpT, frzE, dFrz, OD.d, dIxO, dApp, dSetI, dNeg, dLst, dLstO, dTup, dO, dDrop, ev_abs, ev_inttoi, ev_inttob, ev_inttos, ev_strtoi, ev_listl, ev_listt, ev_lists, ev_tupl, ev_tupt, ev_addi, ev_adds, ev_addl, ev_addt, ev_muli, ev_muls, ev_mull, ev_max, ev_min, ev_all, ev_any, gRepr, dLRg, Pd.r1, Pd.r2, eqD_str, eqD_int, eqD_bl, dFld, dProp, dMeth, dAugI, dRev, dMake, dIsi, isT, isC, dNx, dBrk, dNev, dFst, gNm, gTp, gsCons, gsNil, dAsg, dStar, dYes, iniEnd, flatD, wipeE, ev_ixl, ev_ixt, ev_ixs, ev_ixr, ev_srcl, ev_srct, ev_srcs, ev_at0, ev_at1, ev_atl, ev_atn, ev_ixn, Option.some.injEq, exists_eq_left', exists_eq_left, List.foldl_cons, List.foldl_nil, List.map_cons, List.map_nil, List.replicate, List.length_append, List.length_map, List.length_cons, List.length_nil, List.cons_append, List.nil_append, List.append_nil, List.getElem?_cons_zero, List.getElem?_cons_succ, List.set_cons_zero, List.set_cons_succ, Nat.zero_add, Nat.reduceAdd, Nat.reduceSub, Nat.reduceLeDiff, true_and, and_true, decide_eq_true_eq, decide_eq_false_iff_not, ne_eq, reduceCtorEq, false_implies, true_implies, forall_const, Bool.and_self, Bool.and_true, Bool.true_and, lk_ends, lk_blocks, lk_text, lk_spot, lk_letter, Int.toNat_natCast, dFldO, dTmq, dMut, dSetQ, dParQ, qMake, D.still, D.stills, lf_past, lf_word, lf_letters, pf_past, pf_later, pm1, pm2, pm3, pm4, pi1, pi2, pi3, pi4, pi5, lm_state, lm_text, lm_search]
    refine ⟨by omega, by omega, ?_⟩
    refine for_ind (fun ys n' ε => n' ≤ n1 ∧ n1 + 5 * ys.length ≤ n' + 50 ∧ ∃ (F : List GB) (s7 s8 s9 s10 s12 : Sl), F.length + ys.length = many ∧ PG F ∧ ε = [.val .pot, .val (.int 2), .val (.int (mo : Nat)), .val (.int 99), .val (.int (many : Nat)), .own (.lst (F.map gD)), .val (.str p), s7, s8, s9, s10, .no, s12]) ⟨Nat.le_refl _, by rw [rngD_len]; omega, [], .no, .no, .no, .no, .no, by rw [rngD_len]; simp, ⟨fun _ h => (by cases h), fun _ h => (by cases h), trivial⟩, rfl⟩ ?_ ?_
    · rintro n' ε ⟨i1, i2, F, s7, s8, s9, s10, s12, f1, P, rfl⟩
      exact hnx _ _ ⟨i1, by rw [List.length_nil] at i2; omega, F, s7, s8, s9, s10, s12, f1, P, rfl⟩
    rintro y ys n' ε nxt ih ⟨i1, i2, F, s7, s8, s9, s10, s12, f1, P, rfl⟩
    rw [List.length_cons] at i2 f1
    simp only [gNm, envOf, dRet, dRetN, dOp, dSl, dSlO, dVar, dC, pSome, pNo, ev_sll, ev_slt, ev_sls, dBi, dCons, dNil, ev_lenl, ev_lent, ev_lens, ev_lenr, ev_gI, TC, Pd.gSub, gLt, gLe, gGt, gGe, gMod, gFdiv, gPow, gEq, gNe, ev_oki, ev_oks, ev_okl, ev_okt, gIs, gIsNot, gIsB, gIsNotB, Pd.isNon, dCall, dSeq, dSet, dSetO, dMul, setL, bCons, bOwn, bNil, dIf, dIte, dTB, dAnd, dOr, dNot, dBV, dAndV, dOrV, dChain, dTmp, dTmpT, frzE, dFrz, OD.d, dIxO, dApp, dSetI, dNeg, dLst, dLstO, dTup, dO, dDrop, ev_abs, ev_inttoi, ev_inttob, ev_inttos, ev_strtoi, ev_listl, ev_listt, ev_lists, ev_tupl, ev_tupt, ev_addi, ev_adds, ev_addl, ev_addt, ev_muli, ev_muls, ev_mull, ev_max, ev_min, ev_all, ev_any, gRepr, dLRg, Pd.r1, Pd.r2, eqD_str, eqD_int, eqD_bl, dFld, dProp, dMeth, dAugI, dRev, dMake, dIsi, isT, isC, dNx, dBrk, dNev, dFst, gNm, gTp, gsCons, gsNil, dAsg, dStar, dYes, iniEnd, flatD, wipeE, ev_ixl, ev_ixt, ev_ixs, ev_ixr, ev_srcl, ev_srct, ev_srcs, ev_at0, ev_at1, ev_atl, ev_atn, ev_ixn, Option.some.injEq, exists_eq_left', exists_eq_left, List.foldl_cons, List.foldl_nil, List.map_cons, List.map_nil, List.replicate, List.length_append, List.length_map, List.length_cons, List.length_nil, List.cons_append, List.nil_append, List.append_nil, List.getElem?_cons_zero, List.getElem?_cons_succ, List.set_cons_zero, List.set_cons_succ, Nat.zero_add, Nat.reduceAdd, Nat.reduceSub, Nat.reduceLeDiff, true_and, and_true, decide_eq_true_eq, decide_eq_false_iff_not, ne_eq, reduceCtorEq, false_implies, true_implies, forall_const, Bool.and_self, Bool.and_true, Bool.true_and, lk_ends, lk_blocks, lk_text, lk_spot, lk_letter, Int.toNat_natCast, dFldO, dTmq, dMut, dSetQ, dParQ, qMake, D.still, D.stills, lf_past, lf_word, lf_letters, pf_past, pf_later, pm1, pm2, pm3, pm4, pi1, pi2, pi3, pi4, pi5, lm_state, lm_text, lm_search]
    have hF10 : F.length ≤ 9 := by omega
    have oke : okEq (.lst (F.map gD)) (.lst []) = true := by
      show (okD (.lst (F.map gD)) && okD (.lst [])) = true
      rw [okD_gs P.lt, okD_nil]
      rfl
    simp only [dComp, iVal, envOf, dRet, dRetN, dOp, dSl, dSlO, dVar, dC, pSome, pNo, ev_sll, ev_slt, ev_sls, dBi, dCons, dNil, ev_lenl, ev_lent, ev_lens, ev_lenr, ev_gI, TC, Pd.gSub, gLt, gLe, gGt, gGe, gMod, gFdiv, gPow, gEq, gNe, ev_oki, ev_oks, ev_okl, ev_okt, gIs, gIsNot, gIsB, gIsNotB, Pd.isNon, dCall, dSeq, dSet, dSetO, dMul, setL, bCons, bOwn, bNil, dIf, dIte, dTB, dAnd, dOr, dNot, dBV, dAndV, dOrV, dChain, dTmp, dTmpT, frzE, dFrz, OD.d, dIxO, dApp, dSetI, dNeg, dLst, dLstO, dTup, dO, dDrop, ev_abs, ev_inttoi, ev_inttob, ev_inttos, ev_strtoi, ev_listl, ev_listt, ev_lists, ev_tupl, ev_tupt, ev_addi, ev_adds, ev_addl, ev_addt, ev_muli, ev_muls, ev_mull, ev_max, ev_min, ev_all, ev_any, gRepr, dLRg, Pd.r1, Pd.r2, eqD_str, eqD_int, eqD_bl, dFld, dProp, dMeth, dAugI, dRev, dMake, dIsi, isT, isC, dNx, dBrk, dNev, dFst, gNm, gTp, gsCons, gsNil, dAsg, dStar, dYes, iniEnd, flatD, wipeE, ev_ixl, ev_ixt, ev_ixs, ev_ixr, ev_srcl, ev_srct, ev_srcs, ev_at0, ev_at1, ev_atl, ev_atn, ev_ixn, Option.some.injEq, exists_eq_left', exists_eq_left, List.foldl_cons, List.foldl_nil, List.map_cons, List.map_nil, List.replicate, List.length_append, List.length_map, List.length_cons, List.length_nil, List.cons_append, List.nil_append, List.append_nil, List.getElem?_cons_zero, List.getElem?_cons_succ, List.set_cons_zero, List.set_cons_succ, Nat.zero_add, Nat.reduceAdd, Nat.reduceSub, Nat.reduceLeDiff, true_and, and_true, decide_eq_true_eq, decide_eq_false_iff_not, ne_eq, reduceCtorEq, false_implies, true_implies, forall_const, Bool.and_self, Bool.and_true, Bool.true_and, lk_ends, lk_blocks, lk_text, lk_spot, lk_letter, Int.toNat_natCast, dFldO, dTmq, dMut, dSetQ, dParQ, qMake, D.still, D.stills, lf_past, lf_word, lf_letters, pf_past, pf_later, pm1, pm2, pm3, pm4, pi1, pi2, pi3, pi4, pi5, lm_state, lm_text, lm_search]
    have hp5 := hp.2.1
    refine ⟨by rw [sgn, List.length_map]; omega, compW_fm (fun c : Nat => .str [c]) (fun c => .str [c]) (fun c => match F.getLast? with | none => true | some z => decide (c ≠ z.1)) p _ _ (fun ch hc m K K' k1 k2 => ?_) ?_⟩
    · simp only [envOf, dRet, dRetN, dOp, dSl, dSlO, dVar, dC, pSome, pNo, ev_sll, ev_slt, ev_sls, dBi, dCons, dNil, ev_lenl, ev_lent, ev_lens, ev_lenr, ev_gI, TC, Pd.gSub, gLt, gLe, gGt, gGe, gMod, gFdiv, gPow, gEq, gNe, ev_oki, ev_oks, ev_okl, ev_okt, gIs, gIsNot, gIsB, gIsNotB, Pd.isNon, dCall, dSeq, dSet, dSetO, dMul, setL, bCons, bOwn, bNil, dIf, dIte, dTB, dAnd, dOr, dNot, dBV, dAndV, dOrV, dChain, dTmp, dTmpT, frzE, dFrz, OD.d, dIxO, dApp, dSetI, dNeg, dLst, dLstO, dTup, dO, dDrop, ev_abs, ev_inttoi, ev_inttob, ev_inttos, ev_strtoi, ev_listl, ev_listt, ev_lists, ev_tupl, ev_tupt, ev_addi, ev_adds, ev_addl, ev_addt, ev_muli, ev_muls, ev_mull, ev_max, ev_min, ev_all, ev_any, gRepr, dLRg, Pd.r1, Pd.r2, eqD_str, eqD_int, eqD_bl, dFld, dProp, dMeth, dAugI, dRev, dMake, dIsi, isT, isC, dNx, dBrk, dNev, dFst, gNm, gTp, gsCons, gsNil, dAsg, dStar, dYes, iniEnd, flatD, wipeE, ev_ixl, ev_ixt, ev_ixs, ev_ixr, ev_srcl, ev_srct, ev_srcs, ev_at0, ev_at1, ev_atl, ev_atn, ev_ixn, Option.some.injEq, exists_eq_left', exists_eq_left, List.foldl_cons, List.foldl_nil, List.map_cons, List.map_nil, List.replicate, List.length_append, List.length_map, List.length_cons, List.length_nil, List.cons_append, List.nil_append, List.append_nil, List.getElem?_cons_zero, List.getElem?_cons_succ, List.set_cons_zero, List.set_cons_succ, Nat.zero_add, Nat.reduceAdd, Nat.reduceSub, Nat.reduceLeDiff, true_and, and_true, decide_eq_true_eq, decide_eq_false_iff_not, ne_eq, reduceCtorEq, false_implies, true_implies, forall_const, Bool.and_self, Bool.and_true, Bool.true_and, lk_ends, lk_blocks, lk_text, lk_spot, lk_letter, Int.toNat_natCast, dFldO, dTmq, dMut, dSetQ, dParQ, qMake, D.still, D.stills, lf_past, lf_word, lf_letters, pf_past, pf_later, pm1, pm2, pm3, pm4, pi1, pi2, pi3, pi4, pi5, lm_state, lm_text, lm_search]
      refine ⟨oke, fun h => ?_, fun h => ?_⟩
      · rcases List.eq_nil_or_concat F with hF | ⟨F0, z, hF⟩
        · subst hF
          exact k1 rfl
        · rw [List.concat_eq_append] at hF
          subst hF
          rw [List.map_append] at h
          cases hz : F0.map gD with
          | nil => rw [hz] at h; simp [eqD, eqDs] at h
          | cons a r => rw [hz] at h; simp [eqD, eqDs] at h
      · rcases List.eq_nil_or_concat F with hF | ⟨F0, z, hF⟩
        · subst hF
          cases h
        · rw [List.concat_eq_append] at hF
          subst hF
          rw [List.getLast?_append] at k1 k2
          simp only [List.getLast?_singleton, Option.some_or] at k1 k2
          refine ⟨gD z, by rw [List.map_append]; exact ev_atl _ _, ?_⟩
          simp only [gD, envOf, dRet, dRetN, dOp, dSl, dSlO, dVar, dC, pSome, pNo, ev_sll, ev_slt, ev_sls, dBi, dCons, dNil, ev_lenl, ev_lent, ev_lens, ev_lenr, ev_gI, TC, Pd.gSub, gLt, gLe, gGt, gGe, gMod, gFdiv, gPow, gEq, gNe, ev_oki, ev_oks, ev_okl, ev_okt, gIs, gIsNot, gIsB, gIsNotB, Pd.isNon, dCall, dSeq, dSet, dSetO, dMul, setL, bCons, bOwn, bNil, dIf, dIte, dTB, dAnd, dOr, dNot, dBV, dAndV, dOrV, dChain, dTmp, dTmpT, frzE, dFrz, OD.d, dIxO, dApp, dSetI, dNeg, dLst, dLstO, dTup, dO, dDrop, ev_abs, ev_inttoi, ev_inttob, ev_inttos, ev_strtoi, ev_listl, ev_listt, ev_lists, ev_tupl, ev_tupt, ev_addi, ev_adds, ev_addl, ev_addt, ev_muli, ev_muls, ev_mull, ev_max, ev_min, ev_all, ev_any, gRepr, dLRg, Pd.r1, Pd.r2, eqD_str, eqD_int, eqD_bl, dFld, dProp, dMeth, dAugI, dRev, dMake, dIsi, isT, isC, dNx, dBrk, dNev, dFst, gNm, gTp, gsCons, gsNil, dAsg, dStar, dYes, iniEnd, flatD, wipeE, ev_ixl, ev_ixt, ev_ixs, ev_ixr, ev_srcl, ev_srct, ev_srcs, ev_at0, ev_at1, ev_atl, ev_atn, ev_ixn, Option.some.injEq, exists_eq_left', exists_eq_left, List.foldl_cons, List.foldl_nil, List.map_cons, List.map_nil, List.replicate, List.length_append, List.length_map, List.length_cons, List.length_nil, List.cons_append, List.nil_append, List.append_nil, List.getElem?_cons_zero, List.getElem?_cons_succ, List.set_cons_zero, List.set_cons_succ, Nat.zero_add, Nat.reduceAdd, Nat.reduceSub, Nat.reduceLeDiff, true_and, and_true, decide_eq_true_eq, decide_eq_false_iff_not, ne_eq, reduceCtorEq, false_implies, true_implies, forall_const, Bool.and_self, Bool.and_true, Bool.true_and, lk_ends, lk_blocks, lk_text, lk_spot, lk_letter, Int.toNat_natCast, dFldO, dTmq, dMut, dSetQ, dParQ, qMake, D.still, D.stills, lf_past, lf_word, lf_letters, pf_past, pf_later, pm1, pm2, pm3, pm4, pi1, pi2, pi3, pi4, pi5, lm_state, lm_text, lm_search]
          refine ⟨fun h => k1 ?_, fun h => k2 ?_⟩
          all_goals simpa using h
    rw [List.nil_append]
    have hfl : ∃ l0 r0, p.filter (fun c => match F.getLast? with | none => true | some z => decide (c ≠ z.1)) = l0 :: r0 := by
      cases hz : p.filter (fun c => match F.getLast? with | none => true | some z => decide (c ≠ z.1)) with
      | cons a r => exact ⟨a, r, rfl⟩
      | nil =>
        exfalso
        cases hg : F.getLast? with
        | none =>
          rw [hg] at hz
          refine hp.2.2 0 (List.filter_eq_nil_iff.mpr fun a ha => ?_)
          exact absurd rfl (List.filter_eq_nil_iff.mp hz a ha)
        | some z =>
          rw [hg] at hz
          exact hp.2.2 z.1 hz
    have hfm : ∀ l ∈ p.filter (fun c => match F.getLast? with | none => true | some z => decide (c ≠ z.1)), l ∈ letters ∧ ∀ z, F.getLast? = some z → z.1 ≠ l := fun l hl => by
      obtain ⟨h1, h2⟩ := List.mem_filter.mp hl
      refine ⟨hp.1 l h1, fun z hz => ?_⟩
      rw [hz] at h2
      simp only [decide_eq_true_eq] at h2
      exact fun e => h2 e.symm
    have hfn : (p.filter (fun c => match F.getLast? with | none => true | some z => decide (c ≠ z.1))).length ≤ 5 := Nat.le_trans (List.length_filter_le _ _) hp5
    generalize p.filter (fun c => match F.getLast? with | none => true | some z => decide (c ≠ z.1)) = ls at *
    obtain ⟨l0, r0, hl0⟩ := hfl
    have hlpos : 0 < ls.length := by rw [hl0]; simp
    refine ⟨_, _, n' - 1, rfl, rfl, fun l e => (by cases e), by rw [List.length_map]; exact hlpos, by rw [List.length_map]; omega, by omega, fun x hx => ?_⟩
    obtain ⟨l, hl, rfl⟩ := List.mem_map.mp hx
    obtain ⟨hll, hlz⟩ := hfm l hl
    simp only [takeF, envOf, dRet, dRetN, dOp, dSl, dSlO, dVar, dC, pSome, pNo, ev_sll, ev_slt, ev_sls, dBi, dCons, dNil, ev_lenl, ev_lent, ev_lens, ev_lenr, ev_gI, TC, Pd.gSub, gLt, gLe, gGt, gGe, gMod, gFdiv, gPow, gEq, gNe, ev_oki, ev_oks, ev_okl, ev_okt, gIs, gIsNot, gIsB, gIsNotB, Pd.isNon, dCall, dSeq, dSet, dSetO, dMul, setL, bCons, bOwn, bNil, dIf, dIte, dTB, dAnd, dOr, dNot, dBV, dAndV, dOrV, dChain, dTmp, dTmpT, frzE, dFrz, OD.d, dIxO, dApp, dSetI, dNeg, dLst, dLstO, dTup, dO, dDrop, ev_abs, ev_inttoi, ev_inttob, ev_inttos, ev_strtoi, ev_listl, ev_listt, ev_lists, ev_tupl, ev_tupt, ev_addi, ev_adds, ev_addl, ev_addt, ev_muli, ev_muls, ev_mull, ev_max, ev_min, ev_all, ev_any, gRepr, dLRg, Pd.r1, Pd.r2, eqD_str, eqD_int, eqD_bl, dFld, dProp, dMeth, dAugI, dRev, dMake, dIsi, isT, isC, dNx, dBrk, dNev, dFst, gNm, gTp, gsCons, gsNil, dAsg, dStar, dYes, iniEnd, flatD, wipeE, ev_ixl, ev_ixt, ev_ixs, ev_ixr, ev_srcl, ev_srct, ev_srcs, ev_at0, ev_at1, ev_atl, ev_atn, ev_ixn, Option.some.injEq, exists_eq_left', exists_eq_left, List.foldl_cons, List.foldl_nil, List.map_cons, List.map_nil, List.replicate, List.length_append, List.length_map, List.length_cons, List.length_nil, List.cons_append, List.nil_append, List.append_nil, List.getElem?_cons_zero, List.getElem?_cons_succ, List.set_cons_zero, List.set_cons_succ, Nat.zero_add, Nat.reduceAdd, Nat.reduceSub, Nat.reduceLeDiff, true_and, and_true, decide_eq_true_eq, decide_eq_false_iff_not, ne_eq, reduceCtorEq, false_implies, true_implies, forall_const, Bool.and_self, Bool.and_true, Bool.true_and, lk_ends, lk_blocks, lk_text, lk_spot, lk_letter, Int.toNat_natCast, dFldO, dTmq, dMut, dSetQ, dParQ, qMake, D.still, D.stills, lf_past, lf_word, lf_letters, pf_past, pf_later, pm1, pm2, pm3, pm4, pi1, pi2, pi3, pi4, pi5, lm_state, lm_text, lm_search]
    refine ⟨_, rfl, by decide, by decide, n' - 2, by omega, fun r r1 r2 => ?_⟩
    refine ⟨_, _, n' - 3, rfl, rfl, fun l e => (by cases e), by simp, by simp, by omega, fun x hx => ?_⟩
    obtain ⟨a, ha, rfl⟩ : ∃ a : Nat, a ≤ 99 ∧ x = .int (a : Nat) := by
      simp only [List.mem_cons, List.not_mem_nil, or_false] at hx
      rcases hx with rfl | rfl | rfl | rfl | rfl
      · exact ⟨0, by decide, rfl⟩
      · exact ⟨1, by decide, rfl⟩
      · exact ⟨1, by decide, rfl⟩
      · exact ⟨2, by decide, rfl⟩
      · exact ⟨(1 + r).toNat, by omega, by rw [Int.toNat_of_nonneg (by omega)]⟩
    refine ⟨_, rfl, by decide, by decide, n' - 4, by omega, fun r' r3 r4 => ?_⟩
    refine ⟨_, _, n' - 5, rfl, rfl, fun l e => (by cases e), by simp, by simp, by omega, fun x hx => ?_⟩
    obtain ⟨b, hb, rfl⟩ : ∃ b : Nat, b ≤ 9 ∧ x = .int (b : Nat) := by
      simp only [List.mem_cons, List.not_mem_nil, or_false] at hx
      rcases hx with rfl | rfl | rfl | rfl | rfl
      · exact ⟨0, by decide, rfl⟩
      · exact ⟨1, by decide, rfl⟩
      · exact ⟨1, by decide, rfl⟩
      · exact ⟨2, by decide, rfl⟩
      · exact ⟨(1 + r').toNat, by omega, by rw [Int.toNat_of_nonneg (by omega)]⟩
    refine ⟨rfl, ?_⟩
    simp only [gMax]
    rw [show eqD (.int (b : Nat)) (.int 0) = decide (b = 0) by
      rw [eqD]
      by_cases h : b = 0
      · subst h; rfl
      · rw [decide_eq_false h]; exact beq_eq_false_iff_ne.mpr (by omega)]
    have hmax : (if (if decide (b = 0) = true then (1 : Int) else 0) > (a : Int) then (if decide (b = 0) = true then (1 : Int) else 0) else (a : Int)) = ((if b = 0 ∧ a = 0 then 1 else a : Nat) : Int) := by
      by_cases hb0 : b = 0 <;> by_cases ha0 : a = 0 <;> simp [hb0, ha0] <;> omega
    rw [hmax]
    refine ⟨by omega, ih _ _ ⟨by omega, by omega, F ++ [(l, (if b = 0 ∧ a = 0 then 1 else a), b)], _, _, _, _, _, by rw [List.length_append, List.length_singleton]; omega, ⟨fun g hg => ?_, fun g hg => ?_, ?_⟩, by rw [List.map_append]; rfl⟩⟩
    · rcases List.mem_append.mp hg with h | h
      · exact P.lt g h
      · rw [List.mem_singleton.mp h]; exact hll
    · rcases List.mem_append.mp hg with h | h
      · exact P.fo g h
      · rw [List.mem_singleton.mp h]
        refine ⟨?_, hb, fun h0 => ?_⟩
        · show (if b = 0 ∧ a = 0 then 1 else a) ≤ 99
          split <;> omega
        · show 1 ≤ (if b = 0 ∧ a = 0 then 1 else a)
          have h0 : b = 0 := h0
          split <;> omega
    · rw [List.map_append]
      rcases List.eq_nil_or_concat F with h | ⟨F0, z, h⟩
      · subst h; trivial
      · rw [List.concat_eq_append] at h
        subst h
        rw [List.map_append]
        refine Adj.snoc (by have := P.adj; rwa [List.map_append] at this) ?_
        exact hlz z (by rw [List.getLast?_append]; rfl)
  rintro n2 ε ⟨e2, e3, F, s7, s8, s9, s10, s12, f1, P, rfl⟩
  refine seq_all (fun n3 ε => n3 + 1 = n2 ∧ ∃ k : Nat, k < many ∧ ε = [.val .pot, .val (.int 2), .val (.int (mo : Nat)), .val (.int 99), .val (.int (many : Nat)), .own (.lst (F.map gD)), .val (.str p), s7, s8, s9, s10, .val (.int (k : Nat)), s12]) (fun nx hnx => ?_) ?_
  · simp only [takeF, envOf, dRet, dRetN, dOp, dSl, dSlO, dVar, dC, pSome, pNo, ev_sll, ev_slt, ev_sls, dBi, dCons, dNil, ev_lenl, ev_lent, ev_lens, ev_lenr, ev_gI, TC, Pd.gSub, gLt, gLe, gGt, gGe, gMod, gFdiv, gPow, gEq, gNe, ev_oki, ev_oks, ev_okl, ev_okt, gIs, gIsNot, gIsB, gIsNotB, Pd.isNon, dCall, dSeq, dSet, dSetO, dMul, setL, bCons, bOwn, bNil, dIf, dIte, dTB, dAnd, dOr, dNot, dBV, dAndV, dOrV, dChain, dTmp, dTmpT, frzE, dFrz, OD.d, dIxO, dApp, dSetI, dNeg, dLst, dLstO, dTup, dO, dDrop, ev_abs, ev_inttoi, ev_inttob, ev_inttos, ev_strtoi, ev_listl, ev_listt, ev_lists, ev_tupl, ev_tupt, ev_addi, ev_adds, ev_addl, ev_addt, ev_muli, ev_muls, ev_mull, ev_max, ev_min, ev_all, ev_any, gRepr, dLRg, Pd.r1, Pd.r2, eqD_str, eqD_int, eqD_bl, dFld, dProp, dMeth, dAugI, dRev, dMake, dIsi, isT, isC, dNx, dBrk, dNev, dFst, gNm, gTp, gsCons, gsNil, dAsg, dStar, dYes, iniEnd, flatD, wipeE, ev_ixl, ev_ixt, ev_ixs, ev_ixr, ev_srcl, ev_srct, ev_srcs, ev_at0, ev_at1, ev_atl, ev_atn, ev_ixn, Option.some.injEq, exists_eq_left', exists_eq_left, List.foldl_cons, List.foldl_nil, List.map_cons, List.map_nil, List.replicate, List.length_append, List.length_map, List.length_cons, List.length_nil, List.cons_append, List.nil_append, List.append_nil, List.getElem?_cons_zero, List.getElem?_cons_succ, List.set_cons_zero, List.set_cons_succ, Nat.zero_add, Nat.reduceAdd, Nat.reduceSub, Nat.reduceLeDiff, true_and, and_true, decide_eq_true_eq, decide_eq_false_iff_not, ne_eq, reduceCtorEq, false_implies, true_implies, forall_const, Bool.and_self, Bool.and_true, Bool.true_and, lk_ends, lk_blocks, lk_text, lk_spot, lk_letter, Int.toNat_natCast, dFldO, dTmq, dMut, dSetQ, dParQ, qMake, D.still, D.stills, lf_past, lf_word, lf_letters, pf_past, pf_later, pm1, pm2, pm3, pm4, pi1, pi2, pi3, pi4, pi5, lm_state, lm_text, lm_search]
    refine ⟨_, rfl, by omega, ?_, n2 - 1, by omega, fun r r0 r1 => ?_⟩
    · exact Nat.lt_of_le_of_lt (show ((many : Nat) : Int).natAbs ≤ 10 by omega) (by decide)
    obtain ⟨k, rfl⟩ : ∃ k : Nat, r = k := ⟨r.toNat, by omega⟩
    exact hnx _ _ ⟨by omega, k, by omega, rfl⟩
  rintro n3 ε ⟨e4, k, k1, rfl⟩
  refine seq_all (fun n4 ε => n4 = n3 ∧ ∃ gs : List GB, GOk gs ∧ ε = [.val .pot, .val (.int 2), .val (.int (mo : Nat)), .val (.int 99), .val (.int (many : Nat)), .own (.lst (gs.map gD)), .val (.str p), s7, s8, s9, s10, .val (.int (k : Nat)), s12]) (fun nx hnx => ?_) ?_
  · simp only [envOf, dRet, dRetN, dOp, dSl, dSlO, dVar, dC, pSome, pNo, ev_sll, ev_slt, ev_sls, dBi, dCons, dNil, ev_lenl, ev_lent, ev_lens, ev_lenr, ev_gI, TC, Pd.gSub, gLt, gLe, gGt, gGe, gMod, gFdiv, gPow, gEq, gNe, ev_oki, ev_oks, ev_okl, ev_okt, gIs, gIsNot, gIsB, gIsNotB, Pd.isNon, dCall, dSeq, dSet, dSetO, dMul, setL, bCons, bOwn, bNil, dIf, dIte, dTB, dAnd, dOr, dNot, dBV, dAndV, dOrV, dChain, dTmp, dTmpT, frzE, dFrz, OD.d, dIxO, dApp, dSetI, dNeg, dLst, dLstO, dTup, dO, dDrop, ev_abs, ev_inttoi, ev_inttob, ev_inttos, ev_strtoi, ev_listl, ev_listt, ev_lists, ev_tupl, ev_tupt, ev_addi, ev_adds, ev_addl, ev_addt, ev_muli, ev_muls, ev_mull, ev_max, ev_min, ev_all, ev_any, gRepr, dLRg, Pd.r1, Pd.r2, eqD_str, eqD_int, eqD_bl, dFld, dProp, dMeth, dAugI, dRev, dMake, dIsi, isT, isC, dNx, dBrk, dNev, dFst, gNm, gTp, gsCons, gsNil, dAsg, dStar, dYes, iniEnd, flatD, wipeE, ev_ixl, ev_ixt, ev_ixs, ev_ixr, ev_srcl, ev_srct, ev_srcs, ev_at0, ev_at1, ev_atl, ev_atn, ev_ixn, Option.some.injEq, exists_eq_left', exists_eq_left, List.foldl_cons, List.foldl_nil, List.map_cons, List.map_nil, List.replicate, List.length_append, List.length_map, List.length_cons, List.length_nil, List.cons_append, List.nil_append, List.append_nil, List.getElem?_cons_zero, List.getElem?_cons_succ, List.set_cons_zero, List.set_cons_succ, Nat.zero_add, Nat.reduceAdd, Nat.reduceSub, Nat.reduceLeDiff, true_and, and_true, decide_eq_true_eq, decide_eq_false_iff_not, ne_eq, reduceCtorEq, false_implies, true_implies, forall_const, Bool.and_self, Bool.and_true, Bool.true_and, lk_ends, lk_blocks, lk_text, lk_spot, lk_letter, Int.toNat_natCast, dFldO, dTmq, dMut, dSetQ, dParQ, qMake, D.still, D.stills, lf_past, lf_word, lf_letters, pf_past, pf_later, pm1, pm2, pm3, pm4, pi1, pi2, pi3, pi4, pi5, lm_state, lm_text, lm_search]
    simp only [dComp, iVal, envOf, dRet, dRetN, dOp, dSl, dSlO, dVar, dC, pSome, pNo, ev_sll, ev_slt, ev_sls, dBi, dCons, dNil, ev_lenl, ev_lent, ev_lens, ev_lenr, ev_gI, TC, Pd.gSub, gLt, gLe, gGt, gGe, gMod, gFdiv, gPow, gEq, gNe, ev_oki, ev_oks, ev_okl, ev_okt, gIs, gIsNot, gIsB, gIsNotB, Pd.isNon, dCall, dSeq, dSet, dSetO, dMul, setL, bCons, bOwn, bNil, dIf, dIte, dTB, dAnd, dOr, dNot, dBV, dAndV, dOrV, dChain, dTmp, dTmpT, frzE, dFrz, OD.d, dIxO, dApp, dSetI, dNeg, dLst, dLstO, dTup, dO, dDrop, ev_abs, ev_inttoi, ev_inttob, ev_inttos, ev_strtoi, ev_listl, ev_listt, ev_lists, ev_tupl, ev_tupt, ev_addi, ev_adds, ev_addl, ev_addt, ev_muli, ev_muls, ev_mull, ev_max, ev_min, ev_all, ev_any, gRepr, dLRg, Pd.r1, Pd.r2, eqD_str, eqD_int, eqD_bl, dFld, dProp, dMeth, dAugI, dRev, dMake, dIsi, isT, isC, dNx, dBrk, dNev, dFst, gNm, gTp, gsCons, gsNil, dAsg, dStar, dYes, iniEnd, flatD, wipeE, ev_ixl, ev_ixt, ev_ixs, ev_ixr, ev_srcl, ev_srct, ev_srcs, ev_at0, ev_at1, ev_atl, ev_atn, ev_ixn, Option.some.injEq, exists_eq_left', exists_eq_left, List.foldl_cons, List.foldl_nil, List.map_cons, List.map_nil, List.replicate, List.length_append, List.length_map, List.length_cons, List.length_nil, List.cons_append, List.nil_append, List.append_nil, List.getElem?_cons_zero, List.getElem?_cons_succ, List.set_cons_zero, List.set_cons_succ, Nat.zero_add, Nat.reduceAdd, Nat.reduceSub, Nat.reduceLeDiff, true_and, and_true, decide_eq_true_eq, decide_eq_false_iff_not, ne_eq, reduceCtorEq, false_implies, true_implies, forall_const, Bool.and_self, Bool.and_true, Bool.true_and, lk_ends, lk_blocks, lk_text, lk_spot, lk_letter, Int.toNat_natCast, dFldO, dTmq, dMut, dSetQ, dParQ, qMake, D.still, D.stills, lf_past, lf_word, lf_letters, pf_past, pf_later, pm1, pm2, pm3, pm4, pi1, pi2, pi3, pi4, pi5, lm_state, lm_text, lm_search]
    refine ⟨by omega, compW_map gD (fun g => .bl (decide (g.2.2 = 0))) F _ _ (fun g hg m K K' hK => ?_) ?_⟩
    · simp only [gD, envOf, dRet, dRetN, dOp, dSl, dSlO, dVar, dC, pSome, pNo, ev_sll, ev_slt, ev_sls, dBi, dCons, dNil, ev_lenl, ev_lent, ev_lens, ev_lenr, ev_gI, TC, Pd.gSub, gLt, gLe, gGt, gGe, gMod, gFdiv, gPow, gEq, gNe, ev_oki, ev_oks, ev_okl, ev_okt, gIs, gIsNot, gIsB, gIsNotB, Pd.isNon, dCall, dSeq, dSet, dSetO, dMul, setL, bCons, bOwn, bNil, dIf, dIte, dTB, dAnd, dOr, dNot, dBV, dAndV, dOrV, dChain, dTmp, dTmpT, frzE, dFrz, OD.d, dIxO, dApp, dSetI, dNeg, dLst, dLstO, dTup, dO, dDrop, ev_abs, ev_inttoi, ev_inttob, ev_inttos, ev_strtoi, ev_listl, ev_listt, ev_lists, ev_tupl, ev_tupt, ev_addi, ev_adds, ev_addl, ev_addt, ev_muli, ev_muls, ev_mull, ev_max, ev_min, ev_all, ev_any, gRepr, dLRg, Pd.r1, Pd.r2, eqD_str, eqD_int, eqD_bl, dFld, dProp, dMeth, dAugI, dRev, dMake, dIsi, isT, isC, dNx, dBrk, dNev, dFst, gNm, gTp, gsCons, gsNil, dAsg, dStar, dYes, iniEnd, flatD, wipeE, ev_ixl, ev_ixt, ev_ixs, ev_ixr, ev_srcl, ev_srct, ev_srcs, ev_at0, ev_at1, ev_atl, ev_atn, ev_ixn, Option.some.injEq, exists_eq_left', exists_eq_left, List.foldl_cons, List.foldl_nil, List.map_cons, List.map_nil, List.replicate, List.length_append, List.length_map, List.length_cons, List.length_nil, List.cons_append, List.nil_append, List.append_nil, List.getElem?_cons_zero, List.getElem?_cons_succ, List.set_cons_zero, List.set_cons_succ, Nat.zero_add, Nat.reduceAdd, Nat.reduceSub, Nat.reduceLeDiff, true_and, and_true, decide_eq_true_eq, decide_eq_false_iff_not, ne_eq, reduceCtorEq, false_implies, true_implies, forall_const, Bool.and_self, Bool.and_true, Bool.true_and, lk_ends, lk_blocks, lk_text, lk_spot, lk_letter, Int.toNat_natCast, dFldO, dTmq, dMut, dSetQ, dParQ, qMake, D.still, D.stills, lf_past, lf_word, lf_letters, pf_past, pf_later, pm1, pm2, pm3, pm4, pi1, pi2, pi3, pi4, pi5, lm_state, lm_text, lm_search]
      rw [show decide (((g.2.2 : Nat) : Int) = 0) = decide (g.2.2 = 0) by simp]
      exact hK
    rw [List.nil_append]
    refine ⟨F.map fun g => decide (g.2.2 = 0), by rw [← map_isBls, List.map_map]; rfl, fun hall => ?_, fun hno => ?_⟩
    · have hkF : k < F.length := by omega
      have hat : L2.atI (F.map gD) (k : Int) = some (gD F[k]) := atI_nat (by rw [List.getElem?_map, List.getElem?_eq_getElem hkF]; rfl)
      refine ⟨_, hat, ?_⟩
      simp only [gD, envOf, dRet, dRetN, dOp, dSl, dSlO, dVar, dC, pSome, pNo, ev_sll, ev_slt, ev_sls, dBi, dCons, dNil, ev_lenl, ev_lent, ev_lens, ev_lenr, ev_gI, TC, Pd.gSub, gLt, gLe, gGt, gGe, gMod, gFdiv, gPow, gEq, gNe, ev_oki, ev_oks, ev_okl, ev_okt, gIs, gIsNot, gIsB, gIsNotB, Pd.isNon, dCall, dSeq, dSet, dSetO, dMul, setL, bCons, bOwn, bNil, dIf, dIte, dTB, dAnd, dOr, dNot, dBV, dAndV, dOrV, dChain, dTmp, dTmpT, frzE, dFrz, OD.d, dIxO, dApp, dSetI, dNeg, dLst, dLstO, dTup, dO, dDrop, ev_abs, ev_inttoi, ev_inttob, ev_inttos, ev_strtoi, ev_listl, ev_listt, ev_lists, ev_tupl, ev_tupt, ev_addi, ev_adds, ev_addl, ev_addt, ev_muli, ev_muls, ev_mull, ev_max, ev_min, ev_all, ev_any, gRepr, dLRg, Pd.r1, Pd.r2, eqD_str, eqD_int, eqD_bl, dFld, dProp, dMeth, dAugI, dRev, dMake, dIsi, isT, isC, dNx, dBrk, dNev, dFst, gNm, gTp, gsCons, gsNil, dAsg, dStar, dYes, iniEnd, flatD, wipeE, ev_ixl, ev_ixt, ev_ixs, ev_ixr, ev_srcl, ev_srct, ev_srcs, ev_at0, ev_at1, ev_atl, ev_atn, ev_ixn, Option.some.injEq, exists_eq_left', exists_eq_left, List.foldl_cons, List.foldl_nil, List.map_cons, List.map_nil, List.replicate, List.length_append, List.length_map, List.length_cons, List.length_nil, List.cons_append, List.nil_append, List.append_nil, List.getElem?_cons_zero, List.getElem?_cons_succ, List.set_cons_zero, List.set_cons_succ, Nat.zero_add, Nat.reduceAdd, Nat.reduceSub, Nat.reduceLeDiff, true_and, and_true, decide_eq_true_eq, decide_eq_false_iff_not, ne_eq, reduceCtorEq, false_implies, true_implies, forall_const, Bool.and_self, Bool.and_true, Bool.true_and, lk_ends, lk_blocks, lk_text, lk_spot, lk_letter, Int.toNat_natCast, dFldO, dTmq, dMut, dSetQ, dParQ, qMake, D.still, D.stills, lf_past, lf_word, lf_letters, pf_past, pf_later, pm1, pm2, pm3, pm4, pi1, pi2, pi3, pi4, pi5, lm_state, lm_text, lm_search]
      refine ⟨_, hat, ?_⟩
      simp only [gD, envOf, dRet, dRetN, dOp, dSl, dSlO, dVar, dC, pSome, pNo, ev_sll, ev_slt, ev_sls, dBi, dCons, dNil, ev_lenl, ev_lent, ev_lens, ev_lenr, ev_gI, TC, Pd.gSub, gLt, gLe, gGt, gGe, gMod, gFdiv, gPow, gEq, gNe, ev_oki, ev_oks, ev_okl, ev_okt, gIs, gIsNot, gIsB, gIsNotB, Pd.isNon, dCall, dSeq, dSet, dSetO, dMul, setL, bCons, bOwn, bNil, dIf, dIte, dTB, dAnd, dOr, dNot, dBV, dAndV, dOrV, dChain, dTmp, dTmpT, frzE, dFrz, OD.d, dIxO, dApp, dSetI, dNeg, dLst, dLstO, dTup, dO, dDrop, ev_abs, ev_inttoi, ev_inttob, ev_inttos, ev_strtoi, ev_listl, ev_listt, ev_lists, ev_tupl, ev_tupt, ev_addi, ev_adds, ev_addl, ev_addt, ev_muli, ev_muls, ev_mull, ev_max, ev_min, ev_all, ev_any, gRepr, dLRg, Pd.r1, Pd.r2, eqD_str, eqD_int, eqD_bl, dFld, dProp, dMeth, dAugI, dRev, dMake, dIsi, isT, isC, dNx, dBrk, dNev, dFst, gNm, gTp, gsCons, gsNil, dAsg, dStar, dYes, iniEnd, flatD, wipeE, ev_ixl, ev_ixt, ev_ixs, ev_ixr, ev_srcl, ev_srct, ev_srcs, ev_at0, ev_at1, ev_atl, ev_atn, ev_ixn, Option.some.injEq, exists_eq_left', exists_eq_left, List.foldl_cons, List.foldl_nil, List.map_cons, List.map_nil, List.replicate, List.length_append, List.length_map, List.length_cons, List.length_nil, List.cons_append, List.nil_append, List.append_nil, List.getElem?_cons_zero, List.getElem?_cons_succ, List.set_cons_zero, List.set_cons_succ, Nat.zero_add, Nat.reduceAdd, Nat.reduceSub, Nat.reduceLeDiff, true_and, and_true, decide_eq_true_eq, decide_eq_false_iff_not, ne_eq, reduceCtorEq, false_implies, true_implies, forall_const, Bool.and_self, Bool.and_true, Bool.true_and, lk_ends, lk_blocks, lk_text, lk_spot, lk_letter, Int.toNat_natCast, dFldO, dTmq, dMut, dSetQ, dParQ, qMake, D.still, D.stills, lf_past, lf_word, lf_letters, pf_past, pf_later, pm1, pm2, pm3, pm4, pi1, pi2, pi3, pi4, pi5, lm_state, lm_text, lm_search]
      have hix : ixN F.length (k : Int) = some k := by
        unfold ixN
        simp
        omega
      refine ⟨k, hix, ?_⟩
      have hmem := List.getElem_mem hkF
      refine hnx _ _ ⟨rfl, F.set k (F[k].1, F[k].2.1, 1), ⟨by rw [List.length_set]; omega, by rw [List.length_set]; omega, fun g hg => ?_, fun g hg => ?_, ?_, ?_⟩, ?_⟩
      · rcases List.mem_or_eq_of_mem_set hg with h | rfl
        · exact P.lt g h
        · exact P.lt F[k] hmem
      · rcases List.mem_or_eq_of_mem_set hg with h | rfl
        · exact P.fo g h
        · exact ⟨(P.fo F[k] hmem).1, by show 1 ≤ 9; decide, fun h => (by cases h)⟩
      · rw [List.map_set]
        have : (F.map fun g => (g.1, 1)).set k (F[k].1, 1) = F.map fun g => (g.1, 1) := by
          apply List.ext_getElem
          · simp
          · intro i h1 h2
            rw [List.getElem_set]
            split
            · rename_i h
              subst h
              simp
            · rfl
        rw [this]
        exact P.adj
      · exact ⟨(F[k].1, F[k].2.1, 1), List.mem_set hkF _, by show 0 < 1; decide⟩
      · rw [List.map_set]
        rfl
    · refine hnx _ _ ⟨rfl, F, ⟨by omega, by omega, P.lt, P.fo, P.adj, ?_⟩, rfl⟩
      rw [List.all_eq_false] at hno
      obtain ⟨b, hb, hb2⟩ := hno
      obtain ⟨g, hg, rfl⟩ := List.mem_map.mp hb
      exact ⟨g, hg, by simp at hb2; omega⟩
  rintro n4 ε ⟨rfl, gs, G, rfl⟩
  simp only [envOf, dRet, dRetN, dOp, dSl, dSlO, dVar, dC, pSome, pNo, ev_sll, ev_slt, ev_sls, dBi, dCons, dNil, ev_lenl, ev_lent, ev_lens, ev_lenr, ev_gI, TC, Pd.gSub, gLt, gLe, gGt, gGe, gMod, gFdiv, gPow, gEq, gNe, ev_oki, ev_oks, ev_okl, ev_okt, gIs, gIsNot, gIsB, gIsNotB, Pd.isNon, dCall, dSeq, dSet, dSetO, dMul, setL, bCons, bOwn, bNil, dIf, dIte, dTB, dAnd, dOr, dNot, dBV, dAndV, dOrV, dChain, dTmp, dTmpT, frzE, dFrz, OD.d, dIxO, dApp, dSetI, dNeg, dLst, dLstO, dTup, dO, dDrop, ev_abs, ev_inttoi, ev_inttob, ev_inttos, ev_strtoi, ev_listl, ev_listt, ev_lists, ev_tupl, ev_tupt, ev_addi, ev_adds, ev_addl, ev_addt, ev_muli, ev_muls, ev_mull, ev_max, ev_min, ev_all, ev_any, gRepr, dLRg, Pd.r1, Pd.r2, eqD_str, eqD_int, eqD_bl, dFld, dProp, dMeth, dAugI, dRev, dMake, dIsi, isT, isC, dNx, dBrk, dNev, dFst, gNm, gTp, gsCons, gsNil, dAsg, dStar, dYes, iniEnd, flatD, wipeE, ev_ixl, ev_ixt, ev_ixs, ev_ixr, ev_srcl, ev_srct, ev_srcs, ev_at0, ev_at1, ev_atl, ev_atn, ev_ixn, Option.some.injEq, exists_eq_left', exists_eq_left, List.foldl_cons, List.foldl_nil, List.map_cons, List.map_nil, List.replicate, List.length_append, List.length_map, List.length_cons, List.length_nil, List.cons_append, List.nil_append, List.append_nil, List.getElem?_cons_zero, List.getElem?_cons_succ, List.set_cons_zero, List.set_cons_succ, Nat.zero_add, Nat.reduceAdd, Nat.reduceSub, Nat.reduceLeDiff, true_and, and_true, decide_eq_true_eq, decide_eq_false_iff_not, ne_eq, reduceCtorEq, false_implies, true_implies, forall_const, Bool.and_self, Bool.and_true, Bool.true_and, lk_ends, lk_blocks, lk_text, lk_spot, lk_letter, Int.toNat_natCast, dFldO, dTmq, dMut, dSetQ, dParQ, qMake, D.still, D.stills, lf_past, lf_word, lf_letters, pf_past, pf_later, pm1, pm2, pm3, pm4, pi1, pi2, pi3, pi4, pi5, lm_state, lm_text, lm_search]
  exact q _ gs (by omega) (by omega) G
end LW
namespace LW
open PySem L2 Pd
theorem numD_inj45 {a b : Nat} (ha : a ≤ 99) (hb : b ≤ 99) (h : numD (a : Int) = numD (b : Int)) : a = b := by
  have h1 := numD_back (k := a) (Nat.lt_of_le_of_lt ha (by decide))
  have h2 := numD_back (k := b) (Nat.lt_of_le_of_lt hb (by decide))
  rw [h, h2] at h1
  have := Option.some.inj h1
  omega
theorem split45 {x : Nat} : ∀ {p p' q q' : List Nat}, x ∉ p → x ∉ p' → p ++ x :: q = p' ++ x :: q' → p = p' ∧ q = q'
  | [], [], _, _, _, _, h => by injection h with _ h; exact ⟨rfl, h⟩
  | [], y :: p', _, _, _, h2, h => by injection h with h _; exact absurd (by rw [h]; simp) h2
  | y :: p, [], _, _, h1, _, h => by injection h with h _; exact absurd (by rw [← h]; simp) h1
  | y :: p, y' :: p', q, q', h1, h2, h => by
    rw [List.cons_append, List.cons_append] at h
    injection h with e h
    obtain ⟨e1, e2⟩ := split45 (fun z => h1 (List.mem_cons_of_mem _ z)) (fun z => h2 (List.mem_cons_of_mem _ z)) h
    exact ⟨by rw [e, e1], e2⟩
theorem ft_inj {a b a' b' : Nat} (h : FOk a b) (h' : FOk a' b') (e : ft a b = ft a' b') : a = a' ∧ b = b' := by
  obtain ⟨h1, h2, h3⟩ := h
  obtain ⟨i1, i2, i3⟩ := h'
  have no1 : ∀ b : Nat, 78 ∉ (if 1 < b then numD (b : Int) else []) := fun b => by
    split
    · exact num_no78 b
    · simp
  unfold ft at e
  by_cases hb : b = 0
  · by_cases hb' : b' = 0
    · rw [if_pos hb, if_pos hb'] at e
      have j1 := h3 hb
      have j2 := i3 hb'
      by_cases k1 : 1 < a <;> by_cases k2 : 1 < a'
      · rw [if_pos k1, if_pos k2] at e
        exact ⟨numD_inj45 h1 i1 e, by omega⟩
      · rw [if_pos k1, if_neg k2] at e
        exact absurd e (numD_ne a)
      · rw [if_neg k1, if_pos k2] at e
        exact absurd e.symm (numD_ne a')
      · exact ⟨by omega, by omega⟩
    · rw [if_pos hb, if_neg hb'] at e
      exact absurd (by rw [e]; simp) (no1 a)
  · by_cases hb' : b' = 0
    · rw [if_neg hb, if_pos hb'] at e
      exact absurd (by rw [← e]; simp) (no1 a')
    · rw [if_neg hb, if_neg hb'] at e
      obtain ⟨e1, e2⟩ := split45 (no1 b) (no1 b') e
      refine ⟨?_, ?_⟩
      · by_cases k1 : 0 < a <;> by_cases k2 : 0 < a'
        · rw [if_pos k1, if_pos k2] at e2
          injection e2 with _ e2
          exact numD_inj45 h1 i1 e2
        · rw [if_pos k1, if_neg k2] at e2; cases e2
        · rw [if_neg k1, if_pos k2] at e2; cases e2
        · omega
      · by_cases k1 : 1 < b <;> by_cases k2 : 1 < b'
        · rw [if_pos k1, if_pos k2] at e1
          exact numD_inj45 (by omega) (by omega) e1
        · rw [if_pos k1, if_neg k2] at e1
          exact absurd e1 (numD_ne b)
        · rw [if_neg k1, if_pos k2] at e1
          exact absurd e1.symm (numD_ne b')
        · omega
theorem fore45 : ∀ {p p' q q' : List Nat}, (∀ c ∈ p, c ∉ letters) → (∀ c ∈ p', c ∉ letters) → (∀ c, q.head? = some c → c ∈ letters) → (∀ c, q'.head? = some c → c ∈ letters) → p ++ q = p' ++ q' → p = p' ∧ q = q'
  | [], [], _, _, _, _, _, _, h => ⟨rfl, h⟩
  | [], y :: p', q, q', _, h2, h3, _, h => by
    rw [List.nil_append, List.cons_append] at h
    subst h
    exact absurd (h3 y rfl) (h2 y (by simp))
  | y :: p, [], q, q', h1, _, _, h4, h => by
    rw [List.nil_append, List.cons_append] at h
    subst h
    exact absurd (h4 y rfl) (h1 y (by simp))
  | y :: p, y' :: p', q, q', h1, h2, h3, h4, h => by
    rw [List.cons_append, List.cons_append] at h
    injection h with e h
    obtain ⟨e1, e2⟩ := fore45 (fun c z => h1 c (List.mem_cons_of_mem _ z)) (fun c z => h2 c (List.mem_cons_of_mem _ z)) h3 h4 h
    exact ⟨by rw [e, e1], e2⟩
theorem gwx_head {r : List GB} (h : ∀ g ∈ r, g.1 ∈ letters) : ∀ c, (gwx r).head? = some c → c ∈ letters := fun c hc => by
  cases r with
  | nil => cases hc
  | cons g r =>
    rw [gwx, List.cons_append] at hc
    simp only [List.head?_cons, Option.some.injEq] at hc
    rw [← hc]
    exact h g (by simp)
theorem gwx_inj : ∀ {a b : List GB}, (∀ g ∈ a, g.1 ∈ letters) → (∀ g ∈ b, g.1 ∈ letters) → (∀ g ∈ a, FOk g.2.1 g.2.2) → (∀ g ∈ b, FOk g.2.1 g.2.2) → gwx a = gwx b → a = b
  | [], [], _, _, _, _, _ => rfl
  | [], g :: r, _, _, _, _, h => by rw [gwx, gwx, List.cons_append] at h; cases h
  | g :: r, [], _, _, _, _, h => by rw [gwx, gwx, List.cons_append] at h; cases h
  | g :: r, g' :: r', l1, l2, f1, f2, h => by
    rw [gwx, gwx, List.cons_append, List.cons_append] at h
    injection h with e h
    obtain ⟨e1, e2⟩ := fore45 (fun c hc => ft_not hc) (fun c hc => ft_not hc) (gwx_head fun x hx => l1 x (List.mem_cons_of_mem _ hx)) (gwx_head fun x hx => l2 x (List.mem_cons_of_mem _ hx)) h
    obtain ⟨e3, e4⟩ := ft_inj (f1 g (by simp)) (f2 g' (by simp)) e1
    have e5 := gwx_inj (fun x hx => l1 x (List.mem_cons_of_mem _ hx)) (fun x hx => l2 x (List.mem_cons_of_mem _ hx)) (fun x hx => f1 x (List.mem_cons_of_mem _ hx)) (fun x hx => f2 x (List.mem_cons_of_mem _ hx)) e2
    rw [e5]
    obtain ⟨x1, x2, x3⟩ := g
    obtain ⟨y1, y2, y3⟩ := g'
    simp only at e e3 e4
    subst e e3 e4
    rfl
theorem eqDs_gb : ∀ (a b : List GB), eqDs (a.map gD) (b.map gD) = decide (a = b)
  | [], [] => rfl
  | [], _ :: _ => rfl
  | _ :: _, [] => rfl
  | x :: a, y :: b => by
    have e : eqD (gD x) (gD y) = decide (x = y) := by
      obtain ⟨x1, x2, x3⟩ := x
      obtain ⟨y1, y2, y3⟩ := y
      show eqDs [.str [x1], .int (x2 : Nat), .int (x3 : Nat)] [.str [y1], .int (y2 : Nat), .int (y3 : Nat)] = _
      simp only [eqDs, eqD_str, eqD_int, Bool.and_true]
      rw [Bool.eq_iff_iff]
      simp only [Bool.and_eq_true, decide_eq_true_eq, List.cons.injEq, and_true, Prod.mk.injEq]
      omega
    rw [List.map_cons, List.map_cons, eqDs, e, eqDs_gb a b, Bool.eq_iff_iff]
    simp
theorem eq_gb {a b : List GB} (A : GOk a) (B : GOk b) : eqD (.lst (a.map gD)) (.lst (b.map gD)) = decide (gwx a = gwx b) := by
  show eqDs (a.map gD) (b.map gD) = _
  rw [eqDs_gb, Bool.eq_iff_iff, decide_eq_true_eq, decide_eq_true_eq]
  exact ⟨fun h => by rw [h], gwx_inj A.lt B.lt A.fo B.fo⟩
theorem pow45 : CPowW 10 20 := ⟨by decide, by decide, by decide +kernel⟩
def s_atRight (c : Str → Addr) : FD := fun ds n P => ∃ (gs : List GB) (d : D), ds = [grownD c gs, .lst (gs.map gD), d] ∧ GOk gs ∧ V5 d ∧ P n (.bl true)
theorem l_atRight (c : Str → Addr) : ∀ ds n Q, s_atRight c ds n Q → dFn 6 3 (b__law_is_at_right_v4 c (s_GrownAtX c) s_intG s_grown_at i_word (s_Word_eq c) (s_Word_text c)) ds n Q := by
  rintro ds n Q ⟨gs, d, rfl, G, V, q⟩
  refine ⟨rfl, ?_⟩
  have h10 := G.most
  have hpl := V.pl
  obtain ⟨o1, o2⟩ := V.repr
  show dSeq _ _ _ _ _
  cases hi : intIn d 1 (some (10 ^ 20)) with
  | false =>
    refine seqAt n [.val (grownD c gs), .val (.lst (gs.map gD)), .val d, .val (.err (c "BadNumber") d), .val .non, .no] (fun nx hnx => ?_) ?_
    · simp only [s_GrownAtX, dHear, dMethR, grownD, fldsG, envOf, dRet, dRetN, dOp, dSl, dSlO, dVar, dC, pSome, pNo, ev_sll, ev_slt, ev_sls, dBi, dCons, dNil, ev_lenl, ev_lent, ev_lens, ev_lenr, ev_gI, TC, Pd.gSub, gLt, gLe, gGt, gGe, gMod, gFdiv, gPow, gEq, gNe, ev_oki, ev_oks, ev_okl, ev_okt, gIs, gIsNot, gIsB, gIsNotB, Pd.isNon, dCall, dSeq, dSet, dSetO, dMul, setL, bCons, bOwn, bNil, dIf, dIte, dTB, dAnd, dOr, dNot, dBV, dAndV, dOrV, dChain, dTmp, dTmpT, frzE, dFrz, OD.d, dIxO, dApp, dSetI, dNeg, dLst, dLstO, dTup, dO, dDrop, ev_abs, ev_inttoi, ev_inttob, ev_inttos, ev_strtoi, ev_listl, ev_listt, ev_lists, ev_tupl, ev_tupt, ev_addi, ev_adds, ev_addl, ev_addt, ev_muli, ev_muls, ev_mull, ev_max, ev_min, ev_all, ev_any, gRepr, dLRg, Pd.r1, Pd.r2, eqD_str, eqD_int, eqD_bl, dFld, dProp, dMeth, dAugI, dRev, dMake, dIsi, isT, isC, dNx, dBrk, dNev, dFst, gNm, gTp, gsCons, gsNil, dAsg, dStar, dYes, iniEnd, flatD, wipeE, ev_ixl, ev_ixt, ev_ixs, ev_ixr, ev_srcl, ev_srct, ev_srcs, ev_at0, ev_at1, ev_atl, ev_atn, ev_ixn, Option.some.injEq, exists_eq_left', exists_eq_left, List.foldl_cons, List.foldl_nil, List.map_cons, List.map_nil, List.replicate, List.length_append, List.length_map, List.length_cons, List.length_nil, List.cons_append, List.nil_append, List.append_nil, List.getElem?_cons_zero, List.getElem?_cons_succ, List.set_cons_zero, List.set_cons_succ, Nat.zero_add, Nat.reduceAdd, Nat.reduceSub, Nat.reduceLeDiff, true_and, and_true, decide_eq_true_eq, decide_eq_false_iff_not, ne_eq, reduceCtorEq, false_implies, true_implies, forall_const, Bool.and_self, Bool.and_true, Bool.true_and, lk_ends, lk_blocks, lk_text, lk_spot, lk_letter, Int.toNat_natCast, dFldO, dTmq, dMut, dSetQ, dParQ, qMake, D.still, D.stills, lf_past, lf_word, lf_letters, pf_past, pf_later, pm1, pm2, pm3, pm4, pi1, pi2, pi3, pi4, pi5, lm_state, lm_text, lm_search]
      refine ⟨rfl, gs, d, rfl, G, hpl, fun h => ?_, fun h => ⟨by simp, hnx⟩⟩
      rw [hi] at h
      cases h
    show dSeq _ _ _ _ _
    show dIf _ _ _ _ _ _
    simp only [envOf, dRet, dRetN, dOp, dSl, dSlO, dVar, dC, pSome, pNo, ev_sll, ev_slt, ev_sls, dBi, dCons, dNil, ev_lenl, ev_lent, ev_lens, ev_lenr, ev_gI, TC, Pd.gSub, gLt, gLe, gGt, gGe, gMod, gFdiv, gPow, gEq, gNe, ev_oki, ev_oks, ev_okl, ev_okt, gIs, gIsNot, gIsB, gIsNotB, Pd.isNon, dCall, dSeq, dSet, dSetO, dMul, setL, bCons, bOwn, bNil, dIf, dIte, dTB, dAnd, dOr, dNot, dBV, dAndV, dOrV, dChain, dTmp, dTmpT, frzE, dFrz, OD.d, dIxO, dApp, dSetI, dNeg, dLst, dLstO, dTup, dO, dDrop, ev_abs, ev_inttoi, ev_inttob, ev_inttos, ev_strtoi, ev_listl, ev_listt, ev_lists, ev_tupl, ev_tupt, ev_addi, ev_adds, ev_addl, ev_addt, ev_muli, ev_muls, ev_mull, ev_max, ev_min, ev_all, ev_any, gRepr, dLRg, Pd.r1, Pd.r2, eqD_str, eqD_int, eqD_bl, dFld, dProp, dMeth, dAugI, dRev, dMake, dIsi, isT, isC, dNx, dBrk, dNev, dFst, gNm, gTp, gsCons, gsNil, dAsg, dStar, dYes, iniEnd, flatD, wipeE, ev_ixl, ev_ixt, ev_ixs, ev_ixr, ev_srcl, ev_srct, ev_srcs, ev_at0, ev_at1, ev_atl, ev_atn, ev_ixn, Option.some.injEq, exists_eq_left', exists_eq_left, List.foldl_cons, List.foldl_nil, List.map_cons, List.map_nil, List.replicate, List.length_append, List.length_map, List.length_cons, List.length_nil, List.cons_append, List.nil_append, List.append_nil, List.getElem?_cons_zero, List.getElem?_cons_succ, List.set_cons_zero, List.set_cons_succ, Nat.zero_add, Nat.reduceAdd, Nat.reduceSub, Nat.reduceLeDiff, true_and, and_true, decide_eq_true_eq, decide_eq_false_iff_not, ne_eq, reduceCtorEq, false_implies, true_implies, forall_const, Bool.and_self, Bool.and_true, Bool.true_and, lk_ends, lk_blocks, lk_text, lk_spot, lk_letter, Int.toNat_natCast, dFldO, dTmq, dMut, dSetQ, dParQ, qMake, D.still, D.stills, lf_past, lf_word, lf_letters, pf_past, pf_later, pm1, pm2, pm3, pm4, pi1, pi2, pi3, pi4, pi5, lm_state, lm_text, lm_search]
    refine ⟨pow45, d, 1, some (10 ^ 20), rfl, hpl, ?_⟩
    rw [hi]
    refine ⟨fun _ => ?_, fun h => by cases h⟩
    simp only [isE, dVal, gReprX, envOf, dRet, dRetN, dOp, dSl, dSlO, dVar, dC, pSome, pNo, ev_sll, ev_slt, ev_sls, dBi, dCons, dNil, ev_lenl, ev_lent, ev_lens, ev_lenr, ev_gI, TC, Pd.gSub, gLt, gLe, gGt, gGe, gMod, gFdiv, gPow, gEq, gNe, ev_oki, ev_oks, ev_okl, ev_okt, gIs, gIsNot, gIsB, gIsNotB, Pd.isNon, dCall, dSeq, dSet, dSetO, dMul, setL, bCons, bOwn, bNil, dIf, dIte, dTB, dAnd, dOr, dNot, dBV, dAndV, dOrV, dChain, dTmp, dTmpT, frzE, dFrz, OD.d, dIxO, dApp, dSetI, dNeg, dLst, dLstO, dTup, dO, dDrop, ev_abs, ev_inttoi, ev_inttob, ev_inttos, ev_strtoi, ev_listl, ev_listt, ev_lists, ev_tupl, ev_tupt, ev_addi, ev_adds, ev_addl, ev_addt, ev_muli, ev_muls, ev_mull, ev_max, ev_min, ev_all, ev_any, gRepr, dLRg, Pd.r1, Pd.r2, eqD_str, eqD_int, eqD_bl, dFld, dProp, dMeth, dAugI, dRev, dMake, dIsi, isT, isC, dNx, dBrk, dNev, dFst, gNm, gTp, gsCons, gsNil, dAsg, dStar, dYes, iniEnd, flatD, wipeE, ev_ixl, ev_ixt, ev_ixs, ev_ixr, ev_srcl, ev_srct, ev_srcs, ev_at0, ev_at1, ev_atl, ev_atn, ev_ixn, Option.some.injEq, exists_eq_left', exists_eq_left, List.foldl_cons, List.foldl_nil, List.map_cons, List.map_nil, List.replicate, List.length_append, List.length_map, List.length_cons, List.length_nil, List.cons_append, List.nil_append, List.append_nil, List.getElem?_cons_zero, List.getElem?_cons_succ, List.set_cons_zero, List.set_cons_succ, Nat.zero_add, Nat.reduceAdd, Nat.reduceSub, Nat.reduceLeDiff, true_and, and_true, decide_eq_true_eq, decide_eq_false_iff_not, ne_eq, reduceCtorEq, false_implies, true_implies, forall_const, Bool.and_self, Bool.and_true, Bool.true_and, lk_ends, lk_blocks, lk_text, lk_spot, lk_letter, Int.toNat_natCast, dFldO, dTmq, dMut, dSetQ, dParQ, qMake, D.still, D.stills, lf_past, lf_word, lf_letters, pf_past, pf_later, pm1, pm2, pm3, pm4, pi1, pi2, pi3, pi4, pi5, lm_state, lm_text, lm_search]
    refine ⟨true, by simp, fun _ => ?_, fun h => by cases h⟩
    exact ⟨by simp, o1, o2, o1, o2, by rw [decide_eq_true trivial]; exact q⟩
  | true =>
    cases d with
    | int v =>
      have hi' := hi
      simp only [intIn, Bool.and_eq_true, decide_eq_true_eq] at hi'
      obtain ⟨k, rfl⟩ : ∃ k : Nat, v = k := ⟨v.toNat, by omega⟩
      have h1 : 1 ≤ k := by omega
      have hk : k ≤ 10 ^ 20 := by omega
      have T := told_at G h1 hk
      refine seqAt n [.val (grownD c gs), .val (.lst (gs.map gD)), .val (.int (k : Nat)), .val .non, .val (wordD c (atB gs k)), .no] (fun nx hnx => ?_) ?_
      · simp only [s_GrownAtX, dHear, dMethR, grownD, fldsG, envOf, dRet, dRetN, dOp, dSl, dSlO, dVar, dC, pSome, pNo, ev_sll, ev_slt, ev_sls, dBi, dCons, dNil, ev_lenl, ev_lent, ev_lens, ev_lenr, ev_gI, TC, Pd.gSub, gLt, gLe, gGt, gGe, gMod, gFdiv, gPow, gEq, gNe, ev_oki, ev_oks, ev_okl, ev_okt, gIs, gIsNot, gIsB, gIsNotB, Pd.isNon, dCall, dSeq, dSet, dSetO, dMul, setL, bCons, bOwn, bNil, dIf, dIte, dTB, dAnd, dOr, dNot, dBV, dAndV, dOrV, dChain, dTmp, dTmpT, frzE, dFrz, OD.d, dIxO, dApp, dSetI, dNeg, dLst, dLstO, dTup, dO, dDrop, ev_abs, ev_inttoi, ev_inttob, ev_inttos, ev_strtoi, ev_listl, ev_listt, ev_lists, ev_tupl, ev_tupt, ev_addi, ev_adds, ev_addl, ev_addt, ev_muli, ev_muls, ev_mull, ev_max, ev_min, ev_all, ev_any, gRepr, dLRg, Pd.r1, Pd.r2, eqD_str, eqD_int, eqD_bl, dFld, dProp, dMeth, dAugI, dRev, dMake, dIsi, isT, isC, dNx, dBrk, dNev, dFst, gNm, gTp, gsCons, gsNil, dAsg, dStar, dYes, iniEnd, flatD, wipeE, ev_ixl, ev_ixt, ev_ixs, ev_ixr, ev_srcl, ev_srct, ev_srcs, ev_at0, ev_at1, ev_atl, ev_atn, ev_ixn, Option.some.injEq, exists_eq_left', exists_eq_left, List.foldl_cons, List.foldl_nil, List.map_cons, List.map_nil, List.replicate, List.length_append, List.length_map, List.length_cons, List.length_nil, List.cons_append, List.nil_append, List.append_nil, List.getElem?_cons_zero, List.getElem?_cons_succ, List.set_cons_zero, List.set_cons_succ, Nat.zero_add, Nat.reduceAdd, Nat.reduceSub, Nat.reduceLeDiff, true_and, and_true, decide_eq_true_eq, decide_eq_false_iff_not, ne_eq, reduceCtorEq, false_implies, true_implies, forall_const, Bool.and_self, Bool.and_true, Bool.true_and, lk_ends, lk_blocks, lk_text, lk_spot, lk_letter, Int.toNat_natCast, dFldO, dTmq, dMut, dSetQ, dParQ, qMake, D.still, D.stills, lf_past, lf_word, lf_letters, pf_past, pf_later, pm1, pm2, pm3, pm4, pi1, pi2, pi3, pi4, pi5, lm_state, lm_text, lm_search]
        refine ⟨rfl, gs, _, rfl, G, hpl, fun h k' e j1 j2 => ?_, fun h => ?_⟩
        · injection e with e
          obtain rfl : k = k' := by omega
          exact hnx
        · rw [hi] at h
          cases h
      refine seqAt n [.val (grownD c gs), .val (.lst (gs.map gD)), .val (.int (k : Nat)), .val .non, .val (wordD c (atB gs k)), .no] (fun nx hnx => ?_) ?_
      · simp only [envOf, dRet, dRetN, dOp, dSl, dSlO, dVar, dC, pSome, pNo, ev_sll, ev_slt, ev_sls, dBi, dCons, dNil, ev_lenl, ev_lent, ev_lens, ev_lenr, ev_gI, TC, Pd.gSub, gLt, gLe, gGt, gGe, gMod, gFdiv, gPow, gEq, gNe, ev_oki, ev_oks, ev_okl, ev_okt, gIs, gIsNot, gIsB, gIsNotB, Pd.isNon, dCall, dSeq, dSet, dSetO, dMul, setL, bCons, bOwn, bNil, dIf, dIte, dTB, dAnd, dOr, dNot, dBV, dAndV, dOrV, dChain, dTmp, dTmpT, frzE, dFrz, OD.d, dIxO, dApp, dSetI, dNeg, dLst, dLstO, dTup, dO, dDrop, ev_abs, ev_inttoi, ev_inttob, ev_inttos, ev_strtoi, ev_listl, ev_listt, ev_lists, ev_tupl, ev_tupt, ev_addi, ev_adds, ev_addl, ev_addt, ev_muli, ev_muls, ev_mull, ev_max, ev_min, ev_all, ev_any, gRepr, dLRg, Pd.r1, Pd.r2, eqD_str, eqD_int, eqD_bl, dFld, dProp, dMeth, dAugI, dRev, dMake, dIsi, isT, isC, dNx, dBrk, dNev, dFst, gNm, gTp, gsCons, gsNil, dAsg, dStar, dYes, iniEnd, flatD, wipeE, ev_ixl, ev_ixt, ev_ixs, ev_ixr, ev_srcl, ev_srct, ev_srcs, ev_at0, ev_at1, ev_atl, ev_atn, ev_ixn, Option.some.injEq, exists_eq_left', exists_eq_left, List.foldl_cons, List.foldl_nil, List.map_cons, List.map_nil, List.replicate, List.length_append, List.length_map, List.length_cons, List.length_nil, List.cons_append, List.nil_append, List.append_nil, List.getElem?_cons_zero, List.getElem?_cons_succ, List.set_cons_zero, List.set_cons_succ, Nat.zero_add, Nat.reduceAdd, Nat.reduceSub, Nat.reduceLeDiff, true_and, and_true, decide_eq_true_eq, decide_eq_false_iff_not, ne_eq, reduceCtorEq, false_implies, true_implies, forall_const, Bool.and_self, Bool.and_true, Bool.true_and, lk_ends, lk_blocks, lk_text, lk_spot, lk_letter, Int.toNat_natCast, dFldO, dTmq, dMut, dSetQ, dParQ, qMake, D.still, D.stills, lf_past, lf_word, lf_letters, pf_past, pf_later, pm1, pm2, pm3, pm4, pi1, pi2, pi3, pi4, pi5, lm_state, lm_text, lm_search]
        refine ⟨pow45, _, 1, some (10 ^ 20), rfl, hpl, ?_⟩
        rw [hi]
        exact ⟨fun h => (by cases h), fun _ => hnx⟩
      refine seqAt n [.val (grownD c gs), .val (.lst (gs.map gD)), .val (.int (k : Nat)), .val .non, .val (wordD c (atB gs k)), .val (.str (txt (atB gs k)))] (fun nx hnx => ?_) ?_
      · simp only [envOf, dRet, dRetN, dOp, dSl, dSlO, dVar, dC, pSome, pNo, ev_sll, ev_slt, ev_sls, dBi, dCons, dNil, ev_lenl, ev_lent, ev_lens, ev_lenr, ev_gI, TC, Pd.gSub, gLt, gLe, gGt, gGe, gMod, gFdiv, gPow, gEq, gNe, ev_oki, ev_oks, ev_okl, ev_okt, gIs, gIsNot, gIsB, gIsNotB, Pd.isNon, dCall, dSeq, dSet, dSetO, dMul, setL, bCons, bOwn, bNil, dIf, dIte, dTB, dAnd, dOr, dNot, dBV, dAndV, dOrV, dChain, dTmp, dTmpT, frzE, dFrz, OD.d, dIxO, dApp, dSetI, dNeg, dLst, dLstO, dTup, dO, dDrop, ev_abs, ev_inttoi, ev_inttob, ev_inttos, ev_strtoi, ev_listl, ev_listt, ev_lists, ev_tupl, ev_tupt, ev_addi, ev_adds, ev_addl, ev_addt, ev_muli, ev_muls, ev_mull, ev_max, ev_min, ev_all, ev_any, gRepr, dLRg, Pd.r1, Pd.r2, eqD_str, eqD_int, eqD_bl, dFld, dProp, dMeth, dAugI, dRev, dMake, dIsi, isT, isC, dNx, dBrk, dNev, dFst, gNm, gTp, gsCons, gsNil, dAsg, dStar, dYes, iniEnd, flatD, wipeE, ev_ixl, ev_ixt, ev_ixs, ev_ixr, ev_srcl, ev_srct, ev_srcs, ev_at0, ev_at1, ev_atl, ev_atn, ev_ixn, Option.some.injEq, exists_eq_left', exists_eq_left, List.foldl_cons, List.foldl_nil, List.map_cons, List.map_nil, List.replicate, List.length_append, List.length_map, List.length_cons, List.length_nil, List.cons_append, List.nil_append, List.append_nil, List.getElem?_cons_zero, List.getElem?_cons_succ, List.set_cons_zero, List.set_cons_succ, Nat.zero_add, Nat.reduceAdd, Nat.reduceSub, Nat.reduceLeDiff, true_and, and_true, decide_eq_true_eq, decide_eq_false_iff_not, ne_eq, reduceCtorEq, false_implies, true_implies, forall_const, Bool.and_self, Bool.and_true, Bool.true_and, lk_ends, lk_blocks, lk_text, lk_spot, lk_letter, Int.toNat_natCast, dFldO, dTmq, dMut, dSetQ, dParQ, qMake, D.still, D.stills, lf_past, lf_word, lf_letters, pf_past, pf_later, pm1, pm2, pm3, pm4, pi1, pi2, pi3, pi4, pi5, lm_state, lm_text, lm_search]
        exact ⟨gs, k, rfl, by omega, G.fo, hk, hnx⟩
      simp only [envOf, dRet, dRetN, dOp, dSl, dSlO, dVar, dC, pSome, pNo, ev_sll, ev_slt, ev_sls, dBi, dCons, dNil, ev_lenl, ev_lent, ev_lens, ev_lenr, ev_gI, TC, Pd.gSub, gLt, gLe, gGt, gGe, gMod, gFdiv, gPow, gEq, gNe, ev_oki, ev_oks, ev_okl, ev_okt, gIs, gIsNot, gIsB, gIsNotB, Pd.isNon, dCall, dSeq, dSet, dSetO, dMul, setL, bCons, bOwn, bNil, dIf, dIte, dTB, dAnd, dOr, dNot, dBV, dAndV, dOrV, dChain, dTmp, dTmpT, frzE, dFrz, OD.d, dIxO, dApp, dSetI, dNeg, dLst, dLstO, dTup, dO, dDrop, ev_abs, ev_inttoi, ev_inttob, ev_inttos, ev_strtoi, ev_listl, ev_listt, ev_lists, ev_tupl, ev_tupt, ev_addi, ev_adds, ev_addl, ev_addt, ev_muli, ev_muls, ev_mull, ev_max, ev_min, ev_all, ev_any, gRepr, dLRg, Pd.r1, Pd.r2, eqD_str, eqD_int, eqD_bl, dFld, dProp, dMeth, dAugI, dRev, dMake, dIsi, isT, isC, dNx, dBrk, dNev, dFst, gNm, gTp, gsCons, gsNil, dAsg, dStar, dYes, iniEnd, flatD, wipeE, ev_ixl, ev_ixt, ev_ixs, ev_ixr, ev_srcl, ev_srct, ev_srcs, ev_at0, ev_at1, ev_atl, ev_atn, ev_ixn, Option.some.injEq, exists_eq_left', exists_eq_left, List.foldl_cons, List.foldl_nil, List.map_cons, List.map_nil, List.replicate, List.length_append, List.length_map, List.length_cons, List.length_nil, List.cons_append, List.nil_append, List.append_nil, List.getElem?_cons_zero, List.getElem?_cons_succ, List.set_cons_zero, List.set_cons_succ, Nat.zero_add, Nat.reduceAdd, Nat.reduceSub, Nat.reduceLeDiff, true_and, and_true, decide_eq_true_eq, decide_eq_false_iff_not, ne_eq, reduceCtorEq, false_implies, true_implies, forall_const, Bool.and_self, Bool.and_true, Bool.true_and, lk_ends, lk_blocks, lk_text, lk_spot, lk_letter, Int.toNat_natCast, dFldO, dTmq, dMut, dSetQ, dParQ, qMake, D.still, D.stills, lf_past, lf_word, lf_letters, pf_past, pf_later, pm1, pm2, pm3, pm4, pi1, pi2, pi3, pi4, pi5, lm_state, lm_text, lm_search]
      refine ⟨atB gs k, rfl, T, fldsW (atB gs k), fldsW (atB gs k), rfl, rfl, fun n0 => ⟨atB gs k, atB gs k, rfl, rfl, true, by simp, ?_⟩⟩
      refine ⟨fun _ => ⟨rfl, atB gs k, rfl, rfl, ?_⟩, fun h => (by cases h)⟩
      rw [eqD_str, decide_eq_true rfl]
      exact q
    | _ => cases hi
theorem okD_gt {gs : List GB} (h : ∀ g ∈ gs, g.1 ∈ letters) : okD (.tup (gs.map gD)) = true := okD_gs h
theorem compW_D45 {dg : DG} {d : DE} {ε : Ev} {P : Nat → List D → Prop} (g : D → D) (xs : List D) (n : Nat) (h : ∀ x ∈ xs, ∀ (n : Nat) (K : Nat → D → Prop) (K' : Nat → Prop), K n (g x) → dg x ε fun ε' => dYes n ε' fun n1 k => (k = true → d n1 ε' fun n2 y => K n2 y) ∧ (k = false → K' n1)) (q : P n (xs.map g)) : compW dg dYes d ε P xs [] n := by
  have := compW_map (dg := dg) (t := dYes) (d := d) (ε := ε) (P := P) (fun x : D => x) g xs [] n h (by rw [List.nil_append]; exact q)
  rwa [List.map_id'] at this
theorem zip45 {f g : List GB → D} : ∀ rows : List (List GB), zipD (rows.map f) (rows.map g) = rows.map fun r => D.tup [f r, g r]
  | [] => rfl
  | r :: rows => by
    have := zip45 (f := f) (g := g) rows
    rw [List.map_cons, List.map_cons, List.map_cons, ← this]
    rfl
def s_right45 (c : Str → Addr) : FD := fun ds n P => ds = [.pot] ∧ 400 ≤ n ∧ ∀ n', n' ≤ n → n ≤ n' + 400 → P n' (.bl true)
theorem l_right45 (c : Str → Addr) (hne : c "Word" ≠ c "Grown") : ∀ ds n Q, s_right45 c ds n Q → dFn 13 1 (b__law_right_v123 c s_of s_grown_blocks s_grown_text i_grown (s_Grown_text c) (s_Grown_blocks c) takeF s_odd (s_atRight c) (s_GrownAt c) (s_Grown_eq c)) ds n Q := by
  rintro ds n Q ⟨rfl, hn, q⟩
  refine ⟨rfl, ?_⟩
  show dSeq _ _ _ _ _
  refine seq_all (fun n1 ε => n1 ≤ n ∧ n ≤ n1 + 244 ∧ ∃ rows : List (List GB), rows.length = 4 ∧ (∀ r ∈ rows, GOk r) ∧ ε = [.val .pot, .val (.lst (rows.map fun r => .lst (r.map gD))), .no, .no, .no, .no, .no, .no, .no, .no, .no, .no, .no]) (fun nx hnx => ?_) ?_
  · simp only [dComp, iRg1, envOf, dRet, dRetN, dOp, dSl, dSlO, dVar, dC, pSome, pNo, ev_sll, ev_slt, ev_sls, dBi, dCons, dNil, ev_lenl, ev_lent, ev_lens, ev_lenr, ev_gI, TC, Pd.gSub, gLt, gLe, gGt, gGe, gMod, gFdiv, gPow, gEq, gNe, ev_oki, ev_oks, ev_okl, ev_okt, gIs, gIsNot, gIsB, gIsNotB, Pd.isNon, dCall, dSeq, dSet, dSetO, dMul, setL, bCons, bOwn, bNil, dIf, dIte, dTB, dAnd, dOr, dNot, dBV, dAndV, dOrV, dChain, dTmp, dTmpT, frzE, dFrz, OD.d, dIxO, dApp, dSetI, dNeg, dLst, dLstO, dTup, dO, dDrop, ev_abs, ev_inttoi, ev_inttob, ev_inttos, ev_strtoi, ev_listl, ev_listt, ev_lists, ev_tupl, ev_tupt, ev_addi, ev_adds, ev_addl, ev_addt, ev_muli, ev_muls, ev_mull, ev_max, ev_min, ev_all, ev_any, gRepr, dLRg, Pd.r1, Pd.r2, eqD_str, eqD_int, eqD_bl, dFld, dProp, dMeth, dAugI, dRev, dMake, dIsi, isT, isC, dNx, dBrk, dNev, dFst, gNm, gTp, gsCons, gsNil, dAsg, dStar, dYes, iniEnd, flatD, wipeE, ev_ixl, ev_ixt, ev_ixs, ev_ixr, ev_srcl, ev_srct, ev_srcs, ev_at0, ev_at1, ev_atl, ev_atn, ev_ixn, Option.some.injEq, exists_eq_left', exists_eq_left, List.foldl_cons, List.foldl_nil, List.map_cons, List.map_nil, List.replicate, List.length_append, List.length_map, List.length_cons, List.length_nil, List.cons_append, List.nil_append, List.append_nil, List.getElem?_cons_zero, List.getElem?_cons_succ, List.set_cons_zero, List.set_cons_succ, Nat.zero_add, Nat.reduceAdd, Nat.reduceSub, Nat.reduceLeDiff, true_and, and_true, decide_eq_true_eq, decide_eq_false_iff_not, ne_eq, reduceCtorEq, false_implies, true_implies, forall_const, Bool.and_self, Bool.and_true, Bool.true_and, lk_ends, lk_blocks, lk_text, lk_spot, lk_letter, Int.toNat_natCast, dFldO, dTmq, dMut, dSetQ, dParQ, qMake, D.still, D.stills, lf_past, lf_word, lf_letters, pf_past, pf_later, pm1, pm2, pm3, pm4, pi1, pi2, pi3, pi4, pi5, lm_state, lm_text, lm_search]
    refine ⟨by decide, by decide, by decide, compW_inv (fun xs acc n' => n' ≤ n ∧ n + 61 * xs.length ≤ n' + 244 ∧ ∃ rows : List (List GB), rows.length + xs.length = 4 ∧ (∀ r ∈ rows, GOk r) ∧ acc = rows.map fun r => .lst (r.map gD)) ?_ ?_ _ _ _ ⟨Nat.le_refl _, by rw [show (rngD 0 (Int.toNat 4)).length = 4 from rfl]; omega, [], rfl, fun _ h => (by cases h), rfl⟩⟩
    · rintro acc n' ⟨i1, i2, rows, i3, i4, rfl⟩
      exact hnx _ _ ⟨i1, by rw [List.length_nil] at i2; omega, rows, i3, i4, rfl⟩
    · rintro x xs acc n' K hK ⟨i1, i2, rows, i3, i4, rfl⟩
      rw [List.length_cons] at i2 i3
      simp only [gNm, envOf, dRet, dRetN, dOp, dSl, dSlO, dVar, dC, pSome, pNo, ev_sll, ev_slt, ev_sls, dBi, dCons, dNil, ev_lenl, ev_lent, ev_lens, ev_lenr, ev_gI, TC, Pd.gSub, gLt, gLe, gGt, gGe, gMod, gFdiv, gPow, gEq, gNe, ev_oki, ev_oks, ev_okl, ev_okt, gIs, gIsNot, gIsB, gIsNotB, Pd.isNon, dCall, dSeq, dSet, dSetO, dMul, setL, bCons, bOwn, bNil, dIf, dIte, dTB, dAnd, dOr, dNot, dBV, dAndV, dOrV, dChain, dTmp, dTmpT, frzE, dFrz, OD.d, dIxO, dApp, dSetI, dNeg, dLst, dLstO, dTup, dO, dDrop, ev_abs, ev_inttoi, ev_inttob, ev_inttos, ev_strtoi, ev_listl, ev_listt, ev_lists, ev_tupl, ev_tupt, ev_addi, ev_adds, ev_addl, ev_addt, ev_muli, ev_muls, ev_mull, ev_max, ev_min, ev_all, ev_any, gRepr, dLRg, Pd.r1, Pd.r2, eqD_str, eqD_int, eqD_bl, dFld, dProp, dMeth, dAugI, dRev, dMake, dIsi, isT, isC, dNx, dBrk, dNev, dFst, gNm, gTp, gsCons, gsNil, dAsg, dStar, dYes, iniEnd, flatD, wipeE, ev_ixl, ev_ixt, ev_ixs, ev_ixr, ev_srcl, ev_srct, ev_srcs, ev_at0, ev_at1, ev_atl, ev_atn, ev_ixn, Option.some.injEq, exists_eq_left', exists_eq_left, List.foldl_cons, List.foldl_nil, List.map_cons, List.map_nil, List.replicate, List.length_append, List.length_map, List.length_cons, List.length_nil, List.cons_append, List.nil_append, List.append_nil, List.getElem?_cons_zero, List.getElem?_cons_succ, List.set_cons_zero, List.set_cons_succ, Nat.zero_add, Nat.reduceAdd, Nat.reduceSub, Nat.reduceLeDiff, true_and, and_true, decide_eq_true_eq, decide_eq_false_iff_not, ne_eq, reduceCtorEq, false_implies, true_implies, forall_const, Bool.and_self, Bool.and_true, Bool.true_and, lk_ends, lk_blocks, lk_text, lk_spot, lk_letter, Int.toNat_natCast, dFldO, dTmq, dMut, dSetQ, dParQ, qMake, D.still, D.stills, lf_past, lf_word, lf_letters, pf_past, pf_later, pm1, pm2, pm3, pm4, pi1, pi2, pi3, pi4, pi5, lm_state, lm_text, lm_search]
      refine ⟨_, _, n' - 1, rfl, rfl, fun l e => (by cases e), by decide, by decide, by omega, fun y hy => ?_⟩
      obtain ⟨mo, m1, m2, rfl⟩ : ∃ mo : Nat, 2 ≤ mo ∧ mo ≤ 10 ∧ y = .int (mo : Nat) := by
        simp only [List.mem_cons, List.not_mem_nil, or_false] at hy
        rcases hy with rfl | rfl | rfl
        · exact ⟨3, by decide, by decide, rfl⟩
        · exact ⟨6, by decide, by decide, rfl⟩
        · exact ⟨10, by decide, by decide, rfl⟩
      refine ⟨mo, rfl, m1, m2, by omega, fun n'' gs j1 j2 G => hK _ _ ⟨by omega, by omega, rows ++ [gs], by rw [List.length_append, List.length_singleton]; omega, fun r hr => ?_, by rw [List.map_append]; rfl⟩⟩
      rcases List.mem_append.mp hr with h | h
      · exact i4 r h
      · rw [List.mem_singleton.mp h]; exact G
  rintro n1 ε ⟨e1, e2, rows, r4, hG, rfl⟩
  refine seqAt n1 [.val .pot, .val (.lst (rows.map fun r => .lst (r.map gD))), .no, .val (.lst (rows.map fun r => grownD c r)), .no, .no, .no, .no, .no, .no, .no, .no, .no] (fun nx hnx => ?_) ?_
  · simp only [dComp, iVal, envOf, dRet, dRetN, dOp, dSl, dSlO, dVar, dC, pSome, pNo, ev_sll, ev_slt, ev_sls, dBi, dCons, dNil, ev_lenl, ev_lent, ev_lens, ev_lenr, ev_gI, TC, Pd.gSub, gLt, gLe, gGt, gGe, gMod, gFdiv, gPow, gEq, gNe, ev_oki, ev_oks, ev_okl, ev_okt, gIs, gIsNot, gIsB, gIsNotB, Pd.isNon, dCall, dSeq, dSet, dSetO, dMul, setL, bCons, bOwn, bNil, dIf, dIte, dTB, dAnd, dOr, dNot, dBV, dAndV, dOrV, dChain, dTmp, dTmpT, frzE, dFrz, OD.d, dIxO, dApp, dSetI, dNeg, dLst, dLstO, dTup, dO, dDrop, ev_abs, ev_inttoi, ev_inttob, ev_inttos, ev_strtoi, ev_listl, ev_listt, ev_lists, ev_tupl, ev_tupt, ev_addi, ev_adds, ev_addl, ev_addt, ev_muli, ev_muls, ev_mull, ev_max, ev_min, ev_all, ev_any, gRepr, dLRg, Pd.r1, Pd.r2, eqD_str, eqD_int, eqD_bl, dFld, dProp, dMeth, dAugI, dRev, dMake, dIsi, isT, isC, dNx, dBrk, dNev, dFst, gNm, gTp, gsCons, gsNil, dAsg, dStar, dYes, iniEnd, flatD, wipeE, ev_ixl, ev_ixt, ev_ixs, ev_ixr, ev_srcl, ev_srct, ev_srcs, ev_at0, ev_at1, ev_atl, ev_atn, ev_ixn, Option.some.injEq, exists_eq_left', exists_eq_left, List.foldl_cons, List.foldl_nil, List.map_cons, List.map_nil, List.replicate, List.length_append, List.length_map, List.length_cons, List.length_nil, List.cons_append, List.nil_append, List.append_nil, List.getElem?_cons_zero, List.getElem?_cons_succ, List.set_cons_zero, List.set_cons_succ, Nat.zero_add, Nat.reduceAdd, Nat.reduceSub, Nat.reduceLeDiff, true_and, and_true, decide_eq_true_eq, decide_eq_false_iff_not, ne_eq, reduceCtorEq, false_implies, true_implies, forall_const, Bool.and_self, Bool.and_true, Bool.true_and, lk_ends, lk_blocks, lk_text, lk_spot, lk_letter, Int.toNat_natCast, dFldO, dTmq, dMut, dSetQ, dParQ, qMake, D.still, D.stills, lf_past, lf_word, lf_letters, pf_past, pf_later, pm1, pm2, pm3, pm4, pi1, pi2, pi3, pi4, pi5, lm_state, lm_text, lm_search]
    refine ⟨by omega, compW_map (fun r : List GB => .lst (r.map gD)) (fun r => grownD c r) rows _ _ (fun r hr m K K' hK => ?_) ?_⟩
    · have G := hG r hr
      have := G.most
      simp only [envOf, dRet, dRetN, dOp, dSl, dSlO, dVar, dC, pSome, pNo, ev_sll, ev_slt, ev_sls, dBi, dCons, dNil, ev_lenl, ev_lent, ev_lens, ev_lenr, ev_gI, TC, Pd.gSub, gLt, gLe, gGt, gGe, gMod, gFdiv, gPow, gEq, gNe, ev_oki, ev_oks, ev_okl, ev_okt, gIs, gIsNot, gIsB, gIsNotB, Pd.isNon, dCall, dSeq, dSet, dSetO, dMul, setL, bCons, bOwn, bNil, dIf, dIte, dTB, dAnd, dOr, dNot, dBV, dAndV, dOrV, dChain, dTmp, dTmpT, frzE, dFrz, OD.d, dIxO, dApp, dSetI, dNeg, dLst, dLstO, dTup, dO, dDrop, ev_abs, ev_inttoi, ev_inttob, ev_inttos, ev_strtoi, ev_listl, ev_listt, ev_lists, ev_tupl, ev_tupt, ev_addi, ev_adds, ev_addl, ev_addt, ev_muli, ev_muls, ev_mull, ev_max, ev_min, ev_all, ev_any, gRepr, dLRg, Pd.r1, Pd.r2, eqD_str, eqD_int, eqD_bl, dFld, dProp, dMeth, dAugI, dRev, dMake, dIsi, isT, isC, dNx, dBrk, dNev, dFst, gNm, gTp, gsCons, gsNil, dAsg, dStar, dYes, iniEnd, flatD, wipeE, ev_ixl, ev_ixt, ev_ixs, ev_ixr, ev_srcl, ev_srct, ev_srcs, ev_at0, ev_at1, ev_atl, ev_atn, ev_ixn, Option.some.injEq, exists_eq_left', exists_eq_left, List.foldl_cons, List.foldl_nil, List.map_cons, List.map_nil, List.replicate, List.length_append, List.length_map, List.length_cons, List.length_nil, List.cons_append, List.nil_append, List.append_nil, List.getElem?_cons_zero, List.getElem?_cons_succ, List.set_cons_zero, List.set_cons_succ, Nat.zero_add, Nat.reduceAdd, Nat.reduceSub, Nat.reduceLeDiff, true_and, and_true, decide_eq_true_eq, decide_eq_false_iff_not, ne_eq, reduceCtorEq, false_implies, true_implies, forall_const, Bool.and_self, Bool.and_true, Bool.true_and, lk_ends, lk_blocks, lk_text, lk_spot, lk_letter, Int.toNat_natCast, dFldO, dTmq, dMut, dSetQ, dParQ, qMake, D.still, D.stills, lf_past, lf_word, lf_letters, pf_past, pf_later, pm1, pm2, pm3, pm4, pi1, pi2, pi3, pi4, pi5, lm_state, lm_text, lm_search]
      exact ⟨r, rfl, by omega, G.fo, r, rfl, G, hK⟩
    · rw [List.nil_append]
      exact hnx
  refine seq_all (fun n2 ε => n2 ≤ n1 ∧ n1 ≤ n2 + 12 ∧ ∃ s2 s4 s5, ε = [.val .pot, .val (.lst (rows.map fun r => .lst (r.map gD))), s2, .val (.lst (rows.map fun r => grownD c r)), s4, s5, .no, .no, .no, .no, .no, .no, .no]) (fun nx hnx => ?_) ?_
  · simp only [dFor, iZp, envOf, dRet, dRetN, dOp, dSl, dSlO, dVar, dC, pSome, pNo, ev_sll, ev_slt, ev_sls, dBi, dCons, dNil, ev_lenl, ev_lent, ev_lens, ev_lenr, ev_gI, TC, Pd.gSub, gLt, gLe, gGt, gGe, gMod, gFdiv, gPow, gEq, gNe, ev_oki, ev_oks, ev_okl, ev_okt, gIs, gIsNot, gIsB, gIsNotB, Pd.isNon, dCall, dSeq, dSet, dSetO, dMul, setL, bCons, bOwn, bNil, dIf, dIte, dTB, dAnd, dOr, dNot, dBV, dAndV, dOrV, dChain, dTmp, dTmpT, frzE, dFrz, OD.d, dIxO, dApp, dSetI, dNeg, dLst, dLstO, dTup, dO, dDrop, ev_abs, ev_inttoi, ev_inttob, ev_inttos, ev_strtoi, ev_listl, ev_listt, ev_lists, ev_tupl, ev_tupt, ev_addi, ev_adds, ev_addl, ev_addt, ev_muli, ev_muls, ev_mull, ev_max, ev_min, ev_all, ev_any, gRepr, dLRg, Pd.r1, Pd.r2, eqD_str, eqD_int, eqD_bl, dFld, dProp, dMeth, dAugI, dRev, dMake, dIsi, isT, isC, dNx, dBrk, dNev, dFst, gNm, gTp, gsCons, gsNil, dAsg, dStar, dYes, iniEnd, flatD, wipeE, ev_ixl, ev_ixt, ev_ixs, ev_ixr, ev_srcl, ev_srct, ev_srcs, ev_at0, ev_at1, ev_atl, ev_atn, ev_ixn, Option.some.injEq, exists_eq_left', exists_eq_left, List.foldl_cons, List.foldl_nil, List.map_cons, List.map_nil, List.replicate, List.length_append, List.length_map, List.length_cons, List.length_nil, List.cons_append, List.nil_append, List.append_nil, List.getElem?_cons_zero, List.getElem?_cons_succ, List.set_cons_zero, List.set_cons_succ, Nat.zero_add, Nat.reduceAdd, Nat.reduceSub, Nat.reduceLeDiff, true_and, and_true, decide_eq_true_eq, decide_eq_false_iff_not, ne_eq, reduceCtorEq, false_implies, true_implies, forall_const, Bool.and_self, Bool.and_true, Bool.true_and, lk_ends, lk_blocks, lk_text, lk_spot, lk_letter, Int.toNat_natCast, dFldO, dTmq, dMut, dSetQ, dParQ, qMake, D.still, D.stills, lf_past, lf_word, lf_letters, pf_past, pf_later, pm1, pm2, pm3, pm4, pi1, pi2, pi3, pi4, pi5, lm_state, lm_text, lm_search]
    refine ⟨_, _, rfl, rfl, ?_⟩
    rw [zip45]
    refine for_map (fun r : List GB => D.tup [.lst (r.map gD), grownD c r]) (fun a _ n' ε => n' ≤ n1 ∧ n1 ≤ n' + 3 * a.length ∧ ∃ s2 s4 s5, ε = [.val .pot, .val (.lst (rows.map fun r => .lst (r.map gD))), s2, .val (.lst (rows.map fun r => grownD c r)), s4, s5, .no, .no, .no, .no, .no, .no, .no]) rows ⟨Nat.le_refl _, Nat.le_add_right _ _, .no, .no, .no, rfl⟩ ?_ ?_
    · rintro n' ε ⟨i1, i2, s2, s4, s5, rfl⟩
      exact hnx _ _ ⟨i1, by omega, s2, s4, s5, rfl⟩
    rintro a r rr n' ε nxt hl hn' ⟨i1, i2, s2, s4, s5, rfl⟩
    have hla : a.length + (rr.length + 1) = 4 := by
      have := congrArg List.length hl
      rw [List.length_append, List.length_cons] at this
      omega
    have G : GOk r := hG r (by rw [hl]; simp)
    have h10 := G.most
    rw [List.length_append, List.length_singleton] at hn'
    simp only [gTp, gsCons, gNm, gsNil]
    refine ⟨rfl, ?_⟩
    refine seqAt n' [.val .pot, .val (.lst (rows.map fun r => .lst (r.map gD))), .val (.lst (r.map gD)), .val (.lst (rows.map fun r => grownD c r)), .val (grownD c r), s5, .no, .no, .no, .no, .no, .no, .no] (fun nx hnx => ?_) ?_
    · simp only [envOf, dRet, dRetN, dOp, dSl, dSlO, dVar, dC, pSome, pNo, ev_sll, ev_slt, ev_sls, dBi, dCons, dNil, ev_lenl, ev_lent, ev_lens, ev_lenr, ev_gI, TC, Pd.gSub, gLt, gLe, gGt, gGe, gMod, gFdiv, gPow, gEq, gNe, ev_oki, ev_oks, ev_okl, ev_okt, gIs, gIsNot, gIsB, gIsNotB, Pd.isNon, dCall, dSeq, dSet, dSetO, dMul, setL, bCons, bOwn, bNil, dIf, dIte, dTB, dAnd, dOr, dNot, dBV, dAndV, dOrV, dChain, dTmp, dTmpT, frzE, dFrz, OD.d, dIxO, dApp, dSetI, dNeg, dLst, dLstO, dTup, dO, dDrop, ev_abs, ev_inttoi, ev_inttob, ev_inttos, ev_strtoi, ev_listl, ev_listt, ev_lists, ev_tupl, ev_tupt, ev_addi, ev_adds, ev_addl, ev_addt, ev_muli, ev_muls, ev_mull, ev_max, ev_min, ev_all, ev_any, gRepr, dLRg, Pd.r1, Pd.r2, eqD_str, eqD_int, eqD_bl, dFld, dProp, dMeth, dAugI, dRev, dMake, dIsi, isT, isC, dNx, dBrk, dNev, dFst, gNm, gTp, gsCons, gsNil, dAsg, dStar, dYes, iniEnd, flatD, wipeE, ev_ixl, ev_ixt, ev_ixs, ev_ixr, ev_srcl, ev_srct, ev_srcs, ev_at0, ev_at1, ev_atl, ev_atn, ev_ixn, Option.some.injEq, exists_eq_left', exists_eq_left, List.foldl_cons, List.foldl_nil, List.map_cons, List.map_nil, List.replicate, List.length_append, List.length_map, List.length_cons, List.length_nil, List.cons_append, List.nil_append, List.append_nil, List.getElem?_cons_zero, List.getElem?_cons_succ, List.set_cons_zero, List.set_cons_succ, Nat.zero_add, Nat.reduceAdd, Nat.reduceSub, Nat.reduceLeDiff, true_and, and_true, decide_eq_true_eq, decide_eq_false_iff_not, ne_eq, reduceCtorEq, false_implies, true_implies, forall_const, Bool.and_self, Bool.and_true, Bool.true_and, lk_ends, lk_blocks, lk_text, lk_spot, lk_letter, Int.toNat_natCast, dFldO, dTmq, dMut, dSetQ, dParQ, qMake, D.still, D.stills, lf_past, lf_word, lf_letters, pf_past, pf_later, pm1, pm2, pm3, pm4, pi1, pi2, pi3, pi4, pi5, lm_state, lm_text, lm_search]
      refine ⟨rfl, r, rfl, r, rfl, by omega, G.fo, rfl, fun h => ?_, fun _ => ⟨rfl, r, rfl, ?_, fun h => ?_, fun _ => hnx⟩⟩
      · rw [eqD_str, decide_eq_true rfl] at h; cases h
      · show (okD (.tup (r.map gD)) && okD (.tup (r.map gD))) = true
        rw [okD_gt G.lt]
        rfl
      · rw [show eqD (.tup (r.map gD)) (.tup (r.map gD)) = eqDs (r.map gD) (r.map gD) from rfl, eqDs_gb, decide_eq_true rfl] at h
        cases h
    refine seq_all (fun n4 ε => n4 ≤ n' ∧ n' ≤ n4 + 2 ∧ ∃ vs : List D, vs.length = 12 ∧ (∀ v ∈ vs, V5 v) ∧ ε = [.val .pot, .val (.lst (rows.map fun r => .lst (r.map gD))), .val (.lst (r.map gD)), .val (.lst (rows.map fun r => grownD c r)), .val (grownD c r), .val (.lst vs), .no, .no, .no, .no, .no, .no, .no]) (fun nx hnx => ?_) ?_
    · simp only [takeF, envOf, dRet, dRetN, dOp, dSl, dSlO, dVar, dC, pSome, pNo, ev_sll, ev_slt, ev_sls, dBi, dCons, dNil, ev_lenl, ev_lent, ev_lens, ev_lenr, ev_gI, TC, Pd.gSub, gLt, gLe, gGt, gGe, gMod, gFdiv, gPow, gEq, gNe, ev_oki, ev_oks, ev_okl, ev_okt, gIs, gIsNot, gIsB, gIsNotB, Pd.isNon, dCall, dSeq, dSet, dSetO, dMul, setL, bCons, bOwn, bNil, dIf, dIte, dTB, dAnd, dOr, dNot, dBV, dAndV, dOrV, dChain, dTmp, dTmpT, frzE, dFrz, OD.d, dIxO, dApp, dSetI, dNeg, dLst, dLstO, dTup, dO, dDrop, ev_abs, ev_inttoi, ev_inttob, ev_inttos, ev_strtoi, ev_listl, ev_listt, ev_lists, ev_tupl, ev_tupt, ev_addi, ev_adds, ev_addl, ev_addt, ev_muli, ev_muls, ev_mull, ev_max, ev_min, ev_all, ev_any, gRepr, dLRg, Pd.r1, Pd.r2, eqD_str, eqD_int, eqD_bl, dFld, dProp, dMeth, dAugI, dRev, dMake, dIsi, isT, isC, dNx, dBrk, dNev, dFst, gNm, gTp, gsCons, gsNil, dAsg, dStar, dYes, iniEnd, flatD, wipeE, ev_ixl, ev_ixt, ev_ixs, ev_ixr, ev_srcl, ev_srct, ev_srcs, ev_at0, ev_at1, ev_atl, ev_atn, ev_ixn, Option.some.injEq, exists_eq_left', exists_eq_left, List.foldl_cons, List.foldl_nil, List.map_cons, List.map_nil, List.replicate, List.length_append, List.length_map, List.length_cons, List.length_nil, List.cons_append, List.nil_append, List.append_nil, List.getElem?_cons_zero, List.getElem?_cons_succ, List.set_cons_zero, List.set_cons_succ, Nat.zero_add, Nat.reduceAdd, Nat.reduceSub, Nat.reduceLeDiff, true_and, and_true, decide_eq_true_eq, decide_eq_false_iff_not, ne_eq, reduceCtorEq, false_implies, true_implies, forall_const, Bool.and_self, Bool.and_true, Bool.true_and, lk_ends, lk_blocks, lk_text, lk_spot, lk_letter, Int.toNat_natCast, dFldO, dTmq, dMut, dSetQ, dParQ, qMake, D.still, D.stills, lf_past, lf_word, lf_letters, pf_past, pf_later, pm1, pm2, pm3, pm4, pi1, pi2, pi3, pi4, pi5, lm_state, lm_text, lm_search]
      refine ⟨pow45, pow45, _, rfl, by decide, by decide, n' - 1, by omega, fun r0 k1 k2 => ⟨n' - 2, rfl, by omega, fun x hx => hnx _ _ ⟨by omega, by omega, _, rfl, fun v hv => ?_, rfl⟩⟩⟩
      simp only [List.mem_cons, List.not_mem_nil, or_false] at hv
      rcases hv with rfl | rfl | rfl | rfl | rfl | rfl | rfl | rfl | rfl | rfl | rfl | rfl
      · exact V5.int (by decide +kernel)
      · exact V5.int (by decide +kernel)
      · exact V5.int (by decide +kernel)
      · exact V5.int (by decide +kernel)
      · exact V5.int (by decide +kernel)
      · exact V5.int (by decide +kernel)
      · exact ⟨by decide, by decide, by decide⟩
      · exact ⟨by decide, by decide, by decide⟩
      · exact ⟨by decide, by decide, by decide⟩
      · exact ⟨by decide +kernel, by decide, by decide +kernel⟩
      · exact V5.int (Nat.lt_of_le_of_lt (show (1 + r0).natAbs ≤ 1001 by omega) (by decide +kernel))
      · exact V5.odd hx
    rintro n4 ε ⟨j1, j2, vs, v12, hv, rfl⟩
    refine seqAt n4 [.val .pot, .val (.lst (rows.map fun r => .lst (r.map gD))), .val (.lst (r.map gD)), .val (.lst (rows.map fun r => grownD c r)), .val (grownD c r), .val (.lst vs), .no, .no, .no, .no, .no, .no, .no] (fun nx hnx => ?_) ?_
    · simp only [dComp, iVal, envOf, dRet, dRetN, dOp, dSl, dSlO, dVar, dC, pSome, pNo, ev_sll, ev_slt, ev_sls, dBi, dCons, dNil, ev_lenl, ev_lent, ev_lens, ev_lenr, ev_gI, TC, Pd.gSub, gLt, gLe, gGt, gGe, gMod, gFdiv, gPow, gEq, gNe, ev_oki, ev_oks, ev_okl, ev_okt, gIs, gIsNot, gIsB, gIsNotB, Pd.isNon, dCall, dSeq, dSet, dSetO, dMul, setL, bCons, bOwn, bNil, dIf, dIte, dTB, dAnd, dOr, dNot, dBV, dAndV, dOrV, dChain, dTmp, dTmpT, frzE, dFrz, OD.d, dIxO, dApp, dSetI, dNeg, dLst, dLstO, dTup, dO, dDrop, ev_abs, ev_inttoi, ev_inttob, ev_inttos, ev_strtoi, ev_listl, ev_listt, ev_lists, ev_tupl, ev_tupt, ev_addi, ev_adds, ev_addl, ev_addt, ev_muli, ev_muls, ev_mull, ev_max, ev_min, ev_all, ev_any, gRepr, dLRg, Pd.r1, Pd.r2, eqD_str, eqD_int, eqD_bl, dFld, dProp, dMeth, dAugI, dRev, dMake, dIsi, isT, isC, dNx, dBrk, dNev, dFst, gNm, gTp, gsCons, gsNil, dAsg, dStar, dYes, iniEnd, flatD, wipeE, ev_ixl, ev_ixt, ev_ixs, ev_ixr, ev_srcl, ev_srct, ev_srcs, ev_at0, ev_at1, ev_atl, ev_atn, ev_ixn, Option.some.injEq, exists_eq_left', exists_eq_left, List.foldl_cons, List.foldl_nil, List.map_cons, List.map_nil, List.replicate, List.length_append, List.length_map, List.length_cons, List.length_nil, List.cons_append, List.nil_append, List.append_nil, List.getElem?_cons_zero, List.getElem?_cons_succ, List.set_cons_zero, List.set_cons_succ, Nat.zero_add, Nat.reduceAdd, Nat.reduceSub, Nat.reduceLeDiff, true_and, and_true, decide_eq_true_eq, decide_eq_false_iff_not, ne_eq, reduceCtorEq, false_implies, true_implies, forall_const, Bool.and_self, Bool.and_true, Bool.true_and, lk_ends, lk_blocks, lk_text, lk_spot, lk_letter, Int.toNat_natCast, dFldO, dTmq, dMut, dSetQ, dParQ, qMake, D.still, D.stills, lf_past, lf_word, lf_letters, pf_past, pf_later, pm1, pm2, pm3, pm4, pi1, pi2, pi3, pi4, pi5, lm_state, lm_text, lm_search]
      refine ⟨by omega, compW_D45 (fun _ => .bl true) vs _ (fun v hv' m K K' hK => ?_) ?_⟩
      · simp only [gNm, envOf, dRet, dRetN, dOp, dSl, dSlO, dVar, dC, pSome, pNo, ev_sll, ev_slt, ev_sls, dBi, dCons, dNil, ev_lenl, ev_lent, ev_lens, ev_lenr, ev_gI, TC, Pd.gSub, gLt, gLe, gGt, gGe, gMod, gFdiv, gPow, gEq, gNe, ev_oki, ev_oks, ev_okl, ev_okt, gIs, gIsNot, gIsB, gIsNotB, Pd.isNon, dCall, dSeq, dSet, dSetO, dMul, setL, bCons, bOwn, bNil, dIf, dIte, dTB, dAnd, dOr, dNot, dBV, dAndV, dOrV, dChain, dTmp, dTmpT, frzE, dFrz, OD.d, dIxO, dApp, dSetI, dNeg, dLst, dLstO, dTup, dO, dDrop, ev_abs, ev_inttoi, ev_inttob, ev_inttos, ev_strtoi, ev_listl, ev_listt, ev_lists, ev_tupl, ev_tupt, ev_addi, ev_adds, ev_addl, ev_addt, ev_muli, ev_muls, ev_mull, ev_max, ev_min, ev_all, ev_any, gRepr, dLRg, Pd.r1, Pd.r2, eqD_str, eqD_int, eqD_bl, dFld, dProp, dMeth, dAugI, dRev, dMake, dIsi, isT, isC, dNx, dBrk, dNev, dFst, gNm, gTp, gsCons, gsNil, dAsg, dStar, dYes, iniEnd, flatD, wipeE, ev_ixl, ev_ixt, ev_ixs, ev_ixr, ev_srcl, ev_srct, ev_srcs, ev_at0, ev_at1, ev_atl, ev_atn, ev_ixn, Option.some.injEq, exists_eq_left', exists_eq_left, List.foldl_cons, List.foldl_nil, List.map_cons, List.map_nil, List.replicate, List.length_append, List.length_map, List.length_cons, List.length_nil, List.cons_append, List.nil_append, List.append_nil, List.getElem?_cons_zero, List.getElem?_cons_succ, List.set_cons_zero, List.set_cons_succ, Nat.zero_add, Nat.reduceAdd, Nat.reduceSub, Nat.reduceLeDiff, true_and, and_true, decide_eq_true_eq, decide_eq_false_iff_not, ne_eq, reduceCtorEq, false_implies, true_implies, forall_const, Bool.and_self, Bool.and_true, Bool.true_and, lk_ends, lk_blocks, lk_text, lk_spot, lk_letter, Int.toNat_natCast, dFldO, dTmq, dMut, dSetQ, dParQ, qMake, D.still, D.stills, lf_past, lf_word, lf_letters, pf_past, pf_later, pm1, pm2, pm3, pm4, pi1, pi2, pi3, pi4, pi5, lm_state, lm_text, lm_search]
        exact ⟨r, v, rfl, G, hv v hv', hK⟩
      · obtain ⟨ns, q1, q2⟩ := all_bls vs
        refine ⟨ns, q1, fun h => ?_, fun _ => hnx⟩
        rw [q2] at h
        cases h
    simp only [dComp, iVal, envOf, dRet, dRetN, dOp, dSl, dSlO, dVar, dC, pSome, pNo, ev_sll, ev_slt, ev_sls, dBi, dCons, dNil, ev_lenl, ev_lent, ev_lens, ev_lenr, ev_gI, TC, Pd.gSub, gLt, gLe, gGt, gGe, gMod, gFdiv, gPow, gEq, gNe, ev_oki, ev_oks, ev_okl, ev_okt, gIs, gIsNot, gIsB, gIsNotB, Pd.isNon, dCall, dSeq, dSet, dSetO, dMul, setL, bCons, bOwn, bNil, dIf, dIte, dTB, dAnd, dOr, dNot, dBV, dAndV, dOrV, dChain, dTmp, dTmpT, frzE, dFrz, OD.d, dIxO, dApp, dSetI, dNeg, dLst, dLstO, dTup, dO, dDrop, ev_abs, ev_inttoi, ev_inttob, ev_inttos, ev_strtoi, ev_listl, ev_listt, ev_lists, ev_tupl, ev_tupt, ev_addi, ev_adds, ev_addl, ev_addt, ev_muli, ev_muls, ev_mull, ev_max, ev_min, ev_all, ev_any, gRepr, dLRg, Pd.r1, Pd.r2, eqD_str, eqD_int, eqD_bl, dFld, dProp, dMeth, dAugI, dRev, dMake, dIsi, isT, isC, dNx, dBrk, dNev, dFst, gNm, gTp, gsCons, gsNil, dAsg, dStar, dYes, iniEnd, flatD, wipeE, ev_ixl, ev_ixt, ev_ixs, ev_ixr, ev_srcl, ev_srct, ev_srcs, ev_at0, ev_at1, ev_atl, ev_atn, ev_ixn, Option.some.injEq, exists_eq_left', exists_eq_left, List.foldl_cons, List.foldl_nil, List.map_cons, List.map_nil, List.replicate, List.length_append, List.length_map, List.length_cons, List.length_nil, List.cons_append, List.nil_append, List.append_nil, List.getElem?_cons_zero, List.getElem?_cons_succ, List.set_cons_zero, List.set_cons_succ, Nat.zero_add, Nat.reduceAdd, Nat.reduceSub, Nat.reduceLeDiff, true_and, and_true, decide_eq_true_eq, decide_eq_false_iff_not, ne_eq, reduceCtorEq, false_implies, true_implies, forall_const, Bool.and_self, Bool.and_true, Bool.true_and, lk_ends, lk_blocks, lk_text, lk_spot, lk_letter, Int.toNat_natCast, dFldO, dTmq, dMut, dSetQ, dParQ, qMake, D.still, D.stills, lf_past, lf_word, lf_letters, pf_past, pf_later, pm1, pm2, pm3, pm4, pi1, pi2, pi3, pi4, pi5, lm_state, lm_text, lm_search]
    refine ⟨rfl, r, rfl, rfl, r, rfl, rfl, rfl, r, 1, rfl, G, by decide, by decide, n4 - 1, rfl, by omega, fun x hx => ?_⟩
    have hobj : isC (c "Grown") [c "Word"] (wordD c (atB r 1)) = some false := by
      simp only [wordD, isC]
      rw [if_neg hne, if_pos (by simp)]
    have hall : ∀ v ∈ [D.non, .str (gwx r), .tup (r.map gD), wordD c (atB r 1), .int 0, x], (plnD v = true ∨ ∃ C' fs, v = .obj C' fs) ∧ isC (c "Grown") [c "Word"] v = some false := fun v hv' => by
      simp only [List.mem_cons, List.not_mem_nil, or_false] at hv'
      rcases hv' with rfl | rfl | rfl | rfl | rfl | rfl
      · exact ⟨.inl rfl, rfl⟩
      · exact ⟨.inl rfl, rfl⟩
      · exact ⟨.inl rfl, rfl⟩
      · exact ⟨.inr ⟨_, _, rfl⟩, hobj⟩
      · exact ⟨.inl rfl, rfl⟩
      · have := (V5.odd hx).pl
        cases v <;> first | exact ⟨.inl rfl, rfl⟩ | cases this
    refine compW_D45 (fun _ => .bl false) _ _ (fun v hv' m K K' hK => ?_) ?_
    · obtain ⟨a1, a2⟩ := hall v hv'
      simp only [gNm, envOf, dRet, dRetN, dOp, dSl, dSlO, dVar, dC, pSome, pNo, ev_sll, ev_slt, ev_sls, dBi, dCons, dNil, ev_lenl, ev_lent, ev_lens, ev_lenr, ev_gI, TC, Pd.gSub, gLt, gLe, gGt, gGe, gMod, gFdiv, gPow, gEq, gNe, ev_oki, ev_oks, ev_okl, ev_okt, gIs, gIsNot, gIsB, gIsNotB, Pd.isNon, dCall, dSeq, dSet, dSetO, dMul, setL, bCons, bOwn, bNil, dIf, dIte, dTB, dAnd, dOr, dNot, dBV, dAndV, dOrV, dChain, dTmp, dTmpT, frzE, dFrz, OD.d, dIxO, dApp, dSetI, dNeg, dLst, dLstO, dTup, dO, dDrop, ev_abs, ev_inttoi, ev_inttob, ev_inttos, ev_strtoi, ev_listl, ev_listt, ev_lists, ev_tupl, ev_tupt, ev_addi, ev_adds, ev_addl, ev_addt, ev_muli, ev_muls, ev_mull, ev_max, ev_min, ev_all, ev_any, gRepr, dLRg, Pd.r1, Pd.r2, eqD_str, eqD_int, eqD_bl, dFld, dProp, dMeth, dAugI, dRev, dMake, dIsi, isT, isC, dNx, dBrk, dNev, dFst, gNm, gTp, gsCons, gsNil, dAsg, dStar, dYes, iniEnd, flatD, wipeE, ev_ixl, ev_ixt, ev_ixs, ev_ixr, ev_srcl, ev_srct, ev_srcs, ev_at0, ev_at1, ev_atl, ev_atn, ev_ixn, Option.some.injEq, exists_eq_left', exists_eq_left, List.foldl_cons, List.foldl_nil, List.map_cons, List.map_nil, List.replicate, List.length_append, List.length_map, List.length_cons, List.length_nil, List.cons_append, List.nil_append, List.append_nil, List.getElem?_cons_zero, List.getElem?_cons_succ, List.set_cons_zero, List.set_cons_succ, Nat.zero_add, Nat.reduceAdd, Nat.reduceSub, Nat.reduceLeDiff, true_and, and_true, decide_eq_true_eq, decide_eq_false_iff_not, ne_eq, reduceCtorEq, false_implies, true_implies, forall_const, Bool.and_self, Bool.and_true, Bool.true_and, lk_ends, lk_blocks, lk_text, lk_spot, lk_letter, Int.toNat_natCast, dFldO, dTmq, dMut, dSetQ, dParQ, qMake, D.still, D.stills, lf_past, lf_word, lf_letters, pf_past, pf_later, pm1, pm2, pm3, pm4, pi1, pi2, pi3, pi4, pi5, lm_state, lm_text, lm_search]
      exact ⟨fldsG r, rfl, a1, a2, fun n0 => .inr ⟨r, v, rfl, a2, rfl, false, rfl, hK⟩⟩
    · refine ⟨[false, false, false, false, false, false], rfl, fun h => (by cases h), fun _ => hn' _ _ ⟨by omega, by omega, _, _, _, rfl⟩⟩
  rintro n2 ε ⟨e3, e4, s2, s4, s5, rfl⟩
  refine seq_all (fun n3 ε => n3 = n2 ∧ ∃ s6 s7 s8 s9, ε = [.val .pot, .val (.lst (rows.map fun r => .lst (r.map gD))), s2, .val (.lst (rows.map fun r => grownD c r)), s4, s5, s6, s7, s8, s9, .no, .no, .no]) (fun nx hnx => ?_) ?_
  · simp only [dFor, iZp, envOf, dRet, dRetN, dOp, dSl, dSlO, dVar, dC, pSome, pNo, ev_sll, ev_slt, ev_sls, dBi, dCons, dNil, ev_lenl, ev_lent, ev_lens, ev_lenr, ev_gI, TC, Pd.gSub, gLt, gLe, gGt, gGe, gMod, gFdiv, gPow, gEq, gNe, ev_oki, ev_oks, ev_okl, ev_okt, gIs, gIsNot, gIsB, gIsNotB, Pd.isNon, dCall, dSeq, dSet, dSetO, dMul, setL, bCons, bOwn, bNil, dIf, dIte, dTB, dAnd, dOr, dNot, dBV, dAndV, dOrV, dChain, dTmp, dTmpT, frzE, dFrz, OD.d, dIxO, dApp, dSetI, dNeg, dLst, dLstO, dTup, dO, dDrop, ev_abs, ev_inttoi, ev_inttob, ev_inttos, ev_strtoi, ev_listl, ev_listt, ev_lists, ev_tupl, ev_tupt, ev_addi, ev_adds, ev_addl, ev_addt, ev_muli, ev_muls, ev_mull, ev_max, ev_min, ev_all, ev_any, gRepr, dLRg, Pd.r1, Pd.r2, eqD_str, eqD_int, eqD_bl, dFld, dProp, dMeth, dAugI, dRev, dMake, dIsi, isT, isC, dNx, dBrk, dNev, dFst, gNm, gTp, gsCons, gsNil, dAsg, dStar, dYes, iniEnd, flatD, wipeE, ev_ixl, ev_ixt, ev_ixs, ev_ixr, ev_srcl, ev_srct, ev_srcs, ev_at0, ev_at1, ev_atl, ev_atn, ev_ixn, Option.some.injEq, exists_eq_left', exists_eq_left, List.foldl_cons, List.foldl_nil, List.map_cons, List.map_nil, List.replicate, List.length_append, List.length_map, List.length_cons, List.length_nil, List.cons_append, List.nil_append, List.append_nil, List.getElem?_cons_zero, List.getElem?_cons_succ, List.set_cons_zero, List.set_cons_succ, Nat.zero_add, Nat.reduceAdd, Nat.reduceSub, Nat.reduceLeDiff, true_and, and_true, decide_eq_true_eq, decide_eq_false_iff_not, ne_eq, reduceCtorEq, false_implies, true_implies, forall_const, Bool.and_self, Bool.and_true, Bool.true_and, lk_ends, lk_blocks, lk_text, lk_spot, lk_letter, Int.toNat_natCast, dFldO, dTmq, dMut, dSetQ, dParQ, qMake, D.still, D.stills, lf_past, lf_word, lf_letters, pf_past, pf_later, pm1, pm2, pm3, pm4, pi1, pi2, pi3, pi4, pi5, lm_state, lm_text, lm_search]
    refine ⟨_, _, rfl, rfl, ?_⟩
    rw [zip45]
    refine for_map (fun r : List GB => D.tup [.lst (r.map gD), grownD c r]) (fun a _ n' ε => n' = n2 ∧ ∃ s6 s7 s8 s9, ε = [.val .pot, .val (.lst (rows.map fun r => .lst (r.map gD))), s2, .val (.lst (rows.map fun r => grownD c r)), s4, s5, s6, s7, s8, s9, .no, .no, .no]) rows ⟨rfl, .no, .no, .no, .no, rfl⟩ ?_ ?_
    · rintro n' ε ⟨rfl, s6, s7, s8, s9, rfl⟩
      exact hnx _ _ ⟨rfl, s6, s7, s8, s9, rfl⟩
    rintro a r rr n' ε nxt hl hn' ⟨rfl, s6, s7, s8, s9, rfl⟩
    have G : GOk r := hG r (by rw [hl]; simp)
    simp only [gTp, gsCons, gNm, gsNil]
    refine ⟨rfl, ?_⟩
    simp only [dFor, iZp, envOf, dRet, dRetN, dOp, dSl, dSlO, dVar, dC, pSome, pNo, ev_sll, ev_slt, ev_sls, dBi, dCons, dNil, ev_lenl, ev_lent, ev_lens, ev_lenr, ev_gI, TC, Pd.gSub, gLt, gLe, gGt, gGe, gMod, gFdiv, gPow, gEq, gNe, ev_oki, ev_oks, ev_okl, ev_okt, gIs, gIsNot, gIsB, gIsNotB, Pd.isNon, dCall, dSeq, dSet, dSetO, dMul, setL, bCons, bOwn, bNil, dIf, dIte, dTB, dAnd, dOr, dNot, dBV, dAndV, dOrV, dChain, dTmp, dTmpT, frzE, dFrz, OD.d, dIxO, dApp, dSetI, dNeg, dLst, dLstO, dTup, dO, dDrop, ev_abs, ev_inttoi, ev_inttob, ev_inttos, ev_strtoi, ev_listl, ev_listt, ev_lists, ev_tupl, ev_tupt, ev_addi, ev_adds, ev_addl, ev_addt, ev_muli, ev_muls, ev_mull, ev_max, ev_min, ev_all, ev_any, gRepr, dLRg, Pd.r1, Pd.r2, eqD_str, eqD_int, eqD_bl, dFld, dProp, dMeth, dAugI, dRev, dMake, dIsi, isT, isC, dNx, dBrk, dNev, dFst, gNm, gTp, gsCons, gsNil, dAsg, dStar, dYes, iniEnd, flatD, wipeE, ev_ixl, ev_ixt, ev_ixs, ev_ixr, ev_srcl, ev_srct, ev_srcs, ev_at0, ev_at1, ev_atl, ev_atn, ev_ixn, Option.some.injEq, exists_eq_left', exists_eq_left, List.foldl_cons, List.foldl_nil, List.map_cons, List.map_nil, List.replicate, List.length_append, List.length_map, List.length_cons, List.length_nil, List.cons_append, List.nil_append, List.append_nil, List.getElem?_cons_zero, List.getElem?_cons_succ, List.set_cons_zero, List.set_cons_succ, Nat.zero_add, Nat.reduceAdd, Nat.reduceSub, Nat.reduceLeDiff, true_and, and_true, decide_eq_true_eq, decide_eq_false_iff_not, ne_eq, reduceCtorEq, false_implies, true_implies, forall_const, Bool.and_self, Bool.and_true, Bool.true_and, lk_ends, lk_blocks, lk_text, lk_spot, lk_letter, Int.toNat_natCast, dFldO, dTmq, dMut, dSetQ, dParQ, qMake, D.still, D.stills, lf_past, lf_word, lf_letters, pf_past, pf_later, pm1, pm2, pm3, pm4, pi1, pi2, pi3, pi4, pi5, lm_state, lm_text, lm_search]
    refine ⟨_, _, rfl, rfl, ?_⟩
    rw [zip45]
    refine for_map (fun r : List GB => D.tup [.lst (r.map gD), grownD c r]) (fun a _ n5 ε => n5 = n' ∧ ∃ s8 s9, ε = [.val .pot, .val (.lst (rows.map fun r => .lst (r.map gD))), s2, .val (.lst (rows.map fun r => grownD c r)), s4, s5, .val (.lst (r.map gD)), .val (grownD c r), s8, s9, .no, .no, .no]) rows ⟨rfl, s8, s9, rfl⟩ ?_ ?_
    · rintro n5 ε ⟨rfl, s8, s9, rfl⟩
      exact hn' _ _ ⟨rfl, _, _, s8, s9, rfl⟩
    rintro a' r' rr' n5 ε nxt' hl' hn5 ⟨rfl, s8, s9, rfl⟩
    have G' : GOk r' := hG r' (by rw [hl']; simp)
    simp only [gTp, gsCons, gNm, gsNil, envOf, dRet, dRetN, dOp, dSl, dSlO, dVar, dC, pSome, pNo, ev_sll, ev_slt, ev_sls, dBi, dCons, dNil, ev_lenl, ev_lent, ev_lens, ev_lenr, ev_gI, TC, Pd.gSub, gLt, gLe, gGt, gGe, gMod, gFdiv, gPow, gEq, gNe, ev_oki, ev_oks, ev_okl, ev_okt, gIs, gIsNot, gIsB, gIsNotB, Pd.isNon, dCall, dSeq, dSet, dSetO, dMul, setL, bCons, bOwn, bNil, dIf, dIte, dTB, dAnd, dOr, dNot, dBV, dAndV, dOrV, dChain, dTmp, dTmpT, frzE, dFrz, OD.d, dIxO, dApp, dSetI, dNeg, dLst, dLstO, dTup, dO, dDrop, ev_abs, ev_inttoi, ev_inttob, ev_inttos, ev_strtoi, ev_listl, ev_listt, ev_lists, ev_tupl, ev_tupt, ev_addi, ev_adds, ev_addl, ev_addt, ev_muli, ev_muls, ev_mull, ev_max, ev_min, ev_all, ev_any, gRepr, dLRg, Pd.r1, Pd.r2, eqD_str, eqD_int, eqD_bl, dFld, dProp, dMeth, dAugI, dRev, dMake, dIsi, isT, isC, dNx, dBrk, dNev, dFst, gNm, gTp, gsCons, gsNil, dAsg, dStar, dYes, iniEnd, flatD, wipeE, ev_ixl, ev_ixt, ev_ixs, ev_ixr, ev_srcl, ev_srct, ev_srcs, ev_at0, ev_at1, ev_atl, ev_atn, ev_ixn, Option.some.injEq, exists_eq_left', exists_eq_left, List.foldl_cons, List.foldl_nil, List.map_cons, List.map_nil, List.replicate, List.length_append, List.length_map, List.length_cons, List.length_nil, List.cons_append, List.nil_append, List.append_nil, List.getElem?_cons_zero, List.getElem?_cons_succ, List.set_cons_zero, List.set_cons_succ, Nat.zero_add, Nat.reduceAdd, Nat.reduceSub, Nat.reduceLeDiff, true_and, and_true, decide_eq_true_eq, decide_eq_false_iff_not, ne_eq, reduceCtorEq, false_implies, true_implies, forall_const, Bool.and_self, Bool.and_true, Bool.true_and, lk_ends, lk_blocks, lk_text, lk_spot, lk_letter, Int.toNat_natCast, dFldO, dTmq, dMut, dSetQ, dParQ, qMake, D.still, D.stills, lf_past, lf_word, lf_letters, pf_past, pf_later, pm1, pm2, pm3, pm4, pi1, pi2, pi3, pi4, pi5, lm_state, lm_text, lm_search]
    have ok2 : (okD (D.lst (r.map gD)) && okD (D.lst (r'.map gD))) = true := by rw [okD_gs G.lt, okD_gs G'.lt]; rfl
    have hs : ∀ x y : Bool, eqD (.bl x) (.bl y) = decide (x = y) := fun x y => by cases x <;> cases y <;> rfl
    rw [eq_gb G G']
    refine ⟨fldsG r, fldsG r', rfl, rfl, fun n0 => .inl ⟨r, r', rfl, rfl, _, rfl, ok2, rfl, fun h => ?_, fun _ => ⟨fldsG r, fldsG r', rfl, rfl, fun n1 => .inl ⟨r, r', rfl, rfl, _, rfl, ok2, rfl, fun h => ?_, fun _ => hn5 _ _ ⟨rfl, _, _, rfl⟩⟩⟩⟩⟩
    · rw [hs] at h; simp at h
    · rw [hs] at h; simp at h
  rintro n3 ε ⟨rfl, s6, s7, s8, s9, rfl⟩
  simp only [envOf, dRet, dRetN, dOp, dSl, dSlO, dVar, dC, pSome, pNo, ev_sll, ev_slt, ev_sls, dBi, dCons, dNil, ev_lenl, ev_lent, ev_lens, ev_lenr, ev_gI, TC, Pd.gSub, gLt, gLe, gGt, gGe, gMod, gFdiv, gPow, gEq, gNe, ev_oki, ev_oks, ev_okl, ev_okt, gIs, gIsNot, gIsB, gIsNotB, Pd.isNon, dCall, dSeq, dSet, dSetO, dMul, setL, bCons, bOwn, bNil, dIf, dIte, dTB, dAnd, dOr, dNot, dBV, dAndV, dOrV, dChain, dTmp, dTmpT, frzE, dFrz, OD.d, dIxO, dApp, dSetI, dNeg, dLst, dLstO, dTup, dO, dDrop, ev_abs, ev_inttoi, ev_inttob, ev_inttos, ev_strtoi, ev_listl, ev_listt, ev_lists, ev_tupl, ev_tupt, ev_addi, ev_adds, ev_addl, ev_addt, ev_muli, ev_muls, ev_mull, ev_max, ev_min, ev_all, ev_any, gRepr, dLRg, Pd.r1, Pd.r2, eqD_str, eqD_int, eqD_bl, dFld, dProp, dMeth, dAugI, dRev, dMake, dIsi, isT, isC, dNx, dBrk, dNev, dFst, gNm, gTp, gsCons, gsNil, dAsg, dStar, dYes, iniEnd, flatD, wipeE, ev_ixl, ev_ixt, ev_ixs, ev_ixr, ev_srcl, ev_srct, ev_srcs, ev_at0, ev_at1, ev_atl, ev_atn, ev_ixn, Option.some.injEq, exists_eq_left', exists_eq_left, List.foldl_cons, List.foldl_nil, List.map_cons, List.map_nil, List.replicate, List.length_append, List.length_map, List.length_cons, List.length_nil, List.cons_append, List.nil_append, List.append_nil, List.getElem?_cons_zero, List.getElem?_cons_succ, List.set_cons_zero, List.set_cons_succ, Nat.zero_add, Nat.reduceAdd, Nat.reduceSub, Nat.reduceLeDiff, true_and, and_true, decide_eq_true_eq, decide_eq_false_iff_not, ne_eq, reduceCtorEq, false_implies, true_implies, forall_const, Bool.and_self, Bool.and_true, Bool.true_and, lk_ends, lk_blocks, lk_text, lk_spot, lk_letter, Int.toNat_natCast, dFldO, dTmq, dMut, dSetQ, dParQ, qMake, D.still, D.stills, lf_past, lf_word, lf_letters, pf_past, pf_later, pm1, pm2, pm3, pm4, pi1, pi2, pi3, pi4, pi5, lm_state, lm_text, lm_search]
  obtain ⟨r0, rr, rfl⟩ : ∃ r0 rr, rows = r0 :: rr := by
    cases rows with
    | nil => cases r4
    | cons a r => exact ⟨a, r, rfl⟩
  have G := hG r0 (by simp)
  have := G.most
  refine ⟨_, ev_at0 _ _, _, ev_at0 _ _, r0, rfl, by omega, G.fo, r0, rfl, G, fldsG r0, fldsG r0, rfl, rfl, fun n0 => .inl ⟨r0, r0, rfl, rfl, true, by simp, ?_⟩⟩
  exact q _ (by omega) (by omega)
theorem r_right45 (c : Str → Addr) : RightOk (s_right45 c) 400 := fun n Q h q => ⟨rfl, h, q⟩
end LW
namespace LW
open PySem L2 Pd
structure Fc (K : PySem.W.Frag) (mg : Str → Option Value) : Prop where
  g_BadNumber : mg "BadNumber" = some (.ref (He.ga K "BadNumber"))
  g_Grown : mg "Grown" = some (.ref (He.ga K "Grown"))
  g_Word : mg "Word" = some (.ref (He.ga K "Word"))
  g__law_block_text : mg "_law_block_text" = some (.ref (He.ga K "_law_block_text"))
  g__law_cells : mg "_law_cells" = some (.ref (He.ga K "_law_cells"))
  g__law_form_text : mg "_law_form_text" = some (.ref (He.ga K "_law_form_text"))
  g__law_grown_at : mg "_law_grown_at" = some (.ref (He.ga K "_law_grown_at"))
  g__law_grown_blocks : mg "_law_grown_blocks" = some (.ref (He.ga K "_law_grown_blocks"))
  g__law_grown_text : mg "_law_grown_text" = some (.ref (He.ga K "_law_grown_text"))
  g__law_heard : mg "_law_heard" = some (.ref (He.ga K "_law_heard"))
  g__law_is_at_right : mg "_law_is_at_right" = some (.ref (He.ga K "_law_is_at_right"))
  g__law_is_int : mg "_law_is_int" = some (.ref (He.ga K "_law_is_int"))
  g__law_odd : mg "_law_odd" = some (.ref (He.ga K "_law_odd"))
  g__law_of : mg "_law_of" = some (.ref (He.ga K "_law_of"))
  g__law_pot : mg "_law_pot" = some (.ref (He.ga K "_law_pot"))
  g__law_right : mg "_law_right" = some (.ref (He.ga K "_law_right"))
  g__law_take : mg "_law_take" = some (.ref (He.ga K "_law_take"))
  g_block_in : mg "block_in" = some (.ref (He.ga K "block_in"))
  g_blocks_in : mg "blocks_in" = some (.ref (He.ga K "blocks_in"))
  g_blocks_told : mg "blocks_told" = some (.ref (He.ga K "blocks_told"))
  g_form_in : mg "form_in" = some (.ref (He.ga K "form_in"))
  g_is_integer : mg "is_integer" = some (.ref (He.ga K "is_integer"))
  g_is_said : mg "is_said" = some (.ref (He.ga K "is_said"))
  g_number_in : mg "number_in" = some (.ref (He.ga K "number_in"))
  g_pieces_of : mg "pieces_of" = some (.ref (He.ga K "pieces_of"))
  g_whole_in : mg "whole_in" = some (.ref (He.ga K "whole_in"))
  g_law : mg "law" = some (.ref (He.ga K "law"))
  g_CutError : mg "CutError" = some (.ref (He.ga K "CutError"))
  i_BEYOND : ∃ t, mg "BEYOND" = some (.int 1000000000000000000000000000000 t)
  i_LEAST_BLOCKS : ∃ t, mg "LEAST_BLOCKS" = some (.int 2 t)
  i_LEAST_MANY : ∃ t, mg "LEAST_MANY" = some (.int 2 t)
  i_MOST_BLOCKS_growing : ∃ t, mg "MOST_BLOCKS_growing" = some (.int 10 t)
  i_MOST_BLOCKS_words : ∃ t, mg "MOST_BLOCKS_words" = some (.int 40 t)
  i_MOST_FIGURES : ∃ t, mg "MOST_FIGURES" = some (.int 40 t)
  i_MOST_MANY : ∃ t, mg "MOST_MANY" = some (.int 99 t)
  i_MOST_NUMBER : ∃ t, mg "MOST_NUMBER" = some (.int 100000000000000000000 t)
  i_MOST_TIMES : ∃ t, mg "MOST_TIMES" = some (.int 9 t)
  s_FIGURES : ∃ t, mg "FIGURES" = some (.str ⟨List.toArray [48, 49, 50, 51, 52, 53, 54, 55, 56, 57]⟩ t)
  s_GROWS : ∃ t, mg "GROWS" = some (.str ⟨List.toArray [78]⟩ t)
  s_LETTERS : ∃ t, mg "LETTERS" = some (.str ⟨List.toArray [97, 98, 99, 100, 101, 102, 103, 104, 105, 106, 107, 108, 109, 110, 111, 112, 113, 114, 115, 116, 117, 118, 119, 120, 121, 122]⟩ t)
  s_PLUS : ∃ t, mg "PLUS" = some (.str ⟨List.toArray [43]⟩ t)
  f_abs : mg "abs" = none
  f_all : mg "all" = none
  f_any : mg "any" = none
  f_bool : mg "bool" = none
  f_enumerate : mg "enumerate" = none
  f_int : mg "int" = none
  f_isinstance : mg "isinstance" = none
  f_len : mg "len" = none
  f_list : mg "list" = none
  f_max : mg "max" = none
  f_min : mg "min" = none
  f_range : mg "range" = none
  f_repr : mg "repr" = none
  f_str : mg "str" = none
  f_super : mg "super" = none
  f_tuple : mg "tuple" = none
  f_zip : mg "zip" = none
  c_Word : Cls K (He.ga K "Word")
  mk_Word : Mk K (He.ga K "Word") (He.ma K (He.ga K "Word") "__init__")
  n_Word_own_blocks : NoAttr K (He.ga K "Word") "own_blocks"
  n_Word_own_ends : NoAttr K (He.ga K "Word") "own_ends"
  n_Word_own_text : NoAttr K (He.ga K "Word") "own_text"
  p_Word_text : PropOf K (He.ga K "Word") "text" (propAt K "Word" "text") (getterAt "Word" "text" K)
  p_Word_blocks : PropOf K (He.ga K "Word") "blocks" (propAt K "Word" "blocks") (getterAt "Word" "blocks" K)
  m_Word___eq__ : Meth K (He.ga K "Word") "__eq__" (methAt "Word" "__eq__" K)
  c_Grown : Cls K (He.ga K "Grown")
  mk_Grown : Mk K (He.ga K "Grown") (He.ma K (He.ga K "Grown") "__init__")
  n_Grown_own_blocks : NoAttr K (He.ga K "Grown") "own_blocks"
  n_Grown_own_text : NoAttr K (He.ga K "Grown") "own_text"
  p_Grown_text : PropOf K (He.ga K "Grown") "text" (propAt K "Grown" "text") (getterAt "Grown" "text" K)
  p_Grown_blocks : PropOf K (He.ga K "Grown") "blocks" (propAt K "Grown" "blocks") (getterAt "Grown" "blocks" K)
  m_Grown___eq__ : Meth K (He.ga K "Grown") "__eq__" (methAt "Grown" "__eq__" K)
  m_Grown_at : Meth K (He.ga K "Grown") "at" (methAt "Grown" "at" K)
  q_Word : EqnOk K (He.ga K "Word")
  q_Grown : EqnOk K (He.ga K "Grown")
  x_BadNumber : ErrAll K (He.ga K "CutError") (supI K) (He.ga K "BadNumber")
  sysd : SysD K
  ne_WG : He.ga K "Word" ≠ He.ga K "Grown"
  e_sup : (Fx.sup "/claim/cut.py").ok K = true
  ib_BadNumber : ∀ S ∈ ["NoneType", "bool", "int", "str", "list", "tuple", "dict"], PySem.W.kitOne K (.type S) (.ref (He.ga K "BadNumber")) = some false
  ik_BadNumber_BadNumber : PySem.W.kitOne K (.ref (He.ga K "BadNumber")) (.ref (He.ga K "BadNumber")) = some true
  ins_Word : InsOk K (He.ga K "Word")
  ins_Grown : InsOk K (He.ga K "Grown")
  is_Grown : IsT K (.ref (He.ga K "Grown")) (isC (He.ga K "Grown") [He.ga K "Word"])
  is_Word : IsT K (.ref (He.ga K "Word")) (isC (He.ga K "Word") [He.ga K "Grown"])
  is_bool : IsT K (.ty "bool") (isT "bool" [He.ga K "Word", He.ga K "Grown"])
  is_int : IsT K (.ty "int") (isT "int" [He.ga K "Word", He.ga K "Grown"])
  is_str : IsT K (.ty "str") (isT "str" [He.ga K "Word", He.ga K "Grown"])
  d_is_integer : ∃ fd, FunD K D_is_integer.name D_is_integer.qual D_is_integer.params D_is_integer.body D_is_integer.scope (D_is_integer.dvs K) [] (D_is_integer.loc K) fd
  d_is_said : ∃ fd, FunD K D_is_said.name D_is_said.qual D_is_said.params D_is_said.body D_is_said.scope [] [] (D_is_said.loc K) fd
  d_whole_in : ∃ fd, FunD K D_whole_in.name D_whole_in.qual D_whole_in.params D_whole_in.body D_whole_in.scope [] [] (D_whole_in.loc K) fd
  d_pieces_of : ∃ fd, FunD K D_pieces_of.name D_pieces_of.qual D_pieces_of.params D_pieces_of.body D_pieces_of.scope [] [] (D_pieces_of.loc K) fd
  d_block_in : ∃ fd, FunD K D_block_in.name D_block_in.qual D_block_in.params D_block_in.body D_block_in.scope [] [] (D_block_in.loc K) fd
  d_blocks_told : ∃ fd, FunD K D_blocks_told.name D_blocks_told.qual D_blocks_told.params D_blocks_told.body D_blocks_told.scope [] [] (D_blocks_told.loc K) fd
  d_number_in : ∃ fd, FunD K D_number_in.name D_number_in.qual D_number_in.params D_number_in.body D_number_in.scope [] [] (D_number_in.loc K) fd
  d_form_in : ∃ fd, FunD K D_form_in.name D_form_in.qual D_form_in.params D_form_in.body D_form_in.scope [] [] (D_form_in.loc K) fd
  d_blocks_in : ∃ fd, FunD K D_blocks_in.name D_blocks_in.qual D_blocks_in.params D_blocks_in.body D_blocks_in.scope [] [] (D_blocks_in.loc K) fd
  d__law_pot : ∃ fd, FunD K D__law_pot.name D__law_pot.qual D__law_pot.params D__law_pot.body D__law_pot.scope [] [] (D__law_pot.loc K) fd
  d__law_take : ∃ fd, FunD K D__law_take.name D__law_take.qual D__law_take.params D__law_take.body D__law_take.scope [] [] (D__law_take.loc K) fd
  d__law_of : ∃ fd, FunD K D__law_of.name D__law_of.qual D__law_of.params D__law_of.body D__law_of.scope [] [] (D__law_of.loc K) fd
  d__law_cells : ∃ fd, FunD K D__law_cells.name D__law_cells.qual D__law_cells.params D__law_cells.body D__law_cells.scope [] [] (D__law_cells.loc K) fd
  d__law_heard : ∃ fd, FunD K D__law_heard.name D__law_heard.qual D__law_heard.params D__law_heard.body D__law_heard.scope [] [] (D__law_heard.loc K) fd
  d__law_odd : ∃ fd, FunD K D__law_odd.name D__law_odd.qual D__law_odd.params D__law_odd.body D__law_odd.scope [] [] (D__law_odd.loc K) fd
  d__law_is_int : ∃ fd, FunD K D__law_is_int.name D__law_is_int.qual D__law_is_int.params D__law_is_int.body D__law_is_int.scope (D__law_is_int.dvs K) [] (D__law_is_int.loc K) fd
  d__law_block_text : ∃ fd, FunD K D__law_block_text.name D__law_block_text.qual D__law_block_text.params D__law_block_text.body D__law_block_text.scope [] [] (D__law_block_text.loc K) fd
  d__law_form_text : ∃ fd, FunD K D__law_form_text.name D__law_form_text.qual D__law_form_text.params D__law_form_text.body D__law_form_text.scope [] [] (D__law_form_text.loc K) fd
  d__law_grown_text : ∃ fd, FunD K D__law_grown_text.name D__law_grown_text.qual D__law_grown_text.params D__law_grown_text.body D__law_grown_text.scope [] [] (D__law_grown_text.loc K) fd
  d__law_grown_blocks : ∃ fd, FunD K D__law_grown_blocks.name D__law_grown_blocks.qual D__law_grown_blocks.params D__law_grown_blocks.body D__law_grown_blocks.scope [] [] (D__law_grown_blocks.loc K) fd
  d__law_grown_at : ∃ fd, FunD K D__law_grown_at.name D__law_grown_at.qual D__law_grown_at.params D__law_grown_at.body D__law_grown_at.scope [] [] (D__law_grown_at.loc K) fd
  d__law_is_at_right : ∃ fd, FunD K D__law_is_at_right.name D__law_is_at_right.qual D__law_is_at_right.params D__law_is_at_right.body D__law_is_at_right.scope [] [] (D__law_is_at_right.loc K) fd ∧ LamD K D__law_is_at_right.qual fd
  d__law_right : ∃ fd, FunD K D__law_right.name D__law_right.qual D__law_right.params D__law_right.body D__law_right.scope [] [] (D__law_right.loc K) fd
  d_law : ∃ fd, FunD K D_law.name D_law.qual D_law.params D_law.body D_law.scope [] [] (D_law.loc K) fd
  d_Word___init__ : ∃ fd, FunD K D_Word___init__.name D_Word___init__.qual D_Word___init__.params D_Word___init__.body D_Word___init__.scope [] [] (D_Word___init__.loc K) fd
  d_Word_text : ∃ fd, FunD K D_Word_text.name D_Word_text.qual D_Word_text.params D_Word_text.body D_Word_text.scope [] [] (D_Word_text.loc K) fd
  d_Word_blocks : ∃ fd, FunD K D_Word_blocks.name D_Word_blocks.qual D_Word_blocks.params D_Word_blocks.body D_Word_blocks.scope [] [] (D_Word_blocks.loc K) fd
  d_Word___eq__ : ∃ fd, FunD K D_Word___eq__.name D_Word___eq__.qual D_Word___eq__.params D_Word___eq__.body D_Word___eq__.scope [] [] (D_Word___eq__.loc K) fd
  d_Grown___init__ : ∃ fd, FunD K D_Grown___init__.name D_Grown___init__.qual D_Grown___init__.params D_Grown___init__.body D_Grown___init__.scope [] [] (D_Grown___init__.loc K) fd
  d_Grown_text : ∃ fd, FunD K D_Grown_text.name D_Grown_text.qual D_Grown_text.params D_Grown_text.body D_Grown_text.scope [] [] (D_Grown_text.loc K) fd
  d_Grown_blocks : ∃ fd, FunD K D_Grown_blocks.name D_Grown_blocks.qual D_Grown_blocks.params D_Grown_blocks.body D_Grown_blocks.scope [] [] (D_Grown_blocks.loc K) fd
  d_Grown___eq__ : ∃ fd, FunD K D_Grown___eq__.name D_Grown___eq__.qual D_Grown___eq__.params D_Grown___eq__.body D_Grown___eq__.scope [] [] (D_Grown___eq__.loc K) fd
  d_Grown_at : ∃ fd, FunD K D_Grown_at.name D_Grown_at.qual D_Grown_at.params D_Grown_at.body D_Grown_at.scope [] [] (D_Grown_at.loc K) fd
  e_psg : psg K (D_CutError___init__.loc K) = D_CutError___init__.said
  e_good : D_CutError___init__.good K = true
theorem fc_of {K : PySem.W.Frag} {h : Heap} {mg : Str → Option Value} (X : K.In h) (G : h.Ns mainGlobals mg) (c : SaysP fx fn K) : Fc K mg :=
  ⟨He.glo_ok X G (c.fact 0 (f := .old (.glo "BadNumber"))),
   He.glo_ok X G (c.fact 1 (f := .old (.glo "Grown"))),
   He.glo_ok X G (c.fact 2 (f := .old (.glo "Word"))),
   He.glo_ok X G (c.fact 3 (f := .old (.glo "_law_block_text"))),
   He.glo_ok X G (c.fact 4 (f := .old (.glo "_law_cells"))),
   He.glo_ok X G (c.fact 5 (f := .old (.glo "_law_form_text"))),
   He.glo_ok X G (c.fact 6 (f := .old (.glo "_law_grown_at"))),
   He.glo_ok X G (c.fact 7 (f := .old (.glo "_law_grown_blocks"))),
   He.glo_ok X G (c.fact 8 (f := .old (.glo "_law_grown_text"))),
   He.glo_ok X G (c.fact 9 (f := .old (.glo "_law_heard"))),
   He.glo_ok X G (c.fact 10 (f := .old (.glo "_law_is_at_right"))),
   He.glo_ok X G (c.fact 11 (f := .old (.glo "_law_is_int"))),
   He.glo_ok X G (c.fact 12 (f := .old (.glo "_law_odd"))),
   He.glo_ok X G (c.fact 13 (f := .old (.glo "_law_of"))),
   He.glo_ok X G (c.fact 14 (f := .old (.glo "_law_pot"))),
   He.glo_ok X G (c.fact 15 (f := .old (.glo "_law_right"))),
   He.glo_ok X G (c.fact 16 (f := .old (.glo "_law_take"))),
   He.glo_ok X G (c.fact 17 (f := .old (.glo "block_in"))),
   He.glo_ok X G (c.fact 18 (f := .old (.glo "blocks_in"))),
   He.glo_ok X G (c.fact 19 (f := .old (.glo "blocks_told"))),
   He.glo_ok X G (c.fact 20 (f := .old (.glo "form_in"))),
   He.glo_ok X G (c.fact 21 (f := .old (.glo "is_integer"))),
   He.glo_ok X G (c.fact 22 (f := .old (.glo "is_said"))),
   He.glo_ok X G (c.fact 23 (f := .old (.glo "number_in"))),
   He.glo_ok X G (c.fact 24 (f := .old (.glo "pieces_of"))),
   He.glo_ok X G (c.fact 25 (f := .old (.glo "whole_in"))),
   He.glo_ok X G (c.fact 26 (f := .old (.glo "law"))),
   He.glo_ok X G (c.fact 27 (f := .old (.glo "CutError"))),
   He.int_ok X G (c.fact 28 (f := .old (.int "BEYOND" 1000000000000000000000000000000))),
   He.int_ok X G (c.fact 29 (f := .old (.int "LEAST_BLOCKS" 2))),
   He.int_ok X G (c.fact 30 (f := .old (.int "LEAST_MANY" 2))),
   He.int_ok X G (c.fact 31 (f := .old (.int "MOST_BLOCKS_growing" 10))),
   He.int_ok X G (c.fact 32 (f := .old (.int "MOST_BLOCKS_words" 40))),
   He.int_ok X G (c.fact 33 (f := .old (.int "MOST_FIGURES" 40))),
   He.int_ok X G (c.fact 34 (f := .old (.int "MOST_MANY" 99))),
   He.int_ok X G (c.fact 35 (f := .old (.int "MOST_NUMBER" 100000000000000000000))),
   He.int_ok X G (c.fact 36 (f := .old (.int "MOST_TIMES" 9))),
   He.str_ok X G (c.fact 37 (f := .old (.str "FIGURES" ⟨List.toArray [48, 49, 50, 51, 52, 53, 54, 55, 56, 57]⟩))),
   He.str_ok X G (c.fact 38 (f := .old (.str "GROWS" ⟨List.toArray [78]⟩))),
   He.str_ok X G (c.fact 39 (f := .old (.str "LETTERS" ⟨List.toArray [97, 98, 99, 100, 101, 102, 103, 104, 105, 106, 107, 108, 109, 110, 111, 112, 113, 114, 115, 116, 117, 118, 119, 120, 121, 122]⟩))),
   He.str_ok X G (c.fact 40 (f := .old (.str "PLUS" ⟨List.toArray [43]⟩))),
   He.free_ok X G (c.fact 41 (f := .old (.free "abs"))),
   He.free_ok X G (c.fact 42 (f := .old (.free "all"))),
   He.free_ok X G (c.fact 43 (f := .old (.free "any"))),
   He.free_ok X G (c.fact 44 (f := .old (.free "bool"))),
   He.free_ok X G (c.fact 45 (f := .old (.free "enumerate"))),
   He.free_ok X G (c.fact 46 (f := .old (.free "int"))),
   He.free_ok X G (c.fact 47 (f := .old (.free "isinstance"))),
   He.free_ok X G (c.fact 48 (f := .old (.free "len"))),
   He.free_ok X G (c.fact 49 (f := .old (.free "list"))),
   He.free_ok X G (c.fact 50 (f := .old (.free "max"))),
   He.free_ok X G (c.fact 51 (f := .old (.free "min"))),
   He.free_ok X G (c.fact 52 (f := .old (.free "range"))),
   He.free_ok X G (c.fact 53 (f := .old (.free "repr"))),
   He.free_ok X G (c.fact 54 (f := .old (.free "str"))),
   He.free_ok X G (c.fact 55 (f := .old (.free "super"))),
   He.free_ok X G (c.fact 56 (f := .old (.free "tuple"))),
   He.free_ok X G (c.fact 57 (f := .old (.free "zip"))),
   He.cls_ok (c.fact 58 (f := .old (.cls "Word"))),
   He.mkr_ok (c.fact 59 (f := .old (.mkr "Word"))),
   He.noat_ok (c.fact 60 (f := .old (.noat "Word" "own_blocks"))),
   He.noat_ok (c.fact 61 (f := .old (.noat "Word" "own_ends"))),
   He.noat_ok (c.fact 62 (f := .old (.noat "Word" "own_text"))),
   prop_ok (c.fact 63 (f := .prop "Word" "text")),
   prop_ok (c.fact 64 (f := .prop "Word" "blocks")),
   He.meth_ok (c.fact 65 (f := .old (.meth "Word" "__eq__"))),
   He.cls_ok (c.fact 66 (f := .old (.cls "Grown"))),
   He.mkr_ok (c.fact 67 (f := .old (.mkr "Grown"))),
   He.noat_ok (c.fact 68 (f := .old (.noat "Grown" "own_blocks"))),
   He.noat_ok (c.fact 69 (f := .old (.noat "Grown" "own_text"))),
   prop_ok (c.fact 70 (f := .prop "Grown" "text")),
   prop_ok (c.fact 71 (f := .prop "Grown" "blocks")),
   He.meth_ok (c.fact 72 (f := .old (.meth "Grown" "__eq__"))),
   He.meth_ok (c.fact 73 (f := .old (.meth "Grown" "at"))),
   eqn_ok (c.fact 74 (f := .eqn "Word")),
   eqn_ok (c.fact 75 (f := .eqn "Grown")),
   exc_ok (c.fact 76 (f := .exc "BadNumber")),
   sysd_ok (c.fact 77 (f := .sysd)),
   ne_isi (c.fact 78 (f := .isiC "Word" (.inl "Grown") false)),
   (c.fact 79 (f := .sup "/claim/cut.py")),
   (fun S hS => by simp only [List.mem_cons, List.mem_nil_iff, or_false] at hS; rcases hS with h | h | h | h | h | h | h <;> subst h; exact isi_ok (c.fact 80 (f := .isi (.type "NoneType") (.inl "BadNumber") false)); exact isi_ok (c.fact 81 (f := .isi (.type "bool") (.inl "BadNumber") false)); exact isi_ok (c.fact 82 (f := .isi (.type "int") (.inl "BadNumber") false)); exact isi_ok (c.fact 83 (f := .isi (.type "str") (.inl "BadNumber") false)); exact isi_ok (c.fact 84 (f := .isi (.type "list") (.inl "BadNumber") false)); exact isi_ok (c.fact 85 (f := .isi (.type "tuple") (.inl "BadNumber") false)); exact isi_ok (c.fact 86 (f := .isi (.type "dict") (.inl "BadNumber") false))),
   isiC_ok (c.fact 87 (f := .isiC "BadNumber" (.inl "BadNumber") true)),
   ins_ok (He.cls_ok (c.fact 58 (f := .old (.cls "Word")))) (c.fact 88 (f := .ins "Word")),
   ins_ok (He.cls_ok (c.fact 66 (f := .old (.cls "Grown")))) (c.fact 89 (f := .ins "Grown")),
   isC_ok (fun S hS => by simp only [List.mem_cons, List.mem_nil_iff, or_false] at hS; rcases hS with h | h | h | h | h | h | h <;> subst h; exact isi_ok (c.fact 90 (f := .isi (.type "NoneType") (.inl "Grown") false)); exact isi_ok (c.fact 91 (f := .isi (.type "bool") (.inl "Grown") false)); exact isi_ok (c.fact 92 (f := .isi (.type "int") (.inl "Grown") false)); exact isi_ok (c.fact 93 (f := .isi (.type "str") (.inl "Grown") false)); exact isi_ok (c.fact 94 (f := .isi (.type "list") (.inl "Grown") false)); exact isi_ok (c.fact 95 (f := .isi (.type "tuple") (.inl "Grown") false)); exact isi_ok (c.fact 96 (f := .isi (.type "dict") (.inl "Grown") false))) ⟨ins_ok (He.cls_ok (c.fact 66 (f := .old (.cls "Grown")))) (c.fact 89 (f := .ins "Grown")), isiC_ok (c.fact 97 (f := .isiC "Grown" (.inl "Grown") true))⟩ (fun C hC => by simp only [List.mem_cons, List.mem_nil_iff, or_false] at hC; subst hC; exact ⟨ins_ok (He.cls_ok (c.fact 58 (f := .old (.cls "Word")))) (c.fact 88 (f := .ins "Word")), isiC_ok (c.fact 98 (f := .isiC "Word" (.inl "Grown") false))⟩),
   isC_ok (fun S hS => by simp only [List.mem_cons, List.mem_nil_iff, or_false] at hS; rcases hS with h | h | h | h | h | h | h <;> subst h; exact isi_ok (c.fact 99 (f := .isi (.type "NoneType") (.inl "Word") false)); exact isi_ok (c.fact 100 (f := .isi (.type "bool") (.inl "Word") false)); exact isi_ok (c.fact 101 (f := .isi (.type "int") (.inl "Word") false)); exact isi_ok (c.fact 102 (f := .isi (.type "str") (.inl "Word") false)); exact isi_ok (c.fact 103 (f := .isi (.type "list") (.inl "Word") false)); exact isi_ok (c.fact 104 (f := .isi (.type "tuple") (.inl "Word") false)); exact isi_ok (c.fact 105 (f := .isi (.type "dict") (.inl "Word") false))) ⟨ins_ok (He.cls_ok (c.fact 58 (f := .old (.cls "Word")))) (c.fact 88 (f := .ins "Word")), isiC_ok (c.fact 106 (f := .isiC "Word" (.inl "Word") true))⟩ (fun C hC => by simp only [List.mem_cons, List.mem_nil_iff, or_false] at hC; subst hC; exact ⟨ins_ok (He.cls_ok (c.fact 66 (f := .old (.cls "Grown")))) (c.fact 89 (f := .ins "Grown")), isiC_ok (c.fact 107 (f := .isiC "Grown" (.inl "Word") false))⟩),
   isT_ok (fun S hS => by simp only [List.mem_cons, List.mem_nil_iff, or_false] at hS; rcases hS with h | h | h | h | h | h | h <;> subst h; exact isi_ok (c.fact 108 (f := .isi (.type "NoneType") (.inr "bool") false)); exact isi_ok (c.fact 109 (f := .isi (.type "bool") (.inr "bool") true)); exact isi_ok (c.fact 110 (f := .isi (.type "int") (.inr "bool") false)); exact isi_ok (c.fact 111 (f := .isi (.type "str") (.inr "bool") false)); exact isi_ok (c.fact 112 (f := .isi (.type "list") (.inr "bool") false)); exact isi_ok (c.fact 113 (f := .isi (.type "tuple") (.inr "bool") false)); exact isi_ok (c.fact 114 (f := .isi (.type "dict") (.inr "bool") false))) (fun C hC => by simp only [List.mem_cons, List.mem_nil_iff, or_false] at hC; rcases hC with h | h <;> subst h; exact ⟨ins_ok (He.cls_ok (c.fact 58 (f := .old (.cls "Word")))) (c.fact 88 (f := .ins "Word")), isiC_ok (c.fact 115 (f := .isiC "Word" (.inr "bool") false))⟩; exact ⟨ins_ok (He.cls_ok (c.fact 66 (f := .old (.cls "Grown")))) (c.fact 89 (f := .ins "Grown")), isiC_ok (c.fact 116 (f := .isiC "Grown" (.inr "bool") false))⟩),
   isT_ok (fun S hS => by simp only [List.mem_cons, List.mem_nil_iff, or_false] at hS; rcases hS with h | h | h | h | h | h | h <;> subst h; exact isi_ok (c.fact 117 (f := .isi (.type "NoneType") (.inr "int") false)); exact isi_ok (c.fact 118 (f := .isi (.type "bool") (.inr "int") true)); exact isi_ok (c.fact 119 (f := .isi (.type "int") (.inr "int") true)); exact isi_ok (c.fact 120 (f := .isi (.type "str") (.inr "int") false)); exact isi_ok (c.fact 121 (f := .isi (.type "list") (.inr "int") false)); exact isi_ok (c.fact 122 (f := .isi (.type "tuple") (.inr "int") false)); exact isi_ok (c.fact 123 (f := .isi (.type "dict") (.inr "int") false))) (fun C hC => by simp only [List.mem_cons, List.mem_nil_iff, or_false] at hC; rcases hC with h | h <;> subst h; exact ⟨ins_ok (He.cls_ok (c.fact 58 (f := .old (.cls "Word")))) (c.fact 88 (f := .ins "Word")), isiC_ok (c.fact 124 (f := .isiC "Word" (.inr "int") false))⟩; exact ⟨ins_ok (He.cls_ok (c.fact 66 (f := .old (.cls "Grown")))) (c.fact 89 (f := .ins "Grown")), isiC_ok (c.fact 125 (f := .isiC "Grown" (.inr "int") false))⟩),
   isT_ok (fun S hS => by simp only [List.mem_cons, List.mem_nil_iff, or_false] at hS; rcases hS with h | h | h | h | h | h | h <;> subst h; exact isi_ok (c.fact 126 (f := .isi (.type "NoneType") (.inr "str") false)); exact isi_ok (c.fact 127 (f := .isi (.type "bool") (.inr "str") false)); exact isi_ok (c.fact 128 (f := .isi (.type "int") (.inr "str") false)); exact isi_ok (c.fact 129 (f := .isi (.type "str") (.inr "str") true)); exact isi_ok (c.fact 130 (f := .isi (.type "list") (.inr "str") false)); exact isi_ok (c.fact 131 (f := .isi (.type "tuple") (.inr "str") false)); exact isi_ok (c.fact 132 (f := .isi (.type "dict") (.inr "str") false))) (fun C hC => by simp only [List.mem_cons, List.mem_nil_iff, or_false] at hC; rcases hC with h | h <;> subst h; exact ⟨ins_ok (He.cls_ok (c.fact 58 (f := .old (.cls "Word")))) (c.fact 88 (f := .ins "Word")), isiC_ok (c.fact 133 (f := .isiC "Word" (.inr "str") false))⟩; exact ⟨ins_ok (He.cls_ok (c.fact 66 (f := .old (.cls "Grown")))) (c.fact 89 (f := .ins "Grown")), isiC_ok (c.fact 134 (f := .isiC "Grown" (.inr "str") false))⟩),
   c.fn 0,
   c.fn 1,
   c.fn 2,
   c.fn 3,
   c.fn 4,
   c.fn 5,
   c.fn 6,
   c.fn 7,
   c.fn 8,
   c.fn 9,
   c.fn 10,
   c.fn 11,
   c.fn 12,
   c.fn 13,
   c.fn 14,
   c.fn 15,
   c.fn 16,
   c.fn 17,
   c.fn 18,
   c.fn 19,
   c.fn 20,
   c.fnL 21,
   c.fn 22,
   c.fn 23,
   c.fn 24,
   c.fn 25,
   c.fn 26,
   c.fn 27,
   c.fn 28,
   c.fn 29,
   c.fn 30,
   c.fn 31,
   c.fn 32,
   c.psg 33,
   c.good 33⟩
theorem sup_has {P : Program} {w : World} {K : PySem.W.Frag} {mg : Str → Option Value} {base : Heap} (F : Fc K mg) (hf : ((P.main.file : Str) == ("/claim/cut.py" : Str)) = true) (ht : (P.main.scope.names.lookup ("super" : Str)).isSome = false) :
    ∃ fd, FnOk P w K mg base CX0 1 (supI K) fd ["self", "value"] (spSup K (He.ga K "CutError")) ∧ Binds K fd ["self", "value"] [] := by
  obtain ⟨cc, cda, fd, S, B⟩ := sup_fn (d := D_CutError___init__) F.e_psg F.e_good rfl rfl rfl rfl rfl F.e_sup hf (fun _ _ _ _ _ _ _ us hl => match us, hl with | [_, _], _ => rfl)
  exact ⟨fd, sup_ok S (NdefX.nscope_by (by decide +kernel)) rfl rfl rfl F.f_super ht (fun env => ⟨_, rfl⟩), B⟩
section
variable {P : Program} {w : World} {K : PySem.W.Frag} {mg : Str → Option Value} {base : Heap}
abbrev N__law_cells : List Str := ["_law_script", "_law_limit"]
theorem sc__law_cells : FnScope N__law_cells ["_law_script", "_law_limit"] (defScope S__law_cells) := ⟨rfl, rfl, rfl, by decide +kernel, rfl, by decide +kernel, by decide +kernel⟩
theorem ok__law_cells (F : Fc K mg)   {sp : FD} (hs : ∀ ds n Q, sp ds n Q → dFn N__law_cells.length 2 (b__law_cells (He.ga K) ) ds n Q) : HasF P w K mg base 1 (He.ga K "_law_cells") ["_law_script", "_law_limit"] [] sp :=
  has_f F.d__law_cells sc__law_cells (fun _ _ _ _ _ _ us hl => match us, hl with | [_, _], _ => rfl) (fun fd cdv A outer s H E hr => by
    have nd := sc__law_cells.nd
    exact (dss_one (ds_ret (de_lrg rfl rfl F.f_list (dr_1 rfl F.f_range (de_bi (call_maxA rfl) so_max rfl F.f_max bt_max (da_cons de_int (da_cons (de_bi (call_minA rfl) so_min rfl F.f_min bt_min (da_cons (de_var 1) (da_cons (de_bi call_lenA so_len rfl F.f_len bt_len (da_cons (de_var 0) da_nil)) da_nil))) da_nil)))))))) hs
abbrev N__law_pot : List Str := ["_law_script", "_law_place", "_law_cell", "_law_own", "_law_small"]
theorem sc__law_pot : FnScope N__law_pot ["_law_script", "_law_place"] (defScope S__law_pot) := ⟨rfl, rfl, rfl, by decide +kernel, rfl, by decide +kernel, by decide +kernel⟩
theorem ok__law_pot (F : Fc K mg)   {sp : FD} (hs : ∀ ds n Q, sp ds n Q → dFn N__law_pot.length 2 (b__law_pot (He.ga K) ) ds n Q) : HasF P w K mg base 1 (He.ga K "_law_pot") ["_law_script", "_law_place"] [] sp :=
  has_f F.d__law_pot sc__law_pot (fun _ _ _ _ _ _ us hl => match us, hl with | [_, _], _ => rfl) (fun fd cdv A outer s H E hr => by
    have nd := sc__law_pot.nd
    exact (dss_cons (ds_set (i := 2) nd rfl (Or.inl rfl) (de_ite (dt_cmp op_lt so_lt (de_var 1) (de_bi call_lenA so_len rfl F.f_len bt_len (da_cons (de_var 0) da_nil))) (de_ix (de_var 0) (de_var 1)) (de_op op_addA so_add (de_op op_mulA so_mul de_int (de_var 1)) de_int)))
      (dss_cons (ds_set (i := 3) nd rfl (Or.inl rfl) (de_op op_mulA so_mul (de_op op_mod so_mod (de_ty call_intA so_int rfl F.f_int bt_int (da_cons (de_bi call_abs so_abs rfl F.f_abs bt_abs (da_cons (de_var 2) da_nil)) da_nil)) (de_op op_powW so_pow (de_op op_powW so_pow de_int de_int) de_int)) (de_ty call_intA so_int rfl F.f_int bt_int (da_cons (de_cmp op_ge so_ge (de_bi call_abs so_abs rfl F.f_abs bt_abs (da_cons (de_var 2) da_nil)) (de_op op_powW so_pow de_int de_int)) da_nil))))
      (dss_cons (ds_set (i := 4) nd rfl (Or.inl rfl) (de_op op_mod so_mod (de_ty call_intA so_int rfl F.f_int bt_int (da_cons (de_var 2) da_nil)) de_int))
      (dss_one (ds_retPot (do_lst (da_cons (de_var 3) (da_cons (de_op op_mod so_mod (de_ty call_intA so_int rfl F.f_int bt_int (da_cons (de_op op_addA so_add (de_op op_addA so_add (de_op op_mulA so_mul (de_var 4) de_int) (de_op op_mulA so_mul (de_op op_mulA so_mul de_int (de_var 1)) (de_var 1))) de_int) da_nil)) de_int) (da_cons de_int da_nil)))))))))) hs
abbrev N__law_take : List Str := ["_law_pot_here", "_law_upto", "_law_digit", "_law_prime", "_law_mixed"]
theorem sc__law_take : FnScope N__law_take ["_law_pot_here", "_law_upto"] (defScope S__law_take) := ⟨rfl, rfl, rfl, by decide +kernel, rfl, by decide +kernel, by decide +kernel⟩
theorem ok__law_take (F : Fc K mg) : HasF P w K mg base 1 (He.ga K "_law_take") ["_law_pot_here", "_law_upto"] [] takeF :=
  has_take F.d__law_take sc__law_take rfl rfl (fun _ _ _ _ _ _ us hl => match us, hl with | [_, _], _ => rfl) fun fd cdv A outer s H E hr => by
    have nd := sc__law_take.nd
    exact (pss_cons (ps_if (pt_cmpR op_gt (pe_ix ix_seq (pv 0) pe_int (by intro _ _; rfl)) pe_int (nomark _))
      (pss_cons (ps_set (i := 2) nd rfl (Or.inl rfl) (pe_op op_mod (pe_callTy call_int1 rfl F.f_int bt_int (pa_cons (pe_ix ix_seq (pv 0) pe_int (by intro _ _; rfl)) pa_nil)) (pv 1)))
      (pss_cons (ps_asg (pe_op op_fdivW (pe_ix ix_seq (pv 0) pe_int (by intro _ _; rfl)) (pv 1)) (pg_sub (pv 0) pe_int set_list)) (pss_one (ps_ret (pv 2))))) pss_nil)
    (pss_cons (ps_asg (pe_op op_add (pe_ix ix_seq (pv 0) pe_int (by intro _ _; rfl)) pe_int) (pg_sub (pv 0) pe_int set_list))
    (pss_cons (ps_set (i := 3) nd rfl (Or.inl rfl) (pe_ix ix_seq (pe_lst (pa_cons pe_int (pa_cons pe_int (pa_cons pe_int (pa_cons pe_int (pa_cons pe_int pa_nil)))))) (pe_op op_mod (pe_callTy call_int1 rfl F.f_int bt_int (pa_cons (pe_ix ix_seq (pv 0) pe_int (by intro _ _; rfl)) pa_nil)) pe_int) (by intro _ _; rfl)))
    (pss_cons (ps_set (i := 4) nd rfl (Or.inl rfl) (pe_op op_mod (pe_callTy call_int1 rfl F.f_int bt_int (pa_cons (pe_op op_powW (pe_callTy call_int1 rfl F.f_int bt_int (pa_cons (pe_op op_add (pe_op op_add (pe_ix ix_seq (pv 0) pe_int (by intro _ _; rfl)) (pe_op op_mulW (pe_op op_mulW pe_int (pe_ix ix_seq (pv 0) pe_int (by intro _ _; rfl))) (pe_ix ix_seq (pv 0) pe_int (by intro _ _; rfl)))) pe_int) pa_nil)) pe_int) pa_nil)) (pv 3)))
    (pss_cons (ps_set (i := 4) nd rfl (Or.inl rfl) (pe_op op_mod (pe_callTy call_int1 rfl F.f_int bt_int (pa_cons (pe_op op_mulW (pv 4) (pe_op op_add (pe_op op_mod (pe_callTy call_int1 rfl F.f_int bt_int (pa_cons (pv 4) pa_nil)) pe_int) (pe_op op_mulW pe_int (pe_ix ix_seq (pv 0) pe_int (by intro _ _; rfl))))) pa_nil)) pe_int))
    (pss_one (ps_ret (pe_op op_mod (pe_callTy call_int1 rfl F.f_int bt_int (pa_cons (pe_op op_fdivW (pv 4) pe_int) pa_nil)) (pv 1)))))))))
abbrev N__law_of : List Str := ["_law_pot_here", "_law_some"]
theorem sc__law_of : FnScope N__law_of ["_law_pot_here", "_law_some"] (defScope S__law_of) := ⟨rfl, rfl, rfl, by decide +kernel, rfl, by decide +kernel, by decide +kernel⟩
theorem ok__law_of (F : Fc K mg) {s__law_take : FD} (G__law_take : HasF P w K mg base 1 (He.ga K "_law_take") ["_law_pot_here", "_law_upto"] [] s__law_take) {sp : FD} (hs : ∀ ds n Q, sp ds n Q → dFn N__law_of.length 2 (b__law_of (He.ga K) s__law_take) ds n Q) : HasF P w K mg base 2 (He.ga K "_law_of") ["_law_pot_here", "_law_some"] [] sp :=
  has_f F.d__law_of sc__law_of (fun _ _ _ _ _ _ us hl => match us, hl with | [_, _], _ => rfl) (fun fd cdv A outer s H E hr => by
    have nd := sc__law_of.nd
    exact (dss_one (ds_ret (de_ix (de_var 1) (de_callF G__law_take (hr.mono (by decide)) rfl F.g__law_take (da_cons (de_var 0) (da_cons (de_bi call_lenA so_len rfl F.f_len bt_len (da_cons (de_var 1) da_nil)) da_nil))))))) hs
abbrev N__law_grown_blocks : List Str := ["_law_pot_here", "_law_few", "_law_most", "_law_great", "_law_many", "_law_found", "_law_pool", "_law_lap", "_law_letter", "_law_a", "_law_b", "_law_at", "_law_sign"]
theorem sc__law_grown_blocks : FnScope N__law_grown_blocks ["_law_pot_here", "_law_few", "_law_most", "_law_great"] (defScope S__law_grown_blocks) := ⟨rfl, rfl, rfl, by decide +kernel, rfl, by decide +kernel, by decide +kernel⟩
theorem ok__law_grown_blocks (F : Fc K mg) {s__law_take : FD} {s__law_of : FD} (G__law_take : HasF P w K mg base 1 (He.ga K "_law_take") ["_law_pot_here", "_law_upto"] [] s__law_take) (G__law_of : HasF P w K mg base 2 (He.ga K "_law_of") ["_law_pot_here", "_law_some"] [] s__law_of) {sp : FD} (hs : ∀ ds n Q, sp ds n Q → dFn N__law_grown_blocks.length 4 (b__law_grown_blocks (He.ga K) s__law_take s__law_of) ds n Q) : HasF P w K mg base 3 (He.ga K "_law_grown_blocks") ["_law_pot_here", "_law_few", "_law_most", "_law_great"] [] sp :=
  has_f F.d__law_grown_blocks sc__law_grown_blocks (fun _ _ _ _ _ _ us hl => match us, hl with | [_, _, _, _], _ => rfl) (fun fd cdv A outer s H E hr => by
    have nd := sc__law_grown_blocks.nd
    exact (dss_cons (ds_mul (is := [4, 5, 6]) rfl (db_cons (de_op op_addA so_add (de_var 1) (de_callF G__law_take (hr.mono (by decide)) rfl F.g__law_take (da_cons (de_var 0) (da_cons (de_op op_addA so_add (de_op op_sub so_sub (de_var 2) (de_var 1)) de_int) da_nil)))) (db_own (do_lst da_nil) (db_cons (de_callF G__law_of (hr.mono (by decide)) rfl F.g__law_of (da_cons (de_var 0) (da_cons (de_lst (da_cons (de_str [97, 98, 99]) (da_cons (de_str [97, 98, 99]) (da_cons (de_str [97, 98, 99, 120, 121]) da_nil)))) da_nil))) db_nil))) ⟨pg_name (i := 4) nd rfl (Or.inl rfl), rfl, ⟨pg_name (i := 5) nd rfl (Or.inr rfl), rfl, ⟨pg_name (i := 6) nd rfl (Or.inl rfl), rfl, trivial⟩⟩⟩)
      (dss_cons (ds_for PassesOwn.never rfl (di_rg1 rfl F.f_range (de_var 4)) (dg_nm (i := 7) nd rfl (Or.inl rfl)) (dss_cons (ds_set (i := 8) nd rfl (Or.inl rfl) (de_callF G__law_of (hr.mono (by decide)) rfl F.g__law_of (da_cons (de_var 0) (da_cons (de_own (do_comp rfl nd (di_val (de_var 6)) (blk (N := N__law_grown_blocks) (sc := defScope S__law_grown_blocks) (own := [("_law_sign", 12)]) (by decide +kernel)) (by decide) (fun _ _ _ _ _ => (dg_nm (i := 12) nd rfl (Or.inl rfl))) (fun _ _ _ _ _ => (dts_one (dt_w (dw_or (dt_tmp 5 (dt_cmp (op_eqA hr.units) so_eq (de_var 5) (de_lst da_nil))) (dw_or1 (dt_cmp (op_neA hr.units) so_ne (de_var 12) (de_ix (de_ixO (pv 5) (de_neg de_int)) de_int))))))) (fun _ _ _ _ _ => (de_var 12)))) da_nil))))
      (dss_cons (ds_par (i := 9) (j := 10) rfl nd rfl rfl (by decide) rfl rfl (db_cons (de_callF G__law_of (hr.mono (by decide)) rfl F.g__law_of (da_cons (de_var 0) (da_cons (de_lst (da_cons de_int (da_cons de_int (da_cons de_int (da_cons de_int (da_cons (de_op op_addA so_add de_int (de_callF G__law_take (hr.mono (by decide)) rfl F.g__law_take (da_cons (de_var 0) (da_cons (de_var 3) da_nil)))) da_nil)))))) da_nil))) (db_cons (de_callF G__law_of (hr.mono (by decide)) rfl F.g__law_of (da_cons (de_var 0) (da_cons (de_lst (da_cons de_int (da_cons de_int (da_cons de_int (da_cons de_int (da_cons (de_op op_addA so_add de_int (de_callF G__law_take (hr.mono (by decide)) rfl F.g__law_take (da_cons (de_var 0) (da_cons de_int da_nil)))) da_nil)))))) da_nil))) db_nil)))
      (dss_one (ds_app (pv 5) (de_tup (da_cons (de_var 8) (da_cons (de_bi (call_maxA rfl) so_max rfl F.f_max bt_max (da_cons (de_var 9) (da_cons (de_ty call_intA so_int rfl F.f_int bt_int (da_cons (de_cmp (op_eqA hr.units) so_eq (de_var 10) de_int) da_nil)) da_nil))) (da_cons (de_var 10) da_nil)))))))))
      (dss_cons (ds_set (i := 11) nd rfl (Or.inl rfl) (de_callF G__law_take (hr.mono (by decide)) rfl F.g__law_take (da_cons (de_var 0) (da_cons (de_var 4) da_nil))))
      (dss_cons (ds_if (dt_val (de_tmp 5 (de_bi (cr_all rfl) so_all rfl F.f_all bt_all (da_cons (de_own (do_comp rfl nd (di_val (de_var 5)) (blk (N := N__law_grown_blocks) (sc := defScope S__law_grown_blocks) (own := [("_law_letter", 8), ("_law_a", 9), ("_law_b", 10)]) (by decide +kernel)) (by decide) (fun _ _ _ _ _ => (dg_tup rfl (gs_cons (dg_nm (i := 8) nd rfl (Or.inl rfl)) (gs_cons (dg_nm (i := 9) nd rfl (Or.inl rfl)) (gs_cons (dg_nm (i := 10) nd rfl (Or.inl rfl)) gs_nil))))) (fun _ _ _ _ _ => dts_nil) (fun _ _ _ _ _ => (de_cmp (op_eqA hr.units) so_eq (de_var 10) de_int)))) da_nil)))) (dss_one (ds_setI (pv 5) (de_var 11) (de_tup (da_cons (de_ix (de_ixO (pv 5) (de_var 11)) de_int) (da_cons (de_ix (de_ixO (pv 5) (de_var 11)) de_int) (da_cons de_int da_nil)))))) dss_nil)
      (dss_frz [5] (dss_one (ds_ret (de_var 5))))))))) hs
abbrev N__law_form_text : List Str := ["_law_form", "_law_a", "_law_b"]
theorem sc__law_form_text : FnScope N__law_form_text ["_law_form"] (defScope S__law_form_text) := ⟨rfl, rfl, rfl, by decide +kernel, rfl, by decide +kernel, by decide +kernel⟩
theorem ok__law_form_text (F : Fc K mg)   {sp : FD} (hs : ∀ ds n Q, sp ds n Q → dFn N__law_form_text.length 1 (b__law_form_text (He.ga K) ) ds n Q) : HasF P w K mg base 1 (He.ga K "_law_form_text") ["_law_form"] [] sp :=
  has_f F.d__law_form_text sc__law_form_text (fun _ _ _ _ _ _ us hl => match us, hl with | [_], _ => rfl) (fun fd cdv A outer s H E hr => by
    have nd := sc__law_form_text.nd
    exact (dss_cons (ds_asg (de_var 0) (dg_tup rfl (gs_cons (dg_nm (i := 1) nd rfl (Or.inl rfl)) (gs_cons (dg_nm (i := 2) nd rfl (Or.inl rfl)) gs_nil))))
      (dss_cons (ds_if (dt_cmp (op_eqA hr.units) so_eq (de_var 2) de_int) (dss_one (ds_ret (de_ite (dt_cmp op_gt so_gt (de_var 1) de_int) (de_ty call_strA so_str rfl F.f_str bt_str (da_cons (de_var 1) da_nil)) (de_str [])))) dss_nil)
      (dss_one (ds_ret (de_op op_addA so_add (de_op op_addA so_add (de_ite (dt_cmp op_gt so_gt (de_var 2) de_int) (de_ty call_strA so_str rfl F.f_str bt_str (da_cons (de_var 2) da_nil)) (de_str [])) (de_str [78])) (de_ite (dt_cmp op_gt so_gt (de_var 1) de_int) (de_op op_addA so_add (de_str [43]) (de_ty call_strA so_str rfl F.f_str bt_str (da_cons (de_var 1) da_nil))) (de_str [])))))))) hs
abbrev N__law_grown_text : List Str := ["_law_blocks", "_law_letter", "_law_a", "_law_b"]
theorem sc__law_grown_text : FnScope N__law_grown_text ["_law_blocks"] (defScope S__law_grown_text) := ⟨rfl, rfl, rfl, by decide +kernel, rfl, by decide +kernel, by decide +kernel⟩
theorem ok__law_grown_text (F : Fc K mg) {s__law_form_text : FD} (G__law_form_text : HasF P w K mg base 1 (He.ga K "_law_form_text") ["_law_form"] [] s__law_form_text) {sp : FD} (hs : ∀ ds n Q, sp ds n Q → dFn N__law_grown_text.length 1 (b__law_grown_text (He.ga K) s__law_form_text) ds n Q) : HasF P w K mg base 2 (He.ga K "_law_grown_text") ["_law_blocks"] [] sp :=
  has_f F.d__law_grown_text sc__law_grown_text (fun _ _ _ _ _ _ us hl => match us, hl with | [_], _ => rfl) (fun fd cdv A outer s H E hr => by
    have nd := sc__law_grown_text.nd
    exact (dss_one (ds_ret (de_join (de_str []) (de_own (do_comp rfl nd (di_val (de_var 0)) (blk (N := N__law_grown_text) (sc := defScope S__law_grown_text) (own := [("_law_letter", 1), ("_law_a", 2), ("_law_b", 3)]) (by decide +kernel)) (by decide) (fun _ _ _ _ _ => (dg_tup rfl (gs_cons (dg_nm (i := 1) nd rfl (Or.inl rfl)) (gs_cons (dg_nm (i := 2) nd rfl (Or.inl rfl)) (gs_cons (dg_nm (i := 3) nd rfl (Or.inl rfl)) gs_nil))))) (fun _ _ _ _ _ => dts_nil) (fun _ _ _ _ _ => (de_op op_addA so_add (de_var 1) (de_callF G__law_form_text (hr.mono (by decide)) rfl F.g__law_form_text (da_cons (de_tup (da_cons (de_var 2) (da_cons (de_var 3) da_nil))) da_nil)))))))))) hs
abbrev N_whole_in : List Str := ["word", "figures", "sign"]
theorem sc_whole_in : FnScope N_whole_in ["word"] (defScope S_whole_in) := ⟨rfl, rfl, rfl, by decide +kernel, rfl, by decide +kernel, by decide +kernel⟩
theorem ok_whole_in (F : Fc K mg)   {sp : FD} (hs : ∀ ds n Q, sp ds n Q → dFn N_whole_in.length 1 (b_whole_in (He.ga K) ) ds n Q) : HasF P w K mg base 1 (He.ga K "whole_in") ["word"] [] sp :=
  has_f F.d_whole_in sc_whole_in (fun _ _ _ _ _ _ us hl => match us, hl with | [_], _ => rfl) (fun fd cdv A outer s H E hr => by
    have nd := sc_whole_in.nd
    exact (dss_cons (ds_set (i := 1) nd rfl (Or.inl rfl) (de_ite (dt_cmp (op_eqA hr.units) so_eq (de_sl (de_var 0) dp_no (dp_some de_int)) (de_str [45])) (de_sl (de_var 0) (dp_some de_int) dp_no) (de_var 0)))
      (dss_cons (ds_if (dt_w (dw_or (dt_not (dt_chain op_lt op_le so_lt so_le de_int (de_bi call_lenA so_len rfl F.f_len bt_len (da_cons (de_var 1) da_nil)) (de_gint rfl F.i_MOST_FIGURES))) (dw_or1 (dt_not (dt_val (de_bi (cr_all rfl) so_all rfl F.f_all bt_all (da_cons (de_own (do_comp rfl nd (di_val (de_var 1)) (blk (N := N_whole_in) (sc := defScope S_whole_in) (own := [("sign", 2)]) (by decide +kernel)) (by decide) (fun _ _ _ _ _ => (dg_nm (i := 2) nd rfl (Or.inl rfl))) (fun _ _ _ _ _ => dts_nil) (fun _ _ _ _ _ => (de_cmp (op_inA (ru hr)) so_in (de_var 2) (de_gstr [48, 49, 50, 51, 52, 53, 54, 55, 56, 57] rfl F.s_FIGURES))))) da_nil))))))) (dss_one (ds_ret de_non)) dss_nil)
      (dss_one (ds_ret (de_ite (dt_cmp (op_eqA hr.units) so_eq (de_ty call_strA so_str rfl F.f_str bt_str (da_cons (de_ty call_intA so_int rfl F.f_int bt_int (da_cons (de_var 0) da_nil)) da_nil)) (de_var 0)) (de_ty call_intA so_int rfl F.f_int bt_int (da_cons (de_var 0) da_nil)) de_non)))))) hs
abbrev N_number_in : List Str := ["word", "low", "high", "number"]
theorem sc_number_in : FnScope N_number_in ["word", "low", "high"] (defScope S_number_in) := ⟨rfl, rfl, rfl, by decide +kernel, rfl, by decide +kernel, by decide +kernel⟩
theorem ok_number_in (F : Fc K mg) {s_whole_in : FD} (G_whole_in : HasF P w K mg base 1 (He.ga K "whole_in") ["word"] [] s_whole_in) {sp : FD} (hs : ∀ ds n Q, sp ds n Q → dFn N_number_in.length 3 (b_number_in (He.ga K) s_whole_in) ds n Q) : HasF P w K mg base 2 (He.ga K "number_in") ["word", "low", "high"] [] sp :=
  has_f F.d_number_in sc_number_in (fun _ _ _ _ _ _ us hl => match us, hl with | [_, _, _], _ => rfl) (fun fd cdv A outer s H E hr => by
    have nd := sc_number_in.nd
    exact (dss_cons (ds_set (i := 3) nd rfl (Or.inl rfl) (de_callF G_whole_in (hr.mono (by decide)) rfl F.g_whole_in (da_cons (de_var 0) da_nil)))
      (dss_one (ds_ret (de_ite (dt_w (dw_and (dt_cmp op_notN so_isNot (de_var 3) de_non) (dw_and1 (dt_chain op_le op_le so_le so_le (de_var 1) (de_var 3) (de_var 2))))) (de_var 3) de_non))))) hs
abbrev N_form_in : List Str := ["word", "many", "head", "tail", "times", "more"]
theorem sc_form_in : FnScope N_form_in ["word"] (defScope S_form_in) := ⟨rfl, rfl, rfl, by decide +kernel, rfl, by decide +kernel, by decide +kernel⟩
theorem ok_form_in (F : Fc K mg) {s_number_in : FD} (G_number_in : HasF P w K mg base 2 (He.ga K "number_in") ["word", "low", "high"] [] s_number_in) {sp : FD} (hs : ∀ ds n Q, sp ds n Q → dFn N_form_in.length 1 (b_form_in (He.ga K) s_number_in) ds n Q) : HasF P w K mg base 3 (He.ga K "form_in") ["word"] [] sp :=
  has_f F.d_form_in sc_form_in (fun _ _ _ _ _ _ us hl => match us, hl with | [_], _ => rfl) (fun fd cdv A outer s H E hr => by
    have nd := sc_form_in.nd
    exact (dss_cons (ds_if (dt_cmp (op_eqA hr.units) so_eq (de_var 0) (de_str [])) (dss_one (ds_ret (de_tup (da_cons de_int (da_cons de_int da_nil))))) dss_nil)
      (dss_cons (ds_if (dt_cmp (op_notInA (ru hr)) so_notIn (de_gstr [78] rfl F.s_GROWS) (de_var 0)) (dss_cons (ds_set (i := 1) nd rfl (Or.inl rfl) (de_callF G_number_in (hr.mono (by decide)) rfl F.g_number_in (da_cons (de_var 0) (da_cons (de_gint rfl F.i_LEAST_MANY) (da_cons (de_gint rfl F.i_MOST_MANY) da_nil)))))
      (dss_one (ds_ret (de_ite (dt_cmp op_isN so_is (de_var 1) de_non) de_non (de_tup (da_cons (de_var 1) (da_cons de_int da_nil))))))) dss_nil)
      (dss_cons (ds_asg (de_spl (de_var 0) (de_gstr [78] rfl F.s_GROWS)) (dg_tup rfl (gs_cons (dg_nm (i := 2) nd rfl (Or.inl rfl)) (gs_cons (dg_nm (i := 3) nd rfl (Or.inl rfl)) gs_nil))))
      (dss_cons (ds_set (i := 4) nd rfl (Or.inl rfl) (de_ite (dt_cmp (op_eqA hr.units) so_eq (de_var 2) (de_str [])) de_int (de_callF G_number_in (hr.mono (by decide)) rfl F.g_number_in (da_cons (de_var 2) (da_cons (de_gint rfl F.i_LEAST_MANY) (da_cons (de_gint rfl F.i_MOST_TIMES) da_nil))))))
      (dss_cons (ds_set (i := 5) nd rfl (Or.inl rfl) (de_ite (dt_cmp (op_eqA hr.units) so_eq (de_var 3) (de_str [])) de_int (de_callF G_number_in (hr.mono (by decide)) rfl F.g_number_in (da_cons (de_sl (de_var 3) (dp_some de_int) dp_no) (da_cons de_int (da_cons (de_gint rfl F.i_MOST_MANY) da_nil))))))
      (dss_cons (ds_if (dt_w (dw_or (dt_cmp op_isN so_is (de_var 4) de_non) (dw_or (dt_cmp op_isN so_is (de_var 5) de_non) (dw_or1 (dt_w (dw_and (dt_cmp (op_neA hr.units) so_ne (de_var 3) (de_str [])) (dw_and1 (dt_cmp (op_neA hr.units) so_ne (de_ix (de_var 3) de_int) (de_gstr [43] rfl F.s_PLUS))))))))) (dss_one (ds_ret de_non)) dss_nil)
      (dss_one (ds_ret (de_tup (da_cons (de_var 5) (da_cons (de_var 4) da_nil)))))))))))) hs
abbrev N_blocks_in : List Str := ["text", "spot", "found", "spots", "end", "form", "sign", "row"]
theorem sc_blocks_in : FnScope N_blocks_in ["text"] (defScope S_blocks_in) := ⟨rfl, rfl, rfl, by decide +kernel, rfl, by decide +kernel, by decide +kernel⟩
theorem ok_blocks_in (F : Fc K mg) {s_form_in : FD} (G_form_in : HasF P w K mg base 3 (He.ga K "form_in") ["word"] [] s_form_in) {sp : FD} (hs : ∀ ds n Q, sp ds n Q → dFn N_blocks_in.length 1 (b_blocks_in (He.ga K) s_form_in) ds n Q) : HasF P w K mg base 4 (He.ga K "blocks_in") ["text"] [] sp :=
  has_f F.d_blocks_in sc_blocks_in (fun _ _ _ _ _ _ us hl => match us, hl with | [_], _ => rfl) (fun fd cdv A outer s H E hr => by
    have nd := sc_blocks_in.nd
    exact (dss_cons (ds_par (i := 2) (j := 3) rfl nd rfl rfl (by decide) rfl rfl (db_own (do_lst da_nil) (db_cons (de_own (do_comp rfl nd (di_enum rfl F.f_enumerate (de_var 0)) (blk (N := N_blocks_in) (sc := defScope S_blocks_in) (own := [("spot", 1), ("sign", 6)]) (by decide +kernel)) (by decide) (fun _ _ _ _ _ => (dg_tup rfl (gs_cons (dg_nm (i := 1) nd rfl (Or.inl rfl)) (gs_cons (dg_nm (i := 6) nd rfl (Or.inl rfl)) gs_nil)))) (fun _ _ _ _ _ => (dts_one (dt_cmp (op_inA (ru hr)) so_in (de_var 6) (de_gstr [97, 98, 99, 100, 101, 102, 103, 104, 105, 106, 107, 108, 109, 110, 111, 112, 113, 114, 115, 116, 117, 118, 119, 120, 121, 122] rfl F.s_LETTERS)))) (fun _ _ _ _ _ => (de_var 1)))) db_nil)))
      (dss_cons (ds_if (dt_w (dw_or (dt_not (dt_chain op_le op_le so_le so_le (de_gint rfl F.i_LEAST_BLOCKS) (de_bi call_lenA so_len rfl F.f_len bt_len (da_cons (de_var 3) da_nil)) (de_gint rfl F.i_MOST_BLOCKS_growing))) (dw_or1 (dt_cmp (op_neA hr.units) so_ne (de_ix (de_var 3) de_int) de_int)))) (dss_one (ds_ret de_non)) dss_nil)
      (dss_cons (ds_for PassesOwn.never rfl (di_zip rfl F.f_zip (de_var 3) (de_lst (da_star (de_sl (de_var 3) (dp_some de_int) dp_no) (da_cons (de_bi call_lenA so_len rfl F.f_len bt_len (da_cons (de_var 0) da_nil)) da_nil)))) (dg_tup rfl (gs_cons (dg_nm (i := 1) nd rfl (Or.inl rfl)) (gs_cons (dg_nm (i := 4) nd rfl (Or.inl rfl)) gs_nil))) (dss_cons (ds_set (i := 5) nd rfl (Or.inl rfl) (de_callF G_form_in (hr.mono (by decide)) rfl F.g_form_in (da_cons (de_sl (de_var 0) (dp_some (de_op op_addA so_add (de_var 1) de_int)) (dp_some (de_var 4))) da_nil)))
      (dss_cons (ds_if (dt_w (dw_or (dt_cmp op_isN so_is (de_var 5) de_non) (dw_or1 (dt_w (dw_and (dt_tmp 2 (dt_cmp (op_neA hr.units) so_ne (de_var 2) (de_lst da_nil))) (dw_and1 (dt_cmp (op_eqA hr.units) so_eq (de_ix (de_ixO (pv 2) (de_neg de_int)) de_int) (de_ix (de_var 0) (de_var 1))))))))) (dss_one (ds_ret de_non)) dss_nil)
      (dss_one (ds_app (pv 2) (de_tup (da_cons (de_ix (de_var 0) (de_var 1)) (da_star (de_var 5) da_nil))))))))
      (dss_frz [2] (dss_one (ds_ret (de_ite (dt_val (de_bi (cr_any rfl) so_any rfl F.f_any bt_any (da_cons (de_own (do_comp rfl nd (di_val (de_var 2)) (blk (N := N_blocks_in) (sc := defScope S_blocks_in) (own := [("row", 7)]) (by decide +kernel)) (by decide) (fun _ _ _ _ _ => (dg_nm (i := 7) nd rfl (Or.inl rfl))) (fun _ _ _ _ _ => dts_nil) (fun _ _ _ _ _ => (de_cmp op_gt so_gt (de_ix (de_var 7) (de_neg de_int)) de_int)))) da_nil))) (de_var 2) de_non)))))))) hs
abbrev N_Grown___init__ : List Str := ["self", "text", "blocks"]
theorem sc_Grown___init__ : FnScope N_Grown___init__ ["self", "text"] (defScope S_Grown___init__) := ⟨rfl, rfl, rfl, by decide +kernel, rfl, by decide +kernel, by decide +kernel⟩
theorem ok_Grown___init__ (F : Fc K mg) {s_blocks_in : FD} (G_blocks_in : HasF P w K mg base 4 (He.ga K "blocks_in") ["text"] [] s_blocks_in) {sp : FI} (hs : ∀ ds n Q, sp ds n Q → dIni (He.ga K "Grown") N_Grown___init__.length 2 (b_Grown___init__ (He.ga K) s_blocks_in) ds n Q) : HasI P w K mg base 5 (He.ga K "Grown") ["self", "text"] [] sp :=
  has_init F.mk_Grown F.d_Grown___init__ sc_Grown___init__ (fun _ _ _ _ _ _ us hl => match us, hl with | [_, _], _ => rfl) (fun fd cdv A outer s H E hr => by
    have nd := sc_Grown___init__.nd
    exact (dss_cons (ds_set (i := 2) nd rfl (Or.inl rfl) (de_ite (dt_val (de_isi F.is_str rfl F.f_isinstance (de_var 1) (pe_tyN rfl F.f_str bt_str))) (de_callF G_blocks_in (hr.mono (by decide)) rfl F.g_blocks_in (da_cons (de_var 1) da_nil)) de_non))
      (dss_cons (ds_if (dt_cmp op_isN so_is (de_var 2) de_non) (dss_one ds_never) dss_nil)
      (dss_cons (ds_fst F.c_Grown F.n_Grown_own_text (pv 0) (de_var 1))
      (dss_one (ds_fst F.c_Grown F.n_Grown_own_blocks (pv 0) (de_ty (call_tupA rfl) so_tuple rfl F.f_tuple bt_tuple (da_cons (de_var 2) da_nil)))))))) hs
abbrev N_Grown_text : List Str := ["self"]
theorem sc_Grown_text : FnScope N_Grown_text ["self"] (defScope S_Grown_text) := ⟨rfl, rfl, rfl, by decide +kernel, rfl, by decide +kernel, by decide +kernel⟩
theorem ok_Grown_text (F : Fc K mg)   {sp : FD} (hs : ∀ ds n Q, sp ds n Q → dFn N_Grown_text.length 1 (b_Grown_text_v2 (He.ga K) ) ds n Q) : HasP P w K mg base 1 (He.ga K "Grown") "text" ["self"] sp :=
  has_p F.c_Grown F.p_Grown_text F.d_Grown_text sc_Grown_text (fun _ _ _ _ _ _ us hl => match us, hl with | [_], _ => rfl) (fun fd cdv A outer s H E hr => by
    have nd := sc_Grown_text.nd
    exact (dss_one (ds_ret (de_fld F.c_Grown F.n_Grown_own_text (de_var 0))))) hs
abbrev N_Grown_blocks : List Str := ["self"]
theorem sc_Grown_blocks : FnScope N_Grown_blocks ["self"] (defScope S_Grown_blocks) := ⟨rfl, rfl, rfl, by decide +kernel, rfl, by decide +kernel, by decide +kernel⟩
theorem ok_Grown_blocks (F : Fc K mg)   {sp : FD} (hs : ∀ ds n Q, sp ds n Q → dFn N_Grown_blocks.length 1 (b_Grown_blocks_v2 (He.ga K) ) ds n Q) : HasP P w K mg base 1 (He.ga K "Grown") "blocks" ["self"] sp :=
  has_p F.c_Grown F.p_Grown_blocks F.d_Grown_blocks sc_Grown_blocks (fun _ _ _ _ _ _ us hl => match us, hl with | [_], _ => rfl) (fun fd cdv A outer s H E hr => by
    have nd := sc_Grown_blocks.nd
    exact (dss_one (ds_ret (de_fld F.c_Grown F.n_Grown_own_blocks (de_var 0))))) hs
abbrev N__law_odd : List Str := ["_law_pot_here", "_law_some"]
theorem sc__law_odd : FnScope N__law_odd ["_law_pot_here"] (defScope S__law_odd) := ⟨rfl, rfl, rfl, by decide +kernel, rfl, by decide +kernel, by decide +kernel⟩
theorem ok__law_odd (F : Fc K mg) {s__law_of : FD} (G__law_of : HasF P w K mg base 2 (He.ga K "_law_of") ["_law_pot_here", "_law_some"] [] s__law_of) {sp : FD} (hs : ∀ ds n Q, sp ds n Q → dFn N__law_odd.length 1 (b__law_odd (He.ga K) s__law_of) ds n Q) : HasF P w K mg base 3 (He.ga K "_law_odd") ["_law_pot_here"] [] sp :=
  has_f F.d__law_odd sc__law_odd (fun _ _ _ _ _ _ us hl => match us, hl with | [_], _ => rfl) (fun fd cdv A outer s H E hr => by
    have nd := sc__law_odd.nd
    exact (dss_cons (ds_set (i := 1) nd rfl (Or.inl rfl) (de_lst (da_cons de_non (da_cons de_bl (da_cons de_bl (da_cons de_int (da_cons de_int (da_cons (de_neg de_int) (da_cons de_int (da_cons de_int (da_cons (de_str []) (da_cons (de_str [97]) (da_cons (de_str [97, 98]) (da_cons (de_str [97, 50]) (da_cons (de_str [114, 105, 103, 104, 116]) (da_cons (de_tup da_nil) (da_cons (de_lst da_nil) (da_cons de_dic0 (da_cons (de_tup (da_cons de_int da_nil)) (da_cons (de_tup (da_cons (de_tup da_nil) da_nil)) (da_cons (de_lst (da_cons de_int da_nil)) (da_cons (de_str [65]) (da_cons (de_str [49]) da_nil)))))))))))))))))))))))
      (dss_cons (ds_set (i := 1) nd rfl (Or.inl rfl) (de_op op_addA so_add (de_var 1) (de_lst (da_cons (de_tup (da_cons de_int (da_cons de_int da_nil))) (da_cons (de_tup (da_cons de_int (da_cons de_int (da_cons de_bl da_nil)))) (da_cons (de_tup (da_cons (de_str [97]) da_nil)) (da_cons (de_tup (da_cons (de_str [97]) (da_cons (de_str [98]) da_nil))) (da_cons (de_tup (da_cons (de_tup (da_cons de_int (da_cons de_int da_nil))) da_nil)) (da_cons (de_tup (da_cons de_non da_nil)) (da_cons (de_op op_powW so_pow de_int de_int) (da_cons (de_tup (da_cons (de_str [114, 101, 112, 101, 97, 116]) da_nil)) (da_cons (de_tup (da_cons (de_str [97, 112, 97, 114, 116]) (da_cons de_int da_nil))) da_nil))))))))))))
      (dss_one (ds_ret (de_callF G__law_of (hr.mono (by decide)) rfl F.g__law_of (da_cons (de_var 0) (da_cons (de_var 1) da_nil)))))))) hs
abbrev N_is_integer : List Str := ["value", "low", "high"]
theorem sc_is_integer : FnScope N_is_integer ["value", "low", "high"] (defScope S_is_integer) := ⟨rfl, rfl, rfl, by decide +kernel, rfl, by decide +kernel, by decide +kernel⟩
theorem ok_is_integer (F : Fc K mg)   {sp : FD} (hs : ∀ ds n Q, sp ds n Q → dFn N_is_integer.length 3 (b_is_integer_v2 (He.ga K) ) ds n Q) : HasF P w K mg base 1 (He.ga K "is_integer") ["value", "low", "high"] [] sp :=
  has_fD F.d_is_integer sc_is_integer 3 1 (by simp [Pd.PDef.dvs, D_is_integer]) rfl (fun _ _ _ _ _ _ _ us its hl hi => match us, its, hl, hi with | [_, _, _], [_], _, _ => ⟨_, rfl, rfl⟩) (fun _ => .nil) (fun fd cdv A outer s H E hr => by
    have nd := sc_is_integer.nd
    exact (dss_cons (ds_if (dt_w (dw_or (dt_not (dt_val (de_isi F.is_int rfl F.f_isinstance (de_var 0) (pe_tyN rfl F.f_int bt_int)))) (dw_or1 (dt_val (de_isi F.is_bool rfl F.f_isinstance (de_var 0) (pe_tyN rfl F.f_bool bt_bool)))))) (dss_one (ds_ret de_bl)) dss_nil)
      (dss_one (ds_ret (de_and (de_cmp op_le so_le (de_var 1) (de_var 0)) (de_one (de_or (de_cmp op_isN so_is (de_var 2) de_non) (de_one (de_cmp op_le so_le (de_var 0) (de_var 2)))))))))) hs
abbrev N_is_said : List Str := ["value", "some"]
theorem sc_is_said : FnScope N_is_said ["value", "some"] (defScope S_is_said) := ⟨rfl, rfl, rfl, by decide +kernel, rfl, by decide +kernel, by decide +kernel⟩
theorem ok_is_said (F : Fc K mg)   {sp : FD} (hs : ∀ ds n Q, sp ds n Q → dFn N_is_said.length 2 (b_is_said_v2 (He.ga K) ) ds n Q) : HasF P w K mg base 1 (He.ga K "is_said") ["value", "some"] [] sp :=
  has_f F.d_is_said sc_is_said (fun _ _ _ _ _ _ us hl => match us, hl with | [_, _], _ => rfl) (fun fd cdv A outer s H E hr => by
    have nd := sc_is_said.nd
    exact (dss_one (ds_ret (de_and (de_isi F.is_str rfl F.f_isinstance (de_var 0) (pe_tyN rfl F.f_str bt_str)) (de_one (de_cmp (op_inA (ru hr)) so_in (de_var 0) (de_var 1))))))) hs
abbrev N_pieces_of : List Str := ["text", "spots", "spot", "sign", "end"]
theorem sc_pieces_of : FnScope N_pieces_of ["text"] (defScope S_pieces_of) := ⟨rfl, rfl, rfl, by decide +kernel, rfl, by decide +kernel, by decide +kernel⟩
theorem ok_pieces_of (F : Fc K mg)   {sp : FD} (hs : ∀ ds n Q, sp ds n Q → dFn N_pieces_of.length 1 (b_pieces_of (He.ga K) ) ds n Q) : HasF P w K mg base 1 (He.ga K "pieces_of") ["text"] [] sp :=
  has_f F.d_pieces_of sc_pieces_of (fun _ _ _ _ _ _ us hl => match us, hl with | [_], _ => rfl) (fun fd cdv A outer s H E hr => by
    have nd := sc_pieces_of.nd
    exact (dss_cons (ds_setComp (ps_setComp (i := 1) rfl nd rfl rfl (sw_true rfl rfl rfl (by decide +kernel)) (di_enum rfl F.f_enumerate (de_var 0)) (blk (N := N_pieces_of) (sc := defScope S_pieces_of) (own := [("spot", 2), ("sign", 3)]) (by decide +kernel)) (by decide) (fun _ _ _ _ _ => (dg_tup rfl (gs_cons (dg_nm (i := 2) nd rfl (Or.inl rfl)) (gs_cons (dg_nm (i := 3) nd rfl (Or.inl rfl)) gs_nil)))) (fun _ _ _ _ _ => (dts_one (dt_cmp (op_inA (ru hr)) so_in (de_var 3) (de_gstr [97, 98, 99, 100, 101, 102, 103, 104, 105, 106, 107, 108, 109, 110, 111, 112, 113, 114, 115, 116, 117, 118, 119, 120, 121, 122] rfl F.s_LETTERS)))) (fun _ _ _ _ _ => (de_var 2))))
      (dss_one (ds_ret (de_own (do_comp rfl nd (di_zip rfl F.f_zip (de_var 1) (de_lst (da_star (de_sl (de_var 1) (dp_some de_int) dp_no) (da_cons (de_bi call_lenA so_len rfl F.f_len bt_len (da_cons (de_var 0) da_nil)) da_nil)))) (blk (N := N_pieces_of) (sc := defScope S_pieces_of) (own := [("spot", 2), ("end", 4)]) (by decide +kernel)) (by decide) (fun _ _ _ _ _ => (dg_tup rfl (gs_cons (dg_nm (i := 2) nd rfl (Or.inl rfl)) (gs_cons (dg_nm (i := 4) nd rfl (Or.inl rfl)) gs_nil)))) (fun _ _ _ _ _ => dts_nil) (fun _ _ _ _ _ => (de_tup (da_cons (de_ix (de_var 0) (de_var 2)) (da_cons (de_sl (de_var 0) (dp_some (de_op op_addA so_add (de_var 2) de_int)) (dp_some (de_var 4))) da_nil)))))))))) hs
abbrev N_block_in : List Str := ["piece", "letter", "behind", "often"]
theorem sc_block_in : FnScope N_block_in ["piece"] (defScope S_block_in) := ⟨rfl, rfl, rfl, by decide +kernel, rfl, by decide +kernel, by decide +kernel⟩
theorem ok_block_in (F : Fc K mg) {s_whole_in : FD} (G_whole_in : HasF P w K mg base 1 (He.ga K "whole_in") ["word"] [] s_whole_in) {sp : FD} (hs : ∀ ds n Q, sp ds n Q → dFn N_block_in.length 1 (b_block_in (He.ga K) s_whole_in) ds n Q) : HasF P w K mg base 2 (He.ga K "block_in") ["piece"] [] sp :=
  has_f F.d_block_in sc_block_in (fun _ _ _ _ _ _ us hl => match us, hl with | [_], _ => rfl) (fun fd cdv A outer s H E hr => by
    have nd := sc_block_in.nd
    exact (dss_cons (ds_asg (de_var 0) (dg_tup rfl (gs_cons (dg_nm (i := 1) nd rfl (Or.inl rfl)) (gs_cons (dg_nm (i := 2) nd rfl (Or.inl rfl)) gs_nil))))
      (dss_cons (ds_if (dt_cmp (op_eqA hr.units) so_eq (de_var 2) (de_str [])) (dss_one (ds_ret (de_tup (da_cons (de_var 1) (da_cons de_int da_nil))))) dss_nil)
      (dss_cons (ds_set (i := 3) nd rfl (Or.inl rfl) (de_callF G_whole_in (hr.mono (by decide)) rfl F.g_whole_in (da_cons (de_var 2) da_nil)))
      (dss_one (ds_ret (de_ite (dt_w (dw_and (dt_cmp op_notN so_isNot (de_var 3) de_non) (dw_and1 (dt_chain op_lt op_lt so_lt so_lt de_int (de_var 3) (de_gint rfl F.i_BEYOND))))) (de_tup (da_cons (de_var 1) (da_cons (de_var 3) da_nil))) de_non))))))) hs
abbrev N_blocks_told : List Str := ["text", "blocks", "piece", "one", "other"]
theorem sc_blocks_told : FnScope N_blocks_told ["text"] (defScope S_blocks_told) := ⟨rfl, rfl, rfl, by decide +kernel, rfl, by decide +kernel, by decide +kernel⟩
theorem ok_blocks_told (F : Fc K mg) {s_is_said : FD} {s_pieces_of : FD} {s_block_in : FD} (G_is_said : HasF P w K mg base 1 (He.ga K "is_said") ["value", "some"] [] s_is_said) (G_pieces_of : HasF P w K mg base 1 (He.ga K "pieces_of") ["text"] [] s_pieces_of) (G_block_in : HasF P w K mg base 2 (He.ga K "block_in") ["piece"] [] s_block_in) {sp : FD} (hs : ∀ ds n Q, sp ds n Q → dFn N_blocks_told.length 1 (b_blocks_told_v2 (He.ga K) s_is_said s_pieces_of s_block_in) ds n Q) : HasF P w K mg base 3 (He.ga K "blocks_told") ["text"] [] sp :=
  has_f F.d_blocks_told sc_blocks_told (fun _ _ _ _ _ _ us hl => match us, hl with | [_], _ => rfl) (fun fd cdv A outer s H E hr => by
    have nd := sc_blocks_told.nd
    exact (dss_cons (ds_if (dt_w (dw_or (dt_not (dt_val (de_isi F.is_str rfl F.f_isinstance (de_var 0) (pe_tyN rfl F.f_str bt_str)))) (dw_or1 (dt_not (dt_val (de_callF G_is_said (hr.mono (by decide)) rfl F.g_is_said (da_cons (de_sl (de_var 0) dp_no (dp_some de_int)) (da_cons (de_ty (call_listA rfl) so_list rfl F.f_list bt_list (da_cons (de_gstr [97, 98, 99, 100, 101, 102, 103, 104, 105, 106, 107, 108, 109, 110, 111, 112, 113, 114, 115, 116, 117, 118, 119, 120, 121, 122] rfl F.s_LETTERS) da_nil)) da_nil)))))))) (dss_one (ds_ret de_non)) dss_nil)
      (dss_cons (ds_set (i := 1) nd rfl (Or.inl rfl) (de_ty (call_tupA rfl) so_tuple rfl F.f_tuple bt_tuple (da_cons (de_own (do_comp rfl nd (di_val (de_callF G_pieces_of (hr.mono (by decide)) rfl F.g_pieces_of (da_cons (de_var 0) da_nil))) (blk (N := N_blocks_told) (sc := defScope S_blocks_told) (own := [("piece", 2)]) (by decide +kernel)) (by decide) (fun _ _ _ _ _ => (dg_nm (i := 2) nd rfl (Or.inl rfl))) (fun _ _ _ _ _ => dts_nil) (fun _ _ _ _ _ => (de_callF G_block_in (hr.mono (by decide)) rfl F.g_block_in (da_cons (de_var 2) da_nil))))) da_nil)))
      (dss_cons (ds_if (dt_w (dw_or (dt_cmp op_gt so_gt (de_bi call_lenA so_len rfl F.f_len bt_len (da_cons (de_var 1) da_nil)) (de_gint rfl F.i_MOST_BLOCKS_words)) (dw_or1 (dt_cmp (op_inA (ru hr)) so_in de_non (de_var 1))))) (dss_one (ds_ret de_non)) dss_nil)
      (dss_one (ds_ret (de_ite (dt_val (de_bi (cr_all rfl) so_all rfl F.f_all bt_all (da_cons (de_own (do_comp rfl nd (di_zip rfl F.f_zip (de_var 1) (de_sl (de_var 1) (dp_some de_int) dp_no)) (blk (N := N_blocks_told) (sc := defScope S_blocks_told) (own := [("one", 3), ("other", 4)]) (by decide +kernel)) (by decide) (fun _ _ _ _ _ => (dg_tup rfl (gs_cons (dg_nm (i := 3) nd rfl (Or.inl rfl)) (gs_cons (dg_nm (i := 4) nd rfl (Or.inl rfl)) gs_nil)))) (fun _ _ _ _ _ => dts_nil) (fun _ _ _ _ _ => (de_cmp (op_neA hr.units) so_ne (de_ix (de_var 3) de_int) (de_ix (de_var 4) de_int))))) da_nil))) (de_var 1) de_non))))))) hs
abbrev N_Word___init__ : List Str := ["self", "text", "blocks", "ends", "letter", "often"]
theorem sc_Word___init__ : FnScope N_Word___init__ ["self", "text"] (defScope S_Word___init__) := ⟨rfl, rfl, rfl, by decide +kernel, rfl, by decide +kernel, by decide +kernel⟩
theorem ok_Word___init__ (F : Fc K mg) {s_blocks_told : FD} (G_blocks_told : HasF P w K mg base 3 (He.ga K "blocks_told") ["text"] [] s_blocks_told) {sp : FI} (hs : ∀ ds n Q, sp ds n Q → dIni (He.ga K "Word") N_Word___init__.length 2 (b_Word___init__ (He.ga K) s_blocks_told) ds n Q) : HasI P w K mg base 4 (He.ga K "Word") ["self", "text"] [] sp :=
  has_init F.mk_Word F.d_Word___init__ sc_Word___init__ (fun _ _ _ _ _ _ us hl => match us, hl with | [_, _], _ => rfl) (fun fd cdv A outer s H E hr => by
    have nd := sc_Word___init__.nd
    exact (dss_cons (ds_set (i := 2) nd rfl (Or.inl rfl) (de_callF G_blocks_told (hr.mono (by decide)) rfl F.g_blocks_told (da_cons (de_var 1) da_nil)))
      (dss_cons (ds_if (dt_cmp op_isN so_is (de_var 2) de_non) (dss_one ds_never) dss_nil)
      (dss_cons (ds_fst F.c_Word F.n_Word_own_text (pv 0) (de_var 1))
      (dss_cons (ds_fst F.c_Word F.n_Word_own_blocks (pv 0) (de_var 2))
      (dss_cons (ds_setO (i := 3) nd rfl (Or.inl rfl) (do_lst (da_cons de_int da_nil)))
      (dss_cons (ds_for PassesOwn.never rfl (di_val (de_var 2)) (dg_tup rfl (gs_cons (dg_nm (i := 4) nd rfl (Or.inl rfl)) (gs_cons (dg_nm (i := 5) nd rfl (Or.inl rfl)) gs_nil))) (dss_one (ds_app (pv 3) (de_op op_addA so_add (de_ixO (pv 3) (de_neg de_int)) (de_var 5)))))
      (dss_frz [3] (dss_one (ds_fst F.c_Word F.n_Word_own_ends (pv 0) (de_ty (call_tupA rfl) so_tuple rfl F.f_tuple bt_tuple (da_cons (de_var 3) da_nil)))))))))))) hs
abbrev N_Grown_at : List Str := ["self", "number", "counts", "letter", "more", "times", "many"]
theorem sc_Grown_at : FnScope N_Grown_at ["self", "number"] (defScope S_Grown_at) := ⟨rfl, rfl, rfl, by decide +kernel, rfl, by decide +kernel, by decide +kernel⟩
theorem ok_Grown_at_x (F : Fc K mg) {s_is_integer : FD} {i_Word : FI} (G_is_integer : HasF P w K mg base 1 (He.ga K "is_integer") ["value", "low", "high"] [] s_is_integer) (G_E_BadNumber : HasE P w K mg base 1 (He.ga K "BadNumber")) (G_Word : HasI P w K mg base 4 (He.ga K "Word") ["self", "text"] [] i_Word) {sp : FDX} (hs : ∀ ds n P R, sp ds n P R → dFnX N_Grown_at.length 2 (b_Grown_at_x_v2 (He.ga K) s_is_integer i_Word) ds n P R) : HasMX P w K mg base 6 (He.ga K "Grown") "at" ["self", "number"] [] sp :=
  has_mx F.c_Grown F.m_Grown_at F.d_Grown_at sc_Grown_at (fun _ _ _ _ _ _ us hl => match us, hl with | [_, _], _ => rfl) (fun fd cdv A outer s H E hr => by
    have nd := sc_Grown_at.nd
    exact (dss_cons (ds_if (dt_not (dt_val (de_callF G_is_integer (hr.mono (by decide)) rfl F.g_is_integer (da_cons (de_var 1) (da_cons de_int (da_cons (de_gint rfl F.i_MOST_NUMBER) da_nil)))))) (dss_one (ds_raise G_E_BadNumber rfl (takes_of rfl rfl rfl rfl) (hr.mono (by decide)) rfl F.g_BadNumber (da_cons (de_var 1) da_nil))) dss_nil)
      (dss_cons (ds_setComp (ps_setComp (i := 2) rfl nd rfl rfl (sw_true rfl rfl rfl (by decide +kernel)) (di_val (de_fld F.c_Grown F.n_Grown_own_blocks (de_var 0))) (blk (N := N_Grown_at) (sc := defScope S_Grown_at) (own := [("letter", 3), ("more", 4), ("times", 5)]) (by decide +kernel)) (by decide) (fun _ _ _ _ _ => (dg_tup rfl (gs_cons (dg_nm (i := 3) nd rfl (Or.inl rfl)) (gs_cons (dg_nm (i := 4) nd rfl (Or.inl rfl)) (gs_cons (dg_nm (i := 5) nd rfl (Or.inl rfl)) gs_nil))))) (fun _ _ _ _ _ => dts_nil) (fun _ _ _ _ _ => (de_tup (da_cons (de_var 3) (da_cons (de_op op_addA so_add (de_var 4) (de_op op_mulA so_mul (de_var 5) (de_var 1))) da_nil))))))
      (dss_one (ds_ret (de_makeF G_Word (hr.mono (by decide)) rfl F.g_Word (da_cons (de_join (de_str []) (de_own (do_comp rfl nd (di_val (de_var 2)) (blk (N := N_Grown_at) (sc := defScope S_Grown_at) (own := [("letter", 3), ("many", 6)]) (by decide +kernel)) (by decide) (fun _ _ _ _ _ => (dg_tup rfl (gs_cons (dg_nm (i := 3) nd rfl (Or.inl rfl)) (gs_cons (dg_nm (i := 6) nd rfl (Or.inl rfl)) gs_nil)))) (fun _ _ _ _ _ => dts_nil) (fun _ _ _ _ _ => (de_op op_addA so_add (de_var 3) (de_ite (dt_cmp (op_eqA hr.units) so_eq (de_var 6) de_int) (de_str []) (de_ty call_strA so_str rfl F.f_str bt_str (da_cons (de_var 6) da_nil)))))))) da_nil))))))) hs
abbrev N__law_is_int : List Str := ["_law_value", "_law_low", "_law_high"]
theorem sc__law_is_int : FnScope N__law_is_int ["_law_value", "_law_low", "_law_high"] (defScope S__law_is_int) := ⟨rfl, rfl, rfl, by decide +kernel, rfl, by decide +kernel, by decide +kernel⟩
theorem ok__law_is_int (F : Fc K mg)   {sp : FD} (hs : ∀ ds n Q, sp ds n Q → dFn N__law_is_int.length 3 (b__law_is_int_v2 (He.ga K) ) ds n Q) : HasF P w K mg base 1 (He.ga K "_law_is_int") ["_law_value", "_law_low", "_law_high"] [] sp :=
  has_fD F.d__law_is_int sc__law_is_int 3 1 (by simp [Pd.PDef.dvs, D__law_is_int]) rfl (fun _ _ _ _ _ _ _ us its hl hi => match us, its, hl, hi with | [_, _, _], [_], _, _ => ⟨_, rfl, rfl⟩) (fun _ => .nil) (fun fd cdv A outer s H E hr => by
    have nd := sc__law_is_int.nd
    exact (dss_cons (ds_if (dt_w (dw_or (dt_not (dt_val (de_isi F.is_int rfl F.f_isinstance (de_var 0) (pe_tyN rfl F.f_int bt_int)))) (dw_or1 (dt_val (de_isi F.is_bool rfl F.f_isinstance (de_var 0) (pe_tyN rfl F.f_bool bt_bool)))))) (dss_one (ds_ret de_bl)) dss_nil)
      (dss_one (ds_ret (de_and (de_cmp op_le so_le (de_var 1) (de_var 0)) (de_one (de_or (de_cmp op_isN so_is (de_var 2) de_non) (de_one (de_cmp op_le so_le (de_var 0) (de_var 2)))))))))) hs
abbrev N__law_block_text : List Str := ["_law_blocks", "_law_letter", "_law_number"]
theorem sc__law_block_text : FnScope N__law_block_text ["_law_blocks"] (defScope S__law_block_text) := ⟨rfl, rfl, rfl, by decide +kernel, rfl, by decide +kernel, by decide +kernel⟩
theorem ok__law_block_text (F : Fc K mg)   {sp : FD} (hs : ∀ ds n Q, sp ds n Q → dFn N__law_block_text.length 1 (b__law_block_text (He.ga K) ) ds n Q) : HasF P w K mg base 1 (He.ga K "_law_block_text") ["_law_blocks"] [] sp :=
  has_f F.d__law_block_text sc__law_block_text (fun _ _ _ _ _ _ us hl => match us, hl with | [_], _ => rfl) (fun fd cdv A outer s H E hr => by
    have nd := sc__law_block_text.nd
    exact (dss_one (ds_ret (de_join (de_str []) (de_own (do_comp rfl nd (di_val (de_var 0)) (blk (N := N__law_block_text) (sc := defScope S__law_block_text) (own := [("_law_letter", 1), ("_law_number", 2)]) (by decide +kernel)) (by decide) (fun _ _ _ _ _ => (dg_tup rfl (gs_cons (dg_nm (i := 1) nd rfl (Or.inl rfl)) (gs_cons (dg_nm (i := 2) nd rfl (Or.inl rfl)) gs_nil)))) (fun _ _ _ _ _ => dts_nil) (fun _ _ _ _ _ => (de_op op_addA so_add (de_var 1) (de_ite (dt_cmp op_gt so_gt (de_var 2) de_int) (de_ty call_strA so_str rfl F.f_str bt_str (da_cons (de_var 2) da_nil)) (de_str [])))))))))) hs
abbrev N__law_grown_at : List Str := ["_law_blocks", "_law_number", "_law_letter", "_law_a", "_law_b"]
theorem sc__law_grown_at : FnScope N__law_grown_at ["_law_blocks", "_law_number"] (defScope S__law_grown_at) := ⟨rfl, rfl, rfl, by decide +kernel, rfl, by decide +kernel, by decide +kernel⟩
theorem ok__law_grown_at (F : Fc K mg) {s__law_block_text : FD} (G__law_block_text : HasF P w K mg base 1 (He.ga K "_law_block_text") ["_law_blocks"] [] s__law_block_text) {sp : FD} (hs : ∀ ds n Q, sp ds n Q → dFn N__law_grown_at.length 2 (b__law_grown_at (He.ga K) s__law_block_text) ds n Q) : HasF P w K mg base 2 (He.ga K "_law_grown_at") ["_law_blocks", "_law_number"] [] sp :=
  has_f F.d__law_grown_at sc__law_grown_at (fun _ _ _ _ _ _ us hl => match us, hl with | [_, _], _ => rfl) (fun fd cdv A outer s H E hr => by
    have nd := sc__law_grown_at.nd
    exact (dss_one (ds_ret (de_callF G__law_block_text (hr.mono (by decide)) rfl F.g__law_block_text (da_cons (de_own (do_comp rfl nd (di_val (de_var 0)) (blk (N := N__law_grown_at) (sc := defScope S__law_grown_at) (own := [("_law_letter", 2), ("_law_a", 3), ("_law_b", 4)]) (by decide +kernel)) (by decide) (fun _ _ _ _ _ => (dg_tup rfl (gs_cons (dg_nm (i := 2) nd rfl (Or.inl rfl)) (gs_cons (dg_nm (i := 3) nd rfl (Or.inl rfl)) (gs_cons (dg_nm (i := 4) nd rfl (Or.inl rfl)) gs_nil))))) (fun _ _ _ _ _ => dts_nil) (fun _ _ _ _ _ => (de_tup (da_cons (de_var 2) (da_cons (de_op op_addA so_add (de_var 3) (de_op op_mulA so_mul (de_var 4) (de_var 1))) da_nil)))))) da_nil))))) hs
abbrev N_Word_text : List Str := ["self"]
theorem sc_Word_text : FnScope N_Word_text ["self"] (defScope S_Word_text) := ⟨rfl, rfl, rfl, by decide +kernel, rfl, by decide +kernel, by decide +kernel⟩
theorem ok_Word_text (F : Fc K mg)   {sp : FD} (hs : ∀ ds n Q, sp ds n Q → dFn N_Word_text.length 1 (b_Word_text (He.ga K) ) ds n Q) : HasP P w K mg base 1 (He.ga K "Word") "text" ["self"] sp :=
  has_p F.c_Word F.p_Word_text F.d_Word_text sc_Word_text (fun _ _ _ _ _ _ us hl => match us, hl with | [_], _ => rfl) (fun fd cdv A outer s H E hr => by
    have nd := sc_Word_text.nd
    exact (dss_one (ds_ret (de_fld F.c_Word F.n_Word_own_text (de_var 0))))) hs
abbrev N_Word___eq__ : List Str := ["self", "other"]
theorem sc_Word___eq__ : FnScope N_Word___eq__ ["self", "other"] (defScope S_Word___eq__) := ⟨rfl, rfl, rfl, by decide +kernel, rfl, by decide +kernel, by decide +kernel⟩
theorem ok_Word___eq__ (F : Fc K mg) {s_Word_text : FD} (G_Word_text : HasP P w K mg base 1 (He.ga K "Word") "text" ["self"] s_Word_text) {sp : FD} (hs : ∀ ds n Q, sp ds n Q → dFn N_Word___eq__.length 2 (b_Word___eq___v2 (He.ga K) s_Word_text) ds n Q) : HasM P w K mg base 3 (He.ga K "Word") "__eq__" ["self", "other"] [] sp :=
  has_m F.c_Word F.m_Word___eq__ F.d_Word___eq__ sc_Word___eq__ (fun _ _ _ _ _ _ us hl => match us, hl with | [_, _], _ => rfl) (fun fd cdv A outer s H E hr => by
    have nd := sc_Word___eq__.nd
    exact (dss_one (ds_ret (de_and (de_isi F.is_Word rfl F.f_isinstance (de_var 1) (pe_clN rfl F.g_Word)) (de_one (de_cmp (op_eqA hr.units) so_eq (de_fld F.c_Word F.n_Word_own_text (de_var 0)) (de_propF G_Word_text (hr.mono (by decide)) (de_var 1)))))))) hs
abbrev N__law_heard : List Str := ["_law_look", "_law_caught", "_law_back", "error"]
theorem sc__law_heard : FnScope N__law_heard ["_law_look"] (defScope S__law_heard) := ⟨rfl, rfl, rfl, by decide +kernel, rfl, by decide +kernel, by decide +kernel⟩
theorem ok__law_heard (F : Fc K mg) : HearD K mg (He.ga K "_law_heard") "_law_heard" :=
  hear_fn F.d__law_heard rfl sc__law_heard (fun _ _ _ _ _ _ us hl => match us, hl with | [_], _ => rfl) rfl rfl rfl rfl rfl (by decide) (by decide) (fun env h => by cases env; cases h; rfl)
abbrev N__law_is_at_right : List Str := ["_law_grown", "_law_blocks", "_law_number", "_law_caught", "_law_back", "_law_text"]
theorem sc__law_is_at_right : FnScope N__law_is_at_right ["_law_grown", "_law_blocks", "_law_number"] (defScope S__law_is_at_right) := ⟨rfl, rfl, rfl, by decide +kernel, rfl, by decide +kernel, by decide +kernel⟩
theorem ok__law_is_at_right (F : Fc K mg) (TBs : TabBs K mg base) (T1 : ∀ p ∈ tabsK K, ∀ q ∈ tabsK K, p.1 = q.1 → p = q) {s_Grown_at_x : FDX} {s__law_is_int : FD} {s__law_grown_at : FD} {i_Word : FI} {s_Word___eq__ : FD} {s_Word_text : FD} (G_Grown_at_x : HasMX P w K mg base 6 (He.ga K "Grown") "at" ["self", "number"] [] s_Grown_at_x) (G__law_heard : HearD K mg (He.ga K "_law_heard") "_law_heard") (G__law_is_int : HasF P w K mg base 1 (He.ga K "_law_is_int") ["_law_value", "_law_low", "_law_high"] [] s__law_is_int) (G__law_grown_at : HasF P w K mg base 2 (He.ga K "_law_grown_at") ["_law_blocks", "_law_number"] [] s__law_grown_at) (G_Word : HasI P w K mg base 4 (He.ga K "Word") ["self", "text"] [] i_Word) (G_Word___eq__ : HasM P w K mg base 3 (He.ga K "Word") "__eq__" ["self", "other"] [] s_Word___eq__) (G_Word_text : HasP P w K mg base 1 (He.ga K "Word") "text" ["self"] s_Word_text) {sp : FD} (hs : ∀ ds n Q, sp ds n Q → dFn N__law_is_at_right.length 3 (b__law_is_at_right_v4 (He.ga K) s_Grown_at_x s__law_is_int s__law_grown_at i_Word s_Word___eq__ s_Word_text) ds n Q) : HasG P w K mg base 9 (He.ga K "_law_is_at_right") ["_law_grown", "_law_blocks", "_law_number"] [] sp :=
  has_gL TBs T1 F.d__law_is_at_right sc__law_is_at_right (fun _ _ _ _ _ _ us hl => match us, hl with | [_, _, _], _ => rfl) (fun fd cdv c Pt LA A outer s H E hr hgd => by
    have nd := sc__law_is_at_right.nd
    exact (dss_cons (ds_asg (de_hear (k := 6) G__law_heard LA rfl rfl (hr.mono (by decide)) rfl F.g__law_heard (fun C hC => by simp only [List.mem_cons, List.mem_nil_iff, or_false] at hC; subst hC; exact F.x_BadNumber.ex) F.g_CutError (LamX.lamS_by (sc := defScope S__law_is_at_right) (by decide +kernel)) rfl (fun _ _ _ _ _ => rfl) (fun A outer s H E f c' hr => (de_methR G_Grown_at_x (takes_of rfl rfl rfl rfl) (hr.mono (by decide)) (de_var 0) (da_cons (de_var 2) da_nil)))) (dg_tup rfl (gs_cons (dg_nm (i := 3) nd rfl (Or.inl rfl)) (gs_cons (dg_nm (i := 4) nd rfl (Or.inl rfl)) gs_nil))))
      (dss_cons (ds_if (dt_not (dt_val (de_callF G__law_is_int (hr.mono (by decide)) rfl F.g__law_is_int (da_cons (de_var 2) (da_cons de_int (da_cons (de_op op_powW so_pow de_int de_int) da_nil)))))) (dss_one (ds_ret (de_and (de_isi (isE_ok F.ib_BadNumber (fun C hC => by simp only [List.mem_cons, List.mem_nil_iff, or_false] at hC; subst hC; exact ⟨F.x_BadNumber.ei, F.ik_BadNumber_BadNumber⟩) (fun C hC => by cases hC)) rfl F.f_isinstance (de_var 3) (pe_clN rfl F.g_BadNumber)) (de_one (de_cmp (op_eqA hr.units) so_eq (de_bi (call_reprX F.sysd hgd hr.units) so_reprX rfl F.f_repr bt_repr (da_cons (de_errv (fun C hC => by simp only [List.mem_cons, List.mem_nil_iff, or_false] at hC; subst hC; exact F.x_BadNumber.ev) (de_var 3)) da_nil)) (de_bi (call_reprX F.sysd hgd hr.units) so_reprX rfl F.f_repr bt_repr (da_cons (de_var 2) da_nil))))))) dss_nil)
      (dss_cons (ds_set (i := 5) nd rfl (Or.inl rfl) (de_callF G__law_grown_at (hr.mono (by decide)) rfl F.g__law_grown_at (da_cons (de_var 1) (da_cons (de_var 2) da_nil))))
      (dss_one (ds_ret (de_and (de_cmp op_isN so_is (de_var 3) de_non) (de_and (de_ownEq G_Word___eq__ F.q_Word (hr.mono (by decide)) (de_var 4) (de_makeF G_Word (hr.mono (by decide)) rfl F.g_Word (da_cons (de_var 5) da_nil))) (de_one (de_cmp (op_eqA hr.units) so_eq (de_propF G_Word_text (hr.mono (by decide)) (de_var 4)) (de_var 5))))))))))) hs
theorem ok_Grown_at (F : Fc K mg) {s_is_integer : FD} {i_Word : FI} (G_is_integer : HasF P w K mg base 1 (He.ga K "is_integer") ["value", "low", "high"] [] s_is_integer) (G_Word : HasI P w K mg base 4 (He.ga K "Word") ["self", "text"] [] i_Word) {sp : FD} (hs : ∀ ds n Q, sp ds n Q → dFn N_Grown_at.length 2 (b_Grown_at_v2 (He.ga K) s_is_integer i_Word) ds n Q) : HasM P w K mg base 6 (He.ga K "Grown") "at" ["self", "number"] [] sp :=
  has_m F.c_Grown F.m_Grown_at F.d_Grown_at sc_Grown_at (fun _ _ _ _ _ _ us hl => match us, hl with | [_, _], _ => rfl) (fun fd cdv A outer s H E hr => by
    have nd := sc_Grown_at.nd
    exact (dss_cons (ds_if (dt_not (dt_val (de_callF G_is_integer (hr.mono (by decide)) rfl F.g_is_integer (da_cons (de_var 1) (da_cons de_int (da_cons (de_gint rfl F.i_MOST_NUMBER) da_nil)))))) (dss_one ds_never) dss_nil)
      (dss_cons (ds_setComp (ps_setComp (i := 2) rfl nd rfl rfl (sw_true rfl rfl rfl (by decide +kernel)) (di_val (de_fld F.c_Grown F.n_Grown_own_blocks (de_var 0))) (blk (N := N_Grown_at) (sc := defScope S_Grown_at) (own := [("letter", 3), ("more", 4), ("times", 5)]) (by decide +kernel)) (by decide) (fun _ _ _ _ _ => (dg_tup rfl (gs_cons (dg_nm (i := 3) nd rfl (Or.inl rfl)) (gs_cons (dg_nm (i := 4) nd rfl (Or.inl rfl)) (gs_cons (dg_nm (i := 5) nd rfl (Or.inl rfl)) gs_nil))))) (fun _ _ _ _ _ => dts_nil) (fun _ _ _ _ _ => (de_tup (da_cons (de_var 3) (da_cons (de_op op_addA so_add (de_var 4) (de_op op_mulA so_mul (de_var 5) (de_var 1))) da_nil))))))
      (dss_one (ds_ret (de_makeF G_Word (hr.mono (by decide)) rfl F.g_Word (da_cons (de_join (de_str []) (de_own (do_comp rfl nd (di_val (de_var 2)) (blk (N := N_Grown_at) (sc := defScope S_Grown_at) (own := [("letter", 3), ("many", 6)]) (by decide +kernel)) (by decide) (fun _ _ _ _ _ => (dg_tup rfl (gs_cons (dg_nm (i := 3) nd rfl (Or.inl rfl)) (gs_cons (dg_nm (i := 6) nd rfl (Or.inl rfl)) gs_nil)))) (fun _ _ _ _ _ => dts_nil) (fun _ _ _ _ _ => (de_op op_addA so_add (de_var 3) (de_ite (dt_cmp (op_eqA hr.units) so_eq (de_var 6) de_int) (de_str []) (de_ty call_strA so_str rfl F.f_str bt_str (da_cons (de_var 6) da_nil)))))))) da_nil))))))) hs
abbrev N_Grown___eq__ : List Str := ["self", "other"]
theorem sc_Grown___eq__ : FnScope N_Grown___eq__ ["self", "other"] (defScope S_Grown___eq__) := ⟨rfl, rfl, rfl, by decide +kernel, rfl, by decide +kernel, by decide +kernel⟩
theorem ok_Grown___eq__ (F : Fc K mg) {s_Grown_text : FD} (G_Grown_text : HasP P w K mg base 1 (He.ga K "Grown") "text" ["self"] s_Grown_text) {sp : FD} (hs : ∀ ds n Q, sp ds n Q → dFn N_Grown___eq__.length 2 (b_Grown___eq___v2 (He.ga K) s_Grown_text) ds n Q) : HasM P w K mg base 3 (He.ga K "Grown") "__eq__" ["self", "other"] [] sp :=
  has_m F.c_Grown F.m_Grown___eq__ F.d_Grown___eq__ sc_Grown___eq__ (fun _ _ _ _ _ _ us hl => match us, hl with | [_, _], _ => rfl) (fun fd cdv A outer s H E hr => by
    have nd := sc_Grown___eq__.nd
    exact (dss_one (ds_ret (de_and (de_isi F.is_Grown rfl F.f_isinstance (de_var 1) (pe_clN rfl F.g_Grown)) (de_one (de_cmp (op_eqA hr.units) so_eq (de_fld F.c_Grown F.n_Grown_own_text (de_var 0)) (de_propF G_Grown_text (hr.mono (by decide)) (de_var 1)))))))) hs
abbrev N__law_right : List Str := ["_law_pot_here", "_law_rows", "_law_blocks", "_law_made", "_law_grown", "_law_numbers", "_law_one", "_law_mine", "_law_other", "_law_its", "_law_lap", "_law_number", "_law_value"]
theorem sc__law_right : FnScope N__law_right ["_law_pot_here"] (defScope S__law_right) := ⟨rfl, rfl, rfl, by decide +kernel, rfl, by decide +kernel, by decide +kernel⟩
theorem ok__law_right (F : Fc K mg) {s__law_of : FD} {s__law_grown_blocks : FD} {s__law_grown_text : FD} {i_Grown : FI} {s_Grown_text : FD} {s_Grown_blocks : FD} {s__law_take : FD} {s__law_odd : FD} {s__law_is_at_right : FD} {s_Grown_at : FD} {s_Grown___eq__ : FD} (G__law_of : HasF P w K mg base 2 (He.ga K "_law_of") ["_law_pot_here", "_law_some"] [] s__law_of) (G__law_grown_blocks : HasF P w K mg base 3 (He.ga K "_law_grown_blocks") ["_law_pot_here", "_law_few", "_law_most", "_law_great"] [] s__law_grown_blocks) (G__law_grown_text : HasF P w K mg base 2 (He.ga K "_law_grown_text") ["_law_blocks"] [] s__law_grown_text) (G_Grown : HasI P w K mg base 5 (He.ga K "Grown") ["self", "text"] [] i_Grown) (G_Grown_text : HasP P w K mg base 1 (He.ga K "Grown") "text" ["self"] s_Grown_text) (G_Grown_blocks : HasP P w K mg base 1 (He.ga K "Grown") "blocks" ["self"] s_Grown_blocks) (G__law_take : HasF P w K mg base 1 (He.ga K "_law_take") ["_law_pot_here", "_law_upto"] [] s__law_take) (G__law_odd : HasF P w K mg base 3 (He.ga K "_law_odd") ["_law_pot_here"] [] s__law_odd) (G__law_is_at_right : HasG P w K mg base 9 (He.ga K "_law_is_at_right") ["_law_grown", "_law_blocks", "_law_number"] [] s__law_is_at_right) (G_Grown_at : HasM P w K mg base 6 (He.ga K "Grown") "at" ["self", "number"] [] s_Grown_at) (G_Grown___eq__ : HasM P w K mg base 3 (He.ga K "Grown") "__eq__" ["self", "other"] [] s_Grown___eq__) {sp : FD} (hs : ∀ ds n Q, sp ds n Q → dFn N__law_right.length 1 (b__law_right_v123 (He.ga K) s__law_of s__law_grown_blocks s__law_grown_text i_Grown s_Grown_text s_Grown_blocks s__law_take s__law_odd s__law_is_at_right s_Grown_at s_Grown___eq__) ds n Q) : HasG P w K mg base 10 (He.ga K "_law_right") ["_law_pot_here"] [] sp :=
  has_g F.d__law_right sc__law_right (fun _ _ _ _ _ _ us hl => match us, hl with | [_], _ => rfl) (fun fd cdv A outer s H E hr hgd => by
    have nd := sc__law_right.nd
    exact (dss_cons (ds_setComp (ps_setComp (i := 1) rfl nd rfl rfl (sw_true rfl rfl rfl (by decide +kernel)) (di_rg1 rfl F.f_range de_int) (blk (N := N__law_right) (sc := defScope S__law_right) (own := [("_law_lap", 10)]) (by decide +kernel)) (by decide) (fun _ _ _ _ _ => (dg_nm (i := 10) nd rfl (Or.inl rfl))) (fun _ _ _ _ _ => dts_nil) (fun _ _ _ _ _ => (de_callF G__law_grown_blocks (hr.mono (by decide)) rfl F.g__law_grown_blocks (da_cons (de_var 0) (da_cons de_int (da_cons (de_callF G__law_of (hr.mono (by decide)) rfl F.g__law_of (da_cons (de_var 0) (da_cons (de_lst (da_cons de_int (da_cons de_int (da_cons de_int da_nil)))) da_nil))) (da_cons de_int da_nil))))))))
      (dss_cons (ds_setComp (ps_setComp (i := 3) rfl nd rfl rfl (sw_true rfl rfl rfl (by decide +kernel)) (di_val (de_var 1)) (blk (N := N__law_right) (sc := defScope S__law_right) (own := [("_law_blocks", 2)]) (by decide +kernel)) (by decide) (fun _ _ _ _ _ => (dg_nm (i := 2) nd rfl (Or.inl rfl))) (fun _ _ _ _ _ => dts_nil) (fun _ _ _ _ _ => (de_makeF G_Grown (hr.mono (by decide)) rfl F.g_Grown (da_cons (de_callF G__law_grown_text (hr.mono (by decide)) rfl F.g__law_grown_text (da_cons (de_var 2) da_nil)) da_nil)))))
      (dss_cons (ds_for PassesOwn.never rfl (di_zip rfl F.f_zip (de_var 1) (de_var 3)) (dg_tup rfl (gs_cons (dg_nm (i := 2) nd rfl (Or.inr rfl)) (gs_cons (dg_nm (i := 4) nd rfl (Or.inr rfl)) gs_nil))) (dss_cons (ds_if (dt_w (dw_or (dt_cmp (op_neA hr.units) so_ne (de_propF G_Grown_text (hr.mono (by decide)) (de_var 4)) (de_callF G__law_grown_text (hr.mono (by decide)) rfl F.g__law_grown_text (da_cons (de_var 2) da_nil))) (dw_or1 (dt_cmp (op_neA hr.units) so_ne (de_propF G_Grown_blocks (hr.mono (by decide)) (de_var 4)) (de_ty (call_tupA rfl) so_tuple rfl F.f_tuple bt_tuple (da_cons (de_var 2) da_nil)))))) (dss_one (ds_ret de_bl)) dss_nil)
      (dss_cons (ds_set (i := 5) nd rfl (Or.inl rfl) (de_lst (da_cons de_int (da_cons de_int (da_cons (de_op op_powW so_pow de_int de_int) (da_cons (de_op op_addA so_add (de_op op_powW so_pow de_int de_int) de_int) (da_cons de_int (da_cons (de_neg de_int) (da_cons de_bl (da_cons de_non (da_cons (de_str [49]) (da_cons (de_tup (da_cons de_int da_nil)) (da_cons (de_op op_addA so_add de_int (de_callF G__law_take (hr.mono (by decide)) rfl F.g__law_take (da_cons (de_var 0) (da_cons de_int da_nil)))) (da_cons (de_callF G__law_odd (hr.mono (by decide)) rfl F.g__law_odd (da_cons (de_var 0) da_nil)) da_nil))))))))))))))
      (dss_cons (ds_if (dt_not (dt_val (de_bi (cr_all rfl) so_all rfl F.f_all bt_all (da_cons (de_own (do_comp rfl nd (di_val (de_var 5)) (blk (N := N__law_right) (sc := defScope S__law_right) (own := [("_law_number", 11)]) (by decide +kernel)) (by decide) (fun _ _ _ _ _ => (dg_nm (i := 11) nd rfl (Or.inl rfl))) (fun _ _ _ _ _ => dts_nil) (fun _ _ _ _ _ => (de_callHG G__law_is_at_right (hr.mono (by decide)) hgd rfl F.g__law_is_at_right (da_cons (de_var 4) (da_cons (de_var 2) (da_cons (de_var 11) da_nil))))))) da_nil)))) (dss_one (ds_ret de_bl)) dss_nil)
      (dss_one (ds_if (dt_val (de_bi (cr_any rfl) so_any rfl F.f_any bt_any (da_cons (de_own (do_comp rfl nd (di_val (de_tup (da_cons de_non (da_cons (de_propF G_Grown_text (hr.mono (by decide)) (de_var 4)) (da_cons (de_propF G_Grown_blocks (hr.mono (by decide)) (de_var 4)) (da_cons (de_methF G_Grown_at (hr.mono (by decide)) (de_var 4) (da_cons de_int da_nil)) (da_cons de_int (da_cons (de_callF G__law_odd (hr.mono (by decide)) rfl F.g__law_odd (da_cons (de_var 0) da_nil)) da_nil)))))))) (blk (N := N__law_right) (sc := defScope S__law_right) (own := [("_law_value", 12)]) (by decide +kernel)) (by decide) (fun _ _ _ _ _ => (dg_nm (i := 12) nd rfl (Or.inl rfl))) (fun _ _ _ _ _ => dts_nil) (fun _ _ _ _ _ => (de_ownA G_Grown___eq__ F.is_Grown (hr.mono (by decide)) (de_var 4) (de_var 12))))) da_nil))) (dss_one (ds_ret de_bl)) dss_nil))))))
      (dss_cons (ds_for PassesOwn.never rfl (di_zip rfl F.f_zip (de_var 1) (de_var 3)) (dg_tup rfl (gs_cons (dg_nm (i := 6) nd rfl (Or.inl rfl)) (gs_cons (dg_nm (i := 7) nd rfl (Or.inl rfl)) gs_nil))) (dss_one (ds_for PassesOwn.never rfl (di_zip rfl F.f_zip (de_var 1) (de_var 3)) (dg_tup rfl (gs_cons (dg_nm (i := 8) nd rfl (Or.inl rfl)) (gs_cons (dg_nm (i := 9) nd rfl (Or.inl rfl)) gs_nil))) (dss_one (ds_if (dt_w (dw_or (dt_cmp (op_neA hr.units) so_ne (de_ownEq G_Grown___eq__ F.q_Grown (hr.mono (by decide)) (de_var 7) (de_var 9)) (de_cmp (op_eqA hr.units) so_eq (de_var 6) (de_var 8))) (dw_or1 (dt_cmp (op_neA hr.units) so_ne (de_ownNe G_Grown___eq__ F.q_Grown (hr.mono (by decide)) (de_var 7) (de_var 9)) (de_cmp (op_neA hr.units) so_ne (de_var 6) (de_var 8)))))) (dss_one (ds_ret de_bl)) dss_nil)))))
      (dss_one (ds_ret (de_ownEq G_Grown___eq__ F.q_Grown (hr.mono (by decide)) (de_ix (de_var 3) de_int) (de_makeF G_Grown (hr.mono (by decide)) rfl F.g_Grown (da_cons (de_callF G__law_grown_text (hr.mono (by decide)) rfl F.g__law_grown_text (da_cons (de_ix (de_var 1) de_int) da_nil)) da_nil)))))))))) hs
abbrev N_law : List Str := ["_law_script", "_law_place", "_law_pot_here", "_law_lap"]
theorem sc_law : FnScope N_law ["_law_script"] (defScope S_law) := ⟨rfl, rfl, rfl, by decide +kernel, rfl, by decide +kernel, by decide +kernel⟩
theorem ok_law (F : Fc K mg) {s__law_cells : FD} {s__law_pot : FD} {s__law_right : FD} (G__law_cells : HasF P w K mg base 1 (He.ga K "_law_cells") ["_law_script", "_law_limit"] [] s__law_cells) (G__law_pot : HasF P w K mg base 1 (He.ga K "_law_pot") ["_law_script", "_law_place"] [] s__law_pot) (G__law_right : HasG P w K mg base 10 (He.ga K "_law_right") ["_law_pot_here"] [] s__law_right) {sp : FD} (hs : ∀ ds n Q, sp ds n Q → dFn N_law.length 1 (b_law_v13 (He.ga K) s__law_cells s__law_pot s__law_right) ds n Q) : HasG P w K mg base 11 (He.ga K "law") ["_law_script"] [] sp :=
  has_g F.d_law sc_law (fun _ _ _ _ _ _ us hl => match us, hl with | [_], _ => rfl) (fun fd cdv A outer s H E hr hgd => by
    have nd := sc_law.nd
    exact (dss_cons (ds_for PassesOwn.never rfl (di_val (de_callF G__law_cells (hr.mono (by decide)) rfl F.g__law_cells (da_cons (de_var 0) (da_cons de_int da_nil)))) (dg_nm (i := 1) nd rfl (Or.inl rfl)) (dss_cons (ds_set (i := 2) nd rfl (Or.inr rfl) (de_callF G__law_pot (hr.mono (by decide)) rfl F.g__law_pot (da_cons (de_var 0) (da_cons (de_var 1) da_nil))))
      (dss_one (ds_if (dt_not (dt_val (de_bi (cr_all rfl) so_all rfl F.f_all bt_all (da_cons (de_own (do_comp rfl nd (di_rg1 rfl F.f_range de_int) (blk (N := N_law) (sc := defScope S_law) (own := [("_law_lap", 3)]) (by decide +kernel)) (by decide) (fun _ _ _ _ _ => (dg_nm (i := 3) nd rfl (Or.inl rfl))) (fun _ _ _ _ _ => dts_nil) (fun _ _ _ _ _ => (de_callHG G__law_right (hr.mono (by decide)) hgd rfl F.g__law_right (da_cons (de_var 2) da_nil))))) da_nil)))) (dss_one (ds_ret de_bl)) dss_nil))))
      (dss_one (ds_ret de_bl)))) hs
end
end LW
namespace LW
open PySem L2 Pd
theorem chain {P : Program} {w : World} {K : PySem.W.Frag} {mg : Str → Option Value} {base : Heap} (F : Fc K mg) (TBs : TabBs K mg base) (T1 : ∀ p ∈ tabsK K, ∀ q ∈ tabsK K, p.1 = q.1 → p = q) (hf : ((P.main.file : Str) == ("/claim/cut.py" : Str)) = true) (ht : (P.main.scope.names.lookup ("super" : Str)).isSome = false) : HasG P w K mg base 11 (He.ga K "law") ["_law_script"] [] (s_law2) := by
  obtain ⟨fdS, FS, BS⟩ := sup_has (P := P) (w := w) (base := base) F hf ht
  have G_E_BadNumber := HasE.of FS BS F.x_BadNumber
  have G__law_cells := ok__law_cells (P := P) (w := w) (base := base) F  (l_cells (He.ga K))
  have G__law_pot := ok__law_pot (P := P) (w := w) (base := base) F  (l_pot (He.ga K))
  have G__law_take := ok__law_take (P := P) (w := w) (base := base) F
  have G__law_of := ok__law_of (P := P) (w := w) (base := base) F G__law_take (l_of (He.ga K))
  have G__law_grown_blocks := ok__law_grown_blocks (P := P) (w := w) (base := base) F G__law_take G__law_of (l_grown_blocks (He.ga K))
  have G__law_form_text := ok__law_form_text (P := P) (w := w) (base := base) F  (l_form_text (He.ga K))
  have G__law_grown_text := ok__law_grown_text (P := P) (w := w) (base := base) F G__law_form_text (l_grown_text (He.ga K))
  have G_whole_in := ok_whole_in (P := P) (w := w) (base := base) F  (l_whole_in (He.ga K))
  have G_number_in := ok_number_in (P := P) (w := w) (base := base) F G_whole_in (l_number_in (He.ga K))
  have G_form_in := ok_form_in (P := P) (w := w) (base := base) F G_number_in (l_form_in (He.ga K))
  have G_blocks_in := ok_blocks_in (P := P) (w := w) (base := base) F G_form_in (l_blocks_in (He.ga K))
  have G_Grown := ok_Grown___init__ (P := P) (w := w) (base := base) F G_blocks_in (l_grown_init (He.ga K))
  have G_Grown_text := ok_Grown_text (P := P) (w := w) (base := base) F  (l_Grown_text (He.ga K))
  have G_Grown_blocks := ok_Grown_blocks (P := P) (w := w) (base := base) F  (l_Grown_blocks (He.ga K))
  have G__law_odd := ok__law_odd (P := P) (w := w) (base := base) F G__law_of (l_odd (He.ga K))
  have G_is_integer := ok_is_integer (P := P) (w := w) (base := base) F  (l_intG2 (He.ga K))
  have G_is_said := ok_is_said (P := P) (w := w) (base := base) F  (l_is_said45 (He.ga K))
  have G_pieces_of := ok_pieces_of (P := P) (w := w) (base := base) F  (l_pieces_of (He.ga K))
  have G_block_in := ok_block_in (P := P) (w := w) (base := base) F G_whole_in (l_block_in (He.ga K))
  have G_blocks_told := ok_blocks_told (P := P) (w := w) (base := base) F G_is_said G_pieces_of G_block_in (l_blocks_told45 (He.ga K))
  have G_Word := ok_Word___init__ (P := P) (w := w) (base := base) F G_blocks_told (l_word_init (He.ga K))
  have G_Grown_at_x := ok_Grown_at_x (P := P) (w := w) (base := base) F G_is_integer G_E_BadNumber G_Word (l_GrownAtX (He.ga K))
  have G__law_is_int := ok__law_is_int (P := P) (w := w) (base := base) F  (l_lawIntG2 (He.ga K))
  have G__law_block_text := ok__law_block_text (P := P) (w := w) (base := base) F  (l_block_text (He.ga K))
  have G__law_grown_at := ok__law_grown_at (P := P) (w := w) (base := base) F G__law_block_text (l_grown_at (He.ga K))
  have G_Word_text := ok_Word_text (P := P) (w := w) (base := base) F  (l_Word_text (He.ga K))
  have G_Word___eq__ := ok_Word___eq__ (P := P) (w := w) (base := base) F G_Word_text (l_Word_eq45 (He.ga K))
  have G__law_heard := ok__law_heard F
  have G__law_is_at_right := ok__law_is_at_right (P := P) (w := w) (base := base) F TBs T1 G_Grown_at_x G__law_heard G__law_is_int G__law_grown_at G_Word G_Word___eq__ G_Word_text (l_atRight (He.ga K))
  have G_Grown_at := ok_Grown_at (P := P) (w := w) (base := base) F G_is_integer G_Word (l_GrownAt (He.ga K))
  have G_Grown___eq__ := ok_Grown___eq__ (P := P) (w := w) (base := base) F G_Grown_text (l_Grown_eq (He.ga K))
  have G__law_right := ok__law_right (P := P) (w := w) (base := base) F G__law_of G__law_grown_blocks G__law_grown_text G_Grown G_Grown_text G_Grown_blocks G__law_take G__law_odd G__law_is_at_right G_Grown_at G_Grown___eq__ (l_right45 (He.ga K) F.ne_WG)
  have G_law := ok_law (P := P) (w := w) (base := base) F G__law_cells G__law_pot G__law_right (l_law_v13 (He.ga K) (r_right45 (He.ga K)) (by decide))
  exact G_law
end LW
open PySem PySem.W PySem.Calls PyProof.Rows
theorem PySem.Challenge.cw_showncut_k45_growing_words_as_they_are_t_holds : PySem.Challenge.rw_showncut_k45_growing_words_as_they_are_t.Holds := by
  refine LW.early (Pd.law_walkG (n := 63) (k := 11) (x := "_law_script") rfl (by decide) rfl ⟨rfl, by decide +kernel, by decide +kernel⟩ ?_)
  intro w mg fa h hY hN hmg
  obtain ⟨K, KX, hS, TA⟩ := hY
  have F := LW.fc_of KX hN hS
  have hfa : fa = He.ga K "law" := by
    have h1 := F.g_law
    have h2 : mg "law" = some (.ref fa) := hmg
    rw [h1] at h2
    injection h2 with h2
    injection h2 with h2
    exact h2.symm
  subst hfa
  exact ⟨K, LW.s_law2, KX, TA, fun ns _ => ⟨ns, rfl, rfl, fun _ => rfl⟩, fun base hb hn TB => LW.chain F TB TA.one (by rfl) (by decide +kernel)⟩
