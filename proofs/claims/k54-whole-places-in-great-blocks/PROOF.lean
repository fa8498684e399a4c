import PyProof.Rows.All
import Wide.All
import OpenK.AllK
import KE.KNestM
import HandS.Head2
import HandS.HeadHook1
import HandS.HeadHook2
import HandS.HeadHook3
import HandS.HeadHook4
import HandS.Property
import HandS.Words
import HandS.Exc
import KE.KSuper
import KE.KTryMore
import Wide.FinOn
import HandS.ForMost
import HandS.Wide
import HandS.TupAny
import HandS.TupMul
import HandS.Style
import HandS.Walk
import HandS.Zip
import HandS.Conv
import HandS.Defaults
import HandS.Flow
import HandS.ExcInit
import HandS.Lambda
import PyProof.StrOps2
import HandS.NoneIn
import PyProof.ReprRoads
import HandS.Deep
import HandS.IsInst
import KE.KExcIs
import HandS.Codes
import HandS.RaiseMore
import PyProof.ListStr
import PyProof.TupleOfStr
import KE.GoesNew
import HandS.Star
import HandS.Head0
import HandS.Head1
import HandS.HeadEnd
import HandS.WordsExc
import HandS.Iter
import HandS.Strs
import HandS.SetFor
import HandS.SortInts
import KE.SortData
import KE.DataCmp
import KE.DataMinMax
import HandS.OwnEq
import HandS.Replace
import HandS.Nested
import HandS.ExcField
import HandS.ExcIs
import KE.KExcSuper
import HandS.ExcValue
import PyProof.Rows.SortShellAny
import HandS.Text
import PyProof.Rows.StrSplitMax
import PyProof.NeKinds
import HandS.MakeKwOnly
import HandS.ListItems
import HandS.Small
import HandS.ReplaceLit
import PyProof.StrLawsReplace
import KE.KIntText
import KE.KStrOpen
import PySem.Challenge.RW_showncut_k54_whole_places_in_great_block
set_option Elab.async false
set_option linter.all false
set_option maxRecDepth 100000
set_option maxHeartbeats 0
set_option autoImplicit false
namespace Pd
open PySem
def tabOf (o : Obj) : Option (Addr × Str) := match o.cls, o.data with
  | .type "code", .fields vs => match (vs[11]? : Option Value), (vs[1]? : Option Value) with
    | some (.ref P), some (.str q _) => some (P, q ++ ".<locals>." ++ "<lambda>")
    | _, _ => none
  | _, _ => none
def tabsK (K : PySem.W.Frag) : List (Addr × Str) := K.filterMap fun p => if (tabOf p.2).isSome then (K.lookup p.1).bind tabOf else none
def isTab0 (o : Obj) : Bool := match o.cls, o.dict, o.data with
  | .none, none, .fields vs => vs.isEmpty && o.slots.isEmpty
  | _, _, _ => false
def noTab (g : Addr → Option Obj) : Addr → Option Obj := fun a => match g a with
  | some o => if isTab0 o then none else some o
  | none => none
def nodupB : List Addr → Bool
  | [] => true
  | a :: r => !r.contains a && nodupB r
def tabsB (g : Addr → Option Obj) (K : PySem.W.Frag) : Bool :=
  ((tabsK K).all fun p => (match g p.1 with
    | some o => isTab0 o
    | none => false) && (K.lookup p.1).isNone) && (nodupB ((tabsK K).map (·.1)) && K.all fun p => match tabOf p.2 with
    | some q => PySem.W.codeHdIn K p.1 q.1
    | none => true)
structure TabAt (h : Heap) (K : PySem.W.Frag) : Prop where
  obj : ∀ p ∈ tabsK K, h.get? p.1 = some { cls := .none, data := .fields #[] }
  out : ∀ p ∈ tabsK K, K.lookup p.1 = none
  one : ∀ p ∈ tabsK K, ∀ q ∈ tabsK K, p.1 = q.1 → p = q
  code : ∀ (c P : Addr) (q : Str) (o : Obj), K.lookup c = some o → tabOf o = some (P, q) → PySem.W.codeHdIn K c P = true
theorem TabAt.keeps {h h' : Heap} {K : PySem.W.Frag} (t : TabAt h K) (k : ∀ b o, h.get? b = some o → h'.get? b = some o) : TabAt h' K := ⟨fun p hp => k _ _ (t.obj p hp), t.out, t.one, t.code⟩
theorem isTab0_eq {o : Obj} (h : isTab0 o = true) : o = { cls := .none, data := .fields #[] } := by
  obtain ⟨c, d, dt, sl⟩ := o
  unfold isTab0 at h
  split at h
  · rename_i vs h1 h2 h3
    dsimp only at h1 h2 h3
    subst h1 h2 h3
    rw [Bool.and_eq_true] at h
    have e1 : vs = #[] := by simpa using h.1
    have e2 : sl = #[] := by simpa using h.2
    rw [e1, e2]
  · cases h
theorem nodupB_ok : ∀ {l : List Addr}, nodupB l = true → l.Nodup
  | [], _ => .nil
  | a :: r, h => by
    unfold nodupB at h
    rw [Bool.and_eq_true, Bool.not_eq_true'] at h
    exact List.nodup_cons.mpr ⟨by simpa using h.1, nodupB_ok h.2⟩
theorem nodup_one {α : Type} {f : α → Addr} : ∀ {l : List α}, (l.map f).Nodup → ∀ p ∈ l, ∀ q ∈ l, f p = f q → p = q
  | [], _, p, hp, _, _, _ => by cases hp
  | a :: r, nd, p, hp, q, hq, e => by
    rw [List.map_cons, List.nodup_cons] at nd
    rcases List.mem_cons.mp hp with h1 | h1
    · rcases List.mem_cons.mp hq with h2 | h2
      · rw [h1, h2]
      · exact absurd (show f a ∈ r.map f from List.mem_map.mpr ⟨q, h2, by rw [← e, h1]⟩) nd.1
    · rcases List.mem_cons.mp hq with h2 | h2
      · exact absurd (show f a ∈ r.map f from List.mem_map.mpr ⟨p, h1, by rw [e, h2]⟩) nd.1
      · exact nodup_one nd.2 p h1 q h2 e
theorem look_mem : ∀ {K : PySem.W.Frag} {c : Addr} {o : Obj}, K.lookup c = some o → (c, o) ∈ K
  | [], _, _, h => by cases h
  | (b, u) :: r, c, o, h => by
    rw [List.lookup_cons] at h
    cases e : c == b with
    | true =>
      rw [e] at h
      cases h
      rw [beq_iff_eq.mp e]
      exact List.mem_cons_self
    | false =>
      rw [e] at h
      exact List.mem_cons_of_mem _ (look_mem h)
theorem tabs_mem {K : PySem.W.Frag} {c P : Addr} {q : Str} {o : Obj} (h : K.lookup c = some o) (t : tabOf o = some (P, q)) : (P, q) ∈ tabsK K := List.mem_filterMap.mpr ⟨(c, o), look_mem h, by
  dsimp only
  rw [h, t]
  exact t⟩
theorem tabs_of {K : PySem.W.Frag} {p : Addr × Str} (h : p ∈ tabsK K) : ∃ c o, K.lookup c = some o ∧ tabOf o = some p := by
  obtain ⟨q, hq, e⟩ := List.mem_filterMap.mp h
  split at e
  · cases z : K.lookup q.1 with
    | none => rw [z] at e; cases e
    | some o =>
      rw [z] at e
      exact ⟨q.1, o, z, e⟩
  · cases e
theorem tabsB_ok {h : Heap} {K : PySem.W.Frag} (e : tabsB h.get? K = true) : TabAt h K := by
  unfold tabsB at e
  rw [Bool.and_eq_true, Bool.and_eq_true, List.all_eq_true, List.all_eq_true] at e
  obtain ⟨e1, e2, e3⟩ := e
  refine ⟨fun p hp => ?_, fun p hp => ?_, nodup_one (nodupB_ok e2), fun c P q o hl ht => ?_⟩
  · have z := e1 p hp
    rw [Bool.and_eq_true] at z
    have z := z.1
    split at z
    · rename_i o ho
      rw [ho, isTab0_eq z]
    · cases z
  · have z := e1 p hp
    rw [Bool.and_eq_true] at z
    simpa using z.2
  · have z := e3 (c, o) (look_mem hl)
    dsimp only at z
    rw [ht] at z
    exact z
end Pd
namespace Pd
open PySem PyProof.Rows L2
structure PDef where
  loc : PySem.W.Frag → Addr
  name : Str
  qual : Str
  params : Arguments
  body : List Stmt
  scope : Scope
  dfl : List He.Dv := []
  clo : List Str := []
abbrev PSg : Type := Option (Str × Str × Arguments × FuncBody × Scope × Addr × List Str × Addr)
def psg (K : PySem.W.Frag) (a : Addr) : PSg := match K.lookup a with
  | some ⟨_, _, .func q, _⟩ => some (q.name, q.qualname, q.params, q.body, q.scope, q.globals, q.closure.map (·.1), q.builtins)
  | _ => none
def PDef.said (d : PDef) : PSg := some (d.name, d.qual, d.params, .stmts d.body, d.scope, mainGlobals, d.clo, builtinsNs)
def PDef.dvs (K : PySem.W.Frag) (d : PDef) : List V := d.dfl.map (He.Dv.v K)
def PDef.good (K : PySem.W.Frag) (d : PDef) : Bool := PySem.W.keepIn K (.ref (d.loc K)) && (match K.lookup (d.loc K) with
  | some ⟨_, _, .func q, _⟩ => PySem.W.codeIn K q.code d.qual && (He.dflB K q.defaults (d.dvs K) && (He.kwdB K q.kwdefaults [] && (match q.code with
    | .ref c => (match K.lookup c with
      | some o => (tabOf o).isSome
      | none => false)
    | _ => false)))
  | _ => false)
inductive Fx where
  | old (f : He.Fa)
  | prop (C f : Str)
  | ins (C : Str)
  | isi (t : Value) (c : Str ⊕ String) (b : Bool)
  | isiC (C : Str) (c : Str ⊕ String) (b : Bool)
  | begin (x : Str)
  | eqn (C : Str)
  | exc (C : Str)
  | sup (file : Str)
  | sysd
  | errs (D : Str) (Cs : List Str)
def oexB (K : PySem.W.Frag) (C : Addr) : Bool := match K.lookup C with
  | some ⟨.type "type", _, .cls cd, sl⟩ => (match cd.mro, sl.toList with
    | .ref C' :: bm, [_, _, _, _, some (.builtin n), _] => C' == C && (n == "ValueError.__new__" && (!cd.hasDel && (cd.hasDict && PySem.HandSPX.refsVE bm)))
    | _, _ => false)
  | _ => false
def excB (K : PySem.W.Frag) (D fI C : Addr) : Bool :=
  oexB K C && (decide (PySem.W.findIn K (.ref C) "__setattr__" = some (some (.builtin "object.__setattr__"))) && (decide (PySem.W.subIn K (.ref C) (.type "BaseException") = some true) && (decide (PySem.W.typeIn K (.ref C) = some (.type "type")) && (PySem.W.keepIn K (.ref C) &&
  (decide (PySem.W.mroIn K C (.ref D) = some true) && (decide (PySem.W.ks_superIn K C D "__init__" = some (some (.builtin "ValueError.__init__"))) && (decide (PySem.W.subIn K (.ref C) (.type "ValueError") = some true) && (decide (PySem.W.findIn K (.ref C) "value" = some none) &&
  (decide (PySem.W.findIn K (.ref C) "__init__" = some (some (.ref fI))) && (decide (PySem.W.typeIn K (.ref fI) = some (.type "function")) && (decide (PySem.W.exmOne K (.ref C) (.ref D) = some true) &&
  (decide (PySem.W.findIn K (.ref C) "__getattribute__" = some (some (.builtin "BaseException.__getattribute__"))) && (decide (PySem.W.findIn K (.ref C) "__getattr__" = some none) && (PySem.W.hasDictIn K C && ((PySem.W.clsIn K C).isSome &&
  (decide (PySem.W.findIn K (.ref C) "__class__" = some (some (.builtin "object.__class__"))) && (decide (PySem.W.specialIn K (.builtin "object.__class__") "__get__" = some (some (.builtin "getset_descriptor.__get__"))) && (decide (PySem.W.takesIn K (.builtin "object.__class__") = some true) && decide (PySem.W.mroIn K C (.type "object") = some true)))))))))))))))))))
def supB (K : PySem.W.Frag) (D fI : Addr) (file : Str) : Bool := (match K.lookup fI with
  | some ⟨_, _, .func q, _⟩ => (match q.closure, q.code with
    | [(x, cc)], .ref cda => (x == ("__class__" : Str)) && (PySem.W.codeIn K (.ref cda) "CutError.__init__" && ((match K.lookup cda with
      | some ⟨_, _, .fields vs, _⟩ => (match (vs[2]? : Option Value) with
        | some (.str f _) => f == file
        | _ => false)
      | _ => false) && (match K.lookup cc with
      | some ⟨_, _, .cell (some (.ref D')), _⟩ => D' == D
      | _ => false)))
    | _, _ => false)
  | _ => false) && ((PySem.W.clsIn K D).isSome && decide (PySem.W.nsIn K cStatics "thirdparty.any" = some none))
def propAt (K : PySem.W.Frag) (C f : Str) : Addr := match PySem.W.findIn K (.ref (He.ga K C)) f with
  | some (some (.ref p)) => p
  | _ => 0
def getterAt (C f : Str) (K : PySem.W.Frag) : Addr := match PySem.W.recIn K (propAt K C f) "property" with
  | some (.ref g :: _) => g
  | _ => 0
def globAt (x : Str) (K : PySem.W.Frag) : Addr := He.ga K x
def methAt (C m : Str) (K : PySem.W.Frag) : Addr := He.ma K (He.ga K C) m
def clsOf (K : PySem.W.Frag) : Str ⊕ String → Value
  | .inl C => .ref (He.ga K C)
  | .inr T => .type T
def Fx.ok (K : PySem.W.Frag) : Fx → Bool
  | .old f => f.ok K
  | .prop C f => decide (PySem.W.findIn K (.ref (He.ga K C)) f = some (some (.ref (propAt K C f)))) && (decide (PySem.W.specialIn K (.ref (propAt K C f)) "__get__" = some (some (.builtin "property.__get__"))) &&
      (decide (PySem.W.takesIn K (.ref (propAt K C f)) = some true) && (match PySem.W.recIn K (propAt K C f) "property" with
        | some (.ref _ :: _) => true
        | _ => false)))
  | .ins C => decide (PySem.W.findIn K (.ref (He.ga K C)) "__class__" = some (some (.builtin "object.__class__"))) && (decide (PySem.W.specialIn K (.builtin "object.__class__") "__get__" = some (some (.builtin "getset_descriptor.__get__"))) &&
      (decide (PySem.W.takesIn K (.builtin "object.__class__") = some true) && decide (PySem.W.mroIn K (He.ga K C) (.type "object") = some true)))
  | .isi t c b => decide (PySem.W.kitOne K t (clsOf K c) = some b)
  | .isiC C c b => decide (PySem.W.kitOne K (.ref (He.ga K C)) (clsOf K c) = some b)
  | .begin x => decide (PySem.W.nsIn K PySem.mainGlobals x = some (some (.ref (He.ga K x)))) && (match K.lookup (He.ga K x) with
    | some ⟨.type n, _, .seq ⟨[.ref b, .int i _, .int j _, .int k _]⟩ _, _⟩ => (decide (n = "tuple") && decide (i = 0)) && ((decide (j = 0) && decide (k = 0)) && (match K.lookup b with
      | some ⟨.type m, _, .seq ⟨[]⟩ _, _⟩ => decide (m = "tuple")
      | _ => false))
    | _ => false)
  | .exc C => excB K (He.ga K "CutError") (He.ma K (He.ga K "CutError") "__init__") (He.ga K C)
  | .sup file => supB K (He.ga K "CutError") (He.ma K (He.ga K "CutError") "__init__") file
  | .sysd => (match K.lookup sysModules with
    | some ⟨.type n, _, _, _⟩ => decide (n = "dict")
    | _ => false)
  | .errs D Cs => (D :: Cs).all fun A => (decide (PySem.W.kitOne K (.ref (He.ga K A)) (.ref (He.ga K D)) = some true) && decide (PySem.W.kitOne K (.ref (He.ga K A)) (.type "ValueError") = some true)) &&
      ((Cs.all fun B => decide (PySem.W.kitOne K (.ref (He.ga K A)) (.ref (He.ga K B)) = some (decide (A = B)))) &&
      (["NoneType", "bool", "int", "str", "list", "tuple", "dict"].all fun S => decide (PySem.W.kitOne K (.type S) (.ref (He.ga K A)) = some false)))
  | .eqn C => decide (PySem.W.findIn K (.ref (He.ga K C)) "__ne__" = some (some (.builtin "object.__ne__"))) && decide (PySem.W.mroIn K (He.ga K C) (.type "object") = some true)
abbrev AlP : Type := Bool × List PSg
def obsP (fx : List Fx) (fn : List PDef) (K : PySem.W.Frag) : AlP := ((fx.all fun f => f.ok K) && fn.all fun d => d.good K, fn.map fun d => psg K (d.loc K))
def SaysP (fx : List Fx) (fn : List PDef) (K : PySem.W.Frag) : Prop := obsP fx fn K = (true, fn.map PDef.said)
def frT (g : Addr → Option Obj) (n : Nat) : PySem.W.Frag := He.frG (noTab g) (cStatics :: sysModules :: He.asD g n)
def obsPG (n : Nat) (fx : List Fx) (fn : List PDef) (g : Addr → Option Obj) : AlP := let K := frT g n; ((fx.all fun f => f.ok K) && ((fn.all fun d => d.good K) && tabsB g K), fn.map fun d => psg K (d.loc K))
theorem noTab_of {g : Addr → Option Obj} {a : Addr} {o : Obj} (h : noTab g a = some o) : g a = some o := by
  unfold noTab at h
  cases e : g a with
  | none => rw [e] at h; cases h
  | some u =>
    rw [e] at h
    dsimp only at h
    split at h
    · cases h
    · exact h
theorem obsPG_says {n : Nat} {fx : List Fx} {fn : List PDef} {h : Heap} (e : obsPG n fx fn h.get? = (true, fn.map PDef.said)) : (frT h.get? n).In h ∧ SaysP fx fn (frT h.get? n) ∧ TabAt h (frT h.get? n) := by
  have e1 := (Prod.mk.inj e).1
  have e2 := (Prod.mk.inj e).2
  rw [Bool.and_eq_true, Bool.and_eq_true] at e1
  refine ⟨fun a o hl => noTab_of (He.frG_at _ hl), ?_, tabsB_ok e1.2.2⟩
  unfold SaysP obsP
  rw [e1.1, e1.2.1, e2]
  rfl
def hookP (n : Nat) (fx : List Fx) (fn : List PDef) : PySem.W.Hook where
  α := AlP
  obs := fun s => obsPG n fx fn s.heap.get?
  val := fun _ => (true, fn.map PDef.said)
  says := fun _ h => ∃ K : PySem.W.Frag, K.In h ∧ SaysP fx fn K ∧ TabAt h K
  of := fun _ _ e => ⟨_, obsPG_says e⟩
  keeps := fun _ _ _ ⟨K, hK, c, t⟩ k => ⟨K, PySem.W.Frag.In.keeps hK k, c, t.keeps k⟩
theorem obsPG_eq {n : Nat} {fx : List Fx} {fn : List PDef} {g : Addr → Option Obj} {s : Shared} (h : ∀ a, g a = s.heap.get? a) : obsPG n fx fn g = (hookP n fx fn).obs s := by
  have e : g = s.heap.get? := funext h
  rw [e]
  rfl
def clsBody : Stmt → List Stmt
  | .ClassDef _ _ _ b .. => b
  | _ => []
end Pd
namespace LW
open PySem L2 Pd
abbrev pw : Program := PySem.Challenge.pw_showncut_k54_whole_places_in_great_block
def top (i : Nat) : Stmt := pw.main.body.getD i (.Pass ⟨0, 0, 0, 0⟩)
def inC (i j : Nat) : Stmt := (Pd.clsBody (top i)).getD j (.Pass ⟨0, 0, 0, 0⟩)
abbrev S_is_integer : Stmt := top 13
def D_is_integer : Pd.PDef := ⟨Pd.globAt "is_integer", "is_integer", "is_integer", defArgs S_is_integer, defBody S_is_integer, defScope S_is_integer, [.non], []⟩
abbrev S_is_said : Stmt := top 14
def D_is_said : Pd.PDef := ⟨Pd.globAt "is_said", "is_said", "is_said", defArgs S_is_said, defBody S_is_said, defScope S_is_said, [], []⟩
abbrev S_whole_in : Stmt := top 15
def D_whole_in : Pd.PDef := ⟨Pd.globAt "whole_in", "whole_in", "whole_in", defArgs S_whole_in, defBody S_whole_in, defScope S_whole_in, [], []⟩
abbrev S_joined_stretches : Stmt := top 16
def D_joined_stretches : Pd.PDef := ⟨Pd.globAt "joined_stretches", "joined_stretches", "joined_stretches", defArgs S_joined_stretches, defBody S_joined_stretches, defScope S_joined_stretches, [], []⟩
abbrev S_pieces_of : Stmt := top 21
def D_pieces_of : Pd.PDef := ⟨Pd.globAt "pieces_of", "pieces_of", "pieces_of", defArgs S_pieces_of, defBody S_pieces_of, defScope S_pieces_of, [], []⟩
abbrev S_block_in : Stmt := top 22
def D_block_in : Pd.PDef := ⟨Pd.globAt "block_in", "block_in", "block_in", defArgs S_block_in, defBody S_block_in, defScope S_block_in, [], []⟩
abbrev S_blocks_told : Stmt := top 23
def D_blocks_told : Pd.PDef := ⟨Pd.globAt "blocks_told", "blocks_told", "blocks_told", defArgs S_blocks_told, defBody S_blocks_told, defScope S_blocks_told, [], []⟩
abbrev S_text_of : Stmt := top 24
def D_text_of : Pd.PDef := ⟨Pd.globAt "text_of", "text_of", "text_of", defArgs S_text_of, defBody S_text_of, defScope S_text_of, [], []⟩
abbrev S_made : Stmt := top 25
def D_made : Pd.PDef := ⟨Pd.globAt "made", "made", "made", defArgs S_made, defBody S_made, defScope S_made, [], []⟩
abbrev S_stands_at : Stmt := top 28
def D_stands_at : Pd.PDef := ⟨Pd.globAt "stands_at", "stands_at", "stands_at", defArgs S_stands_at, defBody S_stands_at, defScope S_stands_at, [], []⟩
abbrev S_places : Stmt := top 29
def D_places : Pd.PDef := ⟨Pd.globAt "places", "places", "places", defArgs S_places, defBody S_places, defScope S_places, [], []⟩
abbrev S__law_pot : Stmt := top 31
def D__law_pot : Pd.PDef := ⟨Pd.globAt "_law_pot", "_law_pot", "_law_pot", defArgs S__law_pot, defBody S__law_pot, defScope S__law_pot, [], []⟩
abbrev S__law_take : Stmt := top 32
def D__law_take : Pd.PDef := ⟨Pd.globAt "_law_take", "_law_take", "_law_take", defArgs S__law_take, defBody S__law_take, defScope S__law_take, [], []⟩
abbrev S__law_of : Stmt := top 33
def D__law_of : Pd.PDef := ⟨Pd.globAt "_law_of", "_law_of", "_law_of", defArgs S__law_of, defBody S__law_of, defScope S__law_of, [], []⟩
abbrev S__law_cells : Stmt := top 34
def D__law_cells : Pd.PDef := ⟨Pd.globAt "_law_cells", "_law_cells", "_law_cells", defArgs S__law_cells, defBody S__law_cells, defScope S__law_cells, [], []⟩
abbrev S__law_block_text : Stmt := top 35
def D__law_block_text : Pd.PDef := ⟨Pd.globAt "_law_block_text", "_law_block_text", "_law_block_text", defArgs S__law_block_text, defBody S__law_block_text, defScope S__law_block_text, [], []⟩
abbrev S__law_great_blocks : Stmt := top 36
def D__law_great_blocks : Pd.PDef := ⟨Pd.globAt "_law_great_blocks", "_law_great_blocks", "_law_great_blocks", defArgs S__law_great_blocks, defBody S__law_great_blocks, defScope S__law_great_blocks, [], []⟩
abbrev S__law_block_places : Stmt := top 37
def D__law_block_places : Pd.PDef := ⟨Pd.globAt "_law_block_places", "_law_block_places", "_law_block_places", defArgs S__law_block_places, defBody S__law_block_places, defScope S__law_block_places, [], []⟩
abbrev S__law_near_blocks : Stmt := top 38
def D__law_near_blocks : Pd.PDef := ⟨Pd.globAt "_law_near_blocks", "_law_near_blocks", "_law_near_blocks", defArgs S__law_near_blocks, defBody S__law_near_blocks, defScope S__law_near_blocks, [], []⟩
abbrev S__law_right : Stmt := top 39
def D__law_right : Pd.PDef := ⟨Pd.globAt "_law_right", "_law_right", "_law_right", defArgs S__law_right, defBody S__law_right, defScope S__law_right, [], []⟩
abbrev S_law : Stmt := top 40
def D_law : Pd.PDef := ⟨Pd.globAt "law", "law", "law", defArgs S_law, defBody S_law, defScope S_law, [], []⟩
abbrev S_Word___init__ : Stmt := inC 26 0
def D_Word___init__ : Pd.PDef := ⟨Pd.methAt "Word" "__init__", "__init__", "Word.__init__", defArgs S_Word___init__, defBody S_Word___init__, defScope S_Word___init__, [], []⟩
abbrev S_Word_text : Stmt := inC 26 1
def D_Word_text : Pd.PDef := ⟨Pd.getterAt "Word" "text", "text", "Word.text", defArgs S_Word_text, defBody S_Word_text, defScope S_Word_text, [], []⟩
abbrev S_Word_blocks : Stmt := inC 26 2
def D_Word_blocks : Pd.PDef := ⟨Pd.getterAt "Word" "blocks", "blocks", "Word.blocks", defArgs S_Word_blocks, defBody S_Word_blocks, defScope S_Word_blocks, [], []⟩
abbrev S_Word_starts : Stmt := inC 26 3
def D_Word_starts : Pd.PDef := ⟨Pd.getterAt "Word" "starts", "starts", "Word.starts", defArgs S_Word_starts, defBody S_Word_starts, defScope S_Word_starts, [], []⟩
abbrev S_Word_size : Stmt := inC 26 4
def D_Word_size : Pd.PDef := ⟨Pd.getterAt "Word" "size", "size", "Word.size", defArgs S_Word_size, defBody S_Word_size, defScope S_Word_size, [], []⟩
abbrev S_Word___eq__ : Stmt := inC 26 6
def D_Word___eq__ : Pd.PDef := ⟨Pd.methAt "Word" "__eq__", "__eq__", "Word.__eq__", defArgs S_Word___eq__, defBody S_Word___eq__, defScope S_Word___eq__, [], []⟩
abbrev S_Word_part : Stmt := inC 26 9
def D_Word_part : Pd.PDef := ⟨Pd.methAt "Word" "part", "part", "Word.part", defArgs S_Word_part, defBody S_Word_part, defScope S_Word_part, [], []⟩
def fn : List Pd.PDef := [D_is_integer, D_is_said, D_whole_in, D_joined_stretches, D_pieces_of, D_block_in, D_blocks_told, D_text_of, D_made, D_stands_at, D_places, D__law_pot, D__law_take, D__law_of, D__law_cells, D__law_block_text, D__law_great_blocks, D__law_block_places, D__law_near_blocks, D__law_right, D_law, D_Word___init__, D_Word_text, D_Word_blocks, D_Word_starts, D_Word_size, D_Word___eq__, D_Word_part]
def fx : List Fx := [
  .old (.glo "Word"),
  .old (.glo "_law_block_places"),
  .old (.glo "_law_block_text"),
  .old (.glo "_law_cells"),
  .old (.glo "_law_great_blocks"),
  .old (.glo "_law_near_blocks"),
  .old (.glo "_law_of"),
  .old (.glo "_law_pot"),
  .old (.glo "_law_right"),
  .old (.glo "_law_take"),
  .old (.glo "block_in"),
  .old (.glo "blocks_told"),
  .old (.glo "is_integer"),
  .old (.glo "is_said"),
  .old (.glo "joined_stretches"),
  .old (.glo "made"),
  .old (.glo "pieces_of"),
  .old (.glo "places"),
  .old (.glo "stands_at"),
  .old (.glo "text_of"),
  .old (.glo "whole_in"),
  .old (.glo "law"),
  .old (.int "BEYOND" 1000000000000000000000000000000),
  .old (.int "MOST_BLOCKS" 40),
  .old (.int "MOST_FIGURES_plain" 40),
  .old (.int "MOST_FIGURES_words" 30),
  .old (.str "FIGURES" ⟨List.toArray [48, 49, 50, 51, 52, 53, 54, 55, 56, 57]⟩),
  .old (.str "LETTERS" ⟨List.toArray [97, 98, 99, 100, 101, 102, 103, 104, 105, 106, 107, 108, 109, 110, 111, 112, 113, 114, 115, 116, 117, 118, 119, 120, 121, 122]⟩),
  .old (.free "abs"),
  .old (.free "all"),
  .old (.free "any"),
  .old (.free "bool"),
  .old (.free "enumerate"),
  .old (.free "int"),
  .old (.free "isinstance"),
  .old (.free "len"),
  .old (.free "list"),
  .old (.free "max"),
  .old (.free "min"),
  .old (.free "range"),
  .old (.free "repr"),
  .old (.free "str"),
  .old (.free "tuple"),
  .old (.free "zip"),
  .old (.cls "Word"),
  .old (.mkr "Word"),
  .old (.noat "Word" "own_blocks"),
  .old (.noat "Word" "own_ends"),
  .old (.noat "Word" "own_text"),
  .prop "Word" "text",
  .prop "Word" "blocks",
  .prop "Word" "starts",
  .prop "Word" "size",
  .old (.meth "Word" "__eq__"),
  .old (.meth "Word" "part"),
  .eqn "Word",
  .ins "Word",
  .isi (.type "NoneType") (.inl "Word") false,
  .isi (.type "bool") (.inl "Word") false,
  .isi (.type "int") (.inl "Word") false,
  .isi (.type "str") (.inl "Word") false,
  .isi (.type "list") (.inl "Word") false,
  .isi (.type "tuple") (.inl "Word") false,
  .isi (.type "dict") (.inl "Word") false,
  .isiC "Word" (.inl "Word") true,
  .isi (.type "NoneType") (.inr "bool") false,
  .isi (.type "bool") (.inr "bool") true,
  .isi (.type "int") (.inr "bool") false,
  .isi (.type "str") (.inr "bool") false,
  .isi (.type "list") (.inr "bool") false,
  .isi (.type "tuple") (.inr "bool") false,
  .isi (.type "dict") (.inr "bool") false,
  .isiC "Word" (.inr "bool") false,
  .isi (.type "NoneType") (.inr "int") false,
  .isi (.type "bool") (.inr "int") true,
  .isi (.type "int") (.inr "int") true,
  .isi (.type "str") (.inr "int") false,
  .isi (.type "list") (.inr "int") false,
  .isi (.type "tuple") (.inr "int") false,
  .isi (.type "dict") (.inr "int") false,
  .isiC "Word" (.inr "int") false,
  .isi (.type "NoneType") (.inr "str") false,
  .isi (.type "bool") (.inr "str") false,
  .isi (.type "int") (.inr "str") false,
  .isi (.type "str") (.inr "str") true,
  .isi (.type "list") (.inr "str") false,
  .isi (.type "tuple") (.inr "str") false,
  .isi (.type "dict") (.inr "str") false,
  .isiC "Word" (.inr "str") false]
abbrev loose : List Str := (["_wall", "is_integer", "is_said", "whole_in", "joined_stretches", "pieces_of", "block_in", "blocks_told", "text_of", "made", "stands_at", "places", "_law_pot", "_law_take", "_law_of", "_law_cells", "_law_block_text", "_law_great_blocks", "_law_block_places", "_law_near_blocks", "_law_right", "CutError", "BadWord", "BadPlace", "BadPart", "NoWord", "Long", "Great", "Word", "__name__"] : List Str) ++ (["LETTERS", "FIGURES", "MOST_FIGURES_plain", "MOST_BLOCKS", "MOST_FIGURES_words", "BEYOND"] : List Str)
abbrev R : PySem.W.OpenRow := PySem.W.OpenLaw.row PySem.Challenge.rw_showncut_k54_whole_places_in_great_block
def ob (s : PySem.W.SharedT) : AlP := obsPG 6 fx fn (HandSHeadRun.getT s)
theorem ob_eq (s : PySem.W.SharedT) : ob s = (hookP 6 fx fn).obs s.abs := obsPG_eq (HandSHeadRun.getT_eq s)
theorem run (w : World) : HandSHeadRun.RunEq R (PySem.W.view R.prog [40]) (hookP 6 fx fn) ob 8000 loose w := by
  intro os
  kernel_rfl
abbrev DL := HandSHeadRun.topDef R.prog 40
theorem early (call : PySem.W.WalkO (PySem.W.view R.prog [40]) loose (PySem.W.XL (PySem.W.view R.prog [40]) []) (hookP 6 fx fn).says R.toRowW DL [] fun f vs => PySem.call f vs) : PySem.Challenge.rw_showncut_k54_whole_places_in_great_block.Holds := by
  w_on; o_law
  refine HandSHeadRun.head_any (r := R) (q := PySem.W.view R.prog [40]) (H := hookP 6 fx fn) (ob := ob) (M := 8000) (loose := loose) (d := DL) (kwd := []) ob_eq (by kernel_rfl) (fun s => by kernel_rfl) run (by rfl) (by rfl) (by rfl) (by rfl) (by first | assumption | decide +kernel) (by decide +kernel) ⟨rfl, rfl, rfl, rfl, rfl, by decide +kernel⟩ ?hw call
  case hw => w_witness2
end LW
namespace Pd
open PySem L2
inductive D where
  | non | bl (b : Bool) | int (i : Int) | str (s : List Nat) | lst (xs : List D) | tup (xs : List D)
  | obj (C : Addr) (fs : List (Str × D)) | pot | scr (ns : List Int) | ref (a : Addr) | tupK (xs : List D) | tupF (xs : List D)
  | err (C : Addr) (d : D) | dic (ks : List (List Nat)) (vs : List D)
  | cel (C : Option Addr) (i : Nat)
inductive OD where
  | lst (ds : List D) | ins (C : Addr) (fs : List (Str × D)) | dic (ks : List (List Nat)) (vs : List D)
def OD.cls : OD → Option Addr
  | .lst _ => none
  | .ins C _ => some C
  | .dic _ _ => none
def pr (a b : Nat) : Nat := 2 ^ a * (2 * b + 1)
theorem pr_pos (a b : Nat) : 0 < pr a b := Nat.mul_pos (Nat.pow_pos (by decide)) (by omega)
theorem pr_inj : ∀ {a b c d : Nat}, pr a b = pr c d → a = c ∧ b = d
  | 0, b, 0, d, h => by
    unfold pr at h
    omega
  | 0, b, c + 1, d, h => by
    unfold pr at h
    rw [Nat.pow_succ, Nat.mul_comm (2 ^ c) 2, Nat.mul_assoc] at h
    omega
  | a + 1, b, 0, d, h => by
    unfold pr at h
    rw [Nat.pow_succ, Nat.mul_comm (2 ^ a) 2, Nat.mul_assoc] at h
    omega
  | a + 1, b, c + 1, d, h => by
    have h2 : pr a b = pr c d := by
      unfold pr at h ⊢
      rw [Nat.pow_succ, Nat.pow_succ, Nat.mul_comm (2 ^ a) 2, Nat.mul_comm (2 ^ c) 2, Nat.mul_assoc, Nat.mul_assoc] at h
      omega
    obtain ⟨h3, h4⟩ := pr_inj h2
    exact ⟨by omega, h4⟩
def eI : Int → Nat
  | .ofNat n => pr 0 n
  | .negSucc n => pr 1 n
theorem eI_inj {i j : Int} (h : eI i = eI j) : i = j := by
  cases i <;> cases j <;> (unfold eI at h; obtain ⟨h1, h2⟩ := pr_inj h; first | (cases h1; done) | (cases h2; rfl))
def eL {α : Type} (f : α → Nat) : List α → Nat
  | [] => 0
  | x :: r => pr (f x) (eL f r)
theorem eL_inj {α : Type} {f : α → Nat} : ∀ {xs ys : List α}, (∀ x ∈ xs, ∀ y, f x = f y → x = y) → eL f xs = eL f ys → xs = ys
  | [], [], _, _ => rfl
  | [], y :: ys, _, h => absurd h (Nat.ne_of_lt (pr_pos _ _))
  | x :: xs, [], _, h => absurd h.symm (Nat.ne_of_lt (pr_pos _ _))
  | x :: xs, y :: ys, hf, h => by
    obtain ⟨h1, h2⟩ := pr_inj h
    rw [hf x (List.mem_cons_self ..) y h1, eL_inj (fun z hz => hf z (List.mem_cons_of_mem _ hz)) h2]
def eS (s : Str) : Nat := eL id s.cps.toList
theorem id_inj {xs : List Nat} : ∀ x ∈ xs, ∀ y, id x = id y → x = y := fun _ _ _ h => h
theorem eS_inj {s t : Str} (h : eS s = eS t) : s = t := by
  have := eL_inj id_inj h
  cases s
  cases t
  congr 1
  exact Array.toList_inj.mp this
def eO : Option Addr → Nat
  | none => 0
  | some a => a + 1
theorem eO_inj : ∀ {a b : Option Addr}, eO a = eO b → a = b
  | none, none, _ => rfl
  | none, some b, h => absurd h.symm (Nat.succ_ne_zero _)
  | some a, none, h => absurd h (Nat.succ_ne_zero _)
  | some a, some b, h => congrArg some (Nat.succ.inj h)
mutual
def eD : D → Nat
  | .non => pr 0 0
  | .bl b => pr 1 (if b then 1 else 0)
  | .int i => pr 2 (eI i)
  | .str s => pr 3 (eL id s)
  | .lst xs => pr 4 (eDs xs)
  | .tup xs => pr 5 (eDs xs)
  | .obj C fs => pr 6 (pr C (eFs fs))
  | .pot => pr 7 0
  | .scr ns => pr 8 (eL eI ns)
  | .ref a => pr 9 a
  | .tupK xs => pr 10 (eDs xs)
  | .tupF xs => pr 11 (eDs xs)
  | .err C d => pr 12 (pr C (eD d))
  | .dic ks vs => pr 13 (pr (eL (eL id) ks) (eDs vs))
  | .cel C i => pr 14 (pr (eO C) i)
def eDs : List D → Nat
  | [] => 0
  | x :: r => pr (eD x) (eDs r)
def eFs : List (Str × D) → Nat
  | [] => 0
  | (s, x) :: r => pr (eS s) (pr (eD x) (eFs r))
end
mutual
theorem eD_inj : ∀ {x y : D}, eD x = eD y → x = y
  | .non, y, h => by
    cases y <;> first | rfl | (simp only [eD] at h; obtain ⟨h1, h2⟩ := pr_inj h; cases h1; done)
  | .bl b, y, h => by
    cases y <;> simp only [eD] at h <;> obtain ⟨h1, h2⟩ := pr_inj h <;> first | (cases h1; done) | skip
    rename_i c
    cases b <;> cases c <;> first | rfl | (simp at h2)
  | .int i, y, h => by
    cases y <;> simp only [eD] at h <;> obtain ⟨h1, h2⟩ := pr_inj h <;> first | (cases h1; done) | rw [eI_inj h2]
  | .str s, y, h => by
    cases y <;> simp only [eD] at h <;> obtain ⟨h1, h2⟩ := pr_inj h <;> first | (cases h1; done) | rw [eL_inj id_inj h2]
  | .lst xs, y, h => by
    cases y <;> simp only [eD] at h <;> obtain ⟨h1, h2⟩ := pr_inj h <;> first | (cases h1; done) | rw [eDs_inj h2]
  | .tup xs, y, h => by
    cases y <;> simp only [eD] at h <;> obtain ⟨h1, h2⟩ := pr_inj h <;> first | (cases h1; done) | rw [eDs_inj h2]
  | .obj C fs, y, h => by
    cases y <;> simp only [eD] at h <;> obtain ⟨h1, h2⟩ := pr_inj h <;> first | (cases h1; done) | skip
    obtain ⟨h3, h4⟩ := pr_inj h2
    rw [h3, eFs_inj h4]
  | .pot, y, h => by
    cases y <;> first | rfl | (simp only [eD] at h; obtain ⟨h1, h2⟩ := pr_inj h; cases h1; done)
  | .scr ns, y, h => by
    cases y <;> simp only [eD] at h <;> obtain ⟨h1, h2⟩ := pr_inj h <;> first | (cases h1; done) | rw [eL_inj (fun _ _ _ h => eI_inj h) h2]
  | .ref a, y, h => by
    cases y <;> simp only [eD] at h <;> obtain ⟨h1, h2⟩ := pr_inj h <;> first | (cases h1; done) | rw [h2]
  | .tupK xs, y, h => by
    cases y <;> simp only [eD] at h <;> obtain ⟨h1, h2⟩ := pr_inj h <;> first | (cases h1; done) | rw [eDs_inj h2]
  | .tupF xs, y, h => by
    cases y <;> simp only [eD] at h <;> obtain ⟨h1, h2⟩ := pr_inj h <;> first | (cases h1; done) | rw [eDs_inj h2]
  | .err C d, y, h => by
    cases y <;> simp only [eD] at h <;> obtain ⟨h1, h2⟩ := pr_inj h <;> first | (cases h1; done) | skip
    obtain ⟨h3, h4⟩ := pr_inj h2
    rw [h3, eD_inj h4]
  | .dic ks vs, y, h => by
    cases y <;> simp only [eD] at h <;> obtain ⟨h1, h2⟩ := pr_inj h <;> first | (cases h1; done) | skip
    obtain ⟨h3, h4⟩ := pr_inj h2
    rw [eL_inj (fun _ _ _ h => eL_inj id_inj h) h3, eDs_inj h4]
  | .cel C i, y, h => by
    cases y <;> simp only [eD] at h <;> obtain ⟨h1, h2⟩ := pr_inj h <;> first | (cases h1; done) | skip
    obtain ⟨h3, h4⟩ := pr_inj h2
    rw [eO_inj h3, h4]
theorem eDs_inj : ∀ {xs ys : List D}, eDs xs = eDs ys → xs = ys
  | [], [], _ => rfl
  | [], y :: ys, h => absurd h (by simp only [eDs]; exact Nat.ne_of_lt (pr_pos _ _))
  | x :: xs, [], h => absurd h.symm (by simp only [eDs]; exact Nat.ne_of_lt (pr_pos _ _))
  | x :: xs, y :: ys, h => by
    simp only [eDs] at h
    obtain ⟨h1, h2⟩ := pr_inj h
    rw [eD_inj h1, eDs_inj h2]
theorem eFs_inj : ∀ {xs ys : List (Str × D)}, eFs xs = eFs ys → xs = ys
  | [], [], _ => rfl
  | [], (s, y) :: ys, h => absurd h (by simp only [eFs]; exact Nat.ne_of_lt (pr_pos _ _))
  | (s, x) :: xs, [], h => absurd h.symm (by simp only [eFs]; exact Nat.ne_of_lt (pr_pos _ _))
  | (s, x) :: xs, (t, y) :: ys, h => by
    simp only [eFs] at h
    obtain ⟨h1, h2⟩ := pr_inj h
    obtain ⟨h3, h4⟩ := pr_inj h2
    rw [eS_inj h1, eD_inj h3, eFs_inj h4]
end
def eOD : OD → Nat
  | .lst ds => pr 0 (eDs ds)
  | .ins C fs => pr 1 (pr C (eFs fs))
  | .dic ks vs => pr 2 (pr (eL (eL id) ks) (eDs vs))
theorem eOD_inj {x y : OD} (h : eOD x = eOD y) : x = y := by
  cases x <;> cases y <;> simp only [eOD] at h <;> obtain ⟨h1, h2⟩ := pr_inj h <;> first | (cases h1; done) | skip
  · rw [eDs_inj h2]
  · obtain ⟨h3, h4⟩ := pr_inj h2
    rw [h3, eFs_inj h4]
  · obtain ⟨h3, h4⟩ := pr_inj h2
    rw [eL_inj (fun _ _ _ h => eL_inj (fun _ _ _ h => h) h) h3, eDs_inj h4]
def stN (m : Nat) (cs : List OD) : Nat := pr m (eL eOD cs)
theorem stN_inj {m m' : Nat} {cs cs' : List OD} (h : stN m cs = stN m' cs') : m = m' ∧ cs = cs' := by
  obtain ⟨h1, h2⟩ := pr_inj h
  exact ⟨h1, eL_inj (fun _ _ _ h => eOD_inj h) h2⟩
open Classical in
noncomputable def dr (n : Nat) : Nat := if h : ∃ m cs, stN m cs = n then h.choose else 0
open Classical in
noncomputable def cs (n : Nat) : List OD := if h : ∃ cs m, stN m cs = n then h.choose else []
theorem dr_stN (m : Nat) (l : List OD) : dr (stN m l) = m := by
  unfold dr
  have h : ∃ m' cs, stN m' cs = stN m l := ⟨m, l, rfl⟩
  rw [dif_pos h]
  exact (stN_inj h.choose_spec.choose_spec).1
theorem cs_stN (m : Nat) (l : List OD) : cs (stN m l) = l := by
  unfold cs
  have h : ∃ cs m', stN m' cs = stN m l := ⟨l, m, rfl⟩
  rw [dif_pos h]
  exact (stN_inj h.choose_spec.choose_spec).2
noncomputable def drw (ℓ : Bool) (n : Nat) : Nat := match ℓ with
  | true => dr n
  | false => n
noncomputable def csw (ℓ : Bool) (n : Nat) : List OD := match ℓ with
  | true => cs n
  | false => []
end Pd
namespace Pd
variable {ℓ : Bool}
open PySem L2
def Exq (a C dx : Addr) : HO := .ext fun h => ∃ (oe : Obj) (vs : Array Value), h.get? a = some oe ∧ oe.cls = .ref C ∧ oe.dict = some dx ∧ oe.data = .fields vs
structure Gh where
  G : Hp
  pot : Addr → Prop
  cel : List (Addr × Option Addr)
def NoT (K : PySem.W.Frag) (g : Gh) (a : Addr) : Prop := (∀ q, (a, q) ∉ tabsK K) ∧ ∀ C, (a, C) ∉ g.cel
mutual
inductive Den (K : PySem.W.Frag) (g : Gh) : V → D → Prop
  | non : Den K g .non .non
  | bl (b : Bool) : Den K g (.bl b) (.bl b)
  | int (i : Int) : Den K g (.int i) (.int i)
  | str (l : List Nat) : Den K g (.str ⟨l.toArray⟩) (.str l)
  | lst {a : Addr} {vs : List V} {ds : List D} : g.G a = some (.lst vs) → Dens K g vs ds → Den K g (.ref a) (.lst ds)
  | tup {a : Addr} {vs : List V} {ds : List D} : Rd g.G a (.tup vs) → Dens K g vs ds → Den K g (.ref a) (.tup ds)
  | obj {a C dx : Addr} {fvs : List (Str × V)} {fs : List (Str × D)} : g.G a = some (.ins C dx fvs) → Flds K g fvs fs → Den K g (.ref a) (.obj C fs)
  | pot {a : Addr} : g.pot a → NoT K g a → Den K g (.ref a) .pot
  | scr {a : Addr} {ns : List Int} : SqL K g.G a (ns.map V.int) → Den K g (.ref a) (.scr ns)
  | ref (a : Addr) : Den K g (.ref a) (.ref a)
  | tupK {a : Addr} {vs : List V} {ds : List D} : (∀ H : Hp, SqT K H a vs) → Dens K g vs ds → Den K g (.ref a) (.tupK ds)
  | tupF {a : Addr} {vs : List V} {ds : List D} {o : Obj} : g.G a = some (.frz o (.tup vs)) → o.cls = .type "tuple" → o.dict = none → Dens K g vs ds → Den K g (.ref a) (.tupF ds)
  | err {a C dx : Addr} {v : V} {d : D} : g.G a = some (Exq a C dx) → g.G dx = some (.xd [("value", v)]) → Den K g v d → Den K g (.ref a) (.err C d)
  | dic {a : Addr} {kvs : List (Key × V)} {ks : List (List Nat)} {ds : List D} : g.G a = some (.dK kvs) → kvs.map (·.1) = ks.map (fun x => Sum.inr ⟨x.toArray⟩) → Dens K g (kvs.map (·.2)) ds → Den K g (.ref a) (.dic ks ds)
  | cel {a : Addr} {C : Option Addr} {i : Nat} : g.cel[i]? = some (a, C) → Den K g (.ref a) (.cel C i)
inductive Dens (K : PySem.W.Frag) (g : Gh) : List V → List D → Prop
  | nil : Dens K g [] []
  | cons {v : V} {d : D} {vs : List V} {ds : List D} : Den K g v d → Dens K g vs ds → Dens K g (v :: vs) (d :: ds)
inductive Flds (K : PySem.W.Frag) (g : Gh) : List (Str × V) → List (Str × D) → Prop
  | nil : Flds K g [] []
  | cons {x : Str} {v : V} {d : D} {vs : List (Str × V)} {ds : List (Str × D)} : Den K g v d → Flds K g vs ds → Flds K g ((x, v) :: vs) ((x, d) :: ds)
end
theorem _root_.L2.Rd.same {G H : Hp} {a : Addr} {u : HO} (h : Rd G a u) (sm : Same G H) : Rd H a u := h.elim (fun h => .inl (sm _ _ h)) fun ⟨o, h⟩ => .inr ⟨o, sm _ _ h⟩
theorem Den.weak {K : PySem.W.Frag} {g : Gh} {v : V} {ds : List D} (h : Den K g v (.tupF ds)) : Den K g v (.tup ds) := by
  cases h with
  | tupF h c d dd => exact .tup (.inr ⟨_, h⟩) dd
structure Ext (g g' : Gh) : Prop where
  G : Same g.G g'.G
  p : ∀ a, g.pot a → g'.pot a
  c : ∃ l, g'.cel = g.cel ++ l ∧ ∀ a C, (a, C) ∈ l → ¬ g.pot a
theorem Ext.refl (g : Gh) : Ext g g := ⟨Same.refl _, fun _ h => h, [], (List.append_nil _).symm, fun _ _ h => by cases h⟩
theorem Ext.trans {g g1 g2 : Gh} (a : Ext g g1) (b : Ext g1 g2) : Ext g g2 := by
  refine ⟨a.G.trans b.G, fun x h => b.p x (a.p x h), ?_⟩
  obtain ⟨l, e, n⟩ := a.c
  obtain ⟨l2, e2, n2⟩ := b.c
  refine ⟨l ++ l2, by rw [e2, e, List.append_assoc], fun x C h => ?_⟩
  rcases List.mem_append.mp h with z | z
  · exact n x C z
  · exact fun w => n2 x C z (a.p x w)
theorem Ext.cel {g g' : Gh} (e : Ext g g') {i : Nat} {x : Addr × Option Addr} (h : g.cel[i]? = some x) : g'.cel[i]? = some x := by
  obtain ⟨l, z, _⟩ := e.c
  rw [z, List.getElem?_append_left (List.getElem?_eq_some_iff.mp h).1]
  exact h
theorem NoT.mono {K : PySem.W.Frag} {g g' : Gh} {a : Addr} (e : Ext g g') (h : g.pot a) (n : NoT K g a) : NoT K g' a := by
  refine ⟨n.1, fun C z => ?_⟩
  obtain ⟨l, q, w⟩ := e.c
  rw [q] at z
  rcases List.mem_append.mp z with z | z
  · exact n.2 C z
  · exact w a C z h
section
variable {K : PySem.W.Frag} {g g' : Gh}
mutual
theorem Den.mono (e : Ext g g') : ∀ {v : V} {d : D}, Den K g v d → Den K g' v d
  | _, _, .non => .non
  | _, _, .bl b => .bl b
  | _, _, .int i => .int i
  | _, _, .str l => .str l
  | _, _, .lst h1 h2 => .lst (e.G _ _ h1) (Dens.mono e h2)
  | _, _, .tup h1 h2 => .tup (h1.same e.G) (Dens.mono e h2)
  | _, _, .obj h1 h2 => .obj (e.G _ _ h1) (Flds.mono e h2)
  | _, _, .pot h hn => .pot (e.p _ h) (hn.mono e h)
  | _, _, .cel h => .cel (e.cel h)
  | _, _, .scr h => .scr (e.G.seq h)
  | _, _, .ref a => .ref a
  | _, _, .tupK h1 h2 => .tupK h1 (Dens.mono e h2)
  | _, _, .tupF h1 c d h2 => .tupF (e.G _ _ h1) c d (Dens.mono e h2)
  | _, _, .err h1 h2 h3 => .err (e.G _ _ h1) (e.G _ _ h2) (Den.mono e h3)
  | _, _, .dic h1 h2 h3 => .dic (e.G _ _ h1) h2 (Dens.mono e h3)
theorem Dens.mono (e : Ext g g') : ∀ {vs : List V} {ds : List D}, Dens K g vs ds → Dens K g' vs ds
  | _, _, .nil => .nil
  | _, _, .cons h t => .cons (Den.mono e h) (Dens.mono e t)
theorem Flds.mono (e : Ext g g') : ∀ {vs : List (Str × V)} {ds : List (Str × D)}, Flds K g vs ds → Flds K g' vs ds
  | _, _, .nil => .nil
  | _, _, .cons h t => .cons (Den.mono e h) (Flds.mono e t)
end
theorem Dens.length : ∀ {vs : List V} {ds : List D}, Dens K g vs ds → vs.length = ds.length
  | _, _, .nil => rfl
  | _, _, .cons _ t => congrArg Nat.succ (Dens.length t)
theorem Dens.append : ∀ {vs ws : List V} {ds es : List D}, Dens K g vs ds → Dens K g ws es → Dens K g (vs ++ ws) (ds ++ es)
  | _, _, _, _, .nil, s => s
  | _, _, _, _, .cons h t, s => .cons h (Dens.append t s)
theorem Dens.get : ∀ {vs : List V} {ds : List D} {i : Nat} {d : D}, Dens K g vs ds → ds[i]? = some d → ∃ v, vs[i]? = some v ∧ Den K g v d
  | _, _, _, _, .nil, e => by simp at e
  | _, _, 0, _, .cons h _, e => by simp at e; subst e; exact ⟨_, rfl, h⟩
  | _, _, i + 1, d, .cons _ t, e => by
    obtain ⟨v, h1, h2⟩ := Dens.get (i := i) (d := d) t (by simpa using e)
    exact ⟨v, by simpa using h1, h2⟩
theorem Dens.getV : ∀ {vs : List V} {ds : List D} {i : Nat} {v : V}, Dens K g vs ds → vs[i]? = some v → ∃ d, ds[i]? = some d ∧ Den K g v d
  | _, _, _, _, .nil, e => by simp at e
  | _, _, 0, _, .cons h _, e => by simp at e; subst e; exact ⟨_, rfl, h⟩
  | _, _, i + 1, v, .cons _ t, e => by
    obtain ⟨d, h1, h2⟩ := Dens.getV (i := i) (v := v) t (by simpa using e)
    exact ⟨d, by simpa using h1, h2⟩
theorem Dens.set {v : V} {d : D} (h : Den K g v d) : ∀ {vs : List V} {ds : List D} (i : Nat), Dens K g vs ds → Dens K g (vs.set i v) (ds.set i d)
  | _, _, _, .nil => .nil
  | _, _, 0, .cons _ t => .cons h t
  | _, _, i + 1, .cons q t => .cons q (Dens.set h i t)
theorem Dens.take : ∀ {vs : List V} {ds : List D} (n : Nat), Dens K g vs ds → Dens K g (vs.take n) (ds.take n)
  | _, _, 0, _ => .nil
  | _, _, _ + 1, .nil => .nil
  | _, _, n + 1, .cons h t => .cons h (Dens.take n t)
theorem Dens.drop : ∀ {vs : List V} {ds : List D} (n : Nat), Dens K g vs ds → Dens K g (vs.drop n) (ds.drop n)
  | _, _, 0, r => r
  | _, _, _ + 1, .nil => .nil
  | _, _, n + 1, .cons _ t => Dens.drop n t
theorem Dens.reverse : ∀ {vs : List V} {ds : List D}, Dens K g vs ds → Dens K g vs.reverse ds.reverse
  | _, _, .nil => .nil
  | _, _, .cons h t => by
    rw [List.reverse_cons, List.reverse_cons]
    exact (Dens.reverse t).append (.cons h .nil)
theorem Dens.ints : ∀ {vs : List V} {ns : List Int}, Dens K g vs (ns.map D.int) → vs = ns.map V.int
  | _, [], .nil => rfl
  | _, n :: ns, .cons (.int _) t => by
    rw [Dens.ints t]
    rfl
theorem Dens.bls : ∀ {vs : List V} {ns : List Bool}, Dens K g vs (ns.map D.bl) → vs = ns.map V.bl
  | _, [], .nil => rfl
  | _, n :: ns, .cons (.bl _) t => by
    rw [Dens.bls t]
    rfl
theorem Dens.strs : ∀ {vs : List V} {ns : List (List Nat)}, Dens K g vs (ns.map D.str) → vs = (ns.map fun l => (⟨l.toArray⟩ : Str)).map V.str
  | _, [], .nil => rfl
  | _, n :: ns, .cons (.str _) t => by
    rw [Dens.strs t]
    rfl
end
def PotH (n : Nat) (o : Option HO) : Prop := ∃ x y z : Int, o = some (.lst [.int x, .int y, .int z]) ∧ 0 ≤ x ∧ x.natAbs < 2 ^ 1100 ∧ 0 ≤ y ∧ y < 2 ^ 61 ∧ 0 ≤ z ∧ z + n ≤ 1000000000
def Lite (u : HO) : Prop := (∃ vs, u = .lst vs) ∨ (∃ C dx fs, u = .ins C dx fs) ∨ ∃ kvs, u = .dK kvs
structure TOk (T : List (Addr × Str)) (pot : Addr → Prop) (H : Hp) : Prop where
  tabs : LamX.Tabs T H
  tp : ∀ p, p ∈ T → pot p.1
  all : ∀ a ps, H a = some (.tbl ps) → ∃ q, (a, q) ∈ T
theorem codeO_lite {c : Addr} {q : Str} (h : Lite (LamX.CodeO c q)) : False := by
  unfold LamX.CodeO at h
  rcases h with ⟨vs, h⟩ | ⟨C, dx, fs, h⟩ | ⟨kvs, h⟩ <;> cases h
theorem TOk.at {T : List (Addr × Str)} {pot : Addr → Prop} {H H' : Hp} (t : TOk T pot H) (h1 : ∀ a ps, H' a = some (.tbl ps) → H a = some (.tbl ps)) (h2 : ∀ a u, H a = some u → ¬ Lite u → H' a = some u) : TOk T pot H' := by
  refine ⟨fun p hp => ?_, t.tp, fun a ps e => t.all a ps (h1 a ps e)⟩
  obtain ⟨ps, a1, a2, a3⟩ := t.tabs p hp
  refine ⟨ps, h2 _ _ a1 (by rintro (⟨vs, z⟩ | ⟨C, dx, fs, z⟩ | ⟨kvs, z⟩) <;> cases z), a2, fun pos cv hc => ?_⟩
  obtain ⟨c, b1, b2⟩ := a3 pos cv hc
  exact ⟨c, b1, h2 _ _ b2 fun z => codeO_lite z⟩
theorem TOk.upd {T : List (Addr × Str)} {pot : Addr → Prop} {H : Hp} (t : TOk T pot H) {p : Addr} {o : HO} (hp : ∀ u, H p = some u → Lite u) (ho : ∀ ps, o ≠ .tbl ps) : TOk T pot (L2.upd H p o) := by
  refine t.at (fun a ps e => ?_) fun a u e n => ?_
  · by_cases q : a = p
    · subst q
      rw [upd_same] at e
      cases e
      exact (ho ps rfl).elim
    · rw [upd_ne q] at e
      exact e
  · rw [upd_ne fun q => n (hp u (by rw [← q]; exact e))]
    exact e
theorem TOk.new {T : List (Addr × Str)} {pot : Addr → Prop} {H : Hp} (t : TOk T pot H) {p : Addr} {o : HO} (hp : H p = none) (ho : ∀ ps, o ≠ .tbl ps) : TOk T pot (L2.upd H p o) :=
  t.upd (fun u e => by rw [hp] at e; cases e) ho
theorem TOk.no {T : List (Addr × Str)} {pot : Addr → Prop} {H : Hp} (t : TOk T pot H) {p : Addr} (h : ∀ ps, H p ≠ some (.tbl ps)) (q : Str) : (p, q) ∉ T := fun z => by
  obtain ⟨ps, a1, _⟩ := t.tabs _ z
  exact h ps a1
theorem TOk.pots {T : List (Addr × Str)} {pot pot' : Addr → Prop} {H : Hp} (t : TOk T pot H) (h : ∀ a, pot a → pot' a) : TOk T pot' H := ⟨t.tabs, fun p hp => h _ (t.tp p hp), t.all⟩
def OD.d : OD → D
  | .lst ds => .lst ds
  | .ins C fs => .obj C fs
  | .dic ks vs => .dic ks vs
def OwnH (K : PySem.W.Frag) (g : Gh) : OD → HO → Prop
  | .lst ds, o => ∃ vs, o = .lst vs ∧ Dens K g vs ds
  | .ins C fs, o => ∃ dx fvs, o = .ins C dx fvs ∧ Flds K g fvs fs
  | .dic ks vs, o => ∃ kvs : List (Key × V), o = .dK kvs ∧ kvs.map (·.1) = ks.map (fun x => Sum.inr ⟨x.toArray⟩) ∧ Dens K g (kvs.map (·.2)) vs
theorem OwnH.lite {K : PySem.W.Frag} {g : Gh} {d : OD} {o : HO} (h : OwnH K g d o) : Lite o := by
  cases d with
  | lst ds =>
    obtain ⟨vs, e1, _⟩ := h
    exact .inl ⟨vs, e1⟩
  | ins C fs =>
    obtain ⟨dx, fvs, e1, _⟩ := h
    exact .inr (.inl ⟨C, dx, fvs, e1⟩)
  | dic ks vs =>
    obtain ⟨kvs, e1, _⟩ := h
    exact .inr (.inr ⟨kvs, e1⟩)
theorem Lite.nt {o : HO} (h : Lite o) (ps : Array Value) : o ≠ .tbl ps := by
  rcases h with ⟨vs, rfl⟩ | ⟨C, dx, fs, rfl⟩ | ⟨kvs, rfl⟩ <;> intro z <;> cases z
theorem OwnH.mono {K : PySem.W.Frag} {g g' : Gh} {d : OD} {o : HO} (h : OwnH K g d o) (e : Ext g g') : OwnH K g' d o := by
  cases d with
  | lst ds =>
    obtain ⟨vs, e1, e2⟩ := h
    exact ⟨vs, e1, e2.mono e⟩
  | ins C fs =>
    obtain ⟨dx, fvs, e1, e2⟩ := h
    exact ⟨dx, fvs, e1, e2.mono e⟩
  | dic ks vs =>
    obtain ⟨kvs, e1, e2, e3⟩ := h
    exact ⟨kvs, e1, e2, e3.mono e⟩
theorem OwnH.den {K : PySem.W.Frag} {g : Gh} {d : OD} {o : HO} {p : Addr} (h : OwnH K g d o) (e : g.G p = some o) : Den K g (.ref p) d.d := by
  cases d with
  | lst ds =>
    obtain ⟨vs, e1, e2⟩ := h
    subst e1
    exact .lst e e2
  | ins C fs =>
    obtain ⟨dx, fvs, e1, e2⟩ := h
    subst e1
    exact .obj e e2
  | dic ks vs =>
    obtain ⟨kvs, e1, e2, e3⟩ := h
    subst e1
    exact .dic e e2 e3
structure CelOk (K : PySem.W.Frag) (g : Gh) (H : Hp) (l : List (Addr × Option Addr)) (cs : List OD) : Prop where
  len : l.length = cs.length
  at_ : ∀ (i : Nat) (a : Addr) (C : Option Addr), l[i]? = some (a, C) → g.pot a ∧ (∀ q, (a, q) ∉ tabsK K) ∧ ∃ od o, cs[i]? = some od ∧ od.cls = C ∧ H a = some o ∧ OwnH K g od o
  nd : ∀ (i j : Nat) (a : Addr) (C C' : Option Addr), l[i]? = some (a, C) → l[j]? = some (a, C') → i = j
theorem CelOk.nil {K : PySem.W.Frag} {g : Gh} {H : Hp} : CelOk K g H [] [] := ⟨rfl, fun i a C h => by simp at h, fun i j a C C' h => by simp at h⟩
theorem CelOk.step {K : PySem.W.Frag} {g g' : Gh} {H H' : Hp} {l : List (Addr × Option Addr)} {cs : List OD} (c : CelOk K g H l cs) (e : Ext g g') (h : ∀ a C, (a, C) ∈ l → H' a = H a) : CelOk K g' H' l cs :=
  ⟨c.len, fun i a C q => by
    obtain ⟨h1, h2, od, o, h3, h4, h5, h6⟩ := c.at_ i a C q
    exact ⟨e.p _ h1, h2, od, o, h3, h4, (h a C (List.mem_of_getElem? q)).trans h5, h6.mono e⟩, c.nd⟩
theorem CelOk.mem {K : PySem.W.Frag} {g : Gh} {H : Hp} {l : List (Addr × Option Addr)} {cs : List OD} (c : CelOk K g H l cs) {a : Addr} {C : Option Addr} (h : (a, C) ∈ l) : g.pot a ∧ (∀ q, (a, q) ∉ tabsK K) ∧ ∃ od o, H a = some o ∧ OwnH K g od o := by
  obtain ⟨i, e⟩ := List.getElem?_of_mem h
  obtain ⟨h1, h2, od, o, h3, h4, h5, h6⟩ := c.at_ i a C e
  exact ⟨h1, h2, od, o, h5, h6⟩
theorem CelOk.upd {K : PySem.W.Frag} {g : Gh} {H : Hp} {l : List (Addr × Option Addr)} {cs : List OD} (c : CelOk K g H l cs) {p : Addr} {o : HO} (h : ¬ g.pot p) : CelOk K g (L2.upd H p o) l cs :=
  c.step (Ext.refl g) fun a C m => upd_ne fun q => h (by rw [← q]; exact (c.mem m).1)
structure Ok (ℓ : Bool) (K : PySem.W.Frag) (g : Gh) (H : Hp) (n : Nat) : Prop where
  sub : Same g.G H
  pot : ∀ a, g.pot a → g.G a = none ∧ (((∃ q, (a, q) ∈ tabsK K) ∨ ∃ C, (a, C) ∈ g.cel) ∨ PotH (drw ℓ n) (H a))
  t : TOk (tabsK K) g.pot H
  cel : CelOk K g H g.cel (csw ℓ n)
theorem Ok.nocel {K : PySem.W.Frag} {g : Gh} {H : Hp} {n : Nat} (ok : Ok false K g H n) : g.cel = [] := List.length_eq_zero_iff.mp ok.cel.len
structure Stp (g : Gh) (H : Hp) (g' : Gh) (H' : Hp) : Prop where
  ext : Ext g g'
  gro : ∀ a, H a ≠ none → g.G a = none → g'.G a = none
  grp : ∀ a, H a ≠ none → g'.pot a → g.pot a
  kep : ∀ a o, H a = some o → ¬ g.pot a → H' a = some o
  dom : ∀ a, H a ≠ none → H' a ≠ none
theorem Stp.refl (g : Gh) (H : Hp) : Stp g H g H := ⟨Ext.refl g, fun _ _ h => h, fun _ _ h => h, fun _ _ h _ => h, fun _ h => h⟩
theorem Stp.trans {g g1 g2 : Gh} {H H1 H2 : Hp} (a : Stp g H g1 H1) (b : Stp g1 H1 g2 H2) : Stp g H g2 H2 :=
  ⟨a.ext.trans b.ext, fun x h q => b.gro x (a.dom x h) (a.gro x h q), fun x h q => a.grp x h (b.grp x (a.dom x h) q),
    fun x o h q => b.kep x o (a.kep x o h q) fun z => q (a.grp x (by rw [h]; exact Option.some_ne_none o) z), fun x h => b.dom x (a.dom x h)⟩
def Gh.add (g : Gh) (p : Addr) (o : HO) : Gh := ⟨upd g.G p o, g.pot, g.cel⟩
theorem Ext.addN {g : Gh} {p : Addr} {o : HO} (h : g.G p = none) : Ext g (g.add p o) := ⟨fun a u q => by
  show upd g.G p o a = some u
  rw [upd_ne (ne_of_none q h)]
  exact q, fun _ z => z, [], (List.append_nil _).symm, fun _ _ h => by cases h⟩
theorem Ok.gnone {K : PySem.W.Frag} {g : Gh} {H : Hp} {n : Nat} (ok : Ok ℓ K g H n) {p : Addr} (h : H p = none) : g.G p = none := by
  cases q : g.G p with
  | none => rfl
  | some o =>
    rw [ok.sub p o q] at h
    cases h
theorem Ok.npot {K : PySem.W.Frag} {g : Gh} {H : Hp} {n : Nat} (ok : Ok ℓ K g H n) {p : Addr} (h : H p = none) : ¬ g.pot p := fun z => by
  obtain ⟨_, (⟨q, w⟩ | ⟨C, w⟩) | ⟨x, y, w, e, _⟩⟩ := ok.pot p z
  · obtain ⟨ps, e, _⟩ := ok.t.tabs _ w
    have e : H p = some (.tbl ps) := e
    rw [h] at e
    cases e
  · obtain ⟨_, _, od, o, e, _⟩ := ok.cel.mem w
    rw [h] at e
    cases e
  · rw [h] at e
    cases e
theorem Ok.potH {K : PySem.W.Frag} {g : Gh} {H : Hp} {n : Nat} (ok : Ok ℓ K g H n) {p : Addr} (h : g.pot p) (hn : NoT K g p) : PotH (drw ℓ n) (H p) := (ok.pot p h).2.elim (fun z => z.elim (fun ⟨q, z⟩ => absurd z (hn.1 q)) fun ⟨C, z⟩ => absurd z (hn.2 C)) id
theorem Ok.add {K : PySem.W.Frag} {g : Gh} {H : Hp} {n : Nat} (ok : Ok ℓ K g H n) {p : Addr} {o : HO} (h : H p = none) (ho : ∀ ps, o ≠ .tbl ps := by (intro ps z; cases z)) : Ok ℓ K (g.add p o) (upd H p o) n := by
  refine ⟨fun a u e => ?_, fun a z => ?_, ok.t.new h ho, ok.cel.step (Ext.addN (ok.gnone h)) fun a C m => upd_ne fun q => by
    obtain ⟨_, _, od, o2, e, _⟩ := ok.cel.mem m
    rw [q, h] at e
    cases e⟩
  · by_cases q : a = p
    · subst q
      have e2 : upd g.G a o a = some u := e
      rw [upd_same] at e2 ⊢
      exact e2
    · have e2 : upd g.G p o a = some u := e
      rw [upd_ne q] at e2 ⊢
      exact ok.sub a u e2
  · have z2 : g.pot a := z
    have q : a ≠ p := fun e => ok.npot h (by rw [← e]; exact z2)
    obtain ⟨h1, h2⟩ := ok.pot a z2
    refine ⟨?_, ?_⟩
    · show upd g.G p o a = none
      rw [upd_ne q]
      exact h1
    · rw [upd_ne q]
      exact h2
theorem Stp.add {K : PySem.W.Frag} {g : Gh} {H : Hp} {n : Nat} (ok : Ok ℓ K g H n) {p : Addr} {o : HO} (h : H p = none) : Stp g H (g.add p o) (upd H p o) := by
  refine ⟨Ext.addN (ok.gnone h), fun a d e => ?_, fun _ _ z => z, fun a u e _ => ?_, fun a d => ?_⟩
  · show upd g.G p o a = none
    rw [upd_ne fun q => d (by rw [q]; exact h)]
    exact e
  · rw [upd_ne (ne_of_none e h)]
    exact e
  · rw [upd_ne fun q => d (by rw [q]; exact h)]
    exact d
theorem Gh.at {g : Gh} {p : Addr} {o : HO} : (g.add p o).G p = some o := upd_same
inductive Sl where
  | no | val (d : D) | own (o : OD)
abbrev Ev := List Sl
def SlOk (K : PySem.W.Frag) (O : OD → Addr → Prop) (g : Gh) (H : Hp) (s : Option (Option V)) : Sl → Prop
  | .no => True
  | .val d => ∃ v, s = some (some v) ∧ Den K g v d
  | .own d => ∃ p o, s = some (some (.ref p)) ∧ O d p ∧ g.G p = none ∧ ¬ g.pot p ∧ H p = some o ∧ OwnH K g d o
structure Rp (ℓ : Bool) (K : PySem.W.Frag) (O : OD → Addr → Prop) (g : Gh) (H : Hp) (n : Nat) (σ : L2.St) (ε : Ev) : Prop where
  ok : Ok ℓ K g H n
  len : σ.length = ε.length
  sl : ∀ (i : Nat) (s : Sl), ε[i]? = some s → SlOk K O g H σ[i]? s
  dis : ∀ (i j : Nat) (p : Addr) (ds es : OD), i ≠ j → ε[i]? = some (.own ds) → ε[j]? = some (.own es) → σ[i]? = some (some (.ref p)) → σ[j]? = some (some (.ref p)) → False
section
variable {K : PySem.W.Frag} {O : OD → Addr → Prop} {g g' : Gh} {H H' : Hp} {n n' : Nat} {σ : L2.St} {ε : Ev}
theorem SlOk.step {s : Option (Option V)} {x : Sl} (h : SlOk K O g H s x) (st : Stp g H g' H') : SlOk K O g' H' s x := by
  cases x with
  | no => trivial
  | val d =>
    obtain ⟨v, e, q⟩ := h
    exact ⟨v, e, q.mono st.ext⟩
  | own ds =>
    obtain ⟨p, vs, e, o, h1, h2, h3, h4⟩ := h
    have d : H p ≠ none := by rw [h3]; exact Option.some_ne_none _
    exact ⟨p, vs, e, o, st.gro p d h1, fun z => h2 (st.grp p d z), st.kep p _ h3 h2, h4.mono st.ext⟩
theorem Rp.step (r : Rp ℓ K O g H n σ ε) (st : Stp g H g' H') (ok : Ok ℓ K g' H' n') : Rp ℓ K O g' H' n' σ ε :=
  ⟨ok, r.len, fun i s e => (r.sl i s e).step st, r.dis⟩
theorem Rp.set (r : Rp ℓ K O g H n σ ε) {i : Nat} {v : V} {d : D} (h : Den K g v d) : Rp ℓ K O g H n (σ.set i (some v)) (ε.set i (.val d)) := by
  refine ⟨r.ok, by rw [List.length_set, List.length_set]; exact r.len, fun j s e => ?_, fun j k p ds es hjk e1 e2 e3 e4 => ?_⟩
  · by_cases q : i = j
    · subst q
      have hl : i < ε.length := by
        rcases Nat.lt_or_ge i ε.length with z | z
        · exact z
        · rw [List.getElem?_eq_none (by rw [List.length_set]; exact z)] at e
          cases e
      rw [List.getElem?_set_self hl] at e
      cases e
      exact ⟨v, List.getElem?_set_self (by rw [r.len]; exact hl), h⟩
    · rw [List.getElem?_set_ne q] at e ⊢
      exact r.sl j s e
  · have nown : ∀ {m : Nat} {fs : OD}, (ε.set i (.val d))[m]? = some (.own fs) → i ≠ m := fun {m fs} z q => by
      subst q
      rw [List.getElem?_set] at z
      simp at z
    have q1 := nown e1
    have q2 := nown e2
    rw [List.getElem?_set_ne q1] at e1 e3
    rw [List.getElem?_set_ne q2] at e2 e4
    exact r.dis j k p ds es hjk e1 e2 e3 e4
def wipeE (ε : Ev) : List Nat → Ev
  | [] => ε
  | v :: vs => (wipeE ε vs).set v .no
theorem Rp.unset (r : Rp ℓ K O g H n σ ε) (i : Nat) : Rp ℓ K O g H n (σ.set i none) (ε.set i .no) := by
  refine ⟨r.ok, by rw [List.length_set, List.length_set]; exact r.len, fun j s e => ?_, fun j k p ds es hjk e1 e2 e3 e4 => ?_⟩
  · by_cases q : i = j
    · subst q
      have hl : i < ε.length := by
        rcases Nat.lt_or_ge i ε.length with z | z
        · exact z
        · rw [List.getElem?_eq_none (by rw [List.length_set]; exact z)] at e
          cases e
      rw [List.getElem?_set_self hl] at e
      cases e
      trivial
    · rw [List.getElem?_set_ne q] at e ⊢
      exact r.sl j s e
  · have nown : ∀ {m : Nat} {fs : OD}, (ε.set i .no)[m]? = some (.own fs) → i ≠ m := fun {m fs} z q => by
      subst q
      rw [List.getElem?_set] at z
      simp at z
    have q1 := nown e1
    have q2 := nown e2
    rw [List.getElem?_set_ne q1] at e1 e3
    rw [List.getElem?_set_ne q2] at e2 e4
    exact r.dis j k p ds es hjk e1 e2 e3 e4
theorem Rp.wipe (r : Rp ℓ K O g H n σ ε) : ∀ vs : List Nat, Rp ℓ K O g H n (wipe σ vs) (wipeE ε vs)
  | [] => r
  | v :: vs => (Rp.wipe r vs).unset v
def frzE (ε : Ev) (i : Nat) : Ev := match ε[i]? with
  | some (.own d) => ε.set i (.val d.d)
  | _ => ε
theorem Ok.addOld (ok : Ok ℓ K g H n) {p : Addr} {o : HO} (h : H p = some o) (h2 : ¬ g.pot p) : Ok ℓ K (g.add p o) H n := by
  refine ⟨fun a u e => ?_, fun a z => ?_, ok.t, ok.cel.step ⟨fun a u q => ?_, fun _ z => z, [], (List.append_nil _).symm, fun _ _ h => by cases h⟩ fun _ _ _ => rfl⟩
  rotate_right
  · show upd g.G p o a = some u
    by_cases w : a = p
    · subst w
      rw [upd_same, ← h]
      exact ok.sub a u q
    · rw [upd_ne w]
      exact q
  · by_cases q : a = p
    · subst q
      have e2 : upd g.G a o a = some u := e
      rw [upd_same] at e2
      rw [h]
      exact e2
    · have e2 : upd g.G p o a = some u := e
      rw [upd_ne q] at e2
      exact ok.sub a u e2
  · have z2 : g.pot a := z
    obtain ⟨h3, h4⟩ := ok.pot a z2
    refine ⟨?_, h4⟩
    show upd g.G p o a = none
    rw [upd_ne fun e => h2 (by rw [← e]; exact z2)]
    exact h3
theorem Ext.addOld {p : Addr} {o : HO} (h : g.G p = none) : Ext g (g.add p o) := Ext.addN h
theorem frz_own {i : Nat} {ds : OD} (e : ε[i]? = some (.own ds)) : frzE ε i = ε.set i (.val ds.d) := by
  unfold frzE
  rw [e]
theorem Rp.freezeAt (r : Rp ℓ K O g H n σ ε) {i : Nat} {p : Addr} {vs : HO} {ds : OD} (e : ε[i]? = some (.own ds)) (e1 : σ[i]? = some (some (.ref p))) (h1 : g.G p = none) (h2 : ¬ g.pot p) (h3 : H p = some vs) (h4 : OwnH K g ds vs) :
    Rp ℓ K O (g.add p vs) H n σ (ε.set i (.val ds.d)) := by
  have ex : Ext g (g.add p vs) := Ext.addOld h1
  have hl : i < ε.length := (List.getElem?_eq_some_iff.mp e).1
  refine ⟨r.ok.addOld h3 h2, by rw [List.length_set]; exact r.len, fun j s q => ?_, fun j k q es fs hjk e2 e3 e4 e5 => ?_⟩
  · by_cases hj : i = j
    · subst hj
      rw [List.getElem?_set_self hl] at q
      cases q
      exact ⟨_, e1, (h4.mono ex).den upd_same⟩
    · rw [List.getElem?_set_ne hj] at q
      have w := r.sl j s q
      cases s with
      | no => trivial
      | val d =>
        obtain ⟨v, w1, w2⟩ := w
        exact ⟨v, w1, w2.mono ex⟩
      | own es =>
        obtain ⟨p2, vs2, w1, o2, w2, w3, w4, w5⟩ := w
        refine ⟨p2, vs2, w1, o2, ?_, w3, w4, w5.mono ex⟩
        show upd g.G p vs p2 = none
        rw [upd_ne fun z => r.dis i j p ds es hj e q e1 (by rw [← z]; exact w1)]
        exact w2
  · have nown : ∀ {m : Nat} {fs : OD}, (ε.set i (.val ds.d))[m]? = some (.own fs) → i ≠ m := fun {m fs} z q => by
      subst q
      rw [List.getElem?_set] at z
      simp at z
    have q1 := nown e2
    have q2 := nown e3
    rw [List.getElem?_set_ne q1] at e2
    rw [List.getElem?_set_ne q2] at e3
    exact r.dis j k q es fs hjk e2 e3 e4 e5
theorem Rp.freeze {g0 : Gh} {H0 : Hp} {U : OD → Addr → Prop} (r : Rp ℓ K (fun d p => H0 p = none ∧ U d p) g H n σ ε) (st : Stp g0 H0 g H) (i : Nat) : ∃ g', Stp g0 H0 g' H ∧ Rp ℓ K (fun d p => H0 p = none ∧ U d p) g' H n σ (frzE ε i) := by
  cases e : ε[i]? with
  | none =>
    have z : frzE ε i = ε := by unfold frzE; rw [e]
    rw [z]
    exact ⟨g, st, r⟩
  | some s =>
    cases s with
    | no =>
      have z : frzE ε i = ε := by unfold frzE; rw [e]
      rw [z]
      exact ⟨g, st, r⟩
    | val d =>
      have z : frzE ε i = ε := by unfold frzE; rw [e]
      rw [z]
      exact ⟨g, st, r⟩
    | own ds =>
      rw [frz_own e]
      obtain ⟨p, vs, e1, o, h1, h2, h3, h4⟩ := r.sl i _ e
      refine ⟨g.add p vs, ⟨st.ext.trans (Ext.addOld h1), fun a d q => ?_, st.grp, st.kep, st.dom⟩, r.freezeAt e e1 h1 h2 h3 h4⟩
      show upd g.G p vs a = none
      have o2 : H0 p = none := o.1
      rw [upd_ne fun z => d (by rw [z]; exact o2)]
      exact st.gro a d q
theorem Rp.tmp (r : Rp false K O g H n σ ε) (i : Nat) : ∃ g1, Rp false K O g1 H n σ (frzE ε i) ∧ ∀ g' H' n', Stp g1 H g' H' → Ok false K g' H' n' → ∃ g'', Stp g H g'' H' ∧ Ok false K g'' H' n' := by
  cases e : ε[i]? with
  | none =>
    have z : frzE ε i = ε := by unfold frzE; rw [e]
    rw [z]
    exact ⟨g, r, fun g' H' n' a b => ⟨g', a, b⟩⟩
  | some s =>
    cases s with
    | no =>
      have z : frzE ε i = ε := by unfold frzE; rw [e]
      rw [z]
      exact ⟨g, r, fun g' H' n' a b => ⟨g', a, b⟩⟩
    | val d =>
      have z : frzE ε i = ε := by unfold frzE; rw [e]
      rw [z]
      exact ⟨g, r, fun g' H' n' a b => ⟨g', a, b⟩⟩
    | own ds =>
      rw [frz_own e]
      obtain ⟨p, vs, e1, o, h1, h2, h3, h4⟩ := r.sl i _ e
      refine ⟨g.add p vs, r.freezeAt e e1 h1 h2 h3 h4, fun g' H' n' a b => ⟨⟨fun x => if x = p then none else g'.G x, g'.pot, g'.cel⟩, ⟨⟨fun x u q => ?_, a.ext.p, a.ext.c⟩, fun x d q => ?_, a.grp, a.kep, a.dom⟩, ⟨fun x u q => ?_, fun x z => ?_, b.t, by rw [b.nocel]; exact CelOk.nil⟩⟩⟩
      · show (if x = p then none else g'.G x) = some u
        rw [if_neg (ne_of_none q h1)]
        exact a.ext.G x u ((Ext.addOld (o := vs) h1).G x u q)
      · show (if x = p then none else g'.G x) = none
        by_cases w : x = p
        · rw [if_pos w]
        · rw [if_neg w]
          refine a.gro x d ?_
          show upd g.G p vs x = none
          rw [upd_ne w]
          exact q
      · have q2 : (if x = p then none else g'.G x) = some u := q
        by_cases w : x = p
        · rw [if_pos w] at q2
          cases q2
        · rw [if_neg w] at q2
          exact b.sub x u q2
      · obtain ⟨z1, z2⟩ := b.pot x z
        refine ⟨?_, z2⟩
        show (if x = p then none else g'.G x) = none
        by_cases w : x = p
        · rw [if_pos w]
        · rw [if_neg w]
          exact z1
end
end Pd
namespace Pd
variable {ℓ : Bool}
open PySem L2
abbrev DE := Nat → Ev → (Nat → D → Prop) → Prop
abbrev DT := Nat → Ev → (Nat → Bool → Prop) → Prop
abbrev DA := Nat → Ev → (Nat → List D → Prop) → Prop
structure DN where
  nx : Nat → Ev → Prop
  rt : Nat → D → Prop
  bk : Nat → Ev → Prop := fun _ _ => False
  ct : Nat → Ev → Prop := fun _ _ => False
  slf : Option Addr := none
  ret : Nat → Ev → D → Prop := fun _ _ _ => False
  rs : Nat → Ev → Nat → Prop := fun _ _ _ => False
  xc : Nat → Ev → Addr → D → Prop := fun _ _ _ _ => False
abbrev DS := DN → Nat → Ev → Prop
def liftE (ℓ : Bool) (K : PySem.W.Frag) (d : DE) : TE := fun σ H Q => ∃ O g n ε P, Rp ℓ K O g H n σ ε ∧ d n ε P ∧ ∀ v g' H' n' r, P n' r → Stp g H g' H' → Ok ℓ K g' H' n' → Den K g' v r → Q v H'
def liftT (ℓ : Bool) (K : PySem.W.Frag) (d : DT) : TT := fun σ H Q => ∃ O g n ε P, Rp ℓ K O g H n σ ε ∧ d n ε P ∧ ∀ b g' H' n', P n' b → Stp g H g' H' → Ok ℓ K g' H' n' → Q b H'
def liftA (ℓ : Bool) (K : PySem.W.Frag) (d : DA) : TA := fun σ H Q => ∃ O g n ε P, Rp ℓ K O g H n σ ε ∧ d n ε P ∧ ∀ vs g' H' n' rs, P n' rs → Stp g H g' H' → Ok ℓ K g' H' n' → Dens K g' vs rs → Q vs H'
structure UOk (s : Option Addr) (U : OD → Addr → Prop) : Prop where
  lst : ∀ ds p, U (.lst ds) p
  ins : ∀ C fs fs' p, U (.ins C fs) p → U (.ins C fs') p
  new : ∀ C fs p, s ≠ some C → U (.ins C fs) p
  dic : ∀ ks vs p, U (.dic ks vs) p
abbrev W0 : WX := fun _ _ _ _ => False
def liftS (ℓ : Bool) (W : WX) (K : PySem.W.Frag) (d : DS) : TS := fun E σ H => ∃ U g0 H0 g n ε N, UOk N.slf U ∧ Rp ℓ K (fun d p => H0 p = none ∧ U d p) g H n σ ε ∧ Stp g0 H0 g H ∧ d N n ε ∧
  (∀ σ' g' H' n' ε', N.nx n' ε' → Rp ℓ K (fun d p => H0 p = none ∧ U d p) g' H' n' σ' ε' → Stp g0 H0 g' H' → E.nx σ' H') ∧
  (∀ σ' g' H' n' ε', N.bk n' ε' → Rp ℓ K (fun d p => H0 p = none ∧ U d p) g' H' n' σ' ε' → Stp g0 H0 g' H' → E.bk σ' H') ∧
  (∀ σ' g' H' n' ε', N.ct n' ε' → Rp ℓ K (fun d p => H0 p = none ∧ U d p) g' H' n' σ' ε' → Stp g0 H0 g' H' → E.ct σ' H') ∧
  (∀ v g' H' n' r, N.rt n' r → Stp g0 H0 g' H' → Ok ℓ K g' H' n' → Den K g' v r → E.rt v H') ∧
  (∀ v σ' g' H' n' ε' r, N.ret n' ε' r → Rp ℓ K (fun d p => H0 p = none ∧ U d p) g' H' n' σ' ε' → Stp g0 H0 g' H' → Den K g' v r → E.rt v H') ∧
  (∀ σ' g' H' n' ε' i p, N.rs n' ε' i → Rp ℓ K (fun d p => H0 p = none ∧ U d p) g' H' n' σ' ε' → Stp g0 H0 g' H' → σ'[i]? = some (some (.ref p)) → E.rt (.ref p) H') ∧
  (∀ σ' g' H' n' ε' C dx r v, N.xc n' ε' C r → Rp ℓ K (fun d p => H0 p = none ∧ U d p) g' H' n' σ' ε' → Stp g0 H0 g' H' → g'.G dx = some (.xd [("value", v)]) → Den K g' v r → W (.ref C) (some dx) σ' H')
section
variable {X : Cx} {e : Expr} {es : List Expr} {st : Stmt} {sts : List Stmt}
theorem pe_w {t t' : TE} (h : PE X e t) (w : ∀ σ H Q, t' σ H Q → t σ H Q) : PE X e t' := ⟨fun pins s σ H Q I q => h.run pins s σ H Q I (w σ H Q q)⟩
theorem pt_w {t t' : TT} (h : PT X e t) (w : ∀ σ H Q, t' σ H Q → t σ H Q) : PT X e t' := ⟨fun pins s σ H Q I q => h.run pins s σ H Q I (w σ H Q q)⟩
theorem pw_w {t t' : TT} (h : PW X e t) (w : ∀ σ H Q, t' σ H Q → t σ H Q) : PW X e t' := ⟨fun wh pins s σ H Q I q => h.run wh pins s σ H Q I (w σ H Q q)⟩
theorem pa_w {t t' : TA} (h : PA X es t) (w : ∀ σ H Q, t' σ H Q → t σ H Q) : PA X es t' := ⟨fun pos pins s σ H Q I q => h.run pos pins s σ H Q I (w σ H Q q)⟩
theorem ps_w {t t' : TS} (h : PS X st t) (w : ∀ E σ H, t' E σ H → t E σ H) : PS X st t' := ⟨fun pins s σ H E I q => h.run pins s σ H E I (w E σ H q)⟩
theorem pss_w {t t' : TS} (h : PSs X sts t) (w : ∀ E σ H, t' E σ H → t E σ H) : PSs X sts t' := ⟨fun pins s σ H E I q => h.run pins s σ H E I (w E σ H q)⟩
end
def Fin (ℓ : Bool) (K : PySem.W.Frag) (g : Gh) (H : Hp) (n : Nat) (P : D → Prop) (Q : VK) : Prop := ∀ v g' H' r, P r → Stp g H g' H' → Ok ℓ K g' H' n → Den K g' v r → Q v H'
section
variable {K : PySem.W.Frag} {g : Gh} {H : Hp} {n : Nat} {P : D → Prop} {Q : VK}
theorem Fin.flat (f : Fin ℓ K g H n P Q) (ok : Ok ℓ K g H n) {v : V} {d : D} (p : P d) (h : Den K g v d) : Q v H := f v g H d p (Stp.refl g H) ok h
theorem Fin.newL (f : Fin ℓ K g H n P Q) (ok : Ok ℓ K g H n) {vs : List V} {ds : List D} (p : P (.lst ds)) (h : Dens K g vs ds) {a : Addr} (ha : H a = none) : Q (.ref a) (upd H a (.lst vs)) :=
  f _ _ _ _ p (Stp.add ok ha) (ok.add ha) (.lst Gh.at (h.mono (Stp.add ok ha).ext))
theorem Fin.newT (f : Fin ℓ K g H n P Q) (ok : Ok ℓ K g H n) {vs : List V} {ds : List D} (p : P (.tup ds)) (h : Dens K g vs ds) {a : Addr} (ha : H a = none) : Q (.ref a) (upd H a (.tup vs)) :=
  f _ _ _ _ p (Stp.add ok ha) (ok.add ha) (.tup (.inl Gh.at) (h.mono (Stp.add ok ha).ext))
end
theorem sz {n : Nat} (h : n ≤ 16777216) : n ≤ sizeLine := by
  rw [sizeLine_eq]
  exact h
def dVar (i : Nat) : DE := fun n ε P => match ε[i]? with
  | some (.val d) => P n d
  | _ => False
def dC (d : D) : DE := fun n _ P => P n d
section
variable {X : Cx} {pos : Pos}
theorem de_of {e : Expr} {t : TE} {d : DE} (h : PE X e t) (w : ∀ O g H n σ ε P Q, Rp ℓ X.K O g H n σ ε → d n ε P → (∀ v g' H' n' r, P n' r → Stp g H g' H' → Ok ℓ X.K g' H' n' → Den X.K g' v r → Q v H') → t σ H Q) : PE X e (liftE ℓ X.K d) :=
  pe_w h fun σ H Q ⟨O, g, n, ε, P, r, q, k⟩ => w O g H n σ ε P Q r q k
theorem de_var (i : Nat) {x : Str} (hN : X.N[i]? = some x := by rfl) (hv : Vis X.env.scope x := by first | exact Or.inl rfl | exact Or.inr (Or.inl rfl) | exact Or.inr (Or.inr rfl)) (hd : (x == ("__debug__" : Str)) = false := by decide)
    (hcd : (x == ("__classdict__" : Str)) = false := by decide) : PE X (.Name x pos) (liftE ℓ X.K (dVar i)) :=
  de_of (pe_var hN hv hd hcd) fun O g H n σ ε P Q r q k => by
    unfold dVar at q
    split at q
    · rename_i d e
      obtain ⟨v, e1, e2⟩ := r.sl i _ e
      exact ⟨v, e1, k v g H n d q (Stp.refl g H) r.ok e2⟩
    · exact q.elim
theorem de_c {e : Expr} {v : V} {d : D} (h : PE X e (tC v)) (hd : ∀ g, Den X.K g v d) : PE X e (liftE ℓ X.K (dC d)) :=
  de_of h fun O g H n σ ε P Q r q k => k v g H n d q (Stp.refl g H) r.ok (hd g)
theorem de_int {i : Int} {j : Nat} : PE X (.Constant (.int i) j pos) (liftE ℓ X.K (dC (.int i))) := de_c pe_int fun _ => .int i
theorem de_bl {i : Bool} {j : Nat} : PE X (.Constant (.bool i) j pos) (liftE ℓ X.K (dC (.bl i))) := de_c pe_bl fun _ => .bl i
theorem de_non {j : Nat} : PE X (.Constant .none j pos) (liftE ℓ X.K (dC .non)) := de_c pe_non fun _ => .non
theorem de_str (l : List Nat) {x : Str} {j : Nat} (h : x = ⟨l.toArray⟩ := by decide +kernel) : PE X (.Constant (.str x) j pos) (liftE ℓ X.K (dC (.str l))) := by
  subst h
  exact de_c pe_str fun _ => .str l
theorem de_gint {x : Str} {i : Int} (hg : Gl X x) (hm : ∃ t, X.mg x = some (.int i t)) (hd : (x == ("__debug__" : Str)) = false := by decide) : PE X (.Name x pos) (liftE ℓ X.K (dC (.int i))) := by
  obtain ⟨t, e⟩ := hm
  exact de_c (pe_glob (v := .int i) hg e ⟨t, rfl⟩ hd) fun _ => .int i
theorem de_gstr {x : Str} (l : List Nat) (hg : Gl X x) (hm : ∃ t, X.mg x = some (.str ⟨l.toArray⟩ t)) (hd : (x == ("__debug__" : Str)) = false := by decide) : PE X (.Name x pos) (liftE ℓ X.K (dC (.str l))) := by
  obtain ⟨t, e⟩ := hm
  exact de_c (pe_glob (v := .str ⟨l.toArray⟩) hg e ⟨t, rfl⟩ hd) fun _ => .str l
end
abbrev G2 := D → D → (D → Prop) → Prop
structure SOp (ℓ : Bool) (K : PySem.W.Frag) (r : R2) (go : G2) : Prop where
  ok : ∀ {g : Gh} {H : Hp} {n : Nat} {x y : V} {dx dy : D} {P : D → Prop} {Q : VK}, Ok ℓ K g H n → Den K g x dx → Den K g y dy → go dx dy P → Fin ℓ K g H n P Q → r x y H Q
def dOp (go : G2) (da db : DE) : DE := fun n ε P => da n ε fun n1 x => db n1 ε fun n2 y => go x y (P n2)
theorem two_ok {K : PySem.W.Frag} {da db : DE} {σ : L2.St} {H : Hp} {O : OD → Addr → Prop} {g : Gh} {n : Nat} {ε : Ev} {R : Nat → D → D → Prop} {S : V → V → Hp → Prop} (r : Rp ℓ K O g H n σ ε) (q : da n ε fun n1 x => db n1 ε fun n2 y => R n2 x y)
    (k : ∀ x y g' H' n' dx dy, R n' dx dy → Stp g H g' H' → Ok ℓ K g' H' n' → Den K g' x dx → Den K g' y dy → S x y H') : liftE ℓ K da σ H fun x H1 => liftE ℓ K db σ H1 fun y H2 => S x y H2 :=
  ⟨O, g, n, ε, _, r, q, fun v1 g1 H1 n1 d1 q1 s1 o1 e1 => ⟨O, g1, n1, ε, _, r.step s1 o1, q1, fun v2 g2 H2 n2 d2 q2 s2 o2 e2 => k v1 v2 g2 H2 n2 d1 d2 q2 (s1.trans s2) o2 (e1.mono s2.ext) e2⟩⟩
section
variable {X : Cx} {pos : Pos} {a b c : Expr} {da db dc : DE}
theorem Fin.of {K : PySem.W.Frag} {g g' : Gh} {H H' : Hp} {n' : Nat} {P : Nat → D → Prop} {Q : VK} (k : ∀ v g' H' n' r, P n' r → Stp g H g' H' → Ok ℓ K g' H' n' → Den K g' v r → Q v H') (s : Stp g H g' H') : Fin ℓ K g' H' n' (P n') Q :=
  fun v g2 H2 r p s2 o2 e2 => k v g2 H2 n' r p (s.trans s2) o2 e2
theorem de_op {op : Operator} {r : R2} {go : G2} (ho : OpR X (binaryOp op) r) (hs : SOp ℓ X.K r go) (ha : PE X a (liftE ℓ X.K da)) (hb : PE X b (liftE ℓ X.K db)) : PE X (.BinOp a op b pos) (liftE ℓ X.K (dOp go da db)) :=
  de_of (pe_op ho ha hb) fun O g H n σ ε P Q r q k => two_ok r q fun x y g' H' n' dx dy q2 s o e1 e2 => hs.ok o e1 e2 q2 (Fin.of k s)
theorem de_cmp {op : CmpOp} {r : R2} {go : G2} (ho : OpR X (compareOp op) r) (hs : SOp ℓ X.K r go) (ha : PE X a (liftE ℓ X.K da)) (hb : PE X b (liftE ℓ X.K db)) (hm : behindInMarks op b = false := by first | exact nomark _ | rfl) : PE X (.Compare a [op] [b] pos) (liftE ℓ X.K (dOp go da db)) :=
  de_of (pe_cmpR ho ha hb hm) fun O g H n σ ε P Q r q k => two_ok r q fun x y g' H' n' dx dy q2 s o e1 e2 => hs.ok o e1 e2 q2 (Fin.of k s)
def dTB (d : DE) : DT := fun n ε P => d n ε fun n' x => match x with
  | .bl b => P n' b
  | _ => False
theorem dtb_ok {K : PySem.W.Frag} {O : OD → Addr → Prop} {g : Gh} {H : Hp} {n : Nat} {σ : L2.St} {ε : Ev} {d : DE} {P : Nat → Bool → Prop} {Q : Bool → Hp → Prop} (r : Rp ℓ K O g H n σ ε) (q : dTB d n ε P) (k : ∀ b g' H' n', P n' b → Stp g H g' H' → Ok ℓ K g' H' n' → Q b H') :
    liftE ℓ K d σ H fun x H' => ∃ k, x = .bl k ∧ Q k H' :=
  ⟨O, g, n, ε, _, r, q, fun v g' H' n' x q s o e => by
    cases x with
    | bl b =>
      cases e
      exact ⟨b, rfl, k b g' H' n' q s o⟩
    | _ => exact q.elim⟩
theorem dt_cmp {op : CmpOp} {r : R2} {go : G2} (ho : OpR X (compareOp op) r) (hs : SOp ℓ X.K r go) (ha : PE X a (liftE ℓ X.K da)) (hb : PE X b (liftE ℓ X.K db)) (hm : behindInMarks op b = false := by first | exact nomark _ | rfl) : PT X (.Compare a [op] [b] pos) (liftT ℓ X.K (dTB (dOp go da db))) :=
  pt_w (pt_cmpR ho ha hb hm) fun σ H Q ⟨O, g, n, ε, P, r, q, k⟩ => two_ok r q fun x y g' H' n' dx dy q2 s o e1 e2 => hs.ok o e1 e2 q2 (Fin.of (P := fun n' x => match x with
    | .bl b => P n' b
    | _ => False) (fun v g2 H2 n2 z p s2 o2 e3 => by
      cases z with
      | bl b =>
        cases e3
        exact ⟨b, rfl, k b g2 H2 n2 p s2 o2⟩
      | _ => exact p.elim) s)
theorem dt_val (ha : PE X a (liftE ℓ X.K da)) (he : ∀ whole, isTrue a X.env whole = (do let v ← whole; standAt a.pos; holding [v] (truthy v)) := by intro _; rfl) : PT X a (liftT ℓ X.K (dTB da)) :=
  pt_w (pt_val ha he) fun σ H Q ⟨O, g, n, ε, P, r, q, k⟩ => dtb_ok r q k
end
def dAnd (s t : DT) : DT := fun n ε P => s n ε fun n1 b => (b = true → t n1 ε P) ∧ (b = false → P n1 false)
def dOr (s t : DT) : DT := fun n ε P => s n ε fun n1 b => (b = true → P n1 true) ∧ (b = false → t n1 ε P)
def dNot (s : DT) : DT := fun n ε P => s n ε fun n1 b => P n1 (!b)
def dBV (s : DT) : DE := fun n ε P => s n ε fun n1 b => P n1 (.bl b)
section
variable {X : Cx} {pos : Pos} {a b c : Expr} {da db dc : DE} {s t : DT} {rest : List Expr}
theorem and_ok {K : PySem.W.Frag} : ∀ σ H Q, liftT ℓ K (dAnd s t) σ H Q → tAnd (liftT ℓ K s) (liftT ℓ K t) σ H Q := fun σ H Q ⟨O, g, n, ε, P, r, q, k⟩ =>
  ⟨O, g, n, ε, _, r, q, fun b g1 H1 n1 q1 s1 o1 => by
    cases b with
    | true => exact ⟨O, g1, n1, ε, P, r.step s1 o1, q1.1 rfl, fun b2 g2 H2 n2 q2 s2 o2 => k b2 g2 H2 n2 q2 (s1.trans s2) o2⟩
    | false => exact k false g1 H1 n1 (q1.2 rfl) s1 o1⟩
theorem or_ok {K : PySem.W.Frag} : ∀ σ H Q, liftT ℓ K (dOr s t) σ H Q → tOr (liftT ℓ K s) (liftT ℓ K t) σ H Q := fun σ H Q ⟨O, g, n, ε, P, r, q, k⟩ =>
  ⟨O, g, n, ε, _, r, q, fun b g1 H1 n1 q1 s1 o1 => by
    cases b with
    | false => exact ⟨O, g1, n1, ε, P, r.step s1 o1, q1.2 rfl, fun b2 g2 H2 n2 q2 s2 o2 => k b2 g2 H2 n2 q2 (s1.trans s2) o2⟩
    | true => exact k true g1 H1 n1 (q1.1 rfl) s1 o1⟩
theorem dw_and1 (ha : PT X a (liftT ℓ X.K s)) : PW X (.BoolOp .And [a] pos) (liftT ℓ X.K s) := pw_and1 ha
theorem dw_or1 (ha : PT X a (liftT ℓ X.K s)) : PW X (.BoolOp .Or [a] pos) (liftT ℓ X.K s) := pw_or1 ha
theorem dw_and (ha : PT X a (liftT ℓ X.K s)) (hb : PW X (.BoolOp .And (b :: rest) pos) (liftT ℓ X.K t)) : PW X (.BoolOp .And (a :: b :: rest) pos) (liftT ℓ X.K (dAnd s t)) := pw_w (pw_and ha hb) and_ok
theorem dw_or (ha : PT X a (liftT ℓ X.K s)) (hb : PW X (.BoolOp .Or (b :: rest) pos) (liftT ℓ X.K t)) : PW X (.BoolOp .Or (a :: b :: rest) pos) (liftT ℓ X.K (dOr s t)) := pw_w (pw_or ha hb) or_ok
theorem dt_w (h : PW X a (liftT ℓ X.K s)) : PT X a (liftT ℓ X.K s) := h.pt
theorem dt_not (ha : PT X a (liftT ℓ X.K s)) : PT X (.UnaryOp .Not a pos) (liftT ℓ X.K (dNot s)) := pt_w (pt_not ha) fun σ H Q ⟨O, g, n, ε, P, r, q, k⟩ =>
  ⟨O, g, n, ε, _, r, q, fun b g1 H1 n1 q1 s1 o1 => k (!b) g1 H1 n1 q1 s1 o1⟩
def dAndV (s : DT) (d : DE) : DE := fun n ε P => s n ε fun n1 b => (b = true → d n1 ε P) ∧ (b = false → P n1 (.bl false))
def dOrV (s : DT) (d : DE) : DE := fun n ε P => s n ε fun n1 b => (b = true → P n1 (.bl true)) ∧ (b = false → d n1 ε P)
theorem de_one {op : BoolOp} (h : PE X a (liftE ℓ X.K da)) : PE X (.BoolOp op [a] pos) (liftE ℓ X.K da) := pe_one h
theorem de_and (ha : PE X a (liftE ℓ X.K da)) (hb : PE X (.BoolOp .And (b :: rest) pos) (liftE ℓ X.K db)) : PE X (.BoolOp .And (a :: b :: rest) pos) (liftE ℓ X.K (dAndV (dTB da) db)) :=
  de_of (pe_and ha hb) fun O g H n σ ε P Q r q k => ⟨O, g, n, ε, _, r, q, fun v g1 H1 n1 x q1 s1 o1 e1 => by
    cases x with
    | bl c =>
      cases e1
      refine ⟨c, rfl, ?_⟩
      cases c with
      | true => exact ⟨O, g1, n1, ε, P, r.step s1 o1, q1.1 rfl, fun v2 g2 H2 n2 d2 q2 s2 o2 e2 => k v2 g2 H2 n2 d2 q2 (s1.trans s2) o2 e2⟩
      | false => exact k _ g1 H1 n1 _ (q1.2 rfl) s1 o1 (.bl false)
    | _ => exact q1.elim⟩
theorem de_or (ha : PE X a (liftE ℓ X.K da)) (hb : PE X (.BoolOp .Or (b :: rest) pos) (liftE ℓ X.K db)) : PE X (.BoolOp .Or (a :: b :: rest) pos) (liftE ℓ X.K (dOrV (dTB da) db)) :=
  de_of (pe_or ha hb) fun O g H n σ ε P Q r q k => ⟨O, g, n, ε, _, r, q, fun v g1 H1 n1 x q1 s1 o1 e1 => by
    cases x with
    | bl c =>
      cases e1
      refine ⟨c, rfl, ?_⟩
      cases c with
      | false => exact ⟨O, g1, n1, ε, P, r.step s1 o1, q1.2 rfl, fun v2 g2 H2 n2 d2 q2 s2 o2 e2 => k v2 g2 H2 n2 d2 q2 (s1.trans s2) o2 e2⟩
      | true => exact k _ g1 H1 n1 _ (q1.1 rfl) s1 o1 (.bl true)
    | _ => exact q1.elim⟩
def dIte (t : DT) (da db : DE) : DE := fun n ε P => t n ε fun n1 c => (c = true → da n1 ε P) ∧ (c = false → db n1 ε P)
theorem de_ite (hc : PT X c (liftT ℓ X.K t)) (ha : PE X a (liftE ℓ X.K da)) (hb : PE X b (liftE ℓ X.K db)) : PE X (.IfExp c a b pos) (liftE ℓ X.K (dIte t da db)) :=
  de_of (pe_ifExp hc ha hb) fun O g H n σ ε P Q r q k => ⟨O, g, n, ε, _, r, q, fun c g1 H1 n1 q1 s1 o1 => by
    cases c with
    | true => exact ⟨O, g1, n1, ε, P, r.step s1 o1, q1.1 rfl, fun v2 g2 H2 n2 d2 q2 s2 o2 e2 => k v2 g2 H2 n2 d2 q2 (s1.trans s2) o2 e2⟩
    | false => exact ⟨O, g1, n1, ε, P, r.step s1 o1, q1.2 rfl, fun v2 g2 H2 n2 d2 q2 s2 o2 e2 => k v2 g2 H2 n2 d2 q2 (s1.trans s2) o2 e2⟩⟩
def dChain (go go' : G2) (da db dc : DE) : DE := fun n ε P => da n ε fun n1 x => db n1 ε fun n2 y => go x y fun z => match z with
  | .bl k => (k = true → dc n2 ε fun n3 w => go' y w (P n3)) ∧ (k = false → P n2 (.bl false))
  | _ => False
end
def dNil : DA := fun n _ P => P n []
def dCons (d : DE) (t : DA) : DA := fun n ε P => d n ε fun n1 x => t n1 ε fun n2 xs => P n2 (x :: xs)
def dLst (t : DA) : DE := fun n ε P => t n ε fun n1 xs => xs.length ≤ 16777216 ∧ P n1 (.lst xs)
def dTup (t : DA) : DE := fun n ε P => t n ε fun n1 xs => xs.length ≤ 16777216 ∧ P n1 (.tup xs)
section
variable {X : Cx} {pos : Pos} {e : Expr} {es : List Expr} {d : DE} {t : DA}
theorem da_nil : PA X [] (liftA ℓ X.K dNil) := pa_w pa_nil fun σ H Q ⟨O, g, n, ε, P, r, q, k⟩ => k [] g H n [] q (Stp.refl g H) r.ok .nil
theorem da_cons (ha : PE X e (liftE ℓ X.K d)) (hr : PA X es (liftA ℓ X.K t)) (hs : starEach (e :: es) X.env = (false, eval e X.env) :: starEach es X.env := by rfl) : PA X (e :: es) (liftA ℓ X.K (dCons d t)) :=
  pa_w (pa_cons ha hr hs) fun σ H Q ⟨O, g, n, ε, P, r, q, k⟩ => ⟨O, g, n, ε, _, r, q, fun v1 g1 H1 n1 d1 q1 s1 o1 e1 => ⟨O, g1, n1, ε, _, r.step s1 o1, q1, fun vs g2 H2 n2 ds q2 s2 o2 e2 => k _ g2 H2 n2 _ q2 (s1.trans s2) o2 (.cons (e1.mono s2.ext) e2)⟩⟩
theorem de_lst (h : PA X es (liftA ℓ X.K t)) : PE X (.List es pos) (liftE ℓ X.K (dLst t)) :=
  de_of (pe_lst h) fun O g H n σ ε P Q r q k => ⟨O, g, n, ε, _, r, q, fun vs g1 H1 n1 ds q1 s1 o1 e1 => ⟨by rw [e1.length]; exact sz q1.1, fun p hp => k _ _ _ n1 _ q1.2 (s1.trans (Stp.add o1 hp)) (o1.add hp) (.lst Gh.at (e1.mono (Stp.add o1 hp).ext))⟩⟩
theorem de_tup {x1 : Nat} (h : PA X es (liftA ℓ X.K t)) : PE X (.Tuple es x1 pos) (liftE ℓ X.K (dTup t)) :=
  de_of (pe_tup h) fun O g H n σ ε P Q r q k => ⟨O, g, n, ε, _, r, q, fun vs g1 H1 n1 ds q1 s1 o1 e1 => ⟨by rw [e1.length]; exact sz q1.1, fun p hp => k _ _ _ n1 _ q1.2 (s1.trans (Stp.add o1 hp)) (o1.add hp) (.tup (.inl Gh.at) (e1.mono (Stp.add o1 hp).ext))⟩⟩
end
end Pd
namespace Pd
variable {ℓ : Bool}
open PySem L2
variable {W : WX}
abbrev DO := Nat → Ev → (Nat → List D → Prop) → Prop
def liftO (ℓ : Bool) (K : PySem.W.Frag) (d : DO) : TE := fun σ H Q => ∃ O g n ε P, Rp ℓ K O g H n σ ε ∧ d n ε P ∧ ∀ p vs g' H' n' ds, P n' ds → Stp g H g' H' → Ok ℓ K g' H' n' → H p = none → g'.G p = none → ¬ g'.pot p → H' p = some (.lst vs) → Dens K g' vs ds → Q (.ref p) H'
def dO (d : DO) : DE := fun n ε P => d n ε fun n' ds => P n' (.lst ds)
def dLstO (t : DA) : DO := fun n ε P => t n ε fun n1 xs => xs.length ≤ 16777216 ∧ P n1 xs
theorem new_own {K : PySem.W.Frag} {g : Gh} {H : Hp} {n : Nat} (ok : Ok ℓ K g H n) {p : Addr} (hp : H p = none) (o : HO) (ho : ∀ ps, o ≠ .tbl ps := by (intro ps z; cases z)) : Stp g H g (upd H p o) ∧ Ok ℓ K g (upd H p o) n ∧ g.G p = none ∧ ¬ g.pot p := by
  have h1 := ok.gnone hp
  have h2 := ok.npot hp
  refine ⟨⟨Ext.refl g, fun _ _ z => z, fun _ _ z => z, fun a u e _ => ?_, fun a d => ?_⟩, ⟨fun a u e => ?_, fun a z => ?_, ok.t.new hp ho, ok.cel.step (Ext.refl g) fun a C m => upd_ne fun q => (ok.cel.mem m).1 |> fun z => h2 (by rw [← q]; exact z)⟩, h1, h2⟩
  · rw [upd_ne (ne_of_none e hp)]
    exact e
  · rw [upd_ne fun q => d (by rw [q]; exact hp)]
    exact d
  · rw [upd_ne (ne_of_none e h1)]
    exact ok.sub a u e
  · rw [upd_ne fun q => h2 (by rw [← q]; exact z)]
    exact ok.pot a z
section
variable {X : Cx} {pos : Pos} {e : Expr} {es : List Expr} {d : DO} {t : DA}
theorem do_lst (h : PA X es (liftA ℓ X.K t)) : PE X (.List es pos) (liftO ℓ X.K (dLstO t)) :=
  pe_w (pe_lst h) fun σ H Q ⟨O, g, n, ε, P, r, q, k⟩ => ⟨O, g, n, ε, _, r, q, fun vs g1 H1 n1 ds q1 s1 o1 e1 => ⟨by rw [e1.length]; exact sz q1.1, fun p hp => by
    obtain ⟨z1, z2, z3, z4⟩ := new_own o1 hp (.lst vs)
    have hp0 : H p = none := by
      cases w : H p with
      | none => rfl
      | some u => exact absurd hp (s1.dom p (by rw [w]; exact Option.some_ne_none u))
    exact k p vs g1 _ n1 ds q1.2 (s1.trans z1) z2 hp0 z3 z4 upd_same e1⟩⟩
theorem de_own (h : PE X e (liftO ℓ X.K d)) : PE X e (liftE ℓ X.K (dO d)) :=
  pe_w h fun σ H Q ⟨O, g, n, ε, P, r, q, k⟩ => ⟨O, g, n, ε, _, r, q, fun p vs g' H' n' ds q1 s1 o1 h0 h1 h2 h3 h4 => by
    have ex : Ext g' (g'.add p (.lst vs)) := Ext.addOld h1
    have st : Stp g H (g'.add p (.lst vs)) H' := ⟨s1.ext.trans ex, fun a dd z => by
      show upd g'.G p (.lst vs) a = none
      rw [upd_ne fun w => dd (by rw [w]; exact h0)]
      exact s1.gro a dd z, s1.grp, s1.kep, s1.dom⟩
    exact k _ _ H' n' _ q1 st (o1.addOld h3 h2) (.lst Gh.at (h4.mono ex))⟩
end
abbrev DB := Nat → Ev → (Nat → List Sl → Prop) → Prop
inductive Sls (K : PySem.W.Frag) (g : Gh) (H0 H : Hp) : List V → List Sl → Prop
  | nil : Sls K g H0 H [] []
  | val {v : V} {d : D} {vs : List V} {ss : List Sl} : Den K g v d → Sls K g H0 H vs ss → Sls K g H0 H (v :: vs) (.val d :: ss)
  | own {p : Addr} {o : HO} {d : List D} {vs : List V} {ss : List Sl} : H0 p = none → g.G p = none → ¬ g.pot p → H p = some o → OwnH K g (.lst d) o → (∀ (i : Nat) (d' : OD), ss[i]? = some (.own d') → vs[i]? ≠ some (.ref p)) → Sls K g H0 H vs ss → Sls K g H0 H (.ref p :: vs) (.own (.lst d) :: ss)
def liftB (ℓ : Bool) (K : PySem.W.Frag) (d : DB) : TA := fun σ H Q => ∃ O g n ε P, Rp ℓ K O g H n σ ε ∧ d n ε P ∧ ∀ vs g' H' n' ss, P n' ss → Stp g H g' H' → Ok ℓ K g' H' n' → Sls K g' H H' vs ss → Q vs H'
section
variable {K : PySem.W.Frag} {g g' : Gh} {H0 H1 H H' : Hp}
theorem Sls.length : ∀ {vs : List V} {ss : List Sl}, Sls K g H0 H vs ss → vs.length = ss.length
  | _, _, .nil => rfl
  | _, _, .val _ t => congrArg Nat.succ (Sls.length t)
  | _, _, .own _ _ _ _ _ _ t => congrArg Nat.succ (Sls.length t)
theorem Sls.back (h : ∀ p, H1 p = none → H0 p = none) : ∀ {vs : List V} {ss : List Sl}, Sls K g H1 H vs ss → Sls K g H0 H vs ss
  | _, _, .nil => .nil
  | _, _, .val a t => .val a (Sls.back h t)
  | _, _, .own a b c d e f t => .own (h _ a) b c d e f (Sls.back h t)
theorem Sls.fresh : ∀ {vs : List V} {ss : List Sl} {i : Nat} {d : OD} {p : Addr}, Sls K g H0 H vs ss → ss[i]? = some (.own d) → vs[i]? = some (.ref p) → H0 p = none
  | _, _, _, _, _, .nil, e, _ => by simp at e
  | _, _, 0, _, _, .val _ _, e, _ => by simp at e
  | _, _, i + 1, _, _, .val _ t, e, q => Sls.fresh (i := i) t (by simpa using e) (by simpa using q)
  | _, _, 0, _, _, .own a _ _ _ _ _ _, _, q => by
    simp at q
    rw [← q]
    exact a
  | _, _, i + 1, _, _, .own _ _ _ _ _ _ t, e, q => Sls.fresh (i := i) t (by simpa using e) (by simpa using q)
end
theorem Stp.back0 {g g' : Gh} {H H' : Hp} (s : Stp g H g' H') {p : Addr} (h : H' p = none) : H p = none := by
  cases w : H p with
  | none => rfl
  | some u => exact absurd h (s.dom p (by rw [w]; exact Option.some_ne_none u))
def bNil : DB := fun n _ P => P n []
def bCons (d : DE) (t : DB) : DB := fun n ε P => d n ε fun n1 x => t n1 ε fun n2 xs => P n2 (.val x :: xs)
def bOwn (d : DO) (t : DB) : DB := fun n ε P => d n ε fun n1 x => t n1 ε fun n2 xs => P n2 (.own (.lst x) :: xs)
section
variable {X : Cx} {pos : Pos} {e : Expr} {es : List Expr} {d : DE} {o : DO} {t : DB}
theorem db_nil : PA X [] (liftB ℓ X.K bNil) := pa_w pa_nil fun σ H Q ⟨O, g, n, ε, P, r, q, k⟩ => k [] g H n [] q (Stp.refl g H) r.ok .nil
theorem db_cons (ha : PE X e (liftE ℓ X.K d)) (hr : PA X es (liftB ℓ X.K t)) (hs : starEach (e :: es) X.env = (false, eval e X.env) :: starEach es X.env := by rfl) : PA X (e :: es) (liftB ℓ X.K (bCons d t)) :=
  pa_w (pa_cons ha hr hs) fun σ H Q ⟨O, g, n, ε, P, r, q, k⟩ => ⟨O, g, n, ε, _, r, q, fun v1 g1 H1 n1 d1 q1 s1 o1 e1 => ⟨O, g1, n1, ε, _, r.step s1 o1, q1, fun vs g2 H2 n2 ds q2 s2 o2 e2 =>
    k _ g2 H2 n2 _ q2 (s1.trans s2) o2 (.val (e1.mono s2.ext) (e2.back fun p z => s1.back0 z))⟩⟩
theorem db_own (ha : PE X e (liftO ℓ X.K o)) (hr : PA X es (liftB ℓ X.K t)) (hs : starEach (e :: es) X.env = (false, eval e X.env) :: starEach es X.env := by rfl) : PA X (e :: es) (liftB ℓ X.K (bOwn o t)) :=
  pa_w (pa_cons ha hr hs) fun σ H Q ⟨O, g, n, ε, P, r, q, k⟩ => ⟨O, g, n, ε, _, r, q, fun p vs1 g1 H1 n1 d1 q1 s1 o1 h0 h1 h2 h3 h4 => ⟨O, g1, n1, ε, _, r.step s1 o1, q1, fun vs g2 H2 n2 ds q2 s2 o2 e2 => by
    have dn : H1 p ≠ none := by rw [h3]; exact Option.some_ne_none _
    refine k _ g2 H2 n2 _ q2 (s1.trans s2) o2 (.own h0 (s2.gro p dn h1) (fun z => h2 (s2.grp p dn z)) (s2.kep p _ h3 h2) ⟨vs1, rfl, h4.mono s2.ext⟩ (fun i d' z w => ?_) (e2.back fun p z => s1.back0 z))
    exact dn (e2.fresh z w)⟩⟩
end
def setV (σ : L2.St) : List Nat → List V → L2.St
  | [], _ => σ
  | _ :: _, [] => σ
  | i :: is, v :: vs => setV (σ.set i (some v)) is vs
def setL (ε : Ev) : List Nat → List Sl → Ev
  | [], _ => ε
  | _ :: _, [] => ε
  | i :: is, s :: ss => setL (ε.set i s) is ss
theorem setV_nil {σ : L2.St} {vs : List V} : setV σ [] vs = σ := by cases vs <;> rfl
theorem setL_nil {ε : Ev} {ss : List Sl} : setL ε [] ss = ε := by cases ss <;> rfl
section
variable {K : PySem.W.Frag} {O : OD → Addr → Prop} {g : Gh} {H Hb : Hp} {n : Nat}
theorem Rp.setOwn {σ : L2.St} {ε : Ev} (r : Rp ℓ K O g H n σ ε) {i : Nat} {p : Addr} {o : HO} {d : OD} (ho : O d p) (h1 : g.G p = none) (h2 : ¬ g.pot p) (h3 : H p = some o) (h4 : OwnH K g d o)
    (h5 : ∀ (j : Nat) (d' : OD), ε[j]? = some (.own d') → σ[j]? ≠ some (some (.ref p))) : Rp ℓ K O g H n (σ.set i (some (.ref p))) (ε.set i (.own d)) := by
  refine ⟨r.ok, by rw [List.length_set, List.length_set]; exact r.len, fun j s e => ?_, fun j k q ds es hjk e1 e2 e3 e4 => ?_⟩
  · by_cases q : i = j
    · subst q
      have hl : i < ε.length := by
        rcases Nat.lt_or_ge i ε.length with z | z
        · exact z
        · rw [List.getElem?_eq_none (by rw [List.length_set]; exact z)] at e
          cases e
      rw [List.getElem?_set_self hl] at e
      cases e
      exact ⟨p, o, List.getElem?_set_self (by rw [r.len]; exact hl), ho, h1, h2, h3, h4⟩
    · rw [List.getElem?_set_ne q] at e ⊢
      exact r.sl j s e
  · by_cases a : i = j
    · subst a
      have hk : i ≠ k := hjk
      rw [List.getElem?_set_ne hk] at e2 e4
      have hl : i < σ.length := by
        rcases Nat.lt_or_ge i σ.length with z | z
        · exact z
        · rw [List.getElem?_eq_none (by rw [List.length_set]; exact z)] at e3
          cases e3
      rw [List.getElem?_set_self hl] at e3
      cases e3
      exact h5 k _ e2 e4
    · rw [List.getElem?_set_ne a] at e1 e3
      by_cases b : i = k
      · subst b
        have hl : i < σ.length := by
          rcases Nat.lt_or_ge i σ.length with z | z
          · exact z
          · rw [List.getElem?_eq_none (by rw [List.length_set]; exact z)] at e4
            cases e4
        rw [List.getElem?_set_self hl] at e4
        cases e4
        exact h5 j _ e1 e3
      · rw [List.getElem?_set_ne b] at e2 e4
        exact r.dis j k q ds es hjk e1 e2 e3 e4
theorem Rp.mut {σ : L2.St} {ε : Ev} (r : Rp ℓ K O g H n σ ε) {i : Nat} {p : Addr} {o : HO} {d d' : OD} (e : ε[i]? = some (.own d)) (e1 : σ[i]? = some (some (.ref p))) (h4 : OwnH K g d' o) (hO : O d p → O d' p) :
    Rp ℓ K O g (upd H p o) n σ (ε.set i (.own d')) := by
  obtain ⟨p', o', e1', ho, h1, h2, h3, hl0⟩ := r.sl i _ e
  rw [e1] at e1'
  cases e1'
  have hl : i < ε.length := (List.getElem?_eq_some_iff.mp e).1
  refine ⟨⟨fun a u q => ?_, fun a z => ?_, r.ok.t.upd (fun u z => ?_) h4.lite.nt, r.ok.cel.step (Ext.refl g) fun a C m => upd_ne fun w => h2 (by rw [← w]; exact (r.ok.cel.mem m).1)⟩, by rw [List.length_set]; exact r.len, fun j s q => ?_, fun j k q ds es hjk e2 e3 e4 e5 => ?_⟩
  · rw [upd_ne (ne_of_none q h1)]
    exact r.ok.sub a u q
  · rw [upd_ne fun w => h2 (by rw [← w]; exact z)]
    exact r.ok.pot a z
  · rw [h3] at z
    cases z
    exact hl0.lite
  · by_cases w : i = j
    · subst w
      rw [List.getElem?_set_self hl] at q
      cases q
      exact ⟨p, o, e1, hO ho, h1, h2, upd_same, h4⟩
    · rw [List.getElem?_set_ne w] at q
      have z := r.sl j s q
      cases s with
      | no => trivial
      | val d => exact z
      | own d =>
        obtain ⟨p2, o2, w1, w2, w3, w4, w5, w6⟩ := z
        refine ⟨p2, o2, w1, w2, w3, w4, ?_, w6⟩
        rw [upd_ne fun z => r.dis i j p _ _ w e q e1 (by rw [← z]; exact w1)]
        exact w5
  · have back : ∀ {m : Nat} {f : OD}, (ε.set i (.own d'))[m]? = some (.own f) → ∃ f', ε[m]? = some (.own f') := fun {m f} z => by
      by_cases w : i = m
      · subst w
        exact ⟨d, e⟩
      · rw [List.getElem?_set_ne w] at z
        exact ⟨f, z⟩
    obtain ⟨f1, z1⟩ := back e2
    obtain ⟨f2, z2⟩ := back e3
    exact r.dis j k q f1 f2 hjk z1 z2 e4 e5
theorem Stp.mut {g0 : Gh} {H0 : Hp} (s : Stp g0 H0 g H) {p : Addr} {o : HO} (h : H0 p = none) : Stp g0 H0 g (upd H p o) :=
  ⟨s.ext, s.gro, s.grp, fun a u q z => by
    rw [upd_ne (ne_of_none q h)]
    exact s.kep a u q z, fun a q => by
    rw [upd_ne fun w => q (by rw [w]; exact h)]
    exact s.dom a q⟩
theorem Rp.setLs : ∀ (is : List Nat) {vs : List V} {ss : List Sl} {σ : L2.St} {ε : Ev}, Rp ℓ K O g H n σ ε → Sls K g Hb H vs ss → (∀ ds p, Hb p = none → O (.lst ds) p) →
    (∀ (i : Nat) (d : OD) (p : Addr) (j : Nat) (d' : OD), ε[i]? = some (.own d) → σ[i]? = some (some (.ref p)) → ss[j]? = some (.own d') → vs[j]? ≠ some (.ref p)) → Rp ℓ K O g H n (setV σ is vs) (setL ε is ss)
  | [], _, _, _, _, r, _, _, _ => by
    rw [setV_nil, setL_nil]
    exact r
  | i :: is, _, _, σ, ε, r, .nil, _, _ => r
  | i :: is, _, _, σ, ε, r, .val (v := v) (d := d) (vs := vs) (ss := ss) h t, hO, ap => by
    refine Rp.setLs is (r.set h) t hO fun i' d1 p j d' e1 e2 e3 => ?_
    by_cases w : i = i'
    · subst w
      rw [List.getElem?_set] at e1
      simp at e1
    · rw [List.getElem?_set_ne w] at e1 e2
      have z := ap i' d1 p (j + 1) d' e1 e2 (by simpa using e3)
      simpa using z
  | i :: is, _, _, σ, ε, r, .own (p := p) (o := o) (d := d) (vs := vs) (ss := ss) a b c e f nx t, hO, ap => by
    refine Rp.setLs is (r.setOwn (hO d p a) b c e f fun j d' z w => ?_) t hO fun i' d1 q j d' e1 e2 e3 => ?_
    · exact ap j d' p 0 (.lst d) z w rfl rfl
    · by_cases w : i = i'
      · subst w
        have hl : i < σ.length := by
          rcases Nat.lt_or_ge i σ.length with z | z
          · exact z
          · rw [List.getElem?_eq_none (by rw [List.length_set]; exact z)] at e2
            cases e2
        rw [List.getElem?_set_self hl] at e2
        cases e2
        exact nx j d' e3
      · rw [List.getElem?_set_ne w] at e1 e2
        have z := ap i' d1 q (j + 1) d' e1 e2 (by simpa using e3)
        simpa using z
end
def dSeq (s t : DS) : DS := fun N n ε => s { N with nx := t N } n ε
def dNx : DS := fun N n ε => N.nx n ε
def dBrk : DS := fun N n ε => N.bk n ε
def dNev : DS := fun _ _ _ => False
def dDrop (d : DE) : DS := fun N n ε => d n ε fun n1 _ => N.nx n1 ε
def dRet (d : DE) : DS := fun N n ε => d n ε N.rt
def dRetN : DS := fun N n _ => N.rt n .non
def dIf (t : DT) (a b : DS) : DS := fun N n ε => t n ε fun n1 c => (c = true → a N n1 ε) ∧ (c = false → b N n1 ε)
def dSet (i : Nat) (d : DE) : DS := fun N n ε => d n ε fun n1 r => N.nx n1 (ε.set i (.val r))
def dMul (is : List Nat) (t : DB) : DS := fun N n ε => t n ε fun n1 ss => ss.length = is.length ∧ N.nx n1 (setL ε is ss)
def dFrz (is : List Nat) (s : DS) : DS := fun N n ε => s N n (is.foldl frzE ε)
section
variable {X : Cx} {pos : Pos} {e c : Expr} {es : List Expr} {st : Stmt} {rest a b : List Stmt} {d : DE} {s t : DS} {u : DT} {tb : DB}
theorem dss_nil : PSs X [] (liftS ℓ W X.K dNx) := pss_w pss_nil fun E σ H ⟨U, g0, H0, g, n, ε, N, uo, r, s0, q, k1, k2, k3, k4⟩ => k1 σ g H n ε q r s0
theorem dss_cons (h1 : PS X st (liftS ℓ W X.K s)) (h2 : PSs X rest (liftS ℓ W X.K t)) : PSs X (st :: rest) (liftS ℓ W X.K (dSeq s t)) :=
  pss_w (pss_cons h1 h2) fun E σ H ⟨U, g0, H0, g, n, ε, N, uo, r, s0, q, k1, k2, k3, k4⟩ =>
    ⟨U, g0, H0, g, n, ε, { N with nx := t N }, uo, r, s0, q, fun σ' g' H' n' ε' q' r' s' => ⟨U, g0, H0, g', n', ε', N, uo, r', s', q', k1, k2, k3, k4⟩, k2, k3, k4⟩
theorem dss_one (h1 : PS X st (liftS ℓ W X.K s)) : PSs X [st] (liftS ℓ W X.K s) := pss_one h1
theorem ds_never : PS X st (liftS ℓ W X.K dNev) := ps_w ps_never fun E σ H ⟨U, g0, H0, g, n, ε, N, uo, r, s0, q, k1, k2, k3, k4⟩ => q
theorem ds_ret (he : PE X e (liftE ℓ X.K d)) : PS X (.Return (some e) pos) (liftS ℓ W X.K (dRet d)) :=
  ps_w (ps_ret he) fun E σ H ⟨U, g0, H0, g, n, ε, N, uo, r, s0, q, k1, k2, k3, k4⟩ => ⟨_, g, n, ε, _, r, q, fun v g1 H1 n1 x q1 s1 o1 e1 => k4.1 v g1 H1 n1 x q1 (s0.trans s1) o1 e1⟩
theorem ds_if (hc : PT X c (liftT ℓ X.K u)) (ha : PSs X a (liftS ℓ W X.K s)) (hb : PSs X b (liftS ℓ W X.K t)) : PS X (.If c a b pos) (liftS ℓ W X.K (dIf u s t)) :=
  ps_w (ps_if hc ha hb) fun E σ H ⟨U, g0, H0, g, n, ε, N, uo, r, s0, q, k1, k2, k3, k4⟩ => ⟨_, g, n, ε, _, r, q, fun b g1 H1 n1 q1 s1 o1 => by
    cases b with
    | true => exact ⟨U, g0, H0, g1, n1, ε, N, uo, r.step s1 o1, s0.trans s1, q1.1 rfl, k1, k2, k3, k4⟩
    | false => exact ⟨U, g0, H0, g1, n1, ε, N, uo, r.step s1 o1, s0.trans s1, q1.2 rfl, k1, k2, k3, k4⟩⟩
theorem ds_set {i : Nat} {x : Str} {pos' : Pos} (hN : X.N.Nodup) (hi : X.N[i]? = some x) (hx : Loc X.env.scope x) (he : PE X e (liftE ℓ X.K d)) (hs : swapsWith e (some (.Name x pos')) pos.line X.env = pure false := by rfl)
    (hf : X.fn x = true ∨ X.env.scope.names.lookup x = some .local := by first | exact .inl rfl | exact .inr rfl | assumption) : PS X (.Assign [.Name x pos'] e pos) (liftS ℓ W X.K (dSet i d)) :=
  ps_w (ps_set hN hi hx he hs hf) fun E σ H ⟨U, g0, H0, g, n, ε, N, uo, r, s0, q, k1, k2, k3, k4⟩ => ⟨_, g, n, ε, _, r, q, fun v g1 H1 n1 x q1 s1 o1 e1 => k1 _ g1 H1 n1 _ q1 ((r.step s1 o1).set e1) (s0.trans s1)⟩
def dSetO (i : Nat) (d : DO) : DS := fun N n ε => d n ε fun n1 ds => N.nx n1 (ε.set i (.own (.lst ds)))
theorem ds_setO {i : Nat} {x : Str} {pos' : Pos} {o : DO} (hN : X.N.Nodup) (hi : X.N[i]? = some x) (hx : Loc X.env.scope x) (he : PE X e (liftO ℓ X.K o)) (hs : swapsWith e (some (.Name x pos')) pos.line X.env = pure false := by rfl)
    (hf : X.fn x = true ∨ X.env.scope.names.lookup x = some .local := by first | exact .inl rfl | exact .inr rfl | assumption) : PS X (.Assign [.Name x pos'] e pos) (liftS ℓ W X.K (dSetO i o)) :=
  ps_w (ps_set hN hi hx he hs hf) fun E σ H ⟨U, g0, H0, g, n, ε, N, uo, r, s0, q, k1, k2, k3, k4⟩ => ⟨_, g, n, ε, _, r, q, fun p vs g1 H1 n1 ds q1 s1 o1 h0 h1 h2 h3 h4 =>
    k1 _ g1 H1 n1 _ q1 ((r.step s1 o1).setOwn ⟨s0.back0 h0, uo.lst _ _⟩ h1 h2 h3 ⟨vs, rfl, h4⟩ fun j d' z w => by
      obtain ⟨p', o', w1, _, _, _, w5, _⟩ := r.sl j _ z
      rw [w] at w1
      cases w1
      rw [h0] at w5
      cases w5) (s0.trans s1)⟩
theorem mul_ok {is : List Nat} {E : Ends} {σ : L2.St} {H : Hp} (h : liftS ℓ W X.K (dMul is tb) E σ H) : liftB ℓ X.K tb σ H fun vs H1 => vs.length = is.length ∧ E.nx (setV σ is vs) H1 := by
  obtain ⟨U, g0, H0, g, n, ε, N, uo, r, s0, q, k1, k2, k3, k4⟩ := h
  refine ⟨_, g, n, ε, _, r, q, fun vs g1 H1 n1 ss q1 s1 o1 e1 => ⟨by rw [e1.length]; exact q1.1, k1 _ g1 H1 n1 _ q1.2 ((r.step s1 o1).setLs is e1 (fun ds p z => ⟨s0.back0 z, uo.lst _ _⟩) fun i d p j d' w1 w2 w3 w4 => ?_) (s0.trans s1)⟩⟩
  obtain ⟨p', o', x1, _, _, _, x5, _⟩ := r.sl i _ w1
  rw [w2] at x1
  cases x1
  rw [e1.fresh w3 w4] at x5
  cases x5
theorem dss_frz (is : List Nat) (h : PSs X rest (liftS ℓ W X.K s)) : PSs X rest (liftS ℓ W X.K (dFrz is s)) :=
  pss_w h fun E σ H ⟨U, g0, H0, g, n, ε, N, uo, r, s0, q, k1, k2, k3, k4⟩ => by
    have z : ∀ (is : List Nat) (g : Gh) (ε : Ev), Rp ℓ X.K (fun d p => H0 p = none ∧ U d p) g H n σ ε → Stp g0 H0 g H → ∃ g', Rp ℓ X.K (fun d p => H0 p = none ∧ U d p) g' H n σ (is.foldl frzE ε) ∧ Stp g0 H0 g' H := fun is => by
      induction is with
      | nil => exact fun g ε r s => ⟨g, r, s⟩
      | cons i is ih =>
        intro g ε r s
        obtain ⟨g1, s1, r1⟩ := r.freeze s i
        exact ih g1 _ r1 s1
    obtain ⟨g1, r1, s1⟩ := z is g ε r s0
    exact ⟨U, g0, H0, g1, n, _, N, uo, r1, s1, q, k1, k2, k3, k4⟩
end
end Pd
namespace Pd
variable {ℓ : Bool}
open PySem L2
variable {W : WX}
abbrev DG := D → Ev → (Ev → Prop) → Prop
abbrev DGs := List D → Ev → (Ev → Prop) → Prop
def gNm (i : Nat) : DG := fun d ε P => P (ε.set i (.val d))
def gsNil : DGs := fun ds ε P => match ds with
  | [] => P ε
  | _ :: _ => False
def gsCons (g : DG) (gs : DGs) : DGs := fun ds ε P => match ds with
  | [] => False
  | d :: ds => g d ε fun ε' => gs ds ε' P
def gTp (n : Nat) (gs : DGs) : DG := fun d ε P => match d with
  | .tup ds => ds.length = n ∧ gs ds ε P
  | .lst ds => ds.length = n ∧ gs ds ε P
  | .tupK ds => ds.length = n ∧ gs ds ε P
  | _ => False
def Only (ws : List Nat) (σ σ' : L2.St) : Prop := σ'.length = σ.length ∧ ∀ j, j ∉ ws → σ'[j]? = σ[j]?
theorem Only.refl (ws : List Nat) (σ : L2.St) : Only ws σ σ := ⟨rfl, fun _ _ => rfl⟩
theorem Only.trans {ws ws' : List Nat} {σ σ1 σ2 : L2.St} (a : Only ws σ σ1) (b : Only ws' σ1 σ2) : Only (ws ++ ws') σ σ2 :=
  ⟨b.1.trans a.1, fun j h => (b.2 j fun z => h (List.mem_append_right _ z)).trans (a.2 j fun z => h (List.mem_append_left _ z))⟩
theorem wipe_at (σ : L2.St) : ∀ (vs : List Nat) (j : Nat), (wipe σ vs)[j]? = if j ∈ vs ∧ j < σ.length then some none else σ[j]?
  | [], j => by simp [wipe]
  | v :: vs, j => by
    unfold wipe
    rw [List.getElem?_set]
    by_cases h : v = j
    · subst h
      rw [if_pos rfl, wipe_length]
      by_cases q : v < σ.length
      · rw [if_pos q, if_pos ⟨List.mem_cons_self, q⟩]
      · rw [if_neg q, if_neg fun z => q z.2, List.getElem?_eq_none (Nat.le_of_not_lt q)]
    · rw [if_neg h, wipe_at σ vs j]
      have e : (j ∈ v :: vs) ↔ j ∈ vs := ⟨fun z => (List.mem_cons.mp z).elim (fun z => absurd z.symm h) id, List.mem_cons_of_mem _⟩
      simp only [e]
theorem Only.wipe {ws vs : List Nat} {σ σ' : L2.St} (h : Only ws σ σ') (s : ∀ i ∈ ws, i ∈ vs) : wipe σ' vs = wipe σ vs := by
  apply List.ext_getElem?
  intro j
  rw [wipe_at, wipe_at, h.1]
  by_cases q : j ∈ vs
  · by_cases r : j < σ.length
    · rw [if_pos ⟨q, r⟩, if_pos ⟨q, r⟩]
    · rw [if_neg fun z => r z.2, if_neg fun z => r z.2, List.getElem?_eq_none (by rw [h.1]; exact Nat.le_of_not_lt r), List.getElem?_eq_none (Nat.le_of_not_lt r)]
  · rw [if_neg fun z => q z.1, if_neg fun z => q z.1]
    exact h.2 j fun z => q (s j z)
theorem wipe_idem (σ : L2.St) (vs : List Nat) : wipe (wipe σ vs) vs = wipe σ vs := by
  apply List.ext_getElem?
  intro j
  rw [wipe_at, wipe_at, wipe_length]
  by_cases q : j ∈ vs ∧ j < σ.length
  · rw [if_pos q, if_pos q]
  · rw [if_neg q, if_neg q]
def liftG (ℓ : Bool) (K : PySem.W.Frag) (ws : List Nat) (dg : DG) : TG := fun v σ H Q => ∃ O g n ε d P, Rp ℓ K O g H n σ ε ∧ Den K g v d ∧ dg d ε P ∧ ∀ σ' ε', P ε' → Rp ℓ K O g H n σ' ε' → Only ws σ σ' → Q σ' H
def liftGs (ℓ : Bool) (K : PySem.W.Frag) (ws : List Nat) (dg : DGs) : TGs := fun vs σ H Q => ∃ O g n ε ds P, Rp ℓ K O g H n σ ε ∧ Dens K g vs ds ∧ dg ds ε P ∧ ∀ σ' ε', P ε' → Rp ℓ K O g H n σ' ε' → Only ws σ σ' → Q σ' H
section
variable {X : Cx} {pos : Pos} {e : Expr} {es : List Expr} {ws ws' : List Nat} {dg : DG} {dgs : DGs}
theorem pg_w {t t' : TG} (h : PG X e t) (w : ∀ v σ H Q, t' v σ H Q → t v σ H Q) : PG X e t' := ⟨fun pins s σ H v u Q I r q => h.run pins s σ H v u Q I r (w v σ H Q q)⟩
theorem pgs_w {t t' : TGs} (h : PGs X es t) (w : ∀ v σ H Q, t' v σ H Q → t v σ H Q) : PGs X es t' := ⟨fun pins s σ H v u Q I r q => h.run pins s σ H v u Q I r (w v σ H Q q)⟩
theorem pg_or {t t' : TG} (h : PG X e t) (h' : PG X e t') : PG X e (fun v σ H Q => t v σ H Q ∨ t' v σ H Q) := ⟨fun pins s σ H v u Q I r q => q.elim (h.run pins s σ H v u Q I r) (h'.run pins s σ H v u Q I r)⟩
theorem dg_nm {i : Nat} {x : Str} (hN : X.N.Nodup) (hi : X.N[i]? = some x) (hx : Loc X.env.scope x) (hf : X.fn x = true ∨ X.env.scope.names.lookup x = some .local := by first | exact .inl rfl | exact .inr rfl | assumption) : PG X (.Name x pos) (liftG ℓ X.K [i] (gNm i)) :=
  pg_w (pg_name hN hi hx hf) fun v σ H Q ⟨O, g, n, ε, d, P, r, dd, q, k⟩ => k _ _ q (r.set dd) ⟨List.length_set, fun j h => List.getElem?_set_ne fun z => h (by rw [z]; exact List.mem_singleton.mpr rfl)⟩
theorem gs_nil : PGs X [] (liftGs ℓ X.K [] gsNil) :=
  pgs_w pgs_nil fun v σ H Q ⟨O, g, n, ε, d, P, r, dd, q, k⟩ => by
    cases dd with
    | nil => exact ⟨rfl, k _ _ q r (Only.refl _ _)⟩
    | cons _ _ => exact q.elim
theorem gs_cons (h1 : PG X e (liftG ℓ X.K ws dg)) (h2 : PGs X es (liftGs ℓ X.K ws' dgs)) (hs : (assignEach (e :: es) X.env).map (·.2) = assign e X.env :: (assignEach es X.env).map (·.2) := by rfl) : PGs X (e :: es) (liftGs ℓ X.K (ws ++ ws') (gsCons dg dgs)) :=
  pgs_w (pgs_cons h1 h2 hs) fun v σ H Q ⟨O, g, n, ε, d, P, r, dd, q, k⟩ => by
    cases dd with
    | nil => exact q.elim
    | cons d1 dt => exact ⟨_, _, rfl, O, g, n, ε, _, _, r, d1, q, fun σ1 ε1 q1 r1 o1 => ⟨O, g, n, ε1, _, P, r1, dt, q1, fun σ2 ε2 q2 r2 o2 => k σ2 ε2 q2 r2 (o1.trans o2)⟩⟩
theorem dg_tup {k n : Nat} (hc : X.calm = true) (h : PGs X es (liftGs ℓ X.K ws dgs)) (hn : (assignEach es X.env).length = n := by rfl) (hst : (assignEach es X.env).findIdx? (·.1) = none := by rfl) : PG X (.Tuple es k pos) (liftG ℓ X.K ws (gTp n dgs)) :=
  pg_w (pg_or (pg_tup hc h hn hst) (pg_unl hc h hn hst)) fun v σ H Q ⟨O, g, m, ε, d, P, r, dd, q, k⟩ => by
    cases dd with
    | tup h1 h2 => exact .inl ⟨_, _, rfl, Or.inl (h1.same r.ok.sub), h2.length.trans q.1, O, g, m, ε, _, P, r, h2, q.2, k⟩
    | lst h1 h2 => exact .inr ⟨_, _, rfl, SqL.of (r.ok.sub _ _ h1), h2.length.trans q.1, O, g, m, ε, _, P, r, h2, q.2, k⟩
    | tupK h1 h2 => exact .inl ⟨_, _, rfl, h1 _, h2.length.trans q.1, O, g, m, ε, _, P, r, h2, q.2, k⟩
    | _ => exact q.elim
end
def dAsg (d : DE) (dg : DG) : DS := fun N n ε => d n ε fun n1 r => dg r ε fun ε' => N.nx n1 ε'
section
variable {X : Cx} {pos : Pos} {e e2 e3 tg : Expr} {es ts : List Expr} {ws : List Nat} {dg : DG} {d : DE} {tb : DB}
theorem ds_asg (he : PE X e (liftE ℓ X.K d)) (hg : PG X tg (liftG ℓ X.K ws dg)) (hs : swapsWithSole [tg] e pos.line X.env = pure false := by rfl) (hw : swappedStores [tg] e X.env = pure none := by rfl)
    (h1 : (assignEach [tg] X.env).map (·.2) = [assign tg X.env] := by rfl) : PS X (.Assign [tg] e pos) (liftS ℓ W X.K (dAsg d dg)) :=
  ps_w (ps_asg he hg hs hw h1) fun E σ H ⟨U, g0, H0, g, n, ε, N, uo, r, s0, q, k1, k2, k3, k4⟩ => ⟨_, g, n, ε, _, r, q, fun v g1 H1 n1 x q1 s1 o1 e1 =>
    ⟨_, g1, n1, ε, x, _, r.step s1 o1, e1, q1, fun σ' ε' q2 r2 _ => k1 σ' g1 H1 n1 ε' q2 r2 (s0.trans s1)⟩⟩
theorem ds_par {i j : Nat} {x y : Str} {a b : Expr} {px py pt : Pos} {kt k2 : Nat} {pt2 : Pos} (hc : X.calm = true) (hN : X.N.Nodup) (hi : X.N[i]? = some x) (hj : X.N[j]? = some y) (hij : i ≠ j)
    (hx : X.env.scope.names.lookup x = some .local) (hy : X.env.scope.names.lookup y = some .local) (ha : PA X [a, b] (liftB ℓ X.K tb))
    (hw : swappedStores [.Tuple [.Name x px, .Name y py] kt pt] (.Tuple [a, b] k2 pt2) X.env = pure (some [x, y]) := by rfl)
    (hs : swapsWithSole [.Tuple [.Name x px, .Name y py] kt pt] (.Tuple [a, b] k2 pt2) pos.line X.env = pure false := by rfl) :
    PS X (.Assign [.Tuple [.Name x px, .Name y py] kt pt] (.Tuple [a, b] k2 pt2) pos) (liftS ℓ W X.K (dMul [i, j] tb)) :=
  ps_w (ps_par hc hN hi hj hij hx hy ha hw hs) fun E σ H h => by
    obtain ⟨O, g, n, ε, P, r, q, k⟩ := mul_ok h
    refine ⟨O, g, n, ε, P, r, q, fun vs g' H' n' ss a b c d => ?_⟩
    obtain ⟨h1, h2⟩ := k vs g' H' n' ss a b c d
    match vs, h1, h2 with
    | [v, w], _, h2 => exact ⟨v, w, rfl, h2⟩
theorem ds_par3 {i j l : Nat} {x y z : Str} {a b c : Expr} {px py pz pt : Pos} {kt k2 : Nat} {pt2 : Pos} (hc : X.calm = true) (hN : X.N.Nodup) (hi : X.N[i]? = some x) (hj : X.N[j]? = some y) (hl : X.N[l]? = some z) (hij : i ≠ j) (hil : i ≠ l) (hjl : j ≠ l)
    (hx : X.env.scope.names.lookup x = some .local) (hy : X.env.scope.names.lookup y = some .local) (hz : X.env.scope.names.lookup z = some .local) (ha : PA X [a, b, c] (liftB ℓ X.K tb))
    (hw : swappedStores [.Tuple [.Name x px, .Name y py, .Name z pz] kt pt] (.Tuple [a, b, c] k2 pt2) X.env = pure (some [x, y, z]) := by rfl)
    (hs : swapsWithSole [.Tuple [.Name x px, .Name y py, .Name z pz] kt pt] (.Tuple [a, b, c] k2 pt2) pos.line X.env = pure false := by rfl) :
    PS X (.Assign [.Tuple [.Name x px, .Name y py, .Name z pz] kt pt] (.Tuple [a, b, c] k2 pt2) pos) (liftS ℓ W X.K (dMul [i, j, l] tb)) :=
  ps_w (ps_par3 hc hN hi hj hl hij hil hjl hx hy hz ha hw hs) fun E σ H h => by
    obtain ⟨O, g, n, ε, P, r, q, k⟩ := mul_ok h
    refine ⟨O, g, n, ε, P, r, q, fun vs g' H' n' ss a b c d => ?_⟩
    obtain ⟨h1, h2⟩ := k vs g' H' n' ss a b c d
    match vs, h1, h2 with
    | [v, w, u], _, h2 => exact ⟨v, w, u, rfl, h2⟩
def TgNm (X : Cx) : List Expr → List Nat → Prop
  | [], [] => True
  | t :: ts, i :: is => PG X t (gName i) ∧ (assignEach (t :: ts) X.env).map (·.2) = assign t X.env :: (assignEach ts X.env).map (·.2) ∧ TgNm X ts is
  | _, _ => False
def gsOf : List Nat → TGs
  | [] => gNil
  | i :: is => gCons (gName i) (gsOf is)
theorem tgNm_pgs : ∀ {ts : List Expr} {is : List Nat}, TgNm X ts is → PGs X ts (gsOf is)
  | [], [], _ => pgs_nil
  | _ :: _, _ :: _, ⟨h1, h2, h3⟩ => pgs_cons h1 (tgNm_pgs h3) h2
  | [], _ :: _, h => h.elim
  | _ :: _, [], h => h.elim
theorem gsOf_ok : ∀ {is : List Nat} {vs : List V} {σ : L2.St} {H : Hp} {Q : L2.St → Hp → Prop}, vs.length = is.length → Q (setV σ is vs) H → gsOf is vs σ H Q
  | [], [], _, _, _, _, q => ⟨rfl, q⟩
  | i :: is, v :: vs, _, _, _, h, q => ⟨v, vs, rfl, gsOf_ok (is := is) (Nat.succ.inj h) q⟩
theorem ds_mul {is : List Nat} {kt k2 : Nat} {pt pt2 : Pos} (hc : X.calm = true) (ha : PA X es (liftB ℓ X.K tb)) (ht : TgNm X ts is) (hn : (assignEach ts X.env).length = is.length := by rfl) (hst : (assignEach ts X.env).findIdx? (·.1) = none := by rfl) (hl : is.length ≤ 1000 := by decide)
    (hs : swapsWithSole [.Tuple ts kt pt] (.Tuple es k2 pt2) pos.line X.env = pure false := by rfl) (hw : swappedStores [.Tuple ts kt pt] (.Tuple es k2 pt2) X.env = pure none := by rfl)
    (h1 : (assignEach [.Tuple ts kt pt] X.env).map (·.2) = [assign (.Tuple ts kt pt) X.env] := by rfl) : PS X (.Assign [.Tuple ts kt pt] (.Tuple es k2 pt2) pos) (liftS ℓ W X.K (dMul is tb)) :=
  ps_w (ps_asg (pe_tup ha) (pg_tup hc (tgNm_pgs ht) hn hst) hs hw h1) fun E σ H h => by
    obtain ⟨U, g0, H0, g, n, ε, N, uo, r, s0, q, k1, k2, k3, k4⟩ := h
    refine ⟨_, g, n, ε, _, r, q, fun vs g1 H1 n1 ss q1 s1 o1 e1 => ⟨?_, fun p hp => ⟨p, vs, rfl, SqT.of upd_same, by rw [e1.length]; exact q1.1, gsOf_ok (by rw [e1.length]; exact q1.1) ?_⟩⟩⟩
    · rw [e1.length, q1.1]
      exact sz (Nat.le_trans hl (by decide))
    · obtain ⟨z1, z2, z3, z4⟩ := new_own o1 hp (.tup vs)
      have e2 : Sls X.K g1 H (upd H1 p (.tup vs)) vs ss := by
        have gen : ∀ {vs' : List V} {ss' : List Sl}, Sls X.K g1 H H1 vs' ss' → Sls X.K g1 H (upd H1 p (.tup vs)) vs' ss' := by
          intro vs' ss' z
          induction z with
          | nil => exact .nil
          | val a _ ih => exact .val a ih
          | own a b c d e f _ ih => exact .own a b c (by rw [upd_ne (ne_of_none d hp)]; exact d) e f ih
        exact gen e1
      refine k1 _ g1 _ n1 _ q1.2 (((r.step s1 o1).step z1 z2).setLs is e2 (fun ds p z => ⟨s0.back0 z, uo.lst _ _⟩) fun i d p j d' w1 w2 w3 w4 => ?_) ((s0.trans s1).trans z1)
      obtain ⟨p', o', x1, _, _, _, x5, _⟩ := r.sl i _ w1
      rw [w2] at x1
      cases x1
      rw [e1.fresh w3 w4] at x5
      cases x5
end
abbrev DI := Nat → Ev → (Nat → List D → Prop) → Prop
structure WalkD (ℓ : Bool) (K : PySem.W.Frag) (g : Gh) (J : It) (xs : List D) : Prop where
  go : ∀ i H, i < xs.length → Same g.G H → J.go i H
  stop : ∀ H, Same g.G H → J.stop xs.length H
  yld : ∀ i x H H' g1 n, i < xs.length → Ext g g1 → Ok ℓ K g1 H n → J.yld i H x H' → ∃ g2 d, xs[i]? = some d ∧ Stp g1 H g2 H' ∧ Ok ℓ K g2 H' n ∧ Den K g2 x d
def liftI (ℓ : Bool) (K : PySem.W.Frag) (di : DI) : TI := fun σ H R => ∃ O g n ε P, Rp ℓ K O g H n σ ε ∧ di n ε P ∧ ∀ J g' H' n' xs, P n' xs → Stp g H g' H' → Ok ℓ K g' H' n' → WalkD ℓ K g' J xs → R J H'
def forW (dg : DG) (b : DS) (N : DN) : List D → Nat → Ev → Prop
  | [], n, ε => N.nx n ε
  | x :: xs, n, ε => dg x ε fun ε' => b { N with nx := fun n' ε'' => forW dg b N xs n' ε'', ct := fun n' ε'' => forW dg b N xs n' ε'', bk := N.nx } n ε'
def dFor (di : DI) (dg : DG) (b : DS) : DS := fun N n ε => di n ε fun n1 xs => forW dg b N xs n1 ε
theorem snap {K : PySem.W.Frag} {U : OD → Addr → Prop} {g0 g : Gh} {H0 H : Hp} (s : Stp g0 H0 g H) : ∃ Hs : Hp, Stp g Hs g H ∧ (∀ n σ ε, Rp ℓ K (fun d p => H0 p = none ∧ U d p) g H n σ ε → Rp ℓ K (fun d p => Hs p = none ∧ U d p) g H n σ ε) ∧
    (∀ g' H', Stp g Hs g' H' → Stp g0 H0 g' H') ∧ (∀ g' H' n σ ε, Rp ℓ K (fun d p => Hs p = none ∧ U d p) g' H' n σ ε → Rp ℓ K (fun d p => H0 p = none ∧ U d p) g' H' n σ ε) := by
  classical
  have hs0 : ∀ a, H0 a ≠ none → (if H0 a = none ∧ g.G a = none ∧ ¬ g.pot a then none else H a) = H a := fun a h => if_neg fun z => h z.1
  refine ⟨fun a => if H0 a = none ∧ g.G a = none ∧ ¬ g.pot a then none else H a, ⟨Ext.refl g, fun _ _ z => z, fun _ _ z => z, fun a o e _ => ?_, fun a e => ?_⟩, fun n σ ε r => ⟨r.ok, r.len, fun i x e => ?_, r.dis⟩, fun g' H' s' => ⟨s.ext.trans s'.ext, fun a h q => ?_, fun a h q => ?_, fun a o h q => ?_, fun a h => ?_⟩, fun g' H' n σ ε r => ⟨r.ok, r.len, fun i x e => ?_, r.dis⟩⟩
  · have e2 : (if H0 a = none ∧ g.G a = none ∧ ¬ g.pot a then none else H a) = some o := e
    split at e2
    · cases e2
    · exact e2
  · intro z
    refine e ?_
    show (if H0 a = none ∧ g.G a = none ∧ ¬ g.pot a then none else H a) = none
    rw [z]
    split <;> rfl
  · have w := r.sl i x e
    cases x with
    | no => trivial
    | val d => exact w
    | own d =>
      obtain ⟨p, o, w1, w2, w3, w4, w5, w6⟩ := w
      exact ⟨p, o, w1, ⟨if_pos ⟨w2.1, w3, w4⟩, w2.2⟩, w3, w4, w5, w6⟩
  · exact s'.gro a (by rw [hs0 a h]; exact s.dom a h) (s.gro a h q)
  · exact s.grp a h (s'.grp a (by rw [hs0 a h]; exact s.dom a h) q)
  · exact s'.kep a o (by rw [hs0 a (by rw [h]; exact Option.some_ne_none o)]; exact s.kep a o h q) fun z => q (s.grp a (by rw [h]; exact Option.some_ne_none o) z)
  · exact s'.dom a (by rw [hs0 a h]; exact s.dom a h)
  · have w := r.sl i x e
    cases x with
    | no => trivial
    | val d => exact w
    | own d =>
      obtain ⟨p, o, w1, w2, w3, w4, w5, w6⟩ := w
      refine ⟨p, o, w1, ⟨?_, w2.2⟩, w3, w4, w5, w6⟩
      cases z : H0 p with
      | none => rfl
      | some u =>
        have zn : H0 p ≠ none := by rw [z]; exact Option.some_ne_none u
        have w2' : (if H0 p = none ∧ g.G p = none ∧ ¬ g.pot p then none else H p) = none := w2.1
        rw [hs0 p zn] at w2'
        exact absurd w2' (s.dom p zn)
section
variable {X : Cx} {pos : Pos} {e c tg iter : Expr} {body : List Stmt} {ws : List Nat} {dg : DG} {di : DI} {d : DE} {t : DT} {b : DS}
theorem ds_for (hp : PassesOwn (model X.prog X.w) X.A X.env X.xe) (hc : X.calm = true) (hi : PI X tg iter (liftI ℓ X.K di)) (hg : PG X tg (liftG ℓ X.K ws dg)) (hb : PSs X body (liftS ℓ W X.K b))
    (hs : ∀ x, foldedSetIterable iter X.env x = pure x := by intro _; rfl) : PS X (.For tg iter body [] pos) (liftS ℓ W X.K (dFor di dg b)) :=
  ps_w (ps_for hp hc hi hg hb hs) fun E σ H ⟨U, g0, H0, g, n, ε, N, uo, r, s0, q, k1, k2, k3, k4⟩ => by
    refine ⟨_, g, n, ε, _, r, q, fun J gI HI nI xs q1 s1 o1 wk => ?_⟩
    refine ⟨fun i m σ H => m = xs.length - i ∧ i ≤ xs.length ∧ ∃ g n ε, Rp ℓ X.K (fun d p => H0 p = none ∧ U d p) g H n σ ε ∧ Stp g0 H0 g H ∧ Ext gI g ∧ forW dg b N (xs.drop i) n ε, ⟨xs.length, by simp, Nat.zero_le _, gI, nI, ε, r.step s1 o1, s0.trans s1, Ext.refl _, by simpa using q1⟩, ?_⟩
    rintro i m σ H ⟨rfl, hi, g, n, ε, r, s, ex, fw⟩
    have sm : Same gI.G H := ex.G.trans r.ok.sub
    by_cases hlt : i < xs.length
    · refine .inr ⟨wk.go i H hlt sm, fun σ' H' => ∃ g n ε, Rp ℓ X.K (fun d p => H0 p = none ∧ U d p) g H' n σ' ε ∧ Stp g0 H0 g H' ∧ Ext gI g ∧ forW dg b N (xs.drop (i + 1)) n ε, fun σ' H' z => ⟨xs.length - (i + 1), by omega, rfl, hlt, z⟩, fun x H' y => ?_⟩
      obtain ⟨g2, dx, ed, s2, o2, e2⟩ := wk.yld i x H H' g n hlt ex r.ok y
      have el : xs.drop i = dx :: xs.drop (i + 1) := by
        rw [List.drop_eq_getElem_cons hlt]
        congr 1
        rw [List.getElem?_eq_getElem hlt] at ed
        exact Option.some.inj ed
      rw [el] at fw
      refine ⟨_, g2, n, ε, dx, _, r.step s2 o2, e2, fw, fun σ2 ε2 q2 r2 _ => ?_⟩
      have st2 := s.trans s2
      obtain ⟨Hs, a1, a2, a3, a4⟩ := snap (K := X.K) (U := U) st2
      have again : ∀ σ3 g3 H3 n3 ε3, forW dg b N (xs.drop (i + 1)) n3 ε3 → Rp ℓ X.K (fun d p => Hs p = none ∧ U d p) g3 H3 n3 σ3 ε3 → Stp g2 Hs g3 H3 → ∃ g n ε, Rp ℓ X.K (fun d p => H0 p = none ∧ U d p) g H3 n σ3 ε ∧ Stp g0 H0 g H3 ∧ Ext gI g ∧ forW dg b N (xs.drop (i + 1)) n ε :=
        fun σ3 g3 H3 n3 ε3 q3 r3 s3 => ⟨g3, n3, ε3, a4 _ _ _ _ _ r3, a3 _ _ s3, (ex.trans s2.ext).trans s3.ext, q3⟩
      exact ⟨U, g2, Hs, g2, n, ε2, { N with nx := fun n' ε'' => forW dg b N (xs.drop (i + 1)) n' ε'', ct := fun n' ε'' => forW dg b N (xs.drop (i + 1)) n' ε'', bk := N.nx }, uo, a2 _ _ _ r2, a1, q2, again, fun σ3 g3 H3 n3 ε3 q3 r3 s3 => k1 σ3 g3 H3 n3 ε3 q3 (a4 _ _ _ _ _ r3) (a3 _ _ s3), again, fun v g3 H3 n3 z q3 s3 o3 e3 => k4.1 v g3 H3 n3 z q3 (a3 _ _ s3) o3 e3, fun v σ3 g3 H3 n3 ε3 z q3 r3 s3 e3 => k4.2.1 v σ3 g3 H3 n3 ε3 z q3 (a4 _ _ _ _ _ r3) (a3 _ _ s3) e3, fun σ3 g3 H3 n3 ε3 j p q3 r3 s3 e3 => k4.2.2.1 σ3 g3 H3 n3 ε3 j p q3 (a4 _ _ _ _ _ r3) (a3 _ _ s3) e3, fun σ3 g3 H3 n3 ε3 C dx z v q3 r3 s3 e3 e4 => k4.2.2.2 σ3 g3 H3 n3 ε3 C dx z v q3 (a4 _ _ _ _ _ r3) (a3 _ _ s3) e3 e4⟩
    · have e : i = xs.length := by omega
      subst e
      rw [List.drop_length] at fw
      exact .inl ⟨wk.stop H sm, k1 σ g H n ε fw r s⟩
def compW (dg : DG) (t : DT) (d : DE) (ε : Ev) (P : Nat → List D → Prop) : List D → List D → Nat → Prop
  | [], acc, n => P n acc
  | x :: xs, acc, n => dg x ε fun ε' => t n ε' fun n1 k => (k = true → d n1 ε' fun n2 y => compW dg t d ε P xs (acc ++ [y]) n2) ∧ (k = false → compW dg t d ε P xs acc n1)
def dComp (di : DI) (dg : DG) (t : DT) (d : DE) (vs : List Nat) : DO := fun n ε P => di n ε fun n1 xs => xs.length ≤ 16777216 ∧ compW dg t d (wipeE ε vs) P xs [] n1
def dYes : DT := fun n _ P => P n true
variable {ifs : List Expr} {elt : Expr} {scope : Scope} {own : List (Str × Nat)} {wi : TI} {gg : TG} {tt : TT} {te : TE}
theorem dts_nil : PTs X [] (liftT ℓ X.K dYes) := ⟨fun pins s σ H Q I ⟨O, g, n, ε, P, r, q, k⟩ => (pts_nil (X := X)).run pins s σ H Q I (k true g H n q (Stp.refl g H) r.ok)⟩
theorem dts_one (h : PT X c (liftT ℓ X.K t)) : PTs X [c] (liftT ℓ X.K t) := pts_one h
theorem comp_ok {K : PySem.W.Frag} {vs : List Nat} (hv : ∀ i ∈ ws, i ∈ vs) : ∀ σ H Q, liftO ℓ K (dComp di dg t d vs) σ H Q → tLc (liftI ℓ K di) (liftG ℓ K ws dg) (liftT ℓ K t) (liftE ℓ K d) vs σ H Q := fun σ H Q ⟨O, g, n, ε, P, r, q, k⟩ => by
  refine ⟨O, g, n, ε, _, r, q, fun J gI HI nI xs q1 s1 o1 wk => ?_⟩
  obtain ⟨hz, q1⟩ := q1
  intro D hD
  have hz2 := sz hz
  obtain ⟨z1, z2, z3, z4⟩ := new_own o1 hD (.lst [])
  refine ⟨fun i m H => m = xs.length - i ∧ i ≤ xs.length ∧ ∃ g n acc vsL, Ok ℓ K g H n ∧ Stp gI HI g H ∧ g.G D = none ∧ ¬ g.pot D ∧ H D = some (.lst vsL) ∧ Dens K g vsL acc ∧ acc.length ≤ i ∧ compW dg t d (wipeE ε vs) P (xs.drop i) acc n,
    ⟨xs.length, by simp, Nat.zero_le _, gI, nI, [], [], z2, z1, z3, z4, upd_same, .nil, Nat.le_refl _, by simpa using q1⟩, ?_⟩
  rintro i m H ⟨rfl, hi, g, n, acc, vsL, o, s, h1, h2, h3, h4, h5, cw⟩
  have sm : Same gI.G H := s.ext.G.trans o.sub
  by_cases hlt : i < xs.length
  · refine .inr ⟨wk.go i H hlt sm, fun H' => ∃ g n acc vsL, Ok ℓ K g H' n ∧ Stp gI HI g H' ∧ g.G D = none ∧ ¬ g.pot D ∧ H' D = some (.lst vsL) ∧ Dens K g vsL acc ∧ acc.length ≤ i + 1 ∧ compW dg t d (wipeE ε vs) P (xs.drop (i + 1)) acc n, fun H' z => ⟨xs.length - (i + 1), by omega, rfl, hlt, z⟩, fun x H' y => ?_⟩
    obtain ⟨g2, dx, ed, s2, o2, e2⟩ := wk.yld i x H H' g n hlt s.ext o y
    have el : xs.drop i = dx :: xs.drop (i + 1) := by
      rw [List.drop_eq_getElem_cons hlt]
      congr 1
      rw [List.getElem?_eq_getElem hlt] at ed
      exact Option.some.inj ed
    rw [el] at cw
    have stI := s.trans s2
    have rw2 := ((r.step s1 o1).step stI o2).wipe vs
    refine ⟨O, g2, n, _, dx, _, rw2, e2, cw, fun σ2 ε2 q2 r2 on => ⟨by rw [on.wipe hv, wipe_idem], O, g2, n, ε2, _, r2, q2, fun b g3 H3 n3 q3 s3 o3 => ?_⟩⟩
    have s23 := s2.trans s3
    have dH : H D ≠ none := by rw [h3]; exact Option.some_ne_none _
    cases b with
    | true =>
      refine iteT ?_
      refine ⟨O, g3, n3, ε2, _, r2.step s3 o3, q3.1 rfl, fun v g4 H4 n4 y q4 s4 o4 e4 => ?_⟩
      have s24 := s23.trans s4
      have hD4 : H4 D = some (.lst vsL) := s24.kep D _ h3 h2
      have g4D : g4.G D = none := s24.gro D dH h1
      have p4D : ¬ g4.pot D := fun z => h2 (s24.grp D dH z)
      refine ⟨vsL, hD4, by rw [h4.length]; omega, g4, n4, acc ++ [y], vsL ++ [v], ⟨fun a u w => ?_, fun a z => ?_, o4.t.upd (fun u z => by rw [hD4] at z; cases z; exact .inl ⟨_, rfl⟩) (fun ps z => by cases z), o4.cel.upd p4D⟩, ?_, g4D, p4D, upd_same, (h4.mono s24.ext).append (.cons e4 .nil), by rw [List.length_append, List.length_singleton]; omega, q4⟩
      · rw [upd_ne (ne_of_none w g4D)]
        exact o4.sub a u w
      · rw [upd_ne fun w => p4D (by rw [← w]; exact z)]
        exact o4.pot a z
      · exact (s.trans s24).mut hD
    | false =>
      refine iteF ?_
      exact ⟨g3, n3, acc, vsL, o3, s.trans s23, s23.gro D dH h1, fun z => h2 (s23.grp D dH z), s23.kep D _ h3 h2, h4.mono s23.ext, Nat.le_succ_of_le h5, q3.2 rfl⟩
  · have e : i = xs.length := by omega
    subst e
    rw [List.drop_length] at cw
    exact .inl ⟨wk.stop H sm, k D vsL g H n acc cw (s1.trans s) o (s1.back0 hD) h1 h2 h3 h4⟩
theorem do_comp {vs : List Nat} (hc : X.calm = true) (hN : X.N.Nodup) (hi : PI X tg iter (liftI ℓ X.K di)) (ok : BlkOk X.N X.env.scope scope own) (hv : ∀ i ∈ ws, i ∈ vs)
    (hg : ∀ (s : Shared) (H : Hp) (C : Addr) (cl : List (Str × Addr)) (fp : List Addr), PG (X.blk s H scope (compEnvC scope cl C X.env) fp) tg (liftG ℓ X.K ws dg)) (ht : ∀ (s : Shared) (H : Hp) (C : Addr) (cl : List (Str × Addr)) (fp : List Addr), PTs (X.blk s H scope (compEnvC scope cl C X.env) fp) ifs (liftT ℓ X.K t))
    (he : ∀ (s : Shared) (H : Hp) (C : Addr) (cl : List (Str × Addr)) (fp : List Addr), PE (X.blk s H scope (compEnvC scope cl C X.env) fp) elt (liftE ℓ X.K d)) (hs : ∀ x, foldedSetIterable iter X.env x = pure x := by intro _; rfl) (hvs : own.map (·.2) = vs := by rfl) :
    PE X (.ListComp elt [⟨tg, iter, ifs, 0⟩] scope pos) (liftO ℓ X.K (dComp di dg t d vs)) := by
  subst hvs
  exact pe_w (pe_lc hc hN hi ok hg ht he hs) (comp_ok hv)
variable {i : Nat} {y : Str} {py spos : Pos}
theorem setLc_ok {K : PySem.W.Frag} {o : DO} : ∀ E σ H, liftS ℓ W K (dSet i (dO o)) E σ H → tAsg (liftO ℓ K o) (gName i) E σ H := fun E σ H ⟨U, g0, H0, g, n, ε, N, uo, r, s0, q, k1, k2, k3, k4⟩ =>
  ⟨_, g, n, ε, _, r, q, fun p vs g' H' n' ds q1 s1 o1 h0 h1 h2 h3 h4 => by
    have ex : Ext g' (g'.add p (.lst vs)) := Ext.addOld h1
    have st : Stp g H (g'.add p (.lst vs)) H' := ⟨s1.ext.trans ex, fun a dd z => by
      show upd g'.G p (.lst vs) a = none
      rw [upd_ne fun w => dd (by rw [w]; exact h0)]
      exact s1.gro a dd z, s1.grp, s1.kep, s1.dom⟩
    have ok2 := o1.addOld h3 h2
    exact k1 _ _ H' n' _ q1 ((r.step st ok2).set (.lst Gh.at (h4.mono ex))) (s0.trans st)⟩
theorem ps_setComp {vs : List Nat} (hc : X.calm = true) (hN : X.N.Nodup) (hy : X.N[i]? = some y) (hyl : X.env.scope.names.lookup y = some .local) (hsw : swapsWith (.ListComp elt [⟨tg, iter, ifs, 0⟩] scope pos) (some (.Name y py)) spos.line X.env = pure true)
    (hi : PI X tg iter (liftI ℓ X.K di)) (ok : BlkOk X.N X.env.scope scope own) (hv : ∀ i ∈ ws, i ∈ vs)
    (hg : ∀ (s : Shared) (H : Hp) (C : Addr) (cl : List (Str × Addr)) (fp : List Addr), PG (X.blk s H scope (compEnvC scope cl C X.env) fp) tg (liftG ℓ X.K ws dg)) (ht : ∀ (s : Shared) (H : Hp) (C : Addr) (cl : List (Str × Addr)) (fp : List Addr), PTs (X.blk s H scope (compEnvC scope cl C X.env) fp) ifs (liftT ℓ X.K t))
    (he : ∀ (s : Shared) (H : Hp) (C : Addr) (cl : List (Str × Addr)) (fp : List Addr), PE (X.blk s H scope (compEnvC scope cl C X.env) fp) elt (liftE ℓ X.K d)) (hs : ∀ x, foldedSetIterable iter X.env x = pure x := by intro _; rfl) (hvs : own.map (·.2) = vs := by rfl) :
    PS X (.Assign [.Name y py] (.ListComp elt [⟨tg, iter, ifs, 0⟩] scope pos) spos) (tAsg (liftO ℓ X.K (dComp di dg t d vs)) (gName i)) := by
  subst hvs
  exact ps_w (ps_setLc hc hN hy hyl hsw hi ok hg ht he hs) fun E σ H h => comp_ok hv σ H _ h
theorem ds_setComp {o : DO} (h : PS X (.Assign [.Name y py] e spos) (tAsg (liftO ℓ X.K o) (gName i))) : PS X (.Assign [.Name y py] e spos) (liftS ℓ W X.K (dSet i (dO o))) := ps_w h setLc_ok
end
end Pd
namespace Pd
variable {ℓ : Bool}
open PySem L2
variable {W : WX}
abbrev FD := List D → Nat → (Nat → D → Prop) → Prop
def liftF (ℓ : Bool) (K : PySem.W.Frag) (f : FD) : Sp := fun vs H Q _ => ∃ g n ds P, Ok ℓ K g H n ∧ Dens K g vs ds ∧ f ds n P ∧ ∀ v g' H' n' r, P n' r → Stp g H g' H' → Ok ℓ K g' H' n' → Den K g' v r → Q v H'
def envOf (N : Nat) (ds : List D) : Ev := ds.map Sl.val ++ List.replicate (N - ds.length) Sl.no
def dFn (N np : Nat) (b : DS) : FD := fun ds n P => ds.length = np ∧ b { nx := fun n _ => P n .non, rt := P } n (envOf N ds)
theorem envOf_at {N : Nat} {ds : List D} {i : Nat} {s : Sl} (h : (envOf N ds)[i]? = some s) : s = .no ∨ ∃ d, ds[i]? = some d ∧ s = .val d := by
  unfold envOf at h
  rw [List.getElem?_append] at h
  split at h
  · rw [List.getElem?_map] at h
    cases e : ds[i]? with
    | none =>
      rw [e] at h
      cases h
    | some d =>
      rw [e] at h
      cases h
      exact .inr ⟨d, rfl, rfl⟩
  · rw [List.getElem?_replicate] at h
    split at h
    · cases h
      exact .inl rfl
    · cases h
theorem start_at {names : List Str} {vs : List V} {i : Nat} {v : V} (h : vs[i]? = some v) : (L2.start names vs)[i]? = some (some v) := by
  unfold L2.start
  have hi : i < vs.length := (List.getElem?_eq_some_iff.mp h).1
  rw [List.getElem?_append_left (by rw [List.length_map]; exact hi), List.getElem?_map, h]
  rfl
theorem Rp.start {K : PySem.W.Frag} {O : OD → Addr → Prop} {g : Gh} {H : Hp} {n : Nat} {names : List Str} {vs : List V} {ds : List D} (ok : Ok ℓ K g H n) (h : Dens K g vs ds) : Rp ℓ K O g H n (L2.start names vs) (envOf names.length ds) := by
  refine ⟨ok, ?_, fun i s e => ?_, fun i j p d1 d2 _ e1 _ _ _ => ?_⟩
  · unfold L2.start envOf
    rw [List.length_append, List.length_append, List.length_map, List.length_map, List.length_replicate, List.length_replicate, h.length]
  · rcases envOf_at e with z | ⟨d, z, w⟩
    · rw [z]
      trivial
    · rw [w]
      obtain ⟨v, v1, v2⟩ := h.get z
      exact ⟨v, start_at v1, v2⟩
  · rcases envOf_at e1 with z | ⟨d, _, z⟩
    · cases z
    · cases z
theorem liftF_body {K : PySem.W.Frag} {b : DS} {names : List Str} {np : Nat} {vs : List V} {H : Hp} {Q : VK} {E : XK} (h : liftF ℓ K (dFn names.length np b) vs H Q E) : liftS ℓ W0 K b { nx := fun _ H' => Q .non H', rt := Q } (L2.start names vs) H := by
  obtain ⟨g, n, ds, P, ok, dd, ⟨_, q⟩, k⟩ := h
  exact ⟨fun _ _ => True, g, H, g, n, _, _, ⟨fun _ _ => trivial, fun _ _ _ _ _ => trivial, fun _ _ _ _ => trivial, fun _ _ _ => trivial⟩, Rp.start ok dd, Stp.refl g H, q, fun σ' g' H' n' ε' q' r' s' => k .non g' H' n' .non q' s' r'.ok .non, fun _ _ _ _ _ q' _ _ => q'.elim, fun _ _ _ _ _ q' _ _ => q'.elim, k, fun _ _ _ _ _ _ _ q' _ _ _ => q'.elim, fun _ _ _ _ _ _ _ q' _ _ _ => q'.elim, fun _ _ _ _ _ _ _ _ _ q' _ _ _ _ => q'.elim⟩
theorem liftF_len {K : PySem.W.Frag} {b : DS} {N np : Nat} {vs : List V} {H : Hp} {Q : VK} {E : XK} (h : liftF ℓ K (dFn N np b) vs H Q E) : vs.length = np := by
  obtain ⟨g, n, ds, P, ok, dd, ⟨q, _⟩, k⟩ := h
  rw [dd.length]
  exact q
theorem liftF_mono {K : PySem.W.Frag} {f f' : FD} (h : ∀ ds n P, f' ds n P → f ds n P) : ∀ vs H Q E, liftF ℓ K f' vs H Q E → liftF ℓ K f vs H Q E := fun vs H Q E ⟨g, n, ds, P, ok, dd, q, k⟩ => ⟨g, n, ds, P, ok, dd, h _ _ _ q, k⟩
structure FnG (P : Program) (w : World) (K : PySem.W.Frag) (mg : Str → Option Value) (base : Heap) (k : Nat) (f : Addr) (fd : FuncData) (ps : List Str) (sp : Sp) : Prop where
  len : ∀ vs H Q E, sp vs H Q E → vs.length = ps.length
  run : ∀ (A : Around) (outer : List Env) (s : Shared) (H : Hp) (args : Args) (us : List Value) (vs : List V) (Q : VK) (E : XK), Room k A → A.guards = some [] → Env0 P w K mg base A outer s H → BindsTo s fd args (ps.zip us) → Vals vs us → sp vs H Q E →
    codeAny (model P w) A (.call (.ref f) args) (CR CX0 outer P w H s Q E) s
section
variable {P : Program} {w : World} {K : PySem.W.Frag} {mg : Str → Option Value} {base : Heap} {k : Nat} {f : Addr} {fd : FuncData} {ps : List Str} {sp sp' : Sp}
theorem FnG.imp (F : FnG P w K mg base k f fd ps sp) (h : ∀ vs H Q E, sp' vs H Q E → sp vs H Q E) : FnG P w K mg base k f fd ps sp' :=
  ⟨fun vs H Q E q => F.len vs H Q E (h _ _ _ _ q), fun A outer s H args us vs Q E hr hg he hb hv hs => F.run A outer s H args us vs Q E hr hg he hb hv (h _ _ _ _ hs)⟩
theorem FnG.mono {j : Nat} (F : FnG P w K mg base j f fd ps sp) (h : j ≤ k) : FnG P w K mg base k f fd ps sp := ⟨F.len, fun A outer s H args us vs Q E hr => F.run A outer s H args us vs Q E (hr.mono h)⟩
theorem FnG.of (F : FnOk P w K mg base CX0 k f fd ps sp) : FnG P w K mg base k f fd ps sp := ⟨F.len, fun A outer s H args us vs Q E hr _ => F.run A outer s H args us vs Q E hr⟩
theorem FnG.mk' {x qual : Str} {params : Arguments} {body : List Stmt} {scope : Scope} {dvs : List V} {kws : List (Str × V)} {N : List Str} (F : FunD K x qual params body scope dvs kws f fd) (S : FnScope N ps scope) (len : ∀ vs H Q E, sp vs H Q E → vs.length = ps.length)
    (hb : ∀ (cdv : Value), cdv = fd.code → ∀ (A : Around) (outer : List Env) (s : Shared) (H : Hp) (vs : List V) (Q : VK) (E : XK), Room k (A.deeper (PyProof.Rows.envOfC qual scope s.heap.objs.size f cdv)) → A.guards = some [] → sp vs H Q E →
      ∃ t, PSs (cxOf CX0 P w K mg base N qual scope f cdv A outer s H E) body t ∧ t { nx := fun _ H' => Q .non H', rt := Q } (L2.start N vs) H) : FnG P w K mg base (k + 1) f fd ps sp := by
  obtain ⟨oc, od, dV, kV, doc, pm, an, cdv, ct, osl, rfl, lk, hcd, _, _⟩ := F.ex
  refine ⟨len, ?_⟩
  intro A outer s H args us vs Q E room guards e0 hbind rel hsp
  have hlen := len _ _ _ _ hsp
  have kept : ∀ b o, base.get? b = some o → s.heap.get? b = some o := fun b o e => (e0.bs b o e).1
  have hK : K.In s.heap := e0.mod.kin.keeps kept
  refine codeAny_call_function room.depth (hK _ _ lk) rfl S.co S.gen rfl (PySem.W.codeRec_of hK hcd) (hbind _ _ _ _ (wpAny_newFunctionEnv_cells S.kind (fun y hy => ?_) fun env he s1 x => ?_))
  · rcases S.par y.1 (List.of_mem_zip (a := y.1) (b := y.2) hy).1 with z | z
    · exact .inl z
    · exact .inr ⟨z, PySem.W.cellsFrom_some _ _ _ (.inl z)⟩
  · subst he
    refine ⟨(e0.mod.nolimit.keeps kept).keeps x.toInCall.keep, codeAny_func ?_⟩
    obtain ⟨t, ht, ok⟩ := hb cdv rfl A outer s H vs Q E (room.deeper _) guards hsp
    refine wpAny_mono (ht.run [] s1 (L2.start N vs) H _ (inv_start S room.hd e0 hlen rel x) ok) (fun fl s' z => ?_) fun _ _ z => z
    cases fl with
    | next =>
      obtain ⟨σ', H', J, q⟩ := z
      exact ⟨.non, H', J.os, J.bare, J.base, J.hok, rfl, q⟩
    | ret u =>
      obtain ⟨v, σ', H', J, r, q⟩ := z
      exact ⟨v, H', J.os, J.bare, J.base, J.hok, r, q⟩
    | brk =>
      obtain ⟨_, _, _, q⟩ := z
      exact False.elim q
    | cont =>
      obtain ⟨_, _, _, q⟩ := z
      exact False.elim q
end
section
variable {P : Program} {w : World} {K : PySem.W.Frag} {mg : Str → Option Value} {base : Heap} {k : Nat} {f : Addr} {fd : FuncData} {ps : List Str}
theorem fn_ok {x qual : Str} {params : Arguments} {body : List Stmt} {scope : Scope} {dvs : List V} {kws : List (Str × V)} {N : List Str} {b : DS} {sp : FD} (F : FunD K x qual params body scope dvs kws f fd) (S : FnScope N ps scope)
    (hb : ∀ (cdv : Value) (A : Around) (outer : List Env) (s : Shared) (H : Hp) (E : XK), Room k (A.deeper (PyProof.Rows.envOfC qual scope s.heap.objs.size f cdv)) → PSs (cxOf CX0 P w K mg base N qual scope f cdv A outer s H E).nox body (liftS ℓ W0 K b))
    (hs : ∀ ds n Q, sp ds n Q → dFn N.length ps.length b ds n Q) : FnOk P w K mg base CX0 (k + 1) f fd ps (liftF ℓ K sp) :=
  (F.ok (sp := liftF ℓ K (dFn N.length ps.length b)) S (fun vs H Q E h => liftF_len h) fun cdv A outer s H vs Q E hr h => ⟨_, PSs.nox (hb cdv A outer s H E hr), liftF_body h⟩).imp (liftF_mono hs)
theorem fnG_ok {x qual : Str} {params : Arguments} {body : List Stmt} {scope : Scope} {dvs : List V} {kws : List (Str × V)} {N : List Str} {b : DS} {sp : FD} (F : FunD K x qual params body scope dvs kws f fd) (S : FnScope N ps scope)
    (hb : ∀ (cdv : Value), cdv = fd.code → ∀ (A : Around) (outer : List Env) (s : Shared) (H : Hp) (E : XK), Room k (A.deeper (PyProof.Rows.envOfC qual scope s.heap.objs.size f cdv)) → (A.deeper (PyProof.Rows.envOfC qual scope s.heap.objs.size f cdv)).guards = some [] → PSs (cxOf CX0 P w K mg base N qual scope f cdv A outer s H E).nox body (liftS ℓ W0 K b))
    (hs : ∀ ds n Q, sp ds n Q → dFn N.length ps.length b ds n Q) : FnG P w K mg base (k + 1) f fd ps (liftF ℓ K sp) :=
  (FnG.mk' (sp := liftF ℓ K (dFn N.length ps.length b)) F S (fun vs H Q E h => liftF_len h) fun cdv hcd A outer s H vs Q E hr hg h => ⟨_, PSs.nox (hb cdv hcd A outer s H E hr hg), liftF_body h⟩).imp (liftF_mono hs)
end
def dCall (f : FD) (dd : List D) (t : DA) : DE := fun n ε P => t n ε fun n1 ds => f (ds ++ dd) n1 P
section
variable {X : Cx} {k : Nat} {f C : Addr} {fd : FuncData} {ps : List Str} {sp : FD} {dvs : List V} {dd : List D} {ds : List Value} {E : XK} {x m : Str} {p pos apos : Pos} {e o : Expr} {es : List Expr} {da : DE} {t : DA}
theorem call_ok {K : PySem.W.Frag} (hd : ∀ g, Dens K g dvs dd) : ∀ σ H Q, liftE ℓ K (dCall sp dd t) σ H Q → tCall (liftF ℓ K sp) dvs E (liftA ℓ K t) σ H Q := fun σ H Q ⟨O, g, n, ε, P, r, q, kk⟩ =>
  ⟨O, g, n, ε, _, r, q, fun vs g1 H1 n1 d1 q1 s1 o1 e1 => ⟨g1, n1, d1 ++ dd, P, o1, e1.append (hd g1), q1, fun v g2 H2 n2 z q2 s2 o2 e2 => kk v g2 H2 n2 z q2 (s1.trans s2) o2 e2⟩⟩
theorem de_call (F : FnOk X.prog X.w X.K X.mg X.base CX0 k f fd ps (liftF ℓ X.K sp)) (hr : Room k X.A) (hg : Gl X x) (hm : X.mg x = some (.ref f)) (hk : PySem.W.keepIn X.K (.ref f) = true) (hb : Binds X.K fd ps ds) (hv : Vals dvs ds) (hd : ∀ g, Dens X.K g dvs dd)
    (ha : PA X (e :: es) (liftA ℓ X.K t)) (hdb : (x == ("__debug__" : Str)) = false := by decide) (he : starEach (e :: es) X.env = (false, eval e X.env) :: starEach es X.env := by rfl) (hpl : (backTo pos (starEach es X.env)).any (·.1) = false := by rfl) :
    PE X (.Call (.Name x p) (e :: es) [] pos) (liftE ℓ X.K (dCall sp dd t)) := pe_w (pe_call F hr hg hm hk hb hv pass0 ha hdb he hpl) (call_ok (E := E0) hd)
theorem de_callG (F : FnG X.prog X.w X.K X.mg X.base k f fd ps (liftF ℓ X.K sp)) (hr : Room k X.A) (hgd : X.A.guards = some []) (hg : Gl X x) (hm : X.mg x = some (.ref f)) (hk : PySem.W.keepIn X.K (.ref f) = true) (hb : Binds X.K fd ps ds) (hv : Vals dvs ds) (hd : ∀ g, Dens X.K g dvs dd)
    (ha : PA X (e :: es) (liftA ℓ X.K t)) (hdb : (x == ("__debug__" : Str)) = false := by decide) (he : starEach (e :: es) X.env = (false, eval e X.env) :: starEach es X.env := by rfl) (hpl : (backTo pos (starEach es X.env)).any (·.1) = false := by rfl) :
    PE X (.Call (.Name x p) (e :: es) [] pos) (liftE ℓ X.K (dCall sp dd t)) := by
  refine pe_w (t := tCall (liftF ℓ X.K sp) dvs E0 (liftA ℓ X.K t)) ⟨fun pins s σ H Q I h => ?_⟩ (call_ok hd)
  refine wpAny_Call_Name_kw (ld_glob I hg hm (PySem.W.callWith_K (h₀ := X.base) I.ok.mod.kin hk (thn (ha.run pos pins s σ H _ I h) fun us s1 ⟨vs, H1, I1, r, q⟩ => ⟨I1.kIn, ?_⟩) he hpl) hdb)
  have q' : liftF ℓ X.K sp (vs ++ dvs) H1 Q E0 := q
  have r2 : Vals (vs ++ dvs) (us ++ ds) := r.append hv
  have hl : (us ++ ds).length = ps.length := by
    rw [← r2.length]
    exact F.len _ _ _ _ q'
  refine wpAny_call (codeAny_mono (F.run X.A X.stack s1 H1 ⟨us, []⟩ (us ++ ds) (vs ++ dvs) Q E0 hr hgd I1.env0 (hb s1 us I1.kIn hl) r2 q') fun z s' hz => ?_)
  cases z with
  | error er =>
    have hf : CX0 X.stack H1 s1 E0 er s' := hz
    exact hf.elim
  | ok fl =>
    cases fl with
    | ret u => exact I1.after hz
    | next => exact False.elim hz
    | brk => exact False.elim hz
    | cont => exact False.elim hz
theorem Flds.lookup {K : PySem.W.Frag} {g : Gh} {f : Str} : ∀ {fvs : List (Str × V)} {fs : List (Str × D)} {d : D}, Flds K g fvs fs → fs.lookup f = some d → ∃ v, fvs.lookup f = some v ∧ Den K g v d
  | _, _, _, .nil, e => by simp at e
  | _, _, _, .cons (x := x) (v := v) (d := d') (vs := vs) (ds := ds) h t, e => by
    rw [List.lookup_cons] at e ⊢
    cases z : f == x with
    | true =>
      rw [z] at e
      cases e
      exact ⟨v, rfl, h⟩
    | false =>
      rw [z] at e
      exact Flds.lookup t e
theorem Flds.lookupN {K : PySem.W.Frag} {g : Gh} {f : Str} : ∀ {fvs : List (Str × V)} {fs : List (Str × D)}, Flds K g fvs fs → fs.lookup f = none → fvs.lookup f = none
  | _, _, .nil, _ => rfl
  | _, _, .cons (x := x) h t, e => by
    rw [List.lookup_cons] at e ⊢
    cases z : f == x with
    | true =>
      rw [z] at e
      cases e
    | false =>
      rw [z] at e
      exact Flds.lookupN t e
def dFld (C : Addr) (f : Str) (d : DE) : DE := fun n ε P => d n ε fun n1 x => match x with
  | .obj C' fs => C' = C ∧ ∃ y, fs.lookup f = some y ∧ P n1 y
  | _ => False
def dProp (C : Addr) (sp : FD) (d : DE) : DE := fun n ε P => d n ε fun n1 x => match x with
  | .obj C' fs => C' = C ∧ sp [.obj C' fs] n1 P
  | _ => False
def dMeth (C : Addr) (m : Str) (sp : FD) (dd : List D) (d : DE) (t : DA) : DE := fun n ε P => d n ε fun n1 x => match x with
  | .obj C' fs => C' = C ∧ fs.lookup m = none ∧ t n1 ε fun n2 ds => sp (.obj C' fs :: (ds ++ dd)) n2 P
  | _ => False
theorem de_fld {f : Str} (c : Cls X.K C) (na : NoAttr X.K C f) (ha : PE X o (liftE ℓ X.K da)) (hb : attributeBase o f X.env (eval o X.env) = eval o X.env := by rfl) : PE X (.Attribute o f pos) (liftE ℓ X.K (dFld C f da)) :=
  de_of (pe_fld ha hb) fun O g H n σ ε P Q r q kk => ⟨O, g, n, ε, _, r, q, fun v g1 H1 n1 x q1 s1 o1 e1 => by
    cases e1 with
    | obj h1 h2 =>
      obtain ⟨rfl, y, l, q2⟩ := q1
      obtain ⟨v', l', dv⟩ := h2.lookup l
      exact ⟨_, _, _, _, v', rfl, o1.sub _ _ h1, c, na, l', kk v' g1 H1 n1 y q2 s1 o1 dv⟩
    | _ => exact q1.elim⟩
theorem de_prop {f : Str} {pp gg : Addr} (c : Cls X.K C) (hp : PropOf X.K C f pp gg) (F : FnOk X.prog X.w X.K X.mg X.base CX0 k gg fd ps (liftF ℓ X.K sp)) (hr : Room (k + 1) X.A) (hb : Binds X.K fd ps []) (ha : PE X o (liftE ℓ X.K da))
    (hab : attributeBase o f X.env (eval o X.env) = eval o X.env := by rfl) : PE X (.Attribute o f pos) (liftE ℓ X.K (dProp C sp da)) :=
  de_of (pe_prop ha c hp F hr hb .nil (E := E0) pass0 hab) fun O g H n σ ε P Q r q kk => ⟨O, g, n, ε, _, r, q, fun v g1 H1 n1 x q1 s1 o1 e1 => by
    cases e1 with
    | obj h1 h2 =>
      obtain ⟨rfl, q2⟩ := q1
      exact ⟨_, _, _, rfl, o1.sub _ _ h1, g1, n1, _, P, o1, .cons (.obj h1 h2) .nil, q2, fun v2 g2 H2 n2 z q3 s3 o3 e3 => kk v2 g2 H2 n2 z q3 (s1.trans s3) o3 e3⟩
    | _ => exact q1.elim⟩
theorem meth_ok {K : PySem.W.Frag} (hd : ∀ g, Dens K g dvs dd) : ∀ σ H Q, liftE ℓ K (dMeth C m sp dd da t) σ H Q → tMeth C m (liftF ℓ K sp) dvs E (liftE ℓ K da) (liftA ℓ K t) σ H Q := fun σ H Q ⟨O, g, n, ε, P, r, q, kk⟩ =>
  ⟨O, g, n, ε, _, r, q, fun v g1 H1 n1 x q1 s1 o1 e1 => by
    cases e1 with
    | obj h1 h2 =>
      obtain ⟨rfl, l, q2⟩ := q1
      exact ⟨_, _, _, rfl, o1.sub _ _ h1, h2.lookupN l, O, g1, n1, ε, _, r.step s1 o1, q2, fun vs g2 H2 n2 d2 q3 s3 o3 e3 => ⟨g2, n2, _, P, o3, .cons ((Den.obj h1 h2).mono s3.ext) (e3.append (hd g2)), q3, fun v2 g4 H4 n4 z q4 s4 o4 e4 => kk v2 g4 H4 n4 z q4 ((s1.trans s3).trans s4) o4 e4⟩⟩
    | _ => exact q1.elim⟩
theorem de_meth {pl : Sem Bool} (c : Cls X.K C) (hm : Meth X.K C m f) (F : FnOk X.prog X.w X.K X.mg X.base CX0 k f fd ps (liftF ℓ X.K sp)) (hr : Room k X.A) (hb : Binds X.K fd ps ds) (hv : Vals dvs ds) (hd : ∀ g, Dens X.K g dvs dd) (ho : PE X o (liftE ℓ X.K da)) (ha : PA X (e :: es) (liftA ℓ X.K t))
    (hst : starEach (e :: es) X.env = (false, eval e X.env) :: starEach es X.env := by rfl) (hpl : (backTo pos (starEach es X.env)).any (·.1) = false := by rfl)
    (ht : eval (.Call (.Attribute o m apos) (e :: es) [] pos) X.env = (do
      let ov ← eval o X.env
      standAt apos.atName
      let (f, first) ← holding [ov] (getMethod ov m pl)
      callWith pos f first (backTo pos (starEach (e :: es) X.env)) (backToKw pos (keywordEach [] X.env))) := by rfl) :
    PE X (.Call (.Attribute o m apos) (e :: es) [] pos) (liftE ℓ X.K (dMeth C m sp dd da t)) := pe_w (pe_meth ho c hm F hr hb hv (E := E0) pass0 ha hst hpl ht) (meth_ok hd)
abbrev FI := List D → Nat → (Nat → List (Str × D) → Prop) → Prop
def rem (H : Hp) (x : Addr) : Hp := fun a => if a = x then none else H a
def liftInit (ℓ : Bool) (K : PySem.W.Frag) (C : Addr) (f : FI) : Sp := fun vs H Q _ => ∃ g n x dx vs' ds P, vs = .ref x :: vs' ∧ H x = some (.ins C dx []) ∧ g.G x = none ∧ ¬ g.pot x ∧ Ok ℓ K g H n ∧ Dens K g vs' ds ∧ f ds n P ∧
  ∀ g' H' n' fs dx' fvs, P n' fs → Stp g (rem H x) g' H' → Ok ℓ K g' H' n' → g'.G x = none → ¬ g'.pot x → H' x = some (.ins C dx' fvs) → Flds K g' fvs fs → Q .non H'
def dMake (C : Addr) (f : FI) (dd : List D) (t : DA) : DE := fun n ε P => t n ε fun n1 ds => f (ds ++ dd) n1 fun n2 fs => P n2 (.obj C fs)
theorem make_ok {K : PySem.W.Frag} {fi : FI} (hd : ∀ g, Dens K g dvs dd) : ∀ σ H Q, liftE ℓ K (dMake C fi dd t) σ H Q → tMake C (liftInit ℓ K C fi) dvs E (liftA ℓ K t) σ H Q := fun σ H Q ⟨O, g, n, ε, P, r, q, kk⟩ =>
  ⟨O, g, n, ε, _, r, q, fun vs g1 H1 n1 d1 q1 s1 o1 e1 => fun x dx hx hdx hne => by
    obtain ⟨a1, a2, a3, a4⟩ := new_own o1 hdx (.own x)
    have hx1 : upd H1 dx (.own x) x = none := by rw [upd_ne hne.symm]; exact hx
    obtain ⟨b1, b2, b3, b4⟩ := new_own a2 hx1 (.ins C dx [])
    refine ⟨g1, n1, x, dx, vs ++ dvs, d1 ++ dd, _, rfl, upd_same, b3, b4, b2, e1.append (hd g1), q1, fun g' H' n' fs dx' fvs q2 s2 o2 h1 h2 h3 h4 => ⟨rfl, ?_⟩⟩
    have hH : H x = none := s1.back0 hx
    have ex : Ext g' (g'.add x (.ins C dx' fvs)) := Ext.addOld h1
    have re : ∀ a, rem (upd (upd H1 dx (.own x)) x (.ins C dx [])) x a = upd H1 dx (.own x) a := fun a => by
      unfold rem
      by_cases z : a = x
      · rw [if_pos z, z, hx1]
      · rw [if_neg z, upd_ne z]
    have s2' : Stp g1 (upd H1 dx (.own x)) g' H' := by
      have e : rem (upd (upd H1 dx (.own x)) x (.ins C dx [])) x = upd H1 dx (.own x) := funext re
      rw [e] at s2
      exact s2
    have st := (s1.trans a1).trans s2'
    have st2 : Stp g H (g'.add x (.ins C dx' fvs)) H' := ⟨st.ext.trans ex, fun a dn z => by
      show upd g'.G x _ a = none
      rw [upd_ne fun w => dn (by rw [w]; exact hH)]
      exact st.gro a dn z, st.grp, st.kep, st.dom⟩
    exact kk _ _ H' n' _ q2 st2 (o2.addOld h3 h2) (.obj Gh.at (h4.mono ex))⟩
theorem de_make {fi : FI} (M : Mk X.K C f) (F : FnOk X.prog X.w X.K X.mg X.base CX0 k f fd ps (liftInit ℓ X.K C fi)) (hr : Room (k + 1) X.A) (hg : Gl X x) (hm : X.mg x = some (.ref C)) (hb : Binds X.K fd ps ds) (hv : Vals dvs ds) (hd : ∀ g, Dens X.K g dvs dd)
    (ha : PA X (e :: es) (liftA ℓ X.K t)) (hdb : (x == ("__debug__" : Str)) = false := by decide) (he : starEach (e :: es) X.env = (false, eval e X.env) :: starEach es X.env := by rfl) (hpl : (backTo pos (starEach es X.env)).any (·.1) = false := by rfl) :
    PE X (.Call (.Name x p) (e :: es) [] pos) (liftE ℓ X.K (dMake C fi dd t)) := pe_w (pe_make M F hr hg hm hb hv (E := E0) pass0 ha hdb he hpl) (make_ok hd)
end
def iniEnd (C : Addr) (P : Nat → List (Str × D) → Prop) (n : Nat) (ε : Ev) : Prop := match (ε : List Sl)[(0 : Nat)]? with
  | some (.own (.ins C' fs)) => C' = C ∧ P n fs
  | _ => False
def dIni (C : Addr) (N np : Nat) (b : DS) : FI := fun ds n P => ds.length + 1 = np ∧ b { nx := fun n ε => iniEnd C P n ε, rt := fun _ _ => False, slf := some C } n (.own (.ins C []) :: envOf (N - 1) ds)
theorem liftInit_body {K : PySem.W.Frag} {C : Addr} {b : DS} {n1 : Str} {names : List Str} {np : Nat} {vs : List V} {H : Hp} {Q : VK} {E : XK} (h : liftInit ℓ K C (dIni C (n1 :: names).length np b) vs H Q E) : liftS ℓ W0 K b { nx := fun _ H' => Q .non H', rt := Q } (L2.start (n1 :: names) vs) H := by
  obtain ⟨g, n, x, dx, vs', ds, P, rfl, hx, gx, px, ok, dd, ⟨_, q⟩, k⟩ := h
  have hs : L2.start (n1 :: names) (.ref x :: vs') = some (.ref x) :: L2.start names vs' := by
    unfold L2.start
    simp
  rw [hs]
  have r0 : Rp ℓ K (fun d p => rem H x p = none ∧ (∀ fs, d = .ins C fs → p = x)) g H n (start names vs') (envOf names.length ds) := Rp.start ok dd
  have noown : ∀ (j : Nat) (d : OD), (envOf names.length ds)[j]? = some (.own d) → False := fun j d e => by
    rcases envOf_at e with z | ⟨_, _, z⟩
    · cases z
    · cases z
  have r1 : Rp ℓ K (fun d p => rem H x p = none ∧ (∀ fs, d = .ins C fs → p = x)) g H n (some (.ref x) :: L2.start names vs') (.own (.ins C []) :: envOf names.length ds) := by
    refine ⟨ok, congrArg Nat.succ r0.len, fun i s e => ?_, fun i j p d1 d2 hij e1 e2 _ _ => ?_⟩
    · cases i with
      | zero =>
        cases e
        exact ⟨x, _, rfl, ⟨if_pos rfl, fun _ _ => rfl⟩, gx, px, hx, dx, [], rfl, .nil⟩
      | succ i => exact r0.sl i s (by simpa using e)
    · cases i with
      | zero =>
        cases j with
        | zero => exact hij rfl
        | succ j => exact noown j d2 (by simpa using e2)
      | succ i => exact noown i d1 (by simpa using e1)
  have s0 : Stp g (rem H x) g H := by
    refine ⟨Ext.refl g, fun _ _ z => z, fun _ _ z => z, fun a o e _ => ?_, fun a e => ?_⟩
    · have e' : (if a = x then none else H a) = some o := e
      by_cases z : a = x
      · rw [if_pos z] at e'
        cases e'
      · rw [if_neg z] at e'
        exact e'
    · intro z
      refine e ?_
      show (if a = x then none else H a) = none
      rw [z]
      split <;> rfl
  refine ⟨fun d p => ∀ fs, d = .ins C fs → p = x, g, rem H x, g, n, _, _, ⟨fun ds p fs e => (by cases e), fun C1 fs fs' p h f2 e => h fs (by cases e; rfl), fun C1 fs p h f2 e => (by cases e; exact (h rfl).elim), fun ks vs p fs e => (by cases e)⟩, r1, s0, q, fun σ' g' H' n' ε' q' r' s' => ?_, fun _ _ _ _ _ q' _ _ => q'.elim, fun _ _ _ _ _ q' _ _ => q'.elim, fun _ _ _ _ _ q' _ _ _ => q'.elim, fun _ _ _ _ _ _ _ q' _ _ _ => q'.elim, fun _ _ _ _ _ _ _ q' _ _ _ => q'.elim, fun _ _ _ _ _ _ _ _ _ q' _ _ _ _ => q'.elim⟩
  have q2 : iniEnd C P n' ε' := q'
  unfold iniEnd at q2
  split at q2
  · rename_i C' fs e
    obtain ⟨rfl, q3⟩ := q2
    obtain ⟨p, o, e1, ⟨_, h2⟩, h3, h4, h5, dx', fvs, rfl, h6⟩ := r'.sl 0 _ e
    have hp : p = x := h2 _ rfl
    subst hp
    exact k g' H' n' fs dx' fvs q3 s' r'.ok h3 h4 h5 h6
  · exact q2.elim
def putFD (f : Str) (v : D) : List (Str × D) → List (Str × D)
  | [] => [(f, v)]
  | (g, x) :: r => if g = f then (g, v) :: r else (g, x) :: putFD f v r
theorem Flds.put {K : PySem.W.Frag} {g : Gh} {f : Str} {v : V} {d : D} (h : Den K g v d) : ∀ {fvs : List (Str × V)} {fs : List (Str × D)}, Flds K g fvs fs → Flds K g (putF f v fvs) (putFD f d fs)
  | _, _, .nil => .cons h .nil
  | _, _, .cons (x := x) a t => by
    unfold putF putFD
    by_cases z : x = f
    · rw [if_pos z, if_pos z]
      exact .cons h t
    · rw [if_neg z, if_neg z]
      exact .cons a (Flds.put h t)
theorem Flds.length {K : PySem.W.Frag} {g : Gh} : ∀ {fvs : List (Str × V)} {fs : List (Str × D)}, Flds K g fvs fs → fvs.length = fs.length
  | _, _, .nil => rfl
  | _, _, .cons _ t => congrArg Nat.succ (Flds.length t)
def dFst (C : Addr) (i : Nat) (f : Str) (d : DE) : DS := fun N n ε => d n ε fun n1 r => match ε[i]? with
  | some (.own (.ins C' fs)) => C' = C ∧ fs.length < 1000 ∧ N.nx n1 (ε.set i (.own (.ins C' (putFD f r fs))))
  | _ => False
section
variable {X : Cx} {C : Addr} {pos pos' : Pos} {o e : Expr} {d : DE} {i : Nat} {f : Str}
theorem ds_fst (c : Cls X.K C) (na : NoAttr X.K C f) (ho : PE X o (tVar i)) (he : PE X e (liftE ℓ X.K d)) (hs : swapsWith e (some (.Attribute o f pos')) pos.line X.env = pure false := by rfl) : PS X (.Assign [.Attribute o f pos'] e pos) (liftS ℓ W X.K (dFst C i f d)) :=
  ps_w (ps_fld ho he hs) fun E σ H ⟨U, g0, H0, g, n, ε, N, uo, r, s0, q, k1, k2, k3, k4⟩ => ⟨_, g, n, ε, _, r, q, fun v g1 H1 n1 x q1 s1 o1 e1 => by
    split at q1
    · rename_i C' fs es
      obtain ⟨rfl, hl, q2⟩ := q1
      have r1 := r.step s1 o1
      obtain ⟨p, ob, a1, ⟨a2, a2'⟩, a3, a4, a5, dx, fvs, rfl, a6⟩ := r1.sl i _ es
      refine ⟨_, a1, p, C', dx, fvs, rfl, a5, c, na, by rw [a6.length]; exact hl, ?_⟩
      exact k1 σ g1 _ n1 _ q2 (r1.mut es a1 ⟨dx, _, rfl, a6.put e1⟩ fun z => ⟨z.1, uo.ins _ _ _ _ z.2⟩) ((s0.trans s1).mut a2)
    · exact q1.elim⟩
end
end Pd
namespace Pd
variable {ℓ : Bool}
open PySem L2
mutual
def toPD : D → PyData
  | .non => .none
  | .bl b => .bool b
  | .int i => .int i
  | .str l => .str ⟨l.toArray⟩
  | .lst xs => .list (toPDs xs)
  | .tup xs => .tuple (toPDs xs)
  | .obj _ _ => .none
  | .pot => .none
  | .scr _ => .none
  | .ref _ => .none
  | .tupK xs => .tuple (toPDs xs)
  | .tupF _ => .none
  | .err _ _ => .none
  | .cel _ _ => .none
  | .dic ks vs => .dict ((ks.map fun x => PyData.str ⟨x.toArray⟩).zip (toPDs vs))
def toPDs : List D → List PyData
  | [] => []
  | x :: xs => toPD x :: toPDs xs
end
mutual
def isPd : D → Bool
  | .non => true
  | .bl _ => true
  | .int _ => true
  | .str l => l.all (· < 1114112)
  | .lst xs => isPds xs
  | .tup xs => isPds xs
  | .obj _ _ => false
  | .pot => false
  | .scr _ => false
  | .ref _ => false
  | .tupK xs => isPds xs
  | .tupF _ => false
  | .err _ _ => false
  | .cel _ _ => false
  | .dic _ _ => false
def isPds : List D → Bool
  | [] => true
  | x :: xs => isPd x && isPds xs
end
mutual
def dpt : D → Nat
  | .lst xs => dpts xs + 1
  | .tup xs => dpts xs + 1
  | .non => 0
  | .bl _ => 0
  | .int _ => 0
  | .str _ => 0
  | .obj _ _ => 0
  | .pot => 0
  | .scr _ => 0
  | .ref _ => 0
  | .tupK xs => dpts xs + 1
  | .tupF _ => 0
  | .err _ _ => 0
  | .cel _ _ => 0
  | .dic ks vs => (toPD (.dic ks vs)).depth
def dpts : List D → Nat
  | [] => 0
  | x :: xs => max (dpt x) (dpts xs)
end
mutual
def eqD : D → D → Bool
  | .non, .non => true
  | .bl a, .bl b => a == b
  | .bl a, .int j => (if a then 1 else 0) == j
  | .int i, .bl b => i == (if b then 1 else 0)
  | .int i, .int j => i == j
  | .str x, .str y => x == y
  | .lst xs, .lst ys => eqDs xs ys
  | .tup xs, .tup ys => eqDs xs ys
  | .tup xs, .tupK ys => eqDs xs ys
  | .tupK xs, .tup ys => eqDs xs ys
  | .tupK xs, .tupK ys => eqDs xs ys
  | _, _ => false
def eqDs : List D → List D → Bool
  | [], [] => true
  | x :: xs, y :: ys => eqD x y && eqDs xs ys
  | _, _ => false
end
theorem str_beq (a b : List Nat) : ((⟨a.toArray⟩ : Str) == ⟨b.toArray⟩) = (a == b) := by
  rw [Bool.eq_iff_iff]
  simp
mutual
theorem eqv_eqD : ∀ (x y : D), isPd x = true → isPd y = true → PyData.eqv (toPD x) (toPD y) = eqD x y
  | .non, y, _, hy => by cases y <;> first | (simp [isPd] at hy; done) | simp [toPD, PyData.eqv, eqD]
  | .bl a, y, _, hy => by cases y <;> first | (simp [isPd] at hy; done) | simp [toPD, PyData.eqv, eqD]
  | .int i, y, _, hy => by cases y <;> first | (simp [isPd] at hy; done) | simp [toPD, PyData.eqv, eqD]
  | .str l, y, _, hy => by
    cases y with
    | str l' =>
      show ((⟨l.toArray⟩ : Str) == ⟨l'.toArray⟩) = _
      rw [str_beq]
      simp [eqD]
    | _ => first | (simp [isPd] at hy; done) | simp [toPD, PyData.eqv, eqD]
  | .lst xs, y, hx, hy => by
    cases y with
    | lst ys =>
      simp only [toPD, PyData.eqv, eqD]
      exact eqvs_eqDs xs ys (by simpa [isPd] using hx) (by simpa [isPd] using hy)
    | _ => first | (simp [isPd] at hy; done) | simp [toPD, PyData.eqv, eqD]
  | .tup xs, y, hx, hy => by
    cases y with
    | tup ys =>
      simp only [toPD, PyData.eqv, eqD]
      exact eqvs_eqDs xs ys (by simpa [isPd] using hx) (by simpa [isPd] using hy)
    | tupK ys =>
      simp only [toPD, PyData.eqv, eqD]
      exact eqvs_eqDs xs ys (by simpa [isPd] using hx) (by simpa [isPd] using hy)
    | _ => first | (simp [isPd] at hy; done) | simp [toPD, PyData.eqv, eqD]
  | .tupK xs, y, hx, hy => by
    cases y with
    | tup ys =>
      simp only [toPD, PyData.eqv, eqD]
      exact eqvs_eqDs xs ys (by simpa [isPd] using hx) (by simpa [isPd] using hy)
    | tupK ys =>
      simp only [toPD, PyData.eqv, eqD]
      exact eqvs_eqDs xs ys (by simpa [isPd] using hx) (by simpa [isPd] using hy)
    | _ => first | (simp [isPd] at hy; done) | simp [toPD, PyData.eqv, eqD]
  | .obj _ _, _, h, _ => by simp [isPd] at h
  | .pot, _, h, _ => by simp [isPd] at h
  | .scr _, _, h, _ => by simp [isPd] at h
  | .ref _, _, h, _ => by simp [isPd] at h
  | .tupF _, _, h, _ => by simp [isPd] at h
  | .err _ _, _, h, _ => by simp [isPd] at h
  | .cel _ _, _, h, _ => by simp [isPd] at h
  | .dic _ _, _, h, _ => by simp [isPd] at h
theorem eqvs_eqDs : ∀ (xs ys : List D), isPds xs = true → isPds ys = true → PyData.eqvAll (toPDs xs) (toPDs ys) = eqDs xs ys
  | [], [], _, _ => by simp [toPDs, PyData.eqvAll, eqDs]
  | [], _ :: _, _, _ => by simp [toPDs, PyData.eqvAll, eqDs]
  | _ :: _, [], _, _ => by simp [toPDs, PyData.eqvAll, eqDs]
  | x :: xs, y :: ys, hx, hy => by
    rw [isPds, Bool.and_eq_true] at hx hy
    simp only [toPDs, PyData.eqvAll, eqDs]
    rw [eqv_eqD x y hx.1 hy.1, eqvs_eqDs xs ys hx.2 hy.2]
end
mutual
theorem lay_toPD : ∀ x : D, isPd x = true → (toPD x).canLay0 = true
  | .non, _ => by simp [toPD, PyData.canLay0]
  | .bl _, _ => by simp [toPD, PyData.canLay0]
  | .int _, _ => by simp [toPD, PyData.canLay0]
  | .str l, h => by
    simp only [toPD, PyData.canLay0]
    simp only [isPd] at h
    unfold PySem.PyData.strOk
    simpa using h
  | .lst xs, h => by
    simp only [toPD, PyData.canLay0]
    exact lay_toPDs xs (by simpa [isPd] using h)
  | .tup xs, h => by
    simp only [toPD, PyData.canLay0]
    exact lay_toPDs xs (by simpa [isPd] using h)
  | .tupK xs, h => by
    simp only [toPD, PyData.canLay0]
    exact lay_toPDs xs (by simpa [isPd] using h)
  | .obj _ _, _ => by simp [toPD, PyData.canLay0]
  | .pot, _ => by simp [toPD, PyData.canLay0]
  | .scr _, _ => by simp [toPD, PyData.canLay0]
  | .ref _, _ => by simp [toPD, PyData.canLay0]
  | .tupF _, h => by simp [isPd] at h
  | .err _ _, h => by simp [isPd] at h
  | .cel _ _, h => by simp [isPd] at h
  | .dic _ _, h => by simp [isPd] at h
theorem lay_toPDs : ∀ xs : List D, isPds xs = true → PyData.canLayAll0 (toPDs xs) = true
  | [], _ => by simp [toPDs, PyData.canLayAll0]
  | x :: xs, h => by
    rw [isPds, Bool.and_eq_true] at h
    simp only [toPDs, PyData.canLayAll0]
    rw [lay_toPD x h.1, lay_toPDs xs h.2]
    rfl
end
mutual
theorem dpt_toPD : ∀ x : D, (toPD x).depth = dpt x
  | .non => by simp [toPD, PyData.depth, dpt]
  | .bl _ => by simp [toPD, PyData.depth, dpt]
  | .int _ => by simp [toPD, PyData.depth, dpt]
  | .str _ => by simp [toPD, PyData.depth, dpt]
  | .lst xs => by simp only [toPD, PyData.depth, dpt]; rw [dpts_toPDs xs]
  | .tup xs => by simp only [toPD, PyData.depth, dpt]; rw [dpts_toPDs xs]
  | .obj _ _ => by simp [toPD, PyData.depth, dpt]
  | .pot => by simp [toPD, PyData.depth, dpt]
  | .scr _ => by simp [toPD, PyData.depth, dpt]
  | .ref _ => by simp [toPD, PyData.depth, dpt]
  | .tupK xs => by simp only [toPD, PyData.depth, dpt]; rw [dpts_toPDs xs]
  | .tupF _ => by simp [toPD, PyData.depth, dpt]
  | .err _ _ => by simp [toPD, PyData.depth, dpt]
  | .cel _ _ => by simp [toPD, PyData.depth, dpt]
  | .dic _ _ => by simp [dpt]
theorem dpts_toPDs : ∀ xs : List D, PyData.depthAll (toPDs xs) = dpts xs
  | [] => by simp [toPDs, PyData.depthAll, dpts]
  | x :: xs => by simp only [toPDs, PyData.depthAll, dpts]; rw [dpt_toPD x, dpts_toPDs xs]
end
def okD (x : D) : Bool := isPd x && decide (dpt x ≤ 50)
theorem okD_shaped {x : D} (h : okD x = true) : SeqAt.shaped (toPD x) = true := by
  unfold okD at h
  rw [Bool.and_eq_true] at h
  unfold SeqAt.shaped
  rw [lay_toPD x h.1, dpt_toPD]
  simp only [Bool.true_and, decide_eq_true_eq]
  have := of_decide_eq_true h.2
  omega
theorem okD_pd {x : D} (h : okD x = true) : isPd x = true := (Bool.and_eq_true_iff.mp h).1
section
variable {K : PySem.W.Frag} {g : Gh} {H : Hp}
mutual
theorem Den.dp (sm : Same g.G H) : ∀ {v : V} {d : D}, Den K g v d → isPd d = true → Dp K H v (toPD d)
  | _, _, .non, _ => .non
  | _, _, .bl b, _ => .bl b
  | _, _, .int i, _ => .int i
  | _, _, .str l, _ => .str _
  | _, _, .lst h1 h2, h => .lst (SqL.of (sm _ _ h1)) (Dens.dp sm h2 (by simpa [isPd] using h))
  | _, _, .tup h1 h2, h => .tup (Or.inl (h1.same sm)) (Dens.dp sm h2 (by simpa [isPd] using h))
  | _, _, .obj h1 h2, h => by simp [isPd] at h
  | _, _, .pot h1 _, h => by simp [isPd] at h
  | _, _, .scr h1, h => by simp [isPd] at h
  | _, _, .ref a, h => by simp [isPd] at h
  | _, _, .tupK h1 h2, h => .tup (h1 _) (Dens.dp sm h2 (by simpa [isPd] using h))
  | _, _, .tupF _ _ _ _, h => by simp [isPd] at h
  | _, _, .err _ _ _, h => by simp [isPd] at h
  | _, _, .cel _, h => by simp [isPd] at h
  | _, _, .dic _ _ _, h => by simp [isPd] at h
theorem Dens.dp (sm : Same g.G H) : ∀ {vs : List V} {ds : List D}, Dens K g vs ds → isPds ds = true → DpAll K H vs (toPDs ds)
  | _, _, .nil, _ => .nil
  | _, _, .cons h t, q => by
    rw [isPds, Bool.and_eq_true] at q
    exact .cons (Den.dp sm h q.1) (Dens.dp sm t q.2)
end
end
def flatD : D → Bool
  | .non => true
  | .bl _ => true
  | .int _ => true
  | .str _ => true
  | _ => false
theorem Den.flat {K : PySem.W.Frag} {g g' : Gh} {v : V} {d : D} (h : Den K g v d) (f : flatD d = true) : Den K g' v d := by
  cases h with
  | non => exact .non
  | bl b => exact .bl b
  | int i => exact .int i
  | str l => exact .str l
  | _ => simp [flatD] at f
def gI (C : Int → Int → Prop) (f : Int → Int → D) : G2 := fun x y P => match x, y with
  | .int i, .int j => C i j ∧ P (f i j)
  | _, _ => False
def TC : Int → Int → Prop := fun _ _ => True
section
variable {K : PySem.W.Frag} {C : Int → Int → Prop} {fv : Int → Int → V} {f : Int → Int → D}
theorem so_i (h : ∀ g i j, Den K g (fv i j) (f i j)) : SOp ℓ K (rI C fv) (gI C f) := ⟨fun {g H n x y dx dy P Q} ok ex ey q k => by
  cases ex with
  | int i =>
    cases ey with
    | int j => exact ⟨i, j, rfl, rfl, q.1, k.flat ok q.2 (h g i j)⟩
    | _ => exact q.elim
  | _ => exact q.elim⟩
theorem so_i0 (h : ∀ g i j, Den K g (fv i j) (f i j)) : SOp ℓ K (rI0 fv) (gI TC f) := ⟨fun {g H n x y dx dy P Q} ok ex ey q k => by
  cases ex with
  | int i =>
    cases ey with
    | int j => exact ⟨i, j, rfl, rfl, k.flat ok q.2 (h g i j)⟩
    | _ => exact q.elim
  | _ => exact q.elim⟩
end
abbrev gSub : G2 := gI TC fun i j => .int (i - j)
abbrev gFdiv : G2 := gI CDivW fun i j => .int (i / j)
abbrev gMod : G2 := gI (fun _ j => 0 < j) fun i j => .int (i % j)
abbrev gLt : G2 := gI TC fun i j => .bl (decide (i < j))
abbrev gLe : G2 := gI TC fun i j => .bl (decide (i ≤ j))
abbrev gGt : G2 := gI TC fun i j => .bl (decide (j < i))
abbrev gGe : G2 := gI TC fun i j => .bl (decide (j ≤ i))
def CPowW (i j : Int) : Prop := 0 ≤ j ∧ j ≤ 1000000 ∧ (Builtin.Int.intBits i : Int) * j ≤ 2 ^ 27
abbrev gPow : G2 := gI CPowW fun i j => .int (i ^ j.toNat)
section
variable {X : Cx}
theorem op_powW : OpR X (binaryOp .Pow) (rI CPowW fun i j => .int (i ^ j.toNat)) := by
  intro pins s σ H x y v u Q I rx ry h
  obtain ⟨i, j, rfl, rfl, hc, q⟩ := h
  obtain ⟨t, rfl⟩ := rx
  obtain ⟨t', rfl⟩ := ry
  exact PyProof.Rows.pow_int hc.1 hc.2.2 ⟨.int _, H, I.tok _, ⟨_, rfl⟩, q⟩
theorem so_sub : SOp ℓ X.K (rI0 fun i j => .int (i - j)) gSub := so_i0 fun _ _ _ => .int _
theorem so_fdiv : SOp ℓ X.K (rI CDivW fun i j => .int (i / j)) gFdiv := so_i fun _ _ _ => .int _
theorem so_mod : SOp ℓ X.K (rI (fun _ j => 0 < j) fun i j => .int (i % j)) gMod := so_i fun _ _ _ => .int _
theorem so_pow : SOp ℓ X.K (rI CPowW fun i j => .int (i ^ j.toNat)) gPow := so_i fun _ _ _ => .int _
theorem so_lt : SOp ℓ X.K (rI0 fun i j => .bl (decide (i < j))) gLt := so_i0 fun _ _ _ => .bl _
theorem so_le : SOp ℓ X.K (rI0 fun i j => .bl (decide (i ≤ j))) gLe := so_i0 fun _ _ _ => .bl _
theorem so_gt : SOp ℓ X.K (rI0 fun i j => .bl (decide (j < i))) gGt := so_i0 fun _ _ _ => .bl _
theorem so_ge : SOp ℓ X.K (rI0 fun i j => .bl (decide (j ≤ i))) gGe := so_i0 fun _ _ _ => .bl _
end
def gAdd : G2 := fun x y P => match x, y with
  | .int i, .int j => P (.int (i + j))
  | .str a, .str b => a.length + b.length ≤ 16777216 ∧ P (.str (a ++ b))
  | .lst a, .lst b => a.length + b.length ≤ 16777216 ∧ P (.lst (a ++ b))
  | .tup a, .tup b => a.length + b.length ≤ 16777216 ∧ P (.tup (a ++ b))
  | _, _ => False
def rAddS : R2 := fun x y H Q => ∃ i j : Str, x = .str i ∧ y = .str j ∧ i.length + j.length ≤ sizeLine ∧ Q (.str (i ++ j)) H
def rAdd (K : PySem.W.Frag) : R2 := fun x y H Q => rI0 (fun i j => .int (i + j)) x y H Q ∨ rAddS x y H Q ∨ rCat x y H Q ∨ rCatA K x y H Q
theorem str_app (a b : List Nat) : ((⟨a.toArray⟩ : Str) ++ ⟨b.toArray⟩) = ⟨(a ++ b).toArray⟩ := by
  show (⟨a.toArray ++ b.toArray⟩ : Str) = _
  simp
section
variable {X : Cx}
theorem op_addA : OpR X (binaryOp .Add) (rAdd X.K) := op_add.or (op_add_str.or (op_cat.or op_catA))
theorem so_add : SOp ℓ X.K (rAdd X.K) gAdd := ⟨fun {g H n x y dx dy P Q} ok ex ey q k => by
  cases ex with
  | int i =>
    cases ey with
    | int j => exact .inl ⟨i, j, rfl, rfl, k.flat ok q (.int _)⟩
    | _ => exact q.elim
  | str a =>
    cases ey with
    | str b => exact .inr (.inl ⟨_, _, rfl, rfl, sz q.1, by rw [str_app]; exact k.flat ok q.2 (.str _)⟩)
    | _ => exact q.elim
  | lst h1 h2 =>
    cases ey with
    | lst h3 h4 => exact .inr (.inr (.inl ⟨_, _, _, _, rfl, rfl, ok.sub _ _ h1, ok.sub _ _ h3, by rw [h2.length, h4.length]; exact sz q.1, fun p hp => k.newL ok q.2 (h2.append h4) hp⟩))
    | _ => exact q.elim
  | tup h1 h2 =>
    rename_i pa vs ds
    cases ey with
    | tup h3 h4 =>
      rename_i pb ws es
      refine .inr (.inr (.inr ⟨_, _, _, _, rfl, rfl, Or.inl (h1.same ok.sub), Or.inl (h3.same ok.sub), by rw [h2.length, h4.length]; exact sz q.1, fun e => ?_, fun _ e => ?_, fun _ _ p hp => k.newT ok q.2 (h2.append h4) hp⟩))
      · subst e
        cases h2
        exact k.flat ok q.2 (.tup h3 h4)
      · subst e
        cases h4
        have q2 := q.2
        rw [List.append_nil] at q2
        exact k.flat ok q2 (.tup h1 h2)
    | _ => exact q.elim
  | _ => exact q.elim⟩
end
def rMulS : R2 := fun x y H Q => ∃ (i : Str) (j : Int), x = .str i ∧ y = .int j ∧ -1000000 ≤ j ∧ j ≤ 1000000 ∧ i.length * j.toNat ≤ 16777216 ∧ Q (.str ⟨((List.replicate j.toNat i.cps.toList).flatten).toArray⟩) H
theorem rep_arr (x : Array Nat) (n : Nat) : (List.replicate n x).foldl (· ++ ·) #[] = ((List.replicate n x.toList).flatten).toArray := by
  have h : ∀ (n : Nat) (acc : Array Nat), (List.replicate n x).foldl (· ++ ·) acc = (acc.toList ++ (List.replicate n x.toList).flatten).toArray := by
    intro n
    induction n with
    | zero => intro acc; simp
    | succ n ih =>
      intro acc
      rw [List.replicate_succ, List.foldl_cons, ih, List.replicate_succ]
      simp
  rw [h]
  simp
section
variable {X : Cx}
theorem op_mulS : OpR X (binaryOp .Mult) rMulS := by
  intro pins s σ H x y v u Q I rx ry h
  obtain ⟨i, j, rfl, rfl, h1, h2, h3, q⟩ := h
  obtain ⟨t, rfl⟩ := rx
  obtain ⟨t', rfl⟩ := ry
  have hz : i.length * j.toNat ≤ sizeLine := sz h3
  have hlen : i.length = i.cps.toList.length := by simp [Str.length]
  refine P.mul_str ?_ (fun hn _ hc => ?_) (fun hn hc => ?_) ?_
  · have a1 : ¬ j < -(2 ^ 63) := by omega
    have a2 : ¬ j ≥ 2 ^ 63 := by omega
    rw [decide_eq_false a1, decide_eq_false a2]
    rfl
  · have e1 : (i.length : Int) * j ≤ 16777216 := by
      have : (((i.length * j.toNat : Nat)) : Int) ≤ ((16777216 : Nat) : Int) := Int.ofNat_le.mpr h3
      rw [Int.natCast_mul, Int.toNat_of_nonneg (by omega)] at this
      exact this
    have e2 : (2 ^ 63 - 1) / j < (i.length : Int) := hc
    have e3 : (2 ^ 63 - 1 : Int) < (i.length : Int) * j := by
      exact Int.lt_mul_of_ediv_lt (show (0 : Int) < j by omega) e2
    omega
  · unfold Builtin.Str.tooLong
    exact decide_eq_false (by omega)
  · by_cases hn : j < 1
    · rw [if_pos hn]
      refine ⟨by decide, ?_⟩
      have e : j.toNat = 0 := by omega
      rw [e] at q
      exact ⟨.str _, H, I.tok _, ⟨_, rfl⟩, q⟩
    · rw [if_neg hn]
      by_cases hc : (j == 1 || i.length == 0) = true
      · rw [if_pos hc]
        refine ⟨.str i, H, I, ⟨_, rfl⟩, ?_⟩
        have e : (⟨((List.replicate j.toNat i.cps.toList).flatten).toArray⟩ : Str) = i := by
          rcases Bool.or_eq_true_iff.mp hc with z | z
          · have e1 : j = 1 := by simpa using z
            subst e1
            cases i
            simp
          · have e1 : i.cps.toList = [] := by
              have : i.length = 0 := by simpa using z
              rw [hlen] at this
              exact List.length_eq_zero_iff.mp this
            rw [e1]
            have e2 : (List.replicate j.toNat ([] : List Nat)).flatten = [] := by simp
            rw [e2]
            cases i with
            | mk c =>
              have : c = #[] := by
                apply Array.toList_inj.mp
                exact e1
              rw [this]
        rw [e] at q
        exact q
      · rw [if_neg hc, rep_arr]
        refine ⟨?_, ⟨.str _, H, I.tok _, ⟨_, rfl⟩, q⟩⟩
        have e : (⟨((List.replicate j.toNat i.cps.toList).flatten).toArray⟩ : Str).length = i.length * j.toNat := by
          show ((List.replicate j.toNat i.cps.toList).flatten.toArray).size = _
          rw [List.size_toArray, List.length_flatten, List.map_replicate, List.sum_replicate_nat, ← hlen, Nat.mul_comm]
        rw [e]
        exact hz
end
def gMul : G2 := fun x y P => match x, y with
  | .int i, .int j => CMulW i j ∧ P (.int (i * j))
  | .str a, .int j => -1000000 ≤ j ∧ j ≤ 1000000 ∧ a.length * j.toNat ≤ 16777216 ∧ P (.str (List.replicate j.toNat a).flatten)
  | .lst a, .int j => -1000000 ≤ j ∧ j ≤ 1000000 ∧ a.length * j.toNat ≤ 16777216 ∧ P (.lst (List.replicate j.toNat a).flatten)
  | .tup a, .int j => a ≠ [] ∧ 2 ≤ j ∧ j ≤ 1000 ∧ a.length ≤ 1000 ∧ P (.tup (List.replicate j.toNat a).flatten)
  | _, _ => False
def rMul (K : PySem.W.Frag) : R2 := fun x y H Q => rI CMulW (fun i j => .int (i * j)) x y H Q ∨ rMulS x y H Q ∨ rRep x y H Q ∨ rRepT K x y H Q
theorem Dens.rep {K : PySem.W.Frag} {g : Gh} {vs : List V} {ds : List D} (h : Dens K g vs ds) : ∀ n : Nat, Dens K g (List.replicate n vs).flatten (List.replicate n ds).flatten
  | 0 => .nil
  | n + 1 => by
    rw [List.replicate_succ, List.replicate_succ, List.flatten_cons, List.flatten_cons]
    exact h.append (Dens.rep h n)
section
variable {X : Cx}
theorem op_mulA : OpR X (binaryOp .Mult) (rMul X.K) := op_mulW.or (op_mulS.or (op_rep.or op_repT))
theorem so_mul : SOp ℓ X.K (rMul X.K) gMul := ⟨fun {g H n x y dx dy P Q} ok ex ey q k => by
  cases ex with
  | int i =>
    cases ey with
    | int j => exact .inl ⟨i, j, rfl, rfl, q.1, k.flat ok q.2 (.int _)⟩
    | _ => exact q.elim
  | str a =>
    cases ey with
    | int j => exact .inr (.inl ⟨_, j, rfl, rfl, q.1, q.2.1, q.2.2.1, k.flat ok q.2.2.2 (.str _)⟩)
    | _ => exact q.elim
  | lst h1 h2 =>
    cases ey with
    | int j => exact .inr (.inr (.inl ⟨_, j, _, rfl, rfl, ok.sub _ _ h1, by have := q.1; omega, by have := q.2.1; omega, by rw [h2.length]; exact sz q.2.2.1, fun p hp => k.newL ok q.2.2.2 (h2.rep _) hp⟩))
    | _ => exact q.elim
  | tup h1 h2 =>
    cases ey with
    | int j =>
      refine .inr (.inr (.inr ⟨_, j, _, rfl, rfl, Or.inl (h1.same ok.sub), fun e => q.1 ?_, q.2.1, q.2.2.1, by rw [h2.length]; exact q.2.2.2.1, fun p hp => k.newT ok q.2.2.2.2 (h2.rep _) hp⟩))
      have := h2.length
      rw [e] at this
      exact List.length_eq_zero_iff.mp this.symm
    | _ => exact q.elim
  | _ => exact q.elim⟩
end
def okEq (x y : D) : Bool := match x, y with
  | .non, _ => flatD y || okD y
  | .int _, .int _ => true
  | .str _, .str _ => true
  | .bl _, .bl _ => true
  | _, _ => okD x && okD y
def gEq : G2 := fun x y P => okEq x y = true ∧ P (.bl (eqD x y))
def gNe : G2 := fun x y P => okEq x y = true ∧ P (.bl (!eqD x y))
def rEqA (K : PySem.W.Frag) : R2 := fun x y H Q => rEq x y H Q ∨ rEqD K x y H Q
def rNeA (K : PySem.W.Frag) : R2 := fun x y H Q => rNe x y H Q ∨ rNeD K x y H Q
section
variable {X : Cx}
theorem op_eqA (hu : X.A.units + 64 < cLine) : OpR X (compareOp .Eq) (rEqA X.K) := op_eq.or (op_eqD hu)
theorem op_neA (hu : X.A.units + 64 < cLine) : OpR X (compareOp .NotEq) (rNeA X.K) := op_ne.or (op_neD hu)
theorem eq_cases {K : PySem.W.Frag} {g : Gh} {H : Hp} {n : Nat} {x y : V} {dx dy : D} (ok : Ok ℓ K g H n) (ex : Den K g x dx) (ey : Den K g y dy) (h : okEq dx dy = true) :
    (scal x y = true ∧ decide (x = y) = eqD dx dy) ∨ (∃ d e, Dp K H x d ∧ Dp K H y e ∧ SeqAt.shaped d = true ∧ SeqAt.shaped e = true ∧ PyData.eqv d e = eqD dx dy) := by
  have deep : okD dx = true → okD dy = true → (∃ d e, Dp K H x d ∧ Dp K H y e ∧ SeqAt.shaped d = true ∧ SeqAt.shaped e = true ∧ PyData.eqv d e = eqD dx dy) := fun h1 h2 =>
    ⟨_, _, ex.dp ok.sub (okD_pd h1), ey.dp ok.sub (okD_pd h2), okD_shaped h1, okD_shaped h2, eqv_eqD dx dy (okD_pd h1) (okD_pd h2)⟩
  have okn : okD .non = true := by decide
  cases ex with
  | non =>
    cases ey with
    | non => exact .inr (deep okn okn)
    | int i => exact .inl ⟨rfl, by simp [eqD]⟩
    | bl i => exact .inl ⟨rfl, by simp [eqD]⟩
    | str i => exact .inl ⟨rfl, by simp [eqD]⟩
    | _ => exact .inr (deep okn (by simpa [okEq, flatD] using h))
  | int i =>
    cases ey with
    | int j => exact .inl ⟨rfl, dec_int⟩
    | _ =>
      simp only [okEq, Bool.and_eq_true] at h
      exact .inr (deep h.1 h.2)
  | bl i =>
    cases ey with
    | bl j => exact .inl ⟨rfl, dec_bl⟩
    | _ =>
      simp only [okEq, Bool.and_eq_true] at h
      exact .inr (deep h.1 h.2)
  | str i =>
    cases ey with
    | str j => exact .inl ⟨rfl, by rw [dec_str, str_beq]; simp [eqD]⟩
    | _ =>
      simp only [okEq, Bool.and_eq_true] at h
      exact .inr (deep h.1 h.2)
  | _ =>
    simp only [okEq, Bool.and_eq_true] at h
    exact .inr (deep h.1 h.2)
theorem so_eq : SOp ℓ X.K (rEqA X.K) gEq := ⟨fun {g H n x y dx dy P Q} ok ex ey q k => by
  have z : Q (.bl (eqD dx dy)) H := k.flat ok q.2 (.bl _)
  rcases eq_cases ok ex ey q.1 with ⟨h1, h2⟩ | ⟨d, e, h1, h2, h3, h4, h5⟩
  · exact .inl ⟨h1, by rw [h2]; exact z⟩
  · exact .inr ⟨d, e, h1, h2, h3, h4, by rw [h5]; exact z⟩⟩
theorem so_ne : SOp ℓ X.K (rNeA X.K) gNe := ⟨fun {g H n x y dx dy P Q} ok ex ey q k => by
  have z : Q (.bl (!eqD dx dy)) H := k.flat ok q.2 (.bl _)
  rcases eq_cases ok ex ey q.1 with ⟨h1, h2⟩ | ⟨d, e, h1, h2, h3, h4, h5⟩
  · exact .inl ⟨h1, by rw [h2]; exact z⟩
  · exact .inr ⟨d, e, h1, h2, h3, h4, by rw [h5]; exact z⟩⟩
end
def okIn (x : D) (ys : List D) : Bool := (match x with
  | .str _ => ys.all fun y => match y with
    | .str _ => true
    | _ => false
  | .int _ => ys.all fun y => match y with
    | .int _ => true
    | _ => false
  | _ => false) || okD x && (isPds ys && decide (dpts ys ≤ 50))
def gInB (f : Bool → Bool) : G2 := fun x y P => match y with
  | .str t => match x with
    | .str [c] => P (.bl (f (decide (c ∈ t))))
    | _ => False
  | .lst ys => okIn x ys = true ∧ P (.bl (f (ys.any fun y => eqD y x)))
  | .tup ys => okIn x ys = true ∧ P (.bl (f (ys.any fun y => eqD y x)))
  | .tupK ys => okIn x ys = true ∧ P (.bl (f (ys.any fun y => eqD y x)))
  | _ => False
abbrev gIn : G2 := gInB fun b => b
def rInTD (K : PySem.W.Frag) (f : Bool → Bool) : R2 := fun x y H Q => ∃ d ds, Dp K H x d ∧ Dp K H y (.tuple ds) ∧ SeqAt.shaped d = true ∧ SeqAt.shaped (.tuple ds) = true ∧ Q (.bl (f (ds.any fun z => PyData.eqv z d))) H
section
variable {X : Cx}
theorem room_inT {A : Around} {d : PyData} {ds : List PyData} (hd : SeqAt.shaped d = true) (hu : A.units + 65 < cLine) : A.units + 1 + min (PyData.depthAll ds) d.depth < cLine := by
  have := SeqAt.depth_of_shaped hd
  omega
theorem op_inTD (hu : X.A.units + 65 < cLine) : OpR X (compareOp .In) (rInTD X.K fun b => b) := by
  intro pins s σ H x y v u Q I rx ry h
  obtain ⟨d, ds, hd, he, sd, se, q⟩ := h
  obtain ⟨as, r1⟩ := Dp.reads I d x v hd rx
  obtain ⟨bs, r2⟩ := Dp.reads I (.tuple ds) y u he ry
  exact SeqAt.in_tuple_reads r2 r1 (SeqAt.canLay_of_shaped se) (SeqAt.canLay_of_shaped sd) (room_inT sd hu) ⟨.bl _, H, I, rfl, q⟩
def rInS1 (f : Bool → Bool) : R2 := fun x y H Q => ∃ (c : Nat) (z : Str), x = .str ⟨#[c]⟩ ∧ y = .str z ∧ Q (.bl (f (decide (c ∈ z.cps.toList)))) H
def rInA (K : PySem.W.Frag) : R2 := fun x y H Q => rInS1 (fun b => b) x y H Q ∨ rIn K false x y H Q ∨ rInD K x y H Q ∨ rInTD K (fun b => b) x y H Q
theorem op_inA (hu : X.A.units + 65 < cLine) : OpR X (compareOp .In) (rInA X.K) := op_in_sign.or (op_in_seq.or ((op_inD hu).or (op_inTD hu)))
theorem any_eqv {d : D} (hd : isPd d = true) : ∀ ys : List D, isPds ys = true → ((toPDs ys).any fun z => PyData.eqv z (toPD d)) = ys.any fun y => eqD y d
  | [], _ => rfl
  | y :: ys, h => by
    rw [isPds, Bool.and_eq_true] at h
    simp only [toPDs, List.any_cons]
    rw [eqv_eqD y d h.1 hd, any_eqv hd ys h.2]
theorem in_strs {K : PySem.W.Frag} {g : Gh} (t : List Nat) : ∀ {xs : List V} {ys : List D}, Dens K g xs ys → (ys.all fun y => match y with
    | .str _ => true
    | _ => false) = true → xs.all flatV = true ∧ inV (.str ⟨t.toArray⟩) xs = ys.any fun y => eqD y (.str t)
  | _, _, .nil, _ => ⟨rfl, rfl⟩
  | _, _, .cons a b, h => by
    simp only [List.all_cons, Bool.and_eq_true] at h
    obtain ⟨i1, i2⟩ := in_strs t b h.2
    cases a with
    | str u =>
      unfold inV at i2 ⊢
      refine ⟨by rw [List.all_cons, i1]; rfl, ?_⟩
      rw [List.any_cons, List.any_cons, i2]
      congr 1
      show ((⟨u.toArray⟩ : Str) == ⟨t.toArray⟩) = _
      rw [str_beq]
      simp [eqD]
    | _ => simp at h
theorem in_ints {K : PySem.W.Frag} {g : Gh} (t : Int) : ∀ {xs : List V} {ys : List D}, Dens K g xs ys → (ys.all fun y => match y with
    | .int _ => true
    | _ => false) = true → xs.all flatV = true ∧ inV (.int t) xs = ys.any fun y => eqD y (.int t)
  | _, _, .nil, _ => ⟨rfl, rfl⟩
  | _, _, .cons a b, h => by
    simp only [List.all_cons, Bool.and_eq_true] at h
    obtain ⟨i1, i2⟩ := in_ints t b h.2
    cases a with
    | int u =>
      unfold inV at i2 ⊢
      refine ⟨by rw [List.all_cons, i1]; rfl, ?_⟩
      rw [List.any_cons, List.any_cons, i2]
      congr 1
    | _ => simp at h
theorem in_cases {K : PySem.W.Frag} {g : Gh} {H : Hp} {n : Nat} {x : V} {dx : D} {xs : List V} {ys : List D} (ok : Ok ℓ K g H n) (ex : Den K g x dx) (e2 : Dens K g xs ys) (h : okIn dx ys = true) :
    (flatV x = true ∧ xs.all flatV = true ∧ inV x xs = ys.any fun y => eqD y dx) ∨ (∃ d ds, Dp K H x d ∧ DpAll K H xs ds ∧ SeqAt.shaped d = true ∧ PyData.canLayAll0 ds = true ∧ PyData.depthAll ds ≤ 50 ∧ (ds.any fun z => PyData.eqv z d) = ys.any fun y => eqD y dx) := by
  unfold okIn at h
  rw [Bool.or_eq_true] at h
  rcases h with h | h
  · left
    cases dx with
    | str t =>
      cases ex
      refine ⟨rfl, ?_⟩
      exact in_strs t e2 h
    | int t =>
      cases ex
      refine ⟨rfl, ?_⟩
      exact in_ints t e2 h
    | _ => simp at h
  · right
    rw [Bool.and_eq_true, Bool.and_eq_true] at h
    refine ⟨_, _, ex.dp ok.sub (okD_pd h.1), e2.dp ok.sub h.2.1, okD_shaped h.1, lay_toPDs _ h.2.1, ?_, any_eqv (okD_pd h.1) ys h.2.1⟩
    rw [dpts_toPDs]
    exact of_decide_eq_true h.2.2
theorem shapedL {ds : List PyData} (h : PyData.canLayAll0 ds = true) (q : PyData.depthAll ds ≤ 50) : SeqAt.shaped (.list ds) = true := by
  have e1 : PyData.canLay0 (.list ds) = true := by simpa [PyData.canLay0] using h
  have e2 : PyData.depth (.list ds) ≤ 64 := by
    simp only [PyData.depth]
    omega
  unfold SeqAt.shaped
  rw [e1, decide_eq_true e2]
  rfl
theorem shapedT {ds : List PyData} (h : PyData.canLayAll0 ds = true) (q : PyData.depthAll ds ≤ 50) : SeqAt.shaped (.tuple ds) = true := by
  have e1 : PyData.canLay0 (.tuple ds) = true := by simpa [PyData.canLay0] using h
  have e2 : PyData.depth (.tuple ds) ≤ 64 := by
    simp only [PyData.depth]
    omega
  unfold SeqAt.shaped
  rw [e1, decide_eq_true e2]
  rfl
theorem so_in : SOp ℓ X.K (rInA X.K) gIn := ⟨fun {g H n x y dx dy P Q} ok ex ey q k => by
  cases ey with
  | str t =>
    cases ex with
    | str u =>
      match u, q with
      | [], q => exact False.elim q
      | c :: _ :: _, q => exact False.elim q
      | [c], q => exact .inl ⟨c, _, rfl, rfl, k.flat ok q (.bl _)⟩
    | _ => exact False.elim q
  | lst h1 h2 =>
    obtain ⟨q1, q2⟩ := q
    have z := k.flat ok q2 (.bl _)
    rcases in_cases ok ex h2 q1 with ⟨a, b, c⟩ | ⟨d, ds, a, b, c, e, e5, f⟩
    · exact .inr (.inl ⟨_, _, rfl, .inl (SqL.of (ok.sub _ _ h1)), a, b, by rw [if_neg (by decide), c]; exact z⟩)
    · exact .inr (.inr (.inl ⟨d, ds, a, .lst (SqL.of (ok.sub _ _ h1)) b, c, shapedL e e5, by rw [f]; exact z⟩))
  | tup h1 h2 =>
    obtain ⟨q1, q2⟩ := q
    have z := k.flat ok q2 (.bl _)
    rcases in_cases ok ex h2 q1 with ⟨a, b, c⟩ | ⟨d, ds, a, b, c, e, e5, f⟩
    · exact .inr (.inl ⟨_, _, rfl, .inr (Or.inl (h1.same ok.sub)), a, b, by rw [if_neg (by decide), c]; exact z⟩)
    · exact .inr (.inr (.inr ⟨d, ds, a, .tup (Or.inl (h1.same ok.sub)) b, c, shapedT e e5, by rw [f]; exact z⟩))
  | tupK h1 h2 =>
    obtain ⟨q1, q2⟩ := q
    have z := k.flat ok q2 (.bl _)
    rcases in_cases ok ex h2 q1 with ⟨a, b, c⟩ | ⟨d, ds, a, b, c, e, e5, f⟩
    · exact .inr (.inl ⟨_, _, rfl, .inr (h1 _), a, b, by rw [if_neg (by decide), c]; exact z⟩)
    · exact .inr (.inr (.inr ⟨d, ds, a, .tup (h1 _) b, c, shapedT e e5, by rw [f]; exact z⟩))
  | _ => exact q.elim⟩
end
def isNon : D → Bool
  | .non => true
  | _ => false
def gIs : G2 := fun x y P => match y with
  | .non => P (.bl (isNon x))
  | _ => False
def gIsNot : G2 := fun x y P => match y with
  | .non => P (.bl (!isNon x))
  | _ => False
theorem isNon_of {K : PySem.W.Frag} {g : Gh} {v : V} {d : D} (h : Den K g v d) : decide (v = .non) = isNon d := by
  cases h <;> simp [isNon]
section
variable {X : Cx}
theorem so_is : SOp ℓ X.K (fun x y H Q => y = .non ∧ Q (.bl (decide (x = .non))) H) gIs := ⟨fun {g H n x y dx dy P Q} ok ex ey q k => by
  cases ey with
  | non => exact ⟨rfl, by rw [isNon_of ex]; exact k.flat ok q (.bl _)⟩
  | _ => exact q.elim⟩
theorem so_isNot : SOp ℓ X.K (fun x y H Q => y = .non ∧ Q (.bl (!decide (x = .non))) H) gIsNot := ⟨fun {g H n x y dx dy P Q} ok ex ey q k => by
  cases ey with
  | non => exact ⟨rfl, by rw [isNon_of ex]; exact k.flat ok q (.bl _)⟩
  | _ => exact q.elim⟩
end
end Pd
namespace L2
open PySem PySem.Spec PyProof.Rows
end L2
namespace L2
open PySem PySem.Spec PyProof.Rows
end L2
namespace Pd
variable {ℓ : Bool}
open PySem L2
variable {W : WX}
theorem Dens.atI {K : PySem.W.Frag} {g : Gh} {vs : List V} {ds : List D} (h : Dens K g vs ds) {i : Int} {d : D} (e : L2.atI ds i = some d) : ∃ v, L2.atI vs i = some v ∧ Den K g v d := by
  unfold L2.atI at e ⊢
  rw [h.length]
  cases z : ixN ds.length i with
  | none =>
    rw [z] at e
    cases e
  | some j =>
    rw [z] at e
    exact h.get e
def gIx : G2 := fun x y P => match y with
  | .int i => match x with
    | .lst xs => ∃ d, L2.atI xs i = some d ∧ P d
    | .tup xs => ∃ d, L2.atI xs i = some d ∧ P d
    | .tupK xs => ∃ d, L2.atI xs i = some d ∧ P d
    | .str l => l.length ≤ 16777216 ∧ ∃ c, L2.atI l i = some c ∧ P (.str [c])
    | .scr ns => ∃ k, L2.atI ns i = some k ∧ P (.int k)
    | _ => False
  | _ => False
theorem atI_map {α β : Type} (f : α → β) {xs : List α} {i : Int} {x : α} (h : L2.atI xs i = some x) : L2.atI (xs.map f) i = some (f x) := by
  unfold L2.atI at h ⊢
  rw [List.length_map]
  cases z : ixN xs.length i with
  | none =>
    rw [z] at h
    cases h
  | some j =>
    rw [z] at h
    have h' : xs[j]? = some x := h
    show (xs.map f)[j]? = some (f x)
    rw [List.getElem?_map, h']
    rfl
theorem so_ix {K : PySem.W.Frag} : SOp ℓ K (rIx K) gIx := ⟨fun {g H n x y dx dy P Q} ok ex ey q k => by
  cases ey with
  | int i =>
    cases ex with
    | lst h1 h2 =>
      obtain ⟨d, q1, q2⟩ := q
      obtain ⟨v, e, dv⟩ := h2.atI q1
      exact .inl ⟨_, _, i, v, rfl, rfl, SqL.of (ok.sub _ _ h1), e, k.flat ok q2 dv⟩
    | tup h1 h2 =>
      obtain ⟨d, q1, q2⟩ := q
      obtain ⟨v, e, dv⟩ := h2.atI q1
      exact .inr (.inl ⟨_, _, i, v, rfl, rfl, Or.inl (h1.same ok.sub), e, k.flat ok q2 dv⟩)
    | tupK h1 h2 =>
      obtain ⟨d, q1, q2⟩ := q
      obtain ⟨v, e, dv⟩ := h2.atI q1
      exact .inr (.inl ⟨_, _, i, v, rfl, rfl, h1 _, e, k.flat ok q2 dv⟩)
    | str l =>
      obtain ⟨hl, c, q1, q2⟩ := q
      exact .inr (.inr ⟨_, i, c, rfl, rfl, sz hl, q1, k.flat ok q2 (.str [c])⟩)
    | scr h =>
      obtain ⟨c, q1, q2⟩ := q
      exact .inl ⟨_, _, i, .int c, rfl, rfl, ok.sub.seq h, atI_map V.int q1, k.flat ok q2 (.int c)⟩
    | _ => exact q.elim
  | _ => exact q.elim⟩
def cut {α : Type} (xs : List α) (lo hi : Option Int) : List α := (xs.drop (HT.sIx xs.length 0 lo)).take (HT.sIx xs.length xs.length hi - HT.sIx xs.length 0 lo)
abbrev DP := Nat → Ev → (Nat → Option Int → Prop) → Prop
def liftP (ℓ : Bool) (K : PySem.W.Frag) (d : DP) : TO := fun σ H Q => ∃ O g n ε P, Rp ℓ K O g H n σ ε ∧ d n ε P ∧ ∀ o g' H' n', P n' o → Stp g H g' H' → Ok ℓ K g' H' n' → Q o H'
def pNo : DP := fun n _ P => P n none
def pSome (d : DE) : DP := fun n ε P => d n ε fun n' x => match x with
  | .int i => P n' (some i)
  | _ => False
def gSl : D → Option Int → Option Int → (D → Prop) → Prop := fun x lo hi P => match x with
  | .lst xs => P (.lst (cut xs lo hi))
  | .tup xs => P (.tup (cut xs lo hi))
  | .str l => l.length ≤ 16777216 ∧ P (.str (cut l lo hi))
  | _ => False
def dSl (d : DE) (l h : DP) : DE := fun n ε P => d n ε fun n1 x => l n1 ε fun n2 lo => h n2 ε fun n3 hi => gSl x lo hi (P n3)
def rSl (K : PySem.W.Frag) : V → Option Int → Option Int → Hp → VK → Prop := fun x lo hi H Q => rSlL K x lo hi H Q ∨ rSlA K x lo hi H Q ∨ rSlS x lo hi H Q
theorem Dens.cut {K : PySem.W.Frag} {g : Gh} {vs : List V} {ds : List D} (h : Dens K g vs ds) (lo hi : Option Int) : Dens K g (cutV vs lo hi) (Pd.cut ds lo hi) := by
  unfold cutV Pd.cut
  rw [h.length]
  exact (h.drop _).take _
theorem cut_whole {α : Type} {xs : List α} {lo hi : Option Int} (h : HT.sIx xs.length 0 lo = 0 ∧ HT.sIx xs.length xs.length hi = xs.length) : cut xs lo hi = xs := by
  unfold cut
  rw [h.1, h.2]
  simp
section
variable {X : Cx} {pos p2 : Pos} {e : Expr} {lo hi : Option Expr} {a b : Expr} {d da db : DE} {dl dh : DP}
theorem dp_no : PO X none (liftP ℓ X.K pNo) := ⟨fun pins s σ H Q I ⟨O, g, n, ε, P, r, q, k⟩ => po_none.run pins s σ H Q I (k none g H n q (Stp.refl g H) r.ok)⟩
theorem dp_some (h : PE X e (liftE ℓ X.K d)) : PO X (some e) (liftP ℓ X.K (pSome d)) := ⟨fun pins s σ H Q I ⟨O, g, n, ε, P, r, q, k⟩ => (po_some h).run pins s σ H Q I ⟨O, g, n, ε, _, r, q, fun v g1 H1 n1 x q1 s1 o1 e1 => by
  cases e1 with
  | int i => exact ⟨i, rfl, k _ g1 H1 n1 q1 s1 o1⟩
  | _ => exact q1.elim⟩⟩
theorem de_ix (ha : PE X a (liftE ℓ X.K da)) (hb : PE X b (liftE ℓ X.K db)) (hs : PlainIx b := by intro _ _; rfl) : PE X (.Subscript a b pos) (liftE ℓ X.K (dOp gIx da db)) :=
  de_of (pe_ix ix_seq ha hb hs) fun O g H n σ ε P Q r q k => two_ok r q fun x y g' H' n' dx dy q2 s o e1 e2 => so_ix.ok o e1 e2 q2 (Fin.of k s)
theorem sl_ok {K : PySem.W.Frag} {g : Gh} {H : Hp} {n : Nat} {x : V} {dx : D} {l u : Option Int} {P : D → Prop} {Q : VK} (ok : Ok ℓ K g H n) (ex : Den K g x dx) (q : gSl dx l u P) (k : Fin ℓ K g H n P Q) : rSl K x l u H Q := by
  cases ex with
  | lst h1 h2 => exact .inl ⟨_, _, rfl, SqL.of (ok.sub _ _ h1), fun p hp => k.newL ok q (h2.cut l u) hp⟩
  | tup h1 h2 =>
    refine .inr (.inl ⟨_, _, rfl, Or.inl (h1.same ok.sub), fun w => ?_, fun _ p hp => k.newT ok q (h2.cut l u) hp⟩)
    rw [h2.length] at w
    have q' : P _ := q
    rw [cut_whole w] at q'
    exact k.flat ok q' (.tup h1 h2)
  | str s =>
    refine .inr (.inr ⟨_, rfl, sz q.1, ?_⟩)
    have q' := k.flat ok q.2 (.str _)
    have e : cutS ⟨s.toArray⟩ l u = ⟨(Pd.cut s l u).toArray⟩ := by
      unfold cutS Pd.cut
      rfl
    rw [e]
    exact q'
  | _ => exact q.elim
theorem de_sl (he : PE X e (liftE ℓ X.K d)) (hl : PO X lo (liftP ℓ X.K dl)) (hu : PO X hi (liftP ℓ X.K dh)) : PE X (.Subscript e (.Slice lo hi none p2) pos) (liftE ℓ X.K (dSl d dl dh)) :=
  de_of (pe_slice (r := rSl X.K) (sl_list.or (sl_tupA.or sl_str)) he hl hu) fun O g H n σ ε P Q r q k => ⟨O, g, n, ε, _, r, q, fun v g1 H1 n1 x q1 s1 o1 e1 => ⟨O, g1, n1, ε, _, r.step s1 o1, q1, fun l g2 H2 n2 q2 s2 o2 => ⟨O, g2, n2, ε, _, (r.step s1 o1).step s2 o2, q2, fun u g3 H3 n3 q3 s3 o3 =>
    sl_ok o3 (e1.mono (s2.trans s3).ext) q3 (Fin.of k ((s1.trans s2).trans s3))⟩⟩⟩
def dRev (d : DE) : DE := fun n ε P => d n ε fun n1 x => match x with
  | .lst xs => P n1 (.lst xs.reverse)
  | .tup xs => P n1 (.tup xs.reverse)
  | .str l => l.length ≤ 16777216 ∧ P n1 (.str l.reverse)
  | _ => False
def dTmp (i : Nat) (d : DE) : DE := fun n ε P => d n (frzE ε i) fun n' r => flatD r = true ∧ P n' r
def dTmpT (i : Nat) (t : DT) : DT := fun n ε P => t n (frzE ε i) P
theorem dt_tmp {t : DT} (i : Nat) (h : PT X e (liftT false X.K t)) : PT X e (liftT false X.K (dTmpT i t)) := pt_w h fun σ H Q ⟨O, g, n, ε, P, r, q, k⟩ => by
  obtain ⟨g1, r1, back⟩ := r.tmp i
  exact ⟨O, g1, n, _, _, r1, q, fun v g' H' n' q1 s1 o1 => by
    obtain ⟨g2, s2, o2⟩ := back g' H' n' s1 o1
    exact k v g2 H' n' q1 s2 o2⟩
def dIxO (i : Nat) (d : DE) : DE := fun n ε P => match ε[i]? with
  | some (.own (.lst ds)) => d n ε fun n1 x => match x with
    | .int j => ∃ y, L2.atI ds j = some y ∧ P n1 y
    | _ => False
  | _ => False
theorem de_ixO {i : Nat} (ha : PE X a (tVar i)) (hb : PE X b (liftE ℓ X.K db)) (hs : PlainIx b := by intro _ _; rfl) : PE X (.Subscript a b pos) (liftE ℓ X.K (dIxO i db)) :=
  de_of (pe_ix ix_seq ha hb hs) fun O g H n σ ε P Q r q k => by
    unfold dIxO at q
    split at q
    · rename_i ds ei
      obtain ⟨p, o, w1, w2, w3, w4, w5, w6⟩ := r.sl i _ ei
      refine ⟨_, w1, O, g, n, ε, _, r, q, fun v g1 H1 n1 x q1 s1 o1 e1 => ?_⟩
      cases e1 with
      | int j =>
        obtain ⟨y, q2, q3⟩ := q1
        obtain ⟨vs, rfl, dd⟩ := w6
        obtain ⟨u, e, du⟩ := (dd.mono s1.ext).atI q2
        have hp : H1 p = some (.lst vs) := s1.kep p _ w5 w4
        exact .inl ⟨p, vs, j, u, rfl, rfl, SqL.of hp, e, k u g1 H1 n1 y q3 s1 o1 du⟩
      | _ => exact q1.elim
    · exact q.elim
def dSlO (i : Nat) (l h : DP) : DE := fun n ε P => match ε[i]? with
  | some (.own (.lst ds)) => l n ε fun n2 lo => h n2 ε fun n3 hi => P n3 (.lst (cut ds lo hi))
  | _ => False
def dApp (i : Nat) (d : DE) : DS := fun N n ε => match ε[i]? with
  | some (.own (.lst ds)) => d n ε fun n1 x => ds.length < 16777216 ∧ N.nx n1 (ε.set i (.own (.lst (ds ++ [x]))))
  | _ => False
def dSetI (i : Nat) (dk d : DE) : DS := fun N n ε => match ε[i]? with
  | some (.own (.lst ds)) => d n ε fun n1 x => dk n1 ε fun n2 y => match y with
    | .int k => ∃ j, ixN ds.length k = some j ∧ N.nx n2 (ε.set i (.own (.lst (ds.set j x))))
    | _ => False
  | _ => False
def dAugI (f : Int → Int → Int) (i : Nat) (d : DE) : DS := fun N n ε => match ε[i]? with
  | some (.val (.int a)) => d n ε fun n1 y => match y with
    | .int b => N.nx n1 (ε.set i (.val (.int (f a b))))
    | _ => False
  | _ => False
end
theorem tyV_own {K : PySem.W.Frag} {H : Hp} {p : Addr} {vs : List V} (h : H p = some (.lst vs)) : tyV K "list" (.ref p) H := .inl ⟨rfl, vs, SqL.of h⟩
section
variable {X : Cx} {pos apos p2 : Pos} {o e : Expr} {d di : DE} {i : Nat}
theorem ds_app (ho : PE X o (tVar i)) (he : PE X e (liftE ℓ X.K d)) (hs : swapsWith (.Call (.Attribute o "append" apos) [e] [] pos) none p2.line X.env = pure false := by rfl)
    (hbase : attributeBase o "append" X.env (eval o X.env) = eval o X.env := by rfl)
    (hfew : ((backTo pos (starEach [e] X.env)).all (fun x => !x.1) && (backToKw pos (keywordEach [] X.env)).all (fun x => x.1.isSome)
      && decide (([e] : List Expr).length + ([] : List Keyword).length + (if ([] : List Keyword).isEmpty then 0 else 1) < 30)) = true := by rfl)
    (hline : (apos.endLine == pos.line) = true := by rfl) (hst : starEach [e] X.env = (false, eval e X.env) :: starEach [] X.env := by rfl) : PS X (.Expr (.Call (.Attribute o "append" apos) [e] [] pos) p2) (liftS ℓ W X.K (dApp i d)) :=
  ps_w (ps_expr (pe_bm PySem.F.plainAttrs_list PySem.F.slot_list_append PySem.F.type_list_append mt_append ho (pa_cons he pa_nil hst) hbase hfew hline hst) hs) fun E σ H ⟨U, g0, H0, g, n, ε, N, uo, r, s0, q, k1, k2, k3, k4⟩ => by
    unfold dApp at q
    split at q
    · rename_i ds ei
      obtain ⟨p, ob, w1, w2, w3, w4, w5, w6⟩ := r.sl i _ ei
      obtain ⟨vs, rfl, dd⟩ := w6
      refine ⟨_, w1, tyV_own w5, _, g, n, ε, _, r, q, fun v g1 H1 n1 x q1 s1 o1 e1 => ?_⟩
      obtain ⟨hl, q2⟩ := q1
      have hp : H1 p = some (.lst vs) := s1.kep p _ w5 w4
      refine ⟨p, vs, v, rfl, rfl, hp, by rw [dd.length, sizeLine_eq]; exact hl, ?_⟩
      have r1 := r.step s1 o1
      exact k1 σ g1 _ n1 _ q2 (r1.mut ei w1 ⟨_, rfl, (dd.mono s1.ext).append (.cons e1 .nil)⟩ fun z => ⟨z.1, uo.lst _ _⟩) ((s0.trans s1).mut w2.1)
    · exact q.elim
theorem Dens.len {K : PySem.W.Frag} {g : Gh} {vs : List V} {ds : List D} (h : Dens K g vs ds) : vs.length = ds.length := h.length
theorem ds_setI {ix : Expr} (ho : PE X o (tVar i)) (hi : PE X ix (liftE ℓ X.K di)) (he : PE X e (liftE ℓ X.K d)) (hs : swapsWithSole [.Subscript o ix pos] e p2.line X.env = pure false := by rfl) (hw : swappedStores [.Subscript o ix pos] e X.env = pure none := by rfl)
    (h1 : (assignEach [.Subscript o ix pos] X.env).map (·.2) = [assign (.Subscript o ix pos) X.env] := by rfl)
    (ha : ∀ v, assign (.Subscript o ix pos) X.env v = (do
      let ov ← holding [v] (eval o X.env)
      let iv ← holding [v, ov] (eval ix X.env)
      standAt pos
      holding [v, ov, iv] (setItem ov iv v)
      release [v, ov, iv] []) := by intro _; rfl) : PS X (.Assign [.Subscript o ix pos] e p2) (liftS ℓ W X.K (dSetI i di d)) :=
  ps_w (ps_asg he (pg_sub ho hi set_list ha) hs hw h1) fun E σ H ⟨U, g0, H0, g, n, ε, N, uo, r, s0, q, k1, k2, k3, k4⟩ => by
    unfold dSetI at q
    split at q
    · rename_i ds ei
      obtain ⟨p, ob, w1, w2, w3, w4, w5, w6⟩ := r.sl i _ ei
      obtain ⟨vs, rfl, dd⟩ := w6
      refine ⟨_, g, n, ε, _, r, q, fun v g1 H1 n1 x q1 s1 o1 e1 => ⟨_, w1, _, g1, n1, ε, _, r.step s1 o1, q1, fun y g2 H2 n2 z q2 s2 o2 e2 => ?_⟩⟩
      cases e2 with
      | int k =>
        obtain ⟨j, hj, q3⟩ := q2
        have s12 := s1.trans s2
        have hp : H2 p = some (.lst vs) := s12.kep p _ w5 w4
        refine ⟨p, vs, k, j, rfl, rfl, hp, by rw [dd.length]; exact hj, ?_⟩
        have r1 := r.step s12 o2
        exact k1 σ g2 _ n2 _ q3 (r1.mut ei w1 ⟨_, rfl, (dd.mono s12.ext).set (e1.mono s2.ext) j⟩ fun z => ⟨z.1, uo.lst _ _⟩) ((s0.trans s12).mut w2.1)
      | _ => exact q2.elim
    · exact q.elim
end
abbrev GC := List D → (D → Prop) → Prop
structure SCall (ℓ : Bool) (K : PySem.W.Frag) (r : List V → Hp → VK → Prop) (go : GC) : Prop where
  ok : ∀ {g : Gh} {H : Hp} {n : Nat} {xs : List V} {ds : List D} {P : D → Prop} {Q : VK}, Ok ℓ K g H n → Dens K g xs ds → go ds P → Fin ℓ K g H n P Q → r xs H Q
def dBi (go : GC) (t : DA) : DE := fun n ε P => t n ε fun n1 ds => go ds (P n1)
section
variable {X : Cx} {pos p : Pos} {e : Expr} {es : List Expr} {r : List V → Hp → VK → Prop} {go : GC} {t : DA} {id T : String} {x : Str}
theorem bi_ok {K : PySem.W.Frag} (hs : SCall ℓ K r go) : ∀ {σ : L2.St} {H : Hp} {Q : VK}, liftE ℓ K (dBi go t) σ H Q → liftA ℓ K t σ H fun xs H1 => r xs H1 Q := fun {σ H Q} ⟨O, g, n, ε, P, rr, q, k⟩ =>
  ⟨O, g, n, ε, _, rr, q, fun vs g1 H1 n1 ds q1 s1 o1 e1 => hs.ok o1 e1 q1 (Fin.of k s1)⟩
theorem de_bi (hc : CallR X (.builtin id) r) (hs : SCall ℓ X.K r go) (hg : Gl X x) (hm : X.mg x = none) (hv : bootBuiltins x = some (.builtin id)) (ha : PA X (e :: es) (liftA ℓ X.K t)) (hn : x ≠ "__name__" := by decide) (hdb : (x == ("__debug__" : Str)) = false := by decide)
    (he : starEach (e :: es) X.env = (false, eval e X.env) :: starEach es X.env := by rfl) (hpl : (backTo pos (starEach es X.env)).any (·.1) = false := by rfl) : PE X (.Call (.Name x p) (e :: es) [] pos) (liftE ℓ X.K (dBi go t)) :=
  pe_w (pe_callB hc hg hm hv ha hn hdb he hpl) fun σ H Q h => bi_ok hs h
theorem de_ty (hc : CallR X (.type T) r) (hs : SCall ℓ X.K r go) (hg : Gl X x) (hm : X.mg x = none) (hv : bootBuiltins x = some (.type T)) (ha : PA X (e :: es) (liftA ℓ X.K t)) (hn : x ≠ "__name__" := by decide) (hdb : (x == ("__debug__" : Str)) = false := by decide)
    (he : starEach (e :: es) X.env = (false, eval e X.env) :: starEach es X.env := by rfl) (hpl : (backTo pos (starEach es X.env)).any (·.1) = false := by rfl) : PE X (.Call (.Name x p) (e :: es) [] pos) (liftE ℓ X.K (dBi go t)) :=
  pe_w (pe_callTy hc hg hm hv ha hn hdb he hpl) fun σ H Q h => bi_ok hs h
end
end Pd
namespace Pd
variable {ℓ : Bool}
open PySem L2
def gAbs : GC := fun ds P => match ds with
  | [.int i] => P (.int (if i < 0 then -i else i))
  | _ => False
def gInt : GC := fun ds P => match ds with
  | [.int i] => P (.int i)
  | [.bl b] => P (.int (if b then 1 else 0))
  | [.str l] => l.length ≤ 640 ∧ ∃ n, PySem.intText? ⟨l.toArray⟩ = some n ∧ P (.int n)
  | _ => False
def numD (i : Int) : List Nat := (toString i : Str).cps.toList
def gStr : GC := fun ds P => match ds with
  | [.int i] => i.natAbs.log2 < 1920 ∧ P (.str (numD i))
  | [.str l] => P (.str l)
  | _ => False
def gLen : GC := fun ds P => match ds with
  | [.lst xs] => P (.int xs.length)
  | [.tup xs] => P (.int xs.length)
  | [.str l] => l.length ≤ 16777216 ∧ P (.int l.length)
  | [.scr ns] => P (.int ns.length)
  | _ => False
def sgn (l : List Nat) : List D := l.map fun c => .str [c]
def gList : GC := fun ds P => match ds with
  | [.lst xs] => P (.lst xs)
  | [.tup xs] => P (.lst xs)
  | [.tupK xs] => P (.lst xs)
  | [.str l] => l.length ≤ 16777216 ∧ P (.lst (sgn l))
  | _ => False
def gTuple : GC := fun ds P => match ds with
  | [.lst xs] => P (.tup xs)
  | [.tup xs] => P (.tup xs)
  | [.str l] => l.length ≤ 16777216 ∧ P (.tup (sgn l))
  | _ => False
def isInts : List D → Option (List Int)
  | [] => some []
  | .int i :: r => (isInts r).map (i :: ·)
  | _ :: _ => none
theorem isInts_map : ∀ {ds : List D} {ns : List Int}, isInts ds = some ns → ds = ns.map D.int
  | [], ns, h => by
    cases h
    rfl
  | .int i :: r, ns, h => by
    rw [isInts] at h
    cases e : isInts r with
    | none =>
      rw [e] at h
      cases h
    | some ms =>
      rw [e] at h
      cases h
      rw [isInts_map e]
      rfl
  | .non :: _, _, h => by cases h
  | .bl _ :: _, _, h => by cases h
  | .str _ :: _, _, h => by cases h
  | .lst _ :: _, _, h => by cases h
  | .tup _ :: _, _, h => by cases h
  | .obj _ _ :: _, _, h => by cases h
  | .pot :: _, _, h => by cases h
  | .cel _ _ :: _, _, h => by cases h
  | .scr _ :: _, _, h => by cases h
  | .ref _ :: _, _, h => by cases h
def isBls : List D → Option (List Bool)
  | [] => some []
  | .bl i :: r => (isBls r).map (i :: ·)
  | _ :: _ => none
theorem isBls_map : ∀ {ds : List D} {ns : List Bool}, isBls ds = some ns → ds = ns.map D.bl
  | [], ns, h => by
    cases h
    rfl
  | .bl i :: r, ns, h => by
    rw [isBls] at h
    cases e : isBls r with
    | none =>
      rw [e] at h
      cases h
    | some ms =>
      rw [e] at h
      cases h
      rw [isBls_map e]
      rfl
  | .non :: _, _, h => by cases h
  | .int _ :: _, _, h => by cases h
  | .str _ :: _, _, h => by cases h
  | .lst _ :: _, _, h => by cases h
  | .tup _ :: _, _, h => by cases h
  | .obj _ _ :: _, _, h => by cases h
  | .pot :: _, _, h => by cases h
  | .cel _ _ :: _, _, h => by cases h
  | .scr _ :: _, _, h => by cases h
  | .ref _ :: _, _, h => by cases h
theorem map_isBls : ∀ (ns : List Bool), isBls (ns.map D.bl) = some ns
  | [] => rfl
  | n :: ns => by
    rw [List.map_cons, isBls, map_isBls ns]
    rfl
def isStrs : List D → Option (List (List Nat))
  | [] => some []
  | .str i :: r => (isStrs r).map (i :: ·)
  | _ :: _ => none
theorem isStrs_map : ∀ {ds : List D} {ns : List (List Nat)}, isStrs ds = some ns → ds = ns.map D.str
  | [], ns, h => by
    cases h
    rfl
  | .str i :: r, ns, h => by
    rw [isStrs] at h
    cases e : isStrs r with
    | none =>
      rw [e] at h
      cases h
    | some ms =>
      rw [e] at h
      cases h
      rw [isStrs_map e]
      rfl
  | .non :: _, _, h => by cases h
  | .int _ :: _, _, h => by cases h
  | .bl _ :: _, _, h => by cases h
  | .lst _ :: _, _, h => by cases h
  | .tup _ :: _, _, h => by cases h
  | .obj _ _ :: _, _, h => by cases h
  | .pot :: _, _, h => by cases h
  | .cel _ _ :: _, _, h => by cases h
  | .scr _ :: _, _, h => by cases h
  | .ref _ :: _, _, h => by cases h
theorem map_isStrs : ∀ (ns : List (List Nat)), isStrs (ns.map D.str) = some ns
  | [] => rfl
  | n :: ns => by
    rw [List.map_cons, isStrs, map_isStrs ns]
    rfl
def gMax : GC := fun ds P => match ds with
  | [.int i, .int j] => P (.int (if j > i then j else i))
  | [.lst xs] => ∃ ns, isInts xs = some ns ∧ 0 < ns.length ∧ ∀ m, m ∈ ns → (∀ y, y ∈ ns → y ≤ m) → P (.int m)
  | _ => False
def gMin : GC := fun ds P => match ds with
  | [.int i, .int j] => P (.int (if j < i then j else i))
  | [.lst xs] => ∃ ns, isInts xs = some ns ∧ 0 < ns.length ∧ ∀ m, m ∈ ns → (∀ y, y ∈ ns → m ≤ y) → P (.int m)
  | _ => False
def gAny : GC := fun ds P => match ds with
  | [.lst xs] => ∃ ns, isBls xs = some ns ∧ P (.bl (ns.any id))
  | _ => False
def gAll : GC := fun ds P => match ds with
  | [.lst xs] => ∃ ns, isBls xs = some ns ∧ P (.bl (ns.all id))
  | _ => False
section
variable {X : Cx}
theorem so_abs : SCall ℓ X.K (fun xs H Q => ∃ i, xs = [.int i] ∧ Q (.int (if i < 0 then -i else i)) H) gAbs := ⟨fun {g H n xs ds P Q} ok ex q k => by
  match ds, ex, q with
  | [.int i], .cons (.int _) .nil, q => exact ⟨i, rfl, k.flat ok q (.int _)⟩⟩
def rIntA : List V → Hp → VK → Prop := fun xs H Q => ((∃ i, xs = [.int i] ∧ Q (.int i) H) ∨ ∃ k, xs = [.bl k] ∧ Q (.int (if k then 1 else 0)) H) ∨ ∃ a n, xs = [.str a] ∧ PySem.intText? a = some n ∧ a.length ≤ 640 ∧ Q (.int n) H
theorem call_intA : CallR X (.type "int") rIntA := call_int1.or call_int_str
theorem so_int : SCall ℓ X.K rIntA gInt := ⟨fun {g H n xs ds P Q} ok ex q k => by
  match ds, ex, q with
  | [.int i], .cons (.int _) .nil, q => exact .inl (.inl ⟨i, rfl, k.flat ok q (.int _)⟩)
  | [.bl b], .cons (.bl _) .nil, q => exact .inl (.inr ⟨b, rfl, k.flat ok q (.int _)⟩)
  | [.str l], .cons (.str _) .nil, q =>
    obtain ⟨q0, n, q1, q2⟩ := q
    exact .inr ⟨_, n, rfl, q1, by simpa [Str.length] using q0, k.flat ok q2 (.int _)⟩⟩
def rStrA : List V → Hp → VK → Prop := fun xs H Q => (∃ i, xs = [.int i] ∧ i.natAbs.log2 < 1920 ∧ Q (.str (toString i)) H) ∨ ∃ a, xs = [.str a] ∧ Q (.str a) H
theorem call_strA : CallR X (.type "str") rStrA := call_str_int.or SkE.call_str_str
theorem numD_str (i : Int) : (⟨(numD i).toArray⟩ : Str) = toString i := by
  unfold numD
  simp
theorem so_str : SCall ℓ X.K rStrA gStr := ⟨fun {g H n xs ds P Q} ok ex q k => by
  match ds, ex, q with
  | [.int i], .cons (.int _) .nil, q => exact .inl ⟨i, rfl, q.1, by rw [← numD_str]; exact k.flat ok q.2 (.str _)⟩
  | [.str l], .cons (.str _) .nil, q => exact .inr ⟨_, rfl, k.flat ok q (.str _)⟩⟩
def rLenA (K : PySem.W.Frag) : List V → Hp → VK → Prop := fun xs H Q => (∃ p ys, xs = [.ref p] ∧ (SqL K H p ys ∨ SqT K H p ys) ∧ Q (.int ys.length) H) ∨ ∃ z : Str, xs = [.str z] ∧ z.length ≤ sizeLine ∧ Q (.int z.length) H
theorem call_lenA : CallR X (.builtin "len") (rLenA X.K) := call_len_seq.or call_len_str
theorem so_len : SCall ℓ X.K (rLenA X.K) gLen := ⟨fun {g H n xs ds P Q} ok ex q k => by
  match ds, ex, q with
  | [.lst l], .cons (.lst h1 h2) .nil, q => exact .inl ⟨_, _, rfl, .inl (SqL.of (ok.sub _ _ h1)), by rw [h2.length]; exact k.flat ok q (.int _)⟩
  | [.tup l], .cons (.tup h1 h2) .nil, q => exact .inl ⟨_, _, rfl, .inr (Or.inl (h1.same ok.sub)), by rw [h2.length]; exact k.flat ok q (.int _)⟩
  | [.str l], .cons (.str _) .nil, q =>
    refine .inr ⟨_, rfl, sz (by simpa [Str.length] using q.1), ?_⟩
    rw [show ((⟨l.toArray⟩ : Str).length : Int) = (l.length : Int) by simp [Str.length]]
    exact k.flat ok q.2 (.int _)
  | [.scr ns], .cons (.scr h) .nil, q => exact .inl ⟨_, _, rfl, .inl (ok.sub.seq h), by rw [List.length_map]; exact k.flat ok q (.int _)⟩⟩
def sgnV (z : Str) : List V := z.cps.toList.map fun c => .str ⟨#[c]⟩
theorem vals_sgn {z : Str} {acc : Array Value} (h : ItemsOf (SignAt z) acc z.cps.size) : Vals (sgnV z) acc.toList := by
  refine vals_of_at (by unfold sgnV; rw [List.length_map, Array.length_toList, Array.length_toList, h.1]) fun j x u e1 e2 => ?_
  obtain ⟨c, t, e3, rfl⟩ := h.2 j u (by simpa using e2)
  unfold sgnV at e1
  rw [List.getElem?_map] at e1
  have e4 : z.cps.toList[j]? = some c := by simpa using e3
  rw [e4] at e1
  cases e1
  exact ⟨t, rfl⟩
def rListT : List V → Hp → VK → Prop := fun xs H Q => ∃ z : Str, xs = [.str z] ∧ z.length ≤ sizeLine ∧ ∀ p, H p = none → Q (.ref p) (upd H p (.lst (sgnV z)))
theorem call_listT (hc : X.calm = true) : CallR X (.type "list") rListT := by
  intro pins s σ H xs us Q I r h
  obtain ⟨z, rfl, hz, q⟩ := h
  cases r with
  | cons r0 r1 =>
    cases r1
    obtain ⟨t, rfl⟩ := r0
    refine call_list_str (I.ok.hd hc) z t (hn := hz) fun h' tk acc' c' hk hS' hacc => ?_
    refine ⟨.ref _, upd H s.heap.objs.size (.lst (sgnV z)), I.laid (t' := tk) hk (Nat.le_refl _) ⟨?_, acc'.toList, c', vals_sgn hacc, by simpa using hS'⟩, rfl, q _ (I.hok.fresh (Nat.le_refl _))⟩
    unfold sgnV
    rw [List.length_map, Array.length_toList]
    exact hz
def rListA (K : PySem.W.Frag) : List V → Hp → VK → Prop := fun xs H Q => (∃ p ys, xs = [.ref p] ∧ (SqL K H p ys ∨ SqT K H p ys) ∧ ∀ l, H l = none → Q (.ref l) (upd H l (.lst ys))) ∨ rListT xs H Q
theorem call_listA (hc : X.calm = true) : CallR X (.type "list") (rListA X.K) := call_list_of.or (call_listT hc)
theorem dens_sgn {K : PySem.W.Frag} {g : Gh} (l : List Nat) : Dens K g (sgnV ⟨l.toArray⟩) (sgn l) := by
  unfold sgnV sgn
  induction l with
  | nil => exact .nil
  | cons c l ih => exact .cons (.str [c]) (by simpa using ih)
theorem so_list : SCall ℓ X.K (rListA X.K) gList := ⟨fun {g H n xs ds P Q} ok ex q k => by
  match ds, ex, q with
  | [.lst l], .cons (.lst h1 h2) .nil, q => exact .inl ⟨_, _, rfl, .inl (SqL.of (ok.sub _ _ h1)), fun p hp => k.newL ok q h2 hp⟩
  | [.tup l], .cons (.tup h1 h2) .nil, q => exact .inl ⟨_, _, rfl, .inr (Or.inl (h1.same ok.sub)), fun p hp => k.newL ok q h2 hp⟩
  | [.tupK l], .cons (.tupK h1 h2) .nil, q => exact .inl ⟨_, _, rfl, .inr (h1 _), fun p hp => k.newL ok q h2 hp⟩
  | [.str l], .cons (.str _) .nil, q => exact .inr ⟨_, rfl, sz (by simpa [Str.length] using q.1), fun p hp => k.newL ok q.2 (dens_sgn l) hp⟩⟩
def rTupT : List V → Hp → VK → Prop := fun xs H Q => ∃ z : Str, xs = [.str z] ∧ z.length ≤ sizeLine ∧ ∀ p, H p = none → Q (.ref p) (upd H p (.tup (sgnV z)))
theorem call_tupT (hc : X.calm = true) : CallR X (.type "tuple") rTupT := by
  intro pins s σ H xs us Q I r h
  obtain ⟨z, rfl, hz, q⟩ := h
  cases r with
  | cons r0 r1 =>
    cases r1
    obtain ⟨t, rfl⟩ := r0
    refine call_tuple_str (I.ok.hd hc) z t (hsz := hz) fun h' tk acc' hk hacc => ?_
    have hlen : (sgnV z).length ≤ sizeLine := by
      unfold sgnV
      rw [List.length_map, Array.length_toList]
      exact hz
    have I2 : Inv X pins σ H { s with heap := h', toks := tk } := I.kept hk
    refine ⟨.ref h'.objs.size, upd H h'.objs.size (.tup (sgnV z)), I2.laid (t' := tk) (fun c o e => Heap.get?_push_of_some _ e) (Nat.le_refl _) (show ObjOk X.prog X.w _ _ _ (.tup (sgnV z)) from ⟨hlen, acc'.toList, vals_sgn hacc, ?_⟩), rfl, q _ (I2.hok.fresh (Nat.le_refl _))⟩
    rw [Array.toArray_toList]
    exact PyProof.Rows.IsTup.new _ _
def rTupA (K : PySem.W.Frag) : List V → Hp → VK → Prop := fun xs H Q => (∃ p ys, xs = [.ref p] ∧ ((SqL K H p ys ∧ ∀ l, H l = none → Q (.ref l) (upd H l (.tup ys))) ∨ (SqT K H p ys ∧ Q (.ref p) H))) ∨ rTupT xs H Q
theorem call_tupA (hc : X.calm = true) : CallR X (.type "tuple") (rTupA X.K) := call_tuple_of.or (call_tupT hc)
theorem so_tuple : SCall ℓ X.K (rTupA X.K) gTuple := ⟨fun {g H n xs ds P Q} ok ex q k => by
  match ds, ex, q with
  | [.lst l], .cons (.lst h1 h2) .nil, q => exact .inl ⟨_, _, rfl, .inl ⟨SqL.of (ok.sub _ _ h1), fun p hp => k.newT ok q h2 hp⟩⟩
  | [.tup l], .cons (.tup h1 h2) .nil, q => exact .inl ⟨_, _, rfl, .inr ⟨Or.inl (h1.same ok.sub), k.flat ok q (.tup h1 h2)⟩⟩
  | [.str l], .cons (.str _) .nil, q => exact .inr ⟨_, rfl, sz (by simpa [Str.length] using q.1), fun p hp => k.newT ok q.2 (dens_sgn l) hp⟩⟩
def rMaxA (K : PySem.W.Frag) : List V → Hp → VK → Prop := fun xs H Q => (∃ i j, xs = [.int i, .int j] ∧ Q (.int (if j > i then j else i)) H) ∨ rMax K xs H Q
def rMinA (K : PySem.W.Frag) : List V → Hp → VK → Prop := fun xs H Q => (∃ i j, xs = [.int i, .int j] ∧ Q (.int (if j < i then j else i)) H) ∨ rMin K xs H Q
theorem call_maxA (hc : X.calm = true) : CallR X (.builtin "max") (rMaxA X.K) := (call_max2 hc).or (cr_max hc)
theorem call_minA (hc : X.calm = true) : CallR X (.builtin "min") (rMinA X.K) := (call_min2 hc).or (cr_min hc)
theorem so_max : SCall ℓ X.K (rMaxA X.K) gMax := ⟨fun {g H n xs ds P Q} ok ex q k => by
  match ds, ex, q with
  | [.int i, .int j], .cons (.int _) (.cons (.int _) .nil), q => exact .inl ⟨i, j, rfl, k.flat ok q (.int _)⟩
  | [.lst l], .cons (.lst h1 h2) .nil, q =>
    obtain ⟨ns, q0, q1, q2⟩ := q
    have e := isInts_map q0
    subst e
    have ev := h2.ints
    subst ev
    exact .inr ⟨_, ns, rfl, SqL.of (ok.sub _ _ h1), q1, fun m m1 m2 => k.flat ok (q2 m m1 m2) (.int _)⟩⟩
theorem so_min : SCall ℓ X.K (rMinA X.K) gMin := ⟨fun {g H n xs ds P Q} ok ex q k => by
  match ds, ex, q with
  | [.int i, .int j], .cons (.int _) (.cons (.int _) .nil), q => exact .inl ⟨i, j, rfl, k.flat ok q (.int _)⟩
  | [.lst l], .cons (.lst h1 h2) .nil, q =>
    obtain ⟨ns, q0, q1, q2⟩ := q
    have e := isInts_map q0
    subst e
    have ev := h2.ints
    subst ev
    exact .inr ⟨_, ns, rfl, SqL.of (ok.sub _ _ h1), q1, fun m m1 m2 => k.flat ok (q2 m m1 m2) (.int _)⟩⟩
theorem so_any : SCall ℓ X.K (rAny X.K) gAny := ⟨fun {g H n xs ds P Q} ok ex q k => by
  match ds, ex, q with
  | [.lst l], .cons (.lst h1 h2) .nil, q =>
    obtain ⟨ns, q0, q1⟩ := q
    have e := isBls_map q0
    subst e
    have ev := h2.bls
    subst ev
    exact ⟨_, ns, rfl, SqL.of (ok.sub _ _ h1), k.flat ok q1 (.bl _)⟩⟩
theorem so_all : SCall ℓ X.K (rAll X.K) gAll := ⟨fun {g H n xs ds P Q} ok ex q k => by
  match ds, ex, q with
  | [.lst l], .cons (.lst h1 h2) .nil, q =>
    obtain ⟨ns, q0, q1⟩ := q
    have e := isBls_map q0
    subst e
    have ev := h2.bls
    subst ev
    exact ⟨_, ns, rfl, SqL.of (ok.sub _ _ h1), k.flat ok q1 (.bl _)⟩⟩
end
structure InsOk (K : PySem.W.Frag) (C : Addr) : Prop where
  cl : Cls K C
  ha : PySem.W.findIn K (.ref C) "__class__" = some (some (.builtin "object.__class__"))
  hn : PySem.W.specialIn K (.builtin "object.__class__") "__get__" = some (some (.builtin "getset_descriptor.__get__"))
  htk : PySem.W.takesIn K (.builtin "object.__class__") = some true
  hm : PySem.W.mroIn K C (.type "object") = some true
structure ErrI (K : PySem.W.Frag) (C : Addr) : Prop where
  hcl : (PySem.W.clsIn K C).isSome = true
  hga : PySem.W.findIn K (.ref C) "__getattribute__" = some (some (.builtin "BaseException.__getattribute__"))
  hgt : PySem.W.findIn K (.ref C) "__getattr__" = some none
  hsb : PySem.W.subIn K (.ref C) (.type "BaseException") = some true
  ha : PySem.W.findIn K (.ref C) "__class__" = some (some (.builtin "object.__class__"))
  hn : PySem.W.specialIn K (.builtin "object.__class__") "__get__" = some (some (.builtin "getset_descriptor.__get__"))
  htk : PySem.W.takesIn K (.builtin "object.__class__") = some true
  hm : PySem.W.mroIn K C (.type "object") = some true
inductive TyE (K : PySem.W.Frag) (H : Hp) : V → Value → Prop
  | old {x : V} {t : Value} : TyX K H x t → TyE K H x t
  | exc {a C dx : Addr} {fs : List (Str × V)} : H a = some (Exq a C dx) → H dx = some (.xd fs) → ErrI K C → TyE K H (.ref a) (.ref C)
def rIsE (K : PySem.W.Frag) : List V → Hp → VK → Prop := fun xs H Q => ∃ (x c : V) (t u : Value) (b : Bool), xs = [x, c] ∧ ClsV c u ∧ TyE K H x t ∧ PySem.W.kitOne K t u = some b ∧ Q (.bl b) H
theorem call_isE {X : Cx} : CallR X (.builtin "isinstance") (rIsE X.K) := by
  intro pins s σ H xs us Q I r h
  obtain ⟨x, c, t, u, b, rfl, k, ty, e, q⟩ := h
  cases ty with
  | old ty => exact call_isi pins s σ H _ us Q I r ⟨x, c, t, u, b, rfl, k, ty, e, q⟩
  | @exc a C dx fs h1 h2 T =>
    obtain ⟨u1, u2, rfl, r1, r2⟩ := vals2 r
    have e2 := k.eq r2
    subst e2
    cases (show u1 = Value.ref a from r1)
    obtain ⟨⟨⟨oc, od0, oda, osl⟩, vs, ho, h3, h4, h5⟩, _⟩ := I.hok a _ h1
    dsimp only at h3 h4 h5
    subst h3 h4 h5
    obtain ⟨mA, ⟨od, es, ep, hd, _⟩, _⟩ := I.hok dx _ h2
    exact PySem.W.kia_one (PySem.W.kitx_exc (od := some od) T.hcl T.hga T.hgt T.hsb T.ha T.hn T.htk T.hm) I.kIn (PySem.W.InstAt.mk ho rfl rfl hd) e (fun z => nomatch z) fun tk => ⟨.bl b, H, I.tok tk, rfl, q⟩
def tyD : D → Option Value
  | .non => some (.type "NoneType")
  | .bl _ => some (.type "bool")
  | .int _ => some (.type "int")
  | .str _ => some (.type "str")
  | .lst _ => some (.type "list")
  | .tup _ => some (.type "tuple")
  | .obj C _ => some (.ref C)
  | .tupF _ => some (.type "tuple")
  | .err C _ => some (.ref C)
  | .dic _ _ => some (.type "dict")
  | _ => none
def ClOk (K : PySem.W.Frag) : D → Prop
  | .obj C _ => InsOk K C
  | .err C _ => ErrI K C
  | _ => True
structure IsT (K : PySem.W.Frag) (c : V) (tb : D → Option Bool) : Prop where
  cl : ∃ u, ClsV c u ∧ ∀ d b, tb d = some b → ∃ t, tyD d = some t ∧ ClOk K d ∧ PySem.W.kitOne K t u = some b
theorem den_ty {K : PySem.W.Frag} {g : Gh} {H : Hp} {v : V} {d : D} {t : Value} (sm : Same g.G H) (h : Den K g v d) (e : tyD d = some t) (i : ClOk K d) : TyE K H v t := by
  cases h with
  | non => cases e; exact .old (.base .non)
  | bl b => cases e; exact .old (.base (.bl b))
  | int b => cases e; exact .old (.base (.int b))
  | str b => cases e; exact .old (.base (.str _))
  | lst h1 h2 => cases e; exact .old (.base (.lst (sm _ _ h1)))
  | tup h1 h2 =>
    cases e
    rcases h1 with h1 | ⟨o, h1⟩
    · exact .old (.base (.tup (sm _ _ h1)))
    · exact .old (.fTuple (sm _ _ h1))
  | obj h1 h2 =>
    cases e
    have z : InsOk K _ := i
    exact .old (.base (.ins (sm _ _ h1) z.cl z.ha z.hn z.htk z.hm))
  | tupF h1 _ _ _ => cases e; exact .old (.fTuple (sm _ _ h1))
  | err h1 h2 h3 => cases e; exact .exc (sm _ _ h1) (sm _ _ h2) i
  | dic h1 h2 h3 => cases e; exact .old (.base (.dK (sm _ _ h1)))
  | _ => cases e
def dIsi (tb : D → Option Bool) (d : DE) : DE := fun n ε P => d n ε fun n1 x => ∃ b, tb x = some b ∧ P n1 (.bl b)
section
variable {X : Cx} {pos p p2 : Pos} {a c : Expr} {d : DE} {v : V} {tb : D → Option Bool}
theorem de_isi (hT : IsT X.K v tb) (hg : Gl X "isinstance") (hm : X.mg "isinstance" = none) (ha : PE X a (liftE ℓ X.K d)) (hc : PE X c (tC v))
    (h1 : starEach [a, c] X.env = (false, eval a X.env) :: starEach [c] X.env := by rfl) (h2 : starEach [c] X.env = (false, eval c X.env) :: starEach [] X.env := by rfl) (hpl : (backTo pos (starEach [c] X.env)).any (·.1) = false := by rfl) :
    PE X (.Call (.Name "isinstance" p) [a, c] [] pos) (liftE ℓ X.K (dIsi tb d)) :=
  pe_w (pe_callB (r := rIsE X.K) call_isE hg hm PyProof.Rows.boot_isinstance (pa_cons ha (pa_cons hc pa_nil h2) h1) (by decide) (by decide) h1 hpl) fun σ H Q ⟨O, g, n, ε, P, r, q, k⟩ =>
    ⟨O, g, n, ε, _, r, q, fun w g1 H1 n1 x q1 s1 o1 e1 => by
      obtain ⟨b, q2, q3⟩ := q1
      obtain ⟨u, cu, f⟩ := hT.cl
      obtain ⟨t, t1, t2, t3⟩ := f x b q2
      exact ⟨w, v, t, u, b, rfl, cu, den_ty o1.sub e1 t1 t2, t3, k _ g1 H1 n1 _ q3 s1 o1 (.bl b)⟩⟩
theorem pe_tyN {x : Str} {T : String} (hg : Gl X x) (hm : X.mg x = none) (hv : bootBuiltins x = some (.type T)) (hn : x ≠ "__name__" := by decide) (hd : (x == ("__debug__" : Str)) = false := by decide) : PE X (.Name x pos) (tC (.ty T)) := pe_bltn hg hm hv rfl hn hd
theorem pe_clN {x : Str} {C : Addr} (hg : Gl X x) (hm : X.mg x = some (.ref C)) (hd : (x == ("__debug__" : Str)) = false := by decide) : PE X (.Name x pos) (tC (.ref C)) := pe_glob hg hm rfl hd
end
def shownD (d : D) : List Nat := (toPD d).shown.cps.toList
def okRepr (d : D) : Bool := okD d && (toPD d).showable
mutual
theorem noDict : ∀ d : D, isPd d = true → (toPD d).hasDict = false
  | .non, _ => by simp [toPD, PyData.hasDict]
  | .bl _, _ => by simp [toPD, PyData.hasDict]
  | .int _, _ => by simp [toPD, PyData.hasDict]
  | .str _, _ => by simp [toPD, PyData.hasDict]
  | .lst xs, h => by simp only [toPD, PyData.hasDict]; exact noDicts xs (by simpa [isPd] using h)
  | .tup xs, h => by simp only [toPD, PyData.hasDict]; exact noDicts xs (by simpa [isPd] using h)
  | .obj _ _, _ => by simp [toPD, PyData.hasDict]
  | .pot, _ => by simp [toPD, PyData.hasDict]
  | .scr _, _ => by simp [toPD, PyData.hasDict]
  | .ref _, _ => by simp [toPD, PyData.hasDict]
  | .tupK xs, h => by simp only [toPD, PyData.hasDict]; exact noDicts xs (by simpa [isPd] using h)
  | .tupF _, _ => by simp [toPD, PyData.hasDict]
  | .err _ _, h => by simp [isPd] at h
  | .cel _ _, h => by simp [isPd] at h
  | .dic _ _, h => by simp [isPd] at h
theorem noDicts : ∀ ds : List D, isPds ds = true → PyData.hasDictAll (toPDs ds) = false
  | [], _ => by simp [toPDs, PyData.hasDictAll]
  | d :: ds, h => by
    rw [isPds, Bool.and_eq_true] at h
    simp only [toPDs, PyData.hasDictAll]; rw [noDict d h.1, noDicts ds h.2]; rfl
end
section
variable {X : Cx}
def rRepr (K : PySem.W.Frag) : List V → Hp → VK → Prop := fun xs H Q => ∃ x d, xs = [x] ∧ Dp K H x (toPD d) ∧ okRepr d = true ∧ (shownD d).length ≤ 16777216 ∧ Q (.str (toPD d).shown) H
theorem call_repr (hgd : X.A.guards = some []) (hu : X.A.units + 64 < cLine) : CallR X (.builtin "repr") (rRepr X.K) := by
  intro pins s σ H xs us Q I r h
  obtain ⟨x, d, rfl, hd, ok, hl, q⟩ := h
  cases r with
  | cons r0 r1 =>
    rename_i u us
    cases r1
    unfold okRepr at ok
    rw [Bool.and_eq_true] at ok
    have hz : (toPD d).shown.length ≤ sizeLine := sz (by simpa [shownD, Str.length] using hl)
    have hdep : (toPD d).depth ≤ 50 := by
      rw [dpt_toPD]
      have := ok.1
      unfold okD at this
      exact of_decide_eq_true (Bool.and_eq_true_iff.mp this).2
    obtain ⟨as, rd⟩ := Dp.reads I (toPD d) x u hd r0
    have byRef : ∀ a, u = .ref a → wpAny (model X.prog X.w) X.A (call (.builtin "repr") [u]) (EP X pins σ Q) X.xe s := fun a e => by
      subst e
      exact repr_of_reads' rd ok.2 (fun z => by rw [noDict d (okD_pd ok.1)] at z; cases z) hgd (by omega) (fun _ _ e => e) (fun h' t tk hk => ⟨.str _, H, I.kept hk, ⟨t, rfl⟩, q⟩) hz
    cases d with
    | non =>
      cases hd
      cases r0
      exact P.repr_of_none ⟨.str _, H, I.tok _, ⟨_, rfl⟩, q⟩
    | bl b =>
      cases hd
      cases r0
      exact P.repr_of_bool ⟨.str _, H, I.tok _, ⟨_, rfl⟩, q⟩
    | int i =>
      cases hd
      obtain ⟨t, rfl⟩ := r0
      refine P.repr_of_int ?_ ⟨.str _, H, I.tok _, ⟨_, rfl⟩, q⟩
      have := ok.2
      simp only [toPD, PyData.showable] at this
      exact of_decide_eq_true this
    | str l =>
      cases hd
      obtain ⟨t, rfl⟩ := r0
      exact P.repr_of_str ⟨.str _, H, I.tok _, ⟨_, rfl⟩, q⟩ (by simpa [toPD, PyData.shown] using hz)
    | lst ds =>
      cases hd
      exact byRef _ r0
    | tup ds =>
      cases hd
      exact byRef _ r0
    | obj _ _ => exact absurd ok.1 (by simp [okD, isPd])
    | pot => exact absurd ok.1 (by simp [okD, isPd])
    | scr _ => exact absurd ok.1 (by simp [okD, isPd])
    | ref _ => exact absurd ok.1 (by simp [okD, isPd])
    | tupK ds =>
      cases hd
      exact byRef _ r0
    | tupF _ => exact absurd ok.1 (by simp [okD, isPd])
    | err _ _ => exact absurd ok.1 (by simp [okD, isPd])
    | cel _ _ => exact absurd ok.1 (by simp [okD, isPd])
    | dic _ _ => exact absurd ok.1 (by simp [okD, isPd])
def gRepr : GC := fun ds P => match ds with
  | [x] => okRepr x = true ∧ (shownD x).length ≤ 16777216 ∧ P (.str (shownD x))
  | _ => False
theorem so_repr : SCall ℓ X.K (rRepr X.K) gRepr := ⟨fun {g H n xs ds P Q} ok ex q k => by
  match ds, ex, q with
  | [x], .cons h .nil, q =>
    obtain ⟨q1, q2, q3⟩ := q
    refine ⟨_, x, rfl, h.dp ok.sub (okD_pd (Bool.and_eq_true_iff.mp q1).1), q1, q2, ?_⟩
    have z := k.flat ok q3 (.str (shownD x))
    have e : (⟨(shownD x).toArray⟩ : Str) = (toPD x).shown := by
      unfold shownD
      simp
    rw [e] at z
    exact z⟩
end
theorem joinL_nil : ∀ ys : List (List Nat), TL.joinL [] ys = ys.flatten
  | [] => rfl
  | [p] => by simp [TL.joinL]
  | p :: q :: r => by
    show p ++ ([] ++ TL.joinL [] (q :: r)) = _
    rw [joinL_nil (q :: r)]
    simp
def dJoin (da db : DE) : DE := fun n ε P => da n ε fun n1 x => match x with
  | .str a => db n1 ε fun n2 y => match y with
    | .lst xs => ∃ ls, isStrs xs = some ls ∧ (ls.map (·.length)).sum + ls.length * a.length ≤ 16777216 ∧ P n2 (.str (TL.joinL a ls))
    | .tup xs => ∃ ls, isStrs xs = some ls ∧ (ls.map (·.length)).sum + ls.length * a.length ≤ 16777216 ∧ P n2 (.str (TL.joinL a ls))
    | _ => False
  | _ => False
section
variable {X : Cx} {pos apos : Pos} {o e : Expr} {da db : DE}
theorem join_len (ls : List (List Nat)) : ((ls.map fun l => (⟨l.toArray⟩ : Str)).map (·.length)) = ls.map (·.length) := by
  rw [List.map_map]
  exact List.map_congr_left fun l _ => by simp [Str.length]
theorem de_join (ho : PE X o (liftE ℓ X.K da)) (he : PE X e (liftE ℓ X.K db)) (hs : starEach [e] X.env = [(false, eval e X.env)] := by rfl) (hbase : attributeBase o "join" X.env (eval o X.env) = eval o X.env := by rfl) (hline : (apos.endLine == pos.line) = true := by rfl) :
    PE X (.Call (.Attribute o "join" apos) [e] [] pos) (liftE ℓ X.K (dJoin da db)) :=
  de_of (pe_join ho he hs hbase hline) fun O g H n σ ε P Q r q k => ⟨O, g, n, ε, _, r, q, fun v g1 H1 n1 x q1 s1 o1 e1 => by
    cases e1 with
    | str a =>
      refine ⟨⟨_, rfl⟩, O, g1, n1, ε, _, r.step s1 o1, q1, fun w g2 H2 n2 y q2 s2 o2 e2 => ?_⟩
      cases e2 with
      | lst h1 h2 =>
        obtain ⟨ls, z1, z2, z3⟩ := q2
        have ez := isStrs_map z1
        subst ez
        have ev := h2.strs
        subst ev
        refine ⟨_, _, _, rfl, rfl, .inl (SqL.of (o2.sub _ _ h1)), ?_, ?_⟩
        · rw [join_len, List.length_map]
          simpa [Str.length] using z2
        · have ej := SX.join_S a ls
          have ej2 : Txt.join ⟨a.toArray⟩ (ls.map fun l => (⟨l.toArray⟩ : Str)) = ⟨(TL.joinL a ls).toArray⟩ := ej
          rw [ej2]
          exact k _ g2 H2 n2 _ z3 (s1.trans s2) o2 (.str _)
      | tup h1 h2 =>
        obtain ⟨ls, z1, z2, z3⟩ := q2
        have ez := isStrs_map z1
        subst ez
        have ev := h2.strs
        subst ev
        refine ⟨_, _, _, rfl, rfl, .inr (Or.inl (h1.same o2.sub)), ?_, ?_⟩
        · rw [join_len, List.length_map]
          simpa [Str.length] using z2
        · have ej := SX.join_S a ls
          have ej2 : Txt.join ⟨a.toArray⟩ (ls.map fun l => (⟨l.toArray⟩ : Str)) = ⟨(TL.joinL a ls).toArray⟩ := ej
          rw [ej2]
          exact k _ g2 H2 n2 _ z3 (s1.trans s2) o2 (.str _)
      | _ => exact q2.elim
    | _ => exact q1.elim⟩
end
abbrev DR := Nat → Ev → (Nat → Int → Int → Prop) → Prop
def liftR (ℓ : Bool) (K : PySem.W.Frag) (d : DR) : L2.St → Hp → (Int → Int → Hp → Prop) → Prop := fun σ H Q => ∃ O g n ε P, Rp ℓ K O g H n σ ε ∧ d n ε P ∧ ∀ a b g' H' n', P n' a b → Stp g H g' H' → Ok ℓ K g' H' n' → Q a b H'
def r1 (d : DE) : DR := fun n ε P => d n ε fun n1 x => match x with
  | .int i => P n1 0 i
  | _ => False
def r2 (d e : DE) : DR := fun n ε P => d n ε fun n1 x => e n1 ε fun n2 y => match x, y with
  | .int i, .int j => P n2 i j
  | _, _ => False
def rgD (a b : Int) : List D := (List.range (b - a).toNat).map fun i => D.int (a + (i : Nat))
def okRg (a b : Int) : Prop := -(2 ^ 62) ≤ a ∧ a < 2 ^ 62 ∧ -(2 ^ 62) ≤ b ∧ b < 2 ^ 62 ∧ (b - a).toNat ≤ 2 ^ 24
def dLRg (d : DR) : DE := fun n ε P => d n ε fun n1 a b => okRg a b ∧ P n1 (.lst (rgD a b))
section
variable {X : Cx} {pos p : Pos} {e a b : Expr} {d da db : DE} {dr : DR}
theorem dens_rg {K : PySem.W.Frag} {g : Gh} (a b : Int) : Dens K g (rgV a b) (rgD a b) := by
  unfold rgV rgD
  induction List.range (b - a).toNat with
  | nil => exact .nil
  | cons c l ih => exact .cons (.int _) ih
theorem prg_w {t t' : L2.St → Hp → (Int → Int → Hp → Prop) → Prop} (h : PRg X e t) (w : ∀ σ H Q, t' σ H Q → t σ H Q) : PRg X e t' := fun pins s σ H Q I q => h pins s σ H Q I (w σ H Q q)
theorem dr_1 (hg : Gl X "range") (hm : X.mg "range" = none) (ha : PE X a (liftE ℓ X.K da)) (na : starEach [a] X.env = (false, eval a X.env) :: starEach [] X.env := by rfl) : PRg X (.Call (.Name "range" p) [a] [] pos) (liftR ℓ X.K (r1 da)) :=
  prg_w (prg_1 hg hm ha na) fun σ H Q ⟨O, g, n, ε, P, r, q, k⟩ => ⟨O, g, n, ε, _, r, q, fun v g1 H1 n1 x q1 s1 o1 e1 => by
    cases e1 with
    | int i => exact ⟨i, rfl, k 0 i g1 H1 n1 q1 s1 o1⟩
    | _ => exact q1.elim⟩
theorem de_lrg (hc : X.calm = true) (hg : Gl X "list") (hm : X.mg "list" = none) (he : PRg X e (liftR ℓ X.K dr)) (na : starEach [e] X.env = (false, eval e X.env) :: starEach [] X.env := by rfl) : PE X (.Call (.Name "list" p) [e] [] pos) (liftE ℓ X.K (dLRg dr)) :=
  de_of (pe_listRg hc hg hm he na) fun O g H n σ ε P Q r q k => ⟨O, g, n, ε, _, r, q, fun a b g1 H1 n1 q1 s1 o1 => ⟨q1.1, fun p hp => (Fin.of k s1).newL o1 q1.2 (dens_rg a b) hp⟩⟩
end
end Pd
namespace L2
open PySem PySem.Spec PyProof.Rows
theorem meets_enumerate_newI {v : Value} {itf : Heap → Addr} {hpf : Heap → Heap} {H : Heap → Prop}
    (B : ∀ (prog : Program) (w : World) (A : Around) (E : Value → Shared → Prop) (s : Shared) (Q : Value → Shared → Prop), H s.heap → Q (.ref (itf s.heap)) { s with heap := hpf s.heap } → wpAny (model prog w) A (pyIter v) Q E s) :
    Meets (Builtin.«enumerate.__new__» ⟨[.type "enumerate", v], []⟩) (fun _ R s => H s.heap ∧
      R (.ok (.ret (.ref (hpf s.heap).objs.size))) { s with heap := (hpf s.heap).push { cls := .type "enumerate", data := .fields #[.none, .bool false, .ref (itf s.heap), rawInt 0, .none, .none] } }) :=
  .of_wp fun prog w A R s h => by
    obtain ⟨hp, g, d, tk, os⟩ := s; obtain ⟨h1, h⟩ := h
    have hsub := sub_enumerate
    have q1 : ∀ {A' : Around} {E : Value → Shared → Prop} {Q : Value → Shared → Prop}, Q (.ref (itf hp)) ⟨hpf hp, g, d, tk, os⟩ → wpAny (model prog w) A' (pyIter v) Q E ⟨hp, g, d, tk, os⟩ :=
      fun q => B prog w _ _ ⟨hp, g, d, tk, os⟩ _ h1 q
    wp_walk using q1
    refine wpAny_stack_any fun st => wpAny_pure ?_
    split
    · rename_i c _ _ _ _ _
      cases (c == Value.type "enumerate")
      · wp_walk using q1
        exact ⟨_, rfl, h⟩
      · wp_walk using q1
        exact ⟨_, rfl, h⟩
    · wp_walk using q1
      exact ⟨_, rfl, h⟩
section
variable {prog : Program} {w : World} {A : Around} {E : Value → Shared → Prop} {s : Shared}
theorem enum_begins1 {v : Value} {o : Obj} {H : Heap → Prop} {Q : Value → Shared → Prop} (B : Begins v o H) (h1 : H s.heap)
    (h : ∀ h', IsEnum h' (s.heap.objs.size + 1) s.heap.objs.size 0 .none → h'.get? s.heap.objs.size = some o → h'.objs.size = s.heap.objs.size + 2 →
      (∀ b o, s.heap.get? b = some o → h'.get? b = some o) → Q (.ref (s.heap.objs.size + 1)) { s with heap := h' }) :
    wpAny (model prog w) A (call (.type "enumerate") [v]) Q E s := by
  refine callType_new F.called_enumerate (by decide) (F.typeCall_enumerate_1 _) (F.newCall_enumerate_1 _) (fun obj => F.args_object_init_2 obj _) F.entry_enumerate_new
    (meets_enumerate_newI (itf := fun h => h.objs.size) (hpf := fun h => h.push o) B.iter) ⟨h1, ?_⟩
  have hz : (s.heap.push o).objs.size = s.heap.objs.size + 1 := Heap.size_push ..
  show _ ∧ _
  rw [hz]
  have he : IsEnum ((s.heap.push o).push { cls := .type "enumerate", data := .fields #[.none, .bool false, .ref s.heap.objs.size, rawInt 0, .none, .none] }) (s.heap.objs.size + 1) s.heap.objs.size 0 .none := by
    have := Heap.get?_push_size (s.heap.push o) (o := { cls := .type "enumerate", data := .fields #[.none, .bool false, .ref s.heap.objs.size, rawInt 0, .none, .none] }) rfl
    rw [hz] at this; exact this
  refine ⟨⟨_, he, rfl⟩, h _ he (Heap.get?_push_of_some _ (Heap.get?_push_size _ B.free)) (by rw [Heap.size_push, hz]) fun b o x => Heap.get?_push_of_some _ (Heap.get?_push_of_some _ x)⟩
end
inductive Sk where
  | lst (a : Addr) | tup (a : Addr) | str (z : Str)
def Sk.v : Sk → V
  | .lst a => .ref a
  | .tup a => .ref a
  | .str z => .str z
def sgV (z : Str) : List V := z.cps.toList.map fun c => .str ⟨#[c]⟩
def Sk.at (H : Hp) : Sk → List V → Prop
  | .lst a, xs => H a = some (.lst xs)
  | .tup a, xs => Rd H a (.tup xs)
  | .str z, xs => xs = sgV z
def Sk.val (t : Tok) : Sk → Value
  | .lst a => .ref a
  | .tup a => .ref a
  | .str z => .str z t
def Sk.obj (t : Tok) : Sk → Obj
  | .lst a => { cls := .type "list_iterator", data := .fields #[.ref a, .int 0 0] }
  | .tup a => { cls := .type "tuple_iterator", data := .fields #[.ref a, .int 0 0] }
  | .str z => { cls := .type (strIterType z), data := .fields #[.str z t, .int 0 0] }
def Sk.tn (t : Tok) (it : Addr) (i : Nat) (h : Heap) : Sk → Prop
  | .lst a => h.IsListIter it a i
  | .tup a => h.IsTupleIter it a i
  | .str z => h.IsStrIter it (strIterType z) z t i
theorem Sk.rel {k : Sk} {u : Value} (h : RelV k.v u) : ∃ t, u = k.val t := by
  cases k with
  | lst a => exact ⟨0, h⟩
  | tup a => exact ⟨0, h⟩
  | str z =>
    obtain ⟨t, e⟩ := h
    exact ⟨t, e⟩
theorem Sk.tn0 {k : Sk} {t : Tok} {it : Addr} {h : Heap} (e : h.get? it = some (k.obj t)) : k.tn t it 0 h := by
  cases k with
  | lst a => exact ⟨_, e, rfl, rfl⟩
  | tup a => exact ⟨_, e, rfl, rfl⟩
  | str z => exact ⟨_, e, rfl, rfl⟩
theorem Sk.tn_keep {k : Sk} {t : Tok} {it : Addr} {i : Nat} {h h' : Heap} (s : k.tn t it i h) (hk : ∀ o, h.get? it = some o → h'.get? it = some o) : k.tn t it i h' := by
  cases k with
  | lst a => exact Heap.IsListIter.at s hk
  | tup a => exact Heap.IsTupleIter.at s hk
  | str z =>
    obtain ⟨o, e, c, d⟩ := s
    exact ⟨o, hk _ e, c, d⟩
theorem Sk.tn_obj {k : Sk} {t : Tok} {it : Addr} {i : Nat} {h : Heap} (s : k.tn t it i h) : ∃ o, h.get? it = some o ∧ ∀ v, o.data ≠ .cell v := by
  cases k with
  | lst a =>
    obtain ⟨o, e, _, d⟩ := s
    exact ⟨o, e, fun v z => by rw [d] at z; cases z⟩
  | tup a =>
    obtain ⟨o, e, _, d⟩ := s
    exact ⟨o, e, fun v z => by rw [d] at z; cases z⟩
  | str z =>
    obtain ⟨o, e, _, d⟩ := s
    exact ⟨o, e, fun v z => by rw [d] at z; cases z⟩
theorem Sk.len {X : Cx} {pins : List (Addr × Obj)} {σ : St} {H : Hp} {s : Shared} {k : Sk} {xs : List V} (I : Inv X pins σ H s) (h : k.at H xs) : True := trivial
section
variable {X : Cx} {pins : List (Addr × Obj)} {σ : St} {H : Hp} {s : Shared} {k : Sk} {xs : List V}
theorem Sk.begins (I : Inv X pins σ H s) (h : k.at H xs) (t : Tok) : ∃ Hh, Begins (k.val t) (k.obj t) Hh ∧ Hh s.heap := by
  cases k with
  | lst a =>
    obtain ⟨its, n, r, ho, hz⟩ := I.lst h
    exact ⟨_, begins_list a its.toArray, ⟨_, ho, rfl, n, rfl⟩⟩
  | tup a =>
    obtain ⟨its, r, p, hz⟩ := I.tuple (Or.inl h)
    exact ⟨_, begins_tuple a its.toArray, p⟩
  | str z => exact ⟨_, begins_text z t, trivial⟩
theorem Sk.draws (I : Inv X pins σ H s) (h : k.at H xs) (t : Tok) {P : Program} {w : World} {A : Around} (hh : A.handled = none) {it : Addr} (hit : H it = none) :
    ∃ fp St P', Draws P w A it fp xs.length P' St ∧ (∀ i, k.tn t it i s.heap → St i s.heap) ∧ (∀ i h, St i h → k.tn t it i h) ∧ it ∈ fp ∧ (∀ b ∈ fp, b = it ∨ ∃ o, H b = some o) ∧ (∀ i u, P' i u → ∃ y, xs[i]? = some y ∧ RelV y u) := by
  cases k with
  | lst a =>
    obtain ⟨its, n, r, ho, hz⟩ := I.lst h
    have hne : a ≠ it := fun e => by
      have h' : H a = some (.lst xs) := h
      rw [e, hit] at h'
      cases h'
    have hl : s.heap.IsList a its.toArray := ⟨_, ho, rfl, n, rfl⟩
    have D := Draws.list (prog := P) (w := w) (A := A) hh it a hne its.toArray
    rw [List.size_toArray, ← r.length] at D
    refine ⟨_, _, _, D, fun i q => ⟨q, hl⟩, fun i h q => q.1, by simp, fun b hb => ?_, fun i u e => ?_⟩
    · have e : b = it ∨ b = a := by simpa using hb
      exact e.imp id fun z => ⟨_, by rw [z]; exact h⟩
    · have e' : its[i]? = some u := by simpa using e
      obtain ⟨hi, _⟩ := List.getElem?_eq_some_iff.mp e'
      have hx : i < xs.length := by rw [r.length]; exact hi
      obtain ⟨u', e2, r2⟩ := r.get (List.getElem?_eq_getElem hx)
      rw [e'] at e2
      cases e2
      exact ⟨_, List.getElem?_eq_getElem hx, r2⟩
  | tup a =>
    obtain ⟨its, r, p, hz⟩ := I.tuple (Or.inl h)
    obtain ⟨oo, hoo⟩ : ∃ o, H a = some o := (show Rd H a (.tup xs) from h).elim (fun h => ⟨_, h⟩) fun ⟨o, h⟩ => ⟨_, h⟩
    have hne : a ≠ it := fun e => by
      rw [e, hit] at hoo
      cases hoo
    have D := Draws.tuple (prog := P) (w := w) (A := A) hh it a hne its.toArray
    rw [List.size_toArray, ← r.length] at D
    refine ⟨_, _, _, D, fun i q => ⟨q, p⟩, fun i h q => q.1, by simp, fun b hb => ?_, fun i u e => ?_⟩
    · have e : b = it ∨ b = a := by simpa using hb
      exact e.imp id fun z => ⟨_, by rw [z]; exact hoo⟩
    · have e' : its[i]? = some u := by simpa using e
      obtain ⟨hi, _⟩ := List.getElem?_eq_some_iff.mp e'
      have hx : i < xs.length := by rw [r.length]; exact hi
      obtain ⟨u', e2, r2⟩ := r.get (List.getElem?_eq_getElem hx)
      rw [e'] at e2
      cases e2
      exact ⟨_, List.getElem?_eq_getElem hx, r2⟩
  | str z =>
    have e0 : xs = sgV z := h
    subst e0
    refine ⟨_, _, _, by
      have D := Draws.text (prog := P) (w := w) (A := A) hh it z t
      have e : (sgV z).length = z.cps.size := by
        unfold sgV
        rw [List.length_map, Array.length_toList]
      rw [e]
      exact D, fun i q => q, fun i h q => q, by simp, fun b hb => .inl (by simpa using hb), fun i u e => ?_⟩
    obtain ⟨c, u', e1, rfl⟩ := e
    refine ⟨.str ⟨#[c]⟩, ?_, u', rfl⟩
    unfold sgV
    rw [List.getElem?_map]
    have e2 : z.cps.toList[i]? = some c := by simpa using e1
    rw [e2]
    rfl
end
theorem turn_newT {P : Program} {w : World} {K : PySem.W.Frag} {tg : Expr} {J : It} {fp wr : List Addr} {it : Addr} {tn : Nat → Heap → Prop}
    (mem : it ∈ fp) (obj : ∀ i h, tn i h → ∀ b ∈ fp, ∃ o, h.get? b = some o ∧ ∀ v, o.data ≠ .cell v) (keep : ∀ i h h', tn i h → (∀ b ∈ fp, ∀ o, h.get? b = some o → h'.get? b = some o) → tn i h')
    (self : ∀ (A : Around) (i : Nat) (s : Shared) (Q : Value → Shared → Prop) (E : Value → Shared → Prop), tn i s.heap → Q (.ref it) s → wpAny (model P w) A (pyIter (.ref it)) Q E s)
    (hwr : ∀ b ∈ wr, b ∈ fp)
    (step : ∀ (X : Cx), X.prog = P → X.w = w → X.K = K → X.calm = true → ∀ (i : Nat) (pins : List (Addr × Obj)) (s : Shared) (σ : St) (H : Hp), Inv X pins σ H s → (∀ b ∈ fp, FpOk X pins H b) → tn i s.heap → (J.go i H ∨ J.stop i H) →
      ∃ (fpG : List Addr) (n : Nat) (Y : Nat → Heap → Value → Heap → Prop) (St : Nat → Heap → Prop), GoesN P w X.A tg it fpG wr n Y St ∧ St i s.heap ∧ (J.go i H → i < n) ∧ (J.stop i H → i = n) ∧ (∀ h', St (i + 1) h' → tn (i + 1) h') ∧
        ∀ v h', Y i s.heap v h' → ∃ T xs us, v = .ref T ∧ s.heap.objs.size ≤ T ∧ h'.IsTuple T us.toArray ∧ Vals xs us ∧ xs.length ≤ 1000 ∧ J.yld i H (.ref T) (upd H T (.tup xs))) :
    Turn P w K tg J fp it tn where
  mem := mem
  obj := obj
  keep := keep
  self := self
  item := by
    intro X hP hw hK hc i pins s σ H E I hf st hg
    obtain ⟨fpG, n, Y, St, G, s0, s1, _, s2, s3⟩ := step X hP hw hK hc i pins s σ H I hf st (.inl hg)
    subst hP hw hK
    refine thn (G.goes i s (fun v s2 => ∃ x H', Inv X pins σ H' s2 ∧ RelV x v ∧ J.yld i H x H' ∧ tn (i + 1) s2.heap ∧ ∀ b ∈ fp, H' b = none) E (s1 hg) s0 fun v h' tk y st' hk _ => ?_) fun r s1 q => q
    obtain ⟨T, xs, us, rfl, hT, hI, hv, hl, q⟩ := s3 v h' y
    have I1 : Inv X pins σ (upd H T (.tup xs)) { s with heap := h', toks := tk } :=
      I.turnedNew (ch := wr) hk (fun b hb => hf b (hwr b hb)) hT ⟨Nat.le_trans hl (by decide), us, hv, hI⟩
    refine ⟨.ref T, _, I1, rfl, q, s2 h' st', fun b hb => ?_⟩
    obtain ⟨o, eo, _⟩ := obj i s.heap st b hb
    have hlt := Heap.lt_size eo
    rw [upd_ne (Nat.ne_of_lt (Nat.lt_of_lt_of_le hlt hT))]
    exact (hf b hb).1
  done := by
    intro X hP hw hK hc i pins s σ H E I hf st hg
    obtain ⟨fpG, n, Y, St, G, s0, _, s1, _, _⟩ := step X hP hw hK hc i pins s σ H I hf st (.inr hg)
    subst hP hw hK
    have e := s1 hg
    subst e
    exact G.stops s (fun s1 => Inv X pins σ H s1) E s0 fun h' tk hk _ => I.turnedL hk fun b hb => hf b (hwr b hb)
end L2
namespace L2
open PySem PySem.Spec PyProof.Rows
def ItE (k : Sk) (xs : List V) : It :=
  ⟨fun i H => k.at H xs ∧ i < xs.length, fun i H v H' => ∃ T x, v = .ref T ∧ H T = none ∧ H' = upd H T (.tup [.int (i : Nat), x]) ∧ xs[i]? = some x, fun i H => k.at H xs ∧ i = xs.length⟩
def ItZ (k l : Sk) (xs ys : List V) : It :=
  ⟨fun i H => (k.at H xs ∧ l.at H ys) ∧ i < min xs.length ys.length, fun i H v H' => ∃ T x y, v = .ref T ∧ H T = none ∧ H' = upd H T (.tup [x, y]) ∧ xs[i]? = some x ∧ ys[i]? = some y, fun i H => (k.at H xs ∧ l.at H ys) ∧ i = min xs.length ys.length⟩
def ItZ3 (k l m : Sk) (xs ys zs : List V) : It :=
  ⟨fun i H => (k.at H xs ∧ l.at H ys ∧ m.at H zs) ∧ i < min (min xs.length ys.length) zs.length, fun i H v H' => ∃ T x y z, v = .ref T ∧ H T = none ∧ H' = upd H T (.tup [x, y, z]) ∧ xs[i]? = some x ∧ ys[i]? = some y ∧ zs[i]? = some z,
    fun i H => (k.at H xs ∧ l.at H ys ∧ m.at H zs) ∧ i = min (min xs.length ys.length) zs.length⟩
theorem off_fp {H : Hp} {fp : List Addr} {it b : Addr} (h : ∀ b ∈ fp, b = it ∨ ∃ o, H b = some o) (hb : H b = none) (hne : b ≠ it) : b ∉ fp := fun m => by
  rcases h b m with e | ⟨o, e⟩
  · exact hne e
  · rw [hb] at e
    cases e
section
variable {P : Program} {w : World} {K : PySem.W.Frag} {elts : List Expr} {kk : Nat} {tpos : Pos}
theorem turn_enumS (k : Sk) (t : Tok) (xs : List V) (e it : Addr) :
    Turn P w K (.Tuple elts kk tpos) (ItE k xs) [e, it] e (fun i h => (∃ old, IsEnum h e it (0 + ((i : Nat) : Int)) old) ∧ k.tn t it i h ∧ e ≠ it) := by
  refine turn_newT (wr := [e, it]) (by simp) (fun i h st b hb => ?_) (fun i h h' st hk => ?_) (fun A i s Q E st h => ?_) (fun b hb => hb) (fun X hP hw hK hc i pins s σ H I hf st hg => ?_)
  · have e' : b = e ∨ b = it := by simpa using hb
    obtain ⟨⟨old, he⟩, st2, _⟩ := st
    rcases e' with z | z
    · rw [z]; exact ⟨_, he, fun v q => nomatch q⟩
    · rw [z]; exact Sk.tn_obj st2
  · obtain ⟨⟨old, he⟩, st2, hne⟩ := st
    exact ⟨⟨old, hk e (by simp) _ he⟩, Sk.tn_keep st2 fun o q => hk it (by simp) o q, hne⟩
  · obtain ⟨⟨old, he⟩, _⟩ := st
    exact wpAny_pyIter_enum he h
  · obtain ⟨⟨old, he⟩, st2, hne⟩ := st
    have hat : k.at H xs := hg.elim (·.1) (·.1)
    have hn1 := (hf e (by simp)).1
    have hn2 := (hf it (by simp)).1
    obtain ⟨fp, St, P', D, d1, d2, d3, d4, d5⟩ := Sk.draws I hat t (P := P) (w := w) (A := X.A.in1) (show X.A.in1.handled = none from I.ok.hd hc) hn2
    refine ⟨_, _, _, _, GoesN.enumFrom 0 D e hne (off_fp d4 hn1 hne) d3, ⟨⟨old, he⟩, d1 i st2⟩, fun g => g.2, fun g => g.2, fun h' st' => ⟨st'.1, d2 _ _ st'.2, hne⟩, fun v h' y => ?_⟩
    obtain ⟨T, tt, x, rfl, hT, hx, hI⟩ := y
    obtain ⟨y, e1, ry⟩ := d5 i x hx
    have e0 : ((0 : Int) + (i : Nat)) = (i : Nat) := Int.zero_add _
    rw [e0] at hI
    exact ⟨T, [.int (i : Nat), y], [.int (i : Nat) tt, x], rfl, hT, hI, .cons ⟨_, rfl⟩ (.cons ry .nil), by simp, T, y, rfl, I.hok.fresh hT, rfl, e1⟩
theorem turn_zipS (k l : Sk) (t u : Tok) (xs ys : List V) (z TI TO i1 i2 : Addr) (nd : [z, TI, TO, i1, i2].Nodup) :
    Turn P w K (.Tuple elts kk tpos) (ItZ k l xs ys) [z, TI, TO, i1, i2] z (fun i h => IsZip h z TI TO .none ∧ IsTupOf2 h TI (.ref i1) (.ref i2) ∧ (∃ a1 a2, IsTupOf2 h TO a1 a2) ∧ k.tn t i1 i h ∧ l.tn u i2 i h) := by
  refine turn_newT (wr := [z, TO, i1, i2]) (by simp) (fun i h st b hb => ?_) (fun i h h' st hk => ?_) (fun A i s Q E st h => ?_) (fun b hb => ?_) (fun X hP hw hK hc i pins s σ H I hf st hg => ?_)
  · obtain ⟨s1, s2, ⟨a1, a2, s3⟩, s4, s5⟩ := st
    have e' : b = z ∨ b = TI ∨ b = TO ∨ b = i1 ∨ b = i2 := by simpa using hb
    rcases e' with q | q | q | q | q
    · rw [q]; exact ⟨_, s1, fun v q => nomatch q⟩
    · rw [q]; exact ⟨_, s2, fun v q => nomatch q⟩
    · rw [q]; exact ⟨_, s3, fun v q => nomatch q⟩
    · rw [q]; exact Sk.tn_obj s4
    · rw [q]; exact Sk.tn_obj s5
  · obtain ⟨s1, s2, ⟨a1, a2, s3⟩, s4, s5⟩ := st
    exact ⟨hk z (by simp) _ s1, hk TI (by simp) _ s2, ⟨a1, a2, hk TO (by simp) _ s3⟩, Sk.tn_keep s4 fun o q => hk i1 (by simp) o q, Sk.tn_keep s5 fun o q => hk i2 (by simp) o q⟩
  · exact wpAny_pyIter_zip st.1 h
  · have e' : b = z ∨ b = TO ∨ b = i1 ∨ b = i2 := by simpa using hb
    rcases e' with q | q | q | q <;> rw [q] <;> simp
  · obtain ⟨s1, s2, s3, s4, s5⟩ := st
    have hat : k.at H xs ∧ l.at H ys := hg.elim (·.1) (·.1)
    have nz := (hf z (by simp)).1
    have nTO := (hf TO (by simp)).1
    have n1 := (hf i1 (by simp)).1
    have n2 := (hf i2 (by simp)).1
    obtain ⟨fp1, St1, P1, D1, d1, d2, d3, d4, d5⟩ := Sk.draws I hat.1 t (P := P) (w := w) (A := X.A.in1) (show X.A.in1.handled = none from I.ok.hd hc) n1
    obtain ⟨fp2, St2, P2, D2, f1, f2, f3, f4, f5⟩ := Sk.draws I hat.2 u (P := P) (w := w) (A := X.A.in1) (show X.A.in1.handled = none from I.ok.hd hc) n2
    have nd' := nd
    simp only [List.nodup_cons, List.mem_cons, List.mem_nil_iff, not_or, or_false, not_false_eq_true, List.nodup_nil, and_true] at nd'
    obtain ⟨⟨a1, a2, a3, a4⟩, ⟨b1, b2, b3⟩, ⟨c1, c2⟩, e1⟩ := nd'
    have S : ZipSep2 z TI TO i1 i2 fp1 fp2 := { TIz := Ne.symm a1, TOz := Ne.symm a2, TITO := b1, TIi1 := b2, mem1 := d3, zf1 := off_fp d4 nz a3, Tf1 := off_fp d4 nTO c1, TIi2 := b3, mem2 := f3, zf2 := off_fp f4 nz a4, Tf2 := off_fp f4 nTO c2, sep1_2 := off_fp f4 n1 e1, sep2_1 := off_fp d4 n2 (Ne.symm e1) }
    refine ⟨_, _, _, _, GoesN.zip2 S D1 D2, ⟨s1, s2, s3, d1 i s4, f1 i s5⟩, fun g => g.2, fun g => g.2, fun h' st' => ⟨st'.1, st'.2.1, st'.2.2.1, d2 _ _ st'.2.2.2.1, f2 _ _ st'.2.2.2.2⟩, fun v h' y => ?_⟩
    obtain ⟨T, x, y, rfl, hT, hx, hy, hI⟩ := y
    obtain ⟨x', g1, rx⟩ := d5 i x hx
    obtain ⟨y', g2, ry⟩ := f5 i y hy
    exact ⟨T, [x', y'], [x, y], rfl, hT, hI, .cons rx (.cons ry .nil), by simp, T, x', y', rfl, I.hok.fresh hT, rfl, g1, g2⟩
theorem turn_zip3S (k l m : Sk) (t u q : Tok) (xs ys zs : List V) (z TI TO i1 i2 i3 : Addr) (nd : [z, TI, TO, i1, i2, i3].Nodup) :
    Turn P w K (.Tuple elts kk tpos) (ItZ3 k l m xs ys zs) [z, TI, TO, i1, i2, i3] z (fun i h => IsZip h z TI TO .none ∧ IsTupOf3 h TI (.ref i1) (.ref i2) (.ref i3) ∧ (∃ a1 a2 a3, IsTupOf3 h TO a1 a2 a3) ∧ k.tn t i1 i h ∧ l.tn u i2 i h ∧ m.tn q i3 i h) := by
  refine turn_newT (wr := [z, TO, i1, i2, i3]) (by simp) (fun i h st b hb => ?_) (fun i h h' st hk => ?_) (fun A i s Q E st h => ?_) (fun b hb => ?_) (fun X hP hw hK hc i pins s σ H I hf st hg => ?_)
  · obtain ⟨s1, s2, ⟨a1, a2, a3, s3⟩, s4, s5, s6⟩ := st
    have e' : b = z ∨ b = TI ∨ b = TO ∨ b = i1 ∨ b = i2 ∨ b = i3 := by simpa using hb
    rcases e' with q | q | q | q | q | q
    · rw [q]; exact ⟨_, s1, fun v q => nomatch q⟩
    · rw [q]; exact ⟨_, s2, fun v q => nomatch q⟩
    · rw [q]; exact ⟨_, s3, fun v q => nomatch q⟩
    · rw [q]; exact Sk.tn_obj s4
    · rw [q]; exact Sk.tn_obj s5
    · rw [q]; exact Sk.tn_obj s6
  · obtain ⟨s1, s2, ⟨a1, a2, a3, s3⟩, s4, s5, s6⟩ := st
    exact ⟨hk z (by simp) _ s1, hk TI (by simp) _ s2, ⟨a1, a2, a3, hk TO (by simp) _ s3⟩, Sk.tn_keep s4 fun o q => hk i1 (by simp) o q, Sk.tn_keep s5 fun o q => hk i2 (by simp) o q, Sk.tn_keep s6 fun o q => hk i3 (by simp) o q⟩
  · exact wpAny_pyIter_zip st.1 h
  · have e' : b = z ∨ b = TO ∨ b = i1 ∨ b = i2 ∨ b = i3 := by simpa using hb
    rcases e' with q | q | q | q | q <;> rw [q] <;> simp
  · obtain ⟨s1, s2, s3, s4, s5, s6⟩ := st
    have hat : k.at H xs ∧ l.at H ys ∧ m.at H zs := hg.elim (·.1) (·.1)
    have nz := (hf z (by simp)).1
    have nTO := (hf TO (by simp)).1
    have n1 := (hf i1 (by simp)).1
    have n2 := (hf i2 (by simp)).1
    have n3 := (hf i3 (by simp)).1
    obtain ⟨fp1, St1, P1, D1, d1, d2, d3, d4, d5⟩ := Sk.draws I hat.1 t (P := P) (w := w) (A := X.A.in1) (show X.A.in1.handled = none from I.ok.hd hc) n1
    obtain ⟨fp2, St2, P2, D2, f1, f2, f3, f4, f5⟩ := Sk.draws I hat.2.1 u (P := P) (w := w) (A := X.A.in1) (show X.A.in1.handled = none from I.ok.hd hc) n2
    obtain ⟨fp3, St3, P3, D3, h1, h2, h3, h4, h5⟩ := Sk.draws I hat.2.2 q (P := P) (w := w) (A := X.A.in1) (show X.A.in1.handled = none from I.ok.hd hc) n3
    have nd' := nd
    simp only [List.nodup_cons, List.mem_cons, List.mem_nil_iff, not_or, or_false, not_false_eq_true, List.nodup_nil, and_true] at nd'
    obtain ⟨⟨a1, a2, a3, a4, a5⟩, ⟨b1, b2, b3, b4⟩, ⟨c1, c2, c3⟩, ⟨e1, e2⟩, g0⟩ := nd'
    have S : ZipSep3 z TI TO i1 i2 i3 fp1 fp2 fp3 := { TIz := Ne.symm a1, TOz := Ne.symm a2, TITO := b1, TIi1 := b2, mem1 := d3, zf1 := off_fp d4 nz a3, Tf1 := off_fp d4 nTO c1, TIi2 := b3, mem2 := f3, zf2 := off_fp f4 nz a4, Tf2 := off_fp f4 nTO c2, TIi3 := b4, mem3 := h3, zf3 := off_fp h4 nz a5, Tf3 := off_fp h4 nTO c3, sep1_2 := off_fp f4 n1 e1, sep1_3 := off_fp h4 n1 e2, sep2_1 := off_fp d4 n2 (Ne.symm e1), sep2_3 := off_fp h4 n2 g0, sep3_1 := off_fp d4 n3 (Ne.symm e2), sep3_2 := off_fp f4 n3 (Ne.symm g0) }
    refine ⟨_, _, _, _, GoesN.zip3 S D1 D2 D3, ⟨s1, s2, s3, d1 i s4, f1 i s5, h1 i s6⟩, fun g => g.2, fun g => g.2, fun h' st' => ⟨st'.1, st'.2.1, st'.2.2.1, d2 _ _ st'.2.2.2.1, f2 _ _ st'.2.2.2.2.1, h2 _ _ st'.2.2.2.2.2⟩, fun v h' y => ?_⟩
    obtain ⟨T, x, y, u, rfl, hT, hx, hy, hu, hI⟩ := y
    obtain ⟨x', g1, rx⟩ := d5 i x hx
    obtain ⟨y', g2, ry⟩ := f5 i y hy
    obtain ⟨u', g3, ru⟩ := h5 i u hu
    exact ⟨T, [x', y', u'], [x, y, u], rfl, hT, hI, .cons rx (.cons ry (.cons ru .nil)), by simp, T, x', y', u', rfl, I.hok.fresh hT, rfl, g1, g2, g3⟩
end
theorem nodup_off (N : Nat) (l : List Nat) (h : l.Nodup) : (l.map fun i => (N + i : Addr)).Nodup := by
  exact List.pairwise_map.mpr (h.imp fun ne e => ne (Nat.add_left_cancel e))
section
variable {X : Cx}
def iEnumS (te : TA) : TI := fun σ H R => te σ H fun vs H1 => ∃ k xs, vs = [Sk.v k] ∧ k.at H1 xs ∧ R (ItE k xs) H1
theorem pi_enumS {e : Expr} {ta : TA} {p pos tpos : Pos} {elts : List Expr} {kk : Nat} (hg : Gl X "enumerate") (hm : X.mg "enumerate" = none) (ha : PA X [e] ta) (hs : starEach [e] X.env = [(false, eval e X.env)] := by rfl) :
    PI X (.Tuple elts kk tpos) (.Call (.Name "enumerate" p) [e] [] pos) (iEnumS ta) := by
  refine ⟨fun pins s σ H R I h => ?_⟩
  refine Call_ (ld_blt I hg hm boot_enumerate (PyProof.Rows.callWith_type1 (thn (ha.run pos pins s σ H _ I h) fun us s1 ⟨vs, H1, I1, r1, q1⟩ => ?_) hs rfl))
  obtain ⟨k, xs, ex, hq, q⟩ := q1
  subst ex
  cases r1 with
  | cons r rr =>
    cases rr
    obtain ⟨t, rfl⟩ := Sk.rel r
    obtain ⟨Hh, B, hH⟩ := Sk.begins I1 hq t
    refine enum_begins1 B hH fun h' he hit hsz hk => wpAny_pyIter_enum he ?_
    have I2 : Inv X pins σ H1 { s1 with heap := h' } := I1.kept (t' := s1.toks) hk
    refine ⟨s1.heap.objs.size + 1, [s1.heap.objs.size + 1, s1.heap.objs.size], _, _, H1, rfl, I2, turn_enumS k t xs (s1.heap.objs.size + 1) s1.heap.objs.size, ⟨⟨.none, he⟩, Sk.tn0 hit, Nat.succ_ne_self _⟩, fun b hb => ?_, q⟩
    have e' : b = s1.heap.objs.size + 1 ∨ b = s1.heap.objs.size := by simpa using hb
    have hle : s1.heap.objs.size ≤ b := by
      rcases e' with z | z
      · rw [z]; exact Nat.le_add_right _ _
      · rw [z]; exact Nat.le_refl _
    exact I1.fpOk hle (I1.hok.fresh hle)
def iZipS (ta : TA) : TI := fun σ H R => ta σ H fun vs H1 => ∃ k l xs ys, vs = [Sk.v k, Sk.v l] ∧ k.at H1 xs ∧ l.at H1 ys ∧ R (ItZ k l xs ys) H1
theorem pi_zipS {e e2 : Expr} {ta : TA} {p pos tpos : Pos} {elts : List Expr} {kk : Nat} (hg : Gl X "zip") (hm : X.mg "zip" = none) (ha : PA X [e, e2] ta)
    (hs : starEach [e, e2] X.env = (false, eval e X.env) :: starEach [e2] X.env := by rfl) (hpl : (backTo pos (starEach [e2] X.env)).any (·.1) = false := by rfl) :
    PI X (.Tuple elts kk tpos) (.Call (.Name "zip" p) [e, e2] [] pos) (iZipS ta) := by
  refine ⟨fun pins s σ H R I h => ?_⟩
  refine Call_ (ld_blt I hg hm boot_zip (PyProof.Rows.callWith_type1 (thn (ha.run pos pins s σ H _ I h) fun us s1 ⟨vs, H1, I1, r1, q1⟩ => ?_) hs hpl))
  obtain ⟨k, l, xs, ys, ex, hq, hq2, q⟩ := q1
  subst ex
  cases r1 with
  | cons r rr =>
    cases rr with
    | cons r2 rr =>
      cases rr
      obtain ⟨t, rfl⟩ := Sk.rel r
      obtain ⟨t2, rfl⟩ := Sk.rel r2
      obtain ⟨H1', B1, h1⟩ := Sk.begins I1 hq t
      obtain ⟨H2', B2, h2⟩ := Sk.begins I1 hq2 t2
      refine zip_begins2 B1 B2 h1 h2 fun h' hz hTI hTO g1 g2 hsz hk => wpAny_pyIter_zip hz ?_
      have I2 : Inv X pins σ H1 { s1 with heap := h' } := I1.kept (t' := s1.toks) hk
      have nd := nodup_off s1.heap.objs.size [4, 2, 3, 0, 1] (by decide)
      refine ⟨s1.heap.objs.size + 4, [s1.heap.objs.size + 4, s1.heap.objs.size + 2, s1.heap.objs.size + 3, s1.heap.objs.size, s1.heap.objs.size + 1], _, _, H1, rfl, I2, turn_zipS k l t t2 xs ys _ _ _ _ _ nd, ⟨hz, hTI, ⟨_, _, hTO⟩, Sk.tn0 g1, Sk.tn0 g2⟩, fun b hb => ?_, q⟩
      have hle : s1.heap.objs.size ≤ b := by
        have e' : b = s1.heap.objs.size + 4 ∨ b = s1.heap.objs.size + 2 ∨ b = s1.heap.objs.size + 3 ∨ b = s1.heap.objs.size ∨ b = s1.heap.objs.size + 1 := by simpa using hb
        rcases e' with z | z | z | z | z <;> rw [z] <;> first | exact Nat.le_add_right _ _ | exact Nat.le_refl _
      exact I1.fpOk hle (I1.hok.fresh hle)
def iZip3S (ta : TA) : TI := fun σ H R => ta σ H fun vs H1 => ∃ k l m xs ys zs, vs = [Sk.v k, Sk.v l, Sk.v m] ∧ k.at H1 xs ∧ l.at H1 ys ∧ m.at H1 zs ∧ R (ItZ3 k l m xs ys zs) H1
theorem pi_zip3S {e e2 e3 : Expr} {ta : TA} {p pos tpos : Pos} {elts : List Expr} {kk : Nat} (hg : Gl X "zip") (hm : X.mg "zip" = none) (ha : PA X [e, e2, e3] ta)
    (hs : starEach [e, e2, e3] X.env = (false, eval e X.env) :: starEach [e2, e3] X.env := by rfl) (hpl : (backTo pos (starEach [e2, e3] X.env)).any (·.1) = false := by rfl) :
    PI X (.Tuple elts kk tpos) (.Call (.Name "zip" p) [e, e2, e3] [] pos) (iZip3S ta) := by
  refine ⟨fun pins s σ H R I h => ?_⟩
  refine Call_ (ld_blt I hg hm boot_zip (PyProof.Rows.callWith_type1 (thn (ha.run pos pins s σ H _ I h) fun us s1 ⟨vs, H1, I1, r1, q1⟩ => ?_) hs hpl))
  obtain ⟨k, l, m, xs, ys, zs, ex, hq, hq2, hq3, q⟩ := q1
  subst ex
  cases r1 with
  | cons r rr =>
    cases rr with
    | cons r2 rr =>
      cases rr with
      | cons r3 rr =>
        cases rr
        obtain ⟨t, rfl⟩ := Sk.rel r
        obtain ⟨t2, rfl⟩ := Sk.rel r2
        obtain ⟨t3, rfl⟩ := Sk.rel r3
        obtain ⟨H1', B1, h1⟩ := Sk.begins I1 hq t
        obtain ⟨H2', B2, h2⟩ := Sk.begins I1 hq2 t2
        obtain ⟨H3', B3, h3⟩ := Sk.begins I1 hq3 t3
        refine zip_begins3 B1 B2 B3 h1 h2 h3 fun h' hz hTI hTO g1 g2 g3 hsz hk => wpAny_pyIter_zip hz ?_
        have I2 : Inv X pins σ H1 { s1 with heap := h' } := I1.kept (t' := s1.toks) hk
        have nd := nodup_off s1.heap.objs.size [5, 3, 4, 0, 1, 2] (by decide)
        refine ⟨s1.heap.objs.size + 5, [s1.heap.objs.size + 5, s1.heap.objs.size + 3, s1.heap.objs.size + 4, s1.heap.objs.size, s1.heap.objs.size + 1, s1.heap.objs.size + 2], _, _, H1, rfl, I2, turn_zip3S k l m t t2 t3 xs ys zs _ _ _ _ _ _ nd, ⟨hz, hTI, ⟨_, _, _, hTO⟩, Sk.tn0 g1, Sk.tn0 g2, Sk.tn0 g3⟩, fun b hb => ?_, q⟩
        have hle : s1.heap.objs.size ≤ b := by
          have e' : b = s1.heap.objs.size + 5 ∨ b = s1.heap.objs.size + 3 ∨ b = s1.heap.objs.size + 4 ∨ b = s1.heap.objs.size ∨ b = s1.heap.objs.size + 1 ∨ b = s1.heap.objs.size + 2 := by simpa using hb
          rcases e' with z | z | z | z | z | z <;> rw [z] <;> first | exact Nat.le_add_right _ _ | exact Nat.le_refl _
        exact I1.fpOk hle (I1.hok.fresh hle)
def iAny (K : PySem.W.Frag) (te : TE) : TI := fun σ H R => te σ H fun v H1 => (∃ a, v = .ref a ∧ (∃ xs, SqL K H1 a xs) ∧ R (Itl K a) H1) ∨ (∃ a, v = .ref a ∧ (∃ xs, SqT K H1 a xs) ∧ R (Itt K a) H1) ∨ ∃ x, v = .str x ∧ R (Its x) H1
theorem pi_any {tg e : Expr} {te : TE} (he : PE X e te) : PI X tg e (iAny X.K te) := by
  refine ⟨fun pins s σ H R I h => ?_⟩
  refine thn (he.run pins s σ H _ I h) fun v s1 ⟨x, H1, I1, r1, q1⟩ => ?_
  rcases q1 with ⟨a, e, ⟨xs, hq⟩, q⟩ | ⟨a, e, ⟨xs, hq⟩, q⟩ | ⟨x, ex, q⟩
  · subst e
    cases r1
    obtain ⟨its, rv, p, hz⟩ := I1.list hq
    refine wpAny_pyIter_list p.isList ?_
    refine ⟨s1.heap.objs.size, [s1.heap.objs.size], _, _, H1, rfl, I1.kept (t' := s1.toks) fun b o e => Heap.get?_push_of_some _ e, turn_list a _, ⟨_, Heap.get?_push_size _ rfl, rfl, rfl⟩, fun b hb => ?_, q⟩
    have e : b = s1.heap.objs.size := by simpa using hb
    subst e
    exact I1.fpOk (Nat.le_refl _) (I1.hok.fresh (Nat.le_refl _))
  · subst e
    cases r1
    obtain ⟨its, rv, p, hz⟩ := I1.tuple hq
    refine wpAny_pyIter_tuple (show s1.heap.IsTuple a its.toArray from p) ?_
    refine ⟨s1.heap.objs.size, [s1.heap.objs.size], _, _, H1, rfl, I1.kept (t' := s1.toks) fun b o e => Heap.get?_push_of_some _ e, turn_tuple a _, ⟨_, Heap.get?_push_size _ rfl, rfl, rfl⟩, fun b hb => ?_, q⟩
    have e : b = s1.heap.objs.size := by simpa using hb
    subst e
    exact I1.fpOk (Nat.le_refl _) (I1.hok.fresh (Nat.le_refl _))
  · subst ex
    obtain ⟨t, rfl⟩ := r1
    cases ha : x.cps.all (· < 128)
    · exact wpAny_pyIter_wide ha (pi_one (tk := s1.toks) I1 _ (turn_str _ x t "str_iterator" (.inr rfl)) ⟨_, Heap.get?_push_size _ rfl, rfl, rfl⟩ q)
    · exact wpAny_pyIter_ascii ha (pi_one (tk := s1.toks) I1 _ (turn_str _ x t "str_ascii_iterator" (.inl rfl)) ⟨_, Heap.get?_push_size _ rfl, rfl, rfl⟩ q)
end
end L2
namespace Pd
variable {ℓ : Bool}
open PySem L2
def srcD : D → Option (List D)
  | .lst xs => some xs
  | .tup xs => some xs
  | .str l => some (sgn l)
  | _ => none
theorem den_src {K : PySem.W.Frag} {g : Gh} {v : V} {d : D} {xs : List D} (h : Den K g v d) (e : srcD d = some xs) : ∃ (k : Sk) (vs : List V), v = k.v ∧ (∀ H, Same g.G H → k.at H vs) ∧ Dens K g vs xs := by
  cases h with
  | lst h1 h2 =>
    cases e
    exact ⟨.lst _, _, rfl, fun H s => s _ _ h1, h2⟩
  | tup h1 h2 =>
    cases e
    exact ⟨.tup _, _, rfl, fun H s => h1.same s, h2⟩
  | str l =>
    cases e
    exact ⟨.str ⟨l.toArray⟩, _, rfl, fun H s => rfl, dens_sgn l⟩
  | _ => cases e
def iVal (d : DE) : DI := fun n ε P => d n ε fun n1 x => ∃ xs, srcD x = some xs ∧ P n1 xs
def rngD (lo : Int) (n : Nat) : List D := (List.range n).map fun i => D.int (lo + (i : Nat))
def iRg1 (d : DE) : DI := fun n ε P => d n ε fun n1 x => match x with
  | .int j => -(2 ^ 62) ≤ j ∧ j < 2 ^ 62 ∧ P n1 (rngD 0 j.toNat)
  | _ => False
def enumD (xs : List D) : List D := xs.zipIdx.map fun p => .tup [.int (p.2 : Nat), p.1]
def zipD (xs ys : List D) : List D := List.zipWith (fun x y => .tup [x, y]) xs ys
def zip3D (xs ys zs : List D) : List D := List.zipWith (fun f z => f z) (List.zipWith (fun x y z => D.tup [x, y, z]) xs ys) zs
def iEnm (d : DE) : DI := fun n ε P => d n ε fun n1 x => ∃ xs, srcD x = some xs ∧ P n1 (enumD xs)
def iZp (d e : DE) : DI := fun n ε P => d n ε fun n1 x => e n1 ε fun n2 y => ∃ xs ys, srcD x = some xs ∧ srcD y = some ys ∧ P n2 (zipD xs ys)
def iZp3 (d e f : DE) : DI := fun n ε P => d n ε fun n1 x => e n1 ε fun n2 y => f n2 ε fun n3 z => ∃ xs ys zs, srcD x = some xs ∧ srcD y = some ys ∧ srcD z = some zs ∧ P n3 (zip3D xs ys zs)
theorem enumD_length (xs : List D) : (enumD xs).length = xs.length := by simp [enumD]
theorem zipD_length (xs ys : List D) : (zipD xs ys).length = min xs.length ys.length := by simp [zipD]
theorem zip3D_length (xs ys zs : List D) : (zip3D xs ys zs).length = min (min xs.length ys.length) zs.length := by simp [zip3D]
theorem enumD_get {xs : List D} {i : Nat} {d : D} (h : xs[i]? = some d) : (enumD xs)[i]? = some (.tup [.int (i : Nat), d]) := by
  unfold enumD
  rw [List.getElem?_map, List.getElem?_zipIdx, h]
  simp
theorem zipD_get {xs ys : List D} {i : Nat} {d e : D} (h : xs[i]? = some d) (h' : ys[i]? = some e) : (zipD xs ys)[i]? = some (.tup [d, e]) := by
  unfold zipD
  rw [List.getElem?_zipWith, h, h']
theorem zip3D_get {xs ys zs : List D} {i : Nat} {d e f : D} (h : xs[i]? = some d) (h' : ys[i]? = some e) (h2 : zs[i]? = some f) : (zip3D xs ys zs)[i]? = some (.tup [d, e, f]) := by
  unfold zip3D
  rw [List.getElem?_zipWith, List.getElem?_zipWith, h, h', h2]
section
variable {K : PySem.W.Frag} {g : Gh}
theorem walk_flat {J : It} {xs : List D} (go : ∀ i H, i < xs.length → Same g.G H → J.go i H) (stop : ∀ H, Same g.G H → J.stop xs.length H) (yld : ∀ i x H H', i < xs.length → Same g.G H → J.yld i H x H' → H' = H ∧ ∃ d, xs[i]? = some d ∧ Den K g x d) : WalkD ℓ K g J xs :=
  ⟨go, stop, fun i x H H' g1 n hi ex ok y => by
    obtain ⟨rfl, d, e, dd⟩ := yld i x H H' hi (ex.G.trans ok.sub) y
    exact ⟨g1, d, e, Stp.refl _ _, ok, dd.mono ex⟩⟩
theorem walk_list {a : Addr} {vs : List V} {xs : List D} (h : g.G a = some (.lst vs)) (dd : Dens K g vs xs) : WalkD ℓ K g (Itl K a) xs :=
  walk_flat (fun i H hi sm => ⟨vs, vs[i]'(by rw [dd.length]; exact hi), SqL.of (sm _ _ h), List.getElem?_eq_getElem _⟩) (fun H sm => ⟨vs, SqL.of (sm _ _ h), by rw [dd.length]; exact Nat.le_refl _⟩) fun i x H H' hi sm y => ⟨y.1, dd.getV (y.2 vs (SqL.of (sm _ _ h)))⟩
theorem walk_tup {a : Addr} {vs : List V} {xs : List D} (h : Rd g.G a (.tup vs)) (dd : Dens K g vs xs) : WalkD ℓ K g (Itt K a) xs :=
  walk_flat (fun i H hi sm => ⟨vs, vs[i]'(by rw [dd.length]; exact hi), Or.inl (h.same sm), List.getElem?_eq_getElem _⟩) (fun H sm => ⟨vs, Or.inl (h.same sm), by rw [dd.length]; exact Nat.le_refl _⟩) fun i x H H' hi sm y => ⟨y.1, dd.getV (y.2 vs (Or.inl (h.same sm)))⟩
theorem sgn_length (l : List Nat) : (sgn l).length = l.length := by simp [sgn]
theorem walk_str (l : List Nat) : WalkD ℓ K g (Its ⟨l.toArray⟩) (sgn l) :=
  walk_flat (fun i H hi sm => by
    show i < l.toArray.size
    rw [List.size_toArray, ← sgn_length l]
    exact hi) (fun H sm => by
    show l.toArray.size ≤ _
    rw [List.size_toArray, sgn_length]
    exact Nat.le_refl _) fun i x H H' hi sm y => by
    obtain ⟨e, c, e1, rfl⟩ := y
    have e2 : l[i]? = some c := by simpa using e1
    refine ⟨e, .str [c], ?_, .str [c]⟩
    unfold sgn
    rw [List.getElem?_map, e2]
    rfl
theorem rngD_length (lo : Int) (n : Nat) : (rngD lo n).length = n := by simp [rngD]
theorem walk_rng (lo : Int) (n : Nat) : WalkD ℓ K g (Itr lo n) (rngD lo n) :=
  walk_flat (fun i H hi sm => by
    rw [rngD_length] at hi
    exact hi) (fun H sm => by
    show n ≤ _
    rw [rngD_length]
    exact Nat.le_refl _) fun i x H H' hi sm y => by
    obtain ⟨e, rfl⟩ := y
    rw [rngD_length] at hi
    refine ⟨e, .int (lo + i), ?_, .int _⟩
    unfold rngD
    rw [List.getElem?_map, List.getElem?_range hi]
    rfl
theorem walk_tupN {J : It} {xs : List D} (go : ∀ i H, i < xs.length → Same g.G H → J.go i H) (stop : ∀ H, Same g.G H → J.stop xs.length H)
    (yld : ∀ i x H H', i < xs.length → Same g.G H → J.yld i H x H' → ∃ T vs ds, x = .ref T ∧ H T = none ∧ H' = upd H T (.tup vs) ∧ Dens K g vs ds ∧ xs[i]? = some (.tup ds)) : WalkD ℓ K g J xs :=
  ⟨go, stop, fun i x H H' g1 n hi ex ok y => by
    obtain ⟨T, vs, ds, rfl, hT, rfl, dd, e⟩ := yld i x H H' hi (ex.G.trans ok.sub) y
    exact ⟨g1.add T (.tup vs), _, e, Stp.add ok hT, ok.add hT, .tup (.inl Gh.at) (dd.mono (ex.trans (Stp.add ok hT).ext))⟩⟩
theorem walk_enum {k : Sk} {vs : List V} {xs : List D} (h : ∀ H, Same g.G H → k.at H vs) (dd : Dens K g vs xs) : WalkD ℓ K g (ItE k vs) (enumD xs) := by
  have hl := dd.length
  refine walk_tupN (fun i H hi sm => ⟨h H sm, by rw [enumD_length] at hi; omega⟩) (fun H sm => ⟨h H sm, by rw [enumD_length]; omega⟩) fun i x H H' hi sm y => ?_
  obtain ⟨T, u, rfl, hT, rfl, e⟩ := y
  obtain ⟨d, e1, dv⟩ := dd.getV e
  exact ⟨T, _, _, rfl, hT, rfl, .cons (.int _) (.cons dv .nil), enumD_get e1⟩
theorem walk_zip {k l : Sk} {vs ws : List V} {xs ys : List D} (h : ∀ H, Same g.G H → k.at H vs) (dd : Dens K g vs xs) (h' : ∀ H, Same g.G H → l.at H ws) (dd' : Dens K g ws ys) : WalkD ℓ K g (ItZ k l vs ws) (zipD xs ys) := by
  have hl := dd.length
  have hl' := dd'.length
  refine walk_tupN (fun i H hi sm => ⟨⟨h H sm, h' H sm⟩, by rw [zipD_length] at hi; rw [hl, hl']; exact hi⟩) (fun H sm => ⟨⟨h H sm, h' H sm⟩, by rw [zipD_length, hl, hl']⟩) fun i x H H' hi sm y => ?_
  obtain ⟨T, u, v, rfl, hT, rfl, e, e'⟩ := y
  obtain ⟨d, e1, dv⟩ := dd.getV e
  obtain ⟨d', e1', dv'⟩ := dd'.getV e'
  exact ⟨T, _, _, rfl, hT, rfl, .cons dv (.cons dv' .nil), zipD_get e1 e1'⟩
theorem walk_zip3 {k l m : Sk} {vs ws us : List V} {xs ys zs : List D} (h : ∀ H, Same g.G H → k.at H vs) (dd : Dens K g vs xs) (h' : ∀ H, Same g.G H → l.at H ws) (dd' : Dens K g ws ys) (h2 : ∀ H, Same g.G H → m.at H us) (dd2 : Dens K g us zs) : WalkD ℓ K g (ItZ3 k l m vs ws us) (zip3D xs ys zs) := by
  have hl := dd.length
  have hl' := dd'.length
  have hl2 := dd2.length
  refine walk_tupN (fun i H hi sm => ⟨⟨h H sm, h' H sm, h2 H sm⟩, by rw [zip3D_length] at hi; rw [hl, hl', hl2]; exact hi⟩) (fun H sm => ⟨⟨h H sm, h' H sm, h2 H sm⟩, by rw [zip3D_length, hl, hl', hl2]⟩) fun i x H H' hi sm y => ?_
  obtain ⟨T, u, v, w, rfl, hT, rfl, e, e', e2⟩ := y
  obtain ⟨d, e1, dv⟩ := dd.getV e
  obtain ⟨d', e1', dv'⟩ := dd'.getV e'
  obtain ⟨d2, e12, dv2⟩ := dd2.getV e2
  exact ⟨T, _, _, rfl, hT, rfl, .cons dv (.cons dv' (.cons dv2 .nil)), zip3D_get e1 e1' e12⟩
end
section
variable {X : Cx} {pos p tpos : Pos} {tg e a b c : Expr} {elts : List Expr} {kk : Nat} {d da db dc : DE}
theorem pi_w {wi wi' : TI} (h : PI X tg e wi) (w : ∀ σ H R, wi' σ H R → wi σ H R) : PI X tg e wi' := ⟨fun pins s σ H R I q => h.run pins s σ H R I (w σ H R q)⟩
theorem di_val (he : PE X e (liftE ℓ X.K d)) : PI X tg e (liftI ℓ X.K (iVal d)) :=
  pi_w (pi_any he) fun σ H R ⟨O, g, n, ε, P, r, q, k⟩ => ⟨O, g, n, ε, _, r, q, fun v g1 H1 n1 x q1 s1 o1 e1 => by
    obtain ⟨xs, e2, q2⟩ := q1
    cases e1 with
    | lst h1 h2 =>
      cases e2
      exact .inl ⟨_, rfl, ⟨_, SqL.of (o1.sub _ _ h1)⟩, k _ g1 H1 n1 _ q2 s1 o1 (walk_list h1 h2)⟩
    | tup h1 h2 =>
      cases e2
      exact .inr (.inl ⟨_, rfl, ⟨_, Or.inl (h1.same o1.sub)⟩, k _ g1 H1 n1 _ q2 s1 o1 (walk_tup h1 h2)⟩)
    | str l =>
      cases e2
      exact .inr (.inr ⟨_, rfl, k _ g1 H1 n1 _ q2 s1 o1 (walk_str l)⟩)
    | _ => cases e2⟩
theorem di_rg1 (hg : Gl X "range") (hm : X.mg "range" = none) (ha : PE X a (liftE ℓ X.K da)) (hs : starEach [a] X.env = [(false, eval a X.env)] := by rfl) : PI X tg (.Call (.Name "range" p) [a] [] pos) (liftI ℓ X.K (iRg1 da)) :=
  pi_w (pi_range1 hg hm (pa_cons ha pa_nil hs) hs) fun σ H R ⟨O, g, n, ε, P, r, q, k⟩ => ⟨O, g, n, ε, _, r, q, fun v g1 H1 n1 x q1 s1 o1 e1 => by
    cases e1 with
    | int j => exact ⟨j, rfl, q1.1, q1.2.1, k _ g1 H1 n1 _ q1.2.2 s1 o1 (walk_rng 0 _)⟩
    | _ => exact q1.elim⟩
theorem di_enum (hg : Gl X "enumerate") (hm : X.mg "enumerate" = none) (ha : PE X a (liftE ℓ X.K da)) (hs : starEach [a] X.env = [(false, eval a X.env)] := by rfl) : PI X (.Tuple elts kk tpos) (.Call (.Name "enumerate" p) [a] [] pos) (liftI ℓ X.K (iEnm da)) :=
  pi_w (pi_enumS hg hm (pa_cons ha pa_nil hs) hs) fun σ H R ⟨O, g, n, ε, P, r, q, k⟩ => ⟨O, g, n, ε, _, r, q, fun v g1 H1 n1 x q1 s1 o1 e1 => by
    obtain ⟨xs, e2, q2⟩ := q1
    obtain ⟨sk, vs, rfl, hat, dd⟩ := den_src e1 e2
    exact ⟨sk, vs, rfl, hat _ o1.sub, k _ g1 H1 n1 _ q2 s1 o1 (walk_enum hat dd)⟩⟩
theorem di_zip (hg : Gl X "zip") (hm : X.mg "zip" = none) (ha : PE X a (liftE ℓ X.K da)) (hb : PE X b (liftE ℓ X.K db)) (hs : starEach [a, b] X.env = (false, eval a X.env) :: starEach [b] X.env := by rfl) (hs2 : starEach [b] X.env = (false, eval b X.env) :: starEach [] X.env := by rfl)
    (hpl : (backTo pos (starEach [b] X.env)).any (·.1) = false := by rfl) : PI X (.Tuple elts kk tpos) (.Call (.Name "zip" p) [a, b] [] pos) (liftI ℓ X.K (iZp da db)) :=
  pi_w (pi_zipS hg hm (pa_cons ha (pa_cons hb pa_nil hs2) hs) hs hpl) fun σ H R ⟨O, g, n, ε, P, r, q, k⟩ => two_ok r q fun x y g' H' n' dx dy q2 s o e1 e2 => by
    obtain ⟨xs, ys, z1, z2, q3⟩ := q2
    obtain ⟨k1, vs, rfl, a1, d1⟩ := den_src e1 z1
    obtain ⟨k2, ws, rfl, a2, d2⟩ := den_src e2 z2
    exact ⟨k1, k2, vs, ws, rfl, a1 _ o.sub, a2 _ o.sub, k _ g' H' n' _ q3 s o (walk_zip a1 d1 a2 d2)⟩
theorem di_zip3 (hg : Gl X "zip") (hm : X.mg "zip" = none) (ha : PE X a (liftE ℓ X.K da)) (hb : PE X b (liftE ℓ X.K db)) (hc : PE X c (liftE ℓ X.K dc)) (hs : starEach [a, b, c] X.env = (false, eval a X.env) :: starEach [b, c] X.env := by rfl)
    (hs2 : starEach [b, c] X.env = (false, eval b X.env) :: starEach [c] X.env := by rfl) (hs3 : starEach [c] X.env = (false, eval c X.env) :: starEach [] X.env := by rfl)
    (hpl : (backTo pos (starEach [b, c] X.env)).any (·.1) = false := by rfl) : PI X (.Tuple elts kk tpos) (.Call (.Name "zip" p) [a, b, c] [] pos) (liftI ℓ X.K (iZp3 da db dc)) :=
  pi_w (pi_zip3S hg hm (pa_cons ha (pa_cons hb (pa_cons hc pa_nil hs3) hs2) hs) hs hpl) fun σ H R ⟨O, g, n, ε, P, r, q, k⟩ => ⟨O, g, n, ε, _, r, q, fun v1 g1 H1 n1 x q1 s1 o1 e1 => ⟨O, g1, n1, ε, _, r.step s1 o1, q1, fun v2 g2 H2 n2 y q2 s2 o2 e2 => ⟨O, g2, n2, ε, _, (r.step s1 o1).step s2 o2, q2, fun v3 g3 H3 n3 z q3 s3 o3 e3 => by
    obtain ⟨xs, ys, zs, z1, z2, z3, q4⟩ := q3
    obtain ⟨k1, vs, rfl, a1, d1⟩ := den_src (e1.mono (s2.trans s3).ext) z1
    obtain ⟨k2, ws, rfl, a2, d2⟩ := den_src (e2.mono s3.ext) z2
    obtain ⟨k3, us, rfl, a3, d3⟩ := den_src e3 z3
    exact ⟨k1, k2, k3, vs, ws, us, rfl, a1 _ o3.sub, a2 _ o3.sub, a3 _ o3.sub, k _ g3 H3 n3 _ q4 ((s1.trans s2).trans s3) o3 (walk_zip3 a1 d1 a2 d2 a3 d3)⟩⟩⟩⟩
theorem chain_ok {K : PySem.W.Frag} {r r' : R2} {go go' : G2} (hs : SOp ℓ K r go) (hs' : SOp ℓ K r' go') : ∀ σ H Q, liftE ℓ K (dChain go go' da db dc) σ H Q → tChain r r' (liftE ℓ K da) (liftE ℓ K db) (liftE ℓ K dc) σ H Q := fun σ H Q ⟨O, g, n, ε, P, rr, q, k⟩ =>
  ⟨O, g, n, ε, _, rr, q, fun v1 g1 H1 n1 x q1 s1 o1 e1 => ⟨O, g1, n1, ε, _, rr.step s1 o1, q1, fun v2 g2 H2 n2 y q2 s2 o2 e2 => hs.ok o2 (e1.mono s2.ext) e2 q2 fun v g3 H3 z q3 s3 o3 e3 => by
    cases e3 with
    | bl b =>
      refine ⟨b, rfl, ?_⟩
      have st := (s1.trans s2).trans s3
      cases b with
      | true =>
        rw [if_pos rfl]
        exact ⟨O, g3, n2, ε, _, rr.step st o3, q3.1 rfl, fun v4 g4 H4 n4 w q4 s4 o4 e4 => hs'.ok o4 (e2.mono (s3.trans s4).ext) e4 q4 (Fin.of k (st.trans s4))⟩
      | false =>
        rw [if_neg (by decide)]
        exact k _ g3 H3 n2 _ (q3.2 rfl) st o3 (.bl false)
    | _ => exact q3.elim⟩⟩
theorem de_chain {op op' : CmpOp} {r r' : R2} {go go' : G2} (ho : OpR X (compareOp op) r) (ho' : OpR X (compareOp op') r') (hs : SOp ℓ X.K r go) (hs' : SOp ℓ X.K r' go') (ha : PE X a (liftE ℓ X.K da)) (hb : PE X b (liftE ℓ X.K db)) (hc : PE X c (liftE ℓ X.K dc))
    (hm : lastMarks [op, op'] [b, c] = false := by with_unfolding_all rfl) : PE X (.Compare a [op, op'] [b, c] pos) (liftE ℓ X.K (dChain go go' da db dc)) := pe_w (pe_chain ho ho' ha hb hc hm) (chain_ok hs hs')
theorem dt_chain {op op' : CmpOp} {r r' : R2} {go go' : G2} (ho : OpR X (compareOp op) r) (ho' : OpR X (compareOp op') r') (hs : SOp ℓ X.K r go) (hs' : SOp ℓ X.K r' go') (ha : PE X a (liftE ℓ X.K da)) (hb : PE X b (liftE ℓ X.K db)) (hc : PE X c (liftE ℓ X.K dc))
    (hm : lastMarks [op, op'] [b, c] = false := by with_unfolding_all rfl) : PT X (.Compare a [op, op'] [b, c] pos) (liftT ℓ X.K (dTB (dChain go go' da db dc))) :=
  pt_w (pt_chain ho ho' ha hb hc hm) fun σ H Q ⟨O, g, n, ε, P, r, q, k⟩ => chain_ok hs hs' _ _ _ ⟨O, g, n, ε, _, r, q, fun v g1 H1 n1 x q1 s1 o1 e1 => by
    cases e1 with
    | bl b => exact ⟨b, rfl, k b g1 H1 n1 q1 s1 o1⟩
    | _ => exact q1.elim⟩
def dNeg (d : DE) : DE := fun n ε P => d n ε fun n1 x => match x with
  | .int i => P n1 (.int (-i))
  | _ => False
theorem de_neg (ha : PE X a (liftE ℓ X.K da)) : PE X (.UnaryOp .USub a pos) (liftE ℓ X.K (dNeg da)) :=
  de_of (pe_un un_neg ha) fun O g H n σ ε P Q r q k => ⟨O, g, n, ε, _, r, q, fun v g1 H1 n1 x q1 s1 o1 e1 => by
    cases e1 with
    | int i => exact ⟨i, rfl, k _ g1 H1 n1 _ q1 s1 o1 (.int _)⟩
    | _ => exact q1.elim⟩
def dStar (d : DE) (t : DA) : DA := fun n ε P => d n ε fun n1 x => match x with
  | .lst xs => t n1 ε fun n2 ys => P n2 (xs ++ ys)
  | .tup xs => t n1 ε fun n2 ys => P n2 (xs ++ ys)
  | _ => False
theorem da_star {es : List Expr} {t : DA} (he : PE X e (liftE ℓ X.K d)) (hr : PA X es (liftA ℓ X.K t)) (hs : starEach (.Starred e p :: es) X.env = (true, eval e X.env) :: starEach es X.env := by rfl) : PA X (.Starred e p :: es) (liftA ℓ X.K (dStar d t)) :=
  pa_w (StX.pa_star he hr hs) fun σ H Q ⟨O, g, n, ε, P, r, q, k⟩ => ⟨O, g, n, ε, _, r, q, fun v g1 H1 n1 x q1 s1 o1 e1 => by
    cases e1 with
    | lst h1 h2 => exact ⟨_, _, rfl, .inr (SqL.of (o1.sub _ _ h1)), O, g1, n1, ε, _, r.step s1 o1, q1, fun vs g2 H2 n2 ds q2 s2 o2 e2 => k _ g2 H2 n2 _ q2 (s1.trans s2) o2 ((h2.mono s2.ext).append e2)⟩
    | tup h1 h2 => exact ⟨_, _, rfl, .inl (Or.inl (h1.same o1.sub)), O, g1, n1, ε, _, r.step s1 o1, q1, fun vs g2 H2 n2 ds q2 s2 o2 e2 => k _ g2 H2 n2 _ q2 (s1.trans s2) o2 ((h2.mono s2.ext).append e2)⟩
    | _ => exact q1.elim⟩
end
end Pd
namespace Pd
variable {ℓ : Bool}
open PySem L2
structure HasF (ℓ : Bool) (P : Program) (w : World) (K : PySem.W.Frag) (mg : Str → Option Value) (base : Heap) (k : Nat) (f : Addr) (ps : List Str) (dd : List D) (sp : FD) : Prop where
  ex : ∃ fd dvs ds, FnOk P w K mg base CX0 k f fd ps (liftF ℓ K sp) ∧ PySem.W.keepIn K (.ref f) = true ∧ Binds K fd ps ds ∧ Vals dvs ds ∧ ∀ g, Dens K g dvs dd
structure HasG (ℓ : Bool) (P : Program) (w : World) (K : PySem.W.Frag) (mg : Str → Option Value) (base : Heap) (k : Nat) (f : Addr) (ps : List Str) (dd : List D) (sp : FD) : Prop where
  ex : ∃ fd dvs ds, FnG P w K mg base k f fd ps (liftF ℓ K sp) ∧ PySem.W.keepIn K (.ref f) = true ∧ Binds K fd ps ds ∧ Vals dvs ds ∧ ∀ g, Dens K g dvs dd
structure HasI (ℓ : Bool) (P : Program) (w : World) (K : PySem.W.Frag) (mg : Str → Option Value) (base : Heap) (k : Nat) (C : Addr) (ps : List Str) (dd : List D) (fi : FI) : Prop where
  ex : ∃ f fd dvs ds, FnOk P w K mg base CX0 k f fd ps (liftInit ℓ K C fi) ∧ Mk K C f ∧ Binds K fd ps ds ∧ Vals dvs ds ∧ ∀ g, Dens K g dvs dd
structure HasM (ℓ : Bool) (P : Program) (w : World) (K : PySem.W.Frag) (mg : Str → Option Value) (base : Heap) (k : Nat) (C : Addr) (m : Str) (ps : List Str) (dd : List D) (sp : FD) : Prop where
  ex : ∃ f fd dvs ds, FnOk P w K mg base CX0 k f fd ps (liftF ℓ K sp) ∧ Cls K C ∧ Meth K C m f ∧ Binds K fd ps ds ∧ Vals dvs ds ∧ ∀ g, Dens K g dvs dd
structure HasP (ℓ : Bool) (P : Program) (w : World) (K : PySem.W.Frag) (mg : Str → Option Value) (base : Heap) (k : Nat) (C : Addr) (m : Str) (ps : List Str) (sp : FD) : Prop where
  ex : ∃ p f fd, FnOk P w K mg base CX0 k f fd ps (liftF ℓ K sp) ∧ Cls K C ∧ PropOf K C m p f ∧ Binds K fd ps []
section
variable {X : Cx} {k : Nat} {f C : Addr} {ps : List Str} {sp : FD} {dd : List D} {x m : Str} {p pos apos : Pos} {e o : Expr} {es : List Expr} {da : DE} {t : DA} {fi : FI}
theorem de_callF (G : HasF ℓ X.prog X.w X.K X.mg X.base k f ps dd sp) (hr : Room k X.A) (hg : Gl X x) (hm : X.mg x = some (.ref f))
    (ha : PA X (e :: es) (liftA ℓ X.K t)) (hdb : (x == ("__debug__" : Str)) = false := by decide) (he : starEach (e :: es) X.env = (false, eval e X.env) :: starEach es X.env := by rfl) (hpl : (backTo pos (starEach es X.env)).any (·.1) = false := by rfl) :
    PE X (.Call (.Name x p) (e :: es) [] pos) (liftE ℓ X.K (dCall sp dd t)) := by
  obtain ⟨fd, dvs, ds, F, hk, hb, hv, hd⟩ := G.ex
  exact de_call F hr hg hm hk hb hv hd ha hdb he hpl
theorem de_callHG (G : HasG ℓ X.prog X.w X.K X.mg X.base k f ps dd sp) (hr : Room k X.A) (hgd : X.A.guards = some []) (hg : Gl X x) (hm : X.mg x = some (.ref f))
    (ha : PA X (e :: es) (liftA ℓ X.K t)) (hdb : (x == ("__debug__" : Str)) = false := by decide) (he : starEach (e :: es) X.env = (false, eval e X.env) :: starEach es X.env := by rfl) (hpl : (backTo pos (starEach es X.env)).any (·.1) = false := by rfl) :
    PE X (.Call (.Name x p) (e :: es) [] pos) (liftE ℓ X.K (dCall sp dd t)) := by
  obtain ⟨fd, dvs, ds, F, hk, hb, hv, hd⟩ := G.ex
  exact de_callG F hr hgd hg hm hk hb hv hd ha hdb he hpl
theorem de_makeF (G : HasI ℓ X.prog X.w X.K X.mg X.base k C ps dd fi) (hr : Room (k + 1) X.A) (hg : Gl X x) (hm : X.mg x = some (.ref C))
    (ha : PA X (e :: es) (liftA ℓ X.K t)) (hdb : (x == ("__debug__" : Str)) = false := by decide) (he : starEach (e :: es) X.env = (false, eval e X.env) :: starEach es X.env := by rfl) (hpl : (backTo pos (starEach es X.env)).any (·.1) = false := by rfl) :
    PE X (.Call (.Name x p) (e :: es) [] pos) (liftE ℓ X.K (dMake C fi dd t)) := by
  obtain ⟨f, fd, dvs, ds, F, M, hb, hv, hd⟩ := G.ex
  exact de_make M F hr hg hm hb hv hd ha hdb he hpl
theorem de_propF (G : HasP ℓ X.prog X.w X.K X.mg X.base k C m ps sp) (hr : Room (k + 1) X.A) (ha : PE X o (liftE ℓ X.K da)) (hab : attributeBase o m X.env (eval o X.env) = eval o X.env := by rfl) : PE X (.Attribute o m pos) (liftE ℓ X.K (dProp C sp da)) := by
  obtain ⟨p, f, fd, F, c, hp, hb⟩ := G.ex
  exact de_prop c hp F hr hb ha hab
theorem de_methF {pl : Sem Bool} (G : HasM ℓ X.prog X.w X.K X.mg X.base k C m ps dd sp) (hr : Room k X.A) (ho : PE X o (liftE ℓ X.K da)) (ha : PA X (e :: es) (liftA ℓ X.K t))
    (hst : starEach (e :: es) X.env = (false, eval e X.env) :: starEach es X.env := by rfl) (hpl : (backTo pos (starEach es X.env)).any (·.1) = false := by rfl)
    (ht : eval (.Call (.Attribute o m apos) (e :: es) [] pos) X.env = (do
      let ov ← eval o X.env
      standAt apos.atName
      let (f, first) ← holding [ov] (getMethod ov m pl)
      callWith pos f first (backTo pos (starEach (e :: es) X.env)) (backToKw pos (keywordEach [] X.env))) := by rfl) :
    PE X (.Call (.Attribute o m apos) (e :: es) [] pos) (liftE ℓ X.K (dMeth C m sp dd da t)) := by
  obtain ⟨f, fd, dvs, ds, F, c, M, hb, hv, hd⟩ := G.ex
  exact de_meth (pl := pl) c M F hr hb hv hd ho ha hst hpl ht
theorem ru {k : Nat} {A : Around} (r : Room k A) : A.units + 65 < cLine := by
  have := r.un
  omega
end
theorem bt_abs : bootBuiltins "abs" = some (.builtin "abs") := by decide +kernel
theorem bt_len : bootBuiltins "len" = some (.builtin "len") := by decide +kernel
theorem bt_max : bootBuiltins "max" = some (.builtin "max") := by decide +kernel
theorem bt_min : bootBuiltins "min" = some (.builtin "min") := by decide +kernel
theorem bt_any : bootBuiltins "any" = some (.builtin "any") := by decide +kernel
theorem bt_all : bootBuiltins "all" = some (.builtin "all") := by decide +kernel
theorem bt_repr : bootBuiltins "repr" = some (.builtin "repr") := by decide +kernel
theorem bt_int : bootBuiltins "int" = some (.type "int") := by decide +kernel
theorem bt_str : bootBuiltins "str" = some (.type "str") := by decide +kernel
theorem bt_bool : bootBuiltins "bool" = some (.type "bool") := by decide +kernel
theorem bt_list : bootBuiltins "list" = some (.type "list") := by decide +kernel
theorem bt_tuple : bootBuiltins "tuple" = some (.type "tuple") := by decide +kernel
def LamD (K : PySem.W.Frag) (qual : Str) (fd : FuncData) : Prop := ∃ (c P : Addr) (o : Obj), fd.code = .ref c ∧ K.lookup c = some o ∧ tabOf o = some (P, qual ++ ".<locals>." ++ "<lambda>")
theorem lamD_of {K : PySem.W.Frag} {qual : Str} {fd : FuncData} (h1 : PySem.W.codeIn K fd.code qual = true) (h2 : (match fd.code with
    | .ref c => (match K.lookup c with
      | some o => (tabOf o).isSome
      | none => false)
    | _ => false) = true) : LamD K qual fd := by
  unfold PySem.W.codeIn at h1
  split at h1
  · rename_i c hc
    rw [hc] at h2
    dsimp only at h2
    split at h1
    · rename_i oc od vs osl hl
      rw [hl] at h2
      dsimp only at h2
      split at h1
      · rename_i v0 n tn rest hv
        have e1 : vs[1]? = some (.str n tn) := by
          rw [← Array.getElem?_toList, hv]
          rfl
        have en : n = qual := beq_iff_eq.mp h1
        subst en
        cases z : tabOf (⟨oc, od, .fields vs, osl⟩ : Obj) with
        | none =>
          rw [z] at h2
          cases h2
        | some pq =>
          obtain ⟨P, q⟩ := pq
          refine ⟨c, P, _, hc, hl, ?_⟩
          have z' := z
          unfold tabOf at z'
          split at z'
          · rename_i vs' hcls hdat
            cases hdat
            split at z'
            · rename_i P' q' t' e11 e12
              rw [e1] at e12
              cases e12
              cases z'
              exact z
            · cases z'
          · cases z'
      · cases h1
    · cases h1
  · cases h1
theorem PDef.fun_ {K : PySem.W.Frag} {d : PDef} (e : psg K (d.loc K) = d.said) (c : d.good K = true) (hc : d.clo = []) : ∃ fd, FunD K d.name d.qual d.params d.body d.scope (d.dvs K) [] (d.loc K) fd ∧ LamD K d.qual fd := by
  unfold PDef.good at c
  rw [Bool.and_eq_true] at c
  obtain ⟨kp, c⟩ := c
  unfold psg PDef.said at e
  rw [hc] at e
  generalize d.loc K = a at *
  cases q : K.lookup a with
  | none => simp [q] at c
  | some o =>
    obtain ⟨oc, od, dt, osl⟩ := o
    rw [q] at c e
    cases dt with
    | func fd =>
      have c' := c
      dsimp only at c' e
      rw [Bool.and_eq_true, Bool.and_eq_true, Bool.and_eq_true] at c'
      obtain ⟨c1, c2, c3, c4⟩ := c'
      have cl := lamD_of c1 c4
      simp only [Option.some.injEq, Prod.mk.injEq, List.map_eq_nil_iff] at e
      obtain ⟨h1, h2, h3, h4, h5, h6, h7, h8⟩ := e
      cases fd
      dsimp only at h1 h2 h3 h4 h5 h6 h7 h8 c1 c2 c3
      subst h1 h2 h3 h4 h5 h6 h7 h8
      exact ⟨_, ⟨⟨oc, od, _, _, _, _, _, _, _, osl, rfl, q, c1, He.dflB_ok c2, He.kwdB_ok c3⟩, kp⟩, cl⟩
    | _ => simp at c
theorem prop_ok {K : PySem.W.Frag} {C f : Str} (h : (Fx.prop C f).ok K = true) : PropOf K (He.ga K C) f (propAt K C f) (getterAt C f K) := by
  simp only [Fx.ok, Bool.and_eq_true, decide_eq_true_eq] at h
  obtain ⟨h1, h2, h3, h4⟩ := h
  refine ⟨h1, h2, h3, ?_⟩
  unfold getterAt
  split at h4
  · rename_i a r e
    rw [e]
    exact ⟨r, rfl⟩
  · cases h4
theorem ins_ok {K : PySem.W.Frag} {C : Str} (c : Cls K (He.ga K C)) (h : (Fx.ins C).ok K = true) : InsOk K (He.ga K C) := by
  simp only [Fx.ok, Bool.and_eq_true, decide_eq_true_eq] at h
  obtain ⟨h1, h2, h3, h4⟩ := h
  exact ⟨c, h1, h2, h3, h4⟩
theorem isi_ok {K : PySem.W.Frag} {t : Value} {c : Str ⊕ String} {b : Bool} (h : (Fx.isi t c b).ok K = true) : PySem.W.kitOne K t (clsOf K c) = some b := of_decide_eq_true h
theorem isiC_ok {K : PySem.W.Frag} {C : Str} {c : Str ⊕ String} {b : Bool} (h : (Fx.isiC C c b).ok K = true) : PySem.W.kitOne K (.ref (He.ga K C)) (clsOf K c) = some b := of_decide_eq_true h
theorem SaysP.fx {fx : List Fx} {fn : List PDef} {K : PySem.W.Frag} (c : SaysP fx fn K) {f : Fx} (h : f ∈ fx) : f.ok K = true := by
  have c1 : ((fx.all fun f => f.ok K) && fn.all fun d => d.good K) = true := congrArg (fun z : AlP => z.1) c
  exact List.all_eq_true.mp (Bool.and_eq_true_iff.mp c1).1 f h
theorem SaysP.fnL {fx : List Fx} {fn : List PDef} {K : PySem.W.Frag} (c : SaysP fx fn K) {d : PDef} (i : Nat) (h : fn[i]? = some d := by rfl) (hc : d.clo = [] := by rfl) : ∃ fd, FunD K d.name d.qual d.params d.body d.scope (d.dvs K) [] (d.loc K) fd ∧ LamD K d.qual fd := by
  have c1 : ((fx.all fun f => f.ok K) && fn.all fun d => d.good K) = true := congrArg (fun z : AlP => z.1) c
  have c2 : (fn.map fun d => psg K (d.loc K)) = fn.map PDef.said := congrArg (fun z : AlP => z.2) c
  have c3 : (fn.map fun d => psg K (d.loc K))[i]? = (fn.map PDef.said)[i]? := by rw [c2]
  rw [List.getElem?_map, List.getElem?_map, h] at c3
  exact PDef.fun_ (Option.some.inj c3) (List.all_eq_true.mp (Bool.and_eq_true_iff.mp c1).2 d (List.mem_of_getElem? h)) hc
theorem SaysP.fn {fx : List Fx} {fn : List PDef} {K : PySem.W.Frag} (c : SaysP fx fn K) {d : PDef} (i : Nat) (h : fn[i]? = some d := by rfl) (hc : d.clo = [] := by rfl) : ∃ fd, FunD K d.name d.qual d.params d.body d.scope (d.dvs K) [] (d.loc K) fd :=
  let ⟨fd, F, _⟩ := c.fnL i h hc
  ⟨fd, F⟩
theorem SaysP.psg {fx : List Fx} {fn : List PDef} {K : PySem.W.Frag} (c : SaysP fx fn K) {d : PDef} (i : Nat) (h : fn[i]? = some d := by rfl) : Pd.psg K (d.loc K) = d.said := by
  have c2 : (fn.map fun d => Pd.psg K (d.loc K)) = fn.map PDef.said := congrArg (fun z : AlP => z.2) c
  have c3 : (fn.map fun d => Pd.psg K (d.loc K))[i]? = (fn.map PDef.said)[i]? := by rw [c2]
  rw [List.getElem?_map, List.getElem?_map, h] at c3
  exact Option.some.inj c3
end Pd
namespace Pd
variable {ℓ : Bool}
open PySem PyProof.Rows L2
theorem script_track {P : Program} {w : World} {K : PySem.W.Frag} {h : Heap} {a : Addr} {vs : List Value} {ns : List Int} (KX : K.In h) (ha : h.get? a = some { cls := .type "list", data := .seq vs.toArray }) (hi : IntsAre vs ns) (hl : ns.length ≤ sizeLine) :
    ∃ H : Hp, L2.Only H ∧ SqL K H a (ns.map V.int) ∧ HOk P w H h ∧ (∀ b, H b ≠ none → b = a ∧ K.lookup b = none) := by
  have rv := vals_ints hi
  by_cases hk : K.lookup a = none
  · refine ⟨fun b => if b = a then some (.frz { cls := .type "list", data := .seq vs.toArray } (.lst (ns.map V.int))) else none, fun b => ?_, .inl (.inr ⟨{ cls := .type "list", data := .seq vs.toArray }, if_pos rfl⟩), fun b u z => ?_, fun b z => ?_⟩
    · by_cases e : b = a
      · exact .inr ⟨_, _, if_pos e⟩
      · exact .inl (if_neg e)
    · dsimp only at z
      split at z
      · rename_i e
        cases z
        rw [e]
        exact ⟨ha, by rw [List.length_map]; exact hl, vs, _, rv, ha⟩
      · cases z
    · dsimp only at z
      split at z
      · rename_i e
        rw [e]
        exact ⟨rfl, hk⟩
      · exact absurd rfl z
  · obtain ⟨o, ho⟩ := Option.ne_none_iff_exists'.mp hk
    have e := KX a o ho
    rw [ha] at e
    cases e
    exact ⟨fun _ => none, fun _ => .inl rfl, .inr ⟨_, vs.toArray, _, ho, rfl, rfl, rfl, by rw [List.size_toArray, hi.length]; exact hl, by simpa using rv⟩, fun b u z => (by cases (show (none : Option HO) = some u from z)), fun b z => absurd rfl z⟩
end Pd
namespace Pd
variable {ℓ : Bool}
open PySem L2
variable {W : WX}
theorem ne_of_pot {K : PySem.W.Frag} {g : Gh} {H : Hp} {n : Nat} (ok : Ok ℓ K g H n) {p a : Addr} (h : g.pot p) {o : HO} (e : g.G a = some o) : a ≠ p := fun q => by
  rw [q, (ok.pot p h).1] at e
  cases e
theorem Ok.turn {K : PySem.W.Frag} {g : Gh} {H : Hp} {n m : Nat} (ok : Ok false K g H n) (hm : m ≤ n) {p : Addr} (h : g.pot p) (hn : NoT K g p) {o : HO} (ho : PotH m (some o)) : Ok false K g (upd H p o) m := by
  refine ⟨fun a u e => ?_, fun a z => ⟨(ok.pot a z).1, ?_⟩, ok.t.upd (fun u z => ?_) fun ps z => ?_, by rw [ok.nocel]; exact CelOk.nil⟩
  · rw [upd_ne (ne_of_pot ok h e)]
    exact ok.sub a u e
  · by_cases q : a = p
    · rw [q, upd_same]
      exact .inr ho
    · rw [upd_ne q]
      refine (ok.pot a z).2.imp id fun ⟨x, y, z, h1, h2, h3, h4, h5, h6, h7⟩ => ⟨x, y, z, h1, h2, h3, h4, h5, h6, ?_⟩
      have h8 : z + (n : Int) ≤ 1000000000 := h7
      show z + (m : Int) ≤ 1000000000
      omega
  · obtain ⟨x, y, w, e, _⟩ := ok.potH h hn
    rw [e] at z
    cases z
    exact .inl ⟨_, rfl⟩
  · obtain ⟨x, y, w, e, _⟩ := ho
    rw [z] at e
    cases e
theorem Stp.turn {g : Gh} {H : Hp} {p : Addr} {o : HO} (h : g.pot p) (hn : H p ≠ none) : Stp g H g (upd H p o) := by
  refine ⟨Ext.refl g, fun _ _ z => z, fun _ _ z => z, fun a u e z => ?_, fun a e => ?_⟩
  · rw [upd_ne fun q => z (by rw [q]; exact h)]
    exact e
  · by_cases q : a = p
    · rw [q, upd_same]
      exact Option.some_ne_none o
    · rw [upd_ne q]
      exact e
def takeF : FD := fun ds n P => ∃ u : Int, ds = [.pot, .int u] ∧ 0 < u ∧ u.natAbs < 2 ^ 200 ∧ ∃ m, n = m + 1 ∧ ∀ r : Int, 0 ≤ r → r < u → P m (.int r)
abbrev rInt1 : List V → Hp → VK → Prop := fun xs H Q => (∃ i, xs = [.int i] ∧ Q (.int i) H) ∨ ∃ k, xs = [.bl k] ∧ Q (.int (if k then 1 else 0)) H
abbrev tI (t : TE) : TE := tCB rInt1 (tCons t tNil)
abbrev ixP (K : PySem.W.Frag) (i : Int) : TE := tOp (rIx K) (tVar 0) (tC (.int i))
abbrev setP (i : Int) (t : TE) : TS := tAsg t (L2.gSub (tVar 0) (tC (.int i)) rSetL)
abbrev rGt0 : R2 := rI0 fun i j => .bl (decide (j < i))
abbrev rPls : R2 := rI0 fun i j => .int (i + j)
abbrev rTms : R2 := rI CMulW fun i j => .int (i * j)
abbrev rMd : R2 := rI (fun _ j => 0 < j) fun i j => .int (i % j)
abbrev rFd : R2 := rI CDivW fun i j => .int (i / j)
abbrev rPw : R2 := rI CPowW fun i j => .int (i ^ j.toNat)
def t_take (K : PySem.W.Frag) : TS :=
  tSeq (tIfS (tTest (tOp rGt0 (ixP K 0) (tC (.int 0))))
    (tSeq (tAsg (tOp rMd (tI (ixP K 0)) (tVar 1)) (gName 2)) (tSeq (setP 0 (tOp rFd (ixP K 0) (tVar 1))) (tRet (tVar 2)))) tNext)
  (tSeq (setP 2 (tOp rPls (ixP K 2) (tC (.int 1))))
  (tSeq (tAsg (tOp (rIx K) (tLst (tCons (tC (.int 2147483647)) (tCons (tC (.int 2147483629)) (tCons (tC (.int 2147483587)) (tCons (tC (.int 2147483579)) (tCons (tC (.int 2147483563)) tNil)))))) (tOp rMd (tI (ixP K 2)) (tC (.int 5)))) (gName 3))
  (tSeq (tAsg (tOp rMd (tI (tOp rPw (tI (tOp rPls (tOp rPls (ixP K 1) (tOp rTms (tOp rTms (tC (.int 98873)) (ixP K 2)) (ixP K 2))) (tC (.int 97)))) (tC (.int 3)))) (tVar 3)) (gName 4))
  (tSeq (tAsg (tOp rMd (tI (tOp rTms (tVar 4) (tOp rPls (tOp rMd (tI (tVar 4)) (tC (.int 10529))) (tOp rTms (tC (.int 193)) (ixP K 2))))) (tC (.int 2305843009213693907))) (gName 4))
  (tRet (tOp rMd (tI (tOp rFd (tVar 4) (tC (.int 173)))) (tVar 1)))))))
theorem bits_lt {a : Int} {n : Nat} (h : a.natAbs < 2 ^ n) (h0 : 0 < n) : a.natAbs.log2 < n := PySem.Flt.log2_lt_of h0 h
theorem mulW {a b : Int} (ha : a.natAbs < 2 ^ 400000) (hb : b.natAbs < 2 ^ 400000) : CMulW a b := wide_mul ha hb (by decide) (by decide) (by decide)
theorem pw {m n : Nat} {a : Nat} (h : a < 2 ^ m) (hmn : m ≤ n) : a < 2 ^ n := Nat.lt_of_lt_of_le h (Nat.pow_le_pow_right (by decide) hmn)
theorem take_ok {K : PySem.W.Frag} {vs : List V} {H : Hp} {Q : VK} {E : XK} {names : List Str} (hN : names.length = 5) (h : liftF false K takeF vs H Q E) : t_take K { nx := fun _ H' => Q .non H', rt := Q } (L2.start names vs) H := by
  obtain ⟨g, n, ds, P, ok, dd, ⟨u, rfl, u0, u1, m, rfl, hp⟩, kk⟩ := h
  cases dd with
  | cons d1 d2 =>
    cases d2 with
    | cons d2 d3 =>
      cases d3
      cases d1 with
      | pot hpot hnt =>
        rename_i p
        cases d2
        have hG := (ok.pot p hpot).1
        obtain ⟨x, y, z, hH, x0, x1, y0, y1, z0, z1⟩ := ok.potH hpot hnt
        have z1 : z + ((m + 1 : Nat) : Int) ≤ 1000000000 := z1
        have hs : L2.start names [.ref p, .int u] = [some (.ref p), some (.int u), none, none, none] := by
          unfold L2.start
          rw [hN]
          rfl
        rw [hs]
        have hn : H p ≠ none := by rw [hH]; exact Option.some_ne_none _
        have ix : ∀ (H : Hp) (a b c : Int), H p = some (.lst [.int a, .int b, .int c]) → ∀ (j : Nat) (v : V), ([.int a, .int b, .int c] : List V)[j]? = some v → ∀ (Q : VK), Q v H → rIx K (.ref p) (.int (j : Int)) H Q := fun H a b c e j v ev Q q =>
          .inl ⟨p, _, (j : Int), v, rfl, rfl, SqL.of e, atI_nat ev, q⟩
        have st : ∀ (H : Hp) (a b c : Int), H p = some (.lst [.int a, .int b, .int c]) → ∀ (j : Nat) (v : V), j < 3 → ∀ (R : Hp → Prop), R (upd H p (.lst (([.int a, .int b, .int c] : List V).set j v))) → rSetL (.ref p) (.int (j : Int)) v H R := fun H a b c e j v hj R q =>
          ⟨p, _, (j : Int), j, rfl, rfl, e, by unfold ixN; rw [if_pos (Int.natCast_nonneg j), if_pos (by show (j : Int) < 3; omega)]; simp, q⟩
        have fin : ∀ (H' : Hp) (o : HO) (r : Int), H' = upd H p o → PotH m (some o) → 0 ≤ r → r < u → Q (.int r) H' := fun H' o r e ho r0 r1 => by
          rw [e]
          exact kk _ g _ m _ (hp r r0 r1) (Stp.turn hpot hn) (ok.turn (by omega) hpot hnt ho) (.int r)
        refine ⟨_, rfl, ix H x y z hH 0 _ rfl _ ?_⟩
        refine ⟨x, 0, rfl, rfl, _, rfl, ?_⟩
        by_cases hx : (0 : Int) < x
        · rw [decide_eq_true hx]
          refine iteT ?_
          refine ⟨_, rfl, ix H x y z hH 0 _ rfl _ ?_⟩
          refine .inl ⟨x, rfl, _, rfl, x, u, rfl, rfl, u0, ?_⟩
          refine ⟨_, rfl, ix H x y z hH 0 _ rfl _ ⟨_, rfl, x, u, rfl, rfl, ⟨u0, Nat.lt_of_lt_of_le (bits_lt u1 (by decide)) (by decide)⟩, ?_⟩⟩
          refine ⟨_, rfl, st H x y z hH 0 _ (by decide) _ ?_⟩
          refine ⟨_, rfl, fin _ _ (x % u) rfl ⟨x / u, y, z, rfl, Int.ediv_nonneg x0 (Int.le_of_lt u0), ?_, y0, y1, z0, by omega⟩ (Int.emod_nonneg _ (by omega)) (Int.emod_lt_of_pos _ u0)⟩
          have h1 : x / u ≤ x := Int.ediv_le_self u x0
          have h2 : 0 ≤ x / u := Int.ediv_nonneg x0 (Int.le_of_lt u0)
          exact Nat.lt_of_le_of_lt (by omega) x1
        · rw [decide_eq_false hx]
          refine iteF ?_
          have z2 : z + 1 ≤ 1000000000 := by omega
          refine ⟨_, rfl, ix H x y z hH 2 _ rfl _ ⟨z, 1, rfl, rfl, ?_⟩⟩
          refine ⟨_, rfl, st H x y z hH 2 _ (by decide) _ ?_⟩
          have hH1 : upd H p (.lst (([.int x, .int y, .int z] : List V).set 2 (.int (z + 1)))) p = some (.lst [.int x, .int y, .int (z + 1)]) := upd_same
          have s1 : Stp g H g (upd H p (.lst (([.int x, .int y, .int z] : List V).set 2 (.int (z + 1))))) := Stp.turn hpot hn
          have o1 : Ok false K g (upd H p (.lst (([.int x, .int y, .int z] : List V).set 2 (.int (z + 1))))) m := ok.turn (by omega) hpot hnt ⟨x, y, z + 1, rfl, x0, x1, y0, y1, by omega, by omega⟩
          generalize upd H p (.lst (([.int x, .int y, .int z] : List V).set 2 (.int (z + 1)))) = H1 at hH1 s1 o1 ⊢
          refine ⟨by rw [sizeLine_eq]; decide, fun l hl => ?_⟩
          obtain ⟨a1, a2, _, _⟩ := new_own o1 hl (.lst [.int 2147483647, .int 2147483629, .int 2147483587, .int 2147483579, .int 2147483563])
          have hlp : p ≠ l := ne_of_none hH1 hl
          have hH2 : upd H1 l (.lst [.int 2147483647, .int 2147483629, .int 2147483587, .int 2147483579, .int 2147483563]) p = some (.lst [.int x, .int y, .int (z + 1)]) := by
            rw [upd_ne hlp]
            exact hH1
          have hl2 : upd H1 l (.lst [.int 2147483647, .int 2147483629, .int 2147483587, .int 2147483579, .int 2147483563]) l = some (.lst [.int 2147483647, .int 2147483629, .int 2147483587, .int 2147483579, .int 2147483563]) := upd_same
          have fin3 : ∀ r : Int, 0 ≤ r → r < u → Q (.int r) (upd H1 l (.lst [.int 2147483647, .int 2147483629, .int 2147483587, .int 2147483579, .int 2147483563])) := fun r r0 r1 => kk _ g _ m _ (hp r r0 r1) (s1.trans a1) a2 (.int r)
          generalize upd H1 l (.lst [.int 2147483647, .int 2147483629, .int 2147483587, .int 2147483579, .int 2147483563]) = H2 at hH2 hl2 fin3 ⊢
          refine ⟨_, rfl, ix H2 x y (z + 1) hH2 2 _ rfl _ (.inl ⟨_, rfl, _, _, rfl, rfl, (show (0 : Int) < 5 by decide), ?_⟩)⟩
          have q1 : 0 ≤ (z + 1) % 5 := Int.emod_nonneg _ (by decide)
          have q2 : (z + 1) % 5 < 5 := Int.emod_lt_of_pos _ (by decide)
          obtain ⟨j, ej⟩ : ∃ j : Nat, (z + 1) % 5 = j := ⟨((z + 1) % 5).toNat, by omega⟩
          have hj : j < 5 := by omega
          obtain ⟨pr, e1, e2, e3⟩ : ∃ pr : Int, ([.int 2147483647, .int 2147483629, .int 2147483587, .int 2147483579, .int 2147483563] : List V)[j]? = some (.int pr) ∧ 0 < pr ∧ pr ≤ 2147483647 := by
            match j, hj with
            | 0, _ => exact ⟨_, rfl, by decide, by decide⟩
            | 1, _ => exact ⟨_, rfl, by decide, by decide⟩
            | 2, _ => exact ⟨_, rfl, by decide, by decide⟩
            | 3, _ => exact ⟨_, rfl, by decide, by decide⟩
            | 4, _ => exact ⟨_, rfl, by decide, by decide⟩
          show rIx K (V.ref l) (V.int ((z + 1) % 5)) H2 _
          rw [ej]
          refine .inl ⟨l, _, _, _, rfl, rfl, SqL.of hl2, atI_nat e1, ?_⟩
          have zb : (z + 1).natAbs < 2 ^ 400000 := pw (m := 31) (by omega) (by decide)
          have zp : (z + 1) * (z + 1) ≤ 1000000000 * 1000000000 := Int.mul_le_mul (by omega) (by omega) (by omega) (by omega)
          have zq : 0 ≤ (z + 1) * (z + 1) := Int.mul_nonneg (by omega) (by omega)
          have ea : (98873 : Int) * (z + 1) * (z + 1) = 98873 * ((z + 1) * (z + 1)) := Int.mul_assoc _ _ _
          refine ⟨_, rfl, ix H2 x y (z + 1) hH2 1 _ rfl _ ?_⟩
          refine ⟨_, rfl, ix H2 x y (z + 1) hH2 2 _ rfl _ ⟨_, _, rfl, rfl, mulW (pw (m := 17) (by decide) (by decide)) zb, ?_⟩⟩
          refine ⟨_, rfl, ix H2 x y (z + 1) hH2 2 _ rfl _ ⟨_, _, rfl, rfl, mulW (pw (m := 50) (by omega) (by decide)) zb, ?_⟩⟩
          refine ⟨_, _, rfl, rfl, _, _, rfl, rfl, .inl ⟨_, rfl, ?_⟩⟩
          have bt : (y + 98873 * (z + 1) * (z + 1) + 97).natAbs < 2 ^ 90 := by
            rw [ea]
            omega
          refine ⟨_, _, rfl, rfl, ⟨by decide, by decide, ?_⟩, .inl ⟨_, rfl, ?_⟩⟩
          · have hb : Builtin.Int.intBits (y + 98873 * (z + 1) * (z + 1) + 97) ≤ 90 := PyProof.Rows.intBits_le bt
            omega
          refine ⟨_, rfl, _, _, rfl, rfl, e2, ?_⟩
          generalize (y + 98873 * (z + 1) * (z + 1) + 97) ^ (3 : Int).toNat = w
          have m0 : 0 ≤ w % pr := Int.emod_nonneg _ (by omega)
          have m1 : w % pr < pr := Int.emod_lt_of_pos _ e2
          have c0 : 0 ≤ w % pr % 10529 := Int.emod_nonneg _ (by decide)
          have c1 : w % pr % 10529 < 10529 := Int.emod_lt_of_pos _ (by decide)
          refine ⟨_, rfl, _, rfl, .inl ⟨_, rfl, _, _, rfl, rfl, (show (0 : Int) < 10529 by decide), ?_⟩⟩
          refine ⟨_, rfl, ix H2 x y (z + 1) hH2 2 _ rfl _ ⟨_, _, rfl, rfl, mulW (pw (m := 8) (by decide) (by decide)) zb, ?_⟩⟩
          refine ⟨_, _, rfl, rfl, _, _, rfl, rfl, mulW (pw (m := 31) (by omega) (by decide)) (pw (m := 60) (by omega) (by decide)), .inl ⟨_, rfl, _, _, rfl, rfl, (show (0 : Int) < 2305843009213693907 by decide), ?_⟩⟩
          refine ⟨_, rfl, _, _, rfl, rfl, (show CDivW _ 173 from ⟨by decide, by decide⟩), .inl ⟨_, rfl, _, rfl, _, _, rfl, rfl, u0, ?_⟩⟩
          exact fin3 _ (Int.emod_nonneg _ (by omega)) (Int.emod_lt_of_pos _ u0)
def dRetPot (d : DO) : DS := fun N n ε => d n ε fun n1 ds => ∃ x y z : Int, ds = [.int x, .int y, .int z] ∧ 0 ≤ x ∧ x.natAbs < 2 ^ 1100 ∧ 0 ≤ y ∧ y < 2 ^ 61 ∧ 0 ≤ z ∧ z + n1 ≤ 1000000000 ∧ N.rt n1 .pot
theorem ds_retPot {X : Cx} {e : Expr} {pos : Pos} {o : DO} (he : PE X e (liftO false X.K o)) : PS X (.Return (some e) pos) (liftS false W X.K (dRetPot o)) :=
  ps_w (ps_ret he) fun E σ H ⟨U, g0, H0, g, n, ε, N, uo, r, s0, q, k1, k2, k3, k4⟩ => ⟨_, g, n, ε, _, r, q, fun p vs g1 H1 n1 ds q1 s1 o1 h0 h1 h2 h3 h4 => by
    obtain ⟨x, y, z, rfl, x0, x1, y0, y1, z0, z1, q2⟩ := q1
    have ev : vs = [.int x, .int y, .int z] := Dens.ints (ns := [x, y, z]) h4
    subst ev
    have st := s0.trans s1
    refine k4.1 (.ref p) ⟨g1.G, fun a => g1.pot a ∨ a = p, g1.cel⟩ H1 n1 .pot q2 ⟨⟨st.ext.G, fun a z => .inl (st.ext.p a z), st.ext.c⟩, st.gro, fun a z w => ?_, st.kep, st.dom⟩ ⟨o1.sub, fun a w => ?_, o1.t.pots fun a z => .inl z, by rw [o1.nocel]; exact CelOk.nil⟩ (.pot (.inr rfl) ⟨o1.t.no fun ps z => (by rw [h3] at z; cases z), fun C z => by rw [show (⟨g1.G, fun a => g1.pot a ∨ a = p, g1.cel⟩ : Gh).cel = [] from o1.nocel] at z; cases z⟩)
    · rcases w with w | w
      · exact st.grp a z w
      · exact absurd (s0.back0 h0) (by rw [← w]; exact z)
    · rcases w with w | w
      · exact o1.pot a w
      · rw [w]
        exact ⟨h1, .inr ⟨x, y, z, h3, x0, x1, y0, y1, z0, z1⟩⟩⟩
def blkB (N : List Str) (sc scope : Scope) (own : List (Str × Nat)) : Bool :=
  decide (scope.kind = .function) && (decide (∀ y ∈ scope.names, scope.names.lookup y.1 = some y.2) && (decide (∀ p ∈ own, N[p.2]? = some p.1) &&
    (decide (∀ y ∈ scope.names, y.2 = .free → sc.names.lookup y.1 = some .cell ∨ sc.names.lookup y.1 = some .free) && decide (∀ y ∈ scope.names, y.2 = .local ∨ y.2 = .cell → y.1 ∈ own.map (·.1) ∨ y.1 ∉ N))))
theorem blk {N : List Str} {sc scope : Scope} {own : List (Str × Nat)} (h : blkB N sc scope own = true) : BlkOk N sc scope own := by
  unfold blkB at h
  simp only [Bool.and_eq_true, decide_eq_true_eq] at h
  obtain ⟨h1, h2, h3, h4, h5⟩ := h
  exact ⟨h1, h2, h3, h4, h5⟩
def isT (T : String) (cs : List Addr) : D → Option Bool
  | .obj C _ => if C ∈ cs then some false else none
  | .non => some (decide ("NoneType" = T))
  | .bl _ => some (decide ("bool" = T ∨ T = "int"))
  | .int _ => some (decide ("int" = T))
  | .str _ => some (decide ("str" = T))
  | .lst _ => some (decide ("list" = T))
  | .tup _ => some (decide ("tuple" = T))
  | .tupF _ => some (decide ("tuple" = T))
  | .dic _ _ => some (decide ("dict" = T))
  | _ => none
def isC (C0 : Addr) (cs : List Addr) : D → Option Bool
  | .obj C _ => if C = C0 then some true else if C ∈ cs then some false else none
  | .non => some false
  | .bl _ => some false
  | .int _ => some false
  | .str _ => some false
  | .lst _ => some false
  | .tup _ => some false
  | .tupF _ => some false
  | .dic _ _ => some false
  | _ => none
theorem isT_ok {K : PySem.W.Frag} {T : String} {cs : List Addr} (hb : ∀ S ∈ ["NoneType", "bool", "int", "str", "list", "tuple", "dict"], PySem.W.kitOne K (.type S) (.type T) = some (decide (S = T ∨ (S = "bool" ∧ T = "int"))))
    (hc : ∀ C ∈ cs, InsOk K C ∧ PySem.W.kitOne K (.ref C) (.type T) = some false) : IsT K (.ty T) (isT T cs) := by
  refine ⟨_, .ty T, fun d b e => ?_⟩
  cases d with
  | obj C fs =>
    simp only [isT] at e
    split at e
    · rename_i h
      cases e
      exact ⟨_, rfl, (hc C h).1, (hc C h).2⟩
    · cases e
  | non =>
    cases e
    refine ⟨_, rfl, trivial, ?_⟩
    rw [hb "NoneType" (by simp)]
    simp
  | bl x =>
    cases e
    refine ⟨_, rfl, trivial, ?_⟩
    rw [hb "bool" (by simp)]
    simp
  | int x =>
    cases e
    refine ⟨_, rfl, trivial, ?_⟩
    rw [hb "int" (by simp)]
    simp
  | str x =>
    cases e
    refine ⟨_, rfl, trivial, ?_⟩
    rw [hb "str" (by simp)]
    simp
  | lst x =>
    cases e
    refine ⟨_, rfl, trivial, ?_⟩
    rw [hb "list" (by simp)]
    simp
  | tup x =>
    cases e
    refine ⟨_, rfl, trivial, ?_⟩
    rw [hb "tuple" (by simp)]
    simp
  | tupF x =>
    cases e
    refine ⟨_, rfl, trivial, ?_⟩
    rw [hb "tuple" (by simp)]
    simp
  | dic x y =>
    cases e
    refine ⟨_, rfl, trivial, ?_⟩
    rw [hb "dict" (by simp)]
    simp
  | _ => cases e
theorem isC_ok {K : PySem.W.Frag} {C0 : Addr} {cs : List Addr} (hb : ∀ S ∈ ["NoneType", "bool", "int", "str", "list", "tuple", "dict"], PySem.W.kitOne K (.type S) (.ref C0) = some false)
    (h0 : InsOk K C0 ∧ PySem.W.kitOne K (.ref C0) (.ref C0) = some true) (hc : ∀ C ∈ cs, InsOk K C ∧ PySem.W.kitOne K (.ref C) (.ref C0) = some false) : IsT K (.ref C0) (isC C0 cs) := by
  refine ⟨_, .own C0, fun d b e => ?_⟩
  cases d with
  | obj C fs =>
    simp only [isC] at e
    split at e
    · rename_i h
      cases e
      rw [h]
      exact ⟨_, rfl, h0.1, h0.2⟩
    · split at e
      · rename_i h
        cases e
        exact ⟨_, rfl, (hc C h).1, (hc C h).2⟩
      · cases e
  | non => cases e; exact ⟨_, rfl, trivial, hb "NoneType" (by simp)⟩
  | bl x => cases e; exact ⟨_, rfl, trivial, hb "bool" (by simp)⟩
  | int x => cases e; exact ⟨_, rfl, trivial, hb "int" (by simp)⟩
  | str x => cases e; exact ⟨_, rfl, trivial, hb "str" (by simp)⟩
  | lst x => cases e; exact ⟨_, rfl, trivial, hb "list" (by simp)⟩
  | tup x => cases e; exact ⟨_, rfl, trivial, hb "tuple" (by simp)⟩
  | tupF x => cases e; exact ⟨_, rfl, trivial, hb "tuple" (by simp)⟩
  | dic x y => cases e; exact ⟨_, rfl, trivial, hb "dict" (by simp)⟩
  | _ => cases e
section
variable {P : Program} {w : World} {K : PySem.W.Frag} {mg : Str → Option Value} {base : Heap} {k : Nat} {f : Addr} {ps : List Str} {x qual : Str} {params : Arguments} {body : List Stmt} {scope : Scope} {N : List Str} {b : DS} {sp : FD}
theorem has_f (D : ∃ fd, FunD K x qual params body scope [] [] f fd) (S : FnScope N ps scope)
    (hbind : ∀ (kV doc pm : Value) (an : Option Addr) (cdv ct : Value) (us : List Value), us.length = ps.length → bindArgs (PySem.W.fnOf x qual params body scope .none kV doc pm an cdv ct) ⟨us, []⟩ = pure (ps.zip us))
    (hb : ∀ (fd : FuncData) (cdv : Value) (A : Around) (outer : List Env) (s : Shared) (H : Hp) (E : XK), Room k (A.deeper (PyProof.Rows.envOfC qual scope s.heap.objs.size f cdv)) → PSs (cxOf CX0 P w K mg base N qual scope f cdv A outer s H E).nox body (liftS ℓ W0 K b))
    (hs : ∀ ds n Q, sp ds n Q → dFn N.length ps.length b ds n Q) : HasF ℓ P w K mg base (k + 1) f ps [] sp := by
  obtain ⟨fd, F⟩ := D
  exact ⟨fd, [], [], fn_ok F S (fun cdv A outer s H E hr => hb fd cdv A outer s H E hr) hs, F.kp, F.bindsN hbind, .nil, fun _ => .nil⟩
theorem has_g (D : ∃ fd, FunD K x qual params body scope [] [] f fd) (S : FnScope N ps scope)
    (hbind : ∀ (kV doc pm : Value) (an : Option Addr) (cdv ct : Value) (us : List Value), us.length = ps.length → bindArgs (PySem.W.fnOf x qual params body scope .none kV doc pm an cdv ct) ⟨us, []⟩ = pure (ps.zip us))
    (hb : ∀ (fd : FuncData) (cdv : Value) (A : Around) (outer : List Env) (s : Shared) (H : Hp) (E : XK), Room k (A.deeper (PyProof.Rows.envOfC qual scope s.heap.objs.size f cdv)) → (A.deeper (PyProof.Rows.envOfC qual scope s.heap.objs.size f cdv)).guards = some [] → PSs (cxOf CX0 P w K mg base N qual scope f cdv A outer s H E).nox body (liftS ℓ W0 K b))
    (hs : ∀ ds n Q, sp ds n Q → dFn N.length ps.length b ds n Q) : HasG ℓ P w K mg base (k + 1) f ps [] sp := by
  obtain ⟨fd, F⟩ := D
  exact ⟨fd, [], [], fnG_ok F S (fun cdv _ A outer s H E hr hg => hb fd cdv A outer s H E hr hg) hs, F.kp, F.bindsN hbind, .nil, fun _ => .nil⟩
theorem has_take (D : ∃ fd, FunD K x qual params body scope [] [] f fd) (S : FnScope N ps scope) (h2 : ps.length = 2) (h5 : N.length = 5)
    (hbind : ∀ (kV doc pm : Value) (an : Option Addr) (cdv ct : Value) (us : List Value), us.length = ps.length → bindArgs (PySem.W.fnOf x qual params body scope .none kV doc pm an cdv ct) ⟨us, []⟩ = pure (ps.zip us))
    (hb : ∀ (fd : FuncData) (cdv : Value) (A : Around) (outer : List Env) (s : Shared) (H : Hp) (E : XK), Room k (A.deeper (PyProof.Rows.envOfC qual scope s.heap.objs.size f cdv)) → PSs (cxOf CX0 P w K mg base N qual scope f cdv A outer s H E).nox body (t_take K)) :
    HasF false P w K mg base (k + 1) f ps [] takeF := by
  obtain ⟨fd, F⟩ := D
  refine ⟨fd, [], [], F.ok S (fun vs H Q E h => ?_) (fun cdv A outer s H vs Q E hr h => ⟨_, PSs.nox (hb fd cdv A outer s H E hr), take_ok h5 h⟩), F.kp, F.bindsN hbind, .nil, fun _ => .nil⟩
  obtain ⟨g, n, ds, P, ok, dd, ⟨u, rfl, _⟩, _⟩ := h
  rw [dd.length, h2]
  rfl
theorem has_init {C : Addr} {n1 : Str} {fi : FI} (M : Mk K C f) (D : ∃ fd, FunD K x qual params body scope [] [] f fd) (S : FnScope (n1 :: N) ps scope)
    (hbind : ∀ (kV doc pm : Value) (an : Option Addr) (cdv ct : Value) (us : List Value), us.length = ps.length → bindArgs (PySem.W.fnOf x qual params body scope .none kV doc pm an cdv ct) ⟨us, []⟩ = pure (ps.zip us))
    (hb : ∀ (fd : FuncData) (cdv : Value) (A : Around) (outer : List Env) (s : Shared) (H : Hp) (E : XK), Room k (A.deeper (PyProof.Rows.envOfC qual scope s.heap.objs.size f cdv)) → PSs (cxOf CX0 P w K mg base (n1 :: N) qual scope f cdv A outer s H E).nox body (liftS ℓ W0 K b))
    (hs : ∀ ds n P, fi ds n P → dIni C (n1 :: N).length ps.length b ds n P) : HasI ℓ P w K mg base (k + 1) C ps [] fi := by
  obtain ⟨fd, F⟩ := D
  have up : ∀ vs H Q E, liftInit ℓ K C fi vs H Q E → liftInit ℓ K C (dIni C (n1 :: N).length ps.length b) vs H Q E := fun vs H Q E ⟨g, n, x, dx, vs', ds, P, h1, h2, h3, h4, h5, h6, h7, h8⟩ => ⟨g, n, x, dx, vs', ds, P, h1, h2, h3, h4, h5, h6, hs _ _ _ h7, h8⟩
  refine ⟨f, fd, [], [], F.ok S (fun vs H Q E h => ?_) (fun cdv A outer s H vs Q E hr h => ⟨_, PSs.nox (hb fd cdv A outer s H E hr), liftInit_body (up vs H Q E h)⟩), M, F.bindsN hbind, .nil, fun _ => .nil⟩
  obtain ⟨g, n, x, dx, vs', ds, P, rfl, h2, h3, h4, h5, h6, h7, h8⟩ := up vs H Q E h
  rw [← h7.1, List.length_cons, h6.length]
theorem has_p {C : Addr} {m : Str} {p : Addr} (c : Cls K C) (hp : PropOf K C m p f) (D : ∃ fd, FunD K x qual params body scope [] [] f fd) (S : FnScope N ps scope)
    (hbind : ∀ (kV doc pm : Value) (an : Option Addr) (cdv ct : Value) (us : List Value), us.length = ps.length → bindArgs (PySem.W.fnOf x qual params body scope .none kV doc pm an cdv ct) ⟨us, []⟩ = pure (ps.zip us))
    (hb : ∀ (fd : FuncData) (cdv : Value) (A : Around) (outer : List Env) (s : Shared) (H : Hp) (E : XK), Room k (A.deeper (PyProof.Rows.envOfC qual scope s.heap.objs.size f cdv)) → PSs (cxOf CX0 P w K mg base N qual scope f cdv A outer s H E).nox body (liftS ℓ W0 K b))
    (hs : ∀ ds n Q, sp ds n Q → dFn N.length ps.length b ds n Q) : HasP ℓ P w K mg base (k + 1) C m ps sp := by
  obtain ⟨fd, F⟩ := D
  exact ⟨p, f, fd, fn_ok F S (fun cdv A outer s H E hr => hb fd cdv A outer s H E hr) hs, c, hp, F.bindsN hbind⟩
theorem has_m {C : Addr} {m : Str} (c : Cls K C) (hm : Meth K C m f) (D : ∃ fd, FunD K x qual params body scope [] [] f fd) (S : FnScope N ps scope)
    (hbind : ∀ (kV doc pm : Value) (an : Option Addr) (cdv ct : Value) (us : List Value), us.length = ps.length → bindArgs (PySem.W.fnOf x qual params body scope .none kV doc pm an cdv ct) ⟨us, []⟩ = pure (ps.zip us))
    (hb : ∀ (fd : FuncData) (cdv : Value) (A : Around) (outer : List Env) (s : Shared) (H : Hp) (E : XK), Room k (A.deeper (PyProof.Rows.envOfC qual scope s.heap.objs.size f cdv)) → PSs (cxOf CX0 P w K mg base N qual scope f cdv A outer s H E).nox body (liftS ℓ W0 K b))
    (hs : ∀ ds n Q, sp ds n Q → dFn N.length ps.length b ds n Q) : HasM ℓ P w K mg base (k + 1) C m ps [] sp := by
  obtain ⟨fd, F⟩ := D
  exact ⟨f, fd, [], [], fn_ok F S (fun cdv A outer s H E hr => hb fd cdv A outer s H E hr) hs, c, hm, F.bindsN hbind, .nil, fun _ => .nil⟩
end
theorem SaysP.fact {fx : List Fx} {fn : List PDef} {K : PySem.W.Frag} (c : SaysP fx fn K) (i : Nat) {f : Fx} (h : fx[i]? = some f := by rfl) : f.ok K = true := c.fx (List.mem_of_getElem? h)
end Pd
namespace L2
open PySem PySem.Spec PyProof.Rows
abbrev IsZipH (h : Heap) (z TI TO T : Addr) (b : Bool) : Prop := h.get? z = some { cls := .type "zip", dict := none, data := .fields #[rawInt T, .bool b, .bool false, .ref TI, .ref TO], slots := #[] }
section
variable {prog : Program} {w : World} {A : Around} {E : Value → Shared → Prop} {s : Shared} {z TI TO i1 i2 T : Addr} {fp1 fp2 : List Addr} {n1 n2 i : Nat} {P1 P2 : Nat → Value → Prop} {St1 St2 : Nat → Heap → Prop}
theorem zip_free_no {b : Bool} {Q : Bool → Shared → Prop} (hz : IsZipH s.heap z TI TO T b) (hT : ∃ o, s.heap.get? T = some o) (h : ∀ h', IsZipH h' z TI TO T true → Heap.ExtBut z s.heap h' → h'.objs.size = s.heap.objs.size → Q false { s with heap := h' }) :
    wpAny (model prog w) A (Builtin.SmallTypes.ownedTupleIsFree (.ref z)) Q E s := by
  obtain ⟨o, ho⟩ := hT
  unfold Builtin.SmallTypes.ownedTupleIsFree
  refine wpAny_bind (wpAny_field hz rfl (x := rawInt T) rfl ?_)
  show wpAny _ _ (loadIfAlive (T : Int).toNat >>= _) _ _ _
  rw [show ((T : Int).toNat : Addr) = T from Int.toNat_natCast T]
  refine wpAny_bind (PySem.W.kdx_alive ho ?_)
  simp only [Option.isNone_some, Bool.false_eq_true, if_false]
  refine wpAny_bind (wpAny_field hz rfl (x := .bool b) rfl ?_)
  cases b with
  | true =>
    rw [if_neg (by decide)]
    exact wpAny_pure (h s.heap hz (fun _ _ _ e => e) rfl)
  | false =>
    rw [if_pos (by decide)]
    refine wpAny_bind (wpAny_setField_rec hz (by simp) fun h' hz' hs => wpAny_pure ?_)
    exact h h' hz' hs.extBut hs.1
theorem zip_held_item {b : Bool} {Q : Value → Shared → Prop} (D1 : Draws prog w A i1 fp1 n1 P1 St1) (D2 : Draws prog w A i2 fp2 n2 P2 St2) (zf1 : z ∉ fp1) (zf2 : z ∉ fp2) (zi1 : z ≠ i1) (zi2 : z ≠ i2) (s12 : i1 ∉ fp2) (s21 : i2 ∉ fp1) (hTz : TI ≠ z)
    (hz : IsZipH s.heap z TI TO T b) (hT : ∃ o, s.heap.get? T = some o) (hTI : IsTupOf2 s.heap TI (.ref i1) (.ref i2)) (st1 : St1 i s.heap) (st2 : St2 i s.heap) (hlt1 : i < n1) (hlt2 : i < n2)
    (hQ : ∀ x1 x2 h' tk, P1 i x1 → P2 i x2 → IsZipH h' z TI TO T true → St1 (i + 1) h' → St2 (i + 1) h' → IsTupOf2 h' s.heap.objs.size x1 x2 → h'.objs.size = s.heap.objs.size + 1 →
      (∀ c o, c ≠ z → c ≠ i1 → c ≠ i2 → s.heap.get? c = some o → h'.get? c = some o) → Q (.ref s.heap.objs.size) { s with heap := h', toks := tk }) :
    wpAny (model prog w) A (Builtin.«zip.__next__» ⟨[.ref z], []⟩) (fun fin s' => ∃ v, fin = .done (.ret v) ∧ Q v s') E s := by
  obtain ⟨hp, g, d, tk0, os⟩ := s
  show wpAny _ _ (field (.ref z) 2 >>= _) _ _ _
  refine wpAny_bind (wpAny_field hz rfl (x := .bool false) rfl ?_)
  show wpAny _ _ (field (.ref z) 3 >>= _) _ _ _
  refine wpAny_bind (wpAny_field hz rfl (x := .ref TI) rfl ?_)
  refine wpAny_bind (wpAny_seqItems hTI rfl ?_)
  show wpAny _ _ (Builtin.SmallTypes.ownedTupleIsFree (.ref z) >>= _) _ _ _
  refine wpAny_bind (zip_free_no hz hT fun g0 hz0 hs0 hn0 => ?_)
  simp only [Bool.false_eq_true, if_false]
  rw [← Array.forIn_toList]
  simp only [List.forIn_cons, List.forIn_nil]
  have q1 : St1 i g0 := D1.frame _ _ _ st1 fun c hc o e => hs0 c o (fun w => zf1 (w ▸ hc)) e
  have q2 : St2 i g0 := D2.frame _ _ _ st2 fun c hc o e => hs0 c o (fun w => zf2 (w ▸ hc)) e
  refine wpAny_bind (wpAny_bind (wpAny_bind (wpAny_holding ?_)))
  show wpAny _ _ (Builtin.SmallTypes.nextOf (.ref i1) >>= _) _ _ ⟨g0, g, d, tk0, os⟩
  refine wpAny_bind (D1.item i _ _ _ hlt1 q1 fun x1 p1 tk1 hx1 sn1 hp1 => wpAny_pure (wpAny_pure ?_))
  replace hp1 : Heap.SameBut i1 g0 p1 := hp1
  refine wpAny_bind (wpAny_bind (wpAny_holding ?_))
  show wpAny _ _ (Builtin.SmallTypes.nextOf (.ref i2) >>= _) _ _ ⟨p1, g, d, tk1, os⟩
  have q3 : St2 i p1 := D2.frame _ _ _ q2 fun c hc o e => hp1.extBut c o (fun w => s12 (w ▸ hc)) e
  refine wpAny_bind (D2.item i _ _ _ hlt2 q3 fun x2 p2 tk2 hx2 sn2 hp2 => wpAny_pure (wpAny_pure (wpAny_pure ?_)))
  replace hp2 : Heap.SameBut i2 p1 p2 := hp2
  show wpAny _ _ (newTuple [x1, x2] >>= _) _ _ ⟨p2, g, d, tk2, os⟩
  refine wpAny_bind (wpAny_newTuple ?_)
  refine wpAny_pure ⟨_, rfl, ?_⟩
  have hsz : p2.objs.size = hp.objs.size := by rw [hp2.1, hp1.1]; exact hn0
  have up : ∀ c o, p2.get? c = some o → (p2.push { cls := .type "tuple", data := .seq #[x1, x2] }).get? c = some o := fun c o e => Heap.get?_push_of_some _ e
  have hnew : IsTupOf2 (p2.push { cls := .type "tuple", data := .seq #[x1, x2] }) p2.objs.size x1 x2 := Heap.get?_push_size _ rfl
  have q4 : St1 (i + 1) p2 := D1.frame _ _ _ sn1 fun c hc o e => hp2.extBut c o (fun w => s21 (w ▸ hc)) e
  have hz2 : IsZipH p2 z TI TO T true := hp2.extBut _ _ zi2 (hp1.extBut _ _ zi1 hz0)
  show Q (.ref p2.objs.size) ⟨p2.push { cls := .type "tuple", data := .seq #[x1, x2] }, g, d, tk2, os⟩
  have hsz2 : (p2.push { cls := .type "tuple", data := .seq #[x1, x2] }).objs.size = hp.objs.size + 1 := by rw [Heap.size_push, hsz]
  rw [hsz] at hnew ⊢
  exact hQ x1 x2 _ tk2 hx1 hx2 (up _ _ hz2) (D1.frame _ _ _ q4 fun c _ o e => up c o e) (D2.frame _ _ _ sn2 fun c _ o e => up c o e) hnew hsz2 fun c o cz c1 c2 e => up c o (hp2.extBut _ _ c2 (hp1.extBut _ _ c1 (hs0 c o cz e)))
abbrev IsZipF (h : Heap) (z TI TO : Addr) (f0 : Value) (b : Bool) : Prop := h.get? z = some { cls := .type "zip", dict := none, data := .fields #[f0, .bool b, .bool false, .ref TI, .ref TO], slots := #[] }
theorem zip_free_yes {f0 : Value} {b : Bool} {Q : Bool → Shared → Prop} (hz : IsZipF s.heap z TI TO f0 b) (hf : f0 = .none ∨ ∃ T : Addr, f0 = rawInt T ∧ s.heap.get? T = none) (h : Q true s) :
    wpAny (model prog w) A (Builtin.SmallTypes.ownedTupleIsFree (.ref z)) Q E s := by
  unfold Builtin.SmallTypes.ownedTupleIsFree
  refine wpAny_bind (wpAny_field hz rfl (x := f0) rfl ?_)
  rcases hf with rfl | ⟨T, rfl, hT⟩
  · exact wpAny_pure h
  · show wpAny _ _ (loadIfAlive (T : Int).toNat >>= _) _ _ _
    rw [show ((T : Int).toNat : Addr) = T from Int.toNat_natCast T]
    refine wpAny_bind ?_
    have step : wpAny (model prog w) A (loadIfAlive T) (fun o s' => o = none ∧ s' = s) E s := by
      have h' : s.heap.get? T = none ∧ s = s := ⟨hT, rfl⟩
      exact fun _ _ _ => h'
    refine thn step fun o s' q => ?_
    obtain ⟨rfl, rfl⟩ := q
    simp only [Option.isNone_none, if_true]
    exact wpAny_pure h
theorem zip_free_item {f0 : Value} {b : Bool} {a1 a2 : Value} {Q : Value → Shared → Prop} (S : ZipSep2 z TI TO i1 i2 fp1 fp2) (D1 : Draws prog w A i1 fp1 n1 P1 St1) (D2 : Draws prog w A i2 fp2 n2 P2 St2)
    (hz : IsZipF s.heap z TI TO f0 b) (hf : f0 = .none ∨ ∃ T : Addr, f0 = rawInt T ∧ s.heap.get? T = none) (hTI : IsTupOf2 s.heap TI (.ref i1) (.ref i2)) (hTO : IsTupOf2 s.heap TO a1 a2) (st1 : St1 i s.heap) (st2 : St2 i s.heap) (hlt1 : i < n1) (hlt2 : i < n2)
    (hQ : ∀ x1 x2 h' tk, P1 i x1 → P2 i x2 → IsZipF h' z TI TO (rawInt s.heap.objs.size) false → IsTupOf2 h' TO x1 x2 → St1 (i + 1) h' → St2 (i + 1) h' → IsTupOf2 h' s.heap.objs.size x1 x2 → h'.objs.size = s.heap.objs.size + 1 →
      (∀ c o, c ≠ z → c ≠ TO → c ≠ i1 → c ≠ i2 → s.heap.get? c = some o → h'.get? c = some o) → Q (.ref s.heap.objs.size) { s with heap := h', toks := tk }) :
    wpAny (model prog w) A (Builtin.«zip.__next__» ⟨[.ref z], []⟩) (fun fin s' => ∃ v, fin = .done (.ret v) ∧ Q v s') E s := by
  obtain ⟨hp, g, d, tk0, os⟩ := s
  have hz' : IsZipF hp z TI TO f0 b := hz
  show wpAny _ _ (field (.ref z) 2 >>= _) _ _ _
  refine wpAny_bind (wpAny_field hz rfl (x := .bool false) rfl ?_)
  show wpAny _ _ (field (.ref z) 3 >>= _) _ _ _
  refine wpAny_bind (wpAny_field hz rfl (x := .ref TI) rfl ?_)
  refine wpAny_bind (wpAny_seqItems hTI rfl ?_)
  show wpAny _ _ (Builtin.SmallTypes.ownedTupleIsFree (.ref z) >>= _) _ _ _
  refine wpAny_bind (zip_free_yes hz hf ?_)
  simp only [if_true]
  refine wpAny_bind (wpAny_rule ?_)
  refine wpAny_bind (wpAny_field hz rfl (x := .ref TO) rfl ?_)
  refine wpAny_bind (wpAny_setField_rec hz (by simp) fun k0 e0 u0 => ?_)
  replace e0 : IsZipF k0 z TI TO .ellipsis b := e0
  replace u0 : Heap.SameBut z hp k0 := u0
  have d1 : St1 i k0 := D1.frame _ _ _ st1 fun c hc o e => u0.extBut c o (fun w => S.zf1 (w ▸ hc)) e
  have d2 : St2 i k0 := D2.frame _ _ _ st2 fun c hc o e => u0.extBut c o (fun w => S.zf2 (w ▸ hc)) e
  have t0 : IsTupOf2 k0 TO a1 a2 := u0.extBut _ _ S.TOz hTO
  refine wpAny_bind ?_
  simp only [List.zipIdx_cons, List.zipIdx_nil, List.forIn_cons, List.forIn_nil]
  refine wpAny_bind (wpAny_bind (wpAny_onRaise ?_))
  show wpAny _ _ (Builtin.SmallTypes.nextOf (.ref i1) >>= _) _ _ ⟨k0, g, d, tk0, os⟩
  refine wpAny_bind (D1.item i _ _ _ hlt1 d1 fun x1 k1 tk1 hx1 sn1 u1 => wpAny_pure ?_)
  replace u1 : Heap.SameBut i1 k0 k1 := u1
  have t1 : IsTupOf2 k1 TO a1 a2 := u1.extBut _ _ S.Ti1 t0
  refine wpAny_bind (wpAny_seqItems (s := ⟨k1, g, d, tk1, os⟩) t1 rfl ?_)
  refine wpAny_bind (updateSeq_IsTupOf2 (s := ⟨k1, g, d, tk1, os⟩) t1 fun k2 t2 u2 => ?_)
  replace t2 : IsTupOf2 k2 TO x1 a2 := t2
  replace u2 : Heap.SameBut TO k1 k2 := u2
  refine wpAny_bind (wpAny_letGo (wpAny_pure ?_))
  refine wpAny_bind (wpAny_bind (wpAny_onRaise ?_))
  show wpAny _ _ (Builtin.SmallTypes.nextOf (.ref i2) >>= _) _ _ ⟨k2, g, d, tk1, os⟩
  have d3 : St2 i k2 := D2.frame _ _ _ (D2.frame _ _ _ d2 fun c hc o e => u1.extBut c o (fun w => S.sep1_2 (w ▸ hc)) e) fun c hc o e => u2.extBut c o (fun w => S.Tf2 (w ▸ hc)) e
  refine wpAny_bind (D2.item i _ _ _ hlt2 d3 fun x2 k3 tk2 hx2 sn2 u3 => wpAny_pure ?_)
  replace u3 : Heap.SameBut i2 k2 k3 := u3
  have t3 : IsTupOf2 k3 TO x1 a2 := u3.extBut _ _ S.Ti2 t2
  refine wpAny_bind (wpAny_seqItems (s := ⟨k3, g, d, tk2, os⟩) t3 rfl ?_)
  refine wpAny_bind (updateSeq_IsTupOf2 (s := ⟨k3, g, d, tk2, os⟩) t3 fun k4 t4 u4 => ?_)
  replace t4 : IsTupOf2 k4 TO x1 x2 := t4
  replace u4 : Heap.SameBut TO k3 k4 := u4
  refine wpAny_bind (wpAny_letGo (wpAny_pure (wpAny_pure ?_)))
  refine wpAny_bind (wpAny_seqItems (s := ⟨k4, g, d, tk2, os⟩) t4 rfl ?_)
  refine wpAny_bind (wpAny_newTuple ?_)
  have n4 : k4.objs.size = hp.objs.size := by rw [u4.1, u3.1, u2.1, u1.1, u0.1]
  have all : ∀ c o, c ≠ z → c ≠ TO → c ≠ i1 → c ≠ i2 → hp.get? c = some o → k4.get? c = some o := fun c o c1 c2 c3 c4 e => u4.extBut _ _ c2 (u3.extBut _ _ c4 (u2.extBut _ _ c2 (u1.extBut _ _ c3 (u0.extBut _ _ c1 e))))
  have e4 : IsZipF k4 z TI TO .ellipsis b := u4.extBut _ _ S.TOz.symm (u3.extBut _ _ S.zi2 (u2.extBut _ _ S.TOz.symm (u1.extBut _ _ S.zi1 e0)))
  have d5 : St1 (i + 1) k4 := D1.frame _ _ _ (D1.frame _ _ _ (D1.frame _ _ _ sn1 fun c hc o e => u2.extBut c o (fun w => S.Tf1 (w ▸ hc)) e) fun c hc o e => u3.extBut c o (fun w => S.sep2_1 (w ▸ hc)) e) fun c hc o e => u4.extBut c o (fun w => S.Tf1 (w ▸ hc)) e
  have d6 : St2 (i + 1) k4 := D2.frame _ _ _ sn2 fun c hc o e => u4.extBut c o (fun w => S.Tf2 (w ▸ hc)) e
  have zlt : z < k4.objs.size := Heap.lt_size e4
  show wpAny _ _ (Builtin.SmallTypes.ownedTupleHandOut (.ref z) (.ref k4.objs.size) >>= _) _ _ ⟨k4.push { cls := .type "tuple", data := .seq #[x1, x2] }, g, d, tk2, os⟩
  refine wpAny_bind ?_
  unfold Builtin.SmallTypes.ownedTupleHandOut
  have e5 : IsZipF (k4.push { cls := .type "tuple", data := .seq #[x1, x2] }) z TI TO .ellipsis b := Heap.get?_push_of_some _ e4
  refine wpAny_bind (wpAny_setField_rec e5 (by simp) fun k6 e6 u6 => ?_)
  replace e6 : IsZipF k6 z TI TO (rawInt k4.objs.size) b := e6
  refine wpAny_setField_rec e6 (by simp) fun k7 e7 u7 => ?_
  replace e7 : IsZipF k7 z TI TO (rawInt k4.objs.size) false := e7
  replace u6 : Heap.SameBut z (k4.push { cls := .type "tuple", data := .seq #[x1, x2] }) k6 := u6
  replace u7 : Heap.SameBut z k6 k7 := u7
  have up : ∀ c o, c ≠ z → k4.get? c = some o → k7.get? c = some o := fun c o c1 e => u7.extBut _ _ c1 (u6.extBut _ _ c1 (Heap.get?_push_of_some _ e))
  have t7 : IsTupOf2 k7 k4.objs.size x1 x2 := u7.extBut _ _ (Nat.ne_of_gt zlt) (u6.extBut _ _ (Nat.ne_of_gt zlt) (Heap.get?_push_size _ rfl))
  have n7 : k7.objs.size = k4.objs.size + 1 := by rw [u7.1, u6.1, Heap.size_push]
  rw [n4] at e7 t7 n7
  refine wpAny_pure ⟨_, rfl, ?_⟩
  show Q (.ref k4.objs.size) ⟨k7, g, d, tk2, os⟩
  rw [n4]
  exact hQ x1 x2 k7 tk2 hx1 hx2 e7 (up _ _ S.TOz t4) (D1.frame _ _ _ d5 fun c hc o e => up c o (fun q => S.zf1 (q ▸ hc)) e) (D2.frame _ _ _ d6 fun c hc o e => up c o (fun q => S.zf2 (q ▸ hc)) e) t7 n7 fun c o cz cT c1 c2 e => up c o cz (all c o cz cT c1 c2 e)
theorem zip_held_end {b : Bool} {Q : Fin → Shared → Prop} (D1 : Draws prog w A i1 fp1 n1 P1 St1) (D2 : Draws prog w A i2 fp2 n2 P2 St2) (zf1 : z ∉ fp1) (zf2 : z ∉ fp2) (s12 : i1 ∉ fp2)
    (hz : IsZipH s.heap z TI TO T b) (hT : ∃ o, s.heap.get? T = some o) (hTI : IsTupOf2 s.heap TI (.ref i1) (.ref i2)) (st1 : St1 i s.heap) (st2 : St2 i s.heap) (hle1 : i ≤ n1) (hle2 : i ≤ n2) (hend : i = n1 ∨ i = n2)
    (hE : ∀ h' tk e, (∀ c o, c ≠ z → c ≠ TO → c ≠ i1 → c ≠ i2 → s.heap.get? c = some o → h'.get? c = some o) → (∃ o, h'.get? e = some o ∧ o.cls = .type "StopIteration") → E (.ref e) { s with heap := h', toks := tk }) :
    wpAny (model prog w) A (Builtin.«zip.__next__» ⟨[.ref z], []⟩) Q E s := by
  obtain ⟨hp, g, d, tk0, os⟩ := s
  show wpAny _ _ (field (.ref z) 2 >>= _) _ _ _
  refine wpAny_bind (wpAny_field hz rfl (x := .bool false) rfl ?_)
  show wpAny _ _ (field (.ref z) 3 >>= _) _ _ _
  refine wpAny_bind (wpAny_field hz rfl (x := .ref TI) rfl ?_)
  refine wpAny_bind (wpAny_seqItems hTI rfl ?_)
  show wpAny _ _ (Builtin.SmallTypes.ownedTupleIsFree (.ref z) >>= _) _ _ _
  refine wpAny_bind (zip_free_no hz hT fun k0 e0 u0 n0 => ?_)
  simp only [Bool.false_eq_true, if_false]
  rw [← Array.forIn_toList]
  simp only [List.forIn_cons, List.forIn_nil]
  have q1 : St1 i k0 := D1.frame _ _ _ st1 fun c hc o e => u0 c o (fun w => zf1 (w ▸ hc)) e
  have q2 : St2 i k0 := D2.frame _ _ _ st2 fun c hc o e => u0 c o (fun w => zf2 (w ▸ hc)) e
  refine wpAny_bind (wpAny_bind (wpAny_bind (wpAny_holding ?_)))
  show wpAny _ _ (Builtin.SmallTypes.nextOf (.ref i1) >>= _) _ _ ⟨k0, g, d, tk0, os⟩
  by_cases hlt : i < n1
  · refine wpAny_bind (D1.item i _ _ _ hlt q1 fun x1 k1 tk1 hx1 sn1 u1 => wpAny_pure (wpAny_pure ?_))
    replace u1 : Heap.SameBut i1 k0 k1 := u1
    refine wpAny_bind (wpAny_bind (wpAny_holding ?_))
    show wpAny _ _ (Builtin.SmallTypes.nextOf (.ref i2) >>= _) _ _ ⟨k1, g, d, tk1, os⟩
    have q3 : St2 i k1 := D2.frame _ _ _ q2 fun c hc o e => u1.extBut c o (fun w => s12 (w ▸ hc)) e
    have hi2 : i = n2 := by omega
    refine wpAny_bind (D2.done ⟨k1, g, d, tk1, os⟩ _ _ (by rw [← hi2]; exact q3) fun k2 e u2 he => ?_)
    exact hE k2 tk1 e (fun c o c1 c2 c3 c4 x => u2 _ _ c4 (u1.extBut _ _ c3 (u0 _ _ c1 x))) he
  · have hi1 : i = n1 := by omega
    refine wpAny_bind (D1.done ⟨k0, g, d, tk0, os⟩ _ _ (by rw [← hi1]; exact q1) fun k2 e u2 he => ?_)
    exact hE k2 tk0 e (fun c o c1 c2 c3 c4 x => u2 _ _ c3 (u0 _ _ c1 x)) he
theorem zip_free_end {f0 : Value} {b : Bool} {a1 a2 : Value} {Q : Fin → Shared → Prop} (S : ZipSep2 z TI TO i1 i2 fp1 fp2) (D1 : Draws prog w A i1 fp1 n1 P1 St1) (D2 : Draws prog w A i2 fp2 n2 P2 St2)
    (hz : IsZipF s.heap z TI TO f0 b) (hf : f0 = .none ∨ ∃ T : Addr, f0 = rawInt T ∧ s.heap.get? T = none) (hTI : IsTupOf2 s.heap TI (.ref i1) (.ref i2)) (hTO : IsTupOf2 s.heap TO a1 a2) (st1 : St1 i s.heap) (st2 : St2 i s.heap) (hle1 : i ≤ n1) (hle2 : i ≤ n2) (hend : i = n1 ∨ i = n2)
    (hE : ∀ h' tk e, (∀ c o, c ≠ z → c ≠ TO → c ≠ i1 → c ≠ i2 → s.heap.get? c = some o → h'.get? c = some o) → (∃ o, h'.get? e = some o ∧ o.cls = .type "StopIteration") → E (.ref e) { s with heap := h', toks := tk }) :
    wpAny (model prog w) A (Builtin.«zip.__next__» ⟨[.ref z], []⟩) Q E s := by
  obtain ⟨hp, g, d, tk0, os⟩ := s
  show wpAny _ _ (field (.ref z) 2 >>= _) _ _ _
  refine wpAny_bind (wpAny_field hz rfl (x := .bool false) rfl ?_)
  show wpAny _ _ (field (.ref z) 3 >>= _) _ _ _
  refine wpAny_bind (wpAny_field hz rfl (x := .ref TI) rfl ?_)
  refine wpAny_bind (wpAny_seqItems hTI rfl ?_)
  show wpAny _ _ (Builtin.SmallTypes.ownedTupleIsFree (.ref z) >>= _) _ _ _
  refine wpAny_bind (zip_free_yes hz hf ?_)
  simp only [if_true]
  refine wpAny_bind (wpAny_rule ?_)
  refine wpAny_bind (wpAny_field hz rfl (x := .ref TO) rfl ?_)
  refine wpAny_bind (wpAny_setField_rec hz (by simp) fun k0 e0 u0 => ?_)
  replace e0 : IsZipF k0 z TI TO .ellipsis b := e0
  replace u0 : Heap.SameBut z hp k0 := u0
  have d1 : St1 i k0 := D1.frame _ _ _ st1 fun c hc o e => u0.extBut c o (fun w => S.zf1 (w ▸ hc)) e
  have d2 : St2 i k0 := D2.frame _ _ _ st2 fun c hc o e => u0.extBut c o (fun w => S.zf2 (w ▸ hc)) e
  have t0 : IsTupOf2 k0 TO a1 a2 := u0.extBut _ _ S.TOz hTO
  have noz : ∀ {k : Heap} {e : Addr} {o : Obj}, IsZipF k z TI TO .ellipsis b → k.get? e = some o → o.cls = .type "StopIteration" → e ≠ z := fun {k e o} q h c x => by
    rw [x, q] at h
    cases h
    simp at c
  refine wpAny_bind ?_
  simp only [List.zipIdx_cons, List.zipIdx_nil, List.forIn_cons, List.forIn_nil]
  refine wpAny_bind (wpAny_bind (wpAny_onRaise ?_))
  show wpAny _ _ (Builtin.SmallTypes.nextOf (.ref i1) >>= _) _ _ ⟨k0, g, d, tk0, os⟩
  by_cases hlt : i < n1
  · refine wpAny_bind (D1.item i _ _ _ hlt d1 fun x1 k1 tk1 hx1 sn1 u1 => wpAny_pure ?_)
    replace u1 : Heap.SameBut i1 k0 k1 := u1
    have t1 : IsTupOf2 k1 TO a1 a2 := u1.extBut _ _ S.Ti1 t0
    refine wpAny_bind (wpAny_seqItems (s := ⟨k1, g, d, tk1, os⟩) t1 rfl ?_)
    refine wpAny_bind (updateSeq_IsTupOf2 (s := ⟨k1, g, d, tk1, os⟩) t1 fun k2 t2 u2 => ?_)
    replace u2 : Heap.SameBut TO k1 k2 := u2
    refine wpAny_bind (wpAny_letGo (wpAny_pure ?_))
    have hi2 : i = n2 := by omega
    refine wpAny_bind (wpAny_bind (wpAny_onRaise ?_))
    show wpAny _ _ (Builtin.SmallTypes.nextOf (.ref i2) >>= _) _ _ ⟨k2, g, d, tk1, os⟩
    have d3 : St2 i k2 := D2.frame _ _ _ (D2.frame _ _ _ d2 fun c hc o e => u1.extBut c o (fun w => S.sep1_2 (w ▸ hc)) e) fun c hc o e => u2.extBut c o (fun w => S.Tf2 (w ▸ hc)) e
    refine wpAny_bind (D2.done ⟨k2, g, d, tk1, os⟩ _ _ (by rw [← hi2]; exact d3) fun k3 e u3 he => ?_)
    replace u3 : Heap.ExtBut i2 k2 k3 := u3
    obtain ⟨oe, ho, hc⟩ := he
    replace ho : k3.get? e = some oe := ho
    have e3 : IsZipF k3 z TI TO .ellipsis b := u3 _ _ S.zi2 (u2.extBut _ _ S.TOz.symm (u1.extBut _ _ S.zi1 e0))
    refine wpAny_setField_rec (s := ⟨k3, g, d, tk1, os⟩) e3 (by simp) fun k4 _ u4 => ?_
    replace u4 : Heap.SameBut z k3 k4 := u4
    exact hE k4 tk1 e (fun c o c1 c2 c3 c4 x => u4.extBut _ _ c1 (u3 _ _ c4 (u2.extBut _ _ c2 (u1.extBut _ _ c3 (u0.extBut _ _ c1 x))))) ⟨oe, u4.extBut _ _ (noz e3 ho hc) ho, hc⟩
  · have hi1 : i = n1 := by omega
    refine wpAny_bind (D1.done ⟨k0, g, d, tk0, os⟩ _ _ (by rw [← hi1]; exact d1) fun k3 e u3 he => ?_)
    replace u3 : Heap.ExtBut i1 k0 k3 := u3
    obtain ⟨oe, ho, hc⟩ := he
    replace ho : k3.get? e = some oe := ho
    have e3 : IsZipF k3 z TI TO .ellipsis b := u3 _ _ S.zi1 e0
    refine wpAny_setField_rec (s := ⟨k3, g, d, tk0, os⟩) e3 (by simp) fun k4 _ u4 => ?_
    replace u4 : Heap.SameBut z k3 k4 := u4
    exact hE k4 tk0 e (fun c o c1 c2 c3 c4 x => u4.extBut _ _ c1 (u3 _ _ c3 (u0.extBut _ _ c1 x))) ⟨oe, u4.extBut _ _ (noz e3 ho hc) ho, hc⟩
def ZSt (h : Heap) (z TI TO : Addr) : Prop := ∃ f0 b, IsZipF h z TI TO f0 b ∧ (f0 = .none ∨ ∃ T : Addr, f0 = rawInt T)
theorem zip_item {a1 a2 : Value} {Q : Value → Shared → Prop} (S : ZipSep2 z TI TO i1 i2 fp1 fp2) (D1 : Draws prog w A i1 fp1 n1 P1 St1) (D2 : Draws prog w A i2 fp2 n2 P2 St2)
    (hz : ZSt s.heap z TI TO) (hTI : IsTupOf2 s.heap TI (.ref i1) (.ref i2)) (hTO : IsTupOf2 s.heap TO a1 a2) (st1 : St1 i s.heap) (st2 : St2 i s.heap) (hlt1 : i < n1) (hlt2 : i < n2)
    (hQ : ∀ x1 x2 h' tk, P1 i x1 → P2 i x2 → ZSt h' z TI TO → (∃ a1 a2, IsTupOf2 h' TO a1 a2) → St1 (i + 1) h' → St2 (i + 1) h' → IsTupOf2 h' s.heap.objs.size x1 x2 → h'.objs.size = s.heap.objs.size + 1 →
      (∀ c o, c ≠ z → c ≠ TO → c ≠ i1 → c ≠ i2 → s.heap.get? c = some o → h'.get? c = some o) → Q (.ref s.heap.objs.size) { s with heap := h', toks := tk }) :
    wpAny (model prog w) A (Builtin.«zip.__next__» ⟨[.ref z], []⟩) (fun fin s' => ∃ v, fin = .done (.ret v) ∧ Q v s') E s := by
  obtain ⟨f0, b, hz, hf⟩ := hz
  have free : (f0 = .none ∨ ∃ T : Addr, f0 = rawInt T ∧ s.heap.get? T = none) → wpAny (model prog w) A (Builtin.«zip.__next__» ⟨[.ref z], []⟩) (fun fin s' => ∃ v, fin = .done (.ret v) ∧ Q v s') E s := fun hf =>
    zip_free_item S D1 D2 hz hf hTI hTO st1 st2 hlt1 hlt2 fun x1 x2 h' tk y1 y2 c1 c2 c3 c4 c5 c6 c7 => hQ x1 x2 h' tk y1 y2 ⟨_, _, c1, .inr ⟨_, rfl⟩⟩ ⟨_, _, c2⟩ c3 c4 c5 c6 c7
  rcases hf with rfl | ⟨T, rfl⟩
  · exact free (.inl rfl)
  · cases e : s.heap.get? T with
    | none => exact free (.inr ⟨T, rfl, e⟩)
    | some o => exact zip_held_item D1 D2 S.zf1 S.zf2 S.zi1 S.zi2 S.sep1_2 S.sep2_1 S.TIz hz ⟨o, e⟩ hTI st1 st2 hlt1 hlt2 fun x1 x2 h' tk y1 y2 c1 c3 c4 c5 c6 c7 => hQ x1 x2 h' tk y1 y2 ⟨_, _, c1, .inr ⟨_, rfl⟩⟩ ⟨a1, a2, c7 _ _ S.TOz S.Ti1 S.Ti2 hTO⟩ c3 c4 c5 c6 fun c o d1 _ d3 d4 x => c7 c o d1 d3 d4 x
theorem zip_end {a1 a2 : Value} {Q : Fin → Shared → Prop} (S : ZipSep2 z TI TO i1 i2 fp1 fp2) (D1 : Draws prog w A i1 fp1 n1 P1 St1) (D2 : Draws prog w A i2 fp2 n2 P2 St2)
    (hz : ZSt s.heap z TI TO) (hTI : IsTupOf2 s.heap TI (.ref i1) (.ref i2)) (hTO : IsTupOf2 s.heap TO a1 a2) (st1 : St1 i s.heap) (st2 : St2 i s.heap) (hi : i = min n1 n2)
    (hE : ∀ h' tk e, (∀ c o, c ≠ z → c ≠ TO → c ≠ i1 → c ≠ i2 → s.heap.get? c = some o → h'.get? c = some o) → (∃ o, h'.get? e = some o ∧ o.cls = .type "StopIteration") → E (.ref e) { s with heap := h', toks := tk }) :
    wpAny (model prog w) A (Builtin.«zip.__next__» ⟨[.ref z], []⟩) Q E s := by
  obtain ⟨f0, b, hz, hf⟩ := hz
  have free : (f0 = .none ∨ ∃ T : Addr, f0 = rawInt T ∧ s.heap.get? T = none) → wpAny (model prog w) A (Builtin.«zip.__next__» ⟨[.ref z], []⟩) Q E s := fun hf =>
    zip_free_end S D1 D2 hz hf hTI hTO st1 st2 (by omega) (by omega) (by omega) hE
  rcases hf with rfl | ⟨T, rfl⟩
  · exact free (.inl rfl)
  · cases e : s.heap.get? T with
    | none => exact free (.inr ⟨T, rfl, e⟩)
    | some o => exact zip_held_end D1 D2 S.zf1 S.zf2 S.sep1_2 hz ⟨o, e⟩ hTI st1 st2 (by omega) (by omega) (by omega) hE
theorem ZSt.typeIs (h : ZSt s.heap z TI TO) : s.TypeIs (.ref z) "zip" := by
  obtain ⟨f0, b, e, _⟩ := h
  exact ⟨_, e, rfl⟩
theorem nextOf_zip_item {a1 a2 : Value} {Q : Value → Shared → Prop} (S : ZipSep2 z TI TO i1 i2 fp1 fp2) (D1 : Draws prog w A.in1 i1 fp1 n1 P1 St1) (D2 : Draws prog w A.in1 i2 fp2 n2 P2 St2)
    (hz : ZSt s.heap z TI TO) (hTI : IsTupOf2 s.heap TI (.ref i1) (.ref i2)) (hTO : IsTupOf2 s.heap TO a1 a2) (st1 : St1 i s.heap) (st2 : St2 i s.heap) (hlt1 : i < n1) (hlt2 : i < n2)
    (hQ : ∀ x1 x2 h' tk, P1 i x1 → P2 i x2 → ZSt h' z TI TO → (∃ a1 a2, IsTupOf2 h' TO a1 a2) → St1 (i + 1) h' → St2 (i + 1) h' → IsTupOf2 h' s.heap.objs.size x1 x2 → h'.objs.size = s.heap.objs.size + 1 →
      (∀ c o, c ≠ z → c ≠ TO → c ≠ i1 → c ≠ i2 → s.heap.get? c = some o → h'.get? c = some o) → Q (.ref s.heap.objs.size) { s with heap := h', toks := tk }) :
    wpAny (model prog w) A (Builtin.SmallTypes.nextOf (.ref z)) Q E s := by
  unfold Builtin.SmallTypes.nextOf
  refine wpAny_bind (wpAny_callSpecial?_slot (name := Str.ofString "__next__") hz.typeIs F.slot_zip_next
    (wpAny_call_entry F.slot_zip_next hz.typeIs F.entry_zip_next (zip_item S D1 D2 hz hTI hTO st1 st2 hlt1 hlt2 fun x1 x2 h' tk y1 y2 c1 c2 c3 c4 c5 c6 c7 => ?_) (F.args_zip_next_1 _)))
  exact wpAny_pure (hQ x1 x2 h' tk y1 y2 c1 c2 c3 c4 c5 c6 c7)
theorem nextOf_zip_end {a1 a2 : Value} {Q : Value → Shared → Prop} (S : ZipSep2 z TI TO i1 i2 fp1 fp2) (D1 : Draws prog w A.in1 i1 fp1 n1 P1 St1) (D2 : Draws prog w A.in1 i2 fp2 n2 P2 St2)
    (hz : ZSt s.heap z TI TO) (hTI : IsTupOf2 s.heap TI (.ref i1) (.ref i2)) (hTO : IsTupOf2 s.heap TO a1 a2) (st1 : St1 i s.heap) (st2 : St2 i s.heap) (hi : i = min n1 n2)
    (hE : ∀ h' tk e, (∀ c o, c ≠ z → c ≠ TO → c ≠ i1 → c ≠ i2 → s.heap.get? c = some o → h'.get? c = some o) → (∃ o, h'.get? e = some o ∧ o.cls = .type "StopIteration") → E (.ref e) { s with heap := h', toks := tk }) :
    wpAny (model prog w) A (Builtin.SmallTypes.nextOf (.ref z)) Q E s := by
  unfold Builtin.SmallTypes.nextOf
  exact wpAny_bind (wpAny_callSpecial?_slot (name := Str.ofString "__next__") hz.typeIs F.slot_zip_next
    (wpAny_call_entry F.slot_zip_next hz.typeIs F.entry_zip_next (zip_end S D1 D2 hz hTI hTO st1 st2 hi hE) (F.args_zip_next_1 _)))
theorem enum_over {e it : Addr} {c : Int} {old : Value} {Y : Value → Heap → Prop} {Q : Value → Shared → Prop} (he : IsEnum s.heap e it c old)
    (inner : ∀ (Q : Value → Shared → Prop), (∀ x h1 tk1, Y x h1 → IsEnum h1 e it c old → Q x { s with heap := h1, toks := tk1 }) → wpAny (model prog w) A (Builtin.SmallTypes.nextOf (.ref it)) Q E s)
    (hQ : ∀ x h1 h' tk, Y x h1 → IsEnumOut h' e it (c + 1) x h1.objs.size → h'.get? h1.objs.size = some { cls := .type "tuple", data := .seq #[.int c tk, x] } → (∀ b o, b ≠ e → h1.get? b = some o → h'.get? b = some o) → Q (.ref h1.objs.size) { s with heap := h', toks := tk + 1 }) :
    wpAny (model prog w) A (Builtin.«enumerate.__next__» ⟨[.ref e], []⟩) (fun fin s' => ∃ v, fin = .done (.ret v) ∧ Q v s') E s := by
  obtain ⟨hp, g, d, tk0, os⟩ := s
  show wpAny _ _ (field (.ref e) 2 >>= _) _ _ _
  refine wpAny_bind (wpAny_field he rfl (x := .ref it) rfl ?_)
  refine wpAny_bind (inner _ fun x k1 tk y e1 => ?_)
  show wpAny _ _ (field (.ref e) 3 >>= _) _ _ ⟨k1, g, d, tk, os⟩
  refine wpAny_bind (wpAny_field e1 rfl (x := rawInt c) rfl ?_)
  show wpAny _ _ (field (.ref e) 4 >>= _) _ _ ⟨k1, g, d, tk, os⟩
  refine wpAny_bind (wpAny_field e1 rfl (x := .none) rfl ?_)
  show wpAny _ _ (mkInt c >>= _) _ _ ⟨k1, g, d, tk, os⟩
  refine wpAny_bind (wpAny_mkInt ?_)
  show wpAny _ _ (setField (.ref e) 3 (rawInt (c + 1)) >>= _) _ _ ⟨k1, g, d, tk + 1, os⟩
  refine wpAny_bind (wpAny_setField_rec e1 (by simp) fun k2 e2 u2 => ?_)
  replace u2 : Heap.SameBut e k1 k2 := u2
  replace e2 : IsEnum k2 e it (c + 1) old := e2
  show wpAny _ _ (setField (.ref e) 4 .none >>= _) _ _ ⟨k2, g, d, tk + 1, os⟩
  refine wpAny_bind (wpAny_setField_rec e2 (by simp) fun k3 e3 u3 => ?_)
  replace u3 : Heap.SameBut e k2 k3 := u3
  replace e3 : IsEnum k3 e it (c + 1) old := e3
  show wpAny _ _ (newTuple [.int c tk, x] >>= _) _ _ ⟨k3, g, d, tk + 1, os⟩
  refine wpAny_bind (wpAny_newTuple ?_)
  have n3 : k3.objs.size = k1.objs.size := by rw [u3.1, u2.1]
  have e4 : IsEnum (k3.push { cls := .type "tuple", data := .seq #[.int c tk, x] }) e it (c + 1) old := Heap.get?_push_of_some _ e3
  have el : e < k3.objs.size := Heap.lt_size e3
  have t4 : (k3.push { cls := .type "tuple", data := .seq #[.int c tk, x] }).get? k3.objs.size = some { cls := .type "tuple", data := .seq #[.int c tk, x] } := Heap.get?_push_size _ rfl
  have up4 : ∀ b o, b ≠ e → k1.get? b = some o → (k3.push { cls := .type "tuple", data := .seq #[.int c tk, x] }).get? b = some o := fun b o hb q => Heap.get?_push_of_some _ (u3.extBut b o hb (u2.extBut b o hb q))
  generalize k3.push { cls := .type "tuple", data := .seq #[.int c tk, x] } = k4 at e4 t4 up4
  show wpAny _ _ (Builtin.SmallTypes.ownedTupleIsFree (.ref e) >>= _) _ _ ⟨k4, g, d, tk + 1, os⟩
  refine wpAny_bind ?_
  unfold Builtin.SmallTypes.ownedTupleIsFree
  refine wpAny_bind (wpAny_field e4 rfl (x := .none) rfl (wpAny_pure ?_))
  simp only [if_true]
  refine wpAny_bind (wpAny_rule ?_)
  refine wpAny_bind (wpAny_field e4 rfl (x := old) rfl ?_)
  refine wpAny_bind (wpAny_setField_rec e4 (by simp) fun k5 e5 u5 => ?_)
  replace u5 : Heap.SameBut e k4 k5 := u5
  replace e5 : IsEnum k5 e it (c + 1) x := e5
  show wpAny _ _ (Builtin.SmallTypes.ownedTupleHandOut (.ref e) (.ref k3.objs.size) >>= _) _ _ ⟨k5, g, d, tk + 1, os⟩
  refine wpAny_bind ?_
  unfold Builtin.SmallTypes.ownedTupleHandOut
  refine wpAny_bind (wpAny_setField_rec e5 (by simp) fun k6 e6 u6 => ?_)
  replace u6 : Heap.SameBut e k5 k6 := u6
  replace e6 : IsEnumOut k6 e it (c + 1) x k3.objs.size := e6
  refine wpAny_setField_rec e6 (by simp) fun k7 e7 u7 => ?_
  replace u7 : Heap.SameBut e k6 k7 := u7
  replace e7 : IsEnumOut k7 e it (c + 1) x k3.objs.size := e7
  have ne : k3.objs.size ≠ e := Nat.ne_of_gt el
  have t7 := u7.extBut _ _ ne (u6.extBut _ _ ne (u5.extBut _ _ ne t4))
  rw [n3] at e7 t7
  refine wpAny_bind (wpAny_letGo (wpAny_pure ⟨_, rfl, ?_⟩))
  show Q (.ref k3.objs.size) ⟨k7, g, d, tk + 1, os⟩
  rw [n3]
  exact hQ x k1 k7 tk y e7 t7 fun b o hb q => u7.extBut b o hb (u6.extBut b o hb (u5.extBut b o hb (up4 b o hb q)))
end
def ItEZ (k l : Sk) (xs ys : List V) : It :=
  ⟨fun i H => (k.at H xs ∧ l.at H ys) ∧ i < min xs.length ys.length, fun i H v H' => ∃ T1 T2 x y, v = .ref T2 ∧ H T1 = none ∧ upd H T1 (.tup [x, y]) T2 = none ∧ H' = upd (upd H T1 (.tup [x, y])) T2 (.tup [.int (i : Nat), .ref T1]) ∧ xs[i]? = some x ∧ ys[i]? = some y,
    fun i H => (k.at H xs ∧ l.at H ys) ∧ i = min xs.length ys.length⟩
section
variable {P : Program} {w : World} {K : PySem.W.Frag} {elts : List Expr} {kk : Nat} {tpos : Pos}
theorem turn_enumZip (k l : Sk) (t u : Tok) (xs ys : List V) (e z TI TO i1 i2 : Addr) (nd : [e, z, TI, TO, i1, i2].Nodup) :
    Turn P w K (.Tuple elts kk tpos) (ItEZ k l xs ys) [e, z, TI, TO, i1, i2] e (fun i h => (∃ old, IsEnum h e z ((i : Nat) : Int) old) ∧ ZSt h z TI TO ∧ IsTupOf2 h TI (.ref i1) (.ref i2) ∧ (∃ a1 a2, IsTupOf2 h TO a1 a2) ∧ k.tn t i1 i h ∧ l.tn u i2 i h) where
  mem := by simp
  obj := fun i h st b hb => by
    obtain ⟨⟨old, s0⟩, ⟨f0, bb, s1, _⟩, s2, ⟨a1, a2, s3⟩, s4, s5⟩ := st
    have e' : b = e ∨ b = z ∨ b = TI ∨ b = TO ∨ b = i1 ∨ b = i2 := by simpa using hb
    rcases e' with q | q | q | q | q | q
    · rw [q]; exact ⟨_, s0, fun v q => nomatch q⟩
    · rw [q]; exact ⟨_, s1, fun v q => nomatch q⟩
    · rw [q]; exact ⟨_, s2, fun v q => nomatch q⟩
    · rw [q]; exact ⟨_, s3, fun v q => nomatch q⟩
    · rw [q]; exact Sk.tn_obj s4
    · rw [q]; exact Sk.tn_obj s5
  keep := fun i h h' st hk => by
    obtain ⟨⟨old, s0⟩, ⟨f0, bb, s1, s1'⟩, s2, ⟨a1, a2, s3⟩, s4, s5⟩ := st
    exact ⟨⟨old, hk e (by simp) _ s0⟩, ⟨f0, bb, hk z (by simp) _ s1, s1'⟩, hk TI (by simp) _ s2, ⟨a1, a2, hk TO (by simp) _ s3⟩, Sk.tn_keep s4 fun o q => hk i1 (by simp) o q, Sk.tn_keep s5 fun o q => hk i2 (by simp) o q⟩
  self := fun A i s Q E st h => by
    obtain ⟨⟨old, s0⟩, _⟩ := st
    exact wpAny_pyIter_enum s0 h
  item := by
    intro X hP hw hK hc i pins s σ H E I hf st hg
    subst hP hw hK
    obtain ⟨⟨old, s0⟩, s1, s2, ⟨b1, b2, s3⟩, s4, s5⟩ := st
    obtain ⟨hat, hlt⟩ := hg
    have ne := (hf e (by simp)).1
    have nz := (hf z (by simp)).1
    have nTO := (hf TO (by simp)).1
    have n1 := (hf i1 (by simp)).1
    have n2 := (hf i2 (by simp)).1
    obtain ⟨fp1, St1, P1, D1, d1, d2, d3, d4, d5⟩ := Sk.draws I hat.1 t (P := X.prog) (w := X.w) (A := X.A.in1.in1) (show X.A.in1.in1.handled = none from I.ok.hd hc) n1
    obtain ⟨fp2, St2, P2, D2, f1, f2, f3, f4, f5⟩ := Sk.draws I hat.2 u (P := X.prog) (w := X.w) (A := X.A.in1.in1) (show X.A.in1.in1.handled = none from I.ok.hd hc) n2
    have nd' := nd
    simp only [List.nodup_cons, List.mem_cons, List.mem_nil_iff, not_or, or_false, not_false_eq_true, List.nodup_nil, and_true] at nd'
    obtain ⟨⟨g0, g1, g2, g3, g4⟩, ⟨a1, a2, a3, a4⟩, ⟨c1, c2, c3⟩, ⟨e1, e2⟩, e3⟩ := nd'
    have S : ZipSep2 z TI TO i1 i2 fp1 fp2 := { TIz := Ne.symm a1, TOz := Ne.symm a2, TITO := c1, TIi1 := c2, mem1 := d3, zf1 := off_fp d4 nz a3, Tf1 := off_fp d4 nTO e1, TIi2 := c3, mem2 := f3, zf2 := off_fp f4 nz a4, Tf2 := off_fp f4 nTO e2, sep1_2 := off_fp f4 n1 e3, sep2_1 := off_fp d4 n2 (Ne.symm e3) }
    have hT : s.TypeIs (.ref e) "enumerate" := ⟨_, s0, rfl⟩
    unfold pyNext
    refine wpAny_bind (wpAny_attempt (wpAny_callSpecial?_slot (name := Str.ofString "__next__") hT F.slot_enumerate_next (wpAny_call_entry F.slot_enumerate_next hT F.entry_enumerate_next (enum_over (Y := fun x h1 => ∃ x1 x2, x = .ref s.heap.objs.size ∧ P1 i x1 ∧ P2 i x2 ∧ ZSt h1 z TI TO ∧ (∃ a1 a2, IsTupOf2 h1 TO a1 a2) ∧ St1 (i + 1) h1 ∧ St2 (i + 1) h1 ∧ IsTupOf2 h1 s.heap.objs.size x1 x2 ∧ h1.objs.size = s.heap.objs.size + 1 ∧
      ∀ c o, c ≠ z → c ≠ TO → c ≠ i1 → c ≠ i2 → s.heap.get? c = some o → h1.get? c = some o) s0 (fun Q q => nextOf_zip_item S D1 D2 s1 s2 s3 (d1 i s4) (f1 i s5) (by omega) (by omega) fun x1 x2 h' tk y1 y2 q1 q2 q3 q4 q5 q6 q7 => q _ h' tk ⟨x1, x2, rfl, y1, y2, q1, q2, q3, q4, q5, q6, q7⟩ (q7 _ _ g0 g2 g3 g4 s0)) fun x h1 h' tk y eo t2 keep => wpAny_pure ?_) (F.args_enumerate_next_1 _))))
    obtain ⟨x1, x2, rfl, y1, y2, q1, q2, q3, q4, q5, q6, q7⟩ := y
    refine ⟨_, rfl, wpAny_letOwnedTupleGo_enum (s := { s with heap := h', toks := tk + 1 }) eo fun h2 he2 sb => ?_⟩
    replace sb : Heap.SameBut e h' h2 := sb
    have up : ∀ b o, b ≠ e → h1.get? b = some o → h2.get? b = some o := fun b o hb q => sb.extBut b o hb (keep b o hb q)
    obtain ⟨x', ex, rx⟩ := d5 i x1 y1
    obtain ⟨y', ey, ry⟩ := f5 i x2 y2
    have el : e < s.heap.objs.size := Heap.lt_size s0
    have I1 : Inv X pins σ (upd H s.heap.objs.size (.tup [x', y'])) { s with heap := h1, toks := tk } :=
      I.turnedNew (ch := [z, TO, i1, i2]) (fun b o hb q => q7 b o (fun w => hb (by simp [w])) (fun w => hb (by simp [w])) (fun w => hb (by simp [w])) (fun w => hb (by simp [w])) q) (fun b hb => hf b (by
        have e' : b = z ∨ b = TO ∨ b = i1 ∨ b = i2 := by simpa using hb
        rcases e' with q | q | q | q <;> rw [q] <;> simp)) (Nat.le_refl _) ⟨by show 2 ≤ sizeLine; decide, [x1, x2], .cons rx (.cons ry .nil), ⟨_, q5, rfl, _, rfl⟩⟩
    have fe := hf e (by simp)
    have ne1 : e ≠ s.heap.objs.size := Nat.ne_of_lt el
    have I2 : Inv X pins σ (upd (upd H s.heap.objs.size (.tup [x', y'])) h1.objs.size (.tup [.int (i : Nat), .ref s.heap.objs.size])) { s with heap := h2, toks := tk + 1 } :=
      I1.turnedNew (ch := [e]) (fun b o hb q => up b o (fun w => hb (by simp [w])) q) (fun b hb => by
        have e' : b = e := by simpa using hb
        rw [e']
        exact ⟨by rw [upd_ne ne1]; exact fe.1, fe.2⟩) (Nat.le_refl _) ⟨by show 2 ≤ sizeLine; decide, [.int (i : Nat) tk, .ref s.heap.objs.size], .cons ⟨_, rfl⟩ (.cons rfl .nil), ⟨_, sb.extBut _ _ (by rw [q6]; exact Nat.ne_of_gt (Nat.lt_succ_of_lt el)) t2, rfl, _, rfl⟩⟩
    have fr : H s.heap.objs.size = none := I.hok.fresh (Nat.le_refl _)
    have fr2 : upd H s.heap.objs.size (.tup [x', y']) h1.objs.size = none := I1.hok.fresh (Nat.le_refl _)
    refine ⟨.ref h1.objs.size, _, I2, rfl, ⟨_, _, x', y', rfl, fr, fr2, rfl, ex, ey⟩, ⟨⟨.ref s.heap.objs.size, ?_⟩, ?_, up _ _ (Ne.symm g1) (q7 _ _ (Ne.symm a1) c1 c2 c3 s2), ?_, ?_, ?_⟩, fun b hb => ?_⟩
    · have e1 : ((i + 1 : Nat) : Int) = (i : Int) + 1 := by omega
      rw [e1]
      exact he2
    · obtain ⟨f0, bb, r1, r2⟩ := q1
      exact ⟨f0, bb, up _ _ (Ne.symm g0) r1, r2⟩
    · obtain ⟨r1, r2, r3⟩ := q2
      exact ⟨r1, r2, up _ _ (Ne.symm g2) r3⟩
    · exact Sk.tn_keep (d2 _ _ q3) fun o q => up _ _ (Ne.symm g3) q
    · exact Sk.tn_keep (f2 _ _ q4) fun o q => up _ _ (Ne.symm g4) q
    · have hlt : b < s.heap.objs.size := by
        have e' : b = e ∨ b = z ∨ b = TI ∨ b = TO ∨ b = i1 ∨ b = i2 := by simpa using hb
        obtain ⟨f0, bb, r1, _⟩ := s1
        rcases e' with q | q | q | q | q | q <;> rw [q]
        · exact el
        · exact Heap.lt_size r1
        · exact Heap.lt_size s2
        · exact Heap.lt_size s3
        · obtain ⟨o, eo, _⟩ := Sk.tn_obj s4
          exact Heap.lt_size eo
        · obtain ⟨o, eo, _⟩ := Sk.tn_obj s5
          exact Heap.lt_size eo
      rw [upd_ne (by rw [q6]; exact Nat.ne_of_lt (Nat.lt_succ_of_lt hlt)), upd_ne (Nat.ne_of_lt hlt)]
      exact (hf b hb).1
  done := by
    intro X hP hw hK hc i pins s σ H E I hf st hg
    subst hP hw hK
    obtain ⟨⟨old, s0⟩, s1, s2, ⟨b1, b2, s3⟩, s4, s5⟩ := st
    obtain ⟨hat, hi⟩ := hg
    have nz := (hf z (by simp)).1
    have nTO := (hf TO (by simp)).1
    have n1 := (hf i1 (by simp)).1
    have n2 := (hf i2 (by simp)).1
    obtain ⟨fp1, St1, P1, D1, d1, d2, d3, d4, d5⟩ := Sk.draws I hat.1 t (P := X.prog) (w := X.w) (A := X.A.in1.in1) (show X.A.in1.in1.handled = none from I.ok.hd hc) n1
    obtain ⟨fp2, St2, P2, D2, f1, f2, f3, f4, f5⟩ := Sk.draws I hat.2 u (P := X.prog) (w := X.w) (A := X.A.in1.in1) (show X.A.in1.in1.handled = none from I.ok.hd hc) n2
    have nd' := nd
    simp only [List.nodup_cons, List.mem_cons, List.mem_nil_iff, not_or, or_false, not_false_eq_true, List.nodup_nil, and_true] at nd'
    obtain ⟨⟨g0, g1, g2, g3, g4⟩, ⟨a1, a2, a3, a4⟩, ⟨c1, c2, c3⟩, ⟨e1, e2⟩, e3⟩ := nd'
    have S : ZipSep2 z TI TO i1 i2 fp1 fp2 := { TIz := Ne.symm a1, TOz := Ne.symm a2, TITO := c1, TIi1 := c2, mem1 := d3, zf1 := off_fp d4 nz a3, Tf1 := off_fp d4 nTO e1, TIi2 := c3, mem2 := f3, zf2 := off_fp f4 nz a4, Tf2 := off_fp f4 nTO e2, sep1_2 := off_fp f4 n1 e3, sep2_1 := off_fp d4 n2 (Ne.symm e3) }
    have hT : s.TypeIs (.ref e) "enumerate" := ⟨_, s0, rfl⟩
    unfold pyNext
    refine wpAny_bind (wpAny_attempt (wpAny_callSpecial?_slot (name := Str.ofString "__next__") hT F.slot_enumerate_next (wpAny_call_entry F.slot_enumerate_next hT F.entry_enumerate_next ?_ (F.args_enumerate_next_1 _))))
    show wpAny _ _ (field (.ref e) 2 >>= _) _ _ _
    refine wpAny_bind (wpAny_field s0 rfl (x := .ref z) rfl ?_)
    refine wpAny_bind (nextOf_zip_end S D1 D2 s1 s2 s3 (d1 i s4) (f1 i s5) hi fun h' tk x hk hx => ?_)
    obtain ⟨o, ho, hcx⟩ := hx
    refine wpAny_bind (wpAny_isInstance (T := "StopIteration") (b := true) ⟨o, ho, hcx⟩ isSubtype_stop ?_)
    exact wpAny_pure ⟨rfl, I.turnedL (t' := tk) (ch := [z, TO, i1, i2]) (fun b o hb q => hk b o (fun w => hb (by simp [w])) (fun w => hb (by simp [w])) (fun w => hb (by simp [w])) (fun w => hb (by simp [w])) q) fun b hb => hf b (by
      have e' : b = z ∨ b = TO ∨ b = i1 ∨ b = i2 := by simpa using hb
      rcases e' with q | q | q | q <;> rw [q] <;> simp)⟩
end
section
variable {X : Cx}
theorem zip_made {a b : Expr} {ta : TA} {p pos : Pos} {pins : List (Addr × Obj)} {s : Shared} {σ : St} {H : Hp} {R : Sk → Sk → List V → List V → Hp → Prop} {Q' : Value → Shared → Prop} (hg : Gl X "zip") (hm : X.mg "zip" = none) (ha : PA X [a, b] ta)
    (hs : starEach [a, b] X.env = (false, eval a X.env) :: starEach [b] X.env) (hpl : (backTo pos (starEach [b] X.env)).any (·.1) = false)
    (I : Inv X pins σ H s) (h : ta σ H fun vs H1 => ∃ k l xs ys, vs = [Sk.v k, Sk.v l] ∧ k.at H1 xs ∧ l.at H1 ys ∧ R k l xs ys H1)
    (hQ : ∀ N s' k l t u xs ys H', IsZip s'.heap (N + 4) (N + 2) (N + 3) .none → IsTupOf2 s'.heap (N + 2) (.ref (N : Addr)) (.ref (N + 1 : Addr)) → IsTupOf2 s'.heap (N + 3) .none .none → Sk.tn t (N : Addr) 0 s'.heap k → Sk.tn u (N + 1 : Addr) 0 s'.heap l →
      Inv X pins σ H' s' → (∀ c ∈ [N + 4, N + 2, N + 3, N, N + 1], FpOk X pins H' c) → s'.heap.objs.size = N + 5 → k.at H' xs → l.at H' ys → R k l xs ys H' → Q' (.ref (N + 4 : Addr)) s') :
    wpAny (model X.prog X.w) X.A (eval (.Call (.Name "zip" p) [a, b] [] pos) X.env) Q' X.xe s := by
  refine Call_ (ld_blt I hg hm boot_zip (PyProof.Rows.callWith_type1 (thn (ha.run pos pins s σ H _ I h) fun us s1 ⟨vs, H1, I1, r1, q1⟩ => ?_) hs hpl))
  obtain ⟨k, l, xs, ys, ex, hq, hq2, q⟩ := q1
  subst ex
  cases r1 with
  | cons r rr =>
    cases rr with
    | cons r2 rr =>
      cases rr
      obtain ⟨t, rfl⟩ := Sk.rel r
      obtain ⟨t2, rfl⟩ := Sk.rel r2
      obtain ⟨H1', B1, h1⟩ := Sk.begins I1 hq t
      obtain ⟨H2', B2, h2⟩ := Sk.begins I1 hq2 t2
      refine zip_begins2 B1 B2 h1 h2 fun h' hz hTI hTO g1 g2 hsz hk => ?_
      have I2 : Inv X pins σ H1 { s1 with heap := h' } := I1.kept (t' := s1.toks) hk
      refine hQ s1.heap.objs.size _ k l t t2 xs ys H1 hz hTI hTO (Sk.tn0 g1) (Sk.tn0 g2) I2 (fun b hb => ?_) hsz hq hq2 q
      have hle : s1.heap.objs.size ≤ b := by
        have e' : b = s1.heap.objs.size + 4 ∨ b = s1.heap.objs.size + 2 ∨ b = s1.heap.objs.size + 3 ∨ b = s1.heap.objs.size ∨ b = s1.heap.objs.size + 1 := by simpa using hb
        rcases e' with z | z | z | z | z <;> rw [z] <;> first | exact Nat.le_add_right _ _ | exact Nat.le_refl _
      exact I1.fpOk hle (I1.hok.fresh hle)
def iEnumZip (ta : TA) : TI := fun σ H R => ta σ H fun vs H1 => ∃ k l xs ys, vs = [Sk.v k, Sk.v l] ∧ k.at H1 xs ∧ l.at H1 ys ∧ R (ItEZ k l xs ys) H1
theorem pi_enumZip {a b : Expr} {ta : TA} {p pos tpos p2 pos2 : Pos} {elts : List Expr} {kk : Nat} (hg : Gl X "enumerate") (hm : X.mg "enumerate" = none) (hg2 : Gl X "zip") (hm2 : X.mg "zip" = none) (ha : PA X [a, b] ta)
    (hs : starEach [a, b] X.env = (false, eval a X.env) :: starEach [b] X.env := by rfl) (hpl : (backTo pos2 (starEach [b] X.env)).any (·.1) = false := by rfl)
    (na : starEach [.Call (.Name "zip" p2) [a, b] [] pos2] X.env = (false, eval (.Call (.Name "zip" p2) [a, b] [] pos2) X.env) :: starEach [] X.env := by rfl) :
    PI X (.Tuple elts kk tpos) (.Call (.Name "enumerate" p) [.Call (.Name "zip" p2) [a, b] [] pos2] [] pos) (iEnumZip ta) := by
  refine ⟨fun pins s σ H R I h => ?_⟩
  refine Call_ (ld_blt I hg hm boot_enumerate (PyProof.Rows.callWith_type1 (args_cons (zip_made hg2 hm2 ha hs hpl I h fun N s1 k l t u xs ys H1 hz hTI hTO g1 g2 I1 hf hsz a1 a2 q => args_nil ?_) na) na))
  refine callType_new F.called_enumerate (by decide) (F.typeCall_enumerate_1 _) (F.newCall_enumerate_1 _) (fun obj => F.args_object_init_2 obj _) F.entry_enumerate_new
    (meets_enumerate_newI (itf := fun _ => (N + 4 : Addr)) (hpf := fun h => h) (H := fun h => IsZip h (N + 4) (N + 2) (N + 3) .none) fun prog w A E s Q hz hq => wpAny_pyIter_zip hz hq) ⟨hz, ?_⟩
  let ob : Obj := { cls := .type "enumerate", data := .fields #[.none, .bool false, .ref (N + 4 : Addr), rawInt 0, .none, .none] }
  have he : IsEnum (s1.heap.push ob) s1.heap.objs.size (N + 4) 0 .none := Heap.get?_push_size _ rfl
  have up : ∀ b o, s1.heap.get? b = some o → (s1.heap.push ob).get? b = some o := fun b o x => Heap.get?_push_of_some _ x
  refine ⟨⟨_, he, rfl⟩, ?_⟩
  refine wpAny_pyIter_enum (s := { s1 with heap := s1.heap.push ob }) he ?_
  have I2 : Inv X pins σ H1 { s1 with heap := s1.heap.push ob } := I1.kept (t' := s1.toks) up
  have nd := nodup_off N [5, 4, 2, 3, 0, 1] (by decide)
  have e5 : s1.heap.objs.size = N + 5 := hsz
  refine ⟨s1.heap.objs.size, [s1.heap.objs.size, N + 4, N + 2, N + 3, N, N + 1], _, _, H1, rfl, I2, turn_enumZip k l t u xs ys _ _ _ _ _ _ (by rw [e5]; exact nd), ⟨⟨_, he⟩, ⟨_, _, up _ _ hz, .inl rfl⟩, up _ _ hTI, ⟨_, _, up _ _ hTO⟩, Sk.tn_keep g1 fun o x => up _ _ x, Sk.tn_keep g2 fun o x => up _ _ x⟩, fun b hb => ?_, q⟩
  rcases List.mem_cons.mp hb with z | z
  · rw [z]
    exact I1.fpOk (Nat.le_refl _) (I1.hok.fresh (Nat.le_refl _))
  · exact hf b z
end
end L2
namespace Pd
variable {ℓ : Bool}
open PySem L2
def iEnmZp (d e : DE) : DI := fun n ε P => d n ε fun n1 x => e n1 ε fun n2 y => ∃ xs ys, srcD x = some xs ∧ srcD y = some ys ∧ P n2 (enumD (zipD xs ys))
section
variable {X : Cx} {pos p tpos p2 pos2 : Pos} {tg a b : Expr} {elts : List Expr} {kk : Nat} {da db : DE}
theorem walk_enumZip {K : PySem.W.Frag} {g : Gh} {k l : Sk} {vs ws : List V} {xs ys : List D} (h : ∀ H, Same g.G H → k.at H vs) (dd : Dens K g vs xs) (h' : ∀ H, Same g.G H → l.at H ws) (dd' : Dens K g ws ys) : WalkD ℓ K g (ItEZ k l vs ws) (enumD (zipD xs ys)) := by
  have hl := dd.length
  have hl' := dd'.length
  refine ⟨fun i H hi sm => ⟨⟨h H sm, h' H sm⟩, by rw [enumD_length, zipD_length] at hi; rw [hl, hl']; exact hi⟩, fun H sm => ⟨⟨h H sm, h' H sm⟩, by rw [enumD_length, zipD_length, hl, hl']⟩, fun i x H H' g1 n hi ex ok y => ?_⟩
  obtain ⟨T1, T2, u, v, rfl, hT1, hT2, rfl, e, e'⟩ := y
  obtain ⟨d, e1, dv⟩ := dd.getV e
  obtain ⟨d', e1', dv'⟩ := dd'.getV e'
  have s1 := Stp.add (o := .tup [u, v]) ok hT1
  have o1 := ok.add (o := .tup [u, v]) hT1
  have s2 := Stp.add (o := .tup [.int (i : Nat), .ref T1]) o1 hT2
  have o2 := o1.add (o := .tup [.int (i : Nat), .ref T1]) hT2
  have p1 : Den K (g1.add T1 (.tup [u, v])) (.ref T1) (.tup [d, d']) := .tup (.inl Gh.at) (.cons (dv.mono (ex.trans s1.ext)) (.cons (dv'.mono (ex.trans s1.ext)) .nil))
  exact ⟨_, _, enumD_get (zipD_get e1 e1'), s1.trans s2, o2, .tup (.inl Gh.at) (.cons (.int _) (.cons (p1.mono s2.ext) .nil))⟩
theorem di_enumZip (hg : Gl X "enumerate") (hm : X.mg "enumerate" = none) (hg2 : Gl X "zip") (hm2 : X.mg "zip" = none) (ha : PE X a (liftE ℓ X.K da)) (hb : PE X b (liftE ℓ X.K db)) (hs : starEach [a, b] X.env = (false, eval a X.env) :: starEach [b] X.env := by rfl) (hs2 : starEach [b] X.env = (false, eval b X.env) :: starEach [] X.env := by rfl)
    (hpl : (backTo pos2 (starEach [b] X.env)).any (·.1) = false := by rfl)
    (na : starEach [.Call (.Name "zip" p2) [a, b] [] pos2] X.env = (false, eval (.Call (.Name "zip" p2) [a, b] [] pos2) X.env) :: starEach [] X.env := by rfl) :
    PI X (.Tuple elts kk tpos) (.Call (.Name "enumerate" p) [.Call (.Name "zip" p2) [a, b] [] pos2] [] pos) (liftI ℓ X.K (iEnmZp da db)) :=
  pi_w (pi_enumZip hg hm hg2 hm2 (pa_cons ha (pa_cons hb pa_nil hs2) hs) hs hpl na) fun σ H R ⟨O, g, n, ε, P, r, q, k⟩ => two_ok r q fun x y g' H' n' dx dy q2 s o e1 e2 => by
    obtain ⟨xs, ys, z1, z2, q3⟩ := q2
    obtain ⟨k1, vs, rfl, a1, d1⟩ := den_src e1 z1
    obtain ⟨k2, ws, rfl, a2, d2⟩ := den_src e2 z2
    exact ⟨k1, k2, vs, ws, rfl, a1 _ o.sub, a2 _ o.sub, k _ g' H' n' _ q3 s o (walk_enumZip a1 d1 a2 d2)⟩
end
end Pd
namespace Pd
open PySem PyProof.Rows L2
def TabBs (K : PySem.W.Frag) (mg : Str → Option Value) (base : Heap) : Prop := ∀ (c P : Addr) (q : Str) (o : Obj), K.lookup c = some o → tabOf o = some (P, q) → LamX.TabB base mg c P
theorem law_calledG {P : Program} {w : World} {K : PySem.W.Frag} {mg mb : Str → Option Value} {k : Nat} {fa a : Addr} {x : Str} {sp : FD} {s : Shared} {vs : List Value} {ns : List Int}
    (KX : K.In s.heap) (TA : TabAt s.heap K) (hbm : ∃ (bm : Addr) (ob : Obj), mg "__builtins__" = some (.ref bm) ∧ bm ≠ builtinsNs ∧ s.heap.get? bm = some ob ∧ ob.cls = .type "module" ∧ ob.dict = some builtinsNs ∧ ob.data = .plain) (hns : s.heap.Ns mainGlobals mg) (hb : s.heap.Ns builtinsNs mb) (hbb : ∀ x : Str, x ≠ "__name__" → mb x = bootBuiltins x) (hlim : s.heap.NoLimit) (hg : s.gens = #[])
    (ha : s.heap.get? a = some { cls := .type "list", data := .seq vs.toArray }) (hi : IntsAre vs ns) (hl : ns.length ≤ sizeLine) (hr : Room k callerA)
    (F : ∀ base : Heap, K.In base → base.Ns mainGlobals mg → TabBs K mg base → HasG false P w K mg base k fa [x] [] sp)
    (hsp : sp [.scr ns] 1000000000 fun _ r => r = .bl true) :
    codeAny (model P w) callerA (.call (.ref fa) ⟨[.ref a], []⟩) (fun r s' => r = .ok (.ret (.bool true)) ∧ OldK s.heap s'.heap ∧ s'.os = s.os ∧ AllBare s'.gens) s := by
  obtain ⟨H0, hO0, hS0, hok0, hA0⟩ := script_track (P := P) (w := w) KX ha hi hl
  have atT : ∀ b, b ∈ (tabsK K).map (·.1) → s.heap.get? b = some { cls := .none, data := .fields #[] } := fun b hb => by
    obtain ⟨p, hp, rfl⟩ := List.mem_map.mp hb
    exact TA.obj p hp
  have aT : a ∉ (tabsK K).map (·.1) := fun z => by
    have q := atT a z
    rw [ha] at q
    have z' : Data.seq vs.toArray _ = Data.fields #[] := congrArg Obj.data (Option.some.inj q)
    cases z'
  obtain ⟨H, hH⟩ : ∃ H : Hp, H = fun b => if b ∈ (tabsK K).map (·.1) then some (.tbl #[]) else H0 b := ⟨_, rfl⟩
  have onT : ∀ b, b ∈ (tabsK K).map (·.1) → H b = some (.tbl #[]) := fun b hb => by rw [hH]; exact if_pos hb
  have offT : ∀ b, b ∉ (tabsK K).map (·.1) → H b = H0 b := fun b hb => by rw [hH]; exact if_neg hb
  have sm : Same H0 H := fun b u e => by
    rw [offT b (by rw [(hA0 b (by rw [e]; exact Option.some_ne_none u)).1]; exact aT)]
    exact e
  have hS : SqL K H a (ns.map V.int) := sm.seq hS0
  have hok : HOk P w H s.heap := fun b u e => by
    by_cases hb : b ∈ (tabsK K).map (·.1)
    · rw [onT b hb] at e
      cases e
      exact atT b hb
    · rw [offT b hb] at e
      exact (hok0 b u e).stay (fun _ _ _ q => q) (fun c q => sm _ _ q) fun c xs q => sm _ _ q
  have low : ∀ {b : Addr} {o : Obj}, s.heap.get? b = some o → H b = none → (hidT s.heap H).get? b = some o := fun e n => hidT_get e n
  have noH : ∀ {b : Addr} {o : Obj}, s.heap.get? b = some o → (∀ vs n, o.data ≠ .seq vs n) → o.data ≠ .fields #[] → H b = none := fun {b o} e d1 d2 => by
    by_cases hb : b ∈ (tabsK K).map (·.1)
    · rw [atT b hb] at e
      cases e
      exact (d2 rfl).elim
    · rw [offT b hb]
      refine Classical.byContradiction fun n => ?_
      rw [(hA0 b n).1, ha] at e
      cases e
      exact d1 _ _ rfl
  have dictOff : ∀ {b : Addr} {o : Obj} {es : Array DictEntry} {ep : Nat}, s.heap.get? b = some o → o.data = .dict es ep → H b = none := fun {b o es ep} e d => noH e (fun vs n z => by rw [d] at z; cases z) fun z => by rw [d] at z; cases z
  have nsUp : ∀ {b : Addr} {m : Str → Option Value}, s.heap.Ns b m → (hidT s.heap H).Ns b m := fun {b m} q => by
    obtain ⟨o, es, ep, e, d, r⟩ := q
    exact ⟨o, es, ep, low e (dictOff e d), d, r⟩
  have KB : K.In (hidT s.heap H) := fun b o e => low (KX b o e) (by
    by_cases hb : b ∈ (tabsK K).map (·.1)
    · obtain ⟨p, hp, rfl⟩ := List.mem_map.mp hb
      rw [TA.out p hp] at e
      cases e
    · rw [offT b hb]
      refine Classical.byContradiction fun n => ?_
      rw [(hA0 b n).2] at e
      cases e)
  have M : Mod K mg (hidT s.heap H) := by
    obtain ⟨mc, h1, h2⟩ := hlim
    exact ⟨KB, nsUp hns, ⟨mb, nsUp hb, hbb⟩, mc, nsUp h1, h2⟩
  have none0 : ∀ {b : Addr}, ¬ b ∈ ([] : List Addr) := fun z => nomatch z
  have e0 : Env0 P w K mg (hidT s.heap H) callerA [] s H := ⟨rfl, M, fun b o e => of_hidT e, Nat.le_of_eq (hidT_size _ _), trivial, fun b z => absurd (show b ∈ ([] : List Addr) from z) none0, hok, .of_eq hg⟩
  have TBs : TabBs K mg (hidT s.heap H) := fun c Pt q o hl ht => by
    have hm := tabs_mem hl ht
    have hP := TA.obj _ hm
    obtain ⟨bm, ob, b1, b2, b3, b4, b5, b6⟩ := hbm
    refine ⟨PySem.W.codeHd_of_K KB (TA.code c Pt q o hl ht), ⟨bm, ob, b1, b2, fun z => ?_, fun z => ?_, low b3 (noH b3 (fun vs n z => by rw [b6] at z; cases z) fun z => by rw [b6] at z; cases z), b4, b5, b6⟩, fun z => ?_⟩
    · obtain ⟨o, es, ep, e, hd, _⟩ := hns
      rw [z, e] at b3
      cases b3
      rw [hd] at b6
      cases b6
    · rw [z] at b3
      rw [show s.heap.get? Pt = _ from hP] at b3
      cases b3
      cases b6
    · obtain ⟨o, es, ep, e, hd, _⟩ := hns
      rw [z, show s.heap.get? Pt = _ from hP] at e
      cases e
      cases hd
  let g : Gh := ⟨H0, fun b => b ∈ (tabsK K).map (·.1), []⟩
  have ok : Ok false K g H 1000000000 := by
    refine ⟨sm, fun b hb => ⟨?_, ?_⟩, ⟨fun p hp => ?_, fun p hp => List.mem_map.mpr ⟨p, hp, rfl⟩, fun b ps e => ?_⟩, CelOk.nil⟩
    · refine Classical.byContradiction fun n => ?_
      exact aT (by rw [← (hA0 b n).1]; exact hb)
    · obtain ⟨p, hp, rfl⟩ := List.mem_map.mp hb
      exact .inl (.inl ⟨p.2, hp⟩)
    · exact LamX.TabS.nil (onT _ (List.mem_map.mpr ⟨p, hp, rfl⟩))
    · by_cases hb : b ∈ (tabsK K).map (·.1)
      · obtain ⟨p, hp, rfl⟩ := List.mem_map.mp hb
        exact ⟨p.2, hp⟩
      · rw [offT b hb] at e
        rcases hO0 b with z | ⟨ob, xs, z⟩ <;> (rw [z] at e; cases e)
  have L : liftF false K sp [.ref a] H (fun v _ => v = .bl true) E0 := ⟨g, 1000000000, [.scr ns], _, ok, .cons (.scr hS0) .nil, hsp, fun v g' H' n' r q _ _ d => by
    have q' : r = .bl true := q
    rw [q'] at d
    cases d
    rfl⟩
  obtain ⟨fd, dvs, ds, FG, _, B, hv, hd⟩ := (F _ KB (nsUp hns) TBs).ex
  have hdv : dvs = [] := by
    cases hd g
    rfl
  subst hdv
  have hds : ds = [] := by
    cases hv
    rfl
  subst hds
  refine codeAny_mono (FG.run callerA [] s H ⟨[.ref a], []⟩ [.ref a] [.ref a] _ E0 hr rfl e0 (B s [.ref a] KX rfl) (.cons rfl .nil) L) fun r s' z => ?_
  match r, z with
  | .error _, z => exact False.elim z
  | .ok .next, z => exact False.elim z
  | .ok .brk, z => exact False.elim z
  | .ok .cont, z => exact False.elim z
  | .ok (.ret u), z =>
    obtain ⟨v, H', os, bare, un, hok', rv, q⟩ := z
    have q' : v = .bl true := q
    rw [q'] at rv
    obtain rfl : u = Value.bool true := rv
    have same : ∀ b o, b ∉ (tabsK K).map (·.1) → s.heap.get? b = some o → s'.heap.get? b = some o := fun b o nb e => by
      rcases hO0 b with hz | ⟨ob, xs, hz⟩
      · exact un.keep b o e (by rw [offT b nb]; exact hz) (fun z => absurd (show b ∈ ([] : List Addr) from z) none0) (by simp)
      · have hz' : H b = some (.frz ob (.lst xs)) := sm _ _ hz
        obtain ⟨e1, _⟩ := hok b _ hz'
        obtain ⟨e2, _⟩ := hok' b _ (un.frzs b ob _ hz')
        rw [e] at e1
        cases e1
        exact e2
    have grown : ∀ b, b ∈ (tabsK K).map (·.1) → ∃ more : Array Value, s'.heap.get? b = some { cls := .none, data := .fields more } := fun b hb => by
      obtain ⟨more, z⟩ := un.tbls b #[] (onT b hb)
      exact ⟨_, hok' b _ z⟩
    refine ⟨rfl, ⟨fun b o e => ?_, fun b o e => ?_⟩, os, bare⟩
    · by_cases hb : b ∈ (tabsK K).map (·.1)
      · obtain ⟨more, hm⟩ := grown b hb
        obtain ⟨p, hp, ep⟩ := List.mem_map.mp hb
        obtain ⟨c, o1, hl1, ht1⟩ := tabs_of hp
        have CH := PySem.W.codeHd_of_K KX (TA.code c p.1 p.2 o1 hl1 ht1)
        have tb := atT b hb
        rw [tb] at e
        cases e
        rw [← ep] at hm tb ⊢
        exact .inr (.inl ⟨(CH.tab tb).isCodeTable, rfl, #[], more, rfl, by rw [Array.empty_append]; exact hm⟩)
      · exact .inl (same b o hb e)
    · by_cases hb : b ∈ (tabsK K).map (·.1)
      · obtain ⟨more, hm⟩ := grown b hb
        exact ⟨_, hm⟩
      · exact ⟨o, same b o hb e⟩
theorem law_walkG {l : PySem.W.OpenLaw} {n k : Nat} {q : Program} {loose : List Str} {XP : (Str → Option Value) → Heap → Prop} {YP : World → Heap → Prop} {d : DefRec} {x : Str}
    (hn : l.most = some n) (hn2 : n ≤ sizeLine) (hdf : d.params.defaults = []) (hr : Room k callerA)
    (F : ∀ (w : World) (mg : Str → Option Value) (fa : Addr) (h : Heap), YP w h → h.Ns mainGlobals mg → mg d.name = some (.ref fa) →
      ∃ (K : PySem.W.Frag) (sp : FD), K.In h ∧ TabAt h K ∧
        (∀ ns : List Int, ns.length ≤ n → sp [.scr ns] 1000000000 fun _ r => r = .bl true) ∧
        ∀ base : Heap, K.In base → base.Ns mainGlobals mg → TabBs K mg base → HasG false l.prog w K mg base k fa [x] [] sp) :
    PySem.W.WalkO q loose XP YP l.row.toRowW d [] (fun f vs => PySem.call f vs) := by
  refine Att.attach_call hn hdf fun w s₀ s₁ mg mb fa o pm cd doc a vs ns G Y ho hd hcd hmg hobj hints hlen hg => ?_
  obtain ⟨K, sp, KX, TA, hsp, hF⟩ := F w mg fa _ Y G.T.g hmg
  exact law_calledG KX TA G.T.bmain G.T.g G.T.b G.T.builtins G.T.nolimit hg hobj hints (Nat.le_trans hlen hn2) hr hF (hsp ns hlen)
end Pd
namespace PySem
end PySem
namespace L2
open PySem PySem.Spec PyProof.Rows
end L2
namespace Pd
open PySem L2
end Pd
namespace L2
open PySem PySem.Spec PyProof.Rows
end L2
namespace Pd
variable {ℓ : Bool}
open PySem L2 PyProof.Rows
variable {W : WX}
def beginD : D := .tupK [.tupK [], .int 0, .int 0, .int 0]
section
variable {P : Program} {w : World} {K : PySem.W.Frag} {mg : Str → Option Value} {base : Heap} {k : Nat} {f : Addr} {ps : List Str} {x qual : Str} {params : Arguments} {body : List Stmt} {scope : Scope} {N : List Str} {b : DS} {sp : FD} {dvs : List V} {dd : List D}
theorem has_fD (D : ∃ fd, FunD K x qual params body scope dvs [] f fd) (S : FnScope N ps scope) (n j : Nat) (hd : dvs ≠ []) (hn : n + (dvs.length - j) = ps.length)
    (hbind : ∀ (T : Addr) (kV doc pm : Value) (an : Option Addr) (cdv ct : Value) (us its : List Value), us.length = n → its.length = dvs.length →
      ∃ k, bindArgs (PySem.W.fnOf x qual params body scope (.ref T) kV doc pm an cdv ct) ⟨us, []⟩ = seqItems? (.ref T) >>= k ∧ k (some its.toArray) = pure (ps.zip (us ++ its.drop j)))
    (hdd : ∀ g, Dens K g (dvs.drop j) dd)
    (hb : ∀ (fd : FuncData) (cdv : Value) (A : Around) (outer : List Env) (s : Shared) (H : Hp) (E : XK), Room k (A.deeper (PyProof.Rows.envOfC qual scope s.heap.objs.size f cdv)) → PSs (cxOf CX0 P w K mg base N qual scope f cdv A outer s H E).nox body (liftS ℓ W0 K b))
    (hs : ∀ ds n Q, sp ds n Q → dFn N.length ps.length b ds n Q) : HasF ℓ P w K mg base (k + 1) f ps dd sp := by
  obtain ⟨fd, F⟩ := D
  obtain ⟨ds, hv, hB⟩ := F.binds1 n j hd hn hbind
  exact ⟨fd, _, ds, fn_ok F S (fun cdv A outer s H E hr => hb fd cdv A outer s H E hr) hs, F.kp, hB, hv, hdd⟩
end
def gIsB : G2 := fun x y P => match x, y with
  | .bl a, .bl b => P (.bl (decide (a = b)))
  | _, _ => False
def gIsNotB : G2 := fun x y P => match x, y with
  | .bl a, .bl b => P (.bl (!decide (a = b)))
  | _, _ => False
end Pd
namespace L2
open PySem PySem.Spec PyProof.Rows HT
section
variable {X : Cx}
def KnT (o : Obj) : Prop := o.cls = .type "tuple" ∧ o.dict = none
def rSlF (K : PySem.W.Frag) : V → Option Int → Option Int → Hp → VK → Prop := fun x lo hi H Q => ∃ a xs, x = .ref a ∧ SqT K H a xs ∧
  ¬ (HT.sIx xs.length 0 lo = 0 ∧ HT.sIx xs.length xs.length hi = xs.length) ∧ ∀ p o, H p = none → KnT o → Q (.ref p) (upd H p (.frz o (.tup (cutV xs lo hi))))
theorem sl_tupF : SlR X (rSlF X.K) := by
  intro pins s σ H x v vl vu lo hi sl Q I rx hs pl pu h
  obtain ⟨a, xs, rfl, hx, hw, q⟩ := h
  cases rx
  obtain ⟨its, r, ht, hz⟩ := I.tuple hx
  have hlen : its.toArray.size = xs.length := by rw [List.size_toArray]; exact r.length.symm
  refine ⟨"tuple", _, PyProof.Rows.slot_tuple_getitem.lookup, ht.typeIs, ?_⟩
  refine HT.getItem_tuple_cut ht hs pl pu (by rw [hlen]; exact hw) ?_ (by rw [hlen]; exact hz)
  rw [hlen]
  refine ⟨.ref s.heap.objs.size, _, I.laid (t' := s.toks) (o := .frz { cls := .type "tuple", data := .seq ((its.toArray.toList.drop (sIx xs.length 0 lo)).take (sIx xs.length xs.length hi - sIx xs.length 0 lo)).toArray } (.tup (cutV xs lo hi))) (fun b ob q => Heap.get?_push_of_some _ q) (Nat.le_refl _) ?_, rfl, q _ _ (I.hok.fresh (Nat.le_refl _)) ⟨rfl, rfl⟩⟩
  refine ⟨Heap.get?_push_size _ rfl, Nat.le_trans (cutV_length xs lo hi) hz, _, (r.drop (HT.sIx xs.length 0 lo)).take (HT.sIx xs.length xs.length hi - HT.sIx xs.length 0 lo), IsTup.new _ _⟩
def rTupF (K : PySem.W.Frag) : List V → Hp → VK → Prop := fun xs H Q => ∃ p ys, xs = [.ref p] ∧ ((SqL K H p ys ∧ ∀ l o, H l = none → KnT o → Q (.ref l) (upd H l (.frz o (.tup ys)))) ∨ (SqT K H p ys ∧ Q (.ref p) H))
theorem call_tupF : CallR X (.type "tuple") (rTupF X.K) := by
  intro pins s σ H xs us Q I r h
  obtain ⟨p, ys, rfl, h⟩ := h
  obtain ⟨u, rfl, rx⟩ := vals1 r
  cases rx
  rcases h with ⟨hq, q⟩ | ⟨hq, q⟩
  · obtain ⟨its, r', pl, hz⟩ := I.list hq
    have hlen := r'.length
    refine call_tuple_list pl.isList (fun h' kp => ?_) (by simp only [List.size_toArray] <;> omega)
    have I1 : Inv X pins σ H { s with heap := h' } := I.kept (t' := s.toks) kp
    have I2 : Inv X pins σ (upd H h'.objs.size (.frz { cls := .type "tuple", data := .seq its.toArray } (.tup ys))) { s with heap := h'.push { cls := .type "tuple", data := .seq its.toArray } } :=
      I1.laid (t' := s.toks) (fun b o e => Heap.get?_push_of_some _ e) (Nat.le_refl _) (show ObjOk X.prog X.w _ _ _ (.frz _ (.tup ys)) from ⟨Heap.get?_push_size _ rfl, hz, its, r', IsTup.new _ _⟩)
    exact ⟨.ref h'.objs.size, _, I2, rfl, q _ _ (I1.hok.fresh (Nat.le_refl _)) ⟨rfl, rfl⟩⟩
  · obtain ⟨its, r', pl, hz⟩ := I.tuple hq
    exact call_tuple_same pl ⟨.ref p, H, I, rfl, q⟩
variable {o e : Expr} {es : List Expr} {to : TE} {t : TA} {name : Str} {apos cpos : Pos} {id : String} {r : V → List V → Hp → VK → Prop}
end
end L2
namespace Pd
variable {ℓ : Bool}
open PySem L2
section
variable {X : Cx} {pos apos : Pos} {o e : Expr} {da db : DE}
def dSlF (d : DE) (l h : DP) : DE := fun n ε P => d n ε fun n1 x => l n1 ε fun n2 lo => h n2 ε fun n3 hi => match x with
  | .tup xs => ¬ (HT.sIx xs.length 0 lo = 0 ∧ HT.sIx xs.length xs.length hi = xs.length) ∧ P n3 (.tupF (cut xs lo hi))
  | _ => False
theorem Fin.newF {K : PySem.W.Frag} {g : Gh} {H : Hp} {n : Nat} {P : D → Prop} {Q : VK} (f : Fin ℓ K g H n P Q) (ok : Ok ℓ K g H n) {vs : List V} {ds : List D} (p : P (.tupF ds)) (h : Dens K g vs ds) {a : Addr} {ob : Obj} (ha : H a = none) (hk : KnT ob) : Q (.ref a) (upd H a (.frz ob (.tup vs))) :=
  f _ _ _ _ p (Stp.add ok ha) (ok.add ha) (.tupF Gh.at hk.1 hk.2 (h.mono (Stp.add ok ha).ext))
theorem de_slF {p2 : Pos} {lo hi : Option Expr} {d : DE} {dl dh : DP} (he : PE X e (liftE ℓ X.K d)) (hl : PO X lo (liftP ℓ X.K dl)) (hu : PO X hi (liftP ℓ X.K dh)) : PE X (.Subscript e (.Slice lo hi none p2) pos) (liftE ℓ X.K (dSlF d dl dh)) :=
  de_of (pe_slice (r := rSlF X.K) sl_tupF he hl hu) fun O g H n σ ε P Q r q k => ⟨O, g, n, ε, _, r, q, fun v g1 H1 n1 x q1 s1 o1 e1 => ⟨O, g1, n1, ε, _, r.step s1 o1, q1, fun l g2 H2 n2 q2 s2 o2 => ⟨O, g2, n2, ε, _, (r.step s1 o1).step s2 o2, q2, fun u g3 H3 n3 q3 s3 o3 => by
    have e3 := e1.mono (s2.trans s3).ext
    have f : Fin ℓ X.K g3 H3 n3 (P n3) Q := Fin.of k ((s1.trans s2).trans s3)
    cases e3 with
    | tup h1 h2 => exact ⟨_, _, rfl, .inl (h1.same o3.sub), by rw [h2.length]; exact q3.1, fun p o hp hk => f.newF o3 q3.2 (h2.cut l u) hp hk⟩
    | _ => exact q3.elim⟩⟩⟩
def gTupF : GC := fun ds P => match ds with
  | [.lst xs] => P (.tupF xs)
  | [.tupF xs] => P (.tupF xs)
  | _ => False
theorem so_tupF : SCall ℓ X.K (rTupF X.K) gTupF := ⟨fun {g H n xs ds P Q} ok ex q k => by
  match ds, ex, q with
  | [.lst l], .cons (.lst h1 h2) .nil, q => exact ⟨_, _, rfl, .inl ⟨SqL.of (ok.sub _ _ h1), fun p o hp hk => k.newF ok q h2 hp hk⟩⟩
  | [.tupF l], .cons (.tupF h1 c d h2) .nil, q => exact ⟨_, _, rfl, .inr ⟨.inl (.inr ⟨_, ok.sub _ _ h1⟩), k.flat ok q (.tupF h1 c d h2)⟩⟩⟩
def dWk (d : DE) : DE := fun n ε P => d n ε fun n1 x => match x with
  | .tupF xs => P n1 (.tup xs) ∨ P n1 (.tupF xs)
  | _ => False
theorem de_wk (he : PE X e (liftE ℓ X.K da)) : PE X e (liftE ℓ X.K (dWk da)) :=
  de_of he fun O g H n σ ε P Q r q k => ⟨O, g, n, ε, _, r, q, fun v g1 H1 n1 x q1 s1 o1 e1 => by
    cases e1 with
    | tupF h1 c d h2 =>
      rcases q1 with q1 | q1
      · exact k _ g1 H1 n1 _ q1 s1 o1 (Den.weak (.tupF h1 c d h2))
      · exact k _ g1 H1 n1 _ q1 s1 o1 (.tupF h1 c d h2)
    | _ => exact q1.elim⟩
end
end Pd
namespace Pd
open PySem L2
end Pd
namespace L2
open PySem PySem.Spec PyProof.Rows HT
end L2
namespace Pd
open PySem L2
end Pd
namespace Pd
variable {ℓ : Bool}
open PySem L2
variable {W : WX}
mutual
def D.still : D → Bool
  | .non => true
  | .bl _ => true
  | .int _ => true
  | .str _ => true
  | .tup xs => D.stills xs
  | .tupK xs => D.stills xs
  | .tupF xs => D.stills xs
  | .pot => true
  | .cel _ _ => false
  | .ref _ => true
  | .err _ d => d.still
  | _ => false
def D.stills : List D → Bool
  | [] => true
  | x :: xs => x.still && D.stills xs
end
section
variable {X : Cx} {C : Addr} {pos pos' : Pos} {o e : Expr} {d : DE} {i : Nat} {f : Str}
def dTmq (i : Nat) (d : DE) : DE := fun n ε P => d n (frzE ε i) fun n' r => r.still = true ∧ P n' r
def dFldO (C : Addr) (i : Nat) (f : Str) : DE := fun n ε P => match ε[i]? with
  | some (.own (.ins C' fs)) => C' = C ∧ ∃ y, fs.lookup f = some y ∧ P n y
  | _ => False
end
abbrev DQ := Nat → Ev → (Nat → List (Str × D) → Prop) → Prop
def qMake (fi : FI) (dd : List D) (t : DA) : DQ := fun n ε P => t n ε fun n1 ds => fi (ds ++ dd) n1 P
section
variable {X : Cx} {C : Addr} {pos : Pos} {x : Str} {p : Pos} {e : Expr} {es : List Expr} {t : DA} {k : Nat} {ps : List Str} {dd : List D} {fi : FI} {dvs : List V} {E : XK}
def dSetQ (C : Addr) (i : Nat) (d : DQ) : DS := fun N n ε => N.slf ≠ some C ∧ d n ε fun n1 fs => N.nx n1 (ε.set i (.own (.ins C fs)))
variable {q : DQ} {i : Nat} {y : Str} {pos' : Pos} {a : Expr}
def dParQ (C : Addr) (i j : Nat) (q : DQ) (d : DE) : DS := fun N n ε => N.slf ≠ some C ∧ q n ε fun n1 fs => d n1 ε fun n2 y => N.nx n2 ((ε.set i (.own (.ins C fs))).set j (.val y))
end
abbrev FM := List (Str × D) → List D → Nat → (Nat → List (Str × D) → Prop) → Prop
def dMut (C : Addr) (i : Nat) (m : Str) (sp : FM) (dd : List D) (t : DA) : DS := fun N n ε => match ε[i]? with
  | some (.own (.ins C' fs)) => C' = C ∧ fs.lookup m = none ∧ t n ε fun n1 ds => sp fs (ds ++ dd) n1 fun n2 fs' => N.nx n2 (ε.set i (.own (.ins C fs')))
  | _ => False
end Pd
namespace Pd
open PySem L2
end Pd
namespace Pd
open PySem L2
end Pd
namespace Pd
variable {ℓ : Bool}
open PySem L2
variable {W : WX}
def rsz (i j c : Int) : Nat := (if i < j then (j - i - 1) / c + 1 else 0).toNat
theorem rsz_eq {i j c : Int} (hc : 0 < c) : Builtin.Range.rangeSize i j c = (rsz i j c : Nat) := by
  unfold Builtin.Range.rangeSize rsz
  rw [if_pos (by omega)]
  split
  · have := Int.ediv_nonneg (a := j - i - 1) (b := c) (by omega) (by omega)
    omega
  · rfl
theorem RgC.pos {i j c : Int} (hc : 0 < c) (hc' : c < 1073741824) (ha : -(2 ^ 60) ≤ i) (ha' : i < 2 ^ 60) (hb : -(2 ^ 60) ≤ j) (hb' : j < 2 ^ 60) : RgC i j c (rsz i j c) := by
  refine ⟨by omega, by omega, ?_, rsz_eq hc⟩
  have h1 : Builtin.Range.rangeSize i j c ≤ 2 ^ 62 ∧ 0 ≤ Builtin.Range.rangeSize i j c := by
    unfold Builtin.Range.rangeSize
    rw [if_pos (by omega)]
    split
    · have h1 := Int.ediv_le_self c (show (0 : Int) ≤ j - i - 1 by omega)
      have h2 := Int.ediv_nonneg (a := j - i - 1) (b := c) (by omega) (by omega)
      omega
    · omega
  unfold Builtin.Range.small
  simp only [Builtin.Range.rangeFitsLong, Bool.and_eq_true, Bool.or_eq_true, decide_eq_true_eq, beq_iff_eq, if_pos (show c > 0 from hc)]
  omega
end Pd
namespace Pd
open PySem L2
end Pd
namespace L2
open PySem PySem.Spec PyProof.Rows HT
def keyS (e : Int × Value) : Str := match e.2 with | .str k _ => k | _ => ⟨#[]⟩
def GoodT (w : World) (e : Int × Value) : Prop := ∃ k tk, e.2 = Value.str k tk ∧ e.1 = hashStr w k
def SetT (w : World) (h : Heap) (a : Addr) (S : Str → Bool) (n : Nat) : Prop :=
  ∃ o es ep t, h.get? a = some o ∧ o.ExactSet ∧ o.data = .set es ep t ∧ (∀ e ∈ es.toList, GoodT w e) ∧ (es.toList.map keyS).Nodup ∧ (∀ k, S k = true ↔ k ∈ es.toList.map keyS) ∧
    es.size < scanBound ∧ t.fits es.size = true ∧ es.size = n ∧ Ris t.place.toList ∧ (w.params.followText "set-order" = true ∨ t.led = true)
section
variable {P : Program} {w : World} {h h' : Heap} {a : Addr} {S : Str → Bool} {n : Nat}
theorem SetT.at (R : SetT w h a S n) (k : ∀ o, h.get? a = some o → h'.get? a = some o) : SetT w h' a S n := by
  obtain ⟨o, es, ep, t, ho, r⟩ := R
  exact ⟨o, es, ep, t, k o ho, r⟩
end
end L2
namespace L2
open PySem PySem.Spec PyProof.Rows HT
end L2
namespace Pd
open PySem L2
end Pd
namespace L2
open PySem PySem.Spec PyProof.Rows HT
end L2
namespace Pd
open PySem L2
end Pd
namespace L2
open PySem PySem.Spec PyProof.Rows HT
end L2
namespace Pd
open PySem L2
end Pd
namespace Pd
open PySem L2
end Pd
namespace L2
open PySem PySem.Spec PyProof.Rows HT
end L2
namespace L2
open PySem PySem.Spec PyProof.Rows HT
end L2
namespace Pd
open PySem L2
end Pd
namespace Pd
variable {ℓ : Bool}
open PySem L2
def rOwn (C : Addr) (ng : Bool) (sp : Sp) : R2 := fun x y H Q => ∃ a b dx dy fs gs, x = .ref a ∧ y = .ref b ∧ H a = some (.ins C dx fs) ∧ H b = some (.ins C dy gs) ∧ sp [.ref a, .ref b] H (fun v H' => ∃ k, v = .bl k ∧ Q (.bl (k != ng)) H') E0
section
variable {X : Cx} {n : Nat} {C f : Addr} {fd : FuncData} {ps : List Str} {sp : Sp} {pins : List (Addr × Obj)} {σ : L2.St} {H : Hp} {s : Shared} {a b : Addr}
theorem own_called (F : FnOk X.prog X.w X.K X.mg X.base CX0 n f fd ps sp) (hb : Binds X.K fd ps []) {A : Around} (hr : Room n A) (hfr : A.frames = X.A.frames) (I : Inv X pins σ H s) {Q : Bool → Hp → Prop}
    (q : sp [.ref a, .ref b] H (fun v H' => ∃ k, v = .bl k ∧ Q k H') E0) {E : Value → Shared → Prop} :
    wpAny (model X.prog X.w) A (call (.ref f) [.ref a, .ref b]) (fun r s' => ∃ k H', r = .bool k ∧ Inv X pins σ H' s' ∧ Q k H') E s := by
  have hl := F.len _ _ _ _ q
  have hbt := hb s [.ref a, .ref b] I.kIn (by simpa using hl)
  have e := I.env0
  have e0 : Env0 X.prog X.w X.K X.mg X.base A X.stack s H := ⟨hfr.trans e.frames, e.mod, e.bs, e.bsz, e.funs, e.frf, e.hok, e.bare⟩
  refine wpAny_call (codeAny_mono (F.run A X.stack s H ⟨[.ref a, .ref b], []⟩ [.ref a, .ref b] [.ref a, .ref b] _ _ hr e0 (by simpa using hbt) (.cons rfl (.cons rfl .nil)) q) fun r s' z => ?_)
  cases r with
  | error er =>
    have z' : CX0 X.stack H s E0 er s' := z
    exact z'.elim
  | ok fl =>
    cases fl with
    | ret w =>
      obtain ⟨v, H', I', rv, k, ek, qk⟩ := I.after z
      subst ek
      cases rv
      exact ⟨k, H', rfl, I', qk⟩
    | next => exact False.elim z
    | brk => exact False.elim z
    | cont => exact False.elim z
theorem ins_both (I : Inv X pins σ H s) {dx dy : Addr} {fs gs : List (Str × V)} (ha : H a = some (.ins C dx fs)) (hb : H b = some (.ins C dy gs)) :
    ∃ ox od oy od', PySem.W.InstAt s.heap a ox C od ∧ PySem.W.InstAt s.heap b oy C od' := by
  obtain ⟨_, J, _⟩ := ins_get I.hok ha
  obtain ⟨_, J', _⟩ := ins_get I.hok hb
  obtain ⟨od, J, _⟩ := J.look
  obtain ⟨od', J', _⟩ := J'.look
  exact ⟨_, _, _, _, J, J'⟩
theorem ne_slot : Slot "object" "__ne__" "object.__ne__" := PySem.F.cmp_object.ne
theorem ne_body {K : PySem.W.Frag} {A : Around} {ox : Obj} {od : Option Obj} {Q : PySem.Fin → Shared → Prop} {E : Value → Shared → Prop} (hu : A.units < cLine) (KX : K.In s.heap) (J : PySem.W.InstAt s.heap a ox C od) (hs : PySem.W.findIn K (.ref C) "__eq__" = some (some (.ref f))) (hf : PySem.W.isFn K (.ref f) = true)
    (h : wpAny (model X.prog X.w) A (call (.ref f) [.ref a, .ref b]) (fun r s' => ∃ k, r = .bool k ∧ Q (.done (.ret (.bool (!k)))) s') E s) :
    wpAny (model X.prog X.w) A (Builtin.«object.__ne__» ⟨[.ref a, .ref b], []⟩) Q E s := by
  unfold Builtin.«object.__ne__»
  refine wpAny_bind (wpAny_of_eq (a := ((Value.ref a : Value), [Value.ref b])) (by first | rfl | (simp only [slotArgs]; rfl)) ?_)
  refine wpAny_bind (wpAny_cRoomFor hu (wpAny_bind (PySem.W.ifBound_K KX J hs hf (wpAny_mono h (fun r s' z => ?_) fun _ _ z => z))))
  obtain ⟨k, rfl, q⟩ := z
  exact wpAny_bind (wpAny_of_eq (a := k) (by cases k <;> rfl) (wpAny_pure q))
theorem ne_try {K : PySem.W.Frag} {A : Around} {ox : Obj} {od : Option Obj} {Q : Option Value → Shared → Prop} {E : Value → Shared → Prop} (hu : A.units + 1 < cLine) (KX : K.In s.heap) (J : PySem.W.InstAt s.heap a ox C od)
    (hne : PySem.W.findIn K (.ref C) "__ne__" = some (some (.builtin "object.__ne__"))) (hob : PySem.W.mroIn K C (.type "object") = some true) (hs : PySem.W.findIn K (.ref C) "__eq__" = some (some (.ref f))) (hf : PySem.W.isFn K (.ref f) = true)
    (h : wpAny (model X.prog X.w) A.in1 (call (.ref f) [.ref a, .ref b]) (fun r s' => ∃ k, r = .bool k ∧ Q (some (.bool (!k))) s') E s) :
    wpAny (model X.prog X.w) A (callSpecialIfBound? (.ref a) "__ne__" [.ref b]) Q E s := by
  have run : wpAny (model X.prog X.w) A (call (.builtin "object.__ne__") ([.ref a] ++ [.ref b])) (fun v s' => Q (some v) s') E s := by
    refine wpAny_call (codeAny_call_builtin ne_slot.plain PySem.F.cmpEntry_ne (PySem.W.check_slot PySem.F.cmpKind_ne PySem.F.cmpSplit_ne (J.type.andThen (PySem.W.looks_mroIn KX hob)) (PySem.F.cmpArgs_ne _ _) ?_))
    exact ne_body (X := X) (A := A.in1) hu KX J hs hf (wpAny_mono h (fun r s' ⟨k, e, q⟩ => ⟨k, e, q⟩) fun _ _ z => z)
  have fin : wpAny (model X.prog X.w) A (call (.builtin "object.__ne__") ([.ref a] ++ [.ref b]) >>= fun v => pure (some v)) Q E s := wpAny_bind (wpAny_mono run (fun v s' z => wpAny_pure z) fun _ _ z => z)
  simp only [callSpecialIfBound?, bindSpecialIfBound?]
  refine wpAny_holding (wpAny_bind (wpAny_bind (wpAny_bind (J.type.here ((PySem.W.looks_findIn KX hne).here (by
    simp only [ne_slot.bind]
    refine wpAny_bind (wpAny_askSetting (wpAny_ite ?_))
    split
    · exact wpAny_bind (wpAny_pure (wpAny_pure fin))
    · exact wpAny_tryCatch (wpAny_bind (wpAny_pure (wpAny_pure fin)))))))))
theorem op_own_ne (F : FnOk X.prog X.w X.K X.mg X.base CX0 n f fd ps sp) (hs : PySem.W.findIn X.K (.ref C) "__eq__" = some (some (.ref f))) (hne : PySem.W.findIn X.K (.ref C) "__ne__" = some (some (.builtin "object.__ne__"))) (hob : PySem.W.mroIn X.K C (.type "object") = some true)
    (hf : PySem.W.isFn X.K (.ref f) = true) (hb : Binds X.K fd ps []) (hr : Room (n + 1) X.A) : OpR X (compareOp .NotEq) (rOwn C true sp) := by
  intro pins s σ H x y v u Q I rx ry q
  obtain ⟨a, b, dx, dy, fs, gs, rfl, rfl, ha, hb', q⟩ := q
  cases rx
  cases ry
  obtain ⟨ox, od, oy, od', J, J'⟩ := ins_both I ha hb'
  have tried : wpAny (model X.prog X.w) X.A (tryCompare (.ref a) "__ne__" (.ref b)) (fun r s' => ∃ v, r = some v ∧ EP X pins σ Q v s') X.xe s := by
    unfold tryCompare
    refine wpAny_bind (ne_try (X := X) (by have := hr.un; omega) I.kIn J hne hob hs hf (wpAny_mono (own_called F hb hr.in1 rfl I q) (fun r s' z => ?_) fun _ _ z => z))
    obtain ⟨k, H', rfl, I', qk⟩ := z
    rw [Bool.bne_true] at qk
    exact ⟨k, rfl, wpAny_pure ⟨_, rfl, .bl (!k), H', I', rfl, qk⟩⟩
  have ask : wpAny (model X.prog X.w) X.A (richCompare .NotEq (.ref a) (.ref b)) (EP X pins σ Q) X.xe s := by
    unfold richCompare
    simp only [oneThing_ref, cmpInfo_NotEq]
    refine wpAny_holding (wpAny_bind (wpAny_cRoomFor hr.units0 (wpAny_bind (J.type.here (wpAny_bind (J'.type.here ?_))))))
    rw [if_neg (show ¬ (Value.ref C != Value.ref C) = true by simp)]
    refine wpAny_bind (wpAny_pure ?_)
    rw [if_neg (by decide)]
    refine wpAny_bind (wpAny_mono tried (fun r s' z => ?_) fun _ _ z => z)
    obtain ⟨v, rfl, q'⟩ := z
    exact wpAny_pure q'
  exact ask
end
end Pd
namespace Pd
variable {ℓ : Bool}
open PySem L2
structure EqnOk (K : PySem.W.Frag) (C : Addr) : Prop where
  ne : PySem.W.findIn K (.ref C) "__ne__" = some (some (.builtin "object.__ne__"))
  ob : PySem.W.mroIn K C (.type "object") = some true
theorem eqn_ok {K : PySem.W.Frag} {C : Str} (h : (Fx.eqn C).ok K = true) : EqnOk K (He.ga K C) := by
  simp only [Fx.ok, Bool.and_eq_true, decide_eq_true_eq] at h
  exact ⟨h.1, h.2⟩
def gOwn (C : Addr) (ng : Bool) (sp : FD) : G2 := fun dx dy P => ∃ fs gs, dx = .obj C fs ∧ dy = .obj C gs ∧ ∀ n, sp [dx, dy] n fun n' r => n' = n ∧ ∃ k, r = .bl k ∧ P (.bl (k != ng))
theorem so_own {K : PySem.W.Frag} {C : Addr} {ng : Bool} {sp : FD} : SOp ℓ K (rOwn C ng (liftF ℓ K sp)) (gOwn C ng sp) := ⟨fun {g H n x y dx dy P Q} ok hx hy q f => by
  obtain ⟨fs, gs, rfl, rfl, q⟩ := q
  cases hx with
  | obj h1 h2 =>
    cases hy with
    | obj h3 h4 =>
      refine ⟨_, _, _, _, _, _, rfl, rfl, ok.sub _ _ h1, ok.sub _ _ h3, g, n, _, _, ok, .cons (.obj h1 h2) (.cons (.obj h3 h4) .nil), q n, fun v g' H' n' r p s o d => ?_⟩
      obtain ⟨rfl, k, rfl, p⟩ := p
      cases d
      exact ⟨k, rfl, f _ _ _ _ p s o (.bl _)⟩⟩
section
variable {X : Cx} {k : Nat} {C : Addr} {ps : List Str} {sp : FD} {pos : Pos} {a b : Expr} {da db : DE}
theorem dt_ownNe (G : HasM ℓ X.prog X.w X.K X.mg X.base k C "__eq__" ps [] sp) (hq : EqnOk X.K C) (hr : Room (k + 1) X.A) (ha : PE X a (liftE ℓ X.K da)) (hb : PE X b (liftE ℓ X.K db)) (hm : behindInMarks .NotEq b = false := by first | exact nomark _ | rfl) : PT X (.Compare a [.NotEq] [b] pos) (liftT ℓ X.K (dTB (dOp (gOwn C true sp) da db))) := by
  obtain ⟨f, fd, dvs, ds, F, _, ⟨h1, h2, _⟩, hb', hv, hd⟩ := G.ex
  obtain rfl : dvs = [] := by
    have := hd ⟨fun _ => none, fun _ => False, []⟩
    cases this
    rfl
  cases hv
  exact dt_cmp (op_own_ne F h1 hq.ne hq.ob h2 hb' hr) so_own ha hb hm
end
end Pd
namespace Pd
open PySem L2
end Pd
namespace Pd
variable {ℓ : Bool}
open PySem L2
theorem rem_at (H : Hp) (D : Addr) : rem H D D = none := if_pos rfl
theorem rem_ne {H : Hp} {D a : Addr} (h : a ≠ D) : rem H D a = H a := if_neg h
end Pd
namespace Pd
open PySem L2
end Pd
namespace Pd
open PySem PySem.Spec PyProof.Rows L2
end Pd
namespace Pd
variable {ℓ : Bool}
open PySem L2 PyProof.Rows
structure SupC (K : PySem.W.Frag) (D C : Addr) : Prop where
  oex : OexC K C
  mro : PySem.W.mroIn K C (.ref D) = some true
  sup : PySem.W.ks_superIn K C D "__init__" = some (some (.builtin "ValueError.__init__"))
  sub : PySem.W.subIn K (.ref C) (.type "ValueError") = some true
  val : PySem.W.findIn K (.ref C) "value" = some none
def spSup (K : PySem.W.Frag) (D : Addr) : Sp := fun vs H Q _ => ∃ (a C : Addr) (v : V), vs = [.ref a, v] ∧ SupC K D C ∧ H a = some (exo a C none) ∧
  ∀ dx, H dx = none → dx ≠ a → Q .non (upd (upd H dx (exd dx [("value", v)])) a (exo a C (some dx)))
end Pd
namespace Pd
variable {ℓ : Bool}
open PySem L2 PyProof.Rows
variable {W : WX}
structure HasE (P : Program) (w : World) (K : PySem.W.Frag) (mg : Str → Option Value) (base : Heap) (k : Nat) (C : Addr) : Prop where
  ex : ∃ (D fI : Addr) (fd : FuncData), FnOk P w K mg base CX0 k fI fd ["self", "value"] (spSup K D) ∧ SupC K D C ∧ PySem.W.findIn K (.ref C) "__init__" = some (some (.ref fI)) ∧ PySem.W.typeIn K (.ref fI) = some (.type "function") ∧ Binds K fd ["self", "value"] []
def outX (ℓ : Bool) (K : PySem.W.Frag) (g : Gh) (H : Hp) (R : Nat → Addr → D → Prop) (W : Value → Option Addr → Hp → Prop) : Prop :=
  ∀ g' H' n' C dx u r, R n' C r → Stp g H g' H' → Ok ℓ K g' H' n' → g'.G dx = some (.xd [("value", u)]) → Den K g' u r → W (.ref C) (some dx) H'
def one (P : Nat → D → Prop) : Nat → List D → Prop := fun n vs => match vs with
  | [v] => P n v
  | _ => False
def dRaise (C : Addr) (t : DA) : DS := fun N n ε => t n ε (one fun n1 v => N.xc n1 ε C v)
structure ErrV (K : PySem.W.Frag) (C : Addr) : Prop where
  xf : XfC K C
  val : PySem.W.findIn K (.ref C) "value" = some none
end Pd
namespace Pd
variable {ℓ : Bool}
open PySem L2 PyProof.Rows
abbrev FDX := List D → Nat → (Nat → D → Prop) → (Nat → Addr → D → Prop) → Prop
def liftFX (ℓ : Bool) (K : PySem.W.Frag) (f : FDX) : Sp := fun vs H Q E => ∃ g n ds P R, Ok ℓ K g H n ∧ Dens K g vs ds ∧ f ds n P R ∧ (∀ v g' H' n' r, P n' r → Stp g H g' H' → Ok ℓ K g' H' n' → Den K g' v r → Q v H') ∧ outX ℓ K g H R E
structure HasFX (ℓ : Bool) (P : Program) (w : World) (K : PySem.W.Frag) (mg : Str → Option Value) (base : Heap) (k : Nat) (f : Addr) (ps : List Str) (dd : List D) (sp : FDX) : Prop where
  ex : ∃ fd dvs ds, FnOk P w K mg base (L2.CX P w) k f fd ps (liftFX ℓ K sp) ∧ PySem.W.keepIn K (.ref f) = true ∧ Binds K fd ps ds ∧ Vals dvs ds ∧ ∀ g, Dens K g dvs dd
structure HasMX (ℓ : Bool) (P : Program) (w : World) (K : PySem.W.Frag) (mg : Str → Option Value) (base : Heap) (k : Nat) (C : Addr) (m : Str) (ps : List Str) (dd : List D) (sp : FDX) : Prop where
  ex : ∃ f fd dvs ds, FnOk P w K mg base (L2.CX P w) k f fd ps (liftFX ℓ K sp) ∧ Cls K C ∧ Meth K C m f ∧ Binds K fd ps ds ∧ Vals dvs ds ∧ ∀ g, Dens K g dvs dd
abbrev DXc := Nat → Ev → (Nat → D → Prop) → (Nat → Addr → D → Prop) → Prop
def dCallR (f : FDX) (dd : List D) (t : DA) : DXc := fun n ε P R => t n ε fun n1 ds => f (ds ++ dd) n1 P R
def dMethR (C : Addr) (m : Str) (sp : FDX) (dd : List D) (d : DE) (t : DA) : DXc := fun n ε P R => d n ε fun n1 x => match x with
  | .obj C' fs => C' = C ∧ fs.lookup m = none ∧ t n1 ε fun n2 ds => sp (.obj C' fs :: (ds ++ dd)) n2 P R
  | _ => False
def dSure (d : DE) : DXc := fun n ε P _ => d n ε P
def dIteR (t : DT) (da db : DXc) : DXc := fun n ε P R => t n ε fun n1 c => (c = true → da n1 ε P R) ∧ (c = false → db n1 ε P R)
theorem outX.step {K : PySem.W.Frag} {g g' : Gh} {H H' : Hp} {R : Nat → Addr → D → Prop} {W : Value → Option Addr → Hp → Prop} (k : outX ℓ K g H R W) (s : Stp g H g' H') : outX ℓ K g' H' R W := fun g2 H2 n2 C dx u r q s2 o2 e1 e2 => k g2 H2 n2 C dx u r q (s.trans s2) o2 e1 e2
section
variable {X : Cx} {k : Nat} {f C : Addr} {ps : List Str} {sp : FDX} {dvs : List V} {dd : List D} {ds : List Value} {E : XK} {x m : Str} {p pos apos : Pos} {e o c a b : Expr} {es : List Expr} {da : DE} {t : DA} {d dx dy : DXc} {u : DT}
def dDropR (d : DXc) : DS := fun N n ε => d n ε (fun n1 _ => N.nx n1 ε) fun n1 C v => N.xc n1 ε C v
def dRetR (d : DXc) : DS := fun N n ε => d n ε N.rt fun n1 C v => N.xc n1 ε C v
def dSetR (i : Nat) (d : DXc) : DS := fun N n ε => d n ε (fun n1 r => N.nx n1 (ε.set i (.val r))) fun n1 C v => N.xc n1 ε C v
end
end Pd
namespace Pd
variable {ℓ : Bool}
open PySem L2 PyProof.Rows
abbrev FIX := List D → Nat → (Nat → List (Str × D) → Prop) → (Nat → Addr → D → Prop) → Prop
def liftInitX (ℓ : Bool) (K : PySem.W.Frag) (C : Addr) (f : FIX) : Sp := fun vs H Q E => ∃ g n x dx vs' ds P R, vs = .ref x :: vs' ∧ H x = some (.ins C dx []) ∧ g.G x = none ∧ ¬ g.pot x ∧ Ok ℓ K g H n ∧ Dens K g vs' ds ∧ f ds n P R ∧
  (∀ g' H' n' fs dx' fvs, P n' fs → Stp g (rem H x) g' H' → Ok ℓ K g' H' n' → g'.G x = none → ¬ g'.pot x → H' x = some (.ins C dx' fvs) → Flds K g' fvs fs → Q .non H') ∧ outX ℓ K g (rem H x) R E
structure HasIX (ℓ : Bool) (P : Program) (w : World) (K : PySem.W.Frag) (mg : Str → Option Value) (base : Heap) (k : Nat) (C : Addr) (ps : List Str) (dd : List D) (fi : FIX) : Prop where
  ex : ∃ f fd dvs ds, FnOk P w K mg base (L2.CX P w) k f fd ps (liftInitX ℓ K C fi) ∧ Mk K C f ∧ Binds K fd ps ds ∧ Vals dvs ds ∧ ∀ g, Dens K g dvs dd
def dMakeR (C : Addr) (f : FIX) (dd : List D) (t : DA) : DXc := fun n ε P R => t n ε fun n1 ds => f (ds ++ dd) n1 (fun n2 fs => P n2 (.obj C fs)) R
end Pd
namespace Pd
open PySem L2 PyProof.Rows
end Pd
namespace Pd
open PySem L2 PyProof.Rows LamX
end Pd
namespace Pd
open PySem L2 PyProof.Rows LamX
end Pd
namespace Pd
variable {ℓ : Bool}
open PySem L2 PyProof.Rows LamX
structure ErrAll (K : PySem.W.Frag) (D fI C : Addr) : Prop where
  sc : SupC K D C
  ei : ErrI K C
  ev : ErrV K C
  init : PySem.W.findIn K (.ref C) "__init__" = some (some (.ref fI))
  fn : PySem.W.typeIn K (.ref fI) = some (.type "function")
  ex : PySem.W.exmOne K (.ref C) (.ref D) = some true
theorem HasE.of {P : Program} {w : World} {K : PySem.W.Frag} {mg : Str → Option Value} {base : Heap} {D fI C : Addr} {fd : FuncData} (F : FnOk P w K mg base CX0 1 fI fd ["self", "value"] (spSup K D)) (hb : Binds K fd ["self", "value"] []) (A : ErrAll K D fI C) : HasE P w K mg base 1 C :=
  ⟨D, fI, fd, F, A.sc, A.init, A.fn, hb⟩
end Pd
namespace Pd
variable {ℓ : Bool}
open PySem L2 PyProof.Rows
theorem SaysP.good {fx : List Fx} {fn : List PDef} {K : PySem.W.Frag} (c : SaysP fx fn K) {d : PDef} (i : Nat) (h : fn[i]? = some d := by rfl) : d.good K = true := by
  have c1 : ((fx.all fun f => f.ok K) && fn.all fun d => d.good K) = true := congrArg (fun z : AlP => z.1) c
  exact List.all_eq_true.mp (Bool.and_eq_true_iff.mp c1).2 d (List.mem_of_getElem? h)
end Pd
namespace Pd
variable {ℓ : Bool}
open PySem L2 PyProof.Rows
structure SysD (K : PySem.W.Frag) : Prop where
  ex : ∃ o : Obj, K.lookup sysModules = some o ∧ o.cls = .type "dict"
mutual
def isPx : D → Bool
  | .non => true
  | .bl _ => true
  | .int _ => true
  | .str l => l.all (· < 1114112)
  | .lst xs => isPxs xs
  | .tup xs => isPxs xs
  | .obj _ _ => false
  | .pot => false
  | .scr _ => false
  | .ref _ => false
  | .tupK xs => isPxs xs
  | .tupF _ => false
  | .err _ _ => false
  | .cel _ _ => false
  | .dic _ vs => isPxs vs
def isPxs : List D → Bool
  | [] => true
  | x :: xs => isPx x && isPxs xs
end
section
variable {X : Cx} {pins : List (Addr × Obj)} {σ : L2.St} {H : Hp} {s : Shared} {g : Gh}
theorem not_sys (I : Inv X pins σ H s) (S : SysD X.K) {a : Addr} {o : Obj} (ho : s.heap.get? a = some o) (hc : o.cls = .type "list") : sysModules ≠ a := fun e => by
  subst e
  obtain ⟨o', h1, h2⟩ := S.ex
  have h3 := I.kIn _ _ h1
  rw [ho] at h3
  cases h3
  rw [hc] at h2
  injection h2 with h2
  exact absurd h2 (by decide)
theorem keys_read {h : Heap} {P : Program} {w : World} : ∀ {es : List DictEntry} {ps : List (Key × Value)} {ks : List (List Nat)}, Pairs (mixKind P w) es ps → ps.map (·.1) = ks.map (fun x => Sum.inr ⟨x.toArray⟩) → ReadsAll h (es.map (·.key)) (ks.map fun x => PyData.str ⟨x.toArray⟩) []
  | [], [], [], .nil, _ => .nil
  | [], [], _ :: _, .nil, e => by cases e
  | e :: es, p :: ps, [], .cons _ _ _, x => by cases x
  | e :: es, p :: ps, k :: ks, .cons h1 h2 h3, x => by
    rw [List.map_cons, List.map_cons, List.cons.injEq] at x
    obtain ⟨x1, x2⟩ := x
    have h1' : keyIs p.1 e.key = true := h1
    rw [x1] at h1'
    rcases keyIs_shape h1' with ⟨i, t, z, _⟩ | ⟨y, t, z, hk⟩
    · cases z
    · injection z with z
      subst z
      rw [List.map_cons, List.map_cons, hk]
      exact .cons (.str _ t) (keys_read h3 x2)
  | [], _ :: _, _, h, _ => nomatch h
theorem vals_pair {P : Program} {w : World} : ∀ {es : List DictEntry} {ps : List (Key × Value)} {kvs : List (Key × V)}, Pairs (mixKind P w) es ps → KV kvs ps → Vals (kvs.map (·.2)) (es.map (·.val))
  | _, _, _, .nil, .nil => .nil
  | _, _, _, .cons h1 h2 h3, .cons r t => by
    rw [List.map_cons, List.map_cons, h2]
    exact .cons r.2 (vals_pair h3 t)
theorem keys_pair {kvs : List (Key × V)} {ps : List (Key × Value)} (h : KV kvs ps) : kvs.map (·.1) = ps.map (·.1) := by
  induction h with
  | nil => rfl
  | cons r _ ih => rw [List.map_cons, List.map_cons, ih, r.1]
mutual
theorem Den.reads (I : Inv X pins σ H s) (S : SysD X.K) (sm : Same g.G H) : ∀ {v : V} {d : D}, Den X.K g v d → isPx d = true → ∀ u, RelV v u → ∃ as, Reads s.heap u (toPD d) as ∧ sysModules ∉ as
  | _, _, .non, _, u, r => by cases r; exact ⟨_, .none, by simp⟩
  | _, _, .bl b, _, u, r => by cases r; exact ⟨_, .bool b, by simp⟩
  | _, _, .int i, _, u, r => by obtain ⟨t, rfl⟩ := r; exact ⟨_, .int i t, by simp⟩
  | _, _, .str l, _, u, r => by obtain ⟨t, rfl⟩ := r; exact ⟨_, .str _ t, by simp⟩
  | _, _, .lst h1 h2, h, u, r => by
    cases r
    obtain ⟨its, rv, ⟨o, n, ho, hc, _, hd⟩, _⟩ := I.list (SqL.of (sm _ _ h1))
    obtain ⟨as, hr, hn⟩ := Dens.reads I S sm h2 (by simpa [isPx] using h) its rv
    refine ⟨_, Reads.list ho hc hd hr, fun hm => ?_⟩
    rcases List.mem_cons.mp hm with e | hm
    · exact not_sys I S ho hc e
    · exact hn hm
  | _, _, .tup h1 h2, h, u, r => by
    cases r
    obtain ⟨its, rv, ⟨o, ho, hc, n, hd⟩, _⟩ := I.tuple (Or.inl (h1.same sm))
    obtain ⟨as, hr, hn⟩ := Dens.reads I S sm h2 (by simpa [isPx] using h) its rv
    exact ⟨_, Reads.tuple ho hc hd hr, hn⟩
  | _, _, .obj h1 h2, h, _, _ => by simp [isPx] at h
  | _, _, .pot h1 _, h, _, _ => by simp [isPx] at h
  | _, _, .scr h1, h, _, _ => by simp [isPx] at h
  | _, _, .ref a, h, _, _ => by simp [isPx] at h
  | _, _, .tupK h1 h2, h, u, r => by
    cases r
    obtain ⟨its, rv, ⟨o, ho, hc, n, hd⟩, _⟩ := I.tuple (h1 _)
    obtain ⟨as, hr, hn⟩ := Dens.reads I S sm h2 (by simpa [isPx] using h) its rv
    exact ⟨_, Reads.tuple ho hc hd hr, hn⟩
  | _, _, .tupF _ _ _ _, h, _, _ => by simp [isPx] at h
  | _, _, .err _ _ _, h, _, _ => by simp [isPx] at h
  | _, _, .dic h1 h2 h3, h, u, r => by
    cases r
    obtain ⟨_, hs, ps, kv, o, es, ep, ho, hx, hd, _, hp, _⟩ := dk_of I.hok (sm _ _ h1)
    obtain ⟨as, hr, hn⟩ := Dens.reads I S sm h3 (by simpa [isPx] using h) _ (vals_pair hp kv)
    have hk := keys_read (h := s.heap) hp ((keys_pair kv).symm.trans h2)
    have hl := h3.length
    have hlk := congrArg List.length h2
    simp only [List.length_map] at hl hlk
    rw [toPD]
    have hlen : ∀ ds : List D, (toPDs ds).length = ds.length := by
      intro ds
      induction ds with
      | nil => simp [toPDs]
      | cons x xs ih => simp [toPDs, ih]
    refine ⟨_, Reads.dict ho hx.1 hd (as := []) (bs := as) ?_ ?_, fun hm => ?_⟩
    · rw [List.map_fst_zip (by rw [List.length_map, hlen]; omega)]
      exact hk
    · rw [List.map_snd_zip (by rw [List.length_map, hlen]; omega)]
      exact hr
    · simp only [List.append_nil, List.cons_append, List.nil_append] at hm
      rcases List.mem_cons.mp hm with e | hm
      · rw [← e] at hs
        simp at hs
      · exact hn hm
theorem Dens.reads (I : Inv X pins σ H s) (S : SysD X.K) (sm : Same g.G H) : ∀ {vs : List V} {ds : List D}, Dens X.K g vs ds → isPxs ds = true → ∀ us, Vals vs us → ∃ as, ReadsAll s.heap us (toPDs ds) as ∧ sysModules ∉ as
  | _, _, .nil, _, us, r => by cases r; exact ⟨_, .nil, by simp⟩
  | _, _, .cons h t, q, us, r => by
    rw [isPxs, Bool.and_eq_true] at q
    cases r with
    | cons r1 r2 =>
      obtain ⟨as, q1, n1⟩ := Den.reads I S sm h q.1 _ r1
      obtain ⟨bs, q2, n2⟩ := Dens.reads I S sm t q.2 _ r2
      exact ⟨_, ReadsAll.cons q1 q2, fun hm => (List.mem_append.mp hm).elim n1 n2⟩
end
end
end Pd
namespace Pd
open PySem L2 PyProof.Rows
end Pd
namespace Pd
open PySem L2 PyProof.Rows
end Pd
namespace Pd
open PySem L2 PyProof.Rows
end Pd
namespace L2
open PySem PySem.Spec PyProof.Rows HT
end L2
namespace Pd
open PySem L2 PyProof.Rows
end Pd
namespace Pd
open PySem L2
end Pd
namespace Pd
open PySem L2 PyProof.Rows
end Pd
namespace Pd
open PySem L2 PyProof.Rows
end Pd
namespace Pd
open PySem L2 PyProof.Rows
end Pd
namespace Pd
variable {ℓ : Bool}
open PySem L2
structure ErrT (K : PySem.W.Frag) (D : Str) (Cs : List Str) : Prop where
  top : ∀ A ∈ D :: Cs, PySem.W.kitOne K (.ref (He.ga K A)) (.ref (He.ga K D)) = some true
  ve : ∀ A ∈ D :: Cs, PySem.W.kitOne K (.ref (He.ga K A)) (.type "ValueError") = some true
  one : ∀ A ∈ D :: Cs, ∀ B ∈ Cs, PySem.W.kitOne K (.ref (He.ga K A)) (.ref (He.ga K B)) = some (decide (A = B))
  bi : ∀ A ∈ D :: Cs, ∀ S ∈ ["NoneType", "bool", "int", "str", "list", "tuple", "dict"], PySem.W.kitOne K (.type S) (.ref (He.ga K A)) = some false
theorem kit_self {K : PySem.W.Frag} (a : Addr) : PySem.W.kitOne K (.ref a) (.ref a) = some true := by
  unfold PySem.W.kitOne
  rw [if_pos (by simp)]
theorem ErrT.inj {K : PySem.W.Frag} {D : Str} {Cs : List Str} (t : ErrT K D Cs) : ∀ A ∈ D :: Cs, ∀ B ∈ Cs, He.ga K A = He.ga K B → A = B := fun A hA B hB e => by
  have h := t.one A hA B hB
  rw [e, kit_self] at h
  simpa using h.symm
end Pd
namespace Pd
open PySem L2
end Pd
namespace L2
open PySem PySem.Spec PyProof.Rows HT
end L2
namespace Pd
open PySem L2
end Pd
namespace Pd
open PySem L2
end Pd
namespace L2
open PySem PySem.Spec PyProof.Rows HT
end L2
namespace Pd
open PySem L2
end Pd
namespace L2
open PySem PySem.Spec PyProof.Rows
end L2
namespace Pd
open PySem L2
end Pd
namespace Pd
open PySem L2
end Pd
namespace Pd
open PySem L2 PyProof.Rows
mutual
def noC : D → Bool
  | .cel _ _ => false
  | .lst xs => noCs xs
  | .tup xs => noCs xs
  | .obj _ fs => noCf fs
  | .tupK xs => noCs xs
  | .tupF xs => noCs xs
  | .err _ d => noC d
  | .dic _ vs => noCs vs
  | _ => true
def noCs : List D → Bool
  | [] => true
  | x :: r => noC x && noCs r
def noCf : List (Str × D) → Bool
  | [] => true
  | (_, x) :: r => noC x && noCf r
end
theorem noCs_iff : ∀ {xs : List D}, noCs xs = true ↔ ∀ x ∈ xs, noC x = true
  | [] => by simp [noCs]
  | x :: r => by simp [noCs, noCs_iff (xs := r)]
section
variable {K : PySem.W.Frag} {g g' : Gh}
mutual
theorem Den.nc (hG : Same g.G g'.G) (hp : ∀ a, g.pot a → NoT K g a → g'.pot a ∧ NoT K g' a) : ∀ {v : V} {d : D}, Den K g v d → noC d = true → Den K g' v d
  | _, _, .non, _ => .non
  | _, _, .bl b, _ => .bl b
  | _, _, .int i, _ => .int i
  | _, _, .str l, _ => .str l
  | _, _, .lst h1 h2, h => .lst (hG _ _ h1) (Dens.nc hG hp h2 (by unfold noC at h; exact h))
  | _, _, .tup h1 h2, h => .tup (h1.same hG) (Dens.nc hG hp h2 (by unfold noC at h; exact h))
  | _, _, .obj h1 h2, h => .obj (hG _ _ h1) (Flds.nc hG hp h2 (by unfold noC at h; exact h))
  | _, _, .pot h hn, _ => .pot (hp _ h hn).1 (hp _ h hn).2
  | _, _, .scr h, _ => .scr (hG.seq h)
  | _, _, .ref a, _ => .ref a
  | _, _, .tupK h1 h2, h => .tupK h1 (Dens.nc hG hp h2 (by unfold noC at h; exact h))
  | _, _, .tupF h1 c d h2, h => .tupF (hG _ _ h1) c d (Dens.nc hG hp h2 (by unfold noC at h; exact h))
  | _, _, .err h1 h2 h3, h => .err (hG _ _ h1) (hG _ _ h2) (Den.nc hG hp h3 (by unfold noC at h; exact h))
  | _, _, .dic h1 h2 h3, h => .dic (hG _ _ h1) h2 (Dens.nc hG hp h3 (by unfold noC at h; exact h))
  | _, _, .cel _, h => by unfold noC at h; cases h
theorem Dens.nc (hG : Same g.G g'.G) (hp : ∀ a, g.pot a → NoT K g a → g'.pot a ∧ NoT K g' a) : ∀ {vs : List V} {ds : List D}, Dens K g vs ds → noCs ds = true → Dens K g' vs ds
  | _, _, .nil, _ => .nil
  | _, _, .cons h t, z => by
    unfold noCs at z
    rw [Bool.and_eq_true] at z
    exact .cons (Den.nc hG hp h z.1) (Dens.nc hG hp t z.2)
theorem Flds.nc (hG : Same g.G g'.G) (hp : ∀ a, g.pot a → NoT K g a → g'.pot a ∧ NoT K g' a) : ∀ {vs : List (Str × V)} {ds : List (Str × D)}, Flds K g vs ds → noCf ds = true → Flds K g' vs ds
  | _, _, .nil, _ => .nil
  | _, _, .cons h t, z => by
    unfold noCf at z
    rw [Bool.and_eq_true] at z
    exact .cons (Den.nc hG hp h z.1) (Flds.nc hG hp t z.2)
end
mutual
theorem Den.noC (h0 : g.cel = []) : ∀ {v : V} {d : D}, Den K g v d → noC d = true
  | _, _, .non => by unfold Pd.noC; rfl
  | _, _, .bl b => by unfold Pd.noC; rfl
  | _, _, .int i => by unfold Pd.noC; rfl
  | _, _, .str l => by unfold Pd.noC; rfl
  | _, _, .lst h1 h2 => by unfold Pd.noC; exact Dens.noC h0 h2
  | _, _, .tup h1 h2 => by unfold Pd.noC; exact Dens.noC h0 h2
  | _, _, .obj h1 h2 => by unfold Pd.noC; exact Flds.noC h0 h2
  | _, _, .pot h hn => by unfold Pd.noC; rfl
  | _, _, .scr h => by unfold Pd.noC; rfl
  | _, _, .ref a => by unfold Pd.noC; rfl
  | _, _, .tupK h1 h2 => by unfold Pd.noC; exact Dens.noC h0 h2
  | _, _, .tupF h1 c d h2 => by unfold Pd.noC; exact Dens.noC h0 h2
  | _, _, .err h1 h2 h3 => by unfold Pd.noC; exact Den.noC h0 h3
  | _, _, .dic h1 h2 h3 => by unfold Pd.noC; exact Dens.noC h0 h3
  | _, _, .cel h => by rw [h0] at h; simp at h
theorem Dens.noC (h0 : g.cel = []) : ∀ {vs : List V} {ds : List D}, Dens K g vs ds → noCs ds = true
  | _, _, .nil => by unfold noCs; rfl
  | _, _, .cons h t => by unfold noCs; rw [Den.noC h0 h, Dens.noC h0 t]; rfl
theorem Flds.noC (h0 : g.cel = []) : ∀ {vs : List (Str × V)} {ds : List (Str × D)}, Flds K g vs ds → noCf ds = true
  | _, _, .nil => by unfold noCf; rfl
  | _, _, .cons h t => by unfold noCf; rw [Den.noC h0 h, Flds.noC h0 t]; rfl
end
end
def Gh.dn (g : Gh) : Gh := ⟨g.G, fun a => g.pot a ∧ ∀ C, (a, C) ∉ g.cel, []⟩
section
variable {K : PySem.W.Frag} {g g1 : Gh} {H H' : Hp} {n m : Nat}
theorem dn_nc (ds : List D) {vs : List V} (h : Dens K g vs ds) (z : noCs ds = true) : Dens K g.dn vs ds := h.nc (g := g) (g' := g.dn) (Same.refl _) (fun a p t => ⟨⟨p, t.2⟩, t.1, fun C w => by cases w⟩) z
theorem Ok.dn (ok : Ok true K g H n) : Ok false K g.dn H (dr n) := by
  refine ⟨ok.sub, fun a z => ⟨(ok.pot a z.1).1, ?_⟩, ⟨ok.t.tabs, fun p hp => ⟨ok.t.tp p hp, fun C w => ?_⟩, ok.t.all⟩, CelOk.nil⟩
  · rcases (ok.pot a z.1).2 with (h | ⟨C, h⟩) | h
    · exact .inl (.inl h)
    · exact absurd h (z.2 C)
    · exact .inr h
  · exact (ok.cel.mem w).2.1 p.2 hp
def Gh.up (g g1 : Gh) : Gh := ⟨g1.G, fun a => g1.pot a ∨ ∃ C, (a, C) ∈ g.cel, g.cel⟩
theorem Stp.up (ok : Ok true K g H n) (s : Stp g.dn H g1 H') : Stp g H (g.up g1) H' := by
  refine ⟨⟨s.ext.G, fun a z => ?_, [], (List.append_nil _).symm, fun _ _ h => by cases h⟩, s.gro, fun a h z => ?_, fun a o h z => s.kep a o h fun w => z w.1, s.dom⟩
  · by_cases w : ∃ C, (a, C) ∈ g.cel
    · exact .inr w
    · exact .inl (s.ext.p a ⟨z, fun C c => w ⟨C, c⟩⟩)
  · rcases z with z | ⟨C, z⟩
    · exact (s.grp a h z).1
    · exact (ok.cel.mem z).1
theorem Ok.up (ok : Ok true K g H n) (s : Stp g.dn H g1 H') (o1 : Ok false K g1 H' m) : Ok true K (g.up g1) H' (stN m (cs n)) := by
  refine ⟨o1.sub, fun a z => ?_, ⟨o1.t.tabs, fun p hp => .inl (o1.t.tp p hp), o1.t.all⟩, ?_⟩
  · by_cases w : ∃ C, (a, C) ∈ g.cel
    · obtain ⟨C, c⟩ := w
      obtain ⟨h1, h2, od, o, h3, h4⟩ := ok.cel.mem c
      exact ⟨s.gro a (by rw [h3]; exact Option.some_ne_none _) (ok.pot a h1).1, .inl (.inr ⟨C, c⟩)⟩
    · rcases z with z | z
      · obtain ⟨h1, h2⟩ := o1.pot a z
        refine ⟨h1, ?_⟩
        rcases h2 with (h2 | ⟨C, h2⟩) | h2
        · exact .inl (.inl h2)
        · rw [o1.nocel] at h2
          cases h2
        · refine .inr ?_
          show PotH (dr (stN m (cs n))) (H' a)
          rw [dr_stN]
          exact h2
      · exact absurd z w
  · show CelOk K (g.up g1) H' g.cel (cs (stN m (cs n)))
    rw [cs_stN]
    refine ok.cel.step (Stp.up ok s).ext fun a C c => ?_
    obtain ⟨h1, h2, od, o, h3, h4⟩ := ok.cel.mem c
    rw [h3]
    exact s.kep a o h3 fun w => w.2 C c
theorem Den.up (ok : Ok true K g H n) (s : Stp g.dn H g1 H') (o1 : Ok false K g1 H' m) {v : V} {d : D} (h : Den K g1 v d) : Den K (g.up g1) v d :=
  h.nc (g := g1) (g' := g.up g1) (Same.refl _) (fun a p t => ⟨.inl p, t.1, fun C w => by
    have w : (a, C) ∈ g.cel := w
    obtain ⟨h1, h2, od, o, h3, h4⟩ := ok.cel.mem w
    exact (s.grp a (by rw [h3]; exact Option.some_ne_none _) p).2 C w⟩) (h.noC o1.nocel)
theorem Flds.up (ok : Ok true K g H n) (s : Stp g.dn H g1 H') (o1 : Ok false K g1 H' m) {v : List (Str × V)} {d : List (Str × D)} (h : Flds K g1 v d) : Flds K (g.up g1) v d :=
  h.nc (g := g1) (g' := g.up g1) (Same.refl _) (fun a p t => ⟨.inl p, t.1, fun C w => by
    have w : (a, C) ∈ g.cel := w
    obtain ⟨h1, h2, od, o, h3, h4⟩ := ok.cel.mem w
    exact (s.grp a (by rw [h3]; exact Option.some_ne_none _) p).2 C w⟩) (h.noC o1.nocel)
end
noncomputable def wd (n m : Nat) : Nat := if m = dr n then n else stN m (cs n)
theorem dr_wd (n m : Nat) : dr (wd n m) = m := by
  unfold wd
  split
  · rename_i h
    exact h.symm
  · exact dr_stN _ _
theorem cs_wd (n m : Nat) : cs (wd n m) = cs n := by
  unfold wd
  split
  · rfl
  · exact cs_stN _ _
theorem wd_same (n : Nat) : wd n (dr n) = n := if_pos rfl
theorem Ok.cast {K : PySem.W.Frag} {g : Gh} {H : Hp} {n m : Nat} (ok : Ok true K g H n) (h1 : dr m = dr n) (h2 : cs m = cs n) : Ok true K g H m :=
  ⟨ok.sub, fun a z => by
    have h := ok.pot a z
    refine ⟨h.1, h.2.imp id fun y => ?_⟩
    show PotH (dr m) (H a)
    rw [h1]
    exact y, ok.t, by
    show CelOk K g H g.cel (cs m)
    rw [h2]
    exact ok.cel⟩
theorem Ok.upW {K : PySem.W.Frag} {g g1 : Gh} {H H' : Hp} {n m : Nat} (ok : Ok true K g H n) (s : Stp g.dn H g1 H') (o1 : Ok false K g1 H' m) : Ok true K (g.up g1) H' (wd n m) :=
  (ok.up s o1).cast (by rw [dr_wd, dr_stN]) (by rw [cs_wd, cs_stN])
def up (s : FD) : FD := fun ds n P => noCs ds = true ∧ s ds (dr n) fun m r => noC r = true → P (wd n m) r
def upX (s : FDX) : FDX := fun ds n P R => noCs ds = true ∧ s ds (dr n) (fun m r => noC r = true → P (wd n m) r) fun m C r => noC r = true → R (wd n m) C r
def upI (s : FI) : FI := fun ds n P => noCs ds = true ∧ s ds (dr n) fun m fs => noCf fs = true → P (wd n m) fs
def upIX (s : FIX) : FIX := fun ds n P R => noCs ds = true ∧ s ds (dr n) (fun m fs => noCf fs = true → P (wd n m) fs) fun m C r => noC r = true → R (wd n m) C r
section
variable {K : PySem.W.Frag}
theorem up_ok {s : FD} : ∀ vs H Q E, liftF true K (up s) vs H Q E → liftF false K s vs H Q E := fun vs H Q E ⟨g, n, ds, P, ok, dd, ⟨z, q⟩, k⟩ =>
  ⟨g.dn, dr n, ds, _, ok.dn, dn_nc ds dd z, q, fun v g1 H' m r p s1 o1 e1 => k v (g.up g1) H' _ r (p (e1.noC o1.nocel)) (Stp.up ok s1) (ok.upW s1 o1) (e1.up ok s1 o1)⟩
theorem upX_ok {s : FDX} : ∀ vs H Q E, liftFX true K (upX s) vs H Q E → liftFX false K s vs H Q E := fun vs H Q E ⟨g, n, ds, P, R, ok, dd, ⟨z, q⟩, k, kx⟩ =>
  ⟨g.dn, dr n, ds, _, _, ok.dn, dn_nc ds dd z, q, fun v g1 H' m r p s1 o1 e1 => k v (g.up g1) H' _ r (p (e1.noC o1.nocel)) (Stp.up ok s1) (ok.upW s1 o1) (e1.up ok s1 o1),
    fun g1 H' m C dx u r p s1 o1 e1 e2 => kx (g.up g1) H' _ C dx u r (p (e2.noC o1.nocel)) (Stp.up ok s1) (ok.upW s1 o1) e1 (e2.up ok s1 o1)⟩
end
end Pd
namespace Pd
open PySem L2 PyProof.Rows
section
variable {K : PySem.W.Frag} {g g1 : Gh} {H H' : Hp} {n m : Nat} {ℓ : Bool}
theorem Ok.rem (ok : Ok ℓ K g H n) {D : Addr} (h1 : g.G D = none) (h2 : ¬ g.pot D) (h3 : ∀ u, H D = some u → Lite u) : Ok ℓ K g (rem H D) n := by
  refine ⟨fun a u e => ?_, fun a z => ?_, ok.t.at (fun a ps e => ?_) fun a u e hn => ?_, ok.cel.step (Ext.refl g) fun a C m => rem_ne fun w => h2 (by rw [← w]; exact (ok.cel.mem m).1)⟩
  · rw [rem_ne fun w => by rw [w, h1] at e; cases e]; exact ok.sub a u e
  · rw [rem_ne fun w => h2 (by rw [← w]; exact z)]; exact ok.pot a z
  · by_cases w : a = D
    · rw [w, rem_at] at e; cases e
    · rw [rem_ne w] at e; exact e
  · rw [rem_ne fun w => hn (h3 u (by rw [← w]; exact e))]; exact e
theorem upI_ok {C : Addr} {s : FI} : ∀ vs H Q E, liftInit true K C (upI s) vs H Q E → liftInit false K C s vs H Q E := fun vs H Q E ⟨g, n, x, dx, vs', ds, P, ev, hx, gx, px, ok, dd, ⟨z, q⟩, k⟩ => by
  have okr : Ok true K g (Pd.rem H x) n := ok.rem gx px fun u e => by
    rw [hx] at e
    cases e
    exact .inr (.inl ⟨_, _, _, rfl⟩)
  refine ⟨g.dn, dr n, x, dx, vs', ds, _, ev, hx, gx, fun w => px w.1, ok.dn, dn_nc ds dd z, q, fun g1 H' m fs dx' fvs p s1 o1 h1 h2 h3 h4 => ?_⟩
  refine k (g.up g1) H' _ fs dx' fvs (p (h4.noC o1.nocel)) (Stp.up okr s1) (okr.upW s1 o1) h1 (fun w => ?_) h3 (h4.up okr s1 o1)
  rcases w with w | ⟨C, w⟩
  · exact h2 w
  · exact px (ok.cel.mem w).1
theorem upIX_ok {C : Addr} {s : FIX} : ∀ vs H Q E, liftInitX true K C (upIX s) vs H Q E → liftInitX false K C s vs H Q E := fun vs H Q E ⟨g, n, x, dx, vs', ds, P, R, ev, hx, gx, px, ok, dd, ⟨z, q⟩, k, kx⟩ => by
  have okr : Ok true K g (Pd.rem H x) n := ok.rem gx px fun u e => by
    rw [hx] at e
    cases e
    exact .inr (.inl ⟨_, _, _, rfl⟩)
  refine ⟨g.dn, dr n, x, dx, vs', ds, _, _, ev, hx, gx, fun w => px w.1, ok.dn, dn_nc ds dd z, q, fun g1 H' m fs dx' fvs p s1 o1 h1 h2 h3 h4 => ?_, fun g1 H' m C dx u r p s1 o1 e1 e2 => ?_⟩
  · refine k (g.up g1) H' _ fs dx' fvs (p (h4.noC o1.nocel)) (Stp.up okr s1) (okr.upW s1 o1) h1 (fun w => ?_) h3 (h4.up okr s1 o1)
    rcases w with w | ⟨C, w⟩
    · exact h2 w
    · exact px (ok.cel.mem w).1
  · exact kx (g.up g1) H' _ C dx u r (p (e2.noC o1.nocel)) (Stp.up okr s1) (okr.upW s1 o1) e1 (e2.up okr s1 o1)
end
section
variable {P : Program} {w : World} {K : PySem.W.Frag} {mg : Str → Option Value} {base : Heap} {k : Nat} {f C : Addr} {m : Str} {ps : List Str} {dd : List D} {sp : FD} {sx : FDX} {fi : FI} {fx : FIX}
theorem HasF.up (h : HasF false P w K mg base k f ps dd sp) : HasF true P w K mg base k f ps dd (up sp) := by
  obtain ⟨fd, dvs, ds, F, a⟩ := h.ex
  exact ⟨fd, dvs, ds, F.imp up_ok, a⟩
theorem HasG.up (h : HasG false P w K mg base k f ps dd sp) : HasG true P w K mg base k f ps dd (Pd.up sp) := by
  obtain ⟨fd, dvs, ds, F, a⟩ := h.ex
  exact ⟨fd, dvs, ds, F.imp up_ok, a⟩
theorem HasM.up (h : HasM false P w K mg base k C m ps dd sp) : HasM true P w K mg base k C m ps dd (Pd.up sp) := by
  obtain ⟨f, fd, dvs, ds, F, a⟩ := h.ex
  exact ⟨f, fd, dvs, ds, F.imp up_ok, a⟩
theorem HasP.up (h : HasP false P w K mg base k C m ps sp) : HasP true P w K mg base k C m ps (Pd.up sp) := by
  obtain ⟨p, f, fd, F, a⟩ := h.ex
  exact ⟨p, f, fd, F.imp up_ok, a⟩
theorem HasI.up (h : HasI false P w K mg base k C ps dd fi) : HasI true P w K mg base k C ps dd (upI fi) := by
  obtain ⟨f, fd, dvs, ds, F, a⟩ := h.ex
  exact ⟨f, fd, dvs, ds, F.imp upI_ok, a⟩
theorem HasFX.up (h : HasFX false P w K mg base k f ps dd sx) : HasFX true P w K mg base k f ps dd (upX sx) := by
  obtain ⟨fd, dvs, ds, F, a⟩ := h.ex
  exact ⟨fd, dvs, ds, F.imp upX_ok, a⟩
theorem HasMX.up (h : HasMX false P w K mg base k C m ps dd sx) : HasMX true P w K mg base k C m ps dd (upX sx) := by
  obtain ⟨f, fd, dvs, ds, F, a⟩ := h.ex
  exact ⟨f, fd, dvs, ds, F.imp upX_ok, a⟩
theorem HasIX.up (h : HasIX false P w K mg base k C ps dd fx) : HasIX true P w K mg base k C ps dd (upIX fx) := by
  obtain ⟨f, fd, dvs, ds, F, a⟩ := h.ex
  exact ⟨f, fd, dvs, ds, F.imp upIX_ok, a⟩
end
noncomputable def dn (s : FD) : FD := fun ds n P => s ds (stN n []) fun m r => noC r = true ∧ P (dr m) r
theorem dn_ok {K : PySem.W.Frag} {s : FD} : ∀ vs H Q E, liftF false K (dn s) vs H Q E → liftF true K s vs H Q E := fun vs H Q E ⟨g, n, ds, P, ok, dd, q, k⟩ => by
  have o2 : Ok true K g H (stN n []) := ⟨ok.sub, fun a z => by
    have h := ok.pot a z
    refine ⟨h.1, h.2.imp id fun y => ?_⟩
    show PotH (dr (stN n [])) (H a)
    rw [dr_stN]
    exact y, ok.t, by
    rw [ok.nocel]
    show CelOk K g H [] (cs (stN n []))
    rw [cs_stN]
    exact CelOk.nil⟩
  refine ⟨g, stN n [], ds, _, o2, dd, q, fun v g' H' m r p s1 o1 e1 => ?_⟩
  refine k v g'.dn H' (dr m) r p.2 ⟨⟨s1.ext.G, fun a z => ⟨s1.ext.p a z, fun C c => ?_⟩, [], ?_, fun _ _ h => by cases h⟩, s1.gro, fun a h z => s1.grp a h z.1, s1.kep, s1.dom⟩ o1.dn (e1.nc (g := g') (g' := g'.dn) (Same.refl _) (fun a p t => ⟨⟨p, t.2⟩, t.1, fun C w => by cases w⟩) p.1)
  · obtain ⟨l, e, h⟩ := s1.ext.c
    rw [ok.nocel, List.nil_append] at e
    rw [e] at c
    exact h a C c z
  · rw [ok.nocel]
    rfl
theorem HasF.dn {P : Program} {w : World} {K : PySem.W.Frag} {mg : Str → Option Value} {base : Heap} {k : Nat} {f : Addr} {ps : List Str} {dd : List D} {sp : FD} (h : HasF true P w K mg base k f ps dd sp) : HasF false P w K mg base k f ps dd (Pd.dn sp) := by
  obtain ⟨fd, dvs, ds, F, a⟩ := h.ex
  exact ⟨fd, dvs, ds, F.imp dn_ok, a⟩
theorem HasG.dn {P : Program} {w : World} {K : PySem.W.Frag} {mg : Str → Option Value} {base : Heap} {k : Nat} {f : Addr} {ps : List Str} {dd : List D} {sp : FD} (h : HasG true P w K mg base k f ps dd sp) : HasG false P w K mg base k f ps dd (Pd.dn sp) := by
  obtain ⟨fd, dvs, ds, F, a⟩ := h.ex
  exact ⟨fd, dvs, ds, F.imp dn_ok, a⟩
noncomputable def newC (n : Nat) (od : OD) : Nat := stN (dr n) (cs n ++ [od])
noncomputable def setC (n i : Nat) (od : OD) : Nat := stN (dr n) ((cs n).set i od)
theorem dr_newC (n : Nat) (od : OD) : dr (newC n od) = dr n := dr_stN _ _
theorem cs_newC (n : Nat) (od : OD) : cs (newC n od) = cs n ++ [od] := cs_stN _ _
theorem dr_setC (n i : Nat) (od : OD) : dr (setC n i od) = dr n := dr_stN _ _
theorem cs_setC (n i : Nat) (od : OD) : cs (setC n i od) = (cs n).set i od := cs_stN _ _
def Gh.addC (g : Gh) (p : Addr) (C : Option Addr) : Gh := ⟨g.G, fun a => g.pot a ∨ a = p, g.cel ++ [(p, C)]⟩
section
variable {K : PySem.W.Frag} {g g0 : Gh} {H H0 : Hp} {n : Nat} {p : Addr} {o : HO} {od : OD}
theorem Ext.addC {C : Option Addr} (h : ¬ g.pot p) : Ext g (g.addC p C) := ⟨Same.refl _, fun a z => .inl z, [(p, C)], rfl, fun a C' m => by
  rw [List.mem_singleton] at m
  cases m
  exact h⟩
theorem Ok.newC (ok : Ok true K g H n) (h1 : g.G p = none) (h2 : ¬ g.pot p) (h3 : H p = some o) (h4 : OwnH K g od o) : Ok true K (g.addC p od.cls) H (newC n od) := by
  have ex : Ext g (g.addC p od.cls) := Ext.addC h2
  have hT : ∀ q, (p, q) ∉ tabsK K := fun q z => h2 (ok.t.tp _ z)
  refine ⟨ok.sub, fun a z => ?_, ⟨ok.t.tabs, fun q hq => .inl (ok.t.tp q hq), ok.t.all⟩, ?_⟩
  · rcases z with z | z
    · obtain ⟨w1, w2⟩ := ok.pot a z
      refine ⟨w1, w2.imp (fun y => y.imp id fun ⟨C, c⟩ => ⟨C, List.mem_append_left _ c⟩) fun y => ?_⟩
      show PotH (dr (Pd.newC n od)) (H a)
      rw [dr_newC]
      exact y
    · subst z
      exact ⟨h1, .inl (.inr ⟨od.cls, List.mem_append_right _ List.mem_cons_self⟩)⟩
  · show CelOk K (g.addC p od.cls) H (g.cel ++ [(p, od.cls)]) (cs (Pd.newC n od))
    rw [cs_newC]
    have c := ok.cel.step ex fun _ _ _ => rfl
    have hl : g.cel.length = (cs n).length := c.len
    refine ⟨by rw [List.length_append, List.length_append, hl]; rfl, fun i a C e => ?_, fun i j a C C' e1 e2 => ?_⟩
    · rcases Nat.lt_or_ge i g.cel.length with z | z
      · rw [List.getElem?_append_left z] at e
        obtain ⟨w1, w2, od', o', w3, w4⟩ := c.at_ i a C e
        exact ⟨w1, w2, od', o', by rw [List.getElem?_append_left (by omega)]; exact w3, w4⟩
      · rw [List.getElem?_append_right z] at e
        rw [List.getElem?_singleton] at e
        split at e
        · rename_i y
          cases e
          exact ⟨.inr rfl, hT, od, o, by rw [List.getElem?_append_right (by omega), show i - (cs n).length = 0 by omega]; rfl, rfl, h3, h4.mono ex⟩
        · cases e
    · have key : ∀ (i : Nat) (a : Addr) (C : Option Addr), (g.cel ++ [(p, od.cls)])[i]? = some (a, C) → (i < g.cel.length ∧ g.cel[i]? = some (a, C) ∧ g.pot a) ∨ (i = g.cel.length ∧ a = p) := fun i a C e => by
        rcases Nat.lt_or_ge i g.cel.length with z | z
        · rw [List.getElem?_append_left z] at e
          exact .inl ⟨z, e, (ok.cel.at_ i a C e).1⟩
        · rw [List.getElem?_append_right z, List.getElem?_singleton] at e
          split at e
          · cases e
            exact .inr ⟨by omega, rfl⟩
          · cases e
      rcases key i a C e1 with ⟨z1, z2, z3⟩ | ⟨z1, z2⟩ <;> rcases key j a C' e2 with ⟨y1, y2, y3⟩ | ⟨y1, y2⟩
      · exact ok.cel.nd i j a C C' z2 y2
      · exact absurd (by rw [← y2]; exact z3) h2
      · exact absurd (by rw [← z2]; exact y3) h2
      · omega
theorem Stp.addC {C : Option Addr} (s : Stp g0 H0 g H) (h : H0 p = none) (h2 : ¬ g.pot p) : Stp g0 H0 (g.addC p C) H :=
  ⟨s.ext.trans (Ext.addC h2), s.gro, fun a z w => by
    rcases w with w | w
    · exact s.grp a z w
    · exact absurd h (by rw [← w]; exact z), s.kep, s.dom⟩
theorem Gh.addC_at {C : Option Addr} : (g.addC p C).cel[g.cel.length]? = some (p, C) := by
  show (g.cel ++ [(p, C)])[g.cel.length]? = some (p, C)
  rw [List.getElem?_append_right (Nat.le_refl _), Nat.sub_self]
  rfl
theorem Ok.cell (ok : Ok true K g H n) {i : Nat} {C : Option Addr} (h : g.cel[i]? = some (p, C)) : g.pot p ∧ NoT K g p = NoT K g p ∧ ∃ od o, (cs n)[i]? = some od ∧ od.cls = C ∧ H p = some o ∧ OwnH K g od o := by
  obtain ⟨h1, h2, h3⟩ := ok.cel.at_ i p C h
  exact ⟨h1, rfl, h3⟩
theorem Ok.cellI (ok : Ok true K g H n) {i : Nat} {v : V} {C : Addr} (h : Den K g v (.cel (some C) i)) : ∃ p dx fvs fs, v = .ref p ∧ g.cel[i]? = some (p, some C) ∧ g.pot p ∧ (cs n)[i]? = some (.ins C fs) ∧ H p = some (.ins C dx fvs) ∧ Flds K g fvs fs := by
  cases h with
  | cel h =>
    rename_i a
    obtain ⟨h1, _, od, o, h3, h4, h5, h6⟩ := ok.cell h
    cases od with
    | lst ds => cases h4
    | dic ks vs => cases h4
    | ins C' fs =>
      cases h4
      obtain ⟨dx, fvs, rfl, h7⟩ := h6
      exact ⟨a, dx, fvs, fs, rfl, h, h1, h3, h5, h7⟩
theorem Ok.cellL (ok : Ok true K g H n) {i : Nat} {v : V} {ds : List D} (h : Den K g v (.cel none i)) (hc : (cs n)[i]? = some (.lst ds)) : ∃ p vs, v = .ref p ∧ g.cel[i]? = some (p, none) ∧ g.pot p ∧ H p = some (.lst vs) ∧ Dens K g vs ds := by
  cases h with
  | cel h =>
    rename_i a
    obtain ⟨h1, _, od, o, h3, h4, h5, h6⟩ := ok.cell h
    rw [hc] at h3
    cases h3
    obtain ⟨vs, rfl, h7⟩ := h6
    exact ⟨a, vs, rfl, h, h1, h5, h7⟩
theorem Ok.setC (ok : Ok true K g H n) {i : Nat} {C : Option Addr} (h : g.cel[i]? = some (p, C)) (hc : od.cls = C) (h4 : OwnH K g od o) : Ok true K g (upd H p o) (setC n i od) ∧ Stp g H g (upd H p o) := by
  obtain ⟨h1, _, od0, o0, h3, h5, h6, h7⟩ := ok.cell h
  have hl : i < (cs n).length := (List.getElem?_eq_some_iff.mp h3).1
  have hG := (ok.pot p h1).1
  refine ⟨⟨fun a u e => ?_, fun a z => ?_, ok.t.upd (fun u z => by rw [h6] at z; cases z; exact h7.lite) h4.lite.nt, ?_⟩, Stp.turn h1 (by rw [h6]; exact Option.some_ne_none _)⟩
  · rw [upd_ne fun q => by rw [q, hG] at e; cases e]
    exact ok.sub a u e
  · obtain ⟨w1, w2⟩ := ok.pot a z
    refine ⟨w1, ?_⟩
    by_cases q : a = p
    · rw [q]
      exact .inl (.inr ⟨C, List.mem_of_getElem? h⟩)
    · refine w2.imp id fun y => ?_
      show PotH (dr (Pd.setC n i od)) (upd H p o a)
      rw [dr_setC, upd_ne q]
      exact y
  · show CelOk K g (upd H p o) g.cel (cs (Pd.setC n i od))
    rw [cs_setC]
    refine ⟨by rw [List.length_set]; exact ok.cel.len, fun j a C' e => ?_, ok.cel.nd⟩
    obtain ⟨w1, w2, od', o', w3, w4, w5, w6⟩ := ok.cel.at_ j a C' e
    by_cases q : a = p
    · subst q
      have : j = i := ok.cel.nd j i a C' C e h
      subst this
      rw [h] at e
      cases e
      exact ⟨w1, w2, od, o, List.getElem?_set_self hl, hc, upd_same, h4⟩
    · refine ⟨w1, w2, od', o', ?_, w4, by rw [upd_ne q]; exact w5, w6⟩
      rw [List.getElem?_set_ne fun e2 => q ?_]
      · exact w3
      · subst e2
        rw [h] at e
        cases e
        rfl
end
end Pd
namespace Pd
open PySem L2 PyProof.Rows
variable {W : WX}
def isI (C : Addr) (n : Nat) (x : D) (i : Nat) (fs : List (Str × D)) : Prop := x = .cel (some C) i ∧ (cs n)[i]? = some (.ins C fs)
def dFldC (C : Addr) (f : Str) (d : DE) : DE := fun n ε P => d n ε fun n1 x => ∃ i fs y, isI C n1 x i fs ∧ fs.lookup f = some y ∧ P n1 y
def dPropC (C : Addr) (sp : FD) (d : DE) : DE := fun n ε P => d n ε fun n1 x => (∃ i, x = .cel (some C) i) ∧ sp [x] n1 P
def dMethC (C : Addr) (m : Str) (sp : FD) (dd : List D) (d : DE) (t : DA) : DE := fun n ε P => d n ε fun n1 x => (∃ i fs, isI C n1 x i fs ∧ fs.lookup m = none) ∧ t n1 ε fun n2 ds => sp (x :: (ds ++ dd)) n2 P
def dMethRC (C : Addr) (m : Str) (sp : FDX) (dd : List D) (d : DE) (t : DA) : DXc := fun n ε P R => d n ε fun n1 x => (∃ i fs, isI C n1 x i fs ∧ fs.lookup m = none) ∧ t n1 ε fun n2 ds => sp (x :: (ds ++ dd)) n2 P R
theorem isI_at {K : PySem.W.Frag} {g : Gh} {H : Hp} {n : Nat} (ok : Ok true K g H n) {v : V} {x : D} {C : Addr} {i : Nat} {fs : List (Str × D)} (h : Den K g v x) (q : isI C n x i fs) :
    ∃ p dx fvs, v = .ref p ∧ g.cel[i]? = some (p, some C) ∧ H p = some (.ins C dx fvs) ∧ Flds K g fvs fs := by
  obtain ⟨rfl, q⟩ := q
  obtain ⟨p, dx, fvs, fs', h1, h2, h3, h4, h5, h6⟩ := ok.cellI h
  rw [q] at h4
  cases h4
  exact ⟨p, dx, fvs, h1, h2, h5, h6⟩
section
variable {X : Cx} {k : Nat} {C : Addr} {ps : List Str} {sp : FD} {sx : FDX} {dd : List D} {E : XK} {f m : Str} {pos pos' apos : Pos} {e o : Expr} {es : List Expr} {da db : DE} {t : DA}
def putC (C : Addr) (f : Str) (r x : D) (n : Nat) (P : Nat → Prop) : Prop := ∃ i fs, isI C n x i fs ∧ fs.length < 1000 ∧ P (setC n i (.ins C (putFD f r fs)))
def dFstC (C : Addr) (f : Str) (d o : DE) : DS := fun N n ε => d n ε fun n1 r => o n1 ε fun n2 x => putC C f r x n2 fun n3 => N.nx n3 ε
theorem put_at {K : PySem.W.Frag} {g : Gh} {H : Hp} {n : Nat} (ok : Ok true K g H n) {v y : V} {x r : D} {f : Str} {P : Nat → Prop} (h : Den K g v x) (hr : Den K g y r) (q : putC C f r x n P) :
    ∃ p dx fvs n', v = .ref p ∧ H p = some (.ins C dx fvs) ∧ fvs.length < 1000 ∧ P n' ∧ Ok true K g (upd H p (.ins C dx (putF f y fvs))) n' ∧ Stp g H g (upd H p (.ins C dx (putF f y fvs))) := by
  obtain ⟨i, fs, h1, h2, h3⟩ := q
  obtain ⟨p, dx, fvs, rfl, w2, w3, w4⟩ := isI_at ok h h1
  obtain ⟨a, b⟩ := ok.setC (od := .ins C (putFD f r fs)) (o := .ins C dx (putF f y fvs)) w2 rfl ⟨dx, _, rfl, w4.put hr⟩
  exact ⟨p, dx, fvs, _, rfl, w3, by rw [w4.length]; exact h2, h3, a, b⟩
end
def dMakeC (C : Addr) (f : FI) (dd : List D) (t : DA) : DE := fun n ε P => t n ε fun n1 ds => f (ds ++ dd) n1 fun n2 fs => P (newC n2 (.ins C fs)) (.cel (some C) (cs n2).length)
def dMakeRC (C : Addr) (f : FIX) (dd : List D) (t : DA) : DXc := fun n ε P R => t n ε fun n1 ds => f (ds ++ dd) n1 (fun n2 fs => P (newC n2 (.ins C fs)) (.cel (some C) (cs n2).length)) R
end Pd
namespace Pd
open PySem L2 PyProof.Rows
variable {W : WX}
section
variable {X : Cx} {k : Nat} {C : Addr} {ps : List Str} {sp : FD} {a o : Expr} {da db : DE} {pos : Pos}
def dInC (C : Addr) (sp : FD) (da db : DE) : DE := fun n ε P => da n ε fun n1 x => db n1 ε fun n2 y => (∃ i, y = .cel (some C) i) ∧ sp [y, x] n2 fun n3 r => ∃ k, r = .bl k ∧ P n3 (.bl k)
def dEqC (C : Addr) (ng : Bool) (sp : FD) (da db : DE) : DE := fun n ε P => da n ε fun n1 x => db n1 ε fun n2 y => (∃ i, x = .cel (some C) i) ∧ (∃ j, y = .cel (some C) j) ∧ sp [x, y] n2 fun n3 r => ∃ k, r = .bl k ∧ P n3 (.bl (k != ng))
end
def dLenC (C : Addr) (sp : FD) (d : DE) : DE := fun n ε P => d n ε fun n1 x => (∃ i, x = .cel (some C) i) ∧ sp [x] n1 fun n2 r => ∃ k : Nat, r = .int k ∧ k < 1073741824 ∧ P n2 (.int k)
end Pd
namespace Pd
variable {ℓ : Bool}
open PySem L2 PyProof.Rows
section
variable {X : Cx} {pos p : Pos} {keys : List (Option Expr)} {vals : List Expr} {ks : List (List Nat)} {t : DA} {v : Expr} {d : DE}
def dDicN (ks : List (List Nat)) (t : DA) : DE := fun n ε P => t n ε fun n1 vs => P n1 (.dic ks vs)
def dixAt (x y : D) (P : D → Prop) : Prop := match x, y with
  | .dic ks vs, .str k => ∃ v, (ks.zip vs).lookup k = some v ∧ P v
  | _, _ => False
def dDix (da db : DE) : DE := fun n ε P => da n ε fun n1 x => db n1 ε fun n2 y => dixAt x y (P n2)
end
end Pd
namespace Pd
open PySem PySem.Spec PyProof.Rows L2
end Pd
namespace Pd
open PySem L2 PyProof.Rows
end Pd
namespace Pd
open PySem L2 PyProof.Rows
def dIxC (da di : DE) : DE := fun n ε P => da n ε fun n1 x => di n1 ε fun n2 y => ∃ i ds k d, x = .cel none i ∧ (cs n2)[i]? = some (.lst ds) ∧ y = .int k ∧ L2.atI ds k = some d ∧ P n2 d
def DGC := D → Nat → Ev → (Nat → Ev → Prop) → Prop
def DGCs := List D → Nat → Ev → (Nat → Ev → Prop) → Prop
def gSubC (da di : DE) : DGC := fun v n ε P => da n ε fun n1 x => di n1 ε fun n2 y => ∃ i ds k j, x = .cel none i ∧ (cs n2)[i]? = some (.lst ds) ∧ y = .int k ∧ ixN ds.length k = some j ∧ P (setC n2 i (.lst (ds.set j v))) ε
def dAsgC (d : DE) (dg : DGC) : DS := fun N n ε => d n ε fun n1 r => dg r n1 ε fun n2 ε' => N.nx n2 ε'
def liftGC (K : PySem.W.Frag) (dg : DGC) : TG := fun v σ H Q => ∃ O g n ε d P, Rp true K O g H n σ ε ∧ Den K g v d ∧ dg d n ε P ∧ ∀ σ' g' H' n' ε', P n' ε' → Rp true K O g' H' n' σ' ε' → Stp g H g' H' → Q σ' H'
section
variable {X : Cx} {pos p2 : Pos} {a b o ix e tg : Expr} {es : List Expr} {t : DA} {da db di d : DE} {dg : DGC} {dgs : DGCs} {W : WX}
theorem de_ixC (ha : PE X a (liftE true X.K da)) (hb : PE X b (liftE true X.K db)) (hs : PlainIx b := by intro _ _; rfl) : PE X (.Subscript a b pos) (liftE true X.K (dIxC da db)) :=
  de_of (pe_ix ix_seq ha hb hs) fun O g H n σ ε P Q r q k => ⟨O, g, n, ε, _, r, q, fun v1 g1 H1 n1 x1 q1 s1 o1 e1 => ⟨O, g1, n1, ε, _, r.step s1 o1, q1, fun v2 g2 H2 n2 x2 q2 s2 o2 e2 => by
    obtain ⟨i, ds, j, y, rfl, hc, rfl, hy, q3⟩ := q2
    obtain ⟨p, vs, rfl, w1, w2, w4, w5⟩ := o2.cellL (e1.mono s2.ext) hc
    obtain ⟨u, e, du⟩ := w5.atI hy
    cases e2
    exact .inl ⟨p, vs, j, u, rfl, rfl, SqL.of w4, e, k u g2 H2 n2 y q3 (s1.trans s2) o2 du⟩⟩⟩
theorem dgc_sub (ho : PE X o (liftE true X.K da)) (hi : PE X ix (liftE true X.K di))
    (ha : ∀ v, assign (.Subscript o ix pos) X.env v = (do
      let ov ← holding [v] (eval o X.env)
      let iv ← holding [v, ov] (eval ix X.env)
      standAt pos
      holding [v, ov, iv] (setItem ov iv v)
      release [v, ov, iv] []) := by intro _; rfl) : PG X (.Subscript o ix pos) (liftGC X.K (gSubC da di)) :=
  pg_w (pg_sub ho hi set_list ha) fun v σ H Q ⟨O, g, n, ε, d, P, r, dd, q, k⟩ => ⟨O, g, n, ε, _, r, q, fun v1 g1 H1 n1 x1 q1 s1 o1 e1 => ⟨O, g1, n1, ε, _, r.step s1 o1, q1, fun v2 g2 H2 n2 x2 q2 s2 o2 e2 => by
    obtain ⟨i, ds, m, j, rfl, hc, rfl, hj, q3⟩ := q2
    obtain ⟨p, vs, rfl, w1, w2, w4, w5⟩ := o2.cellL (e1.mono s2.ext) hc
    cases e2
    obtain ⟨c1, c2⟩ := o2.setC (od := .lst (ds.set j d)) (o := .lst (vs.set j v)) w1 rfl ⟨_, rfl, w5.set (dd.mono (s1.trans s2).ext) j⟩
    have st := (s1.trans s2).trans c2
    exact ⟨p, vs, m, j, rfl, rfl, w4, by rw [w5.length]; exact hj, k σ g2 _ _ ε q3 (r.step st c1) st⟩⟩⟩
theorem ds_asgC (he : PE X e (liftE true X.K d)) (hg : PG X tg (liftGC X.K dg)) (hs : swapsWithSole [tg] e pos.line X.env = pure false := by rfl) (hw : swappedStores [tg] e X.env = pure none := by rfl)
    (h1 : (assignEach [tg] X.env).map (·.2) = [assign tg X.env] := by rfl) : PS X (.Assign [tg] e pos) (liftS true W X.K (dAsgC d dg)) :=
  ps_w (ps_asg he hg hs hw h1) fun E σ H ⟨U, g0, H0, g, n, ε, N, uo, r, s0, q, k1, k2, k3, k4⟩ => ⟨_, g, n, ε, _, r, q, fun v g1 H1 n1 x q1 s1 o1 e1 =>
    ⟨_, g1, n1, ε, x, _, r.step s1 o1, e1, q1, fun σ' g2 H2 n2 ε' q2 r2 s2 => k1 σ' g2 H2 n2 ε' q2 r2 (s0.trans (s1.trans s2))⟩⟩
end
end Pd
namespace Pd
open PySem L2 PyProof.Rows
end Pd
namespace Pd
open PySem L2 PyProof.Rows
end Pd
namespace Pd
variable {ℓ : Bool}
open PySem L2 PyProof.Rows
section
variable {X : Cx} {a e o : Expr} {es : List Expr} {op : Operator} {r : R2} {go : G2} {ta te to : TE} {tas : TA} {y z : Str} {j j2 : Nat} {c c0 c1 apos pos : Pos} {d da : DE} {t : DA}
theorem PAT.of (h : PA X es tas) : PAT X es tas := fun pos pins s σ H Q _ I q => h.run pos pins s σ H Q I q
theorem PET.of (h : PE X e te) : PET X e te := fun pins s σ H Q _ I q => h.run pins s σ H Q I q
end
end Pd
namespace Pd
open PySem L2 PyProof.Rows
def dLstC (d : DE) : DE := fun n ε P => d n ε fun n1 x => match x with
  | .lst xs => P (newC n1 (.lst xs)) (.cel none (cs n1).length)
  | .tup xs => P (newC n1 (.lst xs)) (.cel none (cs n1).length)
  | _ => False
abbrev DGL := D → Nat → Ev → (Ev → Prop) → Prop
def gTpL (m : Nat) (gs : DGs) : DGL := fun d n ε P => ∃ i ds, d = .cel none i ∧ (cs n)[i]? = some (.lst ds) ∧ ds.length = m ∧ gs ds ε P
def liftGL (K : PySem.W.Frag) (ws : List Nat) (dg : DGL) : TG := fun v σ H Q => ∃ O g n ε d P, Rp true K O g H n σ ε ∧ Den K g v d ∧ dg d n ε P ∧ ∀ σ' ε', P ε' → Rp true K O g H n σ' ε' → Only ws σ σ' → Q σ' H
section
variable {X : Cx} {pos : Pos} {a : Expr} {d : DE} {es : List Expr} {ws : List Nat} {dgs : DGs}
theorem de_lstC {p : Pos} (hc : X.calm = true) (hg : Gl X "list") (hm : X.mg "list" = none) (ha : PE X a (liftE true X.K d)) (na : starEach [a] X.env = (false, eval a X.env) :: starEach [] X.env := by rfl) :
    PE X (.Call (.Name "list" p) [a] [] pos) (liftE true X.K (dLstC d)) :=
  de_of (pe_callTy (call_listA hc) hg hm bt_list (pa_cons ha pa_nil na) (by decide) (by decide) na) fun O g H n σ ε P Q r q k => ⟨O, g, n, ε, _, r, q, fun v g1 H1 n1 x q1 s1 o1 e1 => by
    have fin : ∀ {vs : List V} {ds : List D}, Dens X.K g1 vs ds → P (newC n1 (.lst ds)) (.cel none (cs n1).length) → ∀ p, H1 p = none → Q (.ref p) (upd H1 p (.lst vs)) := fun {vs ds} dd q2 p hp => by
      obtain ⟨z1, z2, z3, z4⟩ := new_own o1 hp (.lst vs)
      have w1 : Stp g1 H1 (g1.addC p none) (upd H1 p (.lst vs)) := Stp.addC z1 hp z4
      refine k _ _ _ _ _ q2 (s1.trans w1) (z2.newC (od := .lst ds) z3 z4 upd_same ⟨vs, rfl, dd⟩) (.cel ?_)
      have := z2.cel.len
      have e : (cs n1).length = g1.cel.length := this.symm
      rw [e]
      exact Gh.addC_at
    cases e1 with
    | lst h1 h2 => exact .inl ⟨_, _, rfl, .inl (SqL.of (o1.sub _ _ h1)), fin h2 q1⟩
    | tup h1 h2 => exact .inl ⟨_, _, rfl, .inr (Or.inl (h1.same o1.sub)), fin h2 q1⟩
    | _ => exact q1.elim⟩
theorem dgl_tup {k n : Nat} (hc : X.calm = true) (h : PGs X es (liftGs true X.K ws dgs)) (hn : (assignEach es X.env).length = n := by rfl) (hst : (assignEach es X.env).findIdx? (·.1) = none := by rfl) : PG X (.Tuple es k pos) (liftGL X.K ws (gTpL n dgs)) :=
  pg_w (pg_unl hc h hn hst) fun v σ H Q ⟨O, g, m, ε, d, P, r, dd, q, k⟩ => by
    obtain ⟨i, ds, rfl, hcl, hl, q⟩ := q
    obtain ⟨p, vs, rfl, w1, w2, w4, w5⟩ := r.ok.cellL dd hcl
    exact ⟨_, _, rfl, SqL.of w4, w5.length.trans hl, O, g, m, ε, _, P, r, w5, q, k⟩
end
section
def compWL (dg : DGL) (t : DT) (d : DE) (ε : Ev) (P : Nat → List D → Prop) : List D → List D → Nat → Prop
  | [], acc, n => P n acc
  | x :: xs, acc, n => dg x n ε fun ε' => t n ε' fun n1 k => (k = true → d n1 ε' fun n2 y => compWL dg t d ε P xs (acc ++ [y]) n2) ∧ (k = false → compWL dg t d ε P xs acc n1)
def dCompL (di : DI) (dg : DGL) (t : DT) (d : DE) (vs : List Nat) : DO := fun n ε P => di n ε fun n1 xs => xs.length ≤ 16777216 ∧ compWL dg t d (wipeE ε vs) P xs [] n1
variable {X : Cx} {tg iter elt : Expr} {pos : Pos} {di : DI} {dg : DGL} {t : DT} {d : DE} {ws : List Nat} {ifs : List Expr} {scope : Scope} {own : List (Str × Nat)}
theorem comp_okL {K : PySem.W.Frag} {vs : List Nat} (hv : ∀ i ∈ ws, i ∈ vs) : ∀ σ H Q, liftO true K (dCompL di dg t d vs) σ H Q → tLc (liftI true K di) (liftGL K ws dg) (liftT true K t) (liftE true K d) vs σ H Q := fun σ H Q ⟨O, g, n, ε, P, r, q, k⟩ => by
  refine ⟨O, g, n, ε, _, r, q, fun J gI HI nI xs q1 s1 o1 wk => ?_⟩
  obtain ⟨hz, q1⟩ := q1
  intro D hD
  have hz2 := sz hz
  obtain ⟨z1, z2, z3, z4⟩ := new_own o1 hD (.lst [])
  refine ⟨fun i m H => m = xs.length - i ∧ i ≤ xs.length ∧ ∃ g n acc vsL, Ok true K g H n ∧ Stp gI HI g H ∧ g.G D = none ∧ ¬ g.pot D ∧ H D = some (.lst vsL) ∧ Dens K g vsL acc ∧ acc.length ≤ i ∧ compWL dg t d (wipeE ε vs) P (xs.drop i) acc n,
    ⟨xs.length, by simp, Nat.zero_le _, gI, nI, [], [], z2, z1, z3, z4, upd_same, .nil, Nat.le_refl _, by simpa using q1⟩, ?_⟩
  rintro i m H ⟨rfl, hi, g, n, acc, vsL, o, s, h1, h2, h3, h4, h5, cw⟩
  have sm : Same gI.G H := s.ext.G.trans o.sub
  by_cases hlt : i < xs.length
  · refine .inr ⟨wk.go i H hlt sm, fun H' => ∃ g n acc vsL, Ok true K g H' n ∧ Stp gI HI g H' ∧ g.G D = none ∧ ¬ g.pot D ∧ H' D = some (.lst vsL) ∧ Dens K g vsL acc ∧ acc.length ≤ i + 1 ∧ compWL dg t d (wipeE ε vs) P (xs.drop (i + 1)) acc n, fun H' z => ⟨xs.length - (i + 1), by omega, rfl, hlt, z⟩, fun x H' y => ?_⟩
    obtain ⟨g2, dx, ed, s2, o2, e2⟩ := wk.yld i x H H' g n hlt s.ext o y
    have el : xs.drop i = dx :: xs.drop (i + 1) := by
      rw [List.drop_eq_getElem_cons hlt]
      congr 1
      rw [List.getElem?_eq_getElem hlt] at ed
      exact Option.some.inj ed
    rw [el] at cw
    have stI := s.trans s2
    have rw2 := ((r.step s1 o1).step stI o2).wipe vs
    refine ⟨O, g2, n, _, dx, _, rw2, e2, cw, fun σ2 ε2 q2 r2 on => ⟨by rw [on.wipe hv, wipe_idem], O, g2, n, ε2, _, r2, q2, fun b g3 H3 n3 q3 s3 o3 => ?_⟩⟩
    have s23 := s2.trans s3
    have dH : H D ≠ none := by rw [h3]; exact Option.some_ne_none _
    cases b with
    | true =>
      refine iteT ?_
      refine ⟨O, g3, n3, ε2, _, r2.step s3 o3, q3.1 rfl, fun v g4 H4 n4 y q4 s4 o4 e4 => ?_⟩
      have s24 := s23.trans s4
      have hD4 : H4 D = some (.lst vsL) := s24.kep D _ h3 h2
      have g4D : g4.G D = none := s24.gro D dH h1
      have p4D : ¬ g4.pot D := fun z => h2 (s24.grp D dH z)
      refine ⟨vsL, hD4, by rw [h4.length]; omega, g4, n4, acc ++ [y], vsL ++ [v], ⟨fun a u w => ?_, fun a z => ?_, o4.t.upd (fun u z => by rw [hD4] at z; cases z; exact .inl ⟨_, rfl⟩) (fun ps z => by cases z), o4.cel.upd p4D⟩, ?_, g4D, p4D, upd_same, (h4.mono s24.ext).append (.cons e4 .nil), by rw [List.length_append, List.length_singleton]; omega, q4⟩
      · rw [upd_ne (ne_of_none w g4D)]
        exact o4.sub a u w
      · rw [upd_ne fun w => p4D (by rw [← w]; exact z)]
        exact o4.pot a z
      · exact (s.trans s24).mut hD
    | false =>
      refine iteF ?_
      exact ⟨g3, n3, acc, vsL, o3, s.trans s23, s23.gro D dH h1, fun z => h2 (s23.grp D dH z), s23.kep D _ h3 h2, h4.mono s23.ext, Nat.le_succ_of_le h5, q3.2 rfl⟩
  · have e : i = xs.length := by omega
    subst e
    rw [List.drop_length] at cw
    exact .inl ⟨wk.stop H sm, k D vsL g H n acc cw (s1.trans s) o (s1.back0 hD) h1 h2 h3 h4⟩
theorem do_compL {vs : List Nat} (hc : X.calm = true) (hN : X.N.Nodup) (hi : PI X tg iter (liftI true X.K di)) (ok : BlkOk X.N X.env.scope scope own) (hv : ∀ i ∈ ws, i ∈ vs)
    (hg : ∀ (s : Shared) (H : Hp) (C : Addr) (cl : List (Str × Addr)) (fp : List Addr), PG (X.blk s H scope (compEnvC scope cl C X.env) fp) tg (liftGL X.K ws dg)) (ht : ∀ (s : Shared) (H : Hp) (C : Addr) (cl : List (Str × Addr)) (fp : List Addr), PTs (X.blk s H scope (compEnvC scope cl C X.env) fp) ifs (liftT true X.K t))
    (he : ∀ (s : Shared) (H : Hp) (C : Addr) (cl : List (Str × Addr)) (fp : List Addr), PE (X.blk s H scope (compEnvC scope cl C X.env) fp) elt (liftE true X.K d)) (hs : ∀ x, foldedSetIterable iter X.env x = pure x := by intro _; rfl) (hvs : own.map (·.2) = vs := by rfl) :
    PE X (.ListComp elt [⟨tg, iter, ifs, 0⟩] scope pos) (liftO true X.K (dCompL di dg t d vs)) := by
  subst hvs
  exact pe_w (pe_lc hc hN hi ok hg ht he hs) (comp_okL hv)
end
end Pd
namespace LW
open PySem L2 Pd
def b__law_cells (c : Str → Addr)  : DS := (dRet (dLRg (r1 (dBi gMax (dCons (dC (.int 1)) (dCons (dBi gMin (dCons (dVar 1) (dCons (dBi gLen (dCons (dVar 0) dNil)) dNil))) dNil))))))
def b__law_pot (c : Str → Addr)  : DS := (dSeq (dSet 2 (dIte (dTB (dOp gLt (dVar 1) (dBi gLen (dCons (dVar 0) dNil)))) (dOp gIx (dVar 0) (dVar 1)) (dOp gAdd (dOp gMul (dC (.int 281)) (dVar 1)) (dC (.int 127)))))
    (dSeq (dSet 3 (dOp gMul (dOp gMod (dBi gInt (dCons (dBi gAbs (dCons (dVar 2) dNil)) dNil)) (dOp gPow (dOp gPow (dC (.int 10)) (dC (.int 60))) (dC (.int 5)))) (dBi gInt (dCons (dOp gGe (dBi gAbs (dCons (dVar 2) dNil)) (dOp gPow (dC (.int 10)) (dC (.int 18)))) dNil))))
    (dSeq (dSet 4 (dOp gMod (dBi gInt (dCons (dVar 2) dNil)) (dC (.int 2305843009213693951))))
    (dRetPot (dLstO (dCons (dVar 3) (dCons (dOp gMod (dBi gInt (dCons (dOp gAdd (dOp gAdd (dOp gMul (dVar 4) (dC (.int 74521))) (dOp gMul (dOp gMul (dC (.int 7823)) (dVar 1)) (dVar 1))) (dC (.int 199))) dNil)) (dC (.int 2305843009213693921))) (dCons (dC (.int 0)) dNil))))))))
def b__law_of (c : Str → Addr) (s__law_take : FD) : DS := (dRet (dOp gIx (dVar 1) (dCall s__law_take [] (dCons (dVar 0) (dCons (dBi gLen (dCons (dVar 1) dNil)) dNil)))))
def b__law_block_text (c : Str → Addr)  : DS := (dRet (dJoin (dC (.str [])) (dO (dComp (iVal (dVar 0)) (gTp 2 (gsCons (gNm 1) (gsCons (gNm 2) gsNil))) dYes (dOp gAdd (dVar 1) (dIte (dTB (dOp gGt (dVar 2) (dC (.int 1)))) (dBi gStr (dCons (dVar 2) dNil)) (dC (.str [])))) [1, 2]))))
def b_is_said (c : Str → Addr)  : DS := (dRet (dAndV (dTB (dIsi (isT "str" [c "Word"]) (dVar 0))) (dOp gIn (dVar 0) (dVar 1))))
def b_pieces_of (c : Str → Addr)  : DS := (dSeq (dSet 1 (dO (dComp (iEnm (dVar 0)) (gTp 2 (gsCons (gNm 2) (gsCons (gNm 3) gsNil))) (dTB (dOp gIn (dVar 3) (dC (.str [97, 98, 99, 100, 101, 102, 103, 104, 105, 106, 107, 108, 109, 110, 111, 112, 113, 114, 115, 116, 117, 118, 119, 120, 121, 122])))) (dVar 2) [2, 3])))
    (dRet (dO (dComp (iZp (dVar 1) (dLst (dStar (dSl (dVar 1) (pSome (dC (.int 1))) pNo) (dCons (dBi gLen (dCons (dVar 0) dNil)) dNil)))) (gTp 2 (gsCons (gNm 2) (gsCons (gNm 4) gsNil))) dYes (dTup (dCons (dOp gIx (dVar 0) (dVar 2)) (dCons (dSl (dVar 0) (pSome (dOp gAdd (dVar 2) (dC (.int 1)))) (pSome (dVar 4))) dNil))) [2, 4]))))
def b_whole_in (c : Str → Addr)  : DS := (dSeq (dSet 1 (dIte (dTB (dOp gEq (dSl (dVar 0) pNo (pSome (dC (.int 1)))) (dC (.str [45])))) (dSl (dVar 0) (pSome (dC (.int 1))) pNo) (dVar 0)))
    (dSeq (dIf (dOr (dNot (dTB (dChain gLt gLe (dC (.int 0)) (dBi gLen (dCons (dVar 1) dNil)) (dC (.int 40))))) (dNot (dTB (dBi gAll (dCons (dO (dComp (iVal (dVar 1)) (gNm 2) dYes (dOp gIn (dVar 2) (dC (.str [48, 49, 50, 51, 52, 53, 54, 55, 56, 57]))) [2])) dNil))))) (dRet (dC .non)) dNx)
    (dRet (dIte (dTB (dOp gEq (dBi gStr (dCons (dBi gInt (dCons (dVar 0) dNil)) dNil)) (dVar 0))) (dBi gInt (dCons (dVar 0) dNil)) (dC .non)))))
def b_block_in (c : Str → Addr) (s_whole_in : FD) : DS := (dSeq (dAsg (dVar 0) (gTp 2 (gsCons (gNm 1) (gsCons (gNm 2) gsNil))))
    (dSeq (dIf (dTB (dOp gEq (dVar 2) (dC (.str [])))) (dRet (dTup (dCons (dVar 1) (dCons (dC (.int 1)) dNil)))) dNx)
    (dSeq (dSet 3 (dCall s_whole_in [] (dCons (dVar 2) dNil)))
    (dRet (dIte (dAnd (dTB (dOp gIsNot (dVar 3) (dC .non))) (dTB (dChain gLt gLt (dC (.int 1)) (dVar 3) (dC (.int 1000000000000000000000000000000))))) (dTup (dCons (dVar 1) (dCons (dVar 3) dNil))) (dC .non))))))
def b_blocks_told (c : Str → Addr) (s_is_said : FD) (s_pieces_of : FD) (s_block_in : FD) : DS := (dSeq (dIf (dOr (dNot (dTB (dIsi (isT "str" [c "Word"]) (dVar 0)))) (dNot (dTB (dCall s_is_said [] (dCons (dSl (dVar 0) pNo (pSome (dC (.int 1)))) (dCons (dBi gList (dCons (dC (.str [97, 98, 99, 100, 101, 102, 103, 104, 105, 106, 107, 108, 109, 110, 111, 112, 113, 114, 115, 116, 117, 118, 119, 120, 121, 122])) dNil)) dNil)))))) (dRet (dC .non)) dNx)
    (dSeq (dSet 1 (dBi gTuple (dCons (dO (dComp (iVal (dCall s_pieces_of [] (dCons (dVar 0) dNil))) (gNm 2) dYes (dCall s_block_in [] (dCons (dVar 2) dNil)) [2])) dNil)))
    (dSeq (dIf (dOr (dTB (dOp gGt (dBi gLen (dCons (dVar 1) dNil)) (dC (.int 40)))) (dTB (dOp gIn (dC .non) (dVar 1)))) (dRet (dC .non)) dNx)
    (dRet (dIte (dTB (dBi gAll (dCons (dO (dComp (iZp (dVar 1) (dSl (dVar 1) (pSome (dC (.int 1))) pNo)) (gTp 2 (gsCons (gNm 3) (gsCons (gNm 4) gsNil))) dYes (dOp gNe (dOp gIx (dVar 3) (dC (.int 0))) (dOp gIx (dVar 4) (dC (.int 0)))) [3, 4])) dNil))) (dVar 1) (dC .non))))))
def b_Word___init__ (c : Str → Addr) (s_blocks_told : FD) : DS := (dSeq (dSet 2 (dCall s_blocks_told [] (dCons (dVar 1) dNil)))
    (dSeq (dIf (dTB (dOp gIs (dVar 2) (dC .non))) dNev dNx)
    (dSeq (dFst (c "Word") 0 "own_text" (dVar 1))
    (dSeq (dFst (c "Word") 0 "own_blocks" (dVar 2))
    (dSeq (dSetO 3 (dLstO (dCons (dC (.int 0)) dNil)))
    (dSeq (dFor (iVal (dVar 2)) (gTp 2 (gsCons (gNm 4) (gsCons (gNm 5) gsNil))) (dApp 3 (dOp gAdd (dIxO 3 (dNeg (dC (.int 1)))) (dVar 5))))
    (dFrz [3] (dFst (c "Word") 0 "own_ends" (dBi gTuple (dCons (dVar 3) dNil))))))))))
def b_Word_blocks (c : Str → Addr)  : DS := (dRet (dFld (c "Word") "own_blocks" (dVar 0)))
def b_stands_at (c : Str → Addr)  : DS := (dSeq (dFor (iEnmZp (dVar 0) (dVar 1)) (gTp 2 (gsCons (gNm 2) (gsCons (gTp 2 (gsCons (gTp 2 (gsCons (gNm 3) (gsCons (gNm 4) gsNil))) (gsCons (gTp 2 (gsCons (gNm 5) (gsCons (gNm 6) gsNil))) gsNil))) gsNil))) (dSeq (dSet 7 (dChain gLt gLt (dC (.int 0)) (dVar 2) (dOp gSub (dBi gLen (dCons (dVar 0) dNil)) (dC (.int 1)))))
    (dIf (dOr (dTB (dOp gNe (dVar 3) (dVar 5))) (dOr (dTB (dOp gGt (dVar 4) (dVar 6))) (dAnd (dTB (dVar 7)) (dTB (dOp gNe (dVar 4) (dVar 6)))))) (dRet (dC (.bl false))) dNx)))
    (dRet (dC (.bl true))))
def b_joined_stretches (c : Str → Addr)  : DS := (dSeq (dSetO 1 (dLstO dNil))
    (dSeq (dFor (iVal (dVar 0)) (gTp 2 (gsCons (gNm 2) (gsCons (gNm 3) gsNil))) (dIf (dAnd (dTmpT 1 (dTB (dOp gNe (dVar 1) (dLst dNil)))) (dTB (dOp gEq (dOp gIx (dIxO 1 (dNeg (dC (.int 1)))) (dC (.int 1))) (dOp gSub (dVar 2) (dC (.int 1)))))) (dSetI 1 (dNeg (dC (.int 1))) (dTup (dCons (dOp gIx (dIxO 1 (dNeg (dC (.int 1)))) (dC (.int 0))) (dCons (dVar 3) dNil)))) (dApp 1 (dTup (dCons (dVar 2) (dCons (dVar 3) dNil))))))
    (dFrz [1] (dRet (dBi gTuple (dCons (dVar 1) dNil))))))
def b_places (c : Str → Addr) (s_Word_blocks : FD) (s_Word_starts : FD) (s_stands_at : FD) (s_joined_stretches : FD) : DS := (dSeq (dIf (dNot (dTB (dIsi (isC (c "Word") []) (dVar 1)))) dNev dNx)
    (dSeq (dMul [2, 3, 4] (bCons (dProp (c "Word") s_Word_blocks (dVar 0)) (bCons (dProp (c "Word") s_Word_blocks (dVar 1)) (bOwn (dLstO dNil) bNil))))
    (dSeq (dFor (iEnm (dProp (c "Word") s_Word_starts (dVar 1))) (gTp 2 (gsCons (gNm 5) (gsCons (gNm 6) gsNil))) (dSeq (dSet 7 (dSl (dVar 3) (pSome (dVar 5)) (pSome (dOp gAdd (dVar 5) (dBi gLen (dCons (dVar 2) dNil))))))
    (dIf (dAnd (dTB (dOp gEq (dBi gLen (dCons (dVar 7) dNil)) (dBi gLen (dCons (dVar 2) dNil)))) (dTB (dCall s_stands_at [] (dCons (dVar 2) (dCons (dVar 7) dNil))))) (dSeq (dSet 8 (dOp gSub (dOp gAdd (dVar 6) (dOp gIx (dOp gIx (dVar 7) (dC (.int 0))) (dC (.int 1)))) (dOp gIx (dOp gIx (dVar 2) (dC (.int 0))) (dC (.int 1)))))
    (dApp 4 (dTup (dCons (dIte (dTB (dOp gEq (dBi gLen (dCons (dVar 2) dNil)) (dC (.int 1)))) (dVar 6) (dVar 8)) (dCons (dVar 8) dNil))))) dNx)))
    (dFrz [4] (dRet (dCall s_joined_stretches [] (dCons (dVar 4) dNil)))))))
def b_law (c : Str → Addr) (s__law_cells : FD) (s__law_pot : FD) (s__law_right : FD) : DS := (dSeq (dFor (iVal (dCall s__law_cells [] (dCons (dVar 0) (dCons (dC (.int 4)) dNil)))) (gNm 1) (dSeq (dSet 2 (dCall s__law_pot [] (dCons (dVar 0) (dCons (dVar 1) dNil))))
    (dIf (dNot (dTB (dBi gAll (dCons (dO (dComp (iRg1 (dC (.int 2))) (gNm 3) dYes (dCall s__law_right [] (dCons (dVar 2) dNil)) [3])) dNil)))) (dRet (dC (.bl false))) dNx)))
    (dRet (dC (.bl true))))
end LW
namespace LW
open PySem L2 Pd
section
variable {P : D → Prop} {C : Int → Int → Prop} {f : Int → Int → D} {i j : Int} {a b : List Nat} {xs ys : List D} {ns : List Int} {d : D} {lo hi : Option Int}
theorem ev_gI : gI C f (.int i) (.int j) P = (C i j ∧ P (f i j)) := rfl
theorem ev_addi : gAdd (.int i) (.int j) P = P (.int (i + j)) := rfl
theorem ev_adds : gAdd (.str a) (.str b) P = (a.length + b.length ≤ 16777216 ∧ P (.str (a ++ b))) := rfl
theorem ev_addl : gAdd (.lst xs) (.lst ys) P = (xs.length + ys.length ≤ 16777216 ∧ P (.lst (xs ++ ys))) := rfl
theorem ev_addt : gAdd (.tup xs) (.tup ys) P = (xs.length + ys.length ≤ 16777216 ∧ P (.tup (xs ++ ys))) := rfl
theorem ev_muli : gMul (.int i) (.int j) P = (CMulW i j ∧ P (.int (i * j))) := rfl
theorem ev_muls : gMul (.str a) (.int j) P = (-1000000 ≤ j ∧ j ≤ 1000000 ∧ a.length * j.toNat ≤ 16777216 ∧ P (.str (List.replicate j.toNat a).flatten)) := rfl
theorem ev_mull : gMul (.lst xs) (.int j) P = (-1000000 ≤ j ∧ j ≤ 1000000 ∧ xs.length * j.toNat ≤ 16777216 ∧ P (.lst (List.replicate j.toNat xs).flatten)) := rfl
theorem ev_oki : okEq (.int i) (.int j) = true := rfl
theorem ev_oks : okEq (.str a) (.str b) = true := rfl
theorem ev_okl : okEq (.lst xs) d = (okD (.lst xs) && okD d) := rfl
theorem ev_okt : okEq (.tup xs) d = (okD (.tup xs) && okD d) := rfl
theorem ev_ixl : gIx (.lst xs) (.int i) P = ∃ d, L2.atI xs i = some d ∧ P d := rfl
theorem ev_ixt : gIx (.tup xs) (.int i) P = ∃ d, L2.atI xs i = some d ∧ P d := rfl
theorem ev_ixs : gIx (.str a) (.int i) P = (a.length ≤ 16777216 ∧ ∃ c, L2.atI a i = some c ∧ P (.str [c])) := rfl
theorem ev_ixr : gIx (.scr ns) (.int i) P = ∃ k, L2.atI ns i = some k ∧ P (.int k) := rfl
theorem ev_lenl : gLen [.lst xs] P = P (.int xs.length) := rfl
theorem ev_lent : gLen [.tup xs] P = P (.int xs.length) := rfl
theorem ev_lens : gLen [.str a] P = (a.length ≤ 16777216 ∧ P (.int a.length)) := rfl
theorem ev_lenr : gLen [.scr ns] P = P (.int ns.length) := rfl
theorem ev_sll : gSl (.lst xs) lo hi P = P (.lst (cut xs lo hi)) := rfl
theorem ev_slt : gSl (.tup xs) lo hi P = P (.tup (cut xs lo hi)) := rfl
theorem ev_sls : gSl (.str a) lo hi P = (a.length ≤ 16777216 ∧ P (.str (cut a lo hi))) := rfl
theorem ev_inttoi : gInt [.int i] P = P (.int i) := rfl
theorem ev_inttob {x : Bool} : gInt [.bl x] P = P (.int (if x then 1 else 0)) := rfl
theorem ev_inttos : gInt [.str a] P = (a.length ≤ 640 ∧ ∃ n, PySem.intText? ⟨a.toArray⟩ = some n ∧ P (.int n)) := rfl
theorem ev_strtoi : gStr [.int i] P = (i.natAbs.log2 < 1920 ∧ P (.str (numD i))) := rfl
theorem ev_tupl : gTuple [.lst xs] P = P (.tup xs) := rfl
theorem ev_tupt : gTuple [.tup xs] P = P (.tup xs) := rfl
theorem ev_listl : gList [.lst xs] P = P (.lst xs) := rfl
theorem ev_listt : gList [.tup xs] P = P (.lst xs) := rfl
theorem ev_lists : gList [.str a] P = (a.length ≤ 16777216 ∧ P (.lst (sgn a))) := rfl
theorem ev_max : gMax [.int i, .int j] P = P (.int (if j > i then j else i)) := rfl
theorem ev_min : gMin [.int i, .int j] P = P (.int (if j < i then j else i)) := rfl
theorem ev_abs : gAbs [.int i] P = P (.int (if i < 0 then -i else i)) := rfl
theorem ev_all : gAll [.lst xs] P = ∃ ns, isBls xs = some ns ∧ P (.bl (ns.all id)) := rfl
theorem ev_any : gAny [.lst xs] P = ∃ ns, isBls xs = some ns ∧ P (.bl (ns.any id)) := rfl
theorem ev_srcl : srcD (.lst xs) = some xs := rfl
theorem ev_srct : srcD (.tup xs) = some xs := rfl
theorem ev_srcs : srcD (.str a) = some (sgn a) := rfl
theorem ev_at0 {α : Type} (x : α) (l : List α) : L2.atI (x :: l) 0 = some x := L2.atI_nat (j := 0) rfl
theorem ev_at1 {α : Type} (x y : α) (l : List α) : L2.atI (x :: y :: l) 1 = some y := L2.atI_nat (j := 1) rfl
theorem ev_atl {α : Type} (l : List α) (x : α) : L2.atI (l ++ [x]) (-1) = some x := L2.atI_last l x
theorem ev_atn {α : Type} : L2.atI ([] : List α) (-1) = none := by
  unfold L2.atI ixN
  rfl
theorem ev_ixn (n : Nat) : ixN (n + 1) (-1) = some n := by
  unfold ixN
  rw [if_neg (by decide), if_pos (by omega)]
  congr 1
  omega
end
theorem cut_from {α : Type} (l : List α) (k : Nat) : cut l (some (k : Int)) none = l.drop k := by
  unfold cut
  rw [show HT.sIx l.length 0 (some (k : Int)) = min k l.length from HT.sIx_nat _ _ _, show HT.sIx l.length l.length none = l.length from rfl]
  by_cases h : k ≤ l.length
  · rw [Nat.min_eq_left h]
    exact List.take_of_length_le (by rw [List.length_drop]; exact Nat.le_refl _)
  · rw [Nat.min_eq_right (by omega), List.drop_of_length_le (Nat.le_refl _), List.drop_of_length_le (by omega)]
    simp
theorem cut_to {α : Type} (l : List α) (k : Nat) : cut l none (some (k : Int)) = l.take k := by
  unfold cut
  rw [show HT.sIx l.length l.length (some (k : Int)) = min k l.length from HT.sIx_nat _ _ _, show HT.sIx l.length 0 none = 0 from rfl, List.drop_zero, Nat.sub_zero]
  by_cases h : k ≤ l.length
  · rw [Nat.min_eq_left h]
  · rw [Nat.min_eq_right (by omega), List.take_of_length_le (Nat.le_refl _), List.take_of_length_le (by omega)]
theorem cut_mid {α : Type} (l : List α) (i j : Nat) : cut l (some (i : Int)) (some (j : Int)) = (l.drop i).take (j - i) := by
  unfold cut
  rw [show HT.sIx l.length 0 (some (i : Int)) = min i l.length from HT.sIx_nat _ _ _, show HT.sIx l.length l.length (some (j : Int)) = min j l.length from HT.sIx_nat _ _ _]
  by_cases h : i ≤ l.length
  · rw [Nat.min_eq_left h]
    by_cases h2 : j ≤ l.length
    · rw [Nat.min_eq_left h2]
    · rw [Nat.min_eq_right (by omega), List.take_of_length_le (by rw [List.length_drop]; exact Nat.le_refl _), List.take_of_length_le (by rw [List.length_drop]; omega)]
  · rw [Nat.min_eq_right (by omega : l.length ≤ i), List.drop_of_length_le (Nat.le_refl _), List.drop_of_length_le (by omega)]
    simp
theorem cut_last {α : Type} (l : List α) : cut l none (some (-1)) = l.dropLast := by
  unfold cut
  rw [show HT.sIx l.length l.length (some (-1 : Int)) = l.length - 1 from by
    show (if (-1 : Int) < 0 then (-1 + (l.length : Int)).toNat else min (-1 : Int).toNat l.length) = _
    rw [if_pos (by decide)]
    omega, show HT.sIx l.length 0 none = 0 from rfl, List.drop_zero, Nat.sub_zero, List.dropLast_eq_take]
theorem compW_pure {dg : DG} {t : DT} {d : DE} {ε : Ev} {P : Nat → List D → Prop} (f : D → Bool) (g : D → D) : ∀ (xs acc : List D) (n : Nat),
    (∀ x ∈ xs, ∀ (n : Nat) (K : Nat → D → Prop) (K' : Nat → Prop), (f x = true → K n (g x)) → (f x = false → K' n) → dg x ε fun ε' => t n ε' fun n1 k => (k = true → d n1 ε' fun n2 y => K n2 y) ∧ (k = false → K' n1)) →
    P n (acc ++ (xs.filter f).map g) → compW dg t d ε P xs acc n
  | [], acc, n, _, q => by
    rw [List.filter_nil, List.map_nil, List.append_nil] at q
    exact q
  | x :: xs, acc, n, h, q => by
    refine h x (by simp) n (fun n2 y => compW dg t d ε P xs (acc ++ [y]) n2) (fun n1 => compW dg t d ε P xs acc n1) (fun hf => ?_) (fun hf => ?_)
    · refine compW_pure f g xs _ n (fun y hy => h y (List.mem_cons_of_mem _ hy)) ?_
      rw [List.filter_cons_of_pos hf, List.map_cons] at q
      rw [List.append_assoc]
      exact q
    · refine compW_pure f g xs _ n (fun y hy => h y (List.mem_cons_of_mem _ hy)) ?_
      rw [List.filter_cons_of_neg (by rw [hf]; decide)] at q
      exact q
theorem eqD_str (a b : List Nat) : eqD (.str a) (.str b) = decide (a = b) := by
  rw [eqD, Bool.eq_iff_iff]
  simp
theorem eqD_int (a b : Int) : eqD (.int a) (.int b) = decide (a = b) := by
  rw [eqD, Bool.eq_iff_iff]
  simp
theorem eqD_bl (a b : Bool) : eqD (.bl a) (.bl b) = (a == b) := by
  rw [eqD]
theorem forW_ind {dg : DG} {b : DS} {N : DN} {Inv : List D → Nat → Ev → Prop} (h0 : ∀ n ε, Inv [] n ε → N.nx n ε)
    (hs : ∀ x xs n ε, (∀ n ε, Inv xs n ε → forW dg b N xs n ε) → Inv (x :: xs) n ε → dg x ε fun ε' => b { N with nx := fun n' ε'' => forW dg b N xs n' ε'', ct := fun n' ε'' => forW dg b N xs n' ε'', bk := N.nx } n ε') :
    ∀ xs n ε, Inv xs n ε → forW dg b N xs n ε
  | [], n, ε, i => h0 n ε i
  | x :: xs, n, ε, i => hs x xs n ε (fun n ε => forW_ind h0 hs xs n ε) i
def s_of : FD := fun ds n P => ∃ (s : D) (xs : List D) (m : Nat), ds = [.pot, s] ∧ srcD s = some xs ∧ (∀ l, s = .str l → l.length ≤ 16777216) ∧ 0 < xs.length ∧ xs.length ≤ 1000000 ∧ n = m + 1 ∧ ∀ x ∈ xs, P m x
theorem l_of (c : Str → Addr) : ∀ ds n Q, s_of ds n Q → dFn 2 2 (b__law_of c takeF) ds n Q := by
  rintro ds n Q ⟨s, xs, m, rfl, hs, hl, h0, h1, rfl, q⟩
  refine ⟨rfl, ?_⟩
  have idx : ∀ {α : Type} (l : List α) (r : Int), 0 ≤ r → r < (l.length : Int) → ∃ j x, r = (j : Nat) ∧ l[j]? = some x := fun l r r0 r1 => by
    have hj : r.toNat < l.length := by omega
    exact ⟨r.toNat, _, by omega, List.getElem?_eq_getElem hj⟩
  cases s with
  | lst ys =>
    cases hs
    simp only [b__law_of, dRet, dOp, dVar, envOf, List.map_cons, List.map_nil, List.length_cons, List.length_nil, Nat.zero_add, Nat.reduceAdd, Nat.reduceSub, List.replicate, List.append_nil, List.getElem?_cons_succ, List.getElem?_cons_zero, dCall, dCons, dBi, dNil, takeF, ev_ixl, ev_lenl]
    refine ⟨_, rfl, by omega, Nat.lt_of_le_of_lt (by simpa using h1) (by decide), m, rfl, fun r r0 r1 => ?_⟩
    obtain ⟨j, x, rfl, e⟩ := idx _ r r0 r1
    exact ⟨x, atI_nat e, q x (List.mem_of_getElem? e)⟩
  | tup ys =>
    cases hs
    simp only [b__law_of, dRet, dOp, dVar, envOf, List.map_cons, List.map_nil, List.length_cons, List.length_nil, Nat.zero_add, Nat.reduceAdd, Nat.reduceSub, List.replicate, List.append_nil, List.getElem?_cons_succ, List.getElem?_cons_zero, dCall, dCons, dBi, dNil, takeF, ev_ixt, ev_lent]
    refine ⟨_, rfl, by omega, Nat.lt_of_le_of_lt (by simpa using h1) (by decide), m, rfl, fun r r0 r1 => ?_⟩
    obtain ⟨j, x, rfl, e⟩ := idx _ r r0 r1
    exact ⟨x, atI_nat e, q x (List.mem_of_getElem? e)⟩
  | str l =>
    cases hs
    rw [sgn_length] at h0 h1
    simp only [b__law_of, dRet, dOp, dVar, envOf, List.map_cons, List.map_nil, List.length_cons, List.length_nil, Nat.zero_add, Nat.reduceAdd, Nat.reduceSub, List.replicate, List.append_nil, List.getElem?_cons_succ, List.getElem?_cons_zero, dCall, dCons, dBi, dNil, takeF, ev_ixs, ev_lens]
    refine ⟨hl l rfl, _, rfl, by omega, Nat.lt_of_le_of_lt (by simpa using h1) (by decide), m, rfl, fun r r0 r1 => ?_⟩
    obtain ⟨j, x, rfl, e⟩ := idx _ r r0 r1
    refine ⟨hl l rfl, x, atI_nat e, q _ ?_⟩
    unfold sgn
    exact List.mem_map_of_mem (List.mem_of_getElem? e)
  | _ => cases hs
abbrev Bl := Nat × Nat
def blkD (b : Bl) : D := .tup [.str [b.1], .int (b.2 : Nat)]
def expand : List Bl → List Nat
  | [] => []
  | b :: r => List.replicate b.2 b.1 ++ expand r
def Adj : List Bl → Prop
  | [] => True
  | [_] => True
  | a :: b :: r => a.1 ≠ b.1 ∧ Adj (b :: r)
structure Good (bs : List Bl) : Prop where
  adj : Adj bs
  pos : ∀ b ∈ bs, 1 ≤ b.2
theorem expand_append : ∀ (a b : List Bl), expand (a ++ b) = expand a ++ expand b
  | [], b => rfl
  | x :: a, b => by
    rw [List.cons_append, expand, expand, expand_append a b, List.append_assoc]
theorem Adj.snoc : ∀ {a : List Bl} {d : Bl} {x : Bl}, Adj (a ++ [d]) → d.1 ≠ x.1 → Adj (a ++ [d] ++ [x])
  | [], d, x, _, h => ⟨h, trivial⟩
  | [y], d, x, g, h => ⟨g.1, h, trivial⟩
  | y :: z :: a, d, x, g, h => ⟨g.1, Adj.snoc (a := z :: a) g.2 h⟩
theorem Adj.last : ∀ {a : List Bl} {d e : Bl}, Adj (a ++ [d]) → d.1 = e.1 → Adj (a ++ [e])
  | [], d, e, _, _ => trivial
  | [y], d, e, g, h => ⟨fun q => g.1 (q.trans h.symm), trivial⟩
  | y :: z :: a, d, e, g, h => ⟨g.1, Adj.last (a := z :: a) g.2 h⟩
theorem isPds_blk : ∀ {bs : List Bl}, (∀ b ∈ bs, b.1 < 1114112) → isPds (bs.map blkD) = true
  | [], _ => by simp [isPds]
  | b :: bs, h => by
    have h1 := h b (by simp)
    rw [List.map_cons, isPds, isPds_blk fun x hx => h x (List.mem_cons_of_mem _ hx)]
    simp [blkD, isPd, isPds, h1]
theorem dpts_blk : ∀ (bs : List Bl), dpts (bs.map blkD) ≤ 1
  | [] => by simp [dpts]
  | b :: bs => by
    rw [List.map_cons, dpts]
    have := dpts_blk bs
    have e : dpt (blkD b) = 1 := by simp [blkD, dpt, dpts]
    omega
theorem okD_blks {bs : List Bl} (h : ∀ b ∈ bs, b.1 < 1114112) : okD (.lst (bs.map blkD)) = true := by
  unfold okD
  rw [isPd, isPds_blk h, dpt]
  have := dpts_blk bs
  simp only [Bool.true_and, decide_eq_true_eq]
  omega
theorem okD_nil : okD (.lst []) = true := by decide
theorem eqD_snoc (xs : List D) (x : D) : eqD (.lst (xs ++ [x])) (.lst []) = false := by
  cases xs <;> simp [eqD, eqDs]
theorem set_last {α : Type} (xs : List α) (y z : α) : (xs ++ [y]).set xs.length z = xs ++ [z] := by
  rw [List.set_append_right _ _ (Nat.le_refl _), Nat.sub_self]
  rfl
end LW
namespace LW
open PySem L2 Pd
abbrev Pr := Nat × Nat
def prD (r : Pr) : D := .tup [.int (r.1 : Nat), .int (r.2 : Nat)]
def stP (acc : List Pr) (r : Pr) : List Pr := match acc.getLast? with
  | some l => if l.2 + 1 = r.1 then acc.dropLast ++ [(l.1, r.2)] else acc ++ [r]
  | none => [r]
theorem stP_nil (r : Pr) : stP [] r = [r] := rfl
theorem stP_snoc (as : List Pr) (l r : Pr) : stP (as ++ [l]) r = if l.2 + 1 = r.1 then as ++ [(l.1, r.2)] else as ++ [l] ++ [r] := by
  unfold stP
  rw [List.getLast?_append]
  simp
theorem okD_prs (rs : List Pr) : okD (.lst (rs.map prD)) = true := by
  have h1 : isPds (rs.map prD) = true := by
    induction rs with
    | nil => simp [isPds]
    | cons r rs ih =>
      rw [List.map_cons, isPds, ih]
      simp [prD, isPd, isPds]
  have h2 : dpts (rs.map prD) ≤ 1 := by
    induction rs with
    | nil => simp [dpts]
    | cons r rs ih =>
      rw [List.map_cons, dpts]
      have e : dpt (prD r) = 1 := by simp [prD, dpt, dpts]
      rw [List.map_cons, isPds, Bool.and_eq_true] at h1
      have := ih h1.2
      omega
  unfold okD
  rw [isPd, h1, dpt]
  simp only [Bool.true_and, decide_eq_true_eq]
  omega
theorem stP_len (acc : List Pr) (r : Pr) : (stP acc r).length ≤ acc.length + 1 := by
  rcases List.eq_nil_or_concat acc with rfl | ⟨as, d, rfl⟩
  · simp [stP]
  · rw [List.concat_eq_append, stP_snoc]
    split <;> simp
def s_joined : FD := fun ds n P => ∃ rows : List Pr, ds = [.lst (rows.map prD)] ∧ rows.length ≤ 1000000 ∧ P n (.tup ((rows.foldl stP []).map prD))
theorem l_joined (c : Str → Addr) : ∀ ds n Q, s_joined ds n Q → dFn 4 1 (b_joined_stretches c) ds n Q := by
  rintro ds n Q ⟨rows, rfl, h0, q⟩
  refine ⟨rfl, ?_⟩
  simp only [b_joined_stretches, dSeq, dSetO, dLstO, dNil, List.length_nil, Nat.reduceLeDiff, dFor, iVal, dVar, envOf, List.map_cons, List.map_nil, List.length_cons, Nat.zero_add, Nat.reduceSub, List.replicate, List.cons_append, List.nil_append, List.set_cons_succ, List.set_cons_zero, List.getElem?_cons_zero, ev_srcl, Option.some.injEq, Pd.gSub, exists_eq_left', true_and]
  refine forW_ind (Inv := fun ys n' ε => ∃ (rs ps acc : List Pr) (s2 s3 : Sl), ys = rs.map prD ∧ n' = n ∧ ε = [.val (.lst (rows.map prD)), .own (.lst (acc.map prD)), s2, s3] ∧ ps ++ rs = rows ∧ acc = ps.foldl stP [] ∧ acc.length ≤ ps.length) ?_ ?_ _ _ _ ⟨rows, [], [], .no, .no, rfl, rfl, rfl, rfl, rfl, Nat.le_refl _⟩
  · rintro n' ε ⟨rs, ps, acc, s2, s3, e, rfl, rfl, hp, ha, hl⟩
    have : rs = [] := List.map_eq_nil_iff.mp e.symm
    subst this
    rw [List.append_nil] at hp
    simp only [dFrz, dRet, dBi, dCons, dVar, List.foldl_cons, frzE, List.getElem?_cons_succ, List.getElem?_cons_zero, OD.d, List.set_cons_succ, List.set_cons_zero, List.foldl_nil, dNil, ev_tupl]
    rw [ha, hp]
    exact q
  · rintro y ys n' ε ih ⟨rs, ps, acc, s2, s3, e, rfl, rfl, hp, ha, hl⟩
    match rs, e with
    | r :: rs, e =>
      obtain ⟨rfl, rfl⟩ : y = prD r ∧ ys = rs.map prD := by simpa using e
      have hpl : ps.length + (rs.length + 1) ≤ 1000000 := by
        have := congrArg List.length hp
        rw [List.length_append, List.length_cons] at this
        omega
      have ih' := fun acc' h1 => ih n' _ ⟨rs, ps ++ [r], acc', .val (.int (r.1 : Nat)), .val (.int (r.2 : Nat)), rfl, rfl, rfl, by rw [List.append_assoc]; exact hp, h1, by
        rw [h1, List.foldl_append, List.length_append, ← ha]
        exact Nat.le_trans (stP_len acc r) (by rw [List.length_singleton]; omega)⟩
      simp only [List.foldl_append, ← ha, List.foldl_cons, List.foldl_nil] at ih'
      rcases List.eq_nil_or_concat acc with rfl | ⟨as, d, rfl⟩
      · rw [stP_nil] at ih'
        simp only [gTp, prD, List.length_cons, List.length_nil, Nat.zero_add, Nat.reduceAdd, gsCons, gNm, gsNil, dIf, dAnd, dTmpT, dTB, dOp, dVar, frzE, List.map_nil, List.set_cons_succ, List.set_cons_zero, List.getElem?_cons_succ, List.getElem?_cons_zero, OD.d, dLst, dNil, Nat.reduceLeDiff, gNe, ev_okl, okD_nil, Bool.and_self, eqD, eqDs, Bool.not_true, reduceCtorEq, dIxO, dNeg, dC, ev_atn, gEq, dSetI, dTup, dCons, true_and, dApp, List.nil_append, ev_gI, TC, false_implies, forall_const]
        exact ⟨by decide, ih' _ rfl⟩
      · rw [List.concat_eq_append] at *
        rw [stP_snoc] at ih'
        have hok : okD (.lst (as.map prD ++ [prD d])) = true := by
          have := okD_prs (as ++ [d])
          rwa [List.map_append] at this
        rw [List.map_append, List.map_cons, List.map_nil]
        rw [show prD r = D.tup [.int (r.1 : Nat), .int (r.2 : Nat)] from rfl]
        simp only [gTp, List.length_cons, List.length_nil, Nat.zero_add, Nat.reduceAdd, gsCons, gNm, gsNil, dIf, dAnd, dTmpT, dTB, dOp, dVar, frzE, List.set_cons_succ, List.set_cons_zero, List.getElem?_cons_succ, List.getElem?_cons_zero, OD.d, dLst, dNil, Nat.reduceLeDiff, gNe, ev_okl, hok, okD_nil, Bool.and_self, eqD_snoc, Bool.not_false, dIxO, dNeg, dC, ev_atl, Option.some.injEq, gEq, dSetI, dTup, dCons, List.length_append, List.length_map, ev_ixn, exists_eq_left', true_and, dApp, ev_gI, TC, forall_const, reduceCtorEq, false_implies, and_true]
        simp only [prD, ev_ixt, ev_at0, Option.some.injEq, exists_eq_left', ev_at1, ev_oki, eqD_int, decide_eq_true_eq, decide_eq_false_iff_not, true_and]
        refine ⟨fun he => ?_, fun he => ?_⟩
        · have he' : d.2 + 1 = r.1 := by omega
          rw [if_pos he'] at ih'
          have e2 : ((as.map prD ++ [D.tup [.int (d.1 : Nat), .int (d.2 : Nat)]]).set as.length (.tup [.int (d.1 : Nat), .int (r.2 : Nat)])) = (as ++ [(d.1, r.2)]).map prD := by
            rw [show as.length = (as.map prD).length by rw [List.length_map], set_last, List.map_append]
            rfl
          have h := ih' _ rfl
          rw [← e2] at h
          exact h
        · have he' : ¬ d.2 + 1 = r.1 := by omega
          rw [if_neg he'] at ih'
          refine ⟨by have : as.length + 1 ≤ ps.length := by simpa using hl
                     omega, ?_⟩
          have e3 : (List.map prD as ++ [D.tup [.int (d.1 : Nat), .int (d.2 : Nat)], D.tup [.int (r.1 : Nat), .int (r.2 : Nat)]]) = (as ++ [d] ++ [r]).map prD := by
            rw [List.map_append, List.map_append]
            simp [prD]
          have h := ih' _ rfl
          rw [← e3] at h
          simpa using h
end LW
namespace LW
open PySem L2 Pd
theorem numD_digits (k : Nat) : numD (k : Int) = (Nat.toDigits 10 k).map Char.toNat := PySem.W.KIN.signs_num k
theorem numD_dig {k c : Nat} (h : c ∈ numD (k : Int)) : 48 ≤ c ∧ c ≤ 57 := by
  rw [numD_digits] at h
  obtain ⟨ch, hch, e⟩ := List.mem_map.mp h
  have r := PyProof.Rows.digit_range (Nat.isDigit_of_mem_toDigits (by decide) (by decide) hch)
  rw [← e]
  exact r
theorem numD_ne (k : Nat) : numD (k : Int) ≠ [] := by
  rw [numD_digits]
  intro e
  have h := PyProof.Rows.tDigits_len_ge 10 k
  rw [List.map_eq_nil_iff.mp e] at h
  exact absurd h (by decide)
theorem numD_len {k : Nat} (h : k < 10 ^ 31) : (numD (k : Int)).length ≤ 31 := by
  rw [numD_digits, List.length_map]
  exact PyProof.Rows.digits10_le (by decide) h
theorem numD_back {k : Nat} (h : k < 10 ^ 31) : PySem.intText? ⟨(numD (k : Int)).toArray⟩ = some (k : Int) := by
  have hl := numD_len h
  have e := intText_digits (x := ⟨(numD (k : Int)).toArray⟩) (fun c hc => numD_dig (by simpa using hc)) (by simpa using numD_ne k) (by simp only [Str.length, List.size_toArray]; omega)
  have e2 : (⟨(numD (k : Int)).toArray⟩ : Str).cps.toList = (Nat.toDigits 10 k).map Char.toNat := by
    rw [← numD_digits]
  rw [e2, PySem.W.KIN.val_back] at e
  exact e
theorem log_lt {k : Nat} (h : k < 10 ^ 31) : ((k : Int)).natAbs.log2 < 1920 := by
  rw [Int.natAbs_natCast]
  by_cases h0 : k = 0
  · subst h0
    decide
  · rw [Nat.log2_lt h0]
    exact Nat.lt_of_lt_of_le h (by decide)
def tail (k : Nat) : List Nat := if 1 < k then numD (k : Int) else []
def txt : List Bl → List Nat
  | [] => []
  | b :: r => (b.1 :: tail b.2) ++ txt r
theorem tail_len {k : Nat} (h : k < 10 ^ 31) : (tail k).length ≤ 31 := by
  unfold tail
  split
  · exact numD_len h
  · exact Nat.zero_le _
theorem txt_len : ∀ {bs : List Bl}, (∀ b ∈ bs, b.2 < 10 ^ 31) → (txt bs).length ≤ 32 * bs.length
  | [], _ => Nat.le_refl _
  | b :: r, h => by
    have h1 := tail_len (h b (by simp))
    have h2 := txt_len (bs := r) fun x hx => h x (List.mem_cons_of_mem _ hx)
    rw [txt, List.length_append, List.length_cons, List.length_cons]
    omega
def s_block_text : FD := fun ds n P => ∃ bs : List Bl, ds = [.lst (bs.map blkD)] ∧ bs.length ≤ 1000 ∧ (∀ b ∈ bs, b.2 < 10 ^ 31) ∧ P n (.str (txt bs))
theorem txt_flat : ∀ bs : List Bl, (bs.map fun b => b.1 :: tail b.2).flatten = txt bs
  | [] => rfl
  | b :: r => by rw [List.map_cons, List.flatten_cons, txt_flat r]; rfl
theorem l_block_text (c : Str → Addr) : ∀ ds n Q, s_block_text ds n Q → dFn 3 1 (b__law_block_text c) ds n Q := by
  rintro ds n Q ⟨bs, rfl, h0, h1, q⟩
  refine ⟨rfl, ?_⟩
  simp only [b__law_block_text, dRet, dJoin, dC, dO, dComp, iVal, dVar, envOf, List.map_cons, List.map_nil, List.length_cons, List.length_nil, Nat.zero_add, Nat.reduceSub, List.replicate, List.cons_append, List.nil_append, List.getElem?_cons_zero, ev_srcl, Option.some.injEq, gGt, wipeE, List.set_cons_succ, List.set_cons_zero, exists_eq_left', List.length_map]
  refine ⟨by omega, ?_⟩
  refine compW_pure (fun _ => true) (fun d => match d with
    | .tup [.str [a], .int k] => .str (a :: tail k.toNat)
    | _ => .non) _ _ _ (fun x hx n K K' q1 q2 => ?_) ?_
  · obtain ⟨b, hb, rfl⟩ := List.mem_map.mp hx
    have hk := h1 b hb
    have q3 : K n (.str (b.1 :: tail b.2)) := q1 rfl
    simp only [gTp, blkD, List.length_cons, List.length_nil, Nat.zero_add, Nat.reduceAdd, gsCons, gNm, gsNil, dYes, dOp, dVar, List.set_cons_succ, List.set_cons_zero, List.getElem?_cons_succ, List.getElem?_cons_zero, dIte, dTB, dC, dBi, dCons, dNil, ev_strtoi, ev_adds, List.cons_append, List.nil_append, Nat.reduceLeDiff, List.append_nil, true_and, ev_gI, TC, decide_eq_true_eq, decide_eq_false_iff_not, forall_const, reduceCtorEq, false_implies, and_true]
    refine ⟨fun h => ?_, fun h => ?_⟩
    · have hk1 : 1 < b.2 := by omega
      have e : tail b.2 = numD (b.2 : Int) := by unfold tail; rw [if_pos hk1]
      rw [e] at q3
      have := numD_len hk
      exact ⟨log_lt hk, by omega, q3⟩
    · have hk1 : ¬ 1 < b.2 := by omega
      have e : tail b.2 = [] := by unfold tail; rw [if_neg hk1]
      rw [e] at q3
      exact q3
  · have e : (([] : List D) ++ ((bs.map blkD).filter fun _ => true).map (fun d : D => match d with
      | .tup [.str [a], .int k] => D.str (a :: tail k.toNat)
      | _ => .non)) = (bs.map fun b => b.1 :: tail b.2).map D.str := by
      rw [List.nil_append, List.filter_eq_self.mpr (fun _ _ => rfl), List.map_map, List.map_map]
      exact List.map_congr_left fun b _ => by simp [blkD]
    rw [e, map_isStrs]
    refine ⟨_, rfl, ?_, ?_⟩
    · have e2 : ((bs.map fun b => b.1 :: tail b.2).map (·.length)).sum = (txt bs).length := by
        rw [← txt_flat, List.length_flatten]
      rw [e2]
      have := txt_len h1
      simp only [Nat.mul_zero, Nat.add_zero]
      omega
    · rw [joinL_nil, txt_flat]
      exact q
def s_whole_in : FD := fun ds n P => ∃ k : Nat, ds = [.str (numD (k : Int))] ∧ k < 10 ^ 31 ∧ P n (.int k)
theorem l_whole_in (c : Str → Addr) : ∀ ds n Q, s_whole_in ds n Q → dFn 3 1 (b_whole_in c) ds n Q := by
  rintro ds n Q ⟨k, rfl, h0, q⟩
  refine ⟨rfl, ?_⟩
  have hl := numD_len h0
  have hne := numD_ne k
  have hd := fun c => numD_dig (k := k) (c := c)
  have hb := numD_back h0
  generalize hD : numD (k : Int) = l at *
  have e1 : ¬ (cut l none (some 1) = [45]) := by
    rw [show (1 : Int) = ((1 : Nat) : Int) from rfl, cut_to]
    match l, hne with
    | a :: r, _ =>
      intro e
      have := (hd a (by simp)).1
      simp at e
      omega
  have hpos : 0 < l.length := List.length_pos_iff.mpr hne
  simp only [b_whole_in, dSeq, dSet, dIte, dTB, dOp, dSl, dVar, envOf, List.map_cons, List.map_nil, List.length_cons, List.length_nil, Nat.zero_add, Nat.reduceSub, List.replicate, List.cons_append, List.nil_append, List.getElem?_cons_zero, pNo, pSome, dC, gEq, dIf, dOr, dNot, dChain, dBi, dCons, List.set_cons_succ, List.set_cons_zero, List.getElem?_cons_succ, dNil, gLt, gLe, dRet, forall_const, reduceCtorEq, dNx, ev_inttos, ev_strtoi, ev_oks, eqD_str, decide_eq_true_eq, decide_eq_false_iff_not, true_and, false_implies, and_true, dO, dComp, iVal, wipeE, ev_all, ev_sls, ev_srcs, Option.some.injEq, exists_eq_left', ev_lens, ev_gI, TC]
  refine ⟨by omega, fun h => absurd h e1, fun _ => ⟨by omega, fun _ => ⟨fun h => ?_, fun _ => ⟨by rw [sgn_length]; omega, ?_⟩⟩, fun h => absurd (by omega) h⟩⟩
  · have : (l.length : Int) ≤ 40 := by omega
    rw [decide_eq_true this] at h
    cases h
  · refine compW_pure (fun _ => true) (fun _ => .bl true) _ _ _ (fun x hx n K K' q1 q2 => ?_) ?_
    · unfold sgn at hx
      obtain ⟨ch, hc, rfl⟩ := List.mem_map.mp hx
      have hr := hd ch hc
      have hm : ch ∈ [48, 49, 50, 51, 52, 53, 54, 55, 56, 57] := by
        simp only [List.mem_cons, List.mem_nil_iff, or_false]
        omega
      simp only [gNm, dYes, dOp, dVar, List.set_cons_succ, List.set_cons_zero, List.getElem?_cons_succ, List.getElem?_cons_zero, dC, gInB, decide_eq_true hm, forall_const, reduceCtorEq, false_implies, and_true]
      exact q1 rfl
    · have e2 : (([] : List D) ++ ((sgn l).filter fun _ => true).map fun _ => D.bl true) = (l.map fun _ => true).map D.bl := by
        rw [List.nil_append, List.filter_eq_self.mpr (fun _ _ => rfl)]
        unfold sgn
        rw [List.map_map, List.map_map]
        rfl
      have e3 : (l.map fun _ => true).all id = true := by simp
      rw [e2, map_isBls]
      refine ⟨_, rfl, fun h => ?_, fun _ => ⟨by omega, _, hb, log_lt h0, fun _ => ⟨by omega, _, hb, q⟩, fun h => absurd hD h⟩⟩
      rw [e3] at h
      cases h
def pcD (b : Bl) : D := .tup [.str [b.1], .str (tail b.2)]
def s_block_in : FD := fun ds n P => ∃ b : Bl, ds = [pcD b] ∧ 1 ≤ b.2 ∧ b.2 < 10 ^ 30 ∧ P n (blkD b)
theorem l_block_in (c : Str → Addr) : ∀ ds n Q, s_block_in ds n Q → dFn 4 1 (b_block_in c s_whole_in) ds n Q := by
  rintro ds n Q ⟨b, rfl, h0, h1, q⟩
  refine ⟨rfl, ?_⟩
  simp only [b_block_in, dSeq, dAsg, dVar, envOf, pcD, List.map_cons, List.map_nil, List.length_cons, List.length_nil, Nat.zero_add, Nat.reduceSub, List.replicate, List.cons_append, List.nil_append, List.getElem?_cons_zero, gTp, Nat.reduceAdd, gsCons, gNm, gsNil, dIf, dTB, dOp, List.set_cons_succ, List.set_cons_zero, List.getElem?_cons_succ, dC, gEq, ev_oks, eqD_str, decide_eq_true_eq, dRet, dTup, dCons, dNil, Nat.reduceLeDiff, true_and, decide_eq_false_iff_not, dNx, dSet, dCall, List.append_nil, dIte, dAnd, gIsNot, Pd.isNon, dChain, gLt, reduceCtorEq, false_implies, forall_const]
  refine ⟨fun h => ?_, fun h => ?_⟩
  · have hb : b.2 = 1 := by
      by_cases h2 : 1 < b.2
      · unfold tail at h
        rw [if_pos h2] at h
        exact absurd h (numD_ne _)
      · omega
    have e : blkD b = .tup [.str [b.1], .int 1] := by unfold blkD; rw [hb]; rfl
    rw [e] at q
    exact q
  · have h2 : 1 < b.2 := by
      by_cases h2 : 1 < b.2
      · exact h2
      · unfold tail at h
        rw [if_neg h2] at h
        exact absurd rfl h
    have e : tail b.2 = numD (b.2 : Int) := by unfold tail; rw [if_pos h2]
    rw [e]
    refine ⟨b.2, rfl, Nat.lt_trans h1 (by decide), ?_⟩
    simp only [Bool.not_false, ev_gI, TC, decide_eq_true_eq, decide_eq_false_iff_not, true_and, forall_const, reduceCtorEq, false_implies, and_true]
    exact ⟨fun _ => ⟨fun _ => q, fun h => absurd (by have : ((10 ^ 30 : Nat) : Int) = 1000000000000000000000000000000 := by decide
                                                     omega) h⟩, fun h => absurd (by omega) h⟩
end LW
namespace LW
open PySem L2 Pd
def letters : List Nat := [97, 98, 99, 100, 101, 102, 103, 104, 105, 106, 107, 108, 109, 110, 111, 112, 113, 114, 115, 116, 117, 118, 119, 120, 121, 122]
def pse : Nat → List Bl → List (Nat × Nat)
  | _, [] => []
  | k, b :: r => (k, k + 1 + (tail b.2).length) :: pse (k + 1 + (tail b.2).length) r
def inD (d : D) : D := match d with
  | .tup [.int a, _] => .int a
  | _ => .non
def isLetter (d : D) : Bool := match d with
  | .tup [_, .str [c]] => decide (c ∈ letters)
  | _ => false
theorem not_letter {c : Nat} (h : 48 ≤ c ∧ c ≤ 57) : c ∉ letters := by
  intro e
  have : ∀ x ∈ letters, 58 ≤ x := by decide
  have := this c e
  omega
theorem tail_not {k c : Nat} (h : c ∈ tail k) : c ∉ letters := by
  unfold tail at h
  split at h
  · exact not_letter (numD_dig h)
  · cases h
def enD (k : Nat) (xs : List Nat) : List D := ((sgn xs).zipIdx k).map fun p => D.tup [.int (p.2 : Nat), p.1]
theorem enD_cons (k c : Nat) (xs : List Nat) : enD k (c :: xs) = .tup [.int (k : Nat), .str [c]] :: enD (k + 1) xs := rfl
theorem enD_skip : ∀ (l xs : List Nat) (k : Nat), (∀ c ∈ l, c ∉ letters) → (enD k (l ++ xs)).filter isLetter = (enD (k + l.length) xs).filter isLetter
  | [], xs, k, _ => by rw [List.nil_append, List.length_nil, Nat.add_zero]
  | a :: l, xs, k, h => by
    rw [List.cons_append, enD_cons, List.filter_cons_of_neg, enD_skip l xs (k + 1) fun c hc => h c (List.mem_cons_of_mem _ hc), List.length_cons]
    · rw [show k + 1 + l.length = k + (l.length + 1) by omega]
    · simp only [isLetter, decide_eq_true_eq]
      exact h a (by simp)
theorem spots_eq : ∀ (bs : List Bl) (k : Nat), (∀ b ∈ bs, b.1 ∈ letters) → ((enD k (txt bs)).filter isLetter).map inD = (pse k bs).map fun p => D.int (p.1 : Nat)
  | [], _, _ => rfl
  | b :: r, k, h => by
    have hb : isLetter (.tup [.int (k : Nat), .str [b.1]]) = true := by
      simp only [isLetter, decide_eq_true_eq]
      exact h b (by simp)
    rw [txt, List.cons_append, enD_cons, List.filter_cons_of_pos hb, enD_skip _ _ _ fun c hc => tail_not hc, List.map_cons, spots_eq r _ fun x hx => h x (List.mem_cons_of_mem _ hx), pse, List.map_cons]
    rfl
theorem zip_pse : ∀ (bs : List Bl) (k : Nat), zipD ((pse k bs).map fun p => D.int (p.1 : Nat)) (((pse k bs).map fun p => D.int (p.1 : Nat)).drop 1 ++ [.int ((k + (txt bs).length : Nat))]) = (pse k bs).map fun p => D.tup [.int (p.1 : Nat), .int (p.2 : Nat)]
  | [], _ => rfl
  | [b], k => by
    simp only [pse, List.map_cons, List.map_nil, List.drop_succ_cons, List.drop_zero, List.nil_append, zipD, List.zipWith, txt, List.append_nil, List.length_cons]
    rw [show k + 1 + (tail b.snd).length = k + ((tail b.snd).length + 1) by omega]
  | b :: b2 :: r, k => by
    have ih := zip_pse (b2 :: r) (k + 1 + (tail b.2).length)
    have e : k + (txt (b :: b2 :: r)).length = k + 1 + (tail b.2).length + (txt (b2 :: r)).length := by
      rw [txt, List.length_append, List.length_cons]
      omega
    rw [e, pse, List.map_cons, List.map_cons, List.drop_succ_cons, List.drop_zero, ← ih]
    rfl
def pcOf (t : List Nat) (d : D) : D := match d with
  | .tup [.int a, .int e] => .tup [.str [t.getD a.toNat 0], .str (cut t (some (a + 1)) (some e))]
  | _ => .non
theorem pse_at : ∀ (bs : List Bl) (pre : List Nat) (p : Nat × Nat), p ∈ pse pre.length bs → ∃ b : Bl, ∃ pr rest, pre ++ txt bs = pr ++ (b.1 :: (tail b.2 ++ rest)) ∧ p.1 = pr.length ∧ p.2 = pr.length + 1 + (tail b.2).length
  | [], _, _, h => by cases h
  | b :: r, pre, p, h => by
    rw [pse] at h
    rcases List.mem_cons.mp h with rfl | h
    · exact ⟨b, pre, txt r, by rw [txt, List.cons_append], rfl, rfl⟩
    · have h2 : p ∈ pse (pre ++ b.1 :: tail b.2).length r := by
        rw [List.length_append, List.length_cons, show pre.length + ((tail b.snd).length + 1) = pre.length + 1 + (tail b.2).length by omega]
        exact h
      obtain ⟨b', pr, rest, e, e1, e2⟩ := pse_at r _ p h2
      exact ⟨b', pr, rest, by rw [← e, txt, List.append_assoc], e1, e2⟩
theorem pcOf_at (b : Bl) (pr rest : List Nat) : pcOf (pr ++ (b.1 :: (tail b.2 ++ rest))) (.tup [.int (pr.length : Nat), .int ((pr.length + 1 + (tail b.2).length : Nat))]) = pcD b := by
  have e1 : (pr ++ (b.1 :: (tail b.2 ++ rest))).getD (pr.length : Int).toNat 0 = b.1 := by
    simp [List.getD]
  have e2 : cut (pr ++ (b.1 :: (tail b.2 ++ rest))) (some ((pr.length : Nat) + 1)) (some ((pr.length + 1 + (tail b.2).length : Nat))) = tail b.2 := by
    rw [show ((pr.length : Nat) : Int) + 1 = ((pr.length + 1 : Nat) : Int) from rfl, cut_mid]
    rw [show pr.length + 1 + (tail b.2).length - (pr.length + 1) = (tail b.2).length by omega]
    rw [show pr ++ (b.1 :: (tail b.2 ++ rest)) = (pr ++ [b.1]) ++ (tail b.2 ++ rest) by simp]
    rw [show pr.length + 1 = (pr ++ [b.1]).length by simp, List.drop_left, List.take_left]
  unfold pcOf pcD
  simp only
  rw [e1, e2]
theorem pcOf_all : ∀ (bs : List Bl) (pre t : List Nat), pre ++ txt bs = t → ((pse pre.length bs).map fun p => D.tup [.int (p.1 : Nat), .int (p.2 : Nat)]).map (pcOf t) = bs.map pcD
  | [], _, _, _ => rfl
  | b :: r, pre, t, e => by
    have e1 : (pre ++ b.1 :: tail b.2).length = pre.length + 1 + (tail b.2).length := by
      rw [List.length_append, List.length_cons]
      omega
    have ih := pcOf_all r (pre ++ b.1 :: tail b.2) t (by rw [← e, txt, List.append_assoc])
    rw [e1] at ih
    rw [pse, List.map_cons, List.map_cons, ih, List.map_cons]
    congr 1
    rw [← e, txt, List.cons_append]
    exact pcOf_at b pre (txt r)
def s_pieces_of : FD := fun ds n P => ∃ bs : List Bl, ds = [.str (txt bs)] ∧ bs.length ≤ 1000 ∧ (∀ b ∈ bs, b.2 < 10 ^ 31 ∧ b.1 ∈ letters) ∧ P n (.lst (bs.map pcD))
theorem l_pieces_of (c : Str → Addr) : ∀ ds n Q, s_pieces_of ds n Q → dFn 5 1 (b_pieces_of c) ds n Q := by
  rintro ds n Q ⟨bs, rfl, h0, h1, q⟩
  refine ⟨rfl, ?_⟩
  have ht := txt_len fun b hb => (h1 b hb).1
  simp only [b_pieces_of, dSeq, dSet, dO, dComp, iEnm, dVar, envOf, List.map_cons, List.map_nil, List.length_cons, List.length_nil, Nat.zero_add, Nat.reduceSub, List.replicate, List.cons_append, List.nil_append, List.getElem?_cons_zero, ev_srcs, Option.some.injEq, wipeE, List.set_cons_succ, List.set_cons_zero, dRet, iZp, List.getElem?_cons_succ, dLst, dStar, dSl, pSome, dC, pNo, dCons, dBi, dNil, List.length_append, Nat.reduceLeDiff, ev_srcl, ev_lens, ev_sll, exists_eq_left']
  have len1 : ∀ l : List Nat, (enumD (sgn l)).length = l.length := fun l => by simp [enumD, sgn]
  refine ⟨by rw [len1]; omega, ?_⟩
  refine compW_pure isLetter inD _ _ _ (fun x hx n K K' q1 q2 => ?_) ?_
  · obtain ⟨p, hp, rfl⟩ := List.mem_map.mp hx
    obtain ⟨y, i⟩ := p
    have hy : y ∈ sgn (txt bs) := by
      have := List.mem_zipIdx hp
      rw [this.2.2]
      exact List.getElem_mem _
    unfold sgn at hy
    obtain ⟨ch, hc, rfl⟩ := List.mem_map.mp hy
    simp only [gTp, List.length_cons, List.length_nil, Nat.zero_add, Nat.reduceAdd, gsCons, gNm, gsNil, dTB, dOp, dVar, List.set_cons_succ, List.set_cons_zero, List.getElem?_cons_succ, List.getElem?_cons_zero, dC, gInB, decide_eq_true_eq, decide_eq_false_iff_not, true_and]
    refine ⟨fun h => q1 (by simp only [isLetter]; exact decide_eq_true h), fun h => q2 (by simp only [isLetter]; exact decide_eq_false h)⟩
  · have e0 : ([] : List D) ++ ((enumD (sgn (txt bs))).filter isLetter).map inD = (pse 0 bs).map fun p => D.int (p.1 : Nat) := by
      rw [List.nil_append]
      exact spots_eq bs 0 fun b hb => (h1 b hb).2
    have hpl : ∀ k, (pse k bs).length = bs.length := by
      clear h0 h1 q ht e0
      induction bs with
      | nil => exact fun _ => rfl
      | cons b r ih => exact fun k => by rw [pse, List.length_cons, List.length_cons, ih]
    have e1 := zip_pse bs 0
    have e2 := pcOf_all bs [] _ rfl
    rw [List.nil_append, List.length_nil] at e2
    rw [Nat.zero_add] at e1
    rw [e0, show (1 : Int) = ((1 : Nat) : Int) from rfl, cut_from]
    refine ⟨by omega, by rw [List.length_drop, List.length_map, hpl]; omega, _, _, rfl, rfl, ?_, ?_⟩
    · rw [e1, List.length_map, hpl]
      omega
    · rw [e1]
      refine compW_pure (fun _ => true) (pcOf (txt bs)) _ _ _ (fun x hx n K K' q1 q2 => ?_) ?_
      · obtain ⟨p, hp, rfl⟩ := List.mem_map.mp hx
        obtain ⟨b, pr, rest, e, e3, e4⟩ := pse_at bs [] p hp
        have q3 := q1 rfl
        obtain ⟨a, z⟩ := p
        subst e3 e4
        rw [List.nil_append] at e
        rw [e] at q3 ht ⊢
        rw [pcOf_at] at q3
        simp only [gTp, List.length_cons, List.length_nil, Nat.zero_add, Nat.reduceAdd, gsCons, gNm, gsNil, dYes, dTup, dCons, dOp, dVar, List.set_cons_succ, List.set_cons_zero, List.getElem?_cons_zero, List.getElem?_cons_succ, dSl, pSome, dC, dNil, Nat.reduceLeDiff, true_and, ev_sls, List.length_append, ev_addi, ev_ixs, forall_const, reduceCtorEq, false_implies, and_true]
        simp only [List.length_append, List.length_cons] at ht
        have e3 : cut (pr ++ b.1 :: (tail b.2 ++ rest)) (some ((pr.length : Int) + 1)) (some ((pr.length + 1 + (tail b.2).length : Nat))) = tail b.2 := by
          have := pcOf_at b pr rest
          unfold pcOf pcD at this
          injection this with this
          injection this with _ this
          injection this with this
          injection this
        refine ⟨by omega, b.1, atI_nat (by simp), by omega, ?_⟩
        have q4 := q3
        unfold pcD at q4
        rw [← e3] at q4
        exact q4
      · rw [List.filter_eq_self.mpr (fun _ _ => rfl), e2]
        exact q
def rightW : List Nat := [114, 105, 103, 104, 116]
def missesW : List Nat := [109, 105, 115, 115, 101, 115]
def tellsW : List Nat := [116, 101, 108, 108, 115]
def s_is_said : FD := fun ds n P => (∃ (b : Nat) , ds = [.str [b], .lst (sgn letters)] ∧ b ∈ letters ∧ P n (.bl true)) ∨ (∃ a : List Nat, ds = [.str a, .tup [.str rightW, .str missesW, .str tellsW]] ∧ (a = rightW ∨ a = missesW ∨ a = tellsW) ∧ P n (.bl true))
theorem in_sgn {b : Nat} {l : List Nat} (h : b ∈ l) : ((sgn l).any fun y => eqD y (.str [b])) = true := by
  rw [List.any_eq_true]
  exact ⟨.str [b], List.mem_map_of_mem h, by rw [eqD_str]; simp⟩
theorem okIn_sgn (b : Nat) (l : List Nat) : okIn (.str [b]) (sgn l) = true := by
  unfold okIn
  rw [Bool.or_eq_true]
  left
  rw [List.all_eq_true]
  intro y hy
  obtain ⟨c, _, rfl⟩ := List.mem_map.mp hy
  rfl
theorem l_is_said (c : Str → Addr) : ∀ ds n Q, s_is_said ds n Q → dFn 2 2 (b_is_said c) ds n Q := by
  rintro ds n Q (⟨b, rfl, h, q⟩ | ⟨a, rfl, h, q⟩)
  · refine ⟨rfl, ?_⟩
    simp only [b_is_said, dRet, dAndV, dTB, dIsi, dVar, envOf, List.map_cons, List.map_nil, List.length_cons, List.length_nil, Nat.zero_add, Nat.reduceAdd, Nat.reduceSub, List.replicate, List.append_nil, List.getElem?_cons_zero, isT, Option.some.injEq, dOp, List.getElem?_cons_succ, exists_eq_left', decide_eq_true_eq, forall_const, decide_eq_false_iff_not]
    refine ⟨⟨okIn_sgn _ _, ?_⟩, fun h => absurd trivial h⟩
    rw [in_sgn h]
    exact q
  · refine ⟨rfl, ?_⟩
    simp only [b_is_said, dRet, dAndV, dTB, dIsi, dVar, envOf, List.map_cons, List.map_nil, List.length_cons, List.length_nil, Nat.zero_add, Nat.reduceAdd, Nat.reduceSub, List.replicate, List.append_nil, List.getElem?_cons_zero, isT, Option.some.injEq, dOp, List.getElem?_cons_succ, exists_eq_left', decide_eq_true_eq, forall_const, decide_eq_false_iff_not]
    refine ⟨⟨by rcases h with rfl | rfl | rfl <;> rfl, ?_⟩, fun h => absurd trivial h⟩
    have e : ([D.str rightW, D.str missesW, D.str tellsW].any fun y => eqD y (.str a)) = true := by
      simp only [List.any_cons, eqD_str, List.any_nil, Bool.or_false, Bool.or_eq_true, decide_eq_true_eq]
      rcases h with rfl | rfl | rfl
      · exact .inl rfl
      · exact .inr (.inl rfl)
      · exact .inr (.inr rfl)
    rw [e]
    exact q
def Told (bs : List Bl) : Prop := Good bs ∧ bs.length ≤ 40 ∧ (∀ b ∈ bs, b.2 < 10 ^ 30 ∧ b.1 ∈ letters) ∧ bs ≠ []
def s_blocks_told : FD := fun ds n P => ∃ bs : List Bl, ds = [.str (txt bs)] ∧ Told bs ∧ P n (.tup (bs.map blkD))
theorem letters_lt {c : Nat} (h : c ∈ letters) : c < 1114112 := by
  have : ∀ x ∈ letters, x < 1114112 := by decide
  exact this c h
theorem noneIn (bs : List Bl) : ((bs.map blkD).any fun y => eqD y .non) = false := by
  rw [List.any_eq_false]
  intro y hy
  obtain ⟨b, _, rfl⟩ := List.mem_map.mp hy
  simp [blkD, eqD]
theorem okIn_blk {bs : List Bl} (h : ∀ b ∈ bs, b.1 < 1114112) : okIn .non (bs.map blkD) = true := by
  have := okD_blks h
  unfold okIn
  rw [Bool.or_eq_true]
  right
  unfold okD at this
  rw [isPd, isPds_blk h, dpt] at this
  simp only [Bool.true_and, decide_eq_true_eq] at this
  rw [isPds_blk h]
  simp only [Bool.and_eq_true, Bool.true_and, decide_eq_true_eq]
  exact ⟨by decide, by omega⟩
theorem compW_map {α : Type} {dg : DG} {t : DT} {d : DE} {ε : Ev} {P : Nat → List D → Prop} (f g : α → D) : ∀ (bs : List α) (acc : List D) (n : Nat),
    (∀ b ∈ bs, ∀ (n : Nat) (K : Nat → D → Prop) (K' : Nat → Prop), K n (g b) → dg (f b) ε fun ε' => t n ε' fun n1 k => (k = true → d n1 ε' fun n2 y => K n2 y) ∧ (k = false → K' n1)) →
    P n (acc ++ bs.map g) → compW dg t d ε P (bs.map f) acc n
  | [], acc, n, _, q => by
    rw [List.map_nil, List.append_nil] at q
    exact q
  | x :: xs, acc, n, h, q => by
    refine h x (by simp) n (fun n2 y => compW dg t d ε P (xs.map f) (acc ++ [y]) n2) (fun n1 => compW dg t d ε P (xs.map f) acc n1) ?_
    refine compW_map f g xs _ n (fun y hy => h y (List.mem_cons_of_mem _ hy)) ?_
    rw [List.append_assoc]
    exact q
theorem adj_ne : ∀ {bs : List Bl}, Adj bs → ∀ d ∈ zipD (bs.map blkD) ((bs.map blkD).drop 1), ∃ a b : Bl, d = .tup [blkD a, blkD b] ∧ a.1 ≠ b.1
  | [], _, d, h => by cases h
  | [_], _, d, h => by cases h
  | a :: b :: r, g, d, h => by
    rcases List.mem_cons.mp h with rfl | h
    · exact ⟨a, b, rfl, g.1⟩
    · exact adj_ne (bs := b :: r) g.2 d h
theorem l_blocks_told (c : Str → Addr) : ∀ ds n Q, s_blocks_told ds n Q → dFn 5 1 (b_blocks_told c s_is_said s_pieces_of s_block_in) ds n Q := by
  rintro ds n Q ⟨bs, rfl, ⟨hg, h0, h1, hne⟩, q⟩
  refine ⟨rfl, ?_⟩
  have h31 : ∀ b ∈ bs, b.2 < 10 ^ 31 := fun b hb => Nat.lt_trans (h1 b hb).1 (by decide)
  have hlt : ∀ b ∈ bs, b.1 < 1114112 := fun b hb => letters_lt (h1 b hb).2
  have hl := txt_len h31
  simp only [b_blocks_told, dSeq, dIf, dOr, dNot, dTB, dIsi, dVar, envOf, List.map_cons, List.map_nil, List.length_cons, List.length_nil, Nat.zero_add, Nat.reduceSub, List.replicate, List.cons_append, List.nil_append, List.getElem?_cons_zero, isT, Option.some.injEq, dRet, dC, forall_const, reduceCtorEq, dNx, dSet, dBi, dCons, dO, dComp, iVal, dCall, dNil, List.append_nil, wipeE, List.set_cons_succ, List.set_cons_zero, dOp, List.getElem?_cons_succ, gGt, dIte, iZp, dSl, pSome, pNo, ev_all, false_implies, and_true, ev_tupl, ev_srct, ev_slt, ev_lent, ev_gI, TC, decide_eq_true_eq, decide_eq_false_iff_not, true_and, ev_lists, Nat.reduceAdd, Nat.reduceLeDiff, ev_sls, exists_eq_left']
  refine ⟨fun h => absurd h (by decide), fun _ => ⟨by omega, ?_⟩⟩
  obtain ⟨b0, r0, e0⟩ : ∃ b0 r0, bs = b0 :: r0 := by
    cases bs with
    | nil => exact absurd rfl hne
    | cons a r => exact ⟨a, r, rfl⟩
  have e1 : cut (txt bs) none (some 1) = [b0.1] := by
    rw [show (1 : Int) = ((1 : Nat) : Int) from rfl, cut_to, e0]
    rfl
  rw [e1]
  refine .inl ⟨b0.1, rfl, (h1 b0 (by rw [e0]; simp)).2, ?_⟩
  refine ⟨fun h => absurd h (by decide), fun _ => ⟨bs, rfl, by omega, fun b hb => ⟨h31 b hb, (h1 b hb).2⟩, _, rfl, by rw [List.length_map]; omega, ?_⟩⟩
  refine compW_map pcD blkD bs _ _ (fun b hb n K K' q1 => ?_) ?_
  · simp only [gNm, dYes, dCall, dCons, dVar, List.set_cons_succ, List.set_cons_zero, List.getElem?_cons_succ, List.getElem?_cons_zero, dNil, List.append_nil, forall_const, reduceCtorEq, false_implies, and_true]
    exact ⟨b, rfl, hg.pos b hb, (h1 b hb).1, q1⟩
  · rw [List.nil_append, List.length_map]
    refine ⟨fun h => absurd h (by omega), fun _ => ⟨okIn_blk hlt, ?_⟩⟩
    rw [noneIn]
    refine ⟨fun h => (by cases h), fun _ => ⟨_, _, rfl, rfl, ?_, ?_⟩⟩
    · rw [zipD, List.length_zipWith, List.length_map]
      omega
    · rw [show (1 : Int) = ((1 : Nat) : Int) from rfl, cut_from]
      refine compW_pure (fun _ => true) (fun _ => .bl true) _ _ _ (fun x hx n K K' q1 q2 => ?_) ?_
      · obtain ⟨a, b, rfl, hab⟩ := adj_ne hg.adj x hx
        simp only [gTp, blkD, List.length_cons, List.length_nil, Nat.zero_add, Nat.reduceAdd, gsCons, gNm, gsNil, dYes, dOp, dVar, List.set_cons_succ, List.set_cons_zero, List.getElem?_cons_succ, List.getElem?_cons_zero, dC, gNe, ev_ixt, ev_at0, Option.some.injEq, exists_eq_left', ev_oks, eqD_str, List.cons.injEq, and_true, true_and, forall_const, reduceCtorEq, false_implies]
        rw [decide_eq_false hab]
        exact q1 rfl
      · have e2 : (([] : List D) ++ ((zipD (bs.map blkD) ((bs.map blkD).drop 1)).filter fun _ => true).map fun _ => D.bl true) = ((zipD (bs.map blkD) ((bs.map blkD).drop 1)).map fun _ => true).map D.bl := by
          rw [List.nil_append, List.filter_eq_self.mpr (fun _ _ => rfl), List.map_map]
          rfl
        rw [e2, map_isBls]
        refine ⟨_, rfl, fun _ => q, fun h => ?_⟩
        exfalso
        revert h
        simp
end LW
namespace LW
open PySem L2 Pd
def NH (a : Nat) (l : List Nat) : Prop := ∀ x ∈ l.head?, x ≠ a
theorem pre_rep (a : Nat) : ∀ (c0 c : Nat) (x y : List Nat), NH a x → NH a y → (List.replicate c0 a ++ x <+: List.replicate c a ++ y ↔ (c0 = c ∧ x <+: y) ∨ (x = [] ∧ c0 ≤ c))
  | 0, 0, x, y, hx, hy => by
    simp only [List.replicate, List.nil_append, true_and, Nat.le_refl, and_true]
    exact ⟨Or.inl, fun h => h.elim id fun e => e ▸ List.nil_prefix⟩
  | 0, c + 1, x, y, hx, hy => by
    rw [List.replicate, List.nil_append, List.replicate_succ, List.cons_append]
    constructor
    · intro h
      match x, hx, h with
      | [], _, _ => exact Or.inr ⟨rfl, Nat.zero_le _⟩
      | b :: x, hx, h => exact absurd (List.cons_prefix_cons.mp h).1 (hx b rfl)
    · rintro (⟨h, _⟩ | ⟨rfl, _⟩)
      · cases h
      · exact List.nil_prefix
  | c0 + 1, 0, x, y, hx, hy => by
    rw [List.replicate_succ, List.cons_append, List.replicate, List.nil_append]
    constructor
    · intro h
      match y, hy, h with
      | [], _, h => exact absurd (List.prefix_nil.mp h) (by simp)
      | b :: y, hy, h => exact absurd (List.cons_prefix_cons.mp h).1.symm (hy b rfl)
    · rintro (⟨h, _⟩ | ⟨_, h⟩)
      · cases h
      · omega
  | c0 + 1, c + 1, x, y, hx, hy => by
    rw [List.replicate_succ, List.cons_append, List.replicate_succ, List.cons_append, List.cons_prefix_cons, pre_rep a c0 c x y hx hy]
    simp only [true_and, Nat.add_right_cancel_iff, Nat.add_le_add_iff_right]
theorem nh_expand {a : Bl} : ∀ {r : List Bl}, Good (a :: r) → NH a.1 (expand r)
  | [], _ => fun x h => by cases h
  | b :: r, g => fun x h => by
    have hb : 1 ≤ b.2 := g.pos b (by simp)
    rw [expand] at h
    obtain ⟨m, hm⟩ : ∃ m, b.2 = m + 1 := ⟨b.2 - 1, by omega⟩
    rw [hm, List.replicate_succ] at h
    have : x = b.1 := by simpa using h.symm
    rw [this]
    exact fun e => g.adj.1 e.symm
theorem Good.tl {a : Bl} : ∀ {r : List Bl}, Good (a :: r) → Good r
  | [], g => ⟨trivial, fun b hb => by cases hb⟩
  | b :: r, g => ⟨g.adj.2, fun x hx => g.pos x (List.mem_cons_of_mem _ hx)⟩
theorem expand_ne {a : Bl} {r : List Bl} (g : Good (a :: r)) : expand (a :: r) ≠ [] := by
  have := g.pos a (by simp)
  rw [expand]
  obtain ⟨m, hm⟩ : ∃ m, a.2 = m + 1 := ⟨a.2 - 1, by omega⟩
  rw [hm, List.replicate_succ]
  simp
theorem expand_nil {r : List Bl} (g : Good r) : expand r = [] ↔ r = [] := by
  cases r with
  | nil => exact ⟨fun _ => rfl, fun _ => rfl⟩
  | cons a r => exact ⟨fun h => absurd h (expand_ne g), fun h => by cases h⟩
theorem pre_head {a b : Bl} {x y : List Nat} (ha : 1 ≤ a.2) (hb : 1 ≤ b.2) (h : List.replicate a.2 a.1 ++ x <+: List.replicate b.2 b.1 ++ y) : a.1 = b.1 := by
  obtain ⟨m, hm⟩ : ∃ m, a.2 = m + 1 := ⟨a.2 - 1, by omega⟩
  obtain ⟨k, hk⟩ : ∃ k, b.2 = k + 1 := ⟨b.2 - 1, by omega⟩
  rw [hm, hk, List.replicate_succ, List.replicate_succ, List.cons_append, List.cons_append] at h
  exact (List.cons_prefix_cons.mp h).1
theorem pre_blk {a b : Bl} {r q : List Bl} (ga : Good (a :: r)) (gb : Good (b :: q)) : expand (a :: r) <+: expand (b :: q) ↔ a.1 = b.1 ∧ ((a.2 = b.2 ∧ expand r <+: expand q) ∨ (r = [] ∧ a.2 ≤ b.2)) := by
  have na := nh_expand ga
  have nb := nh_expand gb
  rw [expand, expand]
  constructor
  · intro h
    have e := pre_head (ga.pos a (by simp)) (gb.pos b (by simp)) h
    rw [← e] at h nb
    have := (pre_rep a.1 _ _ _ _ na nb).mp h
    rw [expand_nil ga.tl] at this
    exact ⟨e, this⟩
  · rintro ⟨e, h⟩
    rw [← e] at nb ⊢
    rw [← expand_nil ga.tl] at h
    exact (pre_rep a.1 _ _ _ _ na nb).mpr h
theorem good_unique : ∀ {x y : List Bl}, Good x → Good y → expand x = expand y → x = y
  | [], y, _, gy, e => ((expand_nil gy).mp e.symm).symm
  | a :: r, [], gx, _, e => absurd e (expand_ne gx)
  | a :: r, b :: q, gx, gy, e => by
    have h1 := (pre_blk gx gy).mp (e ▸ List.prefix_rfl)
    have h2 := (pre_blk gy gx).mp (e ▸ List.prefix_rfl)
    have hc : a.2 = b.2 := by
      rcases h1.2 with h | h
      · exact h.1
      · rcases h2.2 with h' | h'
        · exact h'.1.symm
        · omega
    have hr : expand r = expand q := by
      rw [expand, expand, hc, h1.1] at e
      exact List.append_cancel_left e
    have hr2 := good_unique gx.tl gy.tl hr
    obtain ⟨a1, a2⟩ := a
    obtain ⟨b1, b2⟩ := b
    simp only at hc
    have := h1.1
    simp only at this
    rw [hc, hr2, this]
def stands (m : Nat) : Nat → List Bl → List Bl → Bool
  | i, a :: r, b :: q => !(decide (a.1 ≠ b.1 ∨ a.2 > b.2 ∨ (0 < i ∧ i + 1 < m ∧ a.2 ≠ b.2))) && stands m (i + 1) r q
  | _, _, _ => true
def rowsOf (bw : List Bl) : Nat → List Bl → List Pr
  | _, [] => []
  | k, b :: r => (if bw.length ≤ (b :: r).length ∧ stands bw.length 0 bw (b :: r) = true then [(if bw.length = 1 then k else k + b.2 - (bw.head?.map (·.2)).getD 0, k + b.2 - (bw.head?.map (·.2)).getD 0)] else []) ++ rowsOf bw (k + b.2) r
def posn (w : List Nat) : Nat → List Nat → List Nat
  | _, [] => []
  | k, x :: t => (if w <+: x :: t then [k] else []) ++ posn w (k + 1) t
theorem stands_inner (m : Nat) : ∀ (r q : List Bl) (i : Nat), 0 < i → i + r.length = m → Good r → Good q → (expand r <+: expand q ↔ r.length ≤ q.length ∧ stands m i r q = true)
  | [], q, i, _, _, _, _ => by simp [expand, stands]
  | a :: r, [], i, _, _, ga, _ => by
    simp only [List.length_cons, List.length_nil, Nat.le_zero_eq, reduceCtorEq, false_and, iff_false]
    intro h
    exact expand_ne ga (List.prefix_nil.mp h)
  | a :: r, b :: q, i, h0, hm, ga, gb => by
    rw [pre_blk ga gb, stands, stands_inner m r q (i + 1) (by omega) (by rw [← hm, List.length_cons]; omega) ga.tl gb.tl]
    rw [List.length_cons] at hm
    simp only [List.length_cons, Nat.add_le_add_iff_right, Bool.and_eq_true, Bool.not_eq_true', decide_eq_false_iff_not]
    cases r with
    | nil =>
      simp only [List.length_nil, stands, Nat.zero_le, true_and, and_true] at *
      omega
    | cons a' r' =>
      simp only [List.length_cons, reduceCtorEq, false_and, or_false] at *
      constructor
      · rintro ⟨e1, e2, e3, e4⟩
        exact ⟨e3, by omega, e4⟩
      · rintro ⟨e3, e1, e4⟩
        exact ⟨by omega, by omega, e3, e4⟩
theorem stands_outer {a b : Bl} {r q : List Bl} (ga : Good (a :: r)) (gb : Good (b :: q)) : ((a :: r).length ≤ (b :: q).length ∧ stands (a :: r).length 0 (a :: r) (b :: q) = true) ↔ a.1 = b.1 ∧ a.2 ≤ b.2 ∧ expand r <+: expand q := by
  rw [stands_inner (a :: r).length r q 1 (by decide) (by rw [List.length_cons]; omega) ga.tl gb.tl, stands]
  simp only [List.length_cons, Nat.add_le_add_iff_right, Bool.and_eq_true, Bool.not_eq_true', decide_eq_false_iff_not]
  constructor
  · rintro ⟨e1, e2, e3⟩
    exact ⟨by omega, by omega, e1, e3⟩
  · rintro ⟨e1, e2, e3, e4⟩
    exact ⟨e3, by omega, e4⟩
theorem pre_one {a : Bl} {c b : Nat} {x t : List Nat} (ha : 1 ≤ a.2) (hc : 1 ≤ c) (nx : NH a.1 x) (nt : NH b t) : List.replicate a.2 a.1 ++ x <+: List.replicate c b ++ t ↔ a.1 = b ∧ ((a.2 = c ∧ x <+: t) ∨ (x = [] ∧ a.2 ≤ c)) := by
  constructor
  · intro h
    have e := pre_head (b := (b, c)) ha hc h
    simp only at e
    rw [← e] at h nt
    exact ⟨e, (pre_rep a.1 _ _ _ _ nx nt).mp h⟩
  · rintro ⟨e, h⟩
    rw [← e] at nt ⊢
    exact (pre_rep a.1 _ _ _ _ nx nt).mpr h
theorem posn_none {a : Bl} {b : Nat} {x t : List Nat} (ha : 1 ≤ a.2) (nx : NH a.1 x) (nt : NH b t) : ∀ (c k : Nat), ¬ (a.1 = b ∧ a.2 ≤ c ∧ x <+: t) → posn (List.replicate a.2 a.1 ++ x) k (List.replicate c b ++ t) = posn (List.replicate a.2 a.1 ++ x) (k + c) t
  | 0, k, _ => rfl
  | c + 1, k, h => by
    have h1 : ¬ (List.replicate a.2 a.1 ++ x <+: b :: (List.replicate c b ++ t)) := by
      have := pre_one (c := c + 1) ha (by omega) nx nt
      rw [List.replicate_succ, List.cons_append] at this
      rw [this]
      rintro ⟨e, ⟨e1, e2⟩ | ⟨e1, e2⟩⟩
      · exact h ⟨e, by omega, e2⟩
      · exact h ⟨e, e2, e1 ▸ List.nil_prefix⟩
    rw [List.replicate_succ, List.cons_append, posn, if_neg h1, List.nil_append, posn_none ha nx nt c (k + 1) fun ⟨e1, e2, e3⟩ => h ⟨e1, by omega, e3⟩]
    rw [show k + 1 + c = k + (c + 1) by omega]
theorem posn_some {a : Bl} {x t : List Nat} (ha : 1 ≤ a.2) (nx : NH a.1 x) (nt : NH a.1 t) (hp : x <+: t) : ∀ (d k : Nat), posn (List.replicate a.2 a.1 ++ x) k (List.replicate (a.2 + d) a.1 ++ t) = (if x = [] then List.range' k (d + 1) else [k + d]) ++ posn (List.replicate a.2 a.1 ++ x) (k + (a.2 + d)) t
  | 0, k => by
    obtain ⟨m, hm⟩ : ∃ m, a.2 = m + 1 := ⟨a.2 - 1, by omega⟩
    have h1 : List.replicate a.2 a.1 ++ x <+: a.1 :: (List.replicate m a.1 ++ t) := by
      have := (pre_one (c := m + 1) ha (by omega) nx nt).mpr ⟨rfl, Or.inl ⟨hm, hp⟩⟩
      rwa [List.replicate_succ, List.cons_append] at this
    have e : List.replicate (a.2 + 0) a.1 ++ t = a.1 :: (List.replicate m a.1 ++ t) := by
      rw [Nat.add_zero, hm, List.replicate_succ, List.cons_append]
    rw [e, posn, if_pos h1, posn_none ha nx nt m (k + 1) fun ⟨_, e2, _⟩ => by omega]
    rw [show k + 1 + m = k + (a.2 + 0) by omega]
    congr 1
    split <;> rfl
  | d + 1, k => by
    have e : List.replicate (a.2 + (d + 1)) a.1 ++ t = a.1 :: (List.replicate (a.2 + d) a.1 ++ t) := by
      rw [show a.2 + (d + 1) = (a.2 + d) + 1 by omega, List.replicate_succ, List.cons_append]
    have h0 := pre_one (c := a.2 + d + 1) ha (by omega) nx nt
    rw [List.replicate_succ, List.cons_append] at h0
    rw [e, posn, posn_some ha nx nt hp d (k + 1), show k + 1 + (a.2 + d) = k + (a.2 + (d + 1)) by omega]
    by_cases hx : x = []
    · rw [if_pos (h0.mpr ⟨rfl, Or.inr ⟨hx, by omega⟩⟩), if_pos hx, if_pos hx]
      rfl
    · rw [if_neg (fun h => by
        rcases (h0.mp h).2 with ⟨h, _⟩ | ⟨h, _⟩
        · omega
        · exact hx h), if_neg hx, if_neg hx, List.nil_append, show k + 1 + d = k + (d + 1) by omega]
theorem stP_glue (acc : List Pr) (k e : Nat) : stP (stP acc (k, k)) (k + 1, e) = stP acc (k, e) := by
  rcases List.eq_nil_or_concat acc with rfl | ⟨as, l, rfl⟩
  · rw [stP_nil, stP_nil]
    exact (stP_snoc [] (k, k) (k + 1, e)).trans (if_pos rfl)
  · rw [List.concat_eq_append, stP_snoc, stP_snoc]
    by_cases h : l.2 + 1 = k
    · rw [if_pos h, if_pos h, stP_snoc, if_pos rfl]
    · rw [if_neg h, if_neg h, stP_snoc, if_pos rfl]
theorem fold_range : ∀ (d k : Nat) (acc : List Pr), ((List.range' k (d + 1)).map fun x => (x, x)).foldl stP acc = stP acc (k, k + d)
  | 0, k, acc => rfl
  | d + 1, k, acc => by
    rw [show List.range' k (d + 1 + 1) = k :: List.range' (k + 1) (d + 1) from rfl, List.map_cons, List.foldl_cons, fold_range d (k + 1), show k + 1 + d = k + (d + 1) by omega]
    exact stP_glue acc k _
theorem rows_eq {a : Bl} {r : List Bl} (ga : Good (a :: r)) : ∀ (bt : List Bl) (k : Nat) (acc : List Pr), Good bt → ((posn (expand (a :: r)) k (expand bt)).map fun x => (x, x)).foldl stP acc = (rowsOf (a :: r) k bt).foldl stP acc
  | [], k, acc, _ => rfl
  | b :: q, k, acc, gb => by
    have ih := rows_eq ga q (k + b.2)
    have ha := ga.pos a (by simp)
    have nx := nh_expand ga
    have nt := nh_expand gb
    rw [rowsOf, List.foldl_append, ← ih _ gb.tl]
    have hx := expand_nil ga.tl
    have hs := stands_outer ga gb
    rw [show expand (a :: r) = List.replicate a.2 a.1 ++ expand r from rfl, show expand (b :: q) = List.replicate b.2 b.1 ++ expand q from rfl] at *
    by_cases h : a.1 = b.1 ∧ a.2 ≤ b.2 ∧ expand r <+: expand q
    · rw [if_pos (hs.mpr h)]
      obtain ⟨e1, e2, e3⟩ := h
      rw [← e1] at nt ⊢
      obtain ⟨d, hd⟩ : ∃ d, b.2 = a.2 + d := ⟨b.2 - a.2, by omega⟩
      rw [hd, posn_some ha nx nt e3 d k, List.map_append, List.foldl_append]
      congr 1
      have e4 : k + (a.2 + d) - (List.head? (a :: r)).elim 0 (·.2) = k + d := by simp only [List.head?_cons, Option.elim]; omega
      by_cases hr : r = []
      · rw [if_pos (hx.mpr hr), fold_range, hr]
        simp only [List.length_cons, List.length_nil, List.head?_cons, Option.map_some, Option.getD_some, Nat.zero_add, if_true, List.foldl_cons, List.foldl_nil]
        rw [show k + (a.2 + d) - a.2 = k + d by omega]
      · rw [if_neg (fun z => hr (hx.mp z))]
        have : ¬ (a :: r).length = 1 := by
          rw [List.length_cons]
          intro z
          exact hr (List.length_eq_zero_iff.mp (by omega))
        rw [if_neg this]
        simp only [List.head?_cons, Option.map_some, Option.getD_some, List.foldl_cons, List.foldl_nil, List.map_cons, List.map_nil]
        rw [show k + (a.2 + d) - a.2 = k + d by omega]
    · rw [if_neg (fun z => h (hs.mp z)), posn_none ha nx nt b.2 k h]
      rfl
theorem posn_filter {w : List Nat} (hw : w ≠ []) : ∀ (t : List Nat) (k : Nat), posn w k t = ((List.range (t.length + 1 - w.length)).filter fun i => decide ((t.drop i).take w.length = w)).map (· + k)
  | [], k => by
    have : 0 < w.length := List.length_pos_iff.mpr hw
    rw [List.length_nil, show 0 + 1 - w.length = 0 by omega]
    rfl
  | x :: t, k => by
    have h0 : 0 < w.length := List.length_pos_iff.mpr hw
    rw [posn, posn_filter hw t (k + 1)]
    by_cases h : w.length ≤ t.length + 1
    · rw [List.length_cons, show t.length + 1 + 1 - w.length = (t.length + 1 - w.length) + 1 by omega, List.range_succ_eq_map, List.filter_cons]
      have e1 : (w <+: x :: t) ↔ (List.take w.length (List.drop 0 (x :: t)) = w) := by
        rw [List.prefix_iff_eq_take, List.drop_zero]
        exact ⟨Eq.symm, Eq.symm⟩
      have e2 : ((List.map Nat.succ (List.range (t.length + 1 - w.length))).filter fun i => decide (((x :: t).drop i).take w.length = w)) = ((List.range (t.length + 1 - w.length)).filter fun i => decide ((t.drop i).take w.length = w)).map Nat.succ := by
        rw [List.filter_map]
        rfl
      rw [e2]
      by_cases h2 : w <+: x :: t
      · rw [if_pos h2, if_pos (decide_eq_true (e1.mp h2)), List.map_cons, List.map_map, Nat.zero_add, List.cons_append, List.nil_append]
        congr 1
        exact List.map_congr_left fun y _ => by simp only [Function.comp]; omega
      · rw [if_neg h2, if_neg (by rw [decide_eq_true_eq, ← e1]; exact h2), List.map_map, List.nil_append]
        exact List.map_congr_left fun y _ => by simp only [Function.comp]; omega
    · rw [if_neg (fun z => by
        have := z.length_le
        rw [List.length_cons] at this
        omega), List.length_cons, show t.length + 1 + 1 - w.length = 0 by omega, show t.length + 1 - w.length = 0 by omega]
      rfl
end LW
namespace LW
open PySem L2 Pd
def sts : Nat → List Bl → List Nat
  | _, [] => []
  | k, b :: r => k :: sts (k + b.2) r
def tot : Nat → List Bl → Nat
  | k, [] => k
  | k, b :: r => tot (k + b.2) r
def intD (k : Nat) : D := .int (k : Nat)
def fldsW (bs : List Bl) : List (Str × D) := [("own_text", .str (txt bs)), ("own_blocks", .tup (bs.map blkD)), ("own_ends", .tup ((sts 0 bs ++ [tot 0 bs]).map intD))]
def i_word : FI := fun ds n P => ∃ bs : List Bl, ds = [.str (txt bs)] ∧ Told bs ∧ P n (fldsW bs)
theorem l_word_init (c : Str → Addr) : ∀ ds n Q, i_word ds n Q → dIni (c "Word") 6 2 (b_Word___init__ c s_blocks_told) ds n Q := by
  rintro ds n Q ⟨bs, rfl, ht, q⟩
  refine ⟨rfl, ?_⟩
  simp only [b_Word___init__, dSeq, dSet, dCall, dCons, dVar, envOf, List.map_cons, List.map_nil, Nat.reduceSub, List.length_cons, List.length_nil, Nat.zero_add, List.replicate, List.cons_append, List.nil_append, List.getElem?_cons_succ, List.getElem?_cons_zero, dNil, List.append_nil, dIf, dTB, dOp, List.set_cons_succ, List.set_cons_zero, dC, gIs, Pd.isNon, dNev, dNx, dFst, putFD, dSetO, dLstO, Nat.reduceLeDiff, dFor, iVal, iniEnd, true_and]
  refine ⟨bs, rfl, ht, fun h => (by cases h), fun _ => ?_⟩
  simp only [ev_srct, Option.some.injEq, exists_eq_left']
  refine ⟨by decide, by decide, ?_⟩
  rw [if_neg (show ¬ ((Str.ofString "own_text") = (Str.ofString "own_blocks")) by decide)]
  refine forW_ind (Inv := fun ys n' ε => ∃ (rem : List Bl) (L : List Nat) (k : Nat) (s4 s5 : Sl), ys = rem.map blkD ∧ n' = n ∧ ε = [.own (.ins (c "Word") [("own_text", .str (txt bs)), ("own_blocks", .tup (bs.map blkD))]), .val (.str (txt bs)), .val (.tup (bs.map blkD)), .own (.lst (L.map intD ++ [intD k])), s4, s5] ∧ L ++ sts k rem = sts 0 bs ∧ tot k rem = tot 0 bs ∧ L.length + rem.length = bs.length) ?_ ?_ _ _ _ ⟨bs, [], 0, .no, .no, rfl, rfl, rfl, rfl, rfl, by simp⟩
  · rintro n' ε ⟨rem, L, k, s4, s5, e, rfl, rfl, h1, h2, h3⟩
    have : rem = [] := List.map_eq_nil_iff.mp e.symm
    subst this
    simp only [dFrz, dFst, dBi, dCons, dVar, List.foldl_cons, frzE, List.getElem?_cons_succ, List.getElem?_cons_zero, OD.d, List.set_cons_succ, List.set_cons_zero, List.foldl_nil, dNil, List.length_cons, List.length_nil, Nat.zero_add, Nat.reduceAdd, putFD, true_and, ev_tupl]
    refine ⟨by decide, ?_⟩
    rw [if_neg (show ¬ ((Str.ofString "own_text") = (Str.ofString "own_ends")) by decide), if_neg (show ¬ ((Str.ofString "own_blocks") = (Str.ofString "own_ends")) by decide)]
    have e : L.map intD ++ [intD k] = (sts 0 bs ++ [tot 0 bs]).map intD := by
      rw [← h1, ← h2, sts, List.append_nil, tot, List.map_append]
      rfl
    rw [e]
    exact q
  · rintro y ys n' ε ih ⟨rem, L, k, s4, s5, e, rfl, rfl, h1, h2, h3⟩
    match rem, e with
    | b :: rem, e =>
      obtain ⟨rfl, rfl⟩ : y = blkD b ∧ ys = rem.map blkD := by simpa using e
      have ih' := ih n' _ ⟨rem, L ++ [k], k + b.2, .val (.str [b.1]), .val (.int b.2), rfl, rfl, rfl, by rw [List.append_assoc]; exact h1, h2, by rw [List.length_append, ← h3]; simp; omega⟩
      simp only [gTp, blkD, List.length_cons, List.length_nil, Nat.zero_add, Nat.reduceAdd, gsCons, gNm, gsNil, dApp, intD, List.set_cons_succ, List.set_cons_zero, List.getElem?_cons_succ, List.getElem?_cons_zero, dOp, dIxO, dNeg, dC, ev_atl, Option.some.injEq, dVar, List.length_append, List.length_map, exists_eq_left', ev_addi, true_and]
      have hl := ht.2.1
      rw [List.length_cons] at h3
      rw [List.map_append] at ih'
      exact ⟨by omega, ih'⟩
def wordD (c : Str → Addr) (bs : List Bl) : D := .obj (c "Word") (fldsW bs)
def s_Word_blocks (c : Str → Addr) : FD := fun ds n P => ∃ bs : List Bl, ds = [wordD c bs] ∧ P n (.tup (bs.map blkD))
theorem l_Word_blocks (c : Str → Addr) : ∀ ds n Q, s_Word_blocks c ds n Q → dFn 1 1 (b_Word_blocks c) ds n Q := by
  rintro ds n Q ⟨bs, rfl, q⟩
  refine ⟨rfl, ?_⟩
  simp only [b_Word_blocks, dRet, dFld, dVar, envOf, wordD, fldsW, List.map_cons, List.map_nil, List.length_cons, List.length_nil, Nat.zero_add, Nat.reduceSub, List.replicate, List.append_nil, List.getElem?_cons_zero, true_and]
  exact ⟨_, rfl, q⟩
def s_Word_starts (c : Str → Addr) : FD := fun ds n P => ∃ bs : List Bl, ds = [wordD c bs] ∧ P n (.tup ((sts 0 bs).map intD))
def s_stands_at : FD := fun ds n P => ∃ bw bo : List Bl, ds = [.tup (bw.map blkD), .tup (bo.map blkD)] ∧ bw.length = bo.length ∧ bw.length ≤ 1000 ∧ P n (.bl (stands bw.length 0 bw bo))
theorem enum_blks : ∀ (r q : List Bl) (i : Nat), r.length = q.length → ((zipD (r.map blkD) (q.map blkD)).zipIdx i).map (fun p => D.tup [.int (p.2 : Nat), p.1]) = ((r.zip q).zipIdx i).map fun p => D.tup [.int (p.2 : Nat), .tup [blkD p.1.1, blkD p.1.2]]
  | [], [], _, _ => rfl
  | [], _ :: _, _, h => by cases h
  | _ :: _, [], _, h => by cases h
  | a :: r, b :: q, i, h => by
    have ih := enum_blks r q (i + 1) (by simpa using h)
    rw [List.map_cons, List.map_cons, zipD, List.zipWith_cons_cons, List.zipIdx_cons, List.map_cons, List.zip_cons_cons, List.zipIdx_cons, List.map_cons]
    rw [← ih]
    rfl
theorem l_stands_at (c : Str → Addr) : ∀ ds n Q, s_stands_at ds n Q → dFn 8 2 (b_stands_at c) ds n Q := by
  rintro ds n Q ⟨bw, bo, rfl, hl, h0, q⟩
  refine ⟨rfl, ?_⟩
  simp only [b_stands_at, dSeq, dFor, iEnmZp, dVar, envOf, List.map_cons, List.map_nil, List.length_cons, List.length_nil, Nat.zero_add, Nat.reduceAdd, Nat.reduceSub, List.replicate, List.cons_append, List.nil_append, List.getElem?_cons_zero, List.getElem?_cons_succ, ev_srct, Option.some.injEq, gLt, Pd.gSub, gGt]
  refine ⟨_, _, rfl, rfl, ?_⟩
  rw [enumD, enum_blks bw bo 0 hl]
  refine forW_ind (Inv := fun ys n' ε => ∃ (r s : List Bl) (i : Nat) (s2 s3 s4 s5 s6 s7 : Sl), ys = ((r.zip s).zipIdx i).map (fun p => D.tup [.int (p.2 : Nat), .tup [blkD p.1.1, blkD p.1.2]]) ∧ n' = n ∧ ε = [.val (.tup (bw.map blkD)), .val (.tup (bo.map blkD)), s2, s3, s4, s5, s6, s7] ∧ r.length = s.length ∧ stands bw.length i r s = stands bw.length 0 bw bo) ?_ ?_ _ _ _ ⟨bw, bo, 0, .no, .no, .no, .no, .no, .no, rfl, rfl, rfl, hl, rfl⟩
  · rintro n' ε ⟨r, s, i, s2, s3, s4, s5, s6, s7, e, rfl, rfl, h1, h2⟩
    have hr : r = [] := by
      cases r with
      | nil => rfl
      | cons a r => cases s with
        | nil => cases h1
        | cons b s => cases e
    subst hr
    simp only [dRet, dC]
    rw [← h2] at q
    have : stands bw.length i [] s = true := by simp [stands]
    rw [this] at q
    exact q
  · rintro y ys n' ε ih ⟨r, s, i, s2, s3, s4, s5, s6, s7, e, rfl, rfl, h1, h2⟩
    match r, s, h1, h2, e with
    | a :: r, b :: s, h1, h2, e =>
      rw [List.zip_cons_cons, List.zipIdx_cons, List.map_cons] at e
      obtain ⟨rfl, rfl⟩ := List.cons.inj e
      rw [stands] at h2
      have hT : (a.1 ≠ b.1 ∨ a.2 > b.2 ∨ (0 < i ∧ i + 1 < bw.length ∧ a.2 ≠ b.2)) → Q n' (.bl false) := fun h => by
        rw [decide_eq_true h] at h2
        rw [← h2] at q
        exact q
      have go := fun (h : ¬ (a.1 ≠ b.1 ∨ a.2 > b.2 ∨ (0 < i ∧ i + 1 < bw.length ∧ a.2 ≠ b.2))) x7 => ih n' _ ⟨r, s, i + 1, .val (.int (i : Nat)), .val (.str [a.1]), .val (.int a.2), .val (.str [b.1]), .val (.int b.2), x7, rfl, rfl, rfl, by simpa using h1, by rw [decide_eq_false h] at h2; simpa using h2⟩
      simp only [gTp, blkD, List.length_cons, List.length_nil, Nat.zero_add, Nat.reduceAdd, gsCons, gNm, gsNil, dSeq, dSet, dChain, dC, dVar, List.set_cons_succ, List.set_cons_zero, List.getElem?_cons_succ, List.getElem?_cons_zero, dOp, dBi, dCons, dNil, dIf, dOr, dTB, gNe, ev_oks, eqD_str, List.cons.injEq, and_true, dRet, forall_const, reduceCtorEq, dNx, false_implies, dAnd, ev_oki, eqD_int, true_and, ev_gI, TC, decide_eq_true_eq, decide_eq_false_iff_not, ev_lent, List.length_map]
      simp only [Bool.not_eq_true', Bool.not_eq_false', decide_eq_false_iff_not, decide_eq_true_eq]
      refine ⟨fun hi => ⟨fun h => hT (by omega), fun h => ⟨fun h' => hT (by omega), fun h' => ⟨fun hm => ⟨fun h3 => hT (by omega), fun h3 => go (by omega) _⟩, fun hm => go (by omega) _⟩⟩⟩, fun hi => ⟨fun h => hT (by omega), fun h => ⟨fun h' => hT (by omega), fun h' => go (by omega) _⟩⟩⟩
def s_places (c : Str → Addr) : FD := fun ds n P => ∃ bw bt : List Bl, ds = [wordD c bw, wordD c bt] ∧ Good bw ∧ bw ≠ [] ∧ bw.length ≤ 1000 ∧ bt.length ≤ 1000 ∧ P n (.tup (((rowsOf bw 0 bt).foldl stP []).map prD))
def stL (k i : Nat) (bs : List Bl) : List D := (((sts k bs).map intD).zipIdx i).map fun p => D.tup [.int (p.2 : Nat), p.1]
theorem stL_cons (k i : Nat) (b : Bl) (r : List Bl) : stL k i (b :: r) = .tup [.int (i : Nat), .int (k : Nat)] :: stL (k + b.2) (i + 1) r := rfl
theorem stands_take (m : Nat) : ∀ (r q : List Bl) (i : Nat), stands m i r (q.take r.length) = stands m i r q
  | [], q, i => by simp [stands]
  | a :: r, [], i => by simp [stands]
  | a :: r, b :: q, i => by rw [List.length_cons, List.take_succ_cons, stands, stands, stands_take m r q]
theorem l_places (c : Str → Addr) : ∀ ds n Q, s_places c ds n Q → dFn 9 2 (b_places c (s_Word_blocks c) (s_Word_starts c) s_stands_at s_joined) ds n Q := by
  rintro ds n Q ⟨bw, bt, rfl, gw, hne, hw, ht, q⟩
  refine ⟨rfl, ?_⟩
  obtain ⟨a, r0, e0⟩ : ∃ a r0, bw = a :: r0 := by
    cases bw with
    | nil => exact absurd rfl hne
    | cons a r => exact ⟨a, r, rfl⟩
  simp only [b_places, dSeq, dIf, dNot, dTB, dIsi, dVar, envOf, wordD, List.map_cons, List.map_nil, List.length_cons, List.length_nil, Nat.zero_add, Nat.reduceAdd, Nat.reduceSub, List.replicate, List.cons_append, List.nil_append, List.getElem?_cons_succ, List.getElem?_cons_zero, isC, dNev, dNx, dMul, bCons, dProp, bOwn, dLstO, dNil, Nat.reduceLeDiff, bNil, dFor, iEnm, setL, List.set_cons_succ, List.set_cons_zero, Pd.gSub, true_and]
  refine ⟨true, if_pos trivial, fun h => (by cases h), fun _ => ⟨bw, rfl, bt, rfl, bt, rfl, _, rfl, ?_⟩⟩
  rw [show enumD ((sts 0 bt).map intD) = stL 0 0 bt from rfl]
  refine forW_ind (Inv := fun ys n' ε => ∃ (pre rem : List Bl) (k : Nat) (rows : List Pr) (s5 s6 s7 s8 : Sl), ys = stL k pre.length rem ∧ n' = n ∧ ε = [.val (.obj (c "Word") (fldsW bw)), .val (.obj (c "Word") (fldsW bt)), .val (.tup (bw.map blkD)), .val (.tup (bt.map blkD)), .own (.lst (rows.map prD)), s5, s6, s7, s8] ∧ pre ++ rem = bt ∧ rows ++ rowsOf bw k rem = rowsOf bw 0 bt ∧ rows.length ≤ pre.length) ?_ ?_ _ _ _ ⟨[], bt, 0, [], .no, .no, .no, .no, rfl, rfl, rfl, rfl, rfl, Nat.le_refl _⟩
  · rintro n' ε ⟨pre, rem, k, rows, s5, s6, s7, s8, e, rfl, rfl, h1, h2, h3⟩
    have hr : rem = [] := by
      cases rem with
      | nil => rfl
      | cons b r => cases e
    subst hr
    rw [rowsOf, List.append_nil] at h2
    rw [List.append_nil] at h1
    subst h1
    simp only [dFrz, dRet, dCall, dCons, dVar, List.foldl_cons, frzE, List.getElem?_cons_succ, List.getElem?_cons_zero, OD.d, List.set_cons_succ, List.set_cons_zero, List.foldl_nil, dNil, List.append_nil]
    exact ⟨rows, rfl, by omega, h2 ▸ q⟩
  · rintro y ys n' ε ih ⟨pre, rem, k, rows, s5, s6, s7, s8, e, rfl, rfl, h1, h2, h3⟩
    match rem, e with
    | b :: rem, e =>
      rw [stL_cons] at e
      obtain ⟨rfl, rfl⟩ := List.cons.inj e
      have hlen : pre.length + (rem.length + 1) = bt.length := by rw [← h1, List.length_append, List.length_cons]
      have hcut : cut (bt.map blkD) (some (pre.length : Nat)) (some ((pre.length : Int) + (bw.length : Int))) = ((b :: rem).take bw.length).map blkD := by
        rw [show (pre.length : Int) + (bw.length : Int) = ((pre.length + bw.length : Nat) : Int) from rfl, cut_mid, ← h1, List.map_append, Nat.add_sub_cancel_left]
        rw [show pre.length = (pre.map blkD).length by rw [List.length_map], List.drop_left, List.map_take]
      have ih' := fun rows' (h2' : rows' ++ rowsOf bw (k + b.2) rem = rowsOf bw 0 bt) (h3' : rows'.length ≤ pre.length + 1) x7 x8 => ih n' _ ⟨pre ++ [b], rem, k + b.2, rows', .val (.int (pre.length : Nat)), .val (.int (k : Nat)), x7, x8, by rw [List.length_append]; rfl, rfl, rfl, by rw [List.append_assoc]; exact h1, h2', by rw [List.length_append]; exact h3'⟩
      simp only [gTp, List.length_cons, List.length_nil, Nat.zero_add, Nat.reduceAdd, gsCons, gNm, gsNil, dSeq, dSet, dSl, dVar, List.set_cons_succ, List.set_cons_zero, List.getElem?_cons_succ, List.getElem?_cons_zero, pSome, dOp, dBi, dCons, dNil, dIf, dAnd, dTB, gEq, dCall, List.append_nil, dC, dApp, dTup, dIte, Nat.reduceLeDiff, List.length_map, true_and, ev_lent, ev_oki, eqD_int, decide_eq_true_eq, decide_eq_false_iff_not, ev_ixt, dNx, reduceCtorEq, false_implies, forall_const, ev_slt, ev_addi]
      rw [hcut]
      simp only [List.length_map, List.length_take, List.length_cons]
      have noRow : ¬ (bw.length ≤ (b :: rem).length ∧ stands bw.length 0 bw (b :: rem) = true) → rows ++ rowsOf bw (k + b.2) rem = rowsOf bw 0 bt := fun h => by
        rw [rowsOf, if_neg h] at h2
        exact h2
      refine ⟨fun hm => ?_, fun hm => ih' rows (noRow fun h => hm (by have := h.1; rw [List.length_cons] at this; omega)) (by omega) _ _⟩
      have hle : bw.length ≤ (b :: rem).length := by rw [List.length_cons]; omega
      refine ⟨bw, (b :: rem).take bw.length, rfl, by rw [List.length_take]; omega, hw, ?_⟩
      rw [stands_take]
      refine ⟨fun hs => ?_, fun hs => ih' rows (noRow fun h => by rw [h.2] at hs; cases hs) (by omega) _ _⟩
      rw [rowsOf, if_pos ⟨hle, hs⟩, ← List.append_assoc] at h2
      subst e0
      have ha : a.2 ≤ b.2 := by
        rw [stands] at hs
        simp only [Bool.and_eq_true, Bool.not_eq_true', decide_eq_false_iff_not] at hs
        omega
      have er : (k : Int) + (b.2 : Int) - (a.2 : Int) = ((k + b.2 - a.2 : Nat) : Int) := by omega
      have ih2 := fun x7 x8 => ih' _ h2 (by rw [List.length_append]; simp; omega) x7 x8
      rw [List.map_append] at ih2
      simp only [List.length_cons, List.take_succ_cons, List.map_cons, ev_at0, Option.some.injEq, exists_eq_left']
      simp only [blkD, ev_ixt, ev_at1, Option.some.injEq, exists_eq_left', ev_addi, ev_gI, TC, er, true_and]
      rw [List.length_cons, List.length_cons] at *
      refine ⟨fun h1 => ⟨by omega, ?_⟩, fun h1 => ⟨by omega, ?_⟩⟩
      · rw [if_pos (by omega)] at ih2
        exact ih2 _ _
      · rw [if_neg (by omega)] at ih2
        exact ih2 _ _
end LW
namespace LW
open PySem L2 Pd
def pos (bs : List Bl) (j : Nat) : Nat := ((bs.take j).map (·.2)).sum
theorem pos_zero (bs : List Bl) : pos bs 0 = 0 := by simp [pos]
theorem pos_cons (a : Bl) (r : List Bl) (j : Nat) : pos (a :: r) (j + 1) = a.2 + pos r j := by simp [pos]
theorem pos_all : ∀ bs : List Bl, pos bs bs.length = (expand bs).length
  | [] => by simp [pos, expand]
  | a :: r => by
    rw [List.length_cons, pos_cons, pos_all r, expand, List.length_append, List.length_replicate]
theorem sts_pos : ∀ (bs : List Bl) (k : Nat), sts k bs = (List.range bs.length).map fun j => k + pos bs j
  | [], k => rfl
  | b :: r, k => by
    rw [sts, sts_pos r, List.length_cons, List.range_succ_eq_map, List.map_cons, List.map_map, pos_zero, Nat.add_zero]
    congr 1
    refine List.map_congr_left fun j _ => ?_
    show k + b.2 + pos r j = k + pos (b :: r) (j + 1)
    rw [pos_cons]
    omega
theorem tot_pos : ∀ (bs : List Bl) (k : Nat), tot k bs = k + pos bs bs.length
  | [], k => by simp [tot, pos]
  | b :: r, k => by
    rw [tot, tot_pos r, List.length_cons, pos_cons]
    omega
def endsD (bs : List Bl) : List D := (List.range (bs.length + 1)).map fun j => intD (pos bs j)
theorem ends_eq (bs : List Bl) : (sts 0 bs ++ [tot 0 bs]).map intD = endsD bs := by
  unfold endsD
  rw [sts_pos, tot_pos, List.range_succ, List.map_append, List.map_append, List.map_map]
  congr 1
  · refine List.map_congr_left fun j _ => ?_
    show intD (0 + pos bs j) = _
    rw [Nat.zero_add]
  · rw [Nat.zero_add]; rfl
theorem lk_text (bs : List Bl) : List.lookup (Str.ofString "own_text") (fldsW bs) = some (.str (txt bs)) := rfl
theorem lk_blocks (bs : List Bl) : List.lookup (Str.ofString "own_blocks") (fldsW bs) = some (.tup (bs.map blkD)) := rfl
theorem lk_ends (bs : List Bl) : List.lookup (Str.ofString "own_ends") (fldsW bs) = some (.tup (endsD bs)) := by
  rw [← ends_eq]
  rfl
theorem lk_spot (bs : List Bl) : (List.lookup (Str.ofString "spot") (fldsW bs) = none) = True := eq_true rfl
theorem lk_letter (bs : List Bl) : (List.lookup (Str.ofString "letter") (fldsW bs) = none) = True := eq_true rfl
theorem for_ind {dg : DG} {b : DS} {N : DN} (Inv : List D → Nat → Ev → Prop) {xs : List D} {n : Nat} {ε : Ev} (hi : Inv xs n ε) (h0 : ∀ n ε, Inv [] n ε → N.nx n ε)
    (hs : ∀ x xs n ε (nxt : Nat → Ev → Prop), (∀ n ε, Inv xs n ε → nxt n ε) → Inv (x :: xs) n ε → dg x ε fun ε' => b { N with nx := nxt, ct := nxt, bk := N.nx } n ε') : forW dg b N xs n ε :=
  forW_ind h0 (fun x xs n ε ih i => hs x xs n ε (forW dg b N xs) ih i) xs n ε hi
theorem cut_amid {α : Type} (l : List α) (h : 2 ≤ l.length) : cut l (some 1) (some (-1)) = (l.drop 1).take (l.length - 2) := by
  unfold cut
  rw [show HT.sIx l.length 0 (some (1 : Int)) = 1 from by
    rw [show (1 : Int) = ((1 : Nat) : Int) from rfl, HT.sIx_nat]
    omega, show HT.sIx l.length l.length (some (-1 : Int)) = l.length - 1 from by
    show (if (-1 : Int) < 0 then (-1 + (l.length : Int)).toNat else min (-1 : Int).toNat l.length) = _
    rw [if_pos (by decide)]
    omega, show l.length - 1 - 1 = l.length - 2 by omega]
end LW
namespace LW
open PySem L2 Pd
def b_Word_size (c : Str → Addr)  : DS := (dRet (dOp gIx (dFld (c "Word") "own_ends" (dVar 0)) (dNeg (dC (.int 1)))))
def b_text_of (c : Str → Addr)  : DS := (dRet (dJoin (dC (.str [])) (dO (dComp (iVal (dVar 0)) (gTp 2 (gsCons (gNm 1) (gsCons (gNm 2) gsNil))) dYes (dOp gAdd (dVar 1) (dIte (dTB (dOp gGt (dVar 2) (dC (.int 1)))) (dBi gStr (dCons (dVar 2) dNil)) (dC (.str [])))) [1, 2]))))
def b_is_integer (c : Str → Addr)  : DS := (dSeq (dIf (dOr (dNot (dTB (dIsi (isT "int" [c "Word"]) (dVar 0)))) (dTB (dIsi (isT "bool" [c "Word"]) (dVar 0)))) (dRet (dC (.bl false))) dNx)
    (dRet (dAndV (dTB (dOp gLe (dVar 1) (dVar 0))) (dOrV (dTB (dOp gIs (dVar 2) (dC .non))) (dOp gLe (dVar 0) (dVar 2))))))
end LW
namespace LW
open PySem L2 Pd
def size (bs : List Bl) : Nat := (expand bs).length
def s_Word_size (c : Str → Addr) : FD := fun ds n P => ∃ bs : List Bl, ds = [wordD c bs] ∧ P n (.int (size bs : Nat))
theorem atI_endlast (bs : List Bl) : L2.atI (endsD bs) (-1) = some (intD (size bs)) := by
  unfold endsD
  rw [List.range_succ, List.map_append, List.map_cons, List.map_nil, pos_all]
  exact L2.atI_last _ _
theorem l_Word_size (c : Str → Addr) : ∀ ds n Q, s_Word_size c ds n Q → dFn 1 1 (b_Word_size c) ds n Q := by
  rintro ds n Q ⟨bs, rfl, q⟩
  refine ⟨rfl, ?_⟩
  simp only [b_Word_size, dRet, dOp, dFld, dVar, envOf, wordD, fldsW, List.map_cons, List.map_nil, List.length_cons, List.length_nil, Nat.zero_add, Nat.reduceSub, List.replicate, List.append_nil, List.getElem?_cons_zero, dNeg, dC, true_and]
  refine ⟨_, rfl, ?_⟩
  simp only [ev_ixt]
  refine ⟨_, ?_, q⟩
  rw [ends_eq]
  exact atI_endlast bs
end LW
namespace LW
open PySem L2 Pd
def per (w : List Nat) (k : Nat) : Prop := w.drop k = w.take (w.length - k)
instance (w : List Nat) (k : Nat) : Decidable (per w k) := by unfold per; exact inferInstance
theorem per_iff {w : List Nat} {k : Nat} : per w k ↔ ∀ i, i < w.length - k → w[i]? = w[i + k]? := by
  unfold per
  constructor
  · intro h i hi
    have e := congrArg (fun l => l[i]?) h
    simp only [List.getElem?_drop, List.getElem?_take] at e
    rw [if_pos hi] at e
    rw [← e, Nat.add_comm]
  · intro h
    apply List.ext_getElem?
    intro i
    rw [List.getElem?_drop, List.getElem?_take]
    by_cases hi : i < w.length - k
    · rw [if_pos hi, h i hi, Nat.add_comm]
    · rw [if_neg hi, List.getElem?_eq_none (by omega)]
theorem asc_ext : ∀ {a b : List Nat}, a.Pairwise (· < ·) → b.Pairwise (· < ·) → (∀ x, x ∈ a ↔ x ∈ b) → a = b
  | [], [], _, _, _ => rfl
  | [], y :: b, _, _, h => by have := (h y).mpr (by simp); simp at this
  | x :: a, [], _, _, h => by have := (h x).mp (by simp); simp at this
  | x :: a, y :: b, ha, hb, h => by
    rw [List.pairwise_cons] at ha hb
    have hxy : x = y := by
      have h1 := (h x).mp (by simp)
      have h2 := (h y).mpr (by simp)
      rcases List.mem_cons.mp h1 with e | e
      · exact e
      · rcases List.mem_cons.mp h2 with e' | e'
        · exact e'.symm
        · have := ha.1 y e'
          have := hb.1 x e
          omega
    subst hxy
    congr 1
    refine asc_ext ha.2 hb.2 fun z => ?_
    constructor
    · intro hz
      have := (h z).mp (List.mem_cons_of_mem _ hz)
      rcases List.mem_cons.mp this with e | e
      · have := ha.1 z hz
        omega
      · exact e
    · intro hz
      have := (h z).mpr (List.mem_cons_of_mem _ hz)
      rcases List.mem_cons.mp this with e | e
      · have := hb.1 z hz
        omega
      · exact e
theorem asc_range (lo n : Nat) : (List.range' lo n).Pairwise (· < ·) := by
  have := List.pairwise_lt_range' (s := lo) (n := n)
  exact this
end LW
namespace LW
open PySem L2 Pd
theorem exp_ne {bs : List Bl} (g : Good bs) (h : bs ≠ []) : expand bs ≠ [] := fun e => h ((expand_nil g).mp e)
end LW
namespace LW
open PySem L2 Pd
def AL (l : List Nat) : Prop := ∀ c ∈ l, c ∈ letters
theorem AL.sub {a b : List Nat} (h : AL b) (g : ∀ c ∈ a, c ∈ b) : AL a := fun c hc => h c (g c hc)
theorem AL.rep {a : List Nat} (h : AL a) (k : Nat) : AL (List.replicate k a).flatten := fun c hc => by
  obtain ⟨l, h1, h2⟩ := List.mem_flatten.mp hc
  exact h c (List.eq_of_mem_replicate h1 ▸ h2)
theorem AL.take {a : List Nat} (h : AL a) (k : Nat) : AL (a.take k) := h.sub fun c hc => List.mem_of_mem_take hc
theorem AL.drop {a : List Nat} (h : AL a) (k : Nat) : AL (a.drop k) := h.sub fun c hc => List.mem_of_mem_drop hc
end LW
namespace LW
open PySem L2 Pd
theorem rngD_eq (n lo : Nat) : rngD (lo : Int) n = (List.range' lo n).map intD := by
  unfold rngD
  have e : List.range' lo n = (List.range n).map fun i => lo + i := by
    rw [List.range_eq_range', List.map_add_range']
    simp
  rw [e, List.map_map]
  refine List.map_congr_left fun i _ => ?_
  show D.int ((lo : Int) + (i : Nat)) = D.int ((lo + i : Nat) : Int)
  congr 1
def s_cells : FD := fun ds n P => ∃ (ns : List Int) (lim : Nat), ds = [.scr ns, .int lim] ∧ 1 ≤ lim ∧ lim ≤ 8 ∧ ∀ xs : List D, xs.length ≤ lim → (∀ x ∈ xs, ∃ k : Nat, x = .int k ∧ k < lim) → P n (.lst xs)
theorem l_cells (c : Str → Addr) : ∀ ds n Q, s_cells ds n Q → dFn 2 2 (b__law_cells c) ds n Q := by
  rintro ds n Q ⟨ns, lim, rfl, hl1, hl8, q⟩
  refine ⟨rfl, ?_⟩
  simp only [b__law_cells, dRet, dLRg, Pd.r1, dBi, dCons, dC, dVar, envOf, List.map_cons, List.map_nil, List.length_cons, List.length_nil, Nat.zero_add, Nat.reduceAdd, Nat.reduceSub, List.replicate, List.append_nil, List.getElem?_cons_succ, List.getElem?_cons_zero, dNil, ev_lenr, ev_min, ev_max]
  have hm : ∃ m : Nat, (if (if (ns.length : Int) < lim then (ns.length : Int) else lim) > 1 then (if (ns.length : Int) < lim then (ns.length : Int) else lim) else 1) = m ∧ m ≤ lim := by
    by_cases h : (ns.length : Int) < lim
    · rw [if_pos h]
      by_cases h2 : (ns.length : Int) > 1
      · rw [if_pos h2]
        exact ⟨ns.length, rfl, by omega⟩
      · rw [if_neg h2]
        exact ⟨1, rfl, by omega⟩
    · rw [if_neg h]
      by_cases h2 : (lim : Int) > 1
      · rw [if_pos h2]
        exact ⟨lim, rfl, by omega⟩
      · rw [if_neg h2]
        exact ⟨1, rfl, by omega⟩
  obtain ⟨m, hm, h4⟩ := hm
  rw [hm]
  refine ⟨⟨by omega, by omega, by omega, by omega, by omega⟩, ?_⟩
  have e : (((m : Int) - 0).toNat) = m := by omega
  unfold rgD
  rw [e]
  refine q _ (by rw [List.length_map, List.length_range]; exact h4) fun x hx => ?_
  obtain ⟨i, hi, rfl⟩ := List.mem_map.mp hx
  have hi := List.mem_range.mp hi
  exact ⟨i, by rw [Int.zero_add], by omega⟩
theorem abs_lt_pow {z M : Int} {a : Nat} (h0 : 0 ≤ z) (h1 : z < M) (h2 : M < ((2 ^ a : Nat) : Int)) : z.natAbs < 2 ^ a := by
  omega
def s_pot : FD := fun ds n P => ∃ (ns : List Int) (k : Nat), ds = [.scr ns, .int k] ∧ k < 8 ∧ n ≤ 1000000000 ∧ P n .pot
theorem l_pot (c : Str → Addr) : ∀ ds n Q, s_pot ds n Q → dFn 5 2 (b__law_pot c) ds n Q := by
  rintro ds n Q ⟨ns, k, rfl, hk, h0, q⟩
  refine ⟨rfl, ?_⟩
  simp only [b__law_pot, dSeq, dSet, dIte, dTB, dOp, dVar, envOf, List.map_cons, List.map_nil, List.length_cons, List.length_nil, Nat.zero_add, Nat.reduceAdd, Nat.reduceSub, List.replicate, List.cons_append, List.nil_append, List.getElem?_cons_succ, List.getElem?_cons_zero, dBi, dCons, dNil, gLt, List.set_cons_succ, List.set_cons_zero, dC, gPow, gMod, gGe, ev_gI, ev_ixr, ev_inttoi, ev_abs, TC, ev_inttob, decide_eq_true_eq, true_and, ev_muli, ev_addi, ev_lenr, decide_eq_false_iff_not]
  have hk2 : (k : Int).natAbs < 2 ^ 3 := by
    have : (2 : Nat) ^ 3 = 8 := by decide
    omega
  have fin : ∀ (x z : Int), 0 ≤ z → z.natAbs < 2 ^ 1000 → dRetPot
                        (dLstO
                          (dCons (dVar 3)
                            (dCons
                              (dOp gMod
                                (dBi gInt
                                  (dCons
                                    (dOp gAdd
                                      (dOp gAdd (dOp gMul (dVar 4) (dC (D.int 74521)))
                                        (dOp gMul (dOp gMul (dC (D.int 7823)) (dVar 1)) (dVar 1)))
                                      (dC (D.int 199)))
                                    dNil))
                                (dC (D.int 2305843009213693921)))
                              (dCons (dC (D.int 0)) dNil))))
                        { nx := fun n x => Q n D.non, rt := Q } n
                        [Sl.val (D.scr ns), Sl.val (D.int k), Sl.val (D.int x), Sl.val (D.int z), Sl.val (D.int (x % 2305843009213693951))] := by
    intro x z z0 z1
    have y0 := Int.emod_nonneg x (b := 2305843009213693951) (by decide)
    have y1 := Int.emod_lt_of_pos x (b := 2305843009213693951) (by decide)
    have y2 := abs_lt_pow (a := 61) y0 y1 (by decide)
    simp only [dRetPot, dLstO, dCons, dVar, List.getElem?_cons_succ, List.getElem?_cons_zero, dOp, dBi, dC, dNil, gMod, List.length_cons, List.length_nil, Nat.zero_add, Nat.reduceAdd, Nat.reduceLeDiff, true_and, ev_muli, ev_addi, ev_inttoi, ev_gI]
    refine ⟨wide_mul y2 (b := 20) (by decide) (by decide) (by decide) (by decide), wide_mul (a := 20) (by decide) hk2 (by decide) (by decide) (by decide), wide_mul (a := 20) (b := 3) ?_ hk2 (by decide) (by decide) (by decide), by decide, _, _, _, rfl, z0, Nat.lt_trans z1 (by decide +kernel), Int.emod_nonneg _ (by decide), Int.lt_trans (Int.emod_lt_of_pos _ (by decide)) (by decide), by decide, by omega, q⟩
    have : (2 : Nat) ^ 20 = 1048576 := by decide
    omega
  have core : ∀ y : Int, 0 ≤ y % (10 ^ Int.toNat 60) ^ Int.toNat 5 ∧ (y % (10 ^ Int.toNat 60) ^ Int.toNat 5).natAbs < 2 ^ 999 := fun y => by
    have hM : (0 : Int) < (10 ^ Int.toNat 60) ^ Int.toNat 5 := by decide +kernel
    have hM2 : ((10 ^ Int.toNat 60) ^ Int.toNat 5 : Int) < ((2 ^ 999 : Nat) : Int) := by decide +kernel
    have l0 := Int.emod_nonneg y (Int.ne_of_gt hM)
    exact ⟨l0, abs_lt_pow l0 (Int.emod_lt_of_pos y hM) hM2⟩
  have tim : ∀ (z : Int) (p : Prop) [Decidable p], 0 ≤ z → z.natAbs < 2 ^ 999 → CMulW z (if p then 1 else 0) ∧ 0 ≤ z * (if p then 1 else 0) ∧ (z * (if p then 1 else 0)).natAbs < 2 ^ 1000 := fun z p _ z0 z1 => by
    refine ⟨wide_mul z1 (b := 1) (by split <;> decide) (by decide) (by decide) (by decide), ?_, ?_⟩
    · split
      · omega
      · omega
    · split
      · rw [Int.mul_one]
        exact Nat.lt_trans z1 (by decide +kernel)
      · rw [Int.mul_zero]
        decide +kernel
  have p1 : CPowW 10 60 := ⟨by decide, by decide, by decide +kernel⟩
  have p2 : CPowW (10 ^ Int.toNat 60) 5 := ⟨by decide, by decide, by decide +kernel⟩
  have p3 : CPowW 10 18 := ⟨by decide, by decide, by decide +kernel⟩
  refine ⟨fun h => ?_, fun h => ?_⟩
  · have hj : k < ns.length := by omega
    refine ⟨ns[k], atI_nat (List.getElem?_eq_getElem hj), p1, p2, by decide +kernel, p3, ?_, by decide, ?_⟩
    · exact (tim _ _ (core _).1 (core _).2).1
    · exact fin _ _ (tim _ _ (core _).1 (core _).2).2.1 (tim _ _ (core _).1 (core _).2).2.2
  · refine ⟨wide_mul (a := 20) (by decide) hk2 (by decide) (by decide) (by decide), p1, p2, by decide +kernel, p3, ?_, by decide, ?_⟩
    · exact (tim _ _ (core _).1 (core _).2).1
    · exact fin _ _ (tim _ _ (core _).1 (core _).2).2.1 (tim _ _ (core _).1 (core _).2).2.2
end LW
namespace LW
open PySem L2 Pd
def s_text_of : FD := fun ds n P => ∃ (x : D) (bs : List Bl), ds = [x] ∧ srcD x = some (bs.map blkD) ∧ bs.length ≤ 1000 ∧ (∀ b ∈ bs, b.2 < 10 ^ 31) ∧ P n (.str (txt bs))
theorem l_text_of (c : Str → Addr) : ∀ ds n Q, s_text_of ds n Q → dFn 3 1 (b_text_of c) ds n Q := by
  rintro ds n Q ⟨x, bs, rfl, hx, h0, h1, q⟩
  refine ⟨rfl, ?_⟩
  simp only [b_text_of, dRet, dJoin, dC, dO, dComp, iVal, dVar, envOf, List.map_cons, List.map_nil, List.length_cons, List.length_nil, Nat.zero_add, Nat.reduceSub, List.replicate, List.cons_append, List.nil_append, List.getElem?_cons_zero, gGt, wipeE, List.set_cons_succ, List.set_cons_zero]
  refine ⟨_, hx, by rw [List.length_map]; omega, compW_map blkD (fun b => .str (b.1 :: tail b.2)) bs _ _ (fun b hb n K K' q1 => ?_) ?_⟩
  · have hl := log_lt (h1 b hb)
    have ht := tail_len (h1 b hb)
    have hn := numD_len (h1 b hb)
    unfold tail at q1
    simp only [gTp, blkD, List.length_cons, List.length_nil, Nat.zero_add, Nat.reduceAdd, gsCons, gNm, gsNil, dYes, dOp, dVar, List.set_cons_succ, List.set_cons_zero, List.getElem?_cons_succ, List.getElem?_cons_zero, dIte, dTB, dC, dBi, dCons, dNil, ev_strtoi, ev_adds, List.cons_append, List.nil_append, Nat.reduceLeDiff, List.append_nil, true_and, ev_gI, TC, decide_eq_true_eq, decide_eq_false_iff_not, forall_const, reduceCtorEq, false_implies, and_true]
    refine ⟨fun h => ⟨hl, by omega, ?_⟩, fun h => ?_⟩
    · rw [if_pos (by omega)] at q1
      exact q1
    · rw [if_neg (by omega)] at q1
      exact q1
  · have e : (([] : List D) ++ bs.map fun b => D.str (b.1 :: tail b.2)) = (bs.map fun b => b.1 :: tail b.2).map D.str := by
      rw [List.nil_append, List.map_map]
      rfl
    rw [e, map_isStrs]
    refine ⟨_, rfl, ?_, ?_⟩
    · have e2 : ((bs.map fun b => b.1 :: tail b.2).map (·.length)).sum = (txt bs).length := by
        rw [← txt_flat, List.length_flatten]
      rw [e2]
      have := txt_len h1
      omega
    · rw [joinL_nil, txt_flat]
      exact q
end LW
namespace LW
open PySem L2 Pd
theorem numD_len60 {k : Nat} (h : k < 10 ^ 60) : (numD (k : Int)).length ≤ 60 := by
  rw [numD_digits, List.length_map]
  exact PyProof.Rows.digits10_le (by decide) h
theorem log_lt60 {k : Nat} (h : k < 10 ^ 60) : ((k : Int)).natAbs.log2 < 1920 := by
  rw [Int.natAbs_natCast]
  by_cases h0 : k = 0
  · subst h0
    decide
  · rw [Nat.log2_lt h0]
    exact Nat.lt_of_lt_of_le h (by decide)
theorem shown_pr {r : Pr} (h1 : r.1 < 10 ^ 60) (h2 : r.2 < 10 ^ 60) : (PyData.shown (toPD (prD r))).length ≤ 130 := by
  have a1 := numD_len60 h1
  have a2 := numD_len60 h2
  unfold numD at a1 a2
  unfold prD
  simp only [toPD, toPDs, PyData.shown, PyData.shownAll]
  refine Nat.le_trans (tupleText_len_le _) ?_
  simp only [List.map_cons, List.map_nil, List.sum_cons, List.sum_nil, List.length_cons, List.length_nil]
  have b1 : (toString (r.1 : Int) : Str).length ≤ 60 := a1
  have b2 : (toString (r.2 : Int) : Str).length ≤ 60 := a2
  omega
theorem shown_prs : ∀ {rs : List Pr}, (∀ r ∈ rs, r.1 < 10 ^ 60 ∧ r.2 < 10 ^ 60) → (((PyData.shownAll (toPDs (rs.map prD))).map (·.length)).sum ≤ 130 * rs.length ∧ (PyData.shownAll (toPDs (rs.map prD))).length = rs.length ∧ PyData.showableAll (toPDs (rs.map prD)) = true)
  | [], _ => by
    rw [List.map_nil, toPDs, PyData.shownAll, PyData.showableAll]
    exact ⟨Nat.le_refl _, rfl, rfl⟩
  | r :: rs, h => by
    have ih := shown_prs fun x hx => h x (List.mem_cons_of_mem _ hx)
    have h1 := (h r (by simp)).1
    have h2 := (h r (by simp)).2
    have hr := shown_pr h1 h2
    rw [List.map_cons, toPDs, PyData.shownAll, PyData.showableAll, List.map_cons, List.sum_cons, List.length_cons, List.length_cons, ih.2.1, ih.2.2]
    refine ⟨by omega, rfl, ?_⟩
    have e : PyData.showable (toPD (prD r)) = true := by
      unfold prD
      simp only [toPD, toPDs, PyData.showable, PyData.showableAll, Bool.and_true, Bool.and_eq_true, decide_eq_true_eq]
      exact ⟨log_lt60 h1, log_lt60 h2⟩
    rw [e]
    rfl
theorem okRepr_prs {rs : List Pr} (hl : rs.length ≤ 1000) (h : ∀ r ∈ rs, r.1 < 10 ^ 60 ∧ r.2 < 10 ^ 60) : okRepr (.tup (rs.map prD)) = true ∧ (shownD (.tup (rs.map prD))).length ≤ 16777216 := by
  have g := shown_prs h
  constructor
  · unfold okRepr
    rw [Bool.and_eq_true]
    refine ⟨?_, by simp only [toPD, PyData.showable]; exact g.2.2⟩
    have := okD_prs rs
    unfold okD at this ⊢
    simp only [isPd, dpt] at this ⊢
    exact this
  · unfold shownD
    have : (PyData.shown (toPD (.tup (rs.map prD)))).length ≤ 16777216 := by
      simp only [toPD, PyData.shown]
      refine Nat.le_trans (tupleText_len_le _) ?_
      rw [g.2.1]
      omega
    exact this
theorem stP_in (p : Nat → Prop) : ∀ (rows acc : List Pr), (∀ r ∈ rows, p r.1 ∧ p r.2) → (∀ r ∈ acc, p r.1 ∧ p r.2) → (∀ r ∈ rows.foldl stP acc, p r.1 ∧ p r.2) ∧ (rows.foldl stP acc).length ≤ acc.length + rows.length
  | [], acc, _, h => ⟨h, Nat.le_refl _⟩
  | r :: rows, acc, h, g => by
    have h1 := h r (by simp)
    have step : (∀ x ∈ stP acc r, p x.1 ∧ p x.2) ∧ (stP acc r).length ≤ acc.length + 1 := by
      rcases List.eq_nil_or_concat acc with rfl | ⟨as, l, rfl⟩
      · exact ⟨fun x hx => by rw [stP_nil] at hx; simp at hx; subst hx; exact h1, by rw [stP_nil]; simp⟩
      · rw [List.concat_eq_append] at g ⊢
        have gl := g l (by simp)
        rw [stP_snoc]
        split
        · refine ⟨fun x hx => ?_, by simp⟩
          rcases List.mem_append.mp hx with hx | hx
          · exact g x (List.mem_append_left _ hx)
          · simp at hx
            subst hx
            exact ⟨gl.1, h1.2⟩
        · refine ⟨fun x hx => ?_, by simp⟩
          rcases List.mem_append.mp hx with hx | hx
          · exact g x hx
          · simp at hx
            subst hx
            exact h1
    have := stP_in p rows (stP acc r) (fun x hx => h x (List.mem_cons_of_mem _ hx)) step.1
    rw [List.foldl_cons, List.length_cons]
    exact ⟨this.1, by omega⟩
def rowsAt (w t : List Nat) : List Pr := ((posn w 0 t).map fun x => (x, x)).foldl stP []
theorem rowsAt_self {w : List Nat} (h : w ≠ []) : rowsAt w w = [(0, 0)] := by
  unfold rowsAt
  rw [posn_filter h, Nat.add_sub_cancel_left, show List.range 1 = [0] from rfl, List.filter_cons_of_pos (by rw [List.drop_zero, List.take_length]; exact decide_eq_true rfl)]
  rfl
theorem rows_at {bw bt : List Bl} (gw : Good bw) (hne : bw ≠ []) (gt : Good bt) : (rowsOf bw 0 bt).foldl stP [] = rowsAt (expand bw) (expand bt) := by
  match bw, gw, hne with
  | a :: r, gw, _ => exact (rows_eq gw bt 0 [] gt).symm
theorem all_bls {α : Type} (l : List α) : ∃ ns, isBls (l.map fun _ => D.bl true) = some ns ∧ ns.all id = true := by
  refine ⟨l.map fun _ => true, ?_, by simp⟩
  rw [show (l.map fun _ => D.bl true) = (l.map fun _ => true).map D.bl by rw [List.map_map]; rfl, map_isBls]
def RightOk (s : FD) (B : Nat) : Prop := ∀ n Q, B ≤ n → (∀ n', n' ≤ n → n ≤ n' + B → Q n' (.bl true)) → s [.pot] n Q
theorem isBls_rep (m : Nat) : ∃ ns, isBls (List.replicate m (D.bl true)) = some ns ∧ ns.all id = true := by
  have := all_bls (List.range m)
  rw [List.map_const', List.length_range] at this
  exact this
def s_law2 : FD := fun ds n P => ∃ ns : List Int, ds = [.scr ns] ∧ n = 1000000000 ∧ ∀ n', P n' (.bl true)
end LW
namespace LW
open PySem L2 Pd
def lawL (lim L : Int) (s_cells s_pot s_right : FD) : DS := (dSeq (dFor (iVal (dCall s_cells [] (dCons (dVar 0) (dCons (dC (.int lim)) dNil)))) (gNm 1) (dSeq (dSet 2 (dCall s_pot [] (dCons (dVar 0) (dCons (dVar 1) dNil))))
    (dIf (dNot (dTB (dBi gAll (dCons (dO (dComp (iRg1 (dC (.int L))) (gNm 3) dYes (dCall s_right [] (dCons (dVar 2) dNil)) [3])) dNil)))) (dRet (dC (.bl false))) dNx)))
    (dRet (dC (.bl true))))
theorem laps_all {s : FD} {B : Nat} (hs : RightOk s B) {a b e d : Sl} {P : Nat → Bool → Prop} : ∀ (xs : List D) (m n : Nat), xs.length * B ≤ n → (∀ n', n' ≤ n → n ≤ n' + xs.length * B → P n' true) →
    compW (gNm 3) dYes (dCall s [] (dCons (dVar 2) dNil)) [a, b, .val .pot, d] (fun n' ds => ∃ ns, isBls ds = some ns ∧ P n' (ns.all id)) xs (List.replicate m (.bl true)) n
  | [], m, n, _, q => by
    obtain ⟨ns, e1, e2⟩ := isBls_rep m
    exact ⟨ns, e1, by rw [e2]; exact q n (Nat.le_refl _) (by omega)⟩
  | x :: xs, m, n, hn, q => by
    rw [List.length_cons, Nat.succ_mul] at hn q
    simp only [compW, gNm, dYes, dCall, dCons, dVar, List.set_cons_succ, List.set_cons_zero, List.getElem?_cons_succ, List.getElem?_cons_zero, dNil, List.append_nil, forall_const, reduceCtorEq, false_implies, and_true]
    refine hs n _ (by omega) fun n' a b => ?_
    rw [show List.replicate m (D.bl true) ++ [D.bl true] = List.replicate (m + 1) (D.bl true) by rw [List.replicate_succ']]
    exact laps_all (e := e) hs xs (m + 1) n' (by omega) fun n'' g1 g2 => q n'' (by omega) (by omega)
theorem l_lawL {s : FD} {B lim L : Nat} (hs : RightOk s B) (h1 : 1 ≤ lim) (h8 : lim ≤ 8) (hL : L ≤ 100) (hB : B ≤ 1000000) : ∀ ds n Q, s_law2 ds n Q → dFn 4 1 (lawL lim L s_cells s_pot s) ds n Q := by
  rintro ds n Q ⟨ns, rfl, rfl, q⟩
  refine ⟨rfl, ?_⟩
  have hLB : L * B ≤ 100000000 := Nat.le_trans (Nat.mul_le_mul hL hB) (by decide)
  generalize hw : L * B = W at hLB
  simp only [lawL, dSeq, dFor, iVal, dCall, dCons, dVar, envOf, List.map_cons, List.map_nil, List.length_cons, List.length_nil, Nat.zero_add, Nat.reduceSub, List.replicate, List.cons_append, List.nil_append, List.getElem?_cons_zero, dC, dNil, List.append_nil]
  refine ⟨ns, lim, rfl, h1, h8, fun xs hx hk => ⟨xs, rfl, ?_⟩⟩
  refine for_ind (fun ys n' ε => ∃ s1 s2 s3 : Sl, ε = [.val (.scr ns), s1, s2, s3] ∧ (∀ x ∈ ys, ∃ k : Nat, x = .int k ∧ k < 8) ∧ n' ≤ 1000000000 ∧ ys.length * W ≤ n') ⟨.no, .no, .no, rfl, fun x hx => ?_, Nat.le_refl _, ?_⟩ ?_ ?_
  · obtain ⟨k, e, h⟩ := hk x hx
    exact ⟨k, e, by omega⟩
  · exact Nat.le_trans (Nat.mul_le_mul hx hLB) (Nat.le_trans (Nat.mul_le_mul_right _ h8) (by decide))
  · rintro n' ε ⟨s1, s2, s3, rfl, -, -, -⟩
    simp only [dRet, dC]
    exact q _
  · rintro x xs n' ε nxt ih ⟨s1, s2, s3, rfl, hk, g1, g2⟩
    obtain ⟨k, rfl, hk8⟩ := hk x (by simp)
    rw [List.length_cons, Nat.succ_mul] at g2
    simp only [gNm, dSeq, dSet, dCall, dCons, dVar, List.set_cons_succ, List.set_cons_zero, List.getElem?_cons_zero, List.getElem?_cons_succ, dNil, List.append_nil, dIf, dNot, dTB, dBi, dO, dRet, dC, dNx, ev_all]
    refine ⟨ns, k, rfl, hk8, g1, ?_⟩
    simp only [dComp, iRg1, dC, Int.toNat_natCast, wipeE, List.set_cons_succ, List.set_cons_zero]
    refine ⟨by omega, by omega, by rw [rngD_length]; omega, ?_⟩
    refine laps_all (e := .no) (P := fun n1 b => ((!b) = true → Q n1 (D.bl false)) ∧ ((!b) = false → nxt n1 [Sl.val (D.scr ns), Sl.val (D.int k), Sl.val D.pot, s3])) hs (rngD 0 _) 0 n' (by rw [rngD_length, hw]; omega) fun n'' a1 a2 => ?_
    rw [rngD_length, hw] at a2
    exact ⟨fun h => (by cases h), fun _ => ih _ _ ⟨_, _, _, rfl, fun x hx => hk x (List.mem_cons_of_mem _ hx), by omega, by omega⟩⟩
end LW
namespace LW
open PySem L2 Pd
theorem for_map {α : Type} (f : α → D) {dg : DG} {b : DS} {N : DN} (Inv : List α → List α → Nat → Ev → Prop) (l : List α) {n : Nat} {ε : Ev} (hi : Inv [] l n ε) (h0 : ∀ n ε, Inv l [] n ε → N.nx n ε)
    (hs : ∀ a x r n ε (nxt : Nat → Ev → Prop), l = a ++ x :: r → (∀ n' ε', Inv (a ++ [x]) r n' ε' → nxt n' ε') → Inv a (x :: r) n ε → dg (f x) ε fun ε' => b { N with nx := nxt, ct := nxt, bk := N.nx } n ε') : forW dg b N (l.map f) n ε := by
  refine for_ind (fun ys n' ε' => ∃ a r, l = a ++ r ∧ ys = r.map f ∧ Inv a r n' ε') ⟨[], l, rfl, rfl, hi⟩ ?_ ?_
  · rintro n' ε' ⟨a, r, e1, e2, i⟩
    have : r = [] := List.map_eq_nil_iff.mp e2.symm
    subst this
    rw [List.append_nil] at e1
    rw [← e1] at i
    exact h0 n' ε' i
  · rintro y ys n' ε' nxt ih ⟨a, r, e1, e2, i⟩
    match r, e2 with
    | x :: r, e2 =>
      rw [List.map_cons] at e2
      obtain ⟨rfl, rfl⟩ := List.cons.inj e2
      exact hs a x r n' ε' nxt e1 (fun n2 ε2 i2 => ih n2 ε2 ⟨a ++ [x], r, by rw [e1, List.append_assoc]; rfl, rfl, i2⟩) i
end LW
namespace LW
open PySem L2 Pd
def b_Word_starts_v2 (c : Str → Addr)  : DS := (dRet (dWk (dBi gTupF (dCons (dSlF (dFld (c "Word") "own_ends" (dVar 0)) pNo (pSome (dNeg (dC (.int 1))))) dNil))))
end LW
namespace LW
open PySem L2 Pd
theorem not_whole {xs : List D} (h : xs ≠ []) : ¬ (HT.sIx xs.length 0 none = 0 ∧ HT.sIx xs.length xs.length (some (-1)) = xs.length) := fun z => by
  have e := cut_whole (xs := xs) z
  rw [cut_last] at e
  have := congrArg List.length e
  rw [List.length_dropLast] at this
  have : 0 < xs.length := List.length_pos_iff.mpr h
  omega
def s_Word_starts2 (c : Str → Addr) : FD := fun ds n P => ∃ bs : List Bl, ds = [wordD c bs] ∧ (P n (.tup ((sts 0 bs).map intD)) ∨ P n (.tupF ((sts 0 bs).map intD)))
theorem l_Word_starts2 (c : Str → Addr) : ∀ ds n Q, s_Word_starts2 c ds n Q → dFn 1 1 (b_Word_starts_v2 c) ds n Q := by
  rintro ds n Q ⟨bs, rfl, q⟩
  refine ⟨rfl, ?_⟩
  simp only [b_Word_starts_v2, dRet, dWk, dBi, dCons, dSlF, dFld, dVar, envOf, wordD, fldsW, List.map_cons, List.map_nil, List.length_cons, List.length_nil, Nat.zero_add, Nat.reduceSub, List.replicate, List.append_nil, List.getElem?_cons_zero, pNo, pSome, dNeg, dC, dNil, gTupF, true_and]
  refine ⟨_, rfl, ?_⟩
  simp only [List.length_map, List.length_append, List.length_cons, List.length_nil, Nat.zero_add]
  rw [cut_last, List.map_append, List.map_cons, List.map_nil, List.dropLast_concat]
  have nw := not_whole (xs := List.map intD (sts 0 bs) ++ [intD (tot 0 bs)]) (by simp)
  simp only [List.length_append, List.length_map, List.length_singleton] at nw
  exact ⟨nw, q⟩
theorem l_Word_starts1 (c : Str → Addr) : ∀ ds n Q, s_Word_starts c ds n Q → dFn 1 1 (b_Word_starts_v2 c) ds n Q := fun ds n Q ⟨bs, h, q⟩ => l_Word_starts2 c ds n Q ⟨bs, h, .inl q⟩
end LW
namespace LW
open PySem L2 Pd
def rep (w : List Nat) (c k : Nat) : Prop := ∀ i, c - k ≤ i → i < c → i + k < w.length → w[i]? = w[i + k]?
instance (w : List Nat) (c k : Nat) : Decidable (rep w c k) :=
  decidable_of_iff (∀ i < c, c - k ≤ i → i + k < w.length → w[i]? = w[i + k]?) ⟨fun h i a b d => h i b a d, fun h i b a d => h i a b d⟩
theorem rep_size (w : List Nat) (c : Nat) : rep w c w.length := fun i _ _ h => by omega
def reps (w : List Nat) (c : Nat) : List Nat := (List.range' 1 w.length).filter fun k => decide (rep w c k)
def short (w : List Nat) (c : Nat) : Nat := (reps w c).headD 0
theorem mem_reps {w : List Nat} {c k : Nat} : k ∈ reps w c ↔ 1 ≤ k ∧ k ≤ w.length ∧ rep w c k := by
  unfold reps
  rw [List.mem_filter, List.mem_range'_1]
  simp only [decide_eq_true_eq]
  constructor
  · rintro ⟨⟨a, b⟩, c⟩; exact ⟨a, by omega, c⟩
  · rintro ⟨a, b, c⟩; exact ⟨⟨a, by omega⟩, c⟩
theorem reps_asc (w : List Nat) (c : Nat) : (reps w c).Pairwise (· < ·) := (asc_range _ _).filter _
theorem reps_cons {w : List Nat} (h : w ≠ []) (c : Nat) : ∃ t, reps w c = short w c :: t := by
  have : w.length ∈ reps w c := mem_reps.mpr ⟨List.length_pos_iff.mpr h, Nat.le_refl _, rep_size w c⟩
  unfold short
  cases e : reps w c with
  | nil => rw [e] at this; cases this
  | cons x t => exact ⟨t, rfl⟩
theorem short_le {w : List Nat} {c k : Nat} (h : k ∈ reps w c) : short w c ≤ k := by
  have hne : w ≠ [] := fun e => by subst e; cases h
  obtain ⟨t, e⟩ := reps_cons hne c
  have a := reps_asc w c
  rw [e] at h a
  rw [List.pairwise_cons] at a
  rcases List.mem_cons.mp h with z | z
  · omega
  · have := a.1 k z
    omega
end LW
namespace LW
open PySem L2 Pd
theorem rngD0 (n : Nat) : rngD 0 n = (List.range n).map intD := by
  have := rngD_eq n 0
  rw [List.range_eq_range']
  exact this
def srD (c s : Nat) (b : Bool) : D := .tup [.int c, .int s, .bl b]
end LW
namespace LW
open PySem L2 Pd
def fw (w t : List Nat) (p i : Nat) : Nat := ((List.range' i (w.length - i)).find? fun j => decide (w[j]? ≠ t[p + j]?)).getD w.length
def lw (w t : List Nat) (p kn c : Nat) : Option Nat := (List.range' kn (c - kn)).reverse.find? fun j => decide (w[j]? ≠ t[p + j]?)
structure PS where
  pl : Nat
  kn : Nat
  fd : List Nat
  lk : Nat
def stp (w t : List Nat) (c s : Nat) (kp : Bool) (st : PS) : PS :=
  let a := max c st.kn
  let wr := fw w t st.pl a
  if wr < w.length then ⟨st.pl + wr - c + 1, 0, st.fd, st.lk + (wr + 1 - a)⟩
  else match lw w t st.pl st.kn c with
    | none => ⟨st.pl + s, if kp then w.length - s else 0, st.fd ++ [st.pl], st.lk + (w.length - a) + (c - st.kn)⟩
    | some j => ⟨st.pl + s, if kp then w.length - s else 0, st.fd, st.lk + (w.length - a) + (c - j)⟩
def goP (w t : List Nat) (c s : Nat) (kp : Bool) : Nat → PS → PS
  | 0, st => st
  | f + 1, st => if st.pl + w.length ≤ t.length then goP w t c s kp f (stp w t c s kp st) else st
def ps0 : PS := ⟨0, 0, [], 0⟩
theorem range'_split (lo p n : Nat) (h1 : lo ≤ p) (h2 : p ≤ lo + n) : List.range' lo n = List.range' lo (p - lo) ++ List.range' p (lo + n - p) := by
  have := List.range'_append (s := lo) (m := p - lo) (n := lo + n - p) (step := 1)
  rw [Nat.one_mul, show lo + (p - lo) = p by omega, show (p - lo) + (lo + n - p) = n by omega] at this
  exact this.symm
theorem fw_all {w t : List Nat} {p i : Nat} (h : ∀ j, i ≤ j → j < w.length → w[j]? = t[p + j]?) : fw w t p i = w.length := by
  unfold fw
  rw [List.find?_eq_none.mpr]
  · rfl
  · intro j hj
    rw [List.mem_range'_1] at hj
    simpa using h j hj.1 (by omega)
theorem fw_spec {w t : List Nat} {p i : Nat} (hi : i ≤ w.length) : (fw w t p i = w.length ∧ ∀ j, i ≤ j → j < w.length → w[j]? = t[p + j]?) ∨ (i ≤ fw w t p i ∧ fw w t p i < w.length ∧ w[fw w t p i]? ≠ t[p + fw w t p i]? ∧ ∀ j, i ≤ j → j < fw w t p i → w[j]? = t[p + j]?) := by
  cases e : (List.range' i (w.length - i)).find? fun j => decide (w[j]? ≠ t[p + j]?) with
  | none =>
    rw [List.find?_eq_none] at e
    have h : ∀ j, i ≤ j → j < w.length → w[j]? = t[p + j]? := fun j a b => by
      have := e j (by rw [List.mem_range'_1]; omega)
      simpa using this
    exact .inl ⟨fw_all h, h⟩
  | some m =>
    have h1 := List.mem_of_find?_eq_some e
    have h2 := List.find?_some e
    rw [List.mem_range'_1] at h1
    have ef : fw w t p i = m := by
      unfold fw
      rw [e]
      rfl
    rw [ef]
    refine .inr ⟨h1.1, by omega, by simpa using h2, fun j a b => ?_⟩
    rw [List.find?_range'_eq_some] at e
    have := e.2.2 j a b
    simpa using this
theorem fw_le {w t : List Nat} {p i : Nat} (hi : i ≤ w.length) : i ≤ fw w t p i ∧ fw w t p i ≤ w.length := by
  rcases fw_spec (w := w) (t := t) (p := p) hi with h | h
  · rw [h.1]; exact ⟨hi, Nat.le_refl _⟩
  · exact ⟨h.1, Nat.le_of_lt h.2.1⟩
theorem lw_none {w t : List Nat} {p kn c : Nat} : lw w t p kn c = none ↔ ∀ j, kn ≤ j → j < c → w[j]? = t[p + j]? := by
  unfold lw
  rw [List.find?_eq_none]
  constructor
  · intro h j a b
    have := h j (by rw [List.mem_reverse, List.mem_range'_1]; omega)
    simpa using this
  · intro h j hj
    rw [List.mem_reverse, List.mem_range'_1] at hj
    simpa using h j hj.1 (by omega)
theorem lw_some {w t : List Nat} {p kn c j : Nat} (h : lw w t p kn c = some j) : kn ≤ j ∧ j < c ∧ w[j]? ≠ t[p + j]? := by
  unfold lw at h
  have h1 := List.mem_of_find?_eq_some h
  have h2 := List.find?_some h
  rw [List.mem_reverse, List.mem_range'_1] at h1
  exact ⟨h1.1, by omega, by simpa using h2⟩
theorem stp_pl {w t : List Nat} {c s : Nat} {kp : Bool} {st : PS} (hc : c < w.length) (hs : 1 ≤ s) (hk : st.kn < w.length) : st.pl + 1 ≤ (stp w t c s kp st).pl := by
  unfold stp
  have := fw_le (w := w) (t := t) (p := st.pl) (i := max c st.kn) (by omega)
  dsimp only
  split
  · dsimp only; omega
  · split
    · dsimp only; omega
    · dsimp only; omega
theorem stp_kn {w t : List Nat} {c s : Nat} {kp : Bool} {st : PS} (hw : 0 < w.length) (hs : 1 ≤ s) : (stp w t c s kp st).kn < w.length := by
  unfold stp
  dsimp only
  split
  · exact hw
  · split
    · dsimp only; split <;> omega
    · dsimp only; split <;> omega
theorem stp_lk {w t : List Nat} {c s : Nat} {kp : Bool} {st : PS} : (stp w t c s kp st).lk ≤ st.lk + 2 * w.length + c + 1 := by
  unfold stp
  dsimp only
  split
  · dsimp only; omega
  · split
    · dsimp only; omega
    · dsimp only; omega
theorem stp_fd {w t : List Nat} {c s : Nat} {kp : Bool} {st : PS} : (stp w t c s kp st).fd.length ≤ st.fd.length + 1 := by
  unfold stp
  dsimp only
  split
  · dsimp only; omega
  · split
    · simp
    · dsimp only; omega
theorem stp_hit {w t : List Nat} {c s : Nat} {kp : Bool} {st : PS} (h : fw w t st.pl (max c st.kn) < w.length) : stp w t c s kp st = ⟨st.pl + fw w t st.pl (max c st.kn) - c + 1, 0, st.fd, st.lk + (fw w t st.pl (max c st.kn) + 1 - max c st.kn)⟩ := by
  unfold stp
  dsimp only
  rw [if_pos h]
theorem stp_full {w t : List Nat} {c s : Nat} {kp : Bool} {st : PS} (h : ¬ fw w t st.pl (max c st.kn) < w.length) (hl : lw w t st.pl st.kn c = none) : stp w t c s kp st = ⟨st.pl + s, if kp then w.length - s else 0, st.fd ++ [st.pl], st.lk + (w.length - max c st.kn) + (c - st.kn)⟩ := by
  unfold stp
  dsimp only
  rw [if_neg h, hl]
theorem stp_part {w t : List Nat} {c s : Nat} {kp : Bool} {st : PS} {j : Nat} (h : ¬ fw w t st.pl (max c st.kn) < w.length) (hl : lw w t st.pl st.kn c = some j) : stp w t c s kp st = ⟨st.pl + s, if kp then w.length - s else 0, st.fd, st.lk + (w.length - max c st.kn) + (c - j)⟩ := by
  unfold stp
  dsimp only
  rw [if_neg h, hl]
def s_is_integer : FD := fun ds n P => (∃ (v lo hi : Int), ds = [.int v, .int lo, .int hi] ∧ P n (.bl (decide (lo ≤ v ∧ v ≤ hi)))) ∨ (∃ (v lo : Int), ds = [.int v, .int lo, .non] ∧ P n (.bl (decide (lo ≤ v))))
theorem l_is_integer (c : Str → Addr) : ∀ ds n Q, s_is_integer ds n Q → dFn 3 3 (b_is_integer c) ds n Q := by
  rintro ds n Q (⟨v, lo, hi, rfl, q⟩ | ⟨v, lo, rfl, q⟩)
  · refine ⟨rfl, ?_⟩
    simp only [b_is_integer, dSeq, dIf, dOr, dNot, dTB, dIsi, dVar, envOf, List.map_cons, List.map_nil, List.length_cons, List.length_nil, Nat.zero_add, Nat.reduceAdd, Nat.reduceSub, List.replicate, List.append_nil, List.getElem?_cons_zero, isT, Option.some.injEq, dRet, dC, forall_const, reduceCtorEq, dNx, dAndV, dOp, List.getElem?_cons_succ, gLe, dOrV, gIs, Pd.isNon, false_implies, ev_gI, TC, true_and, decide_eq_true_eq, decide_eq_false_iff_not, and_true, exists_eq_left']
    refine ⟨fun h => by simp at h, fun _ => ⟨fun h => by simp at h, fun _ => ⟨fun h => ?_, fun h => ?_⟩⟩⟩
    · rw [show decide (lo ≤ v ∧ v ≤ hi) = decide (v ≤ hi) by simp [h]] at q
      exact q
    · rw [show decide (lo ≤ v ∧ v ≤ hi) = false by simp [h]] at q
      exact q
  · refine ⟨rfl, ?_⟩
    simp only [b_is_integer, dSeq, dIf, dOr, dNot, dTB, dIsi, dVar, envOf, List.map_cons, List.map_nil, List.length_cons, List.length_nil, Nat.zero_add, Nat.reduceAdd, Nat.reduceSub, List.replicate, List.append_nil, List.getElem?_cons_zero, isT, Option.some.injEq, dRet, dC, forall_const, reduceCtorEq, dNx, dAndV, dOp, List.getElem?_cons_succ, gLe, dOrV, gIs, Pd.isNon, false_implies, and_true, ev_gI, TC, decide_eq_true_eq, decide_eq_false_iff_not, true_and, exists_eq_left']
    refine ⟨fun h => by simp at h, fun _ => ⟨fun h => by simp at h, fun _ => ⟨fun h => ?_, fun h => ?_⟩⟩⟩
    · rw [decide_eq_true h] at q
      exact q
    · rw [decide_eq_false h] at q
      exact q
end LW
namespace LW
open PySem L2 Pd
def natsD (l : List Nat) : D := .tup (l.map intD)
end LW
namespace LW
open PySem L2 Pd
def b_made (c : Str → Addr) (s_text_of : FD) (i_Word : FI) : DS := (dSeq (dIf (dTB (dOp gGt (dBi gLen (dCons (dVar 0) dNil)) (dC (.int 40)))) dNev dNx)
    (dSeq (dIf (dTB (dBi gAny (dCons (dO (dComp (iVal (dVar 0)) (gTp 2 (gsCons (gNm 1) (gsCons (gNm 2) gsNil))) dYes (dOp gGe (dVar 2) (dC (.int 1000000000000000000000000000000))) [1, 2])) dNil))) dNev dNx)
    (dRet (dMake (c "Word") i_Word [] (dCons (dCall s_text_of [] (dCons (dVar 0) dNil)) dNil)))))
def b_Word_part (c : Str → Addr) (s_is_integer : FD) (s_Word_size : FD) (s_made : FD) : DS := (dSeq (dIf (dOr (dNot (dTB (dCall s_is_integer [.non] (dCons (dVar 1) (dCons (dC (.int 0)) dNil))))) (dNot (dTB (dCall s_is_integer [] (dCons (dVar 2) (dCons (dOp gAdd (dVar 1) (dC (.int 1))) (dCons (dProp (c "Word") s_Word_size (dVar 0)) dNil))))))) dNev dNx)
    (dSeq (dSetO 3 (dLstO dNil))
    (dSeq (dFor (iZp3 (dFld (c "Word") "own_blocks" (dVar 0)) (dFld (c "Word") "own_ends" (dVar 0)) (dSl (dFld (c "Word") "own_ends" (dVar 0)) (pSome (dC (.int 1))) pNo)) (gTp 3 (gsCons (gTp 2 (gsCons (gNm 4) (gsCons (gNm 5) gsNil))) (gsCons (gNm 6) (gsCons (gNm 7) gsNil)))) (dIf (dAnd (dTB (dOp gLt (dVar 6) (dVar 2))) (dTB (dOp gLt (dVar 1) (dVar 7)))) (dApp 3 (dTup (dCons (dVar 4) (dCons (dOp gSub (dBi gMin (dCons (dVar 7) (dCons (dVar 2) dNil))) (dBi gMax (dCons (dVar 6) (dCons (dVar 1) dNil)))) dNil)))) dNx))
    (dFrz [3] (dRet (dCall s_made [] (dCons (dVar 3) dNil)))))))
def b_Word_text (c : Str → Addr)  : DS := (dRet (dFld (c "Word") "own_text" (dVar 0)))
end LW
namespace LW
open PySem L2 Pd
def s_made (c : Str → Addr) : FD := fun ds n P => ∃ (x : D) (bs : List Bl), ds = [x] ∧ (x = .lst (bs.map blkD) ∨ x = .tup (bs.map blkD)) ∧ Told bs ∧ P n (wordD c bs)
theorem l_made (c : Str → Addr) : ∀ ds n Q, s_made c ds n Q → dFn 3 1 (b_made c s_text_of i_word) ds n Q := by
  rintro ds n Q ⟨x, bs, rfl, hx, T, q⟩
  refine ⟨rfl, ?_⟩
  have hl := T.2.1
  have hsrc : srcD x = some (bs.map blkD) := by rcases hx with rfl | rfl <;> rfl
  have hlen : ∀ P : D → Prop, P (.int (bs.length : Nat)) → gLen [x] P := fun P h => by
    rcases hx with rfl | rfl
    · rw [ev_lenl, List.length_map]; exact h
    · rw [ev_lent, List.length_map]; exact h
  simp only [b_made, dSeq, dIf, dTB, dOp, dBi, dCons, dVar, envOf, List.map_cons, List.map_nil, List.length_cons, List.length_nil, Nat.zero_add, Nat.reduceSub, List.replicate, List.cons_append, List.nil_append, List.getElem?_cons_zero, dNil, dC, gGt, dNev, dNx, dO, dComp, iVal, gGe, wipeE, List.set_cons_succ, List.set_cons_zero, dRet, dMake, dCall, List.append_nil, ev_any]
  refine hlen _ ?_
  simp only [ev_gI, TC, decide_eq_true_eq, decide_eq_false_iff_not, true_and]
  refine ⟨fun h => by omega, fun _ => ?_⟩
  simp only [hsrc, Option.some.injEq, exists_eq_left', List.length_map]
  refine ⟨by omega, compW_map blkD (fun b => .bl false) _ _ _ (fun b hb m K K' hK => ?_) ?_⟩
  · have := (T.2.2.1 b hb).1
    simp only [gTp, blkD, List.length_cons, List.length_nil, Nat.zero_add, Nat.reduceAdd, gsCons, gNm, gsNil, dYes, dOp, dVar, List.set_cons_succ, List.set_cons_zero, List.getElem?_cons_succ, List.getElem?_cons_zero, dC, ev_gI, TC, true_and, forall_const, reduceCtorEq, false_implies, and_true]
    rw [decide_eq_false (by omega)]
    exact hK
  · rw [List.nil_append]
    refine ⟨bs.map fun _ => false, by rw [show (bs.map fun _ => D.bl false) = (bs.map fun _ => false).map D.bl by rw [List.map_map]; rfl, map_isBls], ?_⟩
    rw [show (bs.map fun _ => false).any id = false by rw [List.any_map]; simp]
    refine ⟨fun h => (by cases h), fun _ => ?_⟩
    refine ⟨x, bs, rfl, hsrc, by omega, fun b hb => Nat.lt_trans (T.2.2.1 b hb).1 (by decide), ?_⟩
    exact ⟨bs, rfl, T, q⟩
end LW
namespace LW
open PySem L2 Pd
def b__law_great_blocks (c : Str → Addr) (s__law_take : FD) (s__law_of : FD) : DS := (dSeq (dMul [3, 4] (bCons (dOp gAdd (dVar 1) (dCall s__law_take [] (dCons (dVar 0) (dCons (dOp gAdd (dOp gSub (dVar 2) (dVar 1)) (dC (.int 1))) dNil)))) (bOwn (dLstO dNil) bNil)))
    (dSeq (dMul [5, 6] (bCons (dCall s__law_of [] (dCons (dVar 0) (dCons (dLst (dCons (dC (.int 1)) (dCons (dC (.int 7)) (dCons (dOp gPow (dC (.int 10)) (dC (.int 9))) (dCons (dOp gPow (dC (.int 10)) (dC (.int 29))) (dCons (dOp gMul (dC (.int 3)) (dOp gPow (dC (.int 10)) (dC (.int 29)))) dNil)))))) dNil))) (bCons (dCall s__law_of [] (dCons (dVar 0) (dCons (dLst (dCons (dC (.str [97, 98, 99])) (dCons (dC (.str [97, 98, 99])) (dCons (dC (.str [97, 98, 99, 120, 121])) dNil)))) dNil))) bNil)))
    (dSeq (dFor (iRg1 (dVar 3)) (gNm 7) (dSeq (dSet 8 (dCall s__law_of [] (dCons (dVar 0) (dCons (dO (dComp (iVal (dVar 6)) (gNm 9) (dOr (dTmpT 4 (dTB (dOp gEq (dVar 4) (dLst dNil)))) (dTB (dOp gNe (dVar 9) (dOp gIx (dIxO 4 (dNeg (dC (.int 1)))) (dC (.int 0)))))) (dVar 9) [9])) dNil))))
    (dApp 4 (dTup (dCons (dVar 8) (dCons (dBi gMax (dCons (dC (.int 1)) (dCons (dCall s__law_of [] (dCons (dVar 0) (dCons (dLst (dCons (dC (.int 1)) (dCons (dC (.int 2)) (dCons (dVar 5) (dCons (dVar 5) (dCons (dOp gAdd (dVar 5) (dC (.int 1))) (dCons (dOp gSub (dVar 5) (dC (.int 1))) (dCons (dOp gMul (dC (.int 2)) (dVar 5)) dNil)))))))) dNil))) dNil))) dNil))))))
    (dFrz [4] (dRet (dVar 4))))))
end LW
namespace LW
open PySem L2 Pd
theorem at_last (xs : List D) (x : D) : atI (xs ++ [x]) (-1) = some x := by
  unfold atI ixN
  simp only [List.length_append, List.length_cons, List.length_nil]
  rw [if_neg (by omega), if_pos (by omega)]
  simp only [Option.bind_some, Option.bind]
  rw [show (-1 + ((xs.length + 1 : Nat) : Int)).toNat = xs.length by omega]
  simp
end LW
namespace LW
open PySem L2 Pd
def goes (w : List Nat) (c k : Nat) : Prop := ∀ i, max c k ≤ i → i < w.length → w[i]? = w[i - k]?
instance (w : List Nat) (c k : Nat) : Decidable (goes w c k) :=
  decidable_of_iff (∀ i < w.length, max c k ≤ i → w[i]? = w[i - k]?) ⟨fun h i a b => h i b a, fun h i b a => h i a b⟩
def stepOf (w : List Nat) (c : Nat) : Nat := if ∀ k, k ∈ reps w c → c + k < w.length → goes w c k then short w c else 0
def isRight (w : List Nat) (c s : Nat) (kp : Bool) : Prop := s ≤ stepOf w c ∧ (kp = false ∨ s = w.length ∨ (c ≤ s ∧ per w s))
instance (w : List Nat) (c s : Nat) (kp : Bool) : Decidable (isRight w c s kp) := by unfold isRight; exact inferInstance
def standsAt (w t : List Nat) (p : Nat) : Prop := (t.drop p).take w.length = w
instance (w t : List Nat) (p : Nat) : Decidable (standsAt w t p) := by unfold standsAt; exact inferInstance
theorem standsAt_iff {w t : List Nat} {p : Nat} (h : p + w.length ≤ t.length) : standsAt w t p ↔ ∀ i, i < w.length → w[i]? = t[p + i]? := by
  unfold standsAt
  constructor
  · intro e i hi
    have := congrArg (fun l => l[i]?) e
    simp only [List.getElem?_take, List.getElem?_drop] at this
    rw [if_pos hi] at this
    exact this.symm
  · intro h'
    apply List.ext_getElem?
    intro i
    rw [List.getElem?_take, List.getElem?_drop]
    split
    · rename_i hi
      exact (h' i hi).symm
    · rw [List.getElem?_eq_none (by omega)]
end LW
namespace LW
open PySem L2 Pd
theorem mem_posn {w t : List Nat} {p : Nat} (hw : w ≠ []) : p ∈ posn w 0 t ↔ p + w.length ≤ t.length ∧ standsAt w t p := by
  have h0 : 0 < w.length := List.length_pos_iff.mpr hw
  rw [posn_filter hw, List.mem_map]
  constructor
  · rintro ⟨i, hi, rfl⟩
    obtain ⟨a, b⟩ := List.mem_filter.mp hi
    rw [List.mem_range] at a
    exact ⟨by omega, of_decide_eq_true b⟩
  · rintro ⟨a, b⟩
    exact ⟨p, List.mem_filter.mpr ⟨List.mem_range.mpr (by omega), decide_eq_true b⟩, rfl⟩
end LW
namespace LW
open PySem L2 Pd
def goodP (w t : List Nat) (p : Nat) : Prop := p + w.length ≤ t.length ∧ standsAt w t p
instance (w t : List Nat) (p : Nat) : Decidable (goodP w t p) := by unfold goodP; exact inferInstance
def upTo (w t : List Nat) (p : Nat) : List Nat := (List.range p).filter fun q => decide (goodP w t q)
theorem upTo_next {w t : List Nat} {p p' : Nat} (h : p < p') (hn : ∀ q, p < q → q < p' → ¬ goodP w t q) : upTo w t p' = upTo w t p ++ if goodP w t p then [p] else [] := by
  unfold upTo
  rw [List.range_eq_range', List.range_eq_range', range'_split 0 p p' (by omega) (by omega), List.filter_append, Nat.sub_zero, show 0 + p' - p = (p' - p - 1) + 1 by omega, List.range'_succ, List.filter_cons]
  have e : (List.range' (p + 1) (p' - p - 1)).filter (fun q => decide (goodP w t q)) = [] := by
    rw [List.filter_eq_nil_iff]
    intro q hq
    rw [List.mem_range'_1] at hq
    simpa using hn q (by omega) (by omega)
  rw [e]
  by_cases g : goodP w t p
  · simp [g]
  · simp [g]
theorem goodP_iff {w t : List Nat} {p : Nat} : goodP w t p ↔ p + w.length ≤ t.length ∧ ∀ i, i < w.length → w[i]? = t[p + i]? := by
  unfold goodP
  constructor
  · rintro ⟨a, b⟩
    exact ⟨a, (standsAt_iff a).mp b⟩
  · rintro ⟨a, b⟩
    exact ⟨a, (standsAt_iff a).mpr b⟩
def KnOk (w t : List Nat) (st : PS) : Prop := ∀ j, j < st.kn → w[j]? = t[st.pl + j]?
theorem step_right {w t : List Nat} {c s : Nat} {kp : Bool} {st : PS} (hc : c < w.length) (h1 : 1 ≤ s) (h2 : s ≤ w.length) (hr : isRight w c s kp) (hk : st.kn < w.length) (hkn : KnOk w t st) (hl : st.pl + w.length ≤ t.length) (hf : st.fd = upTo w t st.pl) :
    KnOk w t (stp w t c s kp st) ∧ (stp w t c s kp st).fd = upTo w t (stp w t c s kp st).pl := by
  have hgo : ∀ d, 1 ≤ d → d ≤ w.length → rep w c d → s ≤ d ∧ (c + d < w.length → goes w c d) := fun d d1 d2 hd => by
    have hm : d ∈ reps w c := mem_reps.mpr ⟨d1, d2, hd⟩
    have h := hr.1
    unfold stepOf at h
    split at h
    · rename_i hg
      exact ⟨Nat.le_trans h (short_le hm), hg d hm⟩
    · omega
  have shift : ∀ d m, 1 ≤ d → (∀ j, c ≤ j → j < m → w[j]? = t[st.pl + j]?) → m ≤ w.length → goodP w t (st.pl + d) → ∀ j, max c d ≤ j → j < m → w[j]? = w[j - d]? := fun d m d1 ha hm hg j a b => by
    have := (goodP_iff.mp hg).2 (j - d) (by omega)
    rw [show st.pl + d + (j - d) = st.pl + j by omega] at this
    rw [ha j (by omega) b, this]
  have rp : ∀ d m, 1 ≤ d → (∀ j, max c d ≤ j → j < m → w[j]? = w[j - d]?) → (c + d ≤ m ∨ m = w.length) → m ≤ w.length → rep w c d := fun d m d1 h hcm hm i a b e => by
    have := h (i + d) (by omega) (by omega)
    rw [Nat.add_sub_cancel] at this
    exact this.symm
  rcases fw_spec (w := w) (t := t) (p := st.pl) (i := max c st.kn) (by omega) with ⟨f1, f2⟩ | ⟨f1, f2, f3, f4⟩
  · have hall : ∀ j, c ≤ j → j < w.length → w[j]? = t[st.pl + j]? := fun j a b => by
      rcases Nat.lt_or_ge j st.kn with z | z
      · exact hkn j z
      · exact f2 j (by omega) b
    have hno : ∀ q, st.pl < q → q < st.pl + s → ¬ goodP w t q := fun q a b hg => by
      obtain ⟨d, rfl⟩ : ∃ d, q = st.pl + d := ⟨q - st.pl, by omega⟩
      have hs := shift d w.length (by omega) hall (Nat.le_refl _) hg
      have := (hgo d (by omega) (by omega) (rp d w.length (by omega) hs (.inr rfl) (Nat.le_refl _))).1
      omega
    have hkn' : ∀ (fd : List Nat) (lk : Nat), KnOk w t ⟨st.pl + s, if kp then w.length - s else 0, fd, lk⟩ := fun fd lk j hj => by
      have hj : j < (if kp then w.length - s else 0) := hj
      show w[j]? = t[st.pl + s + j]?
      cases kp with
      | false => exact absurd hj (Nat.not_lt_zero _)
      | true =>
        have hj : j < w.length - s := hj
        rcases hr.2 with z | z | z
        · cases z
        · omega
        · have e1 := (per_iff.mp z.2) j hj
          have e2 := hall (j + s) (by omega) (by omega)
          rw [e1, e2]
          congr 1
          omega
    cases hlw : lw w t st.pl st.kn c with
    | none =>
      rw [stp_full (by omega) hlw]
      refine ⟨hkn' _ _, ?_⟩
      have hl2 := lw_none.mp hlw
      have hg : goodP w t st.pl := goodP_iff.mpr ⟨hl, fun i hi => by
        rcases Nat.lt_or_ge i c with z | z
        · rcases Nat.lt_or_ge i st.kn with z2 | z2
          · exact hkn i z2
          · exact hl2 i z2 z
        · exact hall i z hi⟩
      show st.fd ++ [st.pl] = upTo w t (st.pl + s)
      rw [upTo_next (by omega) hno, if_pos hg, hf]
    | some j =>
      rw [stp_part (by omega) hlw]
      refine ⟨hkn' _ _, ?_⟩
      have hl2 := lw_some hlw
      have hg : ¬ goodP w t st.pl := fun z => hl2.2.2 ((goodP_iff.mp z).2 j (by omega))
      show st.fd = upTo w t (st.pl + s)
      rw [upTo_next (by omega) hno, if_neg hg, hf, List.append_nil]
  · rw [stp_hit f2]
    generalize fw w t st.pl (max c st.kn) = m at *
    refine ⟨fun j hj => absurd hj (Nat.not_lt_zero _), ?_⟩
    have hall : ∀ j, c ≤ j → j < m → w[j]? = t[st.pl + j]? := fun j a b => by
      rcases Nat.lt_or_ge j st.kn with z | z
      · exact hkn j z
      · exact f4 j (by omega) b
    have hno : ∀ q, st.pl < q → q < st.pl + m - c + 1 → ¬ goodP w t q := fun q a b hg => by
      obtain ⟨d, rfl⟩ : ∃ d, q = st.pl + d := ⟨q - st.pl, by omega⟩
      have hs := shift d m (by omega) hall (by omega) hg
      have hrep := rp d m (by omega) hs (.inl (by omega)) (by omega)
      have hgs := (hgo d (by omega) (by omega) hrep).2 (by omega)
      have e1 := hgs m (by omega) f2
      have e2 := (goodP_iff.mp hg).2 (m - d) (by omega)
      rw [show st.pl + d + (m - d) = st.pl + m by omega] at e2
      exact f3 (e1.trans e2)
    have hg : ¬ goodP w t st.pl := fun z => f3 ((goodP_iff.mp z).2 m f2)
    show st.fd = upTo w t (st.pl + m - c + 1)
    rw [upTo_next (by omega) hno, if_neg hg, hf, List.append_nil]
end LW
namespace LW
open PySem L2 Pd
theorem find_congr {α : Type} {p q : α → Bool} : ∀ {l : List α}, (∀ x ∈ l, p x = q x) → l.find? p = l.find? q
  | [], _ => rfl
  | x :: l, h => by
    rw [List.find?_cons, List.find?_cons, h x List.mem_cons_self, find_congr fun y hy => h y (List.mem_cons_of_mem _ hy)]
theorem fw_app {w t u : List Nat} {p i : Nat} (h : p + w.length ≤ t.length) : fw w (t ++ u) p i = fw w t p i := by
  unfold fw
  rw [find_congr fun j hj => ?_]
  obtain ⟨h1, h2⟩ := List.mem_range'_1.mp hj
  rw [List.getElem?_append_left (by omega)]
theorem lw_app {w t u : List Nat} {p kn c : Nat} (h : p + c ≤ t.length) : lw w (t ++ u) p kn c = lw w t p kn c := by
  unfold lw
  rw [find_congr fun j hj => ?_]
  obtain ⟨h1, h2⟩ := List.mem_range'_1.mp (List.mem_reverse.mp hj)
  rw [List.getElem?_append_left (by omega)]
theorem stp_app {w t u : List Nat} {c s : Nat} {kp : Bool} {st : PS} (hc : c < w.length) (h : st.pl + w.length ≤ t.length) : stp w (t ++ u) c s kp st = stp w t c s kp st := by
  unfold stp
  dsimp only
  rw [fw_app h, lw_app (by omega)]
theorem goP_kn {w t : List Nat} {c s : Nat} {kp : Bool} (hw : 0 < w.length) (hs : 1 ≤ s) : ∀ (f : Nat) (st : PS), st.kn < w.length → (goP w t c s kp f st).kn < w.length
  | 0, st, h => h
  | f + 1, st, h => by
    rw [goP]
    split
    · exact goP_kn hw hs f _ (stp_kn hw hs)
    · exact h
theorem goP_fdp {w t : List Nat} {c s : Nat} {kp : Bool} (hc : c < w.length) (hs : 1 ≤ s) (h2 : s ≤ w.length) : ∀ (f : Nat) (st : PS), st.kn < w.length → st.fd.length ≤ st.pl → st.pl ≤ t.length → (goP w t c s kp f st).fd.length ≤ (goP w t c s kp f st).pl ∧ (goP w t c s kp f st).pl ≤ t.length
  | 0, st, _, h, h' => ⟨h, h'⟩
  | f + 1, st, hk, h, h' => by
    rw [goP]
    split
    · rename_i hl
      have a1 := stp_pl (w := w) (t := t) (c := c) (s := s) (kp := kp) (st := st) hc hs hk
      have a2 := stp_fd (w := w) (t := t) (c := c) (s := s) (kp := kp) (st := st)
      refine goP_fdp hc hs h2 f _ (stp_kn (by omega) hs) (by omega) ?_
      have hf := fw_le (w := w) (t := t) (p := st.pl) (i := max c st.kn) (by omega)
      unfold stp
      dsimp only
      split
      · dsimp only; omega
      · split
        · dsimp only; omega
        · dsimp only; omega
    · exact ⟨h, h'⟩
theorem goP_lk {w t : List Nat} {c s : Nat} {kp : Bool} : ∀ (f : Nat) (st : PS), (goP w t c s kp f st).lk ≤ st.lk + f * (2 * w.length + c + 1)
  | 0, st => by rw [goP]; omega
  | f + 1, st => by
    rw [goP]
    split
    · have a := goP_lk (w := w) (t := t) (c := c) (s := s) (kp := kp) f (stp w t c s kp st)
      have b := stp_lk (w := w) (t := t) (c := c) (s := s) (kp := kp) (st := st)
      rw [Nat.succ_mul]
      omega
    · omega
def stT (st : PS) : D := .tup [natsD st.fd, .int (st.pl : Nat), .int (st.kn : Nat), .int (st.lk : Nat)]
def momF (d s : D) (t : List Nat) (x : D) : List (Str × D) := [("deed_then", d), ("search_then", s), ("text_then", .str t), ("state_then", x)]
def momD (c : Str → Addr) (d s : D) (t : List Nat) (x : D) : D := .obj (c "Moment") (momF d s t x)
def finF (c : Str → Addr) (bs : List Bl) (past : List D) (later : D) : List (Str × D) := [("own_word", wordD c bs), ("own_letters", .str (expand bs)), ("own_past", .tup past), ("own_later", later), ("own_block", .non)]
theorem put_ne {f g : Str} {v x : D} {r : List (Str × D)} (h : g ≠ f) : putFD f v ((g, x) :: r) = (g, x) :: putFD f v r := by
  show (if g = f then (g, v) :: r else (g, x) :: putFD f v r) = _
  rw [if_neg h]
theorem put_at {f : Str} {v x : D} {r : List (Str × D)} : putFD f v ((f, x) :: r) = (f, v) :: r := by
  show (if f = f then (f, v) :: r else (f, x) :: putFD f v r) = _
  rw [if_pos rfl]
section
variable {a b d e x v : D} {c : Str → Addr} {bs : List Bl} {p : List D} {t : List Nat}
theorem pm1 : putFD "deed_then" a ([] : List (Str × D)) = ([("deed_then", a)] : List (Str × D)) := rfl
theorem pm2 : putFD "search_then" b ([("deed_then", a)] : List (Str × D)) = ([("deed_then", a), ("search_then", b)] : List (Str × D)) := by rw [put_ne (by decide)]; rfl
theorem pm3 : putFD "text_then" d ([("deed_then", a), ("search_then", b)] : List (Str × D)) = ([("deed_then", a), ("search_then", b), ("text_then", d)] : List (Str × D)) := by rw [put_ne (by decide), put_ne (by decide)]; rfl
theorem pm4 : putFD "state_then" e ([("deed_then", a), ("search_then", b), ("text_then", d)] : List (Str × D)) = ([("deed_then", a), ("search_then", b), ("text_then", d), ("state_then", e)] : List (Str × D)) := by rw [put_ne (by decide), put_ne (by decide), put_ne (by decide)]; rfl
theorem pi1 : putFD "own_word" a ([] : List (Str × D)) = ([("own_word", a)] : List (Str × D)) := rfl
theorem pi2 : putFD "own_letters" b ([("own_word", a)] : List (Str × D)) = ([("own_word", a), ("own_letters", b)] : List (Str × D)) := by rw [put_ne (by decide)]; rfl
theorem pi3 : putFD "own_past" d ([("own_word", a), ("own_letters", b)] : List (Str × D)) = ([("own_word", a), ("own_letters", b), ("own_past", d)] : List (Str × D)) := by rw [put_ne (by decide), put_ne (by decide)]; rfl
theorem pi4 : putFD "own_later" e ([("own_word", a), ("own_letters", b), ("own_past", d)] : List (Str × D)) = ([("own_word", a), ("own_letters", b), ("own_past", d), ("own_later", e)] : List (Str × D)) := by rw [put_ne (by decide), put_ne (by decide), put_ne (by decide)]; rfl
theorem pi5 : putFD "own_block" x ([("own_word", a), ("own_letters", b), ("own_past", d), ("own_later", e)] : List (Str × D)) = ([("own_word", a), ("own_letters", b), ("own_past", d), ("own_later", e), ("own_block", x)] : List (Str × D)) := by rw [put_ne (by decide), put_ne (by decide), put_ne (by decide), put_ne (by decide)]; rfl
theorem pf_past {p' : List D} : putFD "own_past" (.tup p') (finF c bs p v) = finF c bs p' v := by
  unfold finF
  rw [put_ne (by decide), put_ne (by decide), put_at]
theorem pf_later : putFD "own_later" a (finF c bs p v) = finF c bs p a := by
  unfold finF
  rw [put_ne (by decide), put_ne (by decide), put_ne (by decide), put_at]
theorem lf_word : List.lookup ("own_word" : Str) (finF c bs p v) = some (wordD c bs : D) := rfl
theorem lf_letters : List.lookup ("own_letters" : Str) (finF c bs p v) = some (.str (expand bs) : D) := rfl
theorem lf_past : List.lookup ("own_past" : Str) (finF c bs p v) = some (.tup p : D) := rfl
theorem lm_search : List.lookup ("search_then" : Str) (momF a b t x) = some (b : D) := rfl
theorem lm_text : List.lookup ("text_then" : Str) (momF a b t x) = some (.str t : D) := rfl
theorem lm_state : List.lookup ("state_then" : Str) (momF a b t x) = some (x : D) := rfl
end
end LW
namespace LW
open PySem L2 Pd
structure RtOk (w t : List Nat) (st : PS) : Prop where
  kn : st.kn < w.length
  en : t.length < st.pl + w.length
  pl : st.pl ≤ t.length
  ln : st.fd.length ≤ st.pl
  up : ∀ v, KnOk w (t ++ v) st ∧ st.fd = upTo w (t ++ v) st.pl
section
variable {w t u : List Nat} {c s : Nat} {kp : Bool}
theorem go_rt (hc : c < w.length) (h1 : 1 ≤ s) (h2 : s ≤ w.length) (hr : isRight w c s kp) : ∀ (f : Nat) (st : PS), st.kn < w.length → (∀ v, KnOk w (t ++ v) st ∧ st.fd = upTo w (t ++ v) st.pl) → t.length < f + st.pl →
    (goP w t c s kp f st).kn < w.length ∧ t.length < (goP w t c s kp f st).pl + w.length ∧ ∀ v, KnOk w (t ++ v) (goP w t c s kp f st) ∧ (goP w t c s kp f st).fd = upTo w (t ++ v) (goP w t c s kp f st).pl
  | 0, st, hk, hv, hl => ⟨hk, by rw [goP]; omega, hv⟩
  | f + 1, st, hk, hv, hl => by
    rw [goP]
    split
    · rename_i hle
      have hp := stp_pl (w := w) (t := t) (c := c) (s := s) (kp := kp) (st := st) hc h1 hk
      refine go_rt hc h1 h2 hr f _ (stp_kn (by omega) h1) (fun v => ?_) (by omega)
      have z := step_right (t := t ++ v) (kp := kp) hc h1 h2 hr hk (hv v).1 (by rw [List.length_append]; omega) (hv v).2
      rw [stp_app hc hle] at z
      exact z
    · exact ⟨hk, by omega, hv⟩
theorem RtOk.feed {st : PS} (r : RtOk w t st) (hc : c < w.length) (h1 : 1 ≤ s) (h2 : s ≤ w.length) (hr : isRight w c s kp) : RtOk w (t ++ u) (goP w (t ++ u) c s kp ((t ++ u).length + 1) st) := by
  have a := go_rt (t := t ++ u) hc h1 h2 hr ((t ++ u).length + 1) st r.kn (fun v => by rw [List.append_assoc]; exact r.up (u ++ v)) (by omega)
  have b := goP_fdp (w := w) (t := t ++ u) (c := c) (s := s) (kp := kp) hc h1 h2 ((t ++ u).length + 1) st r.kn r.ln (by rw [List.length_append]; have := r.pl; omega)
  exact ⟨a.1, a.2.1, b.2, b.1, a.2.2⟩
theorem RtOk.turn {st : PS} (r : RtOk w t st) : RtOk w t ⟨st.pl, 0, st.fd, st.lk⟩ :=
  ⟨by show 0 < _; have := r.kn; omega, r.en, r.pl, r.ln, fun v => ⟨fun j hj => absurd hj (Nat.not_lt_zero _), (r.up v).2⟩⟩
theorem RtOk.told {st : PS} (r : RtOk w t st) : st.fd = posn w 0 t := by
  have hp : 0 < w.length := by have := r.kn; omega
  have hw : w ≠ [] := List.length_pos_iff.mp hp
  have e := (r.up []).2
  have en := r.en
  rw [List.append_nil] at e
  rw [e]
  apply asc_ext
  · exact List.Pairwise.filter _ List.pairwise_lt_range
  · rw [posn_filter hw]
    rw [show ((List.range (t.length + 1 - w.length)).filter fun i => decide ((t.drop i).take w.length = w)).map (· + 0) = (List.range (t.length + 1 - w.length)).filter fun i => decide ((t.drop i).take w.length = w) by simp]
    exact List.Pairwise.filter _ List.pairwise_lt_range
  · intro x
    rw [mem_posn hw]
    unfold upTo
    rw [List.mem_filter, List.mem_range, decide_eq_true_eq]
    constructor
    · intro h
      exact h.2
    · intro h
      exact ⟨by have := h.1; omega, h⟩
end
end LW
namespace LW
open PySem L2 Pd
theorem mem_sgn {o : List Nat} {d : D} (h : d ∈ sgn o) : ∃ c, c ∈ o ∧ d = .str [c] := by
  obtain ⟨c, hc, rfl⟩ := List.mem_map.mp h
  exact ⟨c, hc, rfl⟩
end LW
namespace LW
open PySem L2 Pd
def mst (acc : List Bl) (y : Bl) : List Bl := match acc.reverse with
  | [] => [y]
  | d :: r => if d.1 = y.1 then r.reverse ++ [(y.1, d.2 + y.2)] else acc ++ [y]
theorem mst_nil (y : Bl) : mst [] y = [y] := rfl
theorem mst_snoc (as : List Bl) (d y : Bl) : mst (as ++ [d]) y = if d.1 = y.1 then as ++ [(y.1, d.2 + y.2)] else as ++ [d] ++ [y] := by
  unfold mst
  rw [List.reverse_append, List.reverse_singleton, List.singleton_append]
  simp only [List.reverse_reverse]
def mrg (xs : List Bl) : List Bl := xs.foldl mst []
structure Mrg (xs bs : List Bl) : Prop where
  good : Good bs
  exp : expand bs = expand xs
  len : bs.length ≤ xs.length
  mem : ∀ b ∈ bs, ∃ x ∈ xs, x.1 = b.1
theorem mst_ok {xs bs : List Bl} {y : Bl} (h : Mrg xs bs) (hy : 1 ≤ y.2) : Mrg (xs ++ [y]) (mst bs y) := by
  rcases List.eq_nil_or_concat bs with rfl | ⟨as, d, rfl⟩
  · rw [mst_nil]
    refine ⟨⟨trivial, fun b hb => by rw [List.mem_singleton.mp hb]; exact hy⟩, ?_, by simp, fun b hb => ⟨y, by simp, by rw [List.mem_singleton.mp hb]⟩⟩
    rw [expand_append, ← h.exp]
    rfl
  · rw [List.concat_eq_append] at *
    obtain ⟨g, e, l, m⟩ := h
    rw [mst_snoc]
    have m2 : ∀ b ∈ as ++ [d], ∃ x ∈ xs ++ [y], x.1 = b.1 := fun b hb => by
      obtain ⟨x, hx, hx2⟩ := m b hb
      exact ⟨x, List.mem_append_left _ hx, hx2⟩
    by_cases he : d.1 = y.1
    · rw [if_pos he]
      refine ⟨⟨Adj.last g.adj he, fun b hb => ?_⟩, ?_, by rw [List.length_append, List.length_singleton] at *; rw [List.length_append, List.length_singleton]; omega, fun b hb => ?_⟩
      · rcases List.mem_append.mp hb with z | z
        · exact g.pos b (List.mem_append_left _ z)
        · rw [List.mem_singleton.mp z]
          show 1 ≤ d.2 + y.2
          omega
      · rw [expand_append, expand_append, ← e, expand_append, List.append_assoc]
        congr 1
        simp only [expand, List.append_nil]
        rw [he, List.replicate_append_replicate]
      · rcases List.mem_append.mp hb with z | z
        · exact m2 b (List.mem_append_left _ z)
        · rw [List.mem_singleton.mp z]
          exact ⟨y, by simp, rfl⟩
    · rw [if_neg he]
      refine ⟨⟨Adj.snoc g.adj he, fun b hb => ?_⟩, ?_, by rw [List.length_append, List.length_append (as := xs)]; simp only [List.length_singleton]; omega, fun b hb => ?_⟩
      · rcases List.mem_append.mp hb with z | z
        · exact g.pos b z
        · rw [List.mem_singleton.mp z]
          exact hy
      · rw [expand_append, e, expand_append]
      · rcases List.mem_append.mp hb with z | z
        · exact m2 b z
        · rw [List.mem_singleton.mp z]
          exact ⟨y, by simp, rfl⟩
theorem mrg_ok : ∀ {xs : List Bl}, (∀ b ∈ xs, 1 ≤ b.2) → Mrg xs (mrg xs) := by
  have go : ∀ (r xs : List Bl) (bs : List Bl), Mrg xs bs → (∀ b ∈ r, 1 ≤ b.2) → Mrg (xs ++ r) (r.foldl mst bs) := by
    intro r
    induction r with
    | nil => intro xs bs h _; rw [List.append_nil]; exact h
    | cons y r ih =>
      intro xs bs h hr
      rw [List.append_cons, List.foldl_cons]
      exact ih _ _ (mst_ok h (hr y (by simp))) fun b hb => hr b (List.mem_cons_of_mem _ hb)
  intro xs h
  exact go xs [] [] ⟨⟨trivial, fun b hb => by cases hb⟩, rfl, Nat.le_refl _, fun b hb => by cases hb⟩ h
theorem tot_snoc : ∀ (k : Nat) (p : List Bl) (b : Bl), tot k (p ++ [b]) = tot k p + b.2
  | k, [], b => rfl
  | k, a :: p, b => by
    rw [List.cons_append, tot, tot_snoc (k + a.2) p b]
    rfl
def partR (f l : Nat) : Nat → List Bl → List Bl
  | _, [] => []
  | k, b :: r => if 0 < min (k + b.2) l - max k f then (b.1, min (k + b.2) l - max k f) :: partR f l (k + b.2) r else partR f l (k + b.2) r
theorem part_end {f l : Nat} : ∀ (k : Nat) (bs : List Bl), l ≤ k → partR f l k bs = []
  | _, [], _ => rfl
  | k, b :: r, h => by
    rw [partR, if_neg (by omega), part_end (k + b.2) r (by omega)]
theorem part_ok {f l : Nat} : ∀ (k : Nat) (bs : List Bl), Good bs → Good (partR f l k bs) ∧ (partR f l k bs).length ≤ bs.length ∧ (∀ b ∈ partR f l k bs, ∃ x ∈ bs, x.1 = b.1 ∧ b.2 ≤ x.2)
  | _, [], g => ⟨g, Nat.le_refl _, fun b hb => by cases hb⟩
  | k, b :: r, g => by
    have gr : Good r := ⟨by
      have := g.adj
      cases r with
      | nil => trivial
      | cons x r => exact this.2, fun x hx => g.pos x (List.mem_cons_of_mem _ hx)⟩
    obtain ⟨h1, h2, h3⟩ := part_ok (f := f) (l := l) (k + b.2) r gr
    rw [partR]
    split
    · rename_i hn
      refine ⟨⟨?_, fun x hx => ?_⟩, by rw [List.length_cons, List.length_cons]; omega, fun x hx => ?_⟩
      · cases r with
        | nil => exact trivial
        | cons x r =>
          rcases Nat.lt_or_ge (k + b.2) l with z | z
          · have hx := g.pos x (by simp)
            have e : partR f l (k + b.2) (x :: r) = (x.1, min (k + b.2 + x.2) l - max (k + b.2) f) :: partR f l (k + b.2 + x.2) r := by
              rw [partR, if_pos (by omega)]
            rw [e] at h1 ⊢
            exact ⟨g.adj.1, h1.adj⟩
          · rw [part_end _ _ z]
            trivial
      · rcases List.mem_cons.mp hx with rfl | hx
        · exact hn
        · exact h1.pos x hx
      · rcases List.mem_cons.mp hx with rfl | hx
        · exact ⟨b, by simp, rfl, by show min (k + b.2) l - max k f ≤ b.2; omega⟩
        · obtain ⟨y, hy, e⟩ := h3 x hx
          exact ⟨y, List.mem_cons_of_mem _ hy, e⟩
    · refine ⟨h1, by rw [List.length_cons]; omega, fun x hx => ?_⟩
      obtain ⟨y, hy, e⟩ := h3 x hx
      exact ⟨y, List.mem_cons_of_mem _ hy, e⟩
theorem part_ne {f l : Nat} (hfl : f < l) : ∀ (k : Nat) (bs : List Bl), k ≤ f → f < tot k bs → partR f l k bs ≠ []
  | k, [], h, h2 => by
    unfold tot at h2
    omega
  | k, b :: r, h, h2 => by
    rw [partR]
    rcases Nat.lt_or_ge f (k + b.2) with z | z
    · rw [if_pos (by omega)]
      simp
    · split
      · simp
      · exact part_ne hfl (k + b.2) r z h2
def zl : Nat → List Bl → List (Bl × Nat)
  | _, [] => []
  | k, b :: r => (b, k) :: zl (k + b.2) r
def G0 : Nat := 600000000000000000000000000000
theorem mulG {i j : Int} (h : i.natAbs < 2 ^ 200) (h2 : j.natAbs < 2 ^ 200) : CMulW i j := by
  unfold CMulW
  have b : ∀ x : Nat, x < 2 ^ 200 → x.log2 < 200 := fun x hx => by
    by_cases h0 : x = 0
    · subst h0
      decide
    · exact (Nat.log2_lt h0).mpr hx
  have := b _ h
  have := b _ h2
  omega
def okNext (bs : List Bl) (a : Nat) : Bool := match bs.reverse with
  | [] => true
  | d :: _ => decide (a ≠ d.1)
theorem okNext_adj {bs : List Bl} {y : Bl} (g : Good bs) (hy : 1 ≤ y.2) (h : okNext bs y.1 = true) : Good (bs ++ [y]) := by
  rcases List.eq_nil_or_concat bs with rfl | ⟨as, d, rfl⟩
  · exact ⟨trivial, fun b hb => by rw [List.mem_singleton.mp hb]; exact hy⟩
  · rw [List.concat_eq_append] at *
    unfold okNext at h
    rw [List.reverse_append, List.reverse_singleton, List.singleton_append] at h
    have h : y.1 ≠ d.1 := of_decide_eq_true h
    refine ⟨Adj.snoc g.adj fun e => h e.symm, fun b hb => ?_⟩
    rcases List.mem_append.mp hb with z | z
    · exact g.pos b z
    · rw [List.mem_singleton.mp z]
      exact hy
theorem okNext_ex {bs : List Bl} {pool : List Nat} (h : ∀ d : Nat, ∃ a ∈ pool, a ≠ d) : ∃ a ∈ pool, okNext bs a = true := by
  unfold okNext
  cases bs.reverse with
  | nil =>
    obtain ⟨a, ha, _⟩ := h 0
    exact ⟨a, ha, rfl⟩
  | cons d r =>
    obtain ⟨a, ha, hd⟩ := h d.1
    exact ⟨a, ha, decide_eq_true hd⟩
def isNext (bs : List Bl) (d : D) : Bool := match d with
  | .str [a] => okNext bs a
  | _ => false
theorem mst_last {bs : List Bl} {y : Bl} {e : Bl} (h : (mst bs y).getLast? = some e) : e.1 = y.1 ∧ (e.2 = y.2 ∨ ∃ d, bs.getLast? = some d ∧ d.1 = y.1 ∧ e.2 = d.2 + y.2) := by
  rcases List.eq_nil_or_concat bs with rfl | ⟨as, d, rfl⟩
  · rw [mst_nil] at h
    simp at h
    subst h
    exact ⟨rfl, .inl rfl⟩
  · rw [List.concat_eq_append] at *
    rw [mst_snoc] at h
    split at h
    · rename_i hd
      simp at h
      subst h
      exact ⟨rfl, .inr ⟨d, by simp, hd, rfl⟩⟩
    · simp at h
      subst h
      exact ⟨rfl, .inl rfl⟩
theorem fold_bound {M K : Nat} : ∀ (r : List Bl) (bs : List Bl), Good r → (∀ b ∈ r, b.2 ≤ M) → (∀ b ∈ bs, b.2 ≤ K + M) → (∀ d, bs.getLast? = some d → d.2 ≤ K ∨ ∀ y, r.head? = some y → d.1 ≠ y.1) →
    ∀ b ∈ r.foldl mst bs, b.2 ≤ K + M
  | [], bs, _, _, h, _ => h
  | y :: r, bs, g, hr, h, hl => by
    rw [List.foldl_cons]
    have hy := hr y (by simp)
    have gr : Good r := ⟨by
      have := g.adj
      cases r with
      | nil => trivial
      | cons x r => exact this.2, fun x hx => g.pos x (List.mem_cons_of_mem _ hx)⟩
    have hb : ∀ b ∈ mst bs y, b.2 ≤ K + M := by
      rcases List.eq_nil_or_concat bs with rfl | ⟨as, d, rfl⟩
      · rw [mst_nil]
        intro b hb
        rw [List.mem_singleton.mp hb]
        omega
      · rw [List.concat_eq_append] at *
        rw [mst_snoc]
        intro b hb
        split at hb
        · rename_i hd
          rcases List.mem_append.mp hb with z | z
          · exact h b (List.mem_append_left _ z)
          · rw [List.mem_singleton.mp z]
            rcases hl d (by simp) with q | q
            · show d.2 + y.2 ≤ _
              omega
            · exact (q y rfl hd).elim
        · rcases List.mem_append.mp hb with z | z
          · exact h b z
          · rw [List.mem_singleton.mp z]
            omega
    refine fold_bound r _ gr (fun b hb => hr b (List.mem_cons_of_mem _ hb)) hb fun d hd => .inr fun x hx => ?_
    rw [(mst_last hd).1]
    cases r with
    | nil => cases hx
    | cons x' r =>
      have : x' = x := by simpa using hx
      rw [← this]
      exact g.adj.1
end LW
namespace LW
open PySem L2 Pd
def b_Word___eq__ (c : Str → Addr) (s_Word_text : FD) : DS := (dRet (dAndV (dTB (dIsi (isC (c "Word") []) (dVar 1))) (dOp gEq (dFld (c "Word") "own_text" (dVar 0)) (dProp (c "Word") s_Word_text (dVar 1)))))
end LW
namespace LW
open PySem L2 Pd
theorem mrg_good {a : List Bl} (g : Good a) : mrg a = a := good_unique (mrg_ok g.pos).good g (mrg_ok g.pos).exp
theorem mrg_app (a b : List Bl) : mrg (a ++ b) = b.foldl mst (mrg a) := List.foldl_append
theorem pos_app {a b : List Bl} (ha : ∀ x ∈ a, 1 ≤ x.2) (hb : ∀ x ∈ b, 1 ≤ x.2) : ∀ x ∈ a ++ b, 1 ≤ x.2 := fun x hx => (List.mem_append.mp hx).elim (ha x) (hb x)
structure Wds (bs : List Bl) (L M : Nat) : Prop where
  good : Good bs
  len : bs.length ≤ L
  num : ∀ b ∈ bs, b.2 ≤ M
  let_ : ∀ b ∈ bs, b.1 ∈ letters
  ne : bs ≠ []
theorem Wds.told {bs : List Bl} {L M : Nat} (w : Wds bs L M) (h1 : L ≤ 40) (h2 : M < 10 ^ 30) : Told bs := ⟨w.good, Nat.le_trans w.len h1, fun b hb => ⟨Nat.lt_of_le_of_lt (w.num b hb) h2, w.let_ b hb⟩, w.ne⟩
theorem Wds.mono {bs : List Bl} {L M L' M' : Nat} (w : Wds bs L M) (h1 : L ≤ L') (h2 : M ≤ M') : Wds bs L' M' := ⟨w.good, Nat.le_trans w.len h1, fun b hb => Nat.le_trans (w.num b hb) h2, w.let_, w.ne⟩
theorem exp_pos {bs : List Bl} (g : ∀ b ∈ bs, 1 ≤ b.2) (hne : bs ≠ []) : 0 < (expand bs).length := by
  obtain ⟨b, r, rfl⟩ := List.exists_cons_of_ne_nil hne
  have := g b (by simp)
  rw [expand, List.length_append, List.length_replicate]
  omega
theorem Wds.join {a b : List Bl} {L M L' M' : Nat} (w : Wds a L M) (v : Wds b L' M') : Wds (mrg (a ++ b)) (L + L') (M + M') := by
  have hp := pos_app w.good.pos v.good.pos
  have m := mrg_ok hp
  refine ⟨m.good, ?_, ?_, fun x hx => ?_, fun e => ?_⟩
  · have := m.len
    have := w.len
    have := v.len
    rw [List.length_append] at *
    omega
  · rw [mrg_app, mrg_good w.good]
    exact fold_bound b a v.good v.num (fun x hx => by have := w.num x hx; omega) fun d hd => .inl (w.num d (List.mem_of_getLast? hd))
  · obtain ⟨y, hy, e⟩ := m.mem x hx
    rw [← e]
    exact (List.mem_append.mp hy).elim (w.let_ y) (v.let_ y)
  · have h1 := m.exp
    rw [e, expand_append] at h1
    have h2 := exp_pos w.good.pos w.ne
    have h3 := congrArg List.length h1
    rw [List.length_append] at h3
    simp [expand] at h3
    omega
theorem part_exp {f l : Nat} : ∀ (k : Nat) (bs : List Bl), expand (partR f l k bs) = ((expand bs).take (l - k)).drop (f - k)
  | k, [] => by simp [partR, expand]
  | k, b :: r => by
    have ih := part_exp (f := f) (l := l) (k + b.2) r
    rw [partR, expand, List.take_append, List.drop_append, List.length_take, List.length_replicate, List.take_replicate, List.drop_replicate]
    have e1 : l - k - b.2 = l - (k + b.2) := by omega
    rw [e1]
    split
    · rename_i h
      rw [expand, ih]
      have e2 : min (k + b.2) l - max k f = min (l - k) b.2 - (f - k) := by omega
      rw [e2]
      congr 1
      rcases Nat.le_total b.2 (l - k) with z | z
      · rw [Nat.min_eq_right z]
        congr 1
        omega
      · have : l - (k + b.2) = 0 := by omega
        rw [this, List.take_zero, List.drop_nil, List.drop_nil]
    · rename_i h
      rw [ih, show min (l - k) b.2 - (f - k) = 0 by omega, List.replicate_zero, List.nil_append]
      rcases Nat.le_total b.2 (l - k) with z | z
      · rw [Nat.min_eq_right z]
        congr 1
        omega
      · have : l - (k + b.2) = 0 := by omega
        rw [this, List.take_zero, List.drop_nil, List.drop_nil]
end LW
namespace LW
open PySem L2 Pd
theorem good_tail {a : Bl} {x : List Bl} (g : Good (a :: x)) : Good x := ⟨by
  have := g.adj
  cases x with
  | nil => trivial
  | cons b r => exact this.2, fun b hb => g.pos b (List.mem_cons_of_mem _ hb)⟩
end LW
namespace LW
open PySem L2 Pd
theorem part_snoc {f l : Nat} : ∀ (k : Nat) (p : List Bl) (b : Bl), partR f l k (p ++ [b]) = partR f l k p ++ (if 0 < min (tot k p + b.2) l - max (tot k p) f then [(b.1, min (tot k p + b.2) l - max (tot k p) f)] else [])
  | k, [], b => by
    rw [List.nil_append]
    show partR f l k [b] = [] ++ (if 0 < min (k + b.2) l - max k f then [(b.1, min (k + b.2) l - max k f)] else [])
    rw [List.nil_append, partR]
    by_cases h : 0 < min (k + b.2) l - max k f
    · rw [if_pos h, if_pos h]
      rfl
    · rw [if_neg h, if_neg h]
      rfl
  | k, a :: p, b => by
    rw [List.cons_append, partR, partR, part_snoc (k + a.2) p b, tot]
    split <;> rfl
end LW
namespace LW
open PySem L2 Pd
def s_Word_text (c : Str → Addr) : FD := fun ds n P => ∃ bs : List Bl, ds = [wordD c bs] ∧ P n (.str (txt bs))
theorem l_Word_text (c : Str → Addr) : ∀ ds n Q, s_Word_text c ds n Q → dFn 1 1 (b_Word_text c) ds n Q := by
  rintro ds n Q ⟨bs, rfl, q⟩
  refine ⟨rfl, ?_⟩
  simp only [b_Word_text, dRet, dFld, dVar, envOf, wordD, List.map_cons, List.map_nil, List.length_cons, List.length_nil, Nat.zero_add, Nat.reduceSub, List.replicate, List.append_nil, List.getElem?_cons_zero, lk_text, Option.some.injEq, exists_eq_left', true_and]
  exact q
def s_Word_eq (c : Str → Addr) : FD := fun ds n P => ∃ a b : List Bl, ds = [wordD c a, wordD c b] ∧ P n (.bl (decide (txt a = txt b)))
theorem l_Word_eq (c : Str → Addr) : ∀ ds n Q, s_Word_eq c ds n Q → dFn 2 2 (b_Word___eq__ c (s_Word_text c)) ds n Q := by
  rintro ds n Q ⟨a, b, rfl, q⟩
  refine ⟨rfl, ?_⟩
  simp only [b_Word___eq__, dRet, dAndV, dTB, dIsi, dVar, envOf, wordD, List.map_cons, List.map_nil, List.length_cons, List.length_nil, Nat.zero_add, Nat.reduceAdd, Nat.reduceSub, List.replicate, List.append_nil, List.getElem?_cons_succ, List.getElem?_cons_zero, isC, dOp, dFld, lk_text, Option.some.injEq, dProp, gEq, true_and, exists_eq_left']
  refine ⟨true, rfl, fun _ => ⟨b, rfl, rfl, ?_⟩, fun h => by cases h⟩
  rw [eqD_str]
  exact q
def rowZ (p : Bl × Nat) : D := .tup [blkD p.1, intD p.2, intD (p.2 + p.1.2)]
theorem zip3_zl : ∀ (k : Nat) (bs : List Bl), zip3D (bs.map blkD) ((sts k bs ++ [tot k bs]).map intD) (((sts k bs ++ [tot k bs]).map intD).drop 1) = (zl k bs).map rowZ
  | _, [] => rfl
  | k, [b] => rfl
  | k, b :: d :: r => by
    have ih := zip3_zl (k + b.2) (d :: r)
    exact congrArg (List.cons (rowZ (b, k))) ih
theorem part_len {f l : Nat} : ∀ (k : Nat) (p : List Bl), (partR f l k p).length ≤ p.length
  | _, [] => Nat.le_refl _
  | k, a :: p => by
    have := part_len (f := f) (l := l) (k + a.2) p
    rw [partR, List.length_cons]
    split
    · rw [List.length_cons]
      omega
    · omega
theorem zl_snoc : ∀ (k : Nat) (p : List Bl) (b : Bl), zl k (p ++ [b]) = zl k p ++ [(b, tot k p)]
  | k, [], b => rfl
  | k, a :: p, b => by
    rw [List.cons_append, zl, zl, zl_snoc (k + a.2) p b, tot, List.cons_append]
theorem zl_split : ∀ (k : Nat) (p bs : List Bl) (y : Bl × Nat) (r : List (Bl × Nat)), zl k bs = zl k p ++ y :: r → y.2 = tot k p ∧ ∃ q, bs = p ++ y.1 :: q
  | k, [], [], y, r, h => by cases h
  | k, [], b :: bs, y, r, h => by
    rw [zl, zl, List.nil_append] at h
    injection h with h1 _
    rw [← h1]
    exact ⟨rfl, bs, rfl⟩
  | k, a :: p, [], y, r, h => by cases h
  | k, a :: p, b :: bs, y, r, h => by
    rw [zl, zl, List.cons_append] at h
    injection h with h1 h2
    injection h1 with h1 _
    subst h1
    obtain ⟨e1, q, e2⟩ := zl_split (k + b.2) p bs y r h2
    exact ⟨e1, q, by rw [e2]; rfl⟩
def s_Word_part (c : Str → Addr) : FD := fun ds n P => ∃ (bs : List Bl) (f l : Nat), ds = [wordD c bs, .int f, .int l] ∧ Told bs ∧ f < l ∧ l ≤ size bs ∧ P n (wordD c (partR f l 0 bs))
theorem l_Word_part (c : Str → Addr) : ∀ ds n Q, s_Word_part c ds n Q → dFn 8 3 (b_Word_part c s_is_integer (s_Word_size c) (s_made c)) ds n Q := by
  rintro ds n Q ⟨bs, f, l, rfl, T, h1, h2, q⟩
  refine ⟨rfl, ?_⟩
  simp only [b_Word_part, dSeq, dIf, dOr, dNot, dTB, dCall, dCons, dVar, envOf, wordD, List.map_cons, List.map_nil, List.length_cons, List.length_nil, Nat.zero_add, Nat.reduceAdd, Nat.reduceSub, List.replicate, List.cons_append, List.nil_append, List.getElem?_cons_succ, List.getElem?_cons_zero, dC, dNil, dNev, forall_const, reduceCtorEq, dNx, dSetO, dLstO, Nat.reduceLeDiff, dFor, iZp3, dFld, List.set_cons_succ, List.set_cons_zero, lk_blocks, Option.some.injEq, lk_ends, dSl, pSome, pNo, gLt, Pd.gSub, exists_eq_left', ev_slt, ev_srct, true_and, false_implies, and_true, dOp, dProp, List.append_nil, ev_addi]
  refine .inr ⟨f, 0, rfl, ?_⟩
  rw [decide_eq_true (by omega)]
  refine ⟨fun h => (by cases h), fun _ => ⟨bs, rfl, .inl ⟨l, (f : Int) + 1, (size bs : Nat), rfl, ?_⟩⟩⟩
  rw [decide_eq_true (by omega)]
  refine ⟨fun h => (by cases h), fun _ => ⟨_, _, _, rfl, rfl, rfl, ?_⟩⟩
  rw [← ends_eq, show (1 : Int) = ((1 : Nat) : Int) from rfl, cut_from, zip3_zl]
  have hbl := T.2.1
  refine for_map rowZ (fun a r n' ε => ∃ (p : List Bl) (s4 s5 s6 s7 : Sl), a = zl 0 p ∧ n' = n ∧ ε = [.val (.obj (c "Word") (fldsW bs)), .val (.int f), .val (.int l), .own (.lst ((partR f l 0 p).map blkD)), s4, s5, s6, s7]) (zl 0 bs) ⟨[], .no, .no, .no, .no, rfl, rfl, rfl⟩ ?_ ?_
  · rintro n' ε ⟨p, s4, s5, s6, s7, hz, rfl, rfl⟩
    have hpb : p = bs := by
      have key : ∀ (k : Nat) (x y : List Bl), zl k x = zl k y → x = y := fun k x => by
        induction x generalizing k with
        | nil =>
          intro y e
          cases y with
          | nil => rfl
          | cons b y => cases e
        | cons a x ih =>
          intro y e
          cases y with
          | nil => cases e
          | cons b y =>
            rw [zl, zl] at e
            injection e with e1 e2
            injection e1 with e1 _
            subst e1
            rw [ih _ _ e2]
      exact (key 0 bs p hz).symm
    subst hpb
    simp only [dFrz, dRet, dCall, dCons, dVar, List.foldl_cons, frzE, List.getElem?_cons_succ, List.getElem?_cons_zero, OD.d, List.set_cons_succ, List.set_cons_zero, List.foldl_nil, dNil, List.append_nil]
    obtain ⟨g1, g2, g3⟩ := part_ok (f := f) (l := l) 0 p T.1
    have hne := part_ne (f := f) (l := l) h1 0 p (Nat.zero_le _) (by rw [tot_pos, pos_all]; show f < 0 + size p; omega)
    refine ⟨_, _, rfl, .inl rfl, ⟨g1, by omega, fun b hb => ?_, hne⟩, q⟩
    obtain ⟨x, hx, e1, e2⟩ := g3 b hb
    rw [← e1]
    exact ⟨Nat.lt_of_le_of_lt e2 (T.2.2.1 x hx).1, (T.2.2.1 x hx).2⟩
  · rintro a y r n' ε nxt e1 ih ⟨p, s4, s5, s6, s7, rfl, rfl, rfl⟩
    obtain ⟨y1, q2, y2⟩ := zl_split 0 p bs y r e1
    obtain ⟨b, k⟩ := y
    have y1 : k = tot 0 p := y1
    subst y1
    have hb : b ∈ bs := by rw [y2]; simp
    have hb1 := T.1.pos b hb
    have hpl : p.length < 1000 := by
      have := congrArg List.length y2
      rw [List.length_append, List.length_cons] at this
      omega
    have hlen : ((partR f l 0 p).map blkD).length ≤ p.length := by
      rw [List.length_map]
      exact part_len 0 p
    have go := ih n' [.val (.obj (c "Word") (fldsW bs)), .val (.int f), .val (.int l), .own (.lst ((partR f l 0 (p ++ [b])).map blkD)), .val (.str [b.1]), .val (.int b.2), .val (.int (tot 0 p : Nat)), .val (.int (tot 0 p + b.2 : Nat))] ⟨p ++ [b], _, _, _, _, (zl_snoc 0 p b).symm, rfl, rfl⟩
    rw [part_snoc, List.map_append] at go
    generalize (partR f l 0 p).map blkD = A at go hlen ⊢
    simp only [gTp, rowZ, blkD, intD, List.length_cons, List.length_nil, Nat.zero_add, Nat.reduceAdd, gsCons, gNm, gsNil, dIf, dAnd, dTB, dOp, dVar, List.set_cons_succ, List.set_cons_zero, List.getElem?_cons_succ, List.getElem?_cons_zero, dApp, dTup, dCons, dBi, dNil, Nat.reduceLeDiff, true_and, ev_max, ev_min, ev_gI, TC, dNx, decide_eq_true_eq, decide_eq_false_iff_not, reduceCtorEq, false_implies, forall_const]
    rw [show (if (l : Int) < ((tot 0 p + b.2 : Nat) : Int) then (l : Int) else ((tot 0 p + b.2 : Nat) : Int)) = ((min (tot 0 p + b.2) l : Nat) : Int) by split <;> omega]
    rw [show (if (f : Int) > (tot 0 p : Int) then (f : Int) else (tot 0 p : Int)) = ((max (tot 0 p) f : Nat) : Int) by split <;> omega]
    have no : ¬ 0 < min (tot 0 p + b.2) l - max (tot 0 p) f → nxt n' [.val (.obj (c "Word") (fldsW bs)), .val (.int f), .val (.int l), .own (.lst A), .val (.str [b.1]), .val (.int b.2), .val (.int (tot 0 p : Nat)), .val (.int (tot 0 p + b.2 : Nat))] := fun hp => by
      rw [if_neg hp, List.map_nil, List.append_nil] at go
      exact go
    refine ⟨fun c1 => ⟨fun c2 => ⟨by omega, ?_⟩, fun c2 => no (by omega)⟩, fun c1 => no (by omega)⟩
    have hp : 0 < min (tot 0 p + b.2) l - max (tot 0 p) f := by omega
    rw [if_pos hp] at go
    rw [show ((min (tot 0 p + b.2) l : Nat) : Int) - ((max (tot 0 p) f : Nat) : Int) = ((min (tot 0 p + b.2) l - max (tot 0 p) f : Nat) : Int) by omega]
    exact go
end LW
namespace LW
open PySem L2 Pd
mutual
def rbD : D → Nat
  | .non => 4
  | .bl _ => 5
  | .int i => (numD i).length
  | .str t => 10 * t.length + 2
  | .lst xs => rbDs xs + 3
  | .tup xs => rbDs xs + 3
  | .obj _ _ => 4
  | .pot => 4
  | .scr _ => 4
  | .ref _ => 4
  | .tupK xs => rbDs xs + 3
  | .tupF _ => 4
  | .err _ _ => 4
  | .cel _ _ => 4
  | .dic ks vs => if ks.length = 0 then 2 else 0
def rbDs : List D → Nat
  | [] => 0
  | x :: xs => rbD x + 2 + rbDs xs
end
theorem seqAt {A B : DS} {N : DN} {n : Nat} {ε : Ev} (n1 : Nat) (ε1 : Ev) (h : ∀ nx : Nat → Ev → Prop, nx n1 ε1 → A { N with nx := nx } n ε) (k : B N n1 ε1) : dSeq A B N n ε := h _ k
end LW
namespace LW
open PySem L2 Pd
inductive Deed where
  | feed (u : List Nat) | turn (ct s : Nat) (kp : Bool)
def deedD : Deed → D
  | .feed u => .tup [.str [102, 101, 101, 100], .str u]
  | .turn ct s kp => .tup [.str [116, 117, 114, 110], srD ct s kp]
structure Cu where
  ct : Nat
  s : Nat
  kp : Bool
  tx : List Nat
  st : PS
def cu0 (ct s : Nat) (kp : Bool) : Cu := ⟨ct, s, kp, [], ps0⟩
def Cu.go (w : List Nat) (q : Cu) : Deed → Cu
  | .feed u => ⟨q.ct, q.s, q.kp, q.tx ++ u, goP w (q.tx ++ u) q.ct q.s q.kp ((q.tx ++ u).length + 1) q.st⟩
  | .turn ct s kp => ⟨ct, s, kp, q.tx, goP w q.tx ct s kp (q.tx.length + 1) ⟨q.st.pl, 0, q.st.fd, q.st.lk⟩⟩
def Cu.run (w : List Nat) (q : Cu) (l : List Deed) : Cu := l.foldl (Cu.go w) q
def cuD (c : Str → Addr) (q : Cu) (d : D) (x : D) : D := momD c d (srD q.ct q.s q.kp) q.tx x
def moms (c : Str → Addr) (w : List Nat) : Cu → List Deed → List D
  | _, [] => []
  | q, d :: l => cuD c (q.go w d) (deedD d) (stT (q.go w d).st) :: moms c w (q.go w d) l
structure Fdr where
  bs : List Bl
  ct : Nat
  s : Nat
  kp : Bool
  ds : List Deed
  ls : List Deed
def Fdr.w (F : Fdr) : List Nat := expand F.bs
def Fdr.q0 (F : Fdr) : Cu := cu0 F.ct F.s F.kp
def Fdr.cu (F : Fdr) : Cu := F.q0.run F.w F.ds
def Fdr.past (c : Str → Addr) (F : Fdr) : List D := cuD c F.q0 .non beginD :: moms c F.w F.q0 F.ds
def finO (c : Str → Addr) (F : Fdr) : List (Str × D) := finF c F.bs (F.past c) (.tup (moms c F.w F.cu F.ls).reverse)
def DOk (W : Nat) (q : Cu) : Deed → Prop
  | .feed u => AL u ∧ 1 ≤ u.length ∧ u.length ≤ 60 ∧ q.tx.length + u.length ≤ 300
  | .turn ct s _ => ct < W ∧ 1 ≤ s ∧ s ≤ W
structure CuOk (W : Nat) (q : Cu) : Prop where
  ct : q.ct < W
  s1 : 1 ≤ q.s
  s2 : q.s ≤ W
  tx : q.tx.length ≤ 300
  al : AL q.tx
  kn : q.st.kn < W
  fd : q.st.fd.length ≤ q.st.pl
  pl : q.st.pl ≤ q.tx.length
theorem CuOk.go {w : List Nat} {q : Cu} (h : CuOk w.length q) {d : Deed} (hd : DOk w.length q d) : CuOk w.length (q.go w d) := by
  have hw : 0 < w.length := Nat.lt_of_le_of_lt (Nat.zero_le _) h.ct
  cases d with
  | feed u =>
    obtain ⟨h1, h2, h3, h4⟩ := hd
    have z := goP_fdp (w := w) (t := q.tx ++ u) (kp := q.kp) h.ct h.s1 h.s2 ((q.tx ++ u).length + 1) q.st h.kn h.fd (by rw [List.length_append]; have := h.pl; omega)
    exact ⟨h.ct, h.s1, h.s2, by show (q.tx ++ u).length ≤ 300; rw [List.length_append]; omega, fun x hx => (List.mem_append.mp hx).elim (h.al x) (h1 x), goP_kn hw h.s1 _ _ h.kn, z.1, z.2⟩
  | turn ct s kp =>
    obtain ⟨h1, h2, h3⟩ := hd
    have z := goP_fdp (w := w) (t := q.tx) (kp := kp) h1 h2 h3 (q.tx.length + 1) ⟨q.st.pl, 0, q.st.fd, q.st.lk⟩ hw h.fd h.pl
    exact ⟨h1, h2, h3, h.tx, h.al, goP_kn hw h2 _ _ hw, z.1, z.2⟩
def DsOk (W : Nat) (w : List Nat) : Cu → List Deed → Prop
  | _, [] => True
  | q, d :: l => DOk W q d ∧ DsOk W w (q.go w d) l
theorem cuOk_run {w : List Nat} : ∀ (q : Cu) (l : List Deed), CuOk w.length q → DsOk w.length w q l → CuOk w.length (q.run w l)
  | _, [], h, _ => h
  | q, d :: l, h, hd => cuOk_run (q.go w d) l (h.go hd.1) hd.2
theorem dsOk_app {W : Nat} {w : List Nat} : ∀ (q : Cu) (l m : List Deed), DsOk W w q (l ++ m) ↔ DsOk W w q l ∧ DsOk W w (q.run w l) m
  | _, [], m => ⟨fun h => ⟨trivial, h⟩, fun h => h.2⟩
  | q, d :: l, m => by
    show DOk W q d ∧ DsOk W w (q.go w d) (l ++ m) ↔ (DOk W q d ∧ DsOk W w (q.go w d) l) ∧ DsOk W w ((q.go w d).run w l) m
    rw [dsOk_app (q.go w d) l m]
    exact ⟨fun ⟨a, b, e⟩ => ⟨⟨a, b⟩, e⟩, fun ⟨⟨a, b⟩, e⟩ => ⟨a, b, e⟩⟩
structure FOk (F : Fdr) : Prop where
  told : Told F.bs
  sz : size F.bs ≤ 60
  ct : F.ct < size F.bs
  s1 : 1 ≤ F.s
  s2 : F.s ≤ size F.bs
  ds : DsOk (size F.bs) F.w F.q0 (F.ds ++ F.ls)
  few : F.ds.length + F.ls.length ≤ 5000
theorem FOk.c0 {F : Fdr} (h : FOk F) : CuOk F.w.length F.q0 :=
  ⟨h.ct, h.s1, h.s2, Nat.zero_le _, fun x hx => (by cases hx), (by show 0 < _; exact Nat.lt_of_le_of_lt (Nat.zero_le _) h.ct), Nat.le_refl _, Nat.le_refl _⟩
theorem FOk.cu {F : Fdr} (h : FOk F) : CuOk F.w.length F.cu := cuOk_run _ _ h.c0 ((dsOk_app _ _ _).mp h.ds).1
abbrev cF (c : Str → Addr) : Addr := c "Finder"
def finAt (c : Str → Addr) (n i : Nat) (fs : List (Str × D)) : Prop := (cs n)[i]? = some (.ins (c "Finder") fs)
end LW
namespace LW
open PySem L2 Pd
theorem noCs_map {α : Type} {f : α → D} (h : ∀ x, noC (f x) = true) (l : List α) : noCs (l.map f) = true := noCs_iff.mpr fun x hx => by
  obtain ⟨y, _, rfl⟩ := List.mem_map.mp hx
  exact h y
theorem nc_blk (b : Bl) : noC (blkD b) = true := by simp [blkD, noC, noCs]
theorem nc_int (k : Nat) : noC (intD k) = true := by simp [intD, noC]
theorem nc_word (c : Str → Addr) (bs : List Bl) : noC (wordD c bs) = true := by
  have h1 : noCs (bs.map blkD) = true := noCs_map nc_blk bs
  have h2 : noCs ((sts 0 bs ++ [tot 0 bs]).map intD) = true := noCs_map nc_int _
  unfold wordD fldsW
  simp only [noC, noCf, h1, h2]
  rfl
structure Upd (n i : Nat) (o : OD) (n' : Nat) : Prop where
  dr : dr n' = dr n
  cs : cs n' = (cs n).set i o
theorem Upd.set (n i : Nat) (o : OD) : Upd n i o (setC n i o) := ⟨dr_setC _ _ _, cs_setC _ _ _⟩
theorem Upd.at {n i n' : Nat} {C : Addr} {fs gs : List (Str × D)} (h : Upd n i (.ins C fs) n') (hi : (Pd.cs n)[i]? = some (.ins C gs)) : (Pd.cs n')[i]? = some (.ins C fs) := by
  rw [h.cs]
  exact List.getElem?_set_self (List.getElem?_eq_some_iff.mp hi).1
theorem noC_up {s : FD} {ds : List D} {n : Nat} {P : Nat → D → Prop} (h : noCs ds = true) (k : s ds (dr n) fun m r => noC r = true → P (wd n m) r) : up s ds n P := ⟨h, k⟩
end LW
namespace LW
open PySem L2 Pd
def b__law_block_places (c : Str → Addr)  : DS := (dSeq (dMul [2, 3] (bOwn (dLstO dNil) (bCons (dC (.int 0)) bNil)))
    (dSeq (dFor (iEnm (dVar 1)) (gTp 2 (gsCons (gNm 4) (gsCons (gTp 2 (gsCons (gNm 5) (gsCons (gNm 6) gsNil))) gsNil))) (dSeq (dSet 7 (dOp gIx (dOp gIx (dVar 0) (dC (.int 0))) (dC (.int 1))))
    (dSeq (dIf (dAnd (dTB (dOp gEq (dBi gLen (dCons (dVar 0) dNil)) (dC (.int 1)))) (dAnd (dTB (dOp gEq (dVar 5) (dOp gIx (dOp gIx (dVar 0) (dC (.int 0))) (dC (.int 0))))) (dTB (dOp gGe (dVar 6) (dVar 7))))) (dApp 2 (dTup (dCons (dVar 3) (dCons (dOp gSub (dOp gAdd (dVar 3) (dVar 6)) (dVar 7)) dNil)))) dNx)
    (dSeq (dSet 8 (dSl (dVar 1) (pSome (dVar 4)) (pSome (dOp gAdd (dVar 4) (dBi gLen (dCons (dVar 0) dNil))))))
    (dSeq (dIf (dAnd (dTB (dOp gGt (dBi gLen (dCons (dVar 0) dNil)) (dC (.int 1)))) (dAnd (dTB (dOp gEq (dBi gLen (dCons (dVar 8) dNil)) (dBi gLen (dCons (dVar 0) dNil)))) (dAnd (dTB (dOp gEq (dVar 5) (dOp gIx (dOp gIx (dVar 0) (dC (.int 0))) (dC (.int 0))))) (dTB (dOp gGe (dVar 6) (dVar 7)))))) (dSeq (dSet 9 (dAndV (dTB (dOp gEq (dOp gIx (dOp gIx (dVar 8) (dNeg (dC (.int 1)))) (dC (.int 0))) (dOp gIx (dOp gIx (dVar 0) (dNeg (dC (.int 1)))) (dC (.int 0))))) (dOp gGe (dOp gIx (dOp gIx (dVar 8) (dNeg (dC (.int 1)))) (dC (.int 1))) (dOp gIx (dOp gIx (dVar 0) (dNeg (dC (.int 1)))) (dC (.int 1))))))
    (dIf (dAnd (dTB (dVar 9)) (dTB (dOp gEq (dSl (dVar 8) (pSome (dC (.int 1))) (pSome (dNeg (dC (.int 1))))) (dSl (dVar 0) (pSome (dC (.int 1))) (pSome (dNeg (dC (.int 1)))))))) (dApp 2 (dTup (dCons (dOp gSub (dOp gAdd (dVar 3) (dVar 6)) (dVar 7)) (dCons (dOp gSub (dOp gAdd (dVar 3) (dVar 6)) (dVar 7)) dNil)))) dNx)) dNx)
    (dSet 3 (dOp gAdd (dVar 3) (dVar 6))))))))
    (dFrz [2] (dRet (dBi gTuple (dCons (dVar 2) dNil))))))
def b__law_near_blocks (c : Str → Addr) (s__law_take : FD) (s__law_of : FD) : DS := (dSeq (dSet 2 (dCall s__law_take [] (dCons (dVar 0) (dCons (dBi gLen (dCons (dVar 1) dNil)) dNil))))
    (dSeq (dSet 3 (dO (dComp (iVal (dSl (dVar 1) (pSome (dVar 2)) (pSome (dOp gAdd (dVar 2) (dCall s__law_of [] (dCons (dVar 0) (dCons (dLst (dCons (dC (.int 1)) (dCons (dC (.int 1)) (dCons (dC (.int 2)) (dCons (dC (.int 2)) (dCons (dC (.int 3)) (dCons (dC (.int 4)) (dCons (dC (.int 20)) (dCons (dC (.int 40)) dNil))))))))) dNil))))))) (gNm 6) dYes (dLstC (dVar 6)) [6])))
    (dSeq (dFor (iVal (dTup (dCons (dC (.int 0)) (dCons (dOp gSub (dBi gLen (dCons (dVar 3) dNil)) (dC (.int 1))) dNil)))) (gNm 4) (dSeq (dSet 5 (dIxC (dOp gIx (dVar 3) (dVar 4)) (dC (.int 1))))
    (dAsgC (dBi gMax (dCons (dC (.int 1)) (dCons (dCall s__law_of [] (dCons (dVar 0) (dCons (dLst (dCons (dVar 5) (dCons (dVar 5) (dCons (dOp gSub (dVar 5) (dC (.int 1))) (dCons (dC (.int 1)) (dCons (dOp gAdd (dVar 5) (dC (.int 1))) dNil)))))) dNil))) dNil))) (gSubC (dOp gIx (dVar 3) (dVar 4)) (dC (.int 1))))))
    (dSeq (dIf (dTB (dOp gEq (dCall s__law_take [] (dCons (dVar 0) (dCons (dC (.int 4)) dNil))) (dC (.int 0)))) (dSeq (dSet 4 (dCall s__law_take [] (dCons (dVar 0) (dCons (dBi gLen (dCons (dVar 3) dNil)) dNil))))
    (dAsgC (dBi gMax (dCons (dC (.int 1)) (dCons (dOp gFdiv (dIxC (dOp gIx (dVar 3) (dVar 4)) (dC (.int 1))) (dC (.int 2))) dNil))) (gSubC (dOp gIx (dVar 3) (dVar 4)) (dC (.int 1))))) dNx)
    (dRet (dO (dCompL (iVal (dVar 3)) (gTpL 2 (gsCons (gNm 7) (gsCons (gNm 8) gsNil))) dYes (dTup (dCons (dVar 7) (dCons (dBi gMin (dCons (dVar 8) (dCons (dOp gSub (dOp gPow (dC (.int 10)) (dC (.int 30))) (dC (.int 1))) dNil))) dNil))) [7, 8])))))))
def b__law_right_v82 (c : Str → Addr) (s__law_of : FD) (s__law_great_blocks : FD) (s__law_block_text : FD) (i_Word : FI) (s__law_near_blocks : FD) (s_places : FD) (s__law_block_places : FD) (s_Word_size : FD) (s_Word_part : FD) (s_Word___eq__ : FD) : DS := (dSeq (dFor (iRg1 (dC (.int 4))) (gNm 1) (dSeq (dSet 2 (dCall s__law_great_blocks [] (dCons (dVar 0) (dCons (dC (.int 1)) (dCons (dCall s__law_of [] (dCons (dVar 0) (dCons (dLst (dCons (dC (.int 3)) (dCons (dC (.int 8)) (dCons (dC (.int 40)) dNil)))) dNil))) dNil)))))
    (dSeq (dSet 3 (dMake (c "Word") i_Word [] (dCons (dCall s__law_block_text [] (dCons (dVar 2) dNil)) dNil)))
    (dSeq (dFor (iRg1 (dC (.int 3))) (gNm 4) (dSeq (dSet 5 (dCall s__law_near_blocks [] (dCons (dVar 0) (dCons (dVar 2) dNil))))
    (dSeq (dSet 6 (dMake (c "Word") i_Word [] (dCons (dCall s__law_block_text [] (dCons (dVar 5) dNil)) dNil)))
    (dSeq (dSet 7 (dCall s_places [] (dCons (dVar 6) (dCons (dVar 3) dNil))))
    (dSeq (dIf (dTB (dOp gNe (dBi gRepr (dCons (dVar 7) dNil)) (dBi gRepr (dCons (dCall s__law_block_places [] (dCons (dVar 5) (dCons (dVar 2) dNil))) dNil)))) (dRet (dC (.bl false))) dNx)
    (dFor (iVal (dOp gAdd (dO (dComp (iVal (dVar 7)) (gNm 9) dYes (dOp gIx (dVar 9) (dC (.int 0))) [9])) (dO (dComp (iVal (dVar 7)) (gNm 9) dYes (dOp gIx (dVar 9) (dC (.int 1))) [9])))) (gNm 8) (dIf (dTB (dOp (gOwn (c "Word") true s_Word___eq__) (dMeth (c "Word") "part" s_Word_part [] (dVar 3) (dCons (dVar 8) (dCons (dOp gAdd (dVar 8) (dProp (c "Word") s_Word_size (dVar 6))) dNil))) (dVar 6))) (dRet (dC (.bl false))) dNx)))))))
    (dIf (dOr (dTB (dOp gNe (dCall s_places [] (dCons (dVar 3) (dCons (dVar 3) dNil))) (dTup (dCons (dTup (dCons (dC (.int 0)) (dCons (dC (.int 0)) dNil))) dNil)))) (dTB (dOp gNe (dCall s_places [] (dCons (dVar 3) (dCons (dMake (c "Word") i_Word [] (dCons (dC (.str [122])) dNil)) dNil))) (dTup dNil)))) (dRet (dC (.bl false))) dNx)))))
    (dRet (dC (.bl true))))
end LW
namespace LW
open PySem L2 Pd
def five54 : List Nat := [97, 98, 99, 120, 121]
def A54 (l : List Nat) : Prop := ∀ c ∈ l, c ∈ five54
def s_great54 (c : Str → Addr) : FD := fun ds n P => ∃ (lo hi : Nat), ds = [.pot, .int lo, .int hi] ∧ 1 ≤ lo ∧ lo ≤ hi ∧ hi ≤ 40 ∧ 1000 ≤ n ∧ ∀ n' bs, n' ≤ n → n ≤ n' + 100 → Good bs → (∀ b ∈ bs, b.2 ≤ G0 ∧ b.1 ∈ five54) → lo ≤ bs.length → bs.length ≤ hi → P n' (.lst (bs.map blkD))
theorem l_great54 (c : Str → Addr) : ∀ ds n Q, s_great54 c ds n Q → dFn 10 3 (b__law_great_blocks c takeF s_of) ds n Q := by
  rintro ds n Q ⟨lo, hi, rfl, h1, h2, h3, h0, q⟩
  refine ⟨rfl, ?_⟩
  simp only [b__law_great_blocks, takeF, envOf, dRet, dRetN, dOp, dSl, dSlO, dVar, dC, pSome, pNo, ev_sll, ev_slt, ev_sls, dBi, dCons, dNil, ev_lenl, ev_lent, ev_lens, ev_lenr, ev_gI, TC, Pd.gSub, gLt, gLe, gGt, gGe, gMod, gFdiv, gPow, gEq, gNe, ev_oki, ev_oks, ev_okl, ev_okt, gIs, gIsNot, gIsB, gIsNotB, Pd.isNon, dCall, dSeq, dSet, dSetO, dMul, setL, bCons, bOwn, bNil, dIf, dIte, dTB, dAnd, dOr, dNot, dBV, dAndV, dOrV, dChain, dTmp, dTmpT, frzE, dFrz, OD.d, dIxO, dApp, dSetI, dNeg, dLst, dLstO, dTup, dO, dDrop, ev_abs, ev_inttoi, ev_inttob, ev_inttos, ev_strtoi, ev_listl, ev_listt, ev_lists, ev_tupl, ev_tupt, ev_addi, ev_adds, ev_addl, ev_addt, ev_muli, ev_muls, ev_mull, ev_max, ev_min, ev_all, ev_any, gRepr, dLRg, Pd.r1, Pd.r2, eqD_str, eqD_int, eqD_bl, dFld, dProp, dMeth, dAugI, dRev, dMake, dIsi, isT, isC, dNx, dBrk, dNev, dFst, gNm, gTp, gsCons, gsNil, dAsg, dStar, dYes, iniEnd, flatD, wipeE, ev_ixl, ev_ixt, ev_ixs, ev_ixr, ev_srcl, ev_srct, ev_srcs, ev_at0, ev_at1, ev_atl, ev_atn, ev_ixn, Option.some.injEq, exists_eq_left', exists_eq_left, List.foldl_cons, List.foldl_nil, List.map_cons, List.map_nil, List.replicate, List.length_append, List.length_map, List.length_cons, List.length_nil, List.cons_append, List.nil_append, List.append_nil, List.getElem?_cons_zero, List.getElem?_cons_succ, List.set_cons_zero, List.set_cons_succ, Nat.zero_add, Nat.reduceAdd, Nat.reduceSub, Nat.reduceLeDiff, true_and, and_true, decide_eq_true_eq, decide_eq_false_iff_not, ne_eq, reduceCtorEq, false_implies, true_implies, forall_const, Bool.and_self, Bool.and_true, Bool.true_and, lk_ends, lk_blocks, lk_text, lk_spot, lk_letter, Int.toNat_natCast, dFldO, dTmq, dMut, dSetQ, dParQ, qMake, D.still, D.stills, lf_past, lf_word, lf_letters, pf_past, pf_later, pm1, pm2, pm3, pm4, pi1, pi2, pi3, pi4, pi5, lm_state, lm_text, lm_search]
  refine ⟨(hi - lo + 1 : Nat), by rw [show ((hi : Int) - (lo : Int) + 1) = ((hi - lo + 1 : Nat) : Int) by omega], by omega, by omega, n - 1, by omega, fun r r0 r1 => ?_⟩
  obtain ⟨k, rfl⟩ : ∃ d : Nat, r = d := ⟨r.toNat, by omega⟩
  refine ⟨⟨by decide, by decide, by decide +kernel⟩, ⟨by decide, by decide, by decide +kernel⟩, ⟨by decide, by decide, by decide +kernel⟩, mulG (by decide) (by decide +kernel), ?_⟩
  refine ⟨_, _, n - 2, rfl, rfl, (fun l e => by cases e), by decide, by decide, by omega, fun x hx => ?_⟩
  obtain ⟨gr, rfl, hg1, hg2⟩ : ∃ gr : Nat, x = .int gr ∧ 1 ≤ gr ∧ 2 * gr ≤ G0 := by
    simp only [srcD, List.mem_cons, List.mem_nil_iff, or_false] at hx
    rcases hx with rfl | rfl | rfl | rfl | rfl
    · exact ⟨1, rfl, by decide, by decide⟩
    · exact ⟨7, rfl, by decide, by decide⟩
    · exact ⟨1000000000, rfl, by decide, by decide⟩
    · exact ⟨100000000000000000000000000000, congrArg D.int (by decide +kernel), by decide, by decide⟩
    · exact ⟨300000000000000000000000000000, congrArg D.int (by decide +kernel), by decide, by decide⟩
  refine ⟨_, _, n - 3, rfl, rfl, (fun l e => by cases e), by decide, by decide, by omega, fun x hx => ?_⟩
  obtain ⟨pool, rfl, hp1, hp2, hp3⟩ : ∃ pool : List Nat, x = .str pool ∧ pool.length ≤ 5 ∧ A54 pool ∧ (∀ d : Nat, ∃ a ∈ pool, a ≠ d) := by
    simp only [srcD, List.mem_cons, List.mem_nil_iff, or_false] at hx
    have hh : ∀ (p : List Nat), 97 ∈ p → 98 ∈ p → ∀ d : Nat, ∃ a ∈ p, a ≠ d := fun p h1 h2 d => by
      by_cases e : d = 97
      · exact ⟨98, h2, by omega⟩
      · exact ⟨97, h1, fun z => e z.symm⟩
    rcases hx with rfl | rfl | rfl
    · exact ⟨[97, 98, 99], rfl, by decide, (by decide : ∀ c ∈ _, c ∈ five54), hh _ (by decide) (by decide)⟩
    · exact ⟨[97, 98, 99], rfl, by decide, (by decide : ∀ c ∈ _, c ∈ five54), hh _ (by decide) (by decide)⟩
    · exact ⟨[97, 98, 99, 120, 121], rfl, by decide, (by decide : ∀ c ∈ _, c ∈ five54), hh _ (by decide) (by decide)⟩
  simp only [dFor, iRg1, envOf, dRet, dRetN, dOp, dSl, dSlO, dVar, dC, pSome, pNo, ev_sll, ev_slt, ev_sls, dBi, dCons, dNil, ev_lenl, ev_lent, ev_lens, ev_lenr, ev_gI, TC, Pd.gSub, gLt, gLe, gGt, gGe, gMod, gFdiv, gPow, gEq, gNe, ev_oki, ev_oks, ev_okl, ev_okt, gIs, gIsNot, gIsB, gIsNotB, Pd.isNon, dCall, dSeq, dSet, dSetO, dMul, setL, bCons, bOwn, bNil, dIf, dIte, dTB, dAnd, dOr, dNot, dBV, dAndV, dOrV, dChain, dTmp, dTmpT, frzE, dFrz, OD.d, dIxO, dApp, dSetI, dNeg, dLst, dLstO, dTup, dO, dDrop, ev_abs, ev_inttoi, ev_inttob, ev_inttos, ev_strtoi, ev_listl, ev_listt, ev_lists, ev_tupl, ev_tupt, ev_addi, ev_adds, ev_addl, ev_addt, ev_muli, ev_muls, ev_mull, ev_max, ev_min, ev_all, ev_any, gRepr, dLRg, Pd.r1, Pd.r2, eqD_str, eqD_int, eqD_bl, dFld, dProp, dMeth, dAugI, dRev, dMake, dIsi, isT, isC, dNx, dBrk, dNev, dFst, gNm, gTp, gsCons, gsNil, dAsg, dStar, dYes, iniEnd, flatD, wipeE, ev_ixl, ev_ixt, ev_ixs, ev_ixr, ev_srcl, ev_srct, ev_srcs, ev_at0, ev_at1, ev_atl, ev_atn, ev_ixn, Option.some.injEq, exists_eq_left', exists_eq_left, List.foldl_cons, List.foldl_nil, List.map_cons, List.map_nil, List.replicate, List.length_append, List.length_map, List.length_cons, List.length_nil, List.cons_append, List.nil_append, List.append_nil, List.getElem?_cons_zero, List.getElem?_cons_succ, List.set_cons_zero, List.set_cons_succ, Nat.zero_add, Nat.reduceAdd, Nat.reduceSub, Nat.reduceLeDiff, true_and, and_true, decide_eq_true_eq, decide_eq_false_iff_not, ne_eq, reduceCtorEq, false_implies, true_implies, forall_const, Bool.and_self, Bool.and_true, Bool.true_and, lk_ends, lk_blocks, lk_text, lk_spot, lk_letter, Int.toNat_natCast, dFldO, dTmq, dMut, dSetQ, dParQ, qMake, D.still, D.stills, lf_past, lf_word, lf_letters, pf_past, pf_later, pm1, pm2, pm3, pm4, pi1, pi2, pi3, pi4, pi5, lm_state, lm_text, lm_search]
  refine ⟨by omega, by omega, ?_⟩
  rw [show ((lo : Int) + (k : Int)) = ((lo + k : Nat) : Int) by omega, rngD0]
  refine for_map intD (fun a r n' ε => ∃ (bs : List Bl) (s7 s8 : Sl), ε = [.val .pot, .val (.int lo), .val (.int hi), .val (.int (lo + k : Nat)), .own (.lst (bs.map blkD)), .val (.int gr), .val (.str pool), s7, s8, .no] ∧ bs.length = a.length ∧ n' ≤ n - 3 ∧ n - 3 ≤ n' + 2 * a.length ∧ Good bs ∧ ∀ b ∈ bs, b.2 ≤ G0 ∧ b.1 ∈ five54) (List.range (lo + k)) ⟨[], .no, .no, rfl, rfl, by omega, by omega, ⟨trivial, fun b hb => by cases hb⟩, fun b hb => by cases hb⟩ ?_ ?_
  · rintro n' ε ⟨bs, s7, s8, rfl, g1, g2, g3, g4, g5⟩
    rw [List.length_range] at g1 g3
    simp only [dFrz, envOf, dRet, dRetN, dOp, dSl, dSlO, dVar, dC, pSome, pNo, ev_sll, ev_slt, ev_sls, dBi, dCons, dNil, ev_lenl, ev_lent, ev_lens, ev_lenr, ev_gI, TC, Pd.gSub, gLt, gLe, gGt, gGe, gMod, gFdiv, gPow, gEq, gNe, ev_oki, ev_oks, ev_okl, ev_okt, gIs, gIsNot, gIsB, gIsNotB, Pd.isNon, dCall, dSeq, dSet, dSetO, dMul, setL, bCons, bOwn, bNil, dIf, dIte, dTB, dAnd, dOr, dNot, dBV, dAndV, dOrV, dChain, dTmp, dTmpT, frzE, dFrz, OD.d, dIxO, dApp, dSetI, dNeg, dLst, dLstO, dTup, dO, dDrop, ev_abs, ev_inttoi, ev_inttob, ev_inttos, ev_strtoi, ev_listl, ev_listt, ev_lists, ev_tupl, ev_tupt, ev_addi, ev_adds, ev_addl, ev_addt, ev_muli, ev_muls, ev_mull, ev_max, ev_min, ev_all, ev_any, gRepr, dLRg, Pd.r1, Pd.r2, eqD_str, eqD_int, eqD_bl, dFld, dProp, dMeth, dAugI, dRev, dMake, dIsi, isT, isC, dNx, dBrk, dNev, dFst, gNm, gTp, gsCons, gsNil, dAsg, dStar, dYes, iniEnd, flatD, wipeE, ev_ixl, ev_ixt, ev_ixs, ev_ixr, ev_srcl, ev_srct, ev_srcs, ev_at0, ev_at1, ev_atl, ev_atn, ev_ixn, Option.some.injEq, exists_eq_left', exists_eq_left, List.foldl_cons, List.foldl_nil, List.map_cons, List.map_nil, List.replicate, List.length_append, List.length_map, List.length_cons, List.length_nil, List.cons_append, List.nil_append, List.append_nil, List.getElem?_cons_zero, List.getElem?_cons_succ, List.set_cons_zero, List.set_cons_succ, Nat.zero_add, Nat.reduceAdd, Nat.reduceSub, Nat.reduceLeDiff, true_and, and_true, decide_eq_true_eq, decide_eq_false_iff_not, ne_eq, reduceCtorEq, false_implies, true_implies, forall_const, Bool.and_self, Bool.and_true, Bool.true_and, lk_ends, lk_blocks, lk_text, lk_spot, lk_letter, Int.toNat_natCast, dFldO, dTmq, dMut, dSetQ, dParQ, qMake, D.still, D.stills, lf_past, lf_word, lf_letters, pf_past, pf_later, pm1, pm2, pm3, pm4, pi1, pi2, pi3, pi4, pi5, lm_state, lm_text, lm_search]
    exact q n' bs (by omega) (by omega) g4 g5 (by omega) (by omega)
  · rintro a x r n' ε nxt e1 ih ⟨bs, s7, s8, rfl, g1, g2, g3, g4, g5⟩
    have hal : a.length < lo + k := by
      have := congrArg List.length e1
      rw [List.length_range, List.length_append, List.length_cons] at this
      omega
    simp only [intD, dComp, iVal, envOf, dRet, dRetN, dOp, dSl, dSlO, dVar, dC, pSome, pNo, ev_sll, ev_slt, ev_sls, dBi, dCons, dNil, ev_lenl, ev_lent, ev_lens, ev_lenr, ev_gI, TC, Pd.gSub, gLt, gLe, gGt, gGe, gMod, gFdiv, gPow, gEq, gNe, ev_oki, ev_oks, ev_okl, ev_okt, gIs, gIsNot, gIsB, gIsNotB, Pd.isNon, dCall, dSeq, dSet, dSetO, dMul, setL, bCons, bOwn, bNil, dIf, dIte, dTB, dAnd, dOr, dNot, dBV, dAndV, dOrV, dChain, dTmp, dTmpT, frzE, dFrz, OD.d, dIxO, dApp, dSetI, dNeg, dLst, dLstO, dTup, dO, dDrop, ev_abs, ev_inttoi, ev_inttob, ev_inttos, ev_strtoi, ev_listl, ev_listt, ev_lists, ev_tupl, ev_tupt, ev_addi, ev_adds, ev_addl, ev_addt, ev_muli, ev_muls, ev_mull, ev_max, ev_min, ev_all, ev_any, gRepr, dLRg, Pd.r1, Pd.r2, eqD_str, eqD_int, eqD_bl, dFld, dProp, dMeth, dAugI, dRev, dMake, dIsi, isT, isC, dNx, dBrk, dNev, dFst, gNm, gTp, gsCons, gsNil, dAsg, dStar, dYes, iniEnd, flatD, wipeE, ev_ixl, ev_ixt, ev_ixs, ev_ixr, ev_srcl, ev_srct, ev_srcs, ev_at0, ev_at1, ev_atl, ev_atn, ev_ixn, Option.some.injEq, exists_eq_left', exists_eq_left, List.foldl_cons, List.foldl_nil, List.map_cons, List.map_nil, List.replicate, List.length_append, List.length_map, List.length_cons, List.length_nil, List.cons_append, List.nil_append, List.append_nil, List.getElem?_cons_zero, List.getElem?_cons_succ, List.set_cons_zero, List.set_cons_succ, Nat.zero_add, Nat.reduceAdd, Nat.reduceSub, Nat.reduceLeDiff, true_and, and_true, decide_eq_true_eq, decide_eq_false_iff_not, ne_eq, reduceCtorEq, false_implies, true_implies, forall_const, Bool.and_self, Bool.and_true, Bool.true_and, lk_ends, lk_blocks, lk_text, lk_spot, lk_letter, Int.toNat_natCast, dFldO, dTmq, dMut, dSetQ, dParQ, qMake, D.still, D.stills, lf_past, lf_word, lf_letters, pf_past, pf_later, pm1, pm2, pm3, pm4, pi1, pi2, pi3, pi4, pi5, lm_state, lm_text, lm_search]
    refine ⟨by rw [sgn_length]; omega, ?_⟩
    have hlt : ∀ b ∈ bs, b.1 < 1114112 := fun b hb => (by decide : ∀ c ∈ five54, c < 1114112) _ (g5 b hb).2
    refine compW_pure (isNext bs) id _ _ _ (fun y hy m K K' q1 q2 => ?_) ?_
    · obtain ⟨c0, hc0, rfl⟩ := mem_sgn hy
      have e0 : isNext bs (.str [c0]) = okNext bs c0 := rfl
      rw [e0] at q1 q2
      rcases List.eq_nil_or_concat bs with rfl | ⟨as, d, rfl⟩
      · have hnn : eqD (.lst []) (.lst []) = true := rfl
        simp only [envOf, dRet, dRetN, dOp, dSl, dSlO, dVar, dC, pSome, pNo, ev_sll, ev_slt, ev_sls, dBi, dCons, dNil, ev_lenl, ev_lent, ev_lens, ev_lenr, ev_gI, TC, Pd.gSub, gLt, gLe, gGt, gGe, gMod, gFdiv, gPow, gEq, gNe, ev_oki, ev_oks, ev_okl, ev_okt, gIs, gIsNot, gIsB, gIsNotB, Pd.isNon, dCall, dSeq, dSet, dSetO, dMul, setL, bCons, bOwn, bNil, dIf, dIte, dTB, dAnd, dOr, dNot, dBV, dAndV, dOrV, dChain, dTmp, dTmpT, frzE, dFrz, OD.d, dIxO, dApp, dSetI, dNeg, dLst, dLstO, dTup, dO, dDrop, ev_abs, ev_inttoi, ev_inttob, ev_inttos, ev_strtoi, ev_listl, ev_listt, ev_lists, ev_tupl, ev_tupt, ev_addi, ev_adds, ev_addl, ev_addt, ev_muli, ev_muls, ev_mull, ev_max, ev_min, ev_all, ev_any, gRepr, dLRg, Pd.r1, Pd.r2, eqD_str, eqD_int, eqD_bl, dFld, dProp, dMeth, dAugI, dRev, dMake, dIsi, isT, isC, dNx, dBrk, dNev, dFst, gNm, gTp, gsCons, gsNil, dAsg, dStar, dYes, iniEnd, flatD, wipeE, ev_ixl, ev_ixt, ev_ixs, ev_ixr, ev_srcl, ev_srct, ev_srcs, ev_at0, ev_at1, ev_atl, ev_atn, ev_ixn, Option.some.injEq, exists_eq_left', exists_eq_left, List.foldl_cons, List.foldl_nil, List.map_cons, List.map_nil, List.replicate, List.length_append, List.length_map, List.length_cons, List.length_nil, List.cons_append, List.nil_append, List.append_nil, List.getElem?_cons_zero, List.getElem?_cons_succ, List.set_cons_zero, List.set_cons_succ, Nat.zero_add, Nat.reduceAdd, Nat.reduceSub, Nat.reduceLeDiff, true_and, and_true, decide_eq_true_eq, decide_eq_false_iff_not, ne_eq, reduceCtorEq, false_implies, true_implies, forall_const, Bool.and_self, Bool.and_true, Bool.true_and, lk_ends, lk_blocks, lk_text, lk_spot, lk_letter, Int.toNat_natCast, dFldO, dTmq, dMut, dSetQ, dParQ, qMake, D.still, D.stills, lf_past, lf_word, lf_letters, pf_past, pf_later, pm1, pm2, pm3, pm4, pi1, pi2, pi3, pi4, pi5, lm_state, lm_text, lm_search, okD_nil, hnn, List.map_nil]
        exact q1 rfl
      · rw [List.concat_eq_append] at *
        rw [List.map_append, List.map_cons, List.map_nil] at *
        have hok : okD (.lst (as.map blkD ++ [blkD d])) = true := by
          have := okD_blks hlt
          rwa [List.map_append] at this
        have e1 : okNext (as ++ [d]) c0 = decide (c0 ≠ d.1) := by
          unfold okNext
          rw [List.reverse_append, List.reverse_singleton, List.singleton_append]
        rw [e1] at q1 q2
        simp only [envOf, dRet, dRetN, dOp, dSl, dSlO, dVar, dC, pSome, pNo, ev_sll, ev_slt, ev_sls, dBi, dCons, dNil, ev_lenl, ev_lent, ev_lens, ev_lenr, ev_gI, TC, Pd.gSub, gLt, gLe, gGt, gGe, gMod, gFdiv, gPow, gEq, gNe, ev_oki, ev_oks, ev_okl, ev_okt, gIs, gIsNot, gIsB, gIsNotB, Pd.isNon, dCall, dSeq, dSet, dSetO, dMul, setL, bCons, bOwn, bNil, dIf, dIte, dTB, dAnd, dOr, dNot, dBV, dAndV, dOrV, dChain, dTmp, dTmpT, frzE, dFrz, OD.d, dIxO, dApp, dSetI, dNeg, dLst, dLstO, dTup, dO, dDrop, ev_abs, ev_inttoi, ev_inttob, ev_inttos, ev_strtoi, ev_listl, ev_listt, ev_lists, ev_tupl, ev_tupt, ev_addi, ev_adds, ev_addl, ev_addt, ev_muli, ev_muls, ev_mull, ev_max, ev_min, ev_all, ev_any, gRepr, dLRg, Pd.r1, Pd.r2, eqD_str, eqD_int, eqD_bl, dFld, dProp, dMeth, dAugI, dRev, dMake, dIsi, isT, isC, dNx, dBrk, dNev, dFst, gNm, gTp, gsCons, gsNil, dAsg, dStar, dYes, iniEnd, flatD, wipeE, ev_ixl, ev_ixt, ev_ixs, ev_ixr, ev_srcl, ev_srct, ev_srcs, ev_at0, ev_at1, ev_atl, ev_atn, ev_ixn, Option.some.injEq, exists_eq_left', exists_eq_left, List.foldl_cons, List.foldl_nil, List.map_cons, List.map_nil, List.replicate, List.length_append, List.length_map, List.length_cons, List.length_nil, List.cons_append, List.nil_append, List.append_nil, List.getElem?_cons_zero, List.getElem?_cons_succ, List.set_cons_zero, List.set_cons_succ, Nat.zero_add, Nat.reduceAdd, Nat.reduceSub, Nat.reduceLeDiff, true_and, and_true, decide_eq_true_eq, decide_eq_false_iff_not, ne_eq, reduceCtorEq, false_implies, true_implies, forall_const, Bool.and_self, Bool.and_true, Bool.true_and, lk_ends, lk_blocks, lk_text, lk_spot, lk_letter, Int.toNat_natCast, dFldO, dTmq, dMut, dSetQ, dParQ, qMake, D.still, D.stills, lf_past, lf_word, lf_letters, pf_past, pf_later, pm1, pm2, pm3, pm4, pi1, pi2, pi3, pi4, pi5, lm_state, lm_text, lm_search, okD_nil, hok, eqD_snoc]
        simp only [blkD, envOf, dRet, dRetN, dOp, dSl, dSlO, dVar, dC, pSome, pNo, ev_sll, ev_slt, ev_sls, dBi, dCons, dNil, ev_lenl, ev_lent, ev_lens, ev_lenr, ev_gI, TC, Pd.gSub, gLt, gLe, gGt, gGe, gMod, gFdiv, gPow, gEq, gNe, ev_oki, ev_oks, ev_okl, ev_okt, gIs, gIsNot, gIsB, gIsNotB, Pd.isNon, dCall, dSeq, dSet, dSetO, dMul, setL, bCons, bOwn, bNil, dIf, dIte, dTB, dAnd, dOr, dNot, dBV, dAndV, dOrV, dChain, dTmp, dTmpT, frzE, dFrz, OD.d, dIxO, dApp, dSetI, dNeg, dLst, dLstO, dTup, dO, dDrop, ev_abs, ev_inttoi, ev_inttob, ev_inttos, ev_strtoi, ev_listl, ev_listt, ev_lists, ev_tupl, ev_tupt, ev_addi, ev_adds, ev_addl, ev_addt, ev_muli, ev_muls, ev_mull, ev_max, ev_min, ev_all, ev_any, gRepr, dLRg, Pd.r1, Pd.r2, eqD_str, eqD_int, eqD_bl, dFld, dProp, dMeth, dAugI, dRev, dMake, dIsi, isT, isC, dNx, dBrk, dNev, dFst, gNm, gTp, gsCons, gsNil, dAsg, dStar, dYes, iniEnd, flatD, wipeE, ev_ixl, ev_ixt, ev_ixs, ev_ixr, ev_srcl, ev_srct, ev_srcs, ev_at0, ev_at1, ev_atl, ev_atn, ev_ixn, Option.some.injEq, exists_eq_left', exists_eq_left, List.foldl_cons, List.foldl_nil, List.map_cons, List.map_nil, List.replicate, List.length_append, List.length_map, List.length_cons, List.length_nil, List.cons_append, List.nil_append, List.append_nil, List.getElem?_cons_zero, List.getElem?_cons_succ, List.set_cons_zero, List.set_cons_succ, Nat.zero_add, Nat.reduceAdd, Nat.reduceSub, Nat.reduceLeDiff, true_and, and_true, decide_eq_true_eq, decide_eq_false_iff_not, ne_eq, reduceCtorEq, false_implies, true_implies, forall_const, Bool.and_self, Bool.and_true, Bool.true_and, lk_ends, lk_blocks, lk_text, lk_spot, lk_letter, Int.toNat_natCast, dFldO, dTmq, dMut, dSetQ, dParQ, qMake, D.still, D.stills, lf_past, lf_word, lf_letters, pf_past, pf_later, pm1, pm2, pm3, pm4, pi1, pi2, pi3, pi4, pi5, lm_state, lm_text, lm_search, List.cons.injEq] at q1 q2 ⊢
        refine ⟨fun h => q1 (by simpa using h), fun h => q2 (by simpa using h)⟩
    · rw [List.nil_append, List.map_id]
      have hin : ∀ y ∈ (sgn pool).filter (isNext bs), ∃ c0, y = .str [c0] ∧ c0 ∈ five54 ∧ okNext bs c0 = true := fun y hy => by
        obtain ⟨h1, h2⟩ := List.mem_filter.mp hy
        obtain ⟨c0, hc0, rfl⟩ := mem_sgn h1
        exact ⟨c0, rfl, hp2 c0 hc0, h2⟩
      have hpos : 0 < ((sgn pool).filter (isNext bs)).length := by
        obtain ⟨a0, ha0, hn⟩ := okNext_ex (bs := bs) hp3
        exact List.length_pos_of_mem (List.mem_filter.mpr ⟨List.mem_map_of_mem ha0, hn⟩)
      have hfl : ((sgn pool).filter (isNext bs)).length ≤ 5 := Nat.le_trans (List.length_filter_le _ _) (by rw [sgn_length]; exact hp1)
      refine ⟨_, _, n' - 1, rfl, rfl, (fun l e => by cases e), hpos, by omega, by omega, fun y hy => ?_⟩
      obtain ⟨c0, rfl, hcl, hcn⟩ := hin y hy
      have hgG : gr < 2 ^ 200 := Nat.lt_of_le_of_lt (by omega : gr ≤ G0) (by decide)
      refine ⟨mulG (by decide) (by rw [Int.natAbs_natCast]; exact hgG), ?_⟩
      refine ⟨_, _, n' - 2, rfl, rfl, (fun l e => by cases e), Nat.succ_pos _, by show 7 ≤ _; decide, by omega, fun y hy => ?_⟩
      obtain ⟨m, hm0, hm⟩ : ∃ m : Nat, (∀ P : D → Prop, P (.int (m : Nat)) → gMax [D.int 1, y] P) ∧ 1 ≤ m ∧ m ≤ G0 := by
        have key : ∀ i : Int, i ≤ (G0 : Nat) → y = .int i → ∃ m : Nat, (∀ P : D → Prop, P (.int (m : Nat)) → gMax [D.int 1, y] P) ∧ 1 ≤ m ∧ m ≤ G0 := fun i hi e => by
          subst e
          refine ⟨(max 1 i).toNat, fun P hP => ?_, by omega, by omega⟩
          show P (.int (if i > 1 then i else 1))
          rw [show (if i > 1 then i else 1) = (((max 1 i).toNat : Nat) : Int) by split <;> omega]
          exact hP
        have hG1 : (gr : Int) + 1 ≤ (G0 : Nat) := by
          have : gr + 1 ≤ G0 := by unfold G0 at *; omega
          omega
        simp only [srcD, List.mem_cons, List.mem_nil_iff, or_false] at hy
        rcases hy with rfl | rfl | rfl | rfl | rfl | rfl | rfl
        · exact key 1 (by decide) rfl
        · exact key 2 (by decide) rfl
        · exact key gr (by omega) rfl
        · exact key gr (by omega) rfl
        · exact key (gr + 1) hG1 rfl
        · exact key (gr - 1) (by omega) rfl
        · exact key (2 * gr) (by omega) rfl
      refine hm0 _ ⟨by omega, ?_⟩
      refine ih _ _ ⟨bs ++ [(c0, m)], _, _, by rw [List.map_append]; rfl, by rw [List.length_append, List.length_append, List.length_singleton, List.length_singleton]; omega, by omega, by rw [List.length_append, List.length_singleton]; omega, okNext_adj g4 hm.1 hcn, fun b hb => ?_⟩
      rcases List.mem_append.mp hb with z | z
      · exact g5 b z
      · rw [List.mem_singleton.mp z]
        exact ⟨hm.2, hcl⟩
end LW
namespace LW
open PySem L2 Pd
def seven : List Nat := [97, 98, 99, 113, 120, 121, 122]
def A7 (l : List Nat) : Prop := ∀ c ∈ l, c ∈ seven
theorem A7.sub {a b : List Nat} (h : A7 b) (g : ∀ c ∈ a, c ∈ b) : A7 a := fun c hc => h c (g c hc)
theorem A7.rep {a : List Nat} (h : A7 a) (k : Nat) : A7 (List.replicate k a).flatten := fun c hc => by
  obtain ⟨l, h1, h2⟩ := List.mem_flatten.mp hc
  exact h c (List.eq_of_mem_replicate h1 ▸ h2)
theorem A7.take {a : List Nat} (h : A7 a) (k : Nat) : A7 (a.take k) := h.sub fun c hc => List.mem_of_mem_take hc
theorem A7.drop {a : List Nat} (h : A7 a) (k : Nat) : A7 (a.drop k) := h.sub fun c hc => List.mem_of_mem_drop hc
theorem A7.al {l : List Nat} (h : A7 l) : AL l := fun c hc => (by decide : ∀ c ∈ seven, c ∈ letters) c (h c hc)
end LW
namespace LW
open PySem L2 Pd
theorem seq_all {A B : DS} {N : DN} {n : Nat} {ε : Ev} (F : Nat → Ev → Prop) (h : ∀ nx : Nat → Ev → Prop, (∀ n ε, F n ε → nx n ε) → A { N with nx := nx } n ε) (k : ∀ n ε, F n ε → B N n ε) : dSeq A B N n ε := h _ k
theorem if_no {t : DT} {A : DS} {N : DN} {n : Nat} {ε : Ev} (n1 : Nat) (h : ∀ P : Nat → Bool → Prop, P n1 false → t n ε P) (k : N.nx n1 ε) : dIf t A dNx N n ε := h _ ⟨fun z => (by cases z), fun _ => k⟩
end LW
namespace LW
open PySem L2 Pd
def DAsk (W : Nat) : Deed → Prop
  | .feed u => AL u ∧ 1 ≤ u.length ∧ u.length ≤ 60
  | .turn ct s _ => ct < W ∧ 1 ≤ s ∧ s ≤ W
def dLen : Deed → Nat
  | .feed u => u.length
  | .turn _ _ _ => 0
def fits (F : Fdr) (d : Deed) : Prop := F.cu.tx.length + dLen d ≤ 300
theorem DAsk.ok {F : Fdr} {d : Deed} (h : DAsk (size F.bs) d) (r : fits F d) : DOk (size F.bs) F.cu d := by
  cases d with
  | feed u => exact ⟨h.1, h.2.1, h.2.2, r⟩
  | turn ct s kp => exact h
end LW
namespace LW
open PySem L2 Pd
def plD : D → Bool
  | .non => true
  | .bl _ => true
  | .int _ => true
  | .str _ => true
  | .lst _ => true
  | .tup _ => true
  | .dic _ _ => true
  | _ => false
end LW
namespace LW
open PySem L2 Pd
mutual
def anD : D → Bool
  | .non => true
  | .bl _ => true
  | .int i => decide (i.natAbs.log2 < 1920)
  | .str t => t.all (· < 1114112)
  | .lst xs => anDs xs
  | .tup xs => anDs xs
  | .obj _ _ => false
  | .pot => false
  | .scr _ => false
  | .ref _ => false
  | .tupK _ => false
  | .tupF _ => false
  | .err _ _ => false
  | .cel _ _ => false
  | .dic ks vs => decide (ks.length = 0) && decide (vs.length = 0)
def anDs : List D → Bool
  | [] => true
  | x :: xs => anD x && anDs xs
end
mutual
def dpD : D → Nat
  | .lst xs => dpDs xs + 1
  | .tup xs => dpDs xs + 1
  | .dic _ _ => 1
  | .tupK xs => dpDs xs + 1
  | _ => 0
def dpDs : List D → Nat
  | [] => 0
  | x :: xs => max (dpD x) (dpDs xs)
end
theorem numD_any {i : Int} {k : Nat} (hk : 0 < k) (h : i.natAbs < 10 ^ k) : (numD i).length ≤ k + 1 := by
  have e := int_text_length_le10 hk h
  have e2 : (numD i).length = (toString i : Str).length := by
    unfold numD
    simp [Str.length]
  rw [e2]
  exact Nat.le_trans (Nat.le_of_eq (ofString_length _)) e
theorem log_any {i : Int} (h : i.natAbs < 10 ^ 300) : i.natAbs.log2 < 1920 := by
  by_cases h0 : i.natAbs = 0
  · rw [h0]
    decide
  · rw [Nat.log2_lt h0]
    exact Nat.lt_trans h (by decide)
def Any (B : Nat) (d : D) : Prop := anD d = true ∧ dpD d ≤ 30 ∧ rbD d ≤ B
theorem Any.mono {A B : Nat} {d : D} (h : Any A d) (hAB : A ≤ B) : Any B d := ⟨h.1, h.2.1, Nat.le_trans h.2.2 hAB⟩
theorem Any.pl {B : Nat} {d : D} (h : Any B d) : plD d = true := by
  have := h.1
  cases d <;> first | rfl | simp [anD] at this
theorem Any.int {i : Int} {B : Nat} (h : i.natAbs.log2 < 1920) (hB : (numD i).length ≤ B) : Any B (.int i) := ⟨by rw [anD]; exact decide_eq_true h, by simp [dpD], by rw [rbD]; exact hB⟩
theorem Any.str {t : List Nat} {B : Nat} (h : ∀ c ∈ t, c < 1114112) (hB : 10 * t.length + 2 ≤ B) : Any B (.str t) := ⟨by rw [anD]; exact List.all_eq_true.mpr fun c hc => decide_eq_true (h c hc), by simp [dpD], by rw [rbD]; exact hB⟩
def V5 (d : D) : Prop := anD d = true ∧ dpD d ≤ 3 ∧ rbD d ≤ 1000
theorem V5.pl {d : D} (h : V5 d) : plD d = true := Any.pl (B := 1000) ⟨h.1, Nat.le_trans h.2.1 (by decide), h.2.2⟩
theorem V5.int {i : Int} (h : i.natAbs < 10 ^ 300) : V5 (.int i) := ⟨by rw [anD]; exact decide_eq_true (log_any h), by simp [dpD], by rw [rbD]; exact Nat.le_trans (numD_any (by decide) h) (by decide)⟩
end LW
namespace LW
open PySem L2 Pd
mutual
def bvD : D → Bool
  | .non => true
  | .bl _ => true
  | .int i => decide (i.natAbs < 10 ^ 300)
  | .str t => t.all (· < 128)
  | .lst xs => bvDs xs
  | .tup xs => bvDs xs
  | .obj _ _ => false
  | .pot => false
  | .scr _ => false
  | .ref _ => false
  | .tupK _ => false
  | .tupF _ => false
  | .err _ _ => false
  | .cel _ _ => false
  | .dic _ _ => false
def bvDs : List D → Bool
  | [] => true
  | x :: xs => bvD x && bvDs xs
end
theorem anDs_iff : ∀ {xs : List D}, anDs xs = true ↔ ∀ x ∈ xs, anD x = true
  | [] => by simp [anDs]
  | x :: xs => by
    rw [anDs, Bool.and_eq_true, anDs_iff (xs := xs)]
    simp
theorem dpDs_iff {k : Nat} : ∀ {xs : List D}, dpDs xs ≤ k ↔ ∀ x ∈ xs, dpD x ≤ k
  | [] => by simp [dpDs]
  | x :: xs => by
    rw [dpDs, Nat.max_le, dpDs_iff (xs := xs)]
    simp
theorem rbDs_mem {x : D} : ∀ {xs : List D}, x ∈ xs → rbD x + 2 ≤ rbDs xs
  | y :: ys, h => by
    rw [rbDs]
    rcases List.mem_cons.mp h with rfl | h
    · omega
    · have := rbDs_mem h
      omega
theorem if_not {t : DT} {A : DS} {N : DN} {n : Nat} {ε : Ev} (n1 : Nat) (h : ∀ P : Nat → Bool → Prop, P n1 false → t n ε P) (k : N.nx n1 ε) : dIf t A dNx N n ε := h _ ⟨fun z => (by cases z), fun _ => k⟩
theorem if_yes {t : DT} {A B : DS} {N : DN} {n : Nat} {ε : Ev} (n1 : Nat) (h : ∀ P : Nat → Bool → Prop, P n1 true → t n ε P) (k : A N n1 ε) : dIf t A B N n ε := h _ ⟨fun _ => k, fun z => (by cases z)⟩
end LW
namespace LW
open PySem L2 Pd
def plS (v : D) : Prop := plD v = true ∧ ∀ xs, v = .tup xs → xs.length ≤ 1000000 ∧ ∀ x ∈ xs, plD x = true
def A51 (v : D) : Prop := anD v = true ∧ dpD v ≤ 10 ∧ rbD v ≤ 5000
theorem rb_len : ∀ xs : List D, 2 * xs.length ≤ rbDs xs
  | [] => by simp [rbDs]
  | x :: xs => by
    have := rb_len xs
    rw [List.length_cons, rbDs]
    omega
theorem A51.pl {v : D} (h : A51 v) : plS v := by
  refine ⟨Any.pl (B := 5000) ⟨h.1, Nat.le_trans h.2.1 (by decide), h.2.2⟩, fun xs e => ?_⟩
  subst e
  obtain ⟨h1, h2, h3⟩ := h
  rw [rbD] at h3
  have := rb_len xs
  rw [anD] at h1
  refine ⟨by omega, fun x hx => Any.pl (B := 5000) ⟨anDs_iff.mp h1 x hx, ?_, ?_⟩⟩
  · rw [dpD] at h2
    have := dpDs_iff.mp (Nat.le_refl (dpDs xs)) x hx
    omega
  · have := rbDs_mem hx
    omega
def F51 (x : D) : Prop := anD x = true ∧ dpD x ≤ 1 ∧ rbD x ≤ 30
theorem F51.A {x : D} (h : F51 x) : A51 x := ⟨h.1, Nat.le_trans h.2.1 (by decide), Nat.le_trans h.2.2 (by decide)⟩
end LW
namespace LW
open PySem L2 Pd
theorem A51.mem {xs : List D} {x : D} (h : A51 (.tup xs)) (hx : x ∈ xs) : A51 x := by
  obtain ⟨h1, h2, h3⟩ := h
  rw [anD] at h1
  rw [dpD] at h2
  rw [rbD] at h3
  have := rbDs_mem hx
  have := dpDs_iff.mp (Nat.le_refl (dpDs xs)) x hx
  exact ⟨anDs_iff.mp h1 x hx, by omega, by omega⟩
theorem A51.len {xs : List D} (h : A51 (.tup xs)) : xs.length ≤ 5000 := by
  obtain ⟨h1, h2, h3⟩ := h
  rw [rbD] at h3
  have := rb_len xs
  omega
end LW
namespace LW
open PySem L2 Pd
def SV (x : D) : Prop := anD x = true ∧ dpD x ≤ 4 ∧ rbD x ≤ 100
theorem SV.A {x : D} (h : SV x) : A51 x := ⟨h.1, Nat.le_trans h.2.1 (by decide), Nat.le_trans h.2.2 (by decide)⟩
theorem SV_rb : ∀ {xs : List D}, (∀ x ∈ xs, SV x) → anDs xs = true ∧ dpDs xs ≤ 4 ∧ rbDs xs ≤ 102 * xs.length
  | [], _ => by simp [anDs, dpDs, rbDs]
  | x :: xs, h => by
    obtain ⟨h1, h2, h3⟩ := h x (by simp)
    obtain ⟨g1, g2, g3⟩ := SV_rb (xs := xs) fun y hy => h y (List.mem_cons_of_mem _ hy)
    rw [anDs, dpDs, rbDs, List.length_cons, h1, g1]
    exact ⟨rfl, by omega, by omega⟩
theorem SV_tup {xs : List D} (h : ∀ x ∈ xs, SV x) (hl : xs.length ≤ 40) : A51 (.tup xs) := by
  obtain ⟨g1, g2, g3⟩ := SV_rb h
  exact ⟨by rw [anD]; exact g1, by rw [dpD]; omega, by rw [rbD]; omega⟩
theorem SV.int {i : Int} (h : i.natAbs < 10 ^ 60) : SV (.int i) := ⟨by rw [anD]; exact decide_eq_true (log_any (Nat.lt_trans h (by decide))), by simp [dpD], by rw [rbD]; exact Nat.le_trans (numD_any (by decide) h) (by decide)⟩
def ToldA (d : D) : Prop := ∃ xs : List D, d = .tup xs ∧ 1 ≤ xs.length ∧ xs.length ≤ 2 ∧ (∀ x ∈ xs, SV x) ∧ bvD (.tup xs) = true
theorem ToldA.A {d : D} (h : ToldA d) : A51 d := by
  obtain ⟨xs, rfl, h1, h2, h3, h4⟩ := h
  exact SV_tup h3 (by omega)
end LW
namespace LW
open PySem L2 Pd
theorem upi {s : FI} {ds : List D} {n : Nat} {P : Nat → List (Str × D) → Prop} (h : noCs ds = true) (k : s ds (dr n) fun m fs => noCf fs = true → P (wd n m) fs) : upI s ds n P := ⟨h, k⟩
end LW
namespace LW
open PySem L2 Pd
theorem stp_fdx {w t : List Nat} {c s : Nat} {kp : Bool} {st : PS} : ∀ x ∈ (stp w t c s kp st).fd, x ∈ st.fd ∨ x = st.pl := by
  intro x hx
  unfold stp at hx
  dsimp only at hx
  split at hx
  · exact .inl hx
  · split at hx
    · exact (List.mem_append.mp hx).imp id fun h => by simpa using h
    · exact .inl hx
theorem goP_fdx {w t : List Nat} {c s : Nat} {kp : Bool} (hc : c < w.length) (hs : 1 ≤ s) : ∀ (f : Nat) (st : PS), st.kn < w.length → (∀ x ∈ st.fd, x ≤ st.pl) → ∀ x ∈ (goP w t c s kp f st).fd, x ≤ (goP w t c s kp f st).pl
  | 0, st, _, h => h
  | f + 1, st, hk, h => by
    rw [goP]
    split
    · have a1 := stp_pl (w := w) (t := t) (c := c) (s := s) (kp := kp) (st := st) hc hs hk
      refine goP_fdx hc hs f _ (stp_kn (by omega) hs) fun x hx => ?_
      rcases stp_fdx x hx with hx | rfl
      · have := h x hx
        omega
      · omega
    · exact h
structure CuB (q : Cu) (k : Nat) : Prop where
  fx : ∀ x ∈ q.st.fd, x ≤ q.st.pl
  lk : q.st.lk ≤ k * 100000
theorem CuB.go {w : List Nat} {q : Cu} {k : Nat} (hw : w.length ≤ 60) (h : CuOk w.length q) (b : CuB q k) {d : Deed} (hd : DOk w.length q d) : CuB (q.go w d) (k + 1) := by
  have hw0 : 0 < w.length := Nat.lt_of_le_of_lt (Nat.zero_le _) h.ct
  have hl := b.lk
  have key : ∀ (t : List Nat) (c s : Nat) (kp : Bool) (st : PS), t.length ≤ 300 → c < w.length → st.lk ≤ k * 100000 → (goP w t c s kp (t.length + 1) st).lk ≤ (k + 1) * 100000 := fun t c s kp st ht hc hs => by
    have z := goP_lk (w := w) (t := t) (c := c) (s := s) (kp := kp) (t.length + 1) st
    have z2 : (t.length + 1) * (2 * w.length + c + 1) ≤ 301 * 200 := Nat.mul_le_mul (by omega) (by omega)
    omega
  cases d with
  | feed u =>
    obtain ⟨h1, h2, h3, h4⟩ := hd
    exact ⟨goP_fdx h.ct h.s1 _ _ h.kn b.fx, key _ _ _ _ _ (by rw [List.length_append]; omega) h.ct hl⟩
  | turn ct s kp =>
    obtain ⟨h1, h2, h3⟩ := hd
    exact ⟨goP_fdx h1 h2 _ _ hw0 b.fx, key _ _ _ _ _ h.tx h1 hl⟩
theorem cuB_run {w : List Nat} (hw : w.length ≤ 60) : ∀ (q : Cu) (l : List Deed) (k : Nat), CuOk w.length q → CuB q k → DsOk w.length w q l → CuB (q.run w l) (k + l.length)
  | q, [], k, _, b, _ => b
  | q, d :: l, k, h, b, hd => by
    have := cuB_run hw (q.go w d) l (k + 1) (h.go hd.1) (b.go hw h hd.1) hd.2
    rw [List.length_cons, show k + (l.length + 1) = k + 1 + l.length by omega]
    exact this
theorem FOk.b {F : Fdr} (h : FOk F) : CuB F.cu F.ds.length := by
  have := cuB_run (w := F.w) h.sz F.q0 F.ds 0 h.c0 ⟨fun x hx => (by cases hx), Nat.zero_le _⟩ ((dsOk_app _ _ _).mp h.ds).1
  rw [Nat.zero_add] at this
  exact this
end LW
namespace LW
open PySem L2 Pd
theorem FOk.undo {F : Fdr} (h : FOk F) {l : List Deed} {d : Deed} (e : F.ds = l ++ [d]) : FOk ⟨F.bs, F.ct, F.s, F.kp, l, d :: F.ls⟩ := by
  refine ⟨h.told, h.sz, h.ct, h.s1, h.s2, ?_, ?_⟩
  · have z := h.ds
    rw [e, List.append_assoc] at z
    exact z
  · have z := h.few
    rw [e, List.length_append] at z
    show l.length + (F.ls.length + 1) ≤ 5000
    have : [d].length = 1 := rfl
    omega
end LW
namespace LW
open PySem L2 Pd
instance : DecidableEq Deed := fun a b => match a, b with
  | .feed u, .feed v => if h : u = v then isTrue (by rw [h]) else isFalse fun e => h (by injection e)
  | .feed _, .turn _ _ _ => isFalse fun e => by cases e
  | .turn _ _ _, .feed _ => isFalse fun e => by cases e
  | .turn a b k, .turn x y z => if h : a = x ∧ b = y ∧ k = z then isTrue (by rw [h.1, h.2.1, h.2.2]) else isFalse fun e => h (by injection e with h1 h2 h3; exact ⟨h1, h2, h3⟩)
def sameF (F G : Fdr) : Prop := F.bs = G.bs ∧ (F.ct = G.ct ∧ F.s = G.s ∧ F.kp = G.kp) ∧ F.ds = G.ds
instance (F G : Fdr) : Decidable (sameF F G) := by unfold sameF; infer_instance
theorem dsOk_al {W : Nat} {w : List Nat} : ∀ (q : Cu) (l : List Deed), DsOk W w q l → ∀ d ∈ l, ∀ u, d = .feed u → AL u
  | _, [], _ => fun d h => by cases h
  | q, a :: l, h => fun d hd u e => by
    rcases List.mem_cons.mp hd with rfl | hd
    · subst e
      exact h.1.1
    · exact dsOk_al _ l h.2 d hd u e
theorem FOk.al {F : Fdr} (h : FOk F) : ∀ d ∈ F.ds, ∀ u, d = .feed u → AL u := dsOk_al _ _ ((dsOk_app _ _ _).mp h.ds).1
end LW
namespace LW
open PySem L2 Pd
theorem Upd.ne {c : Str → Addr} {n i j n' : Nat} {o : OD} {fs : List (Str × D)} (h : Upd n i o n') (hij : i ≠ j) (hj : finAt c n j fs) : finAt c n' j fs := by
  unfold finAt
  rw [h.cs, List.getElem?_set_ne hij]
  exact hj
theorem FOk.ne {F : Fdr} (h : FOk F) : expand F.bs ≠ [] := List.length_pos_iff.mp (Nat.lt_of_le_of_lt (Nat.zero_le _) h.ct)
abbrev Fdr.of (F : Fdr) (l ls : List Deed) : Fdr := ⟨F.bs, F.ct, F.s, F.kp, l, ls⟩
end LW
namespace LW
open PySem L2 Pd
abbrev keptW : List Nat := [107, 101, 112, 116]
abbrev bareW : List Nat := [98, 97, 114, 101]
abbrev feedW : List Nat := [102, 101, 101, 100]
abbrev turnW : List Nat := [116, 117, 114, 110]
def srI (x y : Int) (k : Bool) : D := .tup [.int x, .int y, .bl k]
inductive GDeed where
  | feed (u : List Nat) | turn (x y : Int) (k : Bool)
def GDeed.d : GDeed → D
  | .feed u => .tup [.str feedW, .str u]
  | .turn x y k => .tup [.str turnW, srI x y k]
end LW
namespace LW
open PySem L2 Pd
def modeT (k : Bool) : List Nat := if k then keptW else bareW
def srW (ct s : Nat) (kp : Bool) : List (List Nat) := [numD (ct : Int), numD (s : Int), modeT kp]
def srT (ct s : Nat) (kp : Bool) : List Nat := TL.joinL [32] (srW ct s kp)
def deedT : Deed → List Nat
  | .feed u => TL.joinL [32] [feedW, u]
  | .turn ct s kp => TL.joinL [32] [turnW, srT ct s kp]
end LW
namespace LW
open PySem L2 Pd
theorem for_enum {α : Type} (f : α → D) {dg : DG} {b : DS} {N : DN} (Inv : List α → List α → Nat → Ev → Prop) (l : List α) {n : Nat} {ε : Ev} (hi : Inv [] l n ε) (h0 : ∀ n ε, Inv l [] n ε → N.nx n ε)
    (hs : ∀ a x r n ε (nxt : Nat → Ev → Prop), l = a ++ x :: r → (∀ n' ε', Inv (a ++ [x]) r n' ε' → nxt n' ε') → Inv a (x :: r) n ε → dg (.tup [.int (a.length : Nat), f x]) ε fun ε' => b { N with nx := nxt, ct := nxt, bk := N.nx } n ε') : forW dg b N (enumD (l.map f)) n ε := by
  have e : enumD (l.map f) = l.zipIdx.map fun p => D.tup [.int (p.2 : Nat), f p.1] := by
    unfold enumD
    rw [List.zipIdx_map, List.map_map]
    rfl
  have e1 : (l.zipIdx).map (·.1) = l := List.zipIdx_map_fst 0 l
  rw [e]
  refine for_map (fun p : α × Nat => D.tup [.int (p.2 : Nat), f p.1]) (fun a r n ε => Inv (a.map (·.1)) (r.map (·.1)) n ε) l.zipIdx (by rw [e1]; exact hi) (fun n ε h => h0 n ε (by rw [e1] at h; exact h)) fun a x r n ε nxt hl hn hv => ?_
  have ha : x.2 = a.length := by
    have h1 : l.zipIdx[a.length]? = some x := by rw [hl]; simp
    rw [List.getElem?_zipIdx] at h1
    cases h2 : l[a.length]? with
    | none => rw [h2] at h1; cases h1
    | some y =>
      rw [h2] at h1
      cases h1
      simp
  have hl2 : l = a.map (·.1) ++ x.1 :: r.map (·.1) := by rw [← e1, hl]; simp
  have := hs (a.map (·.1)) x.1 (r.map (·.1)) n ε nxt hl2 (fun n' ε' z => hn n' ε' (by rw [List.map_append]; exact z)) hv
  rw [List.length_map, ← ha] at this
  exact this
end LW
namespace LW
open PySem L2 Pd
theorem st_head54 {m : Nat} {a b : Bl} {r q : List Bl} (h : stands m 0 (a :: r) (b :: q) = true) : a.1 = b.1 ∧ a.2 ≤ b.2 := by
  rw [stands, Bool.and_eq_true] at h
  have h1 := h.1
  rw [Bool.not_eq_true', decide_eq_false_iff_not] at h1
  constructor
  · exact Decidable.byContradiction fun z => h1 (.inl z)
  · exact Decidable.byContradiction fun z => h1 (.inr (.inl (by omega)))
theorem join54 {a : Bl} {w : List Bl} (ha : 1 ≤ a.2) : ∀ (bt : List Bl) (k : Nat) (acc : List Pr), Good bt → (∀ l, acc.getLast? = some l → l.2 + 1 < k ∨ (l.2 + 1 ≤ k ∧ ∀ b, bt.head? = some b → b.1 ≠ a.1)) →
    (rowsOf (a :: w) k bt).foldl stP acc = acc ++ rowsOf (a :: w) k bt
  | [], k, acc, _, _ => by rw [rowsOf, List.foldl_nil, List.append_nil]
  | b :: r, k, acc, g, h => by
    have hb : 1 ≤ b.2 := g.pos b (by simp)
    rw [rowsOf]
    by_cases hc : (a :: w).length ≤ (b :: r).length ∧ stands (a :: w).length 0 (a :: w) (b :: r) = true
    · obtain ⟨h1, h2⟩ := st_head54 hc.2
      rw [if_pos hc, List.singleton_append, List.foldl_cons]
      have hd : ((a :: w).head?.map (·.2)).getD 0 = a.2 := rfl
      rw [hd]
      generalize hp : ((if (a :: w).length = 1 then k else k + b.2 - a.2), k + b.2 - a.2) = p
      have e1 : k ≤ p.1 := by
        rw [← hp]
        dsimp only
        split <;> omega
      have e2 : p.2 + 1 ≤ k + b.2 := by
        rw [← hp]
        dsimp only
        omega
      have e3 : stP acc p = acc ++ [p] := by
        unfold stP
        cases hl : acc.getLast? with
        | none =>
          rw [List.getLast?_eq_none_iff] at hl
          rw [hl]
          rfl
        | some l =>
          dsimp only
          rw [if_neg]
          rcases h l hl with z | z
          · omega
          · exact absurd h1.symm (z.2 b rfl)
      rw [e3, join54 ha r (k + b.2) (acc ++ [p]) (good_tail g) (fun l hl => ?_), List.append_assoc]
      · rfl
      · rw [List.getLast?_append, List.getLast?_singleton] at hl
        have : p = l := by simpa using hl
        subst this
        refine .inr ⟨e2, fun y hy => ?_⟩
        have hn := g.adj
        cases r with
        | nil => cases hy
        | cons z q =>
          have hz : z = y := Option.some.inj hy
          subst hz
          rw [h1]
          exact fun e => hn.1 e.symm
    · rw [if_neg hc, List.nil_append]
      refine join54 ha r (k + b.2) acc (good_tail g) fun l hl => .inl ?_
      rcases h l hl with z | z <;> omega
theorem stands_end54 {m : Nat} {e f : Bl} : ∀ (p q s : List Bl) (i : Nat), 0 < i → i + p.length + 1 = m → p.length = q.length →
    (stands m i (p ++ [e]) (q ++ f :: s) = true ↔ p = q ∧ e.1 = f.1 ∧ e.2 ≤ f.2)
  | [], [], s, i, hi, hm, _ => by
    rw [List.nil_append, List.nil_append, stands, Bool.and_eq_true, Bool.not_eq_true', decide_eq_false_iff_not]
    have : stands m (i + 1) [] s = true := by simp [stands]
    rw [this]
    rw [List.length_nil] at hm
    constructor
    · intro ⟨h, _⟩
      exact ⟨rfl, Decidable.byContradiction fun z => h (.inl z), Decidable.byContradiction fun z => h (.inr (.inl (by omega)))⟩
    · intro ⟨_, h1, h2⟩
      refine ⟨fun z => ?_, rfl⟩
      rcases z with z | z | z
      · exact z h1
      · omega
      · omega
  | a :: p, b :: q, s, i, hi, hm, hl => by
    rw [List.cons_append, List.cons_append, stands, Bool.and_eq_true, Bool.not_eq_true', decide_eq_false_iff_not, stands_end54 p q s (i + 1) (by omega) (by rw [List.length_cons] at hm; omega) (by simpa using hl)]
    rw [List.length_cons] at hm
    constructor
    · intro ⟨h, h1, h2, h3⟩
      have e1 : a.1 = b.1 := Decidable.byContradiction fun z => h (.inl z)
      have e2 : a.2 = b.2 := Decidable.byContradiction fun z => h (.inr (.inr ⟨hi, by omega, z⟩))
      exact ⟨by rw [h1, show a = b from Prod.ext e1 e2], h2, h3⟩
    · intro ⟨h1, h2, h3⟩
      obtain ⟨rfl, rfl⟩ := List.cons.inj h1
      refine ⟨fun z => ?_, rfl, h2, h3⟩
      rcases z with z | z | z
      · exact z rfl
      · omega
      · exact z.2.2 rfl
theorem rowsOf_len54 (w : List Bl) : ∀ (bt : List Bl) (k : Nat), (rowsOf w k bt).length ≤ bt.length
  | [], k => Nat.le_refl _
  | b :: r, k => by
    have := rowsOf_len54 w r (k + b.2)
    rw [rowsOf, List.length_append, List.length_cons]
    split
    · rw [List.length_singleton]; omega
    · rw [List.length_nil]; omega
theorem rows_sep54 {bw bt : List Bl} (gw : Good bw) (hne : bw ≠ []) (gt : Good bt) : rowsOf bw 0 bt = rowsAt (expand bw) (expand bt) := by
  cases bw with
  | nil => exact absurd rfl hne
  | cons a w =>
    have := join54 (w := w) (gw.pos a (by simp)) bt 0 [] gt fun l hl => by cases hl
    rw [List.nil_append] at this
    rw [← this]
    exact rows_at gw hne gt
theorem row_ends54 {bw bt : List Bl} (gw : Good bw) (hne : bw ≠ []) (gt : Good bt) : (∀ r ∈ rowsOf bw 0 bt, ∀ x, x = r.1 ∨ x = r.2 → x + size bw ≤ size bt ∧ partR x (x + size bw) 0 bt = bw) := fun r hr x hx => by
  have wne : expand bw ≠ [] := exp_ne gw hne
  rw [rows_sep54 gw hne gt] at hr
  have z := (stP_in (fun x => x ∈ posn (expand bw) 0 (expand bt)) ((posn (expand bw) 0 (expand bt)).map fun x => (x, x)) [] (fun r hr => by
    obtain ⟨y, hy, rfl⟩ := List.mem_map.mp hr
    exact ⟨hy, hy⟩) (fun r hr => by cases hr)).1 r hr
  have hm : x ∈ posn (expand bw) 0 (expand bt) := by
    rcases hx with rfl | rfl
    · exact z.1
    · exact z.2
  obtain ⟨h1, h2⟩ := (mem_posn wne).mp hm
  have h1 : x + size bw ≤ size bt := h1
  refine ⟨h1, good_unique (part_ok 0 bt gt).1 gw ?_⟩
  rw [part_exp]
  unfold standsAt at h2
  rw [Nat.sub_zero, Nat.sub_zero, List.drop_take, show x + size bw - x = size bw by omega]
  exact h2
theorem eqDs_blks54 : ∀ a b : List Bl, eqDs (a.map blkD) (b.map blkD) = decide (a = b)
  | [], [] => rfl
  | [], _ :: _ => rfl
  | _ :: _, [] => rfl
  | x :: a, y :: b => by
    show (eqD (blkD x) (blkD y) && eqDs (a.map blkD) (b.map blkD)) = _
    rw [eqDs_blks54 a b]
    have : eqD (blkD x) (blkD y) = decide (x = y) := by
      show (eqD (.str [x.1]) (.str [y.1]) && (eqD (.int x.2) (.int y.2) && true)) = _
      rw [eqD_str, eqD_int, Bool.and_true, Bool.eq_iff_iff]
      simp only [Bool.and_eq_true, decide_eq_true_eq, List.cons.injEq, and_true]
      constructor
      · intro ⟨h1, h2⟩
        exact Prod.ext h1 (by omega)
      · intro h
        subst h
        exact ⟨rfl, rfl⟩
    rw [this, Bool.eq_iff_iff]
    simp
theorem at_end54 (x : D) (xs : List D) (y : D) : L2.atI (x :: (xs ++ [y])) (-1) = some y := by
  rw [← List.cons_append]
  exact at_last _ _
theorem cut_in54 (x : D) (xs : List D) (y : D) : cut (x :: (xs ++ [y])) (some 1) (some (-1)) = xs := by
  rw [cut_amid _ (by simp)]
  simp
def s_blockPlaces : FD := fun ds n P => ∃ bw bt : List Bl, ds = [.lst (bw.map blkD), .lst (bt.map blkD)] ∧ Told bw ∧ Good bt ∧ (∀ b ∈ bt, b.1 < 1114112) ∧ bt.length ≤ 1000 ∧ P n (.tup ((rowsOf bw 0 bt).map prD))
theorem l_blockPlaces (c : Str → Addr) : ∀ ds n Q, s_blockPlaces ds n Q → dFn 10 2 (b__law_block_places c) ds n Q := by
  rintro ds n Q ⟨bw, bt, rfl, T, gt, hlt, hl, q⟩
  refine ⟨rfl, ?_⟩
  have gw := T.1
  have hwl := T.2.1
  have hw0 : 0 < bw.length := List.length_pos_iff.mpr T.2.2.2
  obtain ⟨a, w, rfl⟩ : ∃ a w, bw = a :: w := by
    cases bw with
    | nil => exact absurd rfl T.2.2.2
    | cons a w => exact ⟨a, w, rfl⟩
  rw [List.length_cons] at hwl
  have hwlt : ∀ b ∈ a :: w, b.1 < 1114112 := fun b hb => letters_lt (T.2.2.1 b hb).2
  unfold b__law_block_places
  refine seqAt n [.val (.lst ((a :: w).map blkD)), .val (.lst (bt.map blkD)), .own (.lst []), .val (.int 0), .no, .no, .no, .no, .no, .no] (fun nx hnx => ?_) ?_
  · simp only [envOf, dRet, dRetN, dOp, dSl, dSlO, dVar, dC, pSome, pNo, ev_sll, ev_slt, ev_sls, dBi, dCons, dNil, ev_lenl, ev_lent, ev_lens, ev_lenr, ev_gI, TC, Pd.gSub, gLt, gLe, gGt, gGe, gMod, gFdiv, gPow, gEq, gNe, ev_oki, ev_oks, ev_okl, ev_okt, gIs, gIsNot, gIsB, gIsNotB, Pd.isNon, dCall, dSeq, dSet, dSetO, dMul, setL, bCons, bOwn, bNil, dIf, dIte, dTB, dAnd, dOr, dNot, dBV, dAndV, dOrV, dChain, dTmp, dTmpT, frzE, dFrz, OD.d, dIxO, dApp, dSetI, dNeg, dLst, dLstO, dTup, dO, dDrop, ev_abs, ev_inttoi, ev_inttob, ev_inttos, ev_strtoi, ev_listl, ev_listt, ev_lists, ev_tupl, ev_tupt, ev_addi, ev_adds, ev_addl, ev_addt, ev_muli, ev_muls, ev_mull, ev_max, ev_min, ev_all, ev_any, gRepr, dLRg, Pd.r1, Pd.r2, eqD_str, eqD_int, eqD_bl, dFld, dProp, dMeth, dAugI, dRev, dMake, dIsi, isT, isC, dNx, dBrk, dNev, dFst, gNm, gTp, gsCons, gsNil, dAsg, dStar, dYes, iniEnd, flatD, wipeE, ev_ixl, ev_ixt, ev_ixs, ev_ixr, ev_srcl, ev_srct, ev_srcs, ev_at0, ev_at1, ev_atl, ev_atn, ev_ixn, Option.some.injEq, exists_eq_left', exists_eq_left, List.foldl_cons, List.foldl_nil, List.map_cons, List.map_nil, List.replicate, List.length_append, List.length_map, List.length_cons, List.length_nil, List.cons_append, List.nil_append, List.append_nil, List.getElem?_cons_zero, List.getElem?_cons_succ, List.set_cons_zero, List.set_cons_succ, Nat.zero_add, Nat.reduceAdd, Nat.reduceSub, Nat.reduceLeDiff, true_and, and_true, decide_eq_true_eq, decide_eq_false_iff_not, ne_eq, reduceCtorEq, false_implies, true_implies, forall_const, Bool.and_self, Bool.and_true, Bool.true_and, lk_ends, lk_blocks, lk_text, lk_spot, lk_letter, Int.toNat_natCast, dFldO, dTmq, dMut, dSetQ, dParQ, qMake, D.still, D.stills, lf_past, lf_word, lf_letters, pf_past, pf_later, pm1, pm2, pm3, pm4, pi1, pi2, pi3, pi4, pi5, lm_state, lm_text, lm_search]
    exact hnx
  refine seq_all (fun n1 ε => n1 = n ∧ ∃ (s3 s4 s5 s6 s7 s8 s9 : Sl), ε = [.val (.lst ((a :: w).map blkD)), .val (.lst (bt.map blkD)), .own (.lst ((rowsOf (a :: w) 0 bt).map prD)), s3, s4, s5, s6, s7, s8, s9]) (fun nx hnx => ?_) ?_
  rotate_left
  · rintro n1 ε ⟨rfl, s3, s4, s5, s6, s7, s8, s9, rfl⟩
    simp only [dFrz, envOf, dRet, dRetN, dOp, dSl, dSlO, dVar, dC, pSome, pNo, ev_sll, ev_slt, ev_sls, dBi, dCons, dNil, ev_lenl, ev_lent, ev_lens, ev_lenr, ev_gI, TC, Pd.gSub, gLt, gLe, gGt, gGe, gMod, gFdiv, gPow, gEq, gNe, ev_oki, ev_oks, ev_okl, ev_okt, gIs, gIsNot, gIsB, gIsNotB, Pd.isNon, dCall, dSeq, dSet, dSetO, dMul, setL, bCons, bOwn, bNil, dIf, dIte, dTB, dAnd, dOr, dNot, dBV, dAndV, dOrV, dChain, dTmp, dTmpT, frzE, dFrz, OD.d, dIxO, dApp, dSetI, dNeg, dLst, dLstO, dTup, dO, dDrop, ev_abs, ev_inttoi, ev_inttob, ev_inttos, ev_strtoi, ev_listl, ev_listt, ev_lists, ev_tupl, ev_tupt, ev_addi, ev_adds, ev_addl, ev_addt, ev_muli, ev_muls, ev_mull, ev_max, ev_min, ev_all, ev_any, gRepr, dLRg, Pd.r1, Pd.r2, eqD_str, eqD_int, eqD_bl, dFld, dProp, dMeth, dAugI, dRev, dMake, dIsi, isT, isC, dNx, dBrk, dNev, dFst, gNm, gTp, gsCons, gsNil, dAsg, dStar, dYes, iniEnd, flatD, wipeE, ev_ixl, ev_ixt, ev_ixs, ev_ixr, ev_srcl, ev_srct, ev_srcs, ev_at0, ev_at1, ev_atl, ev_atn, ev_ixn, Option.some.injEq, exists_eq_left', exists_eq_left, List.foldl_cons, List.foldl_nil, List.map_cons, List.map_nil, List.replicate, List.length_append, List.length_map, List.length_cons, List.length_nil, List.cons_append, List.nil_append, List.append_nil, List.getElem?_cons_zero, List.getElem?_cons_succ, List.set_cons_zero, List.set_cons_succ, Nat.zero_add, Nat.reduceAdd, Nat.reduceSub, Nat.reduceLeDiff, true_and, and_true, decide_eq_true_eq, decide_eq_false_iff_not, ne_eq, reduceCtorEq, false_implies, true_implies, forall_const, Bool.and_self, Bool.and_true, Bool.true_and, lk_ends, lk_blocks, lk_text, lk_spot, lk_letter, Int.toNat_natCast, dFldO, dTmq, dMut, dSetQ, dParQ, qMake, D.still, D.stills, lf_past, lf_word, lf_letters, pf_past, pf_later, pm1, pm2, pm3, pm4, pi1, pi2, pi3, pi4, pi5, lm_state, lm_text, lm_search]
    exact q
  simp only [dFor, iEnm, envOf, dRet, dRetN, dOp, dSl, dSlO, dVar, dC, pSome, pNo, ev_sll, ev_slt, ev_sls, dBi, dCons, dNil, ev_lenl, ev_lent, ev_lens, ev_lenr, ev_gI, TC, Pd.gSub, gLt, gLe, gGt, gGe, gMod, gFdiv, gPow, gEq, gNe, ev_oki, ev_oks, ev_okl, ev_okt, gIs, gIsNot, gIsB, gIsNotB, Pd.isNon, dCall, dSeq, dSet, dSetO, dMul, setL, bCons, bOwn, bNil, dIf, dIte, dTB, dAnd, dOr, dNot, dBV, dAndV, dOrV, dChain, dTmp, dTmpT, frzE, dFrz, OD.d, dIxO, dApp, dSetI, dNeg, dLst, dLstO, dTup, dO, dDrop, ev_abs, ev_inttoi, ev_inttob, ev_inttos, ev_strtoi, ev_listl, ev_listt, ev_lists, ev_tupl, ev_tupt, ev_addi, ev_adds, ev_addl, ev_addt, ev_muli, ev_muls, ev_mull, ev_max, ev_min, ev_all, ev_any, gRepr, dLRg, Pd.r1, Pd.r2, eqD_str, eqD_int, eqD_bl, dFld, dProp, dMeth, dAugI, dRev, dMake, dIsi, isT, isC, dNx, dBrk, dNev, dFst, gNm, gTp, gsCons, gsNil, dAsg, dStar, dYes, iniEnd, flatD, wipeE, ev_ixl, ev_ixt, ev_ixs, ev_ixr, ev_srcl, ev_srct, ev_srcs, ev_at0, ev_at1, ev_atl, ev_atn, ev_ixn, Option.some.injEq, exists_eq_left', exists_eq_left, List.foldl_cons, List.foldl_nil, List.map_cons, List.map_nil, List.replicate, List.length_append, List.length_map, List.length_cons, List.length_nil, List.cons_append, List.nil_append, List.append_nil, List.getElem?_cons_zero, List.getElem?_cons_succ, List.set_cons_zero, List.set_cons_succ, Nat.zero_add, Nat.reduceAdd, Nat.reduceSub, Nat.reduceLeDiff, true_and, and_true, decide_eq_true_eq, decide_eq_false_iff_not, ne_eq, reduceCtorEq, false_implies, true_implies, forall_const, Bool.and_self, Bool.and_true, Bool.true_and, lk_ends, lk_blocks, lk_text, lk_spot, lk_letter, Int.toNat_natCast, dFldO, dTmq, dMut, dSetQ, dParQ, qMake, D.still, D.stills, lf_past, lf_word, lf_letters, pf_past, pf_later, pm1, pm2, pm3, pm4, pi1, pi2, pi3, pi4, pi5, lm_state, lm_text, lm_search]
  refine for_enum blkD (fun p r n' ε => ∃ (acc : List Pr) (s4 s5 s6 s7 s8 s9 : Sl), n' = n ∧ ε = [.val (.lst ((a :: w).map blkD)), .val (.lst (bt.map blkD)), .own (.lst (acc.map prD)), .val (.int (tot 0 p : Nat)), s4, s5, s6, s7, s8, s9] ∧ acc ++ rowsOf (a :: w) (tot 0 p) r = rowsOf (a :: w) 0 bt ∧ acc.length ≤ p.length) bt ⟨[], .no, .no, .no, .no, .no, .no, rfl, rfl, rfl, Nat.le_refl _⟩ ?_ ?_
  · rintro n' ε ⟨acc, s4, s5, s6, s7, s8, s9, rfl, rfl, h1, h2⟩
    rw [rowsOf, List.append_nil] at h1
    rw [h1]
    exact hnx _ _ ⟨rfl, _, _, _, _, _, _, _, rfl⟩
  rintro p b r n' ε nxt e0 ih ⟨acc, s4, s5, s6, s7, s8, s9, rfl, rfl, h1, h2⟩
  have hbt : bt.length = p.length + (r.length + 1) := by rw [e0, List.length_append, List.length_cons]
  have hdrop : bt.drop p.length = b :: r := by rw [e0]; simp
  have hk : tot 0 (p ++ [b]) = tot 0 p + b.2 := by rw [tot_snoc]
  have hb1 : 1 ≤ b.2 := gt.pos b (by rw [e0]; simp)
  have hal : acc.length ≤ 1000 := by omega
  have fin : ∀ (NN : DN), NN.nx = nxt → ∀ (acc2 : List Pr) (s4 s5 s7 s8 s9 : Sl), acc2 ++ rowsOf (a :: w) (tot 0 p + b.2) r = rowsOf (a :: w) 0 bt → acc2.length ≤ p.length + 1 →
      (dSet 3 (dOp gAdd (dVar 3) (dVar 6))) NN n' [.val (.lst ((a :: w).map blkD)), .val (.lst (bt.map blkD)), .own (.lst (acc2.map prD)), .val (.int (tot 0 p : Nat)), s4, s5, .val (.int b.2), s7, s8, s9] := fun NN e acc2 s4 s5 s7 s8 s9 z1 z2 => by
    simp only [envOf, dRet, dRetN, dOp, dSl, dSlO, dVar, dC, pSome, pNo, ev_sll, ev_slt, ev_sls, dBi, dCons, dNil, ev_lenl, ev_lent, ev_lens, ev_lenr, ev_gI, TC, Pd.gSub, gLt, gLe, gGt, gGe, gMod, gFdiv, gPow, gEq, gNe, ev_oki, ev_oks, ev_okl, ev_okt, gIs, gIsNot, gIsB, gIsNotB, Pd.isNon, dCall, dSeq, dSet, dSetO, dMul, setL, bCons, bOwn, bNil, dIf, dIte, dTB, dAnd, dOr, dNot, dBV, dAndV, dOrV, dChain, dTmp, dTmpT, frzE, dFrz, OD.d, dIxO, dApp, dSetI, dNeg, dLst, dLstO, dTup, dO, dDrop, ev_abs, ev_inttoi, ev_inttob, ev_inttos, ev_strtoi, ev_listl, ev_listt, ev_lists, ev_tupl, ev_tupt, ev_addi, ev_adds, ev_addl, ev_addt, ev_muli, ev_muls, ev_mull, ev_max, ev_min, ev_all, ev_any, gRepr, dLRg, Pd.r1, Pd.r2, eqD_str, eqD_int, eqD_bl, dFld, dProp, dMeth, dAugI, dRev, dMake, dIsi, isT, isC, dNx, dBrk, dNev, dFst, gNm, gTp, gsCons, gsNil, dAsg, dStar, dYes, iniEnd, flatD, wipeE, ev_ixl, ev_ixt, ev_ixs, ev_ixr, ev_srcl, ev_srct, ev_srcs, ev_at0, ev_at1, ev_atl, ev_atn, ev_ixn, Option.some.injEq, exists_eq_left', exists_eq_left, List.foldl_cons, List.foldl_nil, List.map_cons, List.map_nil, List.replicate, List.length_append, List.length_map, List.length_cons, List.length_nil, List.cons_append, List.nil_append, List.append_nil, List.getElem?_cons_zero, List.getElem?_cons_succ, List.set_cons_zero, List.set_cons_succ, Nat.zero_add, Nat.reduceAdd, Nat.reduceSub, Nat.reduceLeDiff, true_and, and_true, decide_eq_true_eq, decide_eq_false_iff_not, ne_eq, reduceCtorEq, false_implies, true_implies, forall_const, Bool.and_self, Bool.and_true, Bool.true_and, lk_ends, lk_blocks, lk_text, lk_spot, lk_letter, Int.toNat_natCast, dFldO, dTmq, dMut, dSetQ, dParQ, qMake, D.still, D.stills, lf_past, lf_word, lf_letters, pf_past, pf_later, pm1, pm2, pm3, pm4, pi1, pi2, pi3, pi4, pi5, lm_state, lm_text, lm_search]
    rw [e]
    exact ih _ _ ⟨acc2, s4, s5, .val (.int b.2), s7, s8, s9, rfl, by rw [hk]; rfl, by rw [hk]; exact z1, by rw [List.length_append]; exact z2⟩
  have none : rowsOf (a :: w) (tot 0 p) (b :: r) = rowsOf (a :: w) (tot 0 p + b.2) r → acc ++ rowsOf (a :: w) (tot 0 p + b.2) r = rowsOf (a :: w) 0 bt := fun h => by rw [← h]; exact h1
  have some1 : ∀ row : Pr, rowsOf (a :: w) (tot 0 p) (b :: r) = [row] ++ rowsOf (a :: w) (tot 0 p + b.2) r → (acc ++ [row]) ++ rowsOf (a :: w) (tot 0 p + b.2) r = rowsOf (a :: w) 0 bt := fun row h => by rw [← h1, h, List.append_assoc]
  refine ⟨rfl, rfl, ?_⟩
  dsimp only [gsCons, gsNil, gNm]
  refine seqAt n' [.val (.lst ((a :: w).map blkD)), .val (.lst (bt.map blkD)), .own (.lst (acc.map prD)), .val (.int (tot 0 p : Nat)), .val (.int (p.length : Nat)), .val (.str [b.1]), .val (.int b.2), .val (.int a.2), s8, s9] (fun nx hnx => ?_) ?_
  · simp only [gsCons, gsNil, gNm, blkD, envOf, dRet, dRetN, dOp, dSl, dSlO, dVar, dC, pSome, pNo, ev_sll, ev_slt, ev_sls, dBi, dCons, dNil, ev_lenl, ev_lent, ev_lens, ev_lenr, ev_gI, TC, Pd.gSub, gLt, gLe, gGt, gGe, gMod, gFdiv, gPow, gEq, gNe, ev_oki, ev_oks, ev_okl, ev_okt, gIs, gIsNot, gIsB, gIsNotB, Pd.isNon, dCall, dSeq, dSet, dSetO, dMul, setL, bCons, bOwn, bNil, dIf, dIte, dTB, dAnd, dOr, dNot, dBV, dAndV, dOrV, dChain, dTmp, dTmpT, frzE, dFrz, OD.d, dIxO, dApp, dSetI, dNeg, dLst, dLstO, dTup, dO, dDrop, ev_abs, ev_inttoi, ev_inttob, ev_inttos, ev_strtoi, ev_listl, ev_listt, ev_lists, ev_tupl, ev_tupt, ev_addi, ev_adds, ev_addl, ev_addt, ev_muli, ev_muls, ev_mull, ev_max, ev_min, ev_all, ev_any, gRepr, dLRg, Pd.r1, Pd.r2, eqD_str, eqD_int, eqD_bl, dFld, dProp, dMeth, dAugI, dRev, dMake, dIsi, isT, isC, dNx, dBrk, dNev, dFst, gNm, gTp, gsCons, gsNil, dAsg, dStar, dYes, iniEnd, flatD, wipeE, ev_ixl, ev_ixt, ev_ixs, ev_ixr, ev_srcl, ev_srct, ev_srcs, ev_at0, ev_at1, ev_atl, ev_atn, ev_ixn, Option.some.injEq, exists_eq_left', exists_eq_left, List.foldl_cons, List.foldl_nil, List.map_cons, List.map_nil, List.replicate, List.length_append, List.length_map, List.length_cons, List.length_nil, List.cons_append, List.nil_append, List.append_nil, List.getElem?_cons_zero, List.getElem?_cons_succ, List.set_cons_zero, List.set_cons_succ, Nat.zero_add, Nat.reduceAdd, Nat.reduceSub, Nat.reduceLeDiff, true_and, and_true, decide_eq_true_eq, decide_eq_false_iff_not, ne_eq, reduceCtorEq, false_implies, true_implies, forall_const, Bool.and_self, Bool.and_true, Bool.true_and, lk_ends, lk_blocks, lk_text, lk_spot, lk_letter, Int.toNat_natCast, dFldO, dTmq, dMut, dSetQ, dParQ, qMake, D.still, D.stills, lf_past, lf_word, lf_letters, pf_past, pf_later, pm1, pm2, pm3, pm4, pi1, pi2, pi3, pi4, pi5, lm_state, lm_text, lm_search]
    exact hnx
  have hcut : cut (bt.map blkD) (some (p.length : Int)) (some ((p.length : Int) + ((w.length + 1 : Nat) : Int))) = ((b :: r).take (w.length + 1)).map blkD := by
    rw [show ((p.length : Int) + ((w.length + 1 : Nat) : Int)) = ((p.length + (w.length + 1) : Nat) : Int) by omega, cut_mid, show p.length + (w.length + 1) - p.length = w.length + 1 by omega, ← List.map_drop, hdrop, ← List.map_take]
  have beh : ∀ (acc2 : List Pr) (B : DS) (NN : DN), B NN n' [.val (.lst ((a :: w).map blkD)), .val (.lst (bt.map blkD)), .own (.lst (acc2.map prD)), .val (.int (tot 0 p : Nat)), .val (.int (p.length : Nat)), .val (.str [b.1]), .val (.int b.2), .val (.int a.2), .val (.lst (((b :: r).take (w.length + 1)).map blkD)), s9] →
      dSeq (dSet 8 (dSl (dVar 1) (pSome (dVar 4)) (pSome (dOp gAdd (dVar 4) (dBi gLen (dCons (dVar 0) dNil)))))) B NN n' [.val (.lst ((a :: w).map blkD)), .val (.lst (bt.map blkD)), .own (.lst (acc2.map prD)), .val (.int (tot 0 p : Nat)), .val (.int (p.length : Nat)), .val (.str [b.1]), .val (.int b.2), .val (.int a.2), s8, s9] := fun acc2 B NN hB => by
    refine seqAt n' [.val (.lst ((a :: w).map blkD)), .val (.lst (bt.map blkD)), .own (.lst (acc2.map prD)), .val (.int (tot 0 p : Nat)), .val (.int (p.length : Nat)), .val (.str [b.1]), .val (.int b.2), .val (.int a.2), .val (.lst (((b :: r).take (w.length + 1)).map blkD)), s9] (fun nx hnx => ?_) hB
    rw [← hcut] at hnx
    simp only [envOf, dRet, dRetN, dOp, dSl, dSlO, dVar, dC, pSome, pNo, ev_sll, ev_slt, ev_sls, dBi, dCons, dNil, ev_lenl, ev_lent, ev_lens, ev_lenr, ev_gI, TC, Pd.gSub, gLt, gLe, gGt, gGe, gMod, gFdiv, gPow, gEq, gNe, ev_oki, ev_oks, ev_okl, ev_okt, gIs, gIsNot, gIsB, gIsNotB, Pd.isNon, dCall, dSeq, dSet, dSetO, dMul, setL, bCons, bOwn, bNil, dIf, dIte, dTB, dAnd, dOr, dNot, dBV, dAndV, dOrV, dChain, dTmp, dTmpT, frzE, dFrz, OD.d, dIxO, dApp, dSetI, dNeg, dLst, dLstO, dTup, dO, dDrop, ev_abs, ev_inttoi, ev_inttob, ev_inttos, ev_strtoi, ev_listl, ev_listt, ev_lists, ev_tupl, ev_tupt, ev_addi, ev_adds, ev_addl, ev_addt, ev_muli, ev_muls, ev_mull, ev_max, ev_min, ev_all, ev_any, gRepr, dLRg, Pd.r1, Pd.r2, eqD_str, eqD_int, eqD_bl, dFld, dProp, dMeth, dAugI, dRev, dMake, dIsi, isT, isC, dNx, dBrk, dNev, dFst, gNm, gTp, gsCons, gsNil, dAsg, dStar, dYes, iniEnd, flatD, wipeE, ev_ixl, ev_ixt, ev_ixs, ev_ixr, ev_srcl, ev_srct, ev_srcs, ev_at0, ev_at1, ev_atl, ev_atn, ev_ixn, Option.some.injEq, exists_eq_left', exists_eq_left, List.foldl_cons, List.foldl_nil, List.map_cons, List.map_nil, List.replicate, List.length_append, List.length_map, List.length_cons, List.length_nil, List.cons_append, List.nil_append, List.append_nil, List.getElem?_cons_zero, List.getElem?_cons_succ, List.set_cons_zero, List.set_cons_succ, Nat.zero_add, Nat.reduceAdd, Nat.reduceSub, Nat.reduceLeDiff, true_and, and_true, decide_eq_true_eq, decide_eq_false_iff_not, ne_eq, reduceCtorEq, false_implies, true_implies, forall_const, Bool.and_self, Bool.and_true, Bool.true_and, lk_ends, lk_blocks, lk_text, lk_spot, lk_letter, Int.toNat_natCast, dFldO, dTmq, dMut, dSetQ, dParQ, qMake, D.still, D.stills, lf_past, lf_word, lf_letters, pf_past, pf_later, pm1, pm2, pm3, pm4, pi1, pi2, pi3, pi4, pi5, lm_state, lm_text, lm_search] at hnx ⊢
    exact hnx
  rcases List.eq_nil_or_concat w with rfl | ⟨mid, e, hw⟩
  · -- a word of one block
    have hst : stands 1 0 [a] (b :: r) = decide (a.1 = b.1 ∧ a.2 ≤ b.2) := by
      rw [Bool.eq_iff_iff, decide_eq_true_eq]
      constructor
      · exact st_head54
      · intro ⟨z1, z2⟩
        rw [stands, Bool.and_eq_true, Bool.not_eq_true', decide_eq_false_iff_not]
        refine ⟨fun z => ?_, by simp [stands]⟩
        rcases z with z | z | z
        · exact z z1
        · omega
        · omega
    have hd : ([a].head?.map (·.2)).getD 0 = a.2 := rfl
    have hrow : rowsOf [a] (tot 0 p) (b :: r) = (if a.1 = b.1 ∧ a.2 ≤ b.2 then [(tot 0 p, tot 0 p + b.2 - a.2)] else []) ++ rowsOf [a] (tot 0 p + b.2) r := by
      rw [rowsOf]
      congr 1
      simp only [List.length_singleton, hst, hd, decide_eq_true_eq, if_true]
      by_cases hc : a.1 = b.1 ∧ a.2 ≤ b.2
      · rw [if_pos hc, if_pos ⟨by rw [List.length_cons]; omega, hc⟩]
      · rw [if_neg hc, if_neg fun z => hc z.2]
    have c1 : ∀ (P : Nat → Bool → Prop) (ow : OD) (s9 : Sl), P n' false → (dAnd (dTB (dOp gGt (dBi gLen (dCons (dVar 0) dNil)) (dC (.int 1)))) (dAnd (dTB (dOp gEq (dBi gLen (dCons (dVar 8) dNil)) (dBi gLen (dCons (dVar 0) dNil)))) (dAnd (dTB (dOp gEq (dVar 5) (dOp gIx (dOp gIx (dVar 0) (dC (.int 0))) (dC (.int 0))))) (dTB (dOp gGe (dVar 6) (dVar 7)))))) n' [.val (.lst ([a].map blkD)), .val (.lst (bt.map blkD)), .own ow, .val (.int (tot 0 p : Nat)), .val (.int (p.length : Nat)), .val (.str [b.1]), .val (.int b.2), .val (.int a.2), .val (.lst (((b :: r).take 1).map blkD)), s9] P := fun P ow s9 hP => by
      simp only [envOf, dRet, dRetN, dOp, dSl, dSlO, dVar, dC, pSome, pNo, ev_sll, ev_slt, ev_sls, dBi, dCons, dNil, ev_lenl, ev_lent, ev_lens, ev_lenr, ev_gI, TC, Pd.gSub, gLt, gLe, gGt, gGe, gMod, gFdiv, gPow, gEq, gNe, ev_oki, ev_oks, ev_okl, ev_okt, gIs, gIsNot, gIsB, gIsNotB, Pd.isNon, dCall, dSeq, dSet, dSetO, dMul, setL, bCons, bOwn, bNil, dIf, dIte, dTB, dAnd, dOr, dNot, dBV, dAndV, dOrV, dChain, dTmp, dTmpT, frzE, dFrz, OD.d, dIxO, dApp, dSetI, dNeg, dLst, dLstO, dTup, dO, dDrop, ev_abs, ev_inttoi, ev_inttob, ev_inttos, ev_strtoi, ev_listl, ev_listt, ev_lists, ev_tupl, ev_tupt, ev_addi, ev_adds, ev_addl, ev_addt, ev_muli, ev_muls, ev_mull, ev_max, ev_min, ev_all, ev_any, gRepr, dLRg, Pd.r1, Pd.r2, eqD_str, eqD_int, eqD_bl, dFld, dProp, dMeth, dAugI, dRev, dMake, dIsi, isT, isC, dNx, dBrk, dNev, dFst, gNm, gTp, gsCons, gsNil, dAsg, dStar, dYes, iniEnd, flatD, wipeE, ev_ixl, ev_ixt, ev_ixs, ev_ixr, ev_srcl, ev_srct, ev_srcs, ev_at0, ev_at1, ev_atl, ev_atn, ev_ixn, Option.some.injEq, exists_eq_left', exists_eq_left, List.foldl_cons, List.foldl_nil, List.map_cons, List.map_nil, List.replicate, List.length_append, List.length_map, List.length_cons, List.length_nil, List.cons_append, List.nil_append, List.append_nil, List.getElem?_cons_zero, List.getElem?_cons_succ, List.set_cons_zero, List.set_cons_succ, Nat.zero_add, Nat.reduceAdd, Nat.reduceSub, Nat.reduceLeDiff, true_and, and_true, decide_eq_true_eq, decide_eq_false_iff_not, ne_eq, reduceCtorEq, false_implies, true_implies, forall_const, Bool.and_self, Bool.and_true, Bool.true_and, lk_ends, lk_blocks, lk_text, lk_spot, lk_letter, Int.toNat_natCast, dFldO, dTmq, dMut, dSetQ, dParQ, qMake, D.still, D.stills, lf_past, lf_word, lf_letters, pf_past, pf_later, pm1, pm2, pm3, pm4, pi1, pi2, pi3, pi4, pi5, lm_state, lm_text, lm_search]
      exact ⟨fun h => absurd h (by decide), fun _ => hP⟩
    by_cases hc : a.1 = b.1 ∧ a.2 ≤ b.2
    · rw [if_pos hc] at hrow
      refine seqAt n' [.val (.lst ([a].map blkD)), .val (.lst (bt.map blkD)), .own (.lst ((acc ++ [(tot 0 p, tot 0 p + b.2 - a.2)]).map prD)), .val (.int (tot 0 p : Nat)), .val (.int (p.length : Nat)), .val (.str [b.1]), .val (.int b.2), .val (.int a.2), s8, s9] (fun nx hnx => if_yes n' (fun P hP => ?_) ?_) ?_
      · simp only [blkD, envOf, dRet, dRetN, dOp, dSl, dSlO, dVar, dC, pSome, pNo, ev_sll, ev_slt, ev_sls, dBi, dCons, dNil, ev_lenl, ev_lent, ev_lens, ev_lenr, ev_gI, TC, Pd.gSub, gLt, gLe, gGt, gGe, gMod, gFdiv, gPow, gEq, gNe, ev_oki, ev_oks, ev_okl, ev_okt, gIs, gIsNot, gIsB, gIsNotB, Pd.isNon, dCall, dSeq, dSet, dSetO, dMul, setL, bCons, bOwn, bNil, dIf, dIte, dTB, dAnd, dOr, dNot, dBV, dAndV, dOrV, dChain, dTmp, dTmpT, frzE, dFrz, OD.d, dIxO, dApp, dSetI, dNeg, dLst, dLstO, dTup, dO, dDrop, ev_abs, ev_inttoi, ev_inttob, ev_inttos, ev_strtoi, ev_listl, ev_listt, ev_lists, ev_tupl, ev_tupt, ev_addi, ev_adds, ev_addl, ev_addt, ev_muli, ev_muls, ev_mull, ev_max, ev_min, ev_all, ev_any, gRepr, dLRg, Pd.r1, Pd.r2, eqD_str, eqD_int, eqD_bl, dFld, dProp, dMeth, dAugI, dRev, dMake, dIsi, isT, isC, dNx, dBrk, dNev, dFst, gNm, gTp, gsCons, gsNil, dAsg, dStar, dYes, iniEnd, flatD, wipeE, ev_ixl, ev_ixt, ev_ixs, ev_ixr, ev_srcl, ev_srct, ev_srcs, ev_at0, ev_at1, ev_atl, ev_atn, ev_ixn, Option.some.injEq, exists_eq_left', exists_eq_left, List.foldl_cons, List.foldl_nil, List.map_cons, List.map_nil, List.replicate, List.length_append, List.length_map, List.length_cons, List.length_nil, List.cons_append, List.nil_append, List.append_nil, List.getElem?_cons_zero, List.getElem?_cons_succ, List.set_cons_zero, List.set_cons_succ, Nat.zero_add, Nat.reduceAdd, Nat.reduceSub, Nat.reduceLeDiff, true_and, and_true, decide_eq_true_eq, decide_eq_false_iff_not, ne_eq, reduceCtorEq, false_implies, true_implies, forall_const, Bool.and_self, Bool.and_true, Bool.true_and, lk_ends, lk_blocks, lk_text, lk_spot, lk_letter, Int.toNat_natCast, dFldO, dTmq, dMut, dSetQ, dParQ, qMake, D.still, D.stills, lf_past, lf_word, lf_letters, pf_past, pf_later, pm1, pm2, pm3, pm4, pi1, pi2, pi3, pi4, pi5, lm_state, lm_text, lm_search]
        refine ⟨fun _ => ⟨fun _ => ?_, fun h => absurd (by rw [hc.1]) h⟩, fun h => absurd rfl h⟩
        rw [decide_eq_true (by omega)]
        exact hP
      · simp only [envOf, dRet, dRetN, dOp, dSl, dSlO, dVar, dC, pSome, pNo, ev_sll, ev_slt, ev_sls, dBi, dCons, dNil, ev_lenl, ev_lent, ev_lens, ev_lenr, ev_gI, TC, Pd.gSub, gLt, gLe, gGt, gGe, gMod, gFdiv, gPow, gEq, gNe, ev_oki, ev_oks, ev_okl, ev_okt, gIs, gIsNot, gIsB, gIsNotB, Pd.isNon, dCall, dSeq, dSet, dSetO, dMul, setL, bCons, bOwn, bNil, dIf, dIte, dTB, dAnd, dOr, dNot, dBV, dAndV, dOrV, dChain, dTmp, dTmpT, frzE, dFrz, OD.d, dIxO, dApp, dSetI, dNeg, dLst, dLstO, dTup, dO, dDrop, ev_abs, ev_inttoi, ev_inttob, ev_inttos, ev_strtoi, ev_listl, ev_listt, ev_lists, ev_tupl, ev_tupt, ev_addi, ev_adds, ev_addl, ev_addt, ev_muli, ev_muls, ev_mull, ev_max, ev_min, ev_all, ev_any, gRepr, dLRg, Pd.r1, Pd.r2, eqD_str, eqD_int, eqD_bl, dFld, dProp, dMeth, dAugI, dRev, dMake, dIsi, isT, isC, dNx, dBrk, dNev, dFst, gNm, gTp, gsCons, gsNil, dAsg, dStar, dYes, iniEnd, flatD, wipeE, ev_ixl, ev_ixt, ev_ixs, ev_ixr, ev_srcl, ev_srct, ev_srcs, ev_at0, ev_at1, ev_atl, ev_atn, ev_ixn, Option.some.injEq, exists_eq_left', exists_eq_left, List.foldl_cons, List.foldl_nil, List.map_cons, List.map_nil, List.replicate, List.length_append, List.length_map, List.length_cons, List.length_nil, List.cons_append, List.nil_append, List.append_nil, List.getElem?_cons_zero, List.getElem?_cons_succ, List.set_cons_zero, List.set_cons_succ, Nat.zero_add, Nat.reduceAdd, Nat.reduceSub, Nat.reduceLeDiff, true_and, and_true, decide_eq_true_eq, decide_eq_false_iff_not, ne_eq, reduceCtorEq, false_implies, true_implies, forall_const, Bool.and_self, Bool.and_true, Bool.true_and, lk_ends, lk_blocks, lk_text, lk_spot, lk_letter, Int.toNat_natCast, dFldO, dTmq, dMut, dSetQ, dParQ, qMake, D.still, D.stills, lf_past, lf_word, lf_letters, pf_past, pf_later, pm1, pm2, pm3, pm4, pi1, pi2, pi3, pi4, pi5, lm_state, lm_text, lm_search] at hnx ⊢
        refine ⟨by omega, ?_⟩
        have e : prD (tot 0 p, tot 0 p + b.2 - a.2) = .tup [.int (tot 0 p : Nat), .int ((tot 0 p : Int) + (b.2 : Int) - (a.2 : Int))] := by
          unfold prD
          dsimp only
          rw [show ((tot 0 p + b.2 - a.2 : Nat) : Int) = (tot 0 p : Int) + (b.2 : Int) - (a.2 : Int) by omega]
        rw [List.map_append, List.map_cons, List.map_nil, e] at hnx
        exact hnx
      exact beh _ _ _ (seqAt n' _ (fun nx hnx => if_not n' (fun P hP => c1 P _ _ hP) hnx) (fin _ rfl _ _ _ _ _ _ (some1 _ hrow) (by rw [List.length_append]; exact Nat.succ_le_succ h2)))
    · rw [if_neg hc, List.nil_append] at hrow
      refine seqAt n' _ (fun nx hnx => if_not n' (fun P hP => ?_) hnx) (beh acc _ _ (seqAt n' _ (fun nx hnx => if_not n' (fun P hP => c1 P _ _ hP) hnx) (fin _ rfl _ _ _ _ _ _ (none hrow) (by omega))))
      simp only [blkD, envOf, dRet, dRetN, dOp, dSl, dSlO, dVar, dC, pSome, pNo, ev_sll, ev_slt, ev_sls, dBi, dCons, dNil, ev_lenl, ev_lent, ev_lens, ev_lenr, ev_gI, TC, Pd.gSub, gLt, gLe, gGt, gGe, gMod, gFdiv, gPow, gEq, gNe, ev_oki, ev_oks, ev_okl, ev_okt, gIs, gIsNot, gIsB, gIsNotB, Pd.isNon, dCall, dSeq, dSet, dSetO, dMul, setL, bCons, bOwn, bNil, dIf, dIte, dTB, dAnd, dOr, dNot, dBV, dAndV, dOrV, dChain, dTmp, dTmpT, frzE, dFrz, OD.d, dIxO, dApp, dSetI, dNeg, dLst, dLstO, dTup, dO, dDrop, ev_abs, ev_inttoi, ev_inttob, ev_inttos, ev_strtoi, ev_listl, ev_listt, ev_lists, ev_tupl, ev_tupt, ev_addi, ev_adds, ev_addl, ev_addt, ev_muli, ev_muls, ev_mull, ev_max, ev_min, ev_all, ev_any, gRepr, dLRg, Pd.r1, Pd.r2, eqD_str, eqD_int, eqD_bl, dFld, dProp, dMeth, dAugI, dRev, dMake, dIsi, isT, isC, dNx, dBrk, dNev, dFst, gNm, gTp, gsCons, gsNil, dAsg, dStar, dYes, iniEnd, flatD, wipeE, ev_ixl, ev_ixt, ev_ixs, ev_ixr, ev_srcl, ev_srct, ev_srcs, ev_at0, ev_at1, ev_atl, ev_atn, ev_ixn, Option.some.injEq, exists_eq_left', exists_eq_left, List.foldl_cons, List.foldl_nil, List.map_cons, List.map_nil, List.replicate, List.length_append, List.length_map, List.length_cons, List.length_nil, List.cons_append, List.nil_append, List.append_nil, List.getElem?_cons_zero, List.getElem?_cons_succ, List.set_cons_zero, List.set_cons_succ, Nat.zero_add, Nat.reduceAdd, Nat.reduceSub, Nat.reduceLeDiff, true_and, and_true, decide_eq_true_eq, decide_eq_false_iff_not, ne_eq, reduceCtorEq, false_implies, true_implies, forall_const, Bool.and_self, Bool.and_true, Bool.true_and, lk_ends, lk_blocks, lk_text, lk_spot, lk_letter, Int.toNat_natCast, dFldO, dTmq, dMut, dSetQ, dParQ, qMake, D.still, D.stills, lf_past, lf_word, lf_letters, pf_past, pf_later, pm1, pm2, pm3, pm4, pi1, pi2, pi3, pi4, pi5, lm_state, lm_text, lm_search]
      refine ⟨fun _ => ⟨fun h => ?_, fun _ => hP⟩, fun _ => hP⟩
      rw [decide_eq_false]
      · exact hP
      · intro z
        simp only [List.cons.injEq, and_true] at h
        exact hc ⟨h.symm, by omega⟩
  · -- a word of more
    rw [List.concat_eq_append] at hw
    subst hw
    have hwlen : (mid ++ [e]).length = mid.length + 1 := by rw [List.length_append]; rfl
    generalize hww : mid ++ [e] = w at *
    have hw := hww.symm
    have hd : ((a :: w).head?.map (·.2)).getD 0 = a.2 := rfl
    refine seqAt n' _ (fun nx hnx => if_not n' (fun P hP => ?_) hnx) (beh acc _ _ ?_)
    · simp only [blkD, envOf, dRet, dRetN, dOp, dSl, dSlO, dVar, dC, pSome, pNo, ev_sll, ev_slt, ev_sls, dBi, dCons, dNil, ev_lenl, ev_lent, ev_lens, ev_lenr, ev_gI, TC, Pd.gSub, gLt, gLe, gGt, gGe, gMod, gFdiv, gPow, gEq, gNe, ev_oki, ev_oks, ev_okl, ev_okt, gIs, gIsNot, gIsB, gIsNotB, Pd.isNon, dCall, dSeq, dSet, dSetO, dMul, setL, bCons, bOwn, bNil, dIf, dIte, dTB, dAnd, dOr, dNot, dBV, dAndV, dOrV, dChain, dTmp, dTmpT, frzE, dFrz, OD.d, dIxO, dApp, dSetI, dNeg, dLst, dLstO, dTup, dO, dDrop, ev_abs, ev_inttoi, ev_inttob, ev_inttos, ev_strtoi, ev_listl, ev_listt, ev_lists, ev_tupl, ev_tupt, ev_addi, ev_adds, ev_addl, ev_addt, ev_muli, ev_muls, ev_mull, ev_max, ev_min, ev_all, ev_any, gRepr, dLRg, Pd.r1, Pd.r2, eqD_str, eqD_int, eqD_bl, dFld, dProp, dMeth, dAugI, dRev, dMake, dIsi, isT, isC, dNx, dBrk, dNev, dFst, gNm, gTp, gsCons, gsNil, dAsg, dStar, dYes, iniEnd, flatD, wipeE, ev_ixl, ev_ixt, ev_ixs, ev_ixr, ev_srcl, ev_srct, ev_srcs, ev_at0, ev_at1, ev_atl, ev_atn, ev_ixn, Option.some.injEq, exists_eq_left', exists_eq_left, List.foldl_cons, List.foldl_nil, List.map_cons, List.map_nil, List.replicate, List.length_append, List.length_map, List.length_cons, List.length_nil, List.cons_append, List.nil_append, List.append_nil, List.getElem?_cons_zero, List.getElem?_cons_succ, List.set_cons_zero, List.set_cons_succ, Nat.zero_add, Nat.reduceAdd, Nat.reduceSub, Nat.reduceLeDiff, true_and, and_true, decide_eq_true_eq, decide_eq_false_iff_not, ne_eq, reduceCtorEq, false_implies, true_implies, forall_const, Bool.and_self, Bool.and_true, Bool.true_and, lk_ends, lk_blocks, lk_text, lk_spot, lk_letter, Int.toNat_natCast, dFldO, dTmq, dMut, dSetQ, dParQ, qMake, D.still, D.stills, lf_past, lf_word, lf_letters, pf_past, pf_later, pm1, pm2, pm3, pm4, pi1, pi2, pi3, pi4, pi5, lm_state, lm_text, lm_search]
      exact ⟨fun h => absurd h (by omega), fun _ => hP⟩
    have hlb : (((b :: r).take (w.length + 1)).map blkD).length = min (w.length + 1) (r.length + 1) := by rw [List.length_map, List.length_take, List.length_cons]
    by_cases hlen : w.length ≤ r.length
    · obtain ⟨q1, f, s, hr, hq⟩ : ∃ (q1 : List Bl) (f : Bl) (s : List Bl), r = q1 ++ f :: s ∧ q1.length = mid.length := by
        have hm : mid.length < r.length := by omega
        refine ⟨r.take mid.length, r[mid.length], r.drop (mid.length + 1), ?_, by rw [List.length_take]; omega⟩
        rw [← List.drop_eq_getElem_cons hm, List.take_append_drop]
      have hst : stands (a :: w).length 0 (a :: w) (b :: r) = true ↔ (a.1 = b.1 ∧ a.2 ≤ b.2) ∧ mid = q1 ∧ e.1 = f.1 ∧ e.2 ≤ f.2 := by
        constructor
        · intro h
          refine ⟨st_head54 h, ?_⟩
          rw [stands, Bool.and_eq_true] at h
          have h := h.2
          rw [hw, hr] at h
          exact (stands_end54 mid q1 s 1 (by omega) (by rw [List.length_cons, List.length_append, List.length_singleton]; omega) hq.symm).mp h
        · intro ⟨⟨z1, z2⟩, z3⟩
          rw [stands, Bool.and_eq_true, Bool.not_eq_true', decide_eq_false_iff_not]
          refine ⟨fun z => ?_, ?_⟩
          · rcases z with z | z | z
            · exact z z1
            · omega
            · omega
          · rw [hw, hr]
            exact (stands_end54 mid q1 s 1 (by omega) (by rw [List.length_cons, List.length_append, List.length_singleton]; omega) hq.symm).mpr z3
      have hrow : rowsOf (a :: w) (tot 0 p) (b :: r) = (if (a.1 = b.1 ∧ a.2 ≤ b.2) ∧ mid = q1 ∧ e.1 = f.1 ∧ e.2 ≤ f.2 then [(tot 0 p + b.2 - a.2, tot 0 p + b.2 - a.2)] else []) ++ rowsOf (a :: w) (tot 0 p + b.2) r := by
        rw [rowsOf]
        congr 1
        rw [hd]
        have h1 : ¬ (a :: w).length = 1 := by rw [List.length_cons]; omega
        simp only [if_neg h1]
        by_cases hc : (a.1 = b.1 ∧ a.2 ≤ b.2) ∧ mid = q1 ∧ e.1 = f.1 ∧ e.2 ≤ f.2
        · rw [if_pos hc, if_pos ⟨by rw [List.length_cons, List.length_cons]; omega, hst.mpr hc⟩]
        · rw [if_neg hc, if_neg fun z => hc (hst.mp z.2)]
      have htk : (b :: r).take (w.length + 1) = b :: (q1 ++ [f]) := by
        rw [List.take_succ_cons, hr, hwlen, ← hq, List.take_append, List.take_of_length_le (by omega), show q1.length + 1 - q1.length = 1 by omega]
        rfl
      rw [htk]
      by_cases hab : a.1 = b.1 ∧ a.2 ≤ b.2
      · have hC : ((a.1 = b.1 ∧ a.2 ≤ b.2) ∧ mid = q1 ∧ e.1 = f.1 ∧ e.2 ≤ f.2) ↔ (f.1 = e.1 ∧ e.2 ≤ f.2) ∧ q1 = mid := ⟨fun z => ⟨⟨z.2.2.1.symm, z.2.2.2⟩, z.2.1.symm⟩, fun z => ⟨hab, z.2.symm, z.1.1.symm, z.1.2⟩⟩
        simp only [hC] at hrow
        have oq : okD (.lst (q1.map blkD)) = true := okD_blks fun y hy => hlt y (by rw [e0, hr]; simp [hy])
        have om : okD (.lst (mid.map blkD)) = true := okD_blks fun y hy => hwlt y (by rw [hw]; simp [hy])
        refine seq_all (fun n1 ε => n1 = n' ∧ ∃ s9' : Sl, ε = [.val (.lst ((a :: w).map blkD)), .val (.lst (bt.map blkD)), .own (.lst ((acc ++ (if (f.1 = e.1 ∧ e.2 ≤ f.2) ∧ q1 = mid then [(tot 0 p + b.2 - a.2, tot 0 p + b.2 - a.2)] else [])).map prD)), .val (.int (tot 0 p : Nat)), .val (.int (p.length : Nat)), .val (.str [b.1]), .val (.int b.2), .val (.int a.2), .val (.lst ((b :: (q1 ++ [f])).map blkD)), s9']) (fun nx hnx => if_yes n' (fun P hP => ?_) ?_) ?_
        · simp only [blkD, envOf, dRet, dRetN, dOp, dSl, dSlO, dVar, dC, pSome, pNo, ev_sll, ev_slt, ev_sls, dBi, dCons, dNil, ev_lenl, ev_lent, ev_lens, ev_lenr, ev_gI, TC, Pd.gSub, gLt, gLe, gGt, gGe, gMod, gFdiv, gPow, gEq, gNe, ev_oki, ev_oks, ev_okl, ev_okt, gIs, gIsNot, gIsB, gIsNotB, Pd.isNon, dCall, dSeq, dSet, dSetO, dMul, setL, bCons, bOwn, bNil, dIf, dIte, dTB, dAnd, dOr, dNot, dBV, dAndV, dOrV, dChain, dTmp, dTmpT, frzE, dFrz, OD.d, dIxO, dApp, dSetI, dNeg, dLst, dLstO, dTup, dO, dDrop, ev_abs, ev_inttoi, ev_inttob, ev_inttos, ev_strtoi, ev_listl, ev_listt, ev_lists, ev_tupl, ev_tupt, ev_addi, ev_adds, ev_addl, ev_addt, ev_muli, ev_muls, ev_mull, ev_max, ev_min, ev_all, ev_any, gRepr, dLRg, Pd.r1, Pd.r2, eqD_str, eqD_int, eqD_bl, dFld, dProp, dMeth, dAugI, dRev, dMake, dIsi, isT, isC, dNx, dBrk, dNev, dFst, gNm, gTp, gsCons, gsNil, dAsg, dStar, dYes, iniEnd, flatD, wipeE, ev_ixl, ev_ixt, ev_ixs, ev_ixr, ev_srcl, ev_srct, ev_srcs, ev_at0, ev_at1, ev_atl, ev_atn, ev_ixn, Option.some.injEq, exists_eq_left', exists_eq_left, List.foldl_cons, List.foldl_nil, List.map_cons, List.map_nil, List.replicate, List.length_append, List.length_map, List.length_cons, List.length_nil, List.cons_append, List.nil_append, List.append_nil, List.getElem?_cons_zero, List.getElem?_cons_succ, List.set_cons_zero, List.set_cons_succ, Nat.zero_add, Nat.reduceAdd, Nat.reduceSub, Nat.reduceLeDiff, true_and, and_true, decide_eq_true_eq, decide_eq_false_iff_not, ne_eq, reduceCtorEq, false_implies, true_implies, forall_const, Bool.and_self, Bool.and_true, Bool.true_and, lk_ends, lk_blocks, lk_text, lk_spot, lk_letter, Int.toNat_natCast, dFldO, dTmq, dMut, dSetQ, dParQ, qMake, D.still, D.stills, lf_past, lf_word, lf_letters, pf_past, pf_later, pm1, pm2, pm3, pm4, pi1, pi2, pi3, pi4, pi5, lm_state, lm_text, lm_search]
          refine ⟨fun _ => ⟨fun _ => ⟨fun _ => ?_, fun h => absurd (by rw [hab.1]) h⟩, fun h => absurd (by omega) h⟩, fun h => absurd (by omega) h⟩
          rw [decide_eq_true (by omega)]
          exact hP
        · refine seqAt n' [.val (.lst ((a :: w).map blkD)), .val (.lst (bt.map blkD)), .own (.lst (acc.map prD)), .val (.int (tot 0 p : Nat)), .val (.int (p.length : Nat)), .val (.str [b.1]), .val (.int b.2), .val (.int a.2), .val (.lst ((b :: (q1 ++ [f])).map blkD)), .val (.bl (decide (f.1 = e.1 ∧ e.2 ≤ f.2)))] (fun nx2 hnx2 => ?_) ?_
          · rw [hw] at hnx2 ⊢
            simp only [blkD, List.map_append, List.map_cons, List.map_nil, at_end54, envOf, dRet, dRetN, dOp, dSl, dSlO, dVar, dC, pSome, pNo, ev_sll, ev_slt, ev_sls, dBi, dCons, dNil, ev_lenl, ev_lent, ev_lens, ev_lenr, ev_gI, TC, Pd.gSub, gLt, gLe, gGt, gGe, gMod, gFdiv, gPow, gEq, gNe, ev_oki, ev_oks, ev_okl, ev_okt, gIs, gIsNot, gIsB, gIsNotB, Pd.isNon, dCall, dSeq, dSet, dSetO, dMul, setL, bCons, bOwn, bNil, dIf, dIte, dTB, dAnd, dOr, dNot, dBV, dAndV, dOrV, dChain, dTmp, dTmpT, frzE, dFrz, OD.d, dIxO, dApp, dSetI, dNeg, dLst, dLstO, dTup, dO, dDrop, ev_abs, ev_inttoi, ev_inttob, ev_inttos, ev_strtoi, ev_listl, ev_listt, ev_lists, ev_tupl, ev_tupt, ev_addi, ev_adds, ev_addl, ev_addt, ev_muli, ev_muls, ev_mull, ev_max, ev_min, ev_all, ev_any, gRepr, dLRg, Pd.r1, Pd.r2, eqD_str, eqD_int, eqD_bl, dFld, dProp, dMeth, dAugI, dRev, dMake, dIsi, isT, isC, dNx, dBrk, dNev, dFst, gNm, gTp, gsCons, gsNil, dAsg, dStar, dYes, iniEnd, flatD, wipeE, ev_ixl, ev_ixt, ev_ixs, ev_ixr, ev_srcl, ev_srct, ev_srcs, ev_at0, ev_at1, ev_atl, ev_atn, ev_ixn, Option.some.injEq, exists_eq_left', exists_eq_left, List.foldl_cons, List.foldl_nil, List.map_cons, List.map_nil, List.replicate, List.length_append, List.length_map, List.length_cons, List.length_nil, List.cons_append, List.nil_append, List.append_nil, List.getElem?_cons_zero, List.getElem?_cons_succ, List.set_cons_zero, List.set_cons_succ, Nat.zero_add, Nat.reduceAdd, Nat.reduceSub, Nat.reduceLeDiff, true_and, and_true, decide_eq_true_eq, decide_eq_false_iff_not, ne_eq, reduceCtorEq, false_implies, true_implies, forall_const, Bool.and_self, Bool.and_true, Bool.true_and, lk_ends, lk_blocks, lk_text, lk_spot, lk_letter, Int.toNat_natCast, dFldO, dTmq, dMut, dSetQ, dParQ, qMake, D.still, D.stills, lf_past, lf_word, lf_letters, pf_past, pf_later, pm1, pm2, pm3, pm4, pi1, pi2, pi3, pi4, pi5, lm_state, lm_text, lm_search] at hnx2 ⊢
            refine ⟨fun h => ?_, fun h => ?_⟩
            · have hfe : f.1 = e.1 := by simpa using h
              have e9 : decide (f.1 = e.1 ∧ e.2 ≤ f.2) = decide ((e.2 : Int) ≤ (f.2 : Int)) := by
                rw [decide_eq_decide]
                exact ⟨fun z => by omega, fun z => ⟨hfe, by omega⟩⟩
              rw [← e9]
              exact hnx2
            · have hfe : ¬ f.1 = e.1 := by simpa using h
              rw [decide_eq_false fun z => hfe z.1] at hnx2
              exact hnx2
          · rw [hw] at hnx ⊢
            simp only [List.map_append, List.map_cons, List.map_nil, cut_in54, envOf, dRet, dRetN, dOp, dSl, dSlO, dVar, dC, pSome, pNo, ev_sll, ev_slt, ev_sls, dBi, dCons, dNil, ev_lenl, ev_lent, ev_lens, ev_lenr, ev_gI, TC, Pd.gSub, gLt, gLe, gGt, gGe, gMod, gFdiv, gPow, gEq, gNe, ev_oki, ev_oks, ev_okl, ev_okt, gIs, gIsNot, gIsB, gIsNotB, Pd.isNon, dCall, dSeq, dSet, dSetO, dMul, setL, bCons, bOwn, bNil, dIf, dIte, dTB, dAnd, dOr, dNot, dBV, dAndV, dOrV, dChain, dTmp, dTmpT, frzE, dFrz, OD.d, dIxO, dApp, dSetI, dNeg, dLst, dLstO, dTup, dO, dDrop, ev_abs, ev_inttoi, ev_inttob, ev_inttos, ev_strtoi, ev_listl, ev_listt, ev_lists, ev_tupl, ev_tupt, ev_addi, ev_adds, ev_addl, ev_addt, ev_muli, ev_muls, ev_mull, ev_max, ev_min, ev_all, ev_any, gRepr, dLRg, Pd.r1, Pd.r2, eqD_str, eqD_int, eqD_bl, dFld, dProp, dMeth, dAugI, dRev, dMake, dIsi, isT, isC, dNx, dBrk, dNev, dFst, gNm, gTp, gsCons, gsNil, dAsg, dStar, dYes, iniEnd, flatD, wipeE, ev_ixl, ev_ixt, ev_ixs, ev_ixr, ev_srcl, ev_srct, ev_srcs, ev_at0, ev_at1, ev_atl, ev_atn, ev_ixn, Option.some.injEq, exists_eq_left', exists_eq_left, List.foldl_cons, List.foldl_nil, List.map_cons, List.map_nil, List.replicate, List.length_append, List.length_map, List.length_cons, List.length_nil, List.cons_append, List.nil_append, List.append_nil, List.getElem?_cons_zero, List.getElem?_cons_succ, List.set_cons_zero, List.set_cons_succ, Nat.zero_add, Nat.reduceAdd, Nat.reduceSub, Nat.reduceLeDiff, true_and, and_true, decide_eq_true_eq, decide_eq_false_iff_not, ne_eq, reduceCtorEq, false_implies, true_implies, forall_const, Bool.and_self, Bool.and_true, Bool.true_and, lk_ends, lk_blocks, lk_text, lk_spot, lk_letter, Int.toNat_natCast, dFldO, dTmq, dMut, dSetQ, dParQ, qMake, D.still, D.stills, lf_past, lf_word, lf_letters, pf_past, pf_later, pm1, pm2, pm3, pm4, pi1, pi2, pi3, pi4, pi5, lm_state, lm_text, lm_search]
            have hp : prD (tot 0 p + b.2 - a.2, tot 0 p + b.2 - a.2) = .tup [.int ((tot 0 p : Int) + (b.2 : Int) - (a.2 : Int)), .int ((tot 0 p : Int) + (b.2 : Int) - (a.2 : Int))] := by
              unfold prD
              dsimp only
              rw [show ((tot 0 p + b.2 - a.2 : Nat) : Int) = (tot 0 p : Int) + (b.2 : Int) - (a.2 : Int) by omega]
            have no : ¬ ((f.1 = e.1 ∧ e.2 ≤ f.2) ∧ q1 = mid) → nx n' [.val (.lst ((a :: (mid ++ [e])).map blkD)), .val (.lst (bt.map blkD)), .own (.lst (acc.map prD)), .val (.int (tot 0 p : Nat)), .val (.int (p.length : Nat)), .val (.str [b.1]), .val (.int b.2), .val (.int a.2), .val (.lst ((b :: (q1 ++ [f])).map blkD)), .val (.bl (decide (f.1 = e.1 ∧ e.2 ≤ f.2)))] := fun z => hnx _ _ ⟨rfl, _, by rw [if_neg z, List.append_nil]⟩
            simp only [List.map_append, List.map_cons, List.map_nil] at no hnx
            refine ⟨fun h => ⟨by rw [oq, om]; rfl, fun h2 => ⟨by omega, ?_⟩, fun h2 => no fun z => ?_⟩, fun h => no fun z => h z.1⟩
            · have h3 : eqDs (q1.map blkD) (mid.map blkD) = true := h2
              rw [eqDs_blks54, decide_eq_true_eq] at h3
              refine hnx _ _ ⟨rfl, .val (.bl (decide (f.1 = e.1 ∧ e.2 ≤ f.2))), ?_⟩
              rw [if_pos ⟨h, h3⟩, List.map_cons, List.map_nil, hp]
            · have h3 : eqDs (q1.map blkD) (mid.map blkD) = false := h2
              rw [eqDs_blks54, decide_eq_false_iff_not] at h3
              exact h3 z.2
        · rintro n1 ε ⟨rfl, s9', rfl⟩
          refine fin _ rfl _ _ _ _ _ _ ?_ ?_
          · rw [List.append_assoc, ← hrow]
            exact h1
          · rw [List.length_append]
            split
            · exact Nat.succ_le_succ h2
            · exact Nat.le_succ_of_le h2
      · rw [if_neg fun z => hab z.1, List.nil_append] at hrow
        refine seqAt n' _ (fun nx hnx => if_not n' (fun P hP => ?_) hnx) (fin _ rfl acc _ _ _ _ _ (none hrow) (by omega))
        simp only [blkD, envOf, dRet, dRetN, dOp, dSl, dSlO, dVar, dC, pSome, pNo, ev_sll, ev_slt, ev_sls, dBi, dCons, dNil, ev_lenl, ev_lent, ev_lens, ev_lenr, ev_gI, TC, Pd.gSub, gLt, gLe, gGt, gGe, gMod, gFdiv, gPow, gEq, gNe, ev_oki, ev_oks, ev_okl, ev_okt, gIs, gIsNot, gIsB, gIsNotB, Pd.isNon, dCall, dSeq, dSet, dSetO, dMul, setL, bCons, bOwn, bNil, dIf, dIte, dTB, dAnd, dOr, dNot, dBV, dAndV, dOrV, dChain, dTmp, dTmpT, frzE, dFrz, OD.d, dIxO, dApp, dSetI, dNeg, dLst, dLstO, dTup, dO, dDrop, ev_abs, ev_inttoi, ev_inttob, ev_inttos, ev_strtoi, ev_listl, ev_listt, ev_lists, ev_tupl, ev_tupt, ev_addi, ev_adds, ev_addl, ev_addt, ev_muli, ev_muls, ev_mull, ev_max, ev_min, ev_all, ev_any, gRepr, dLRg, Pd.r1, Pd.r2, eqD_str, eqD_int, eqD_bl, dFld, dProp, dMeth, dAugI, dRev, dMake, dIsi, isT, isC, dNx, dBrk, dNev, dFst, gNm, gTp, gsCons, gsNil, dAsg, dStar, dYes, iniEnd, flatD, wipeE, ev_ixl, ev_ixt, ev_ixs, ev_ixr, ev_srcl, ev_srct, ev_srcs, ev_at0, ev_at1, ev_atl, ev_atn, ev_ixn, Option.some.injEq, exists_eq_left', exists_eq_left, List.foldl_cons, List.foldl_nil, List.map_cons, List.map_nil, List.replicate, List.length_append, List.length_map, List.length_cons, List.length_nil, List.cons_append, List.nil_append, List.append_nil, List.getElem?_cons_zero, List.getElem?_cons_succ, List.set_cons_zero, List.set_cons_succ, Nat.zero_add, Nat.reduceAdd, Nat.reduceSub, Nat.reduceLeDiff, true_and, and_true, decide_eq_true_eq, decide_eq_false_iff_not, ne_eq, reduceCtorEq, false_implies, true_implies, forall_const, Bool.and_self, Bool.and_true, Bool.true_and, lk_ends, lk_blocks, lk_text, lk_spot, lk_letter, Int.toNat_natCast, dFldO, dTmq, dMut, dSetQ, dParQ, qMake, D.still, D.stills, lf_past, lf_word, lf_letters, pf_past, pf_later, pm1, pm2, pm3, pm4, pi1, pi2, pi3, pi4, pi5, lm_state, lm_text, lm_search]
        refine ⟨fun _ => ⟨fun _ => ⟨fun h => ?_, fun _ => hP⟩, fun _ => hP⟩, fun _ => hP⟩
        rw [decide_eq_false]
        · exact hP
        · intro z
          simp only [List.cons.injEq, and_true] at h
          exact hab ⟨h.symm, by omega⟩
    · have hrow : rowsOf (a :: w) (tot 0 p) (b :: r) = rowsOf (a :: w) (tot 0 p + b.2) r := by
        rw [rowsOf, if_neg, List.nil_append]
        intro z
        have := z.1
        rw [List.length_cons, List.length_cons] at this
        omega
      refine seqAt n' _ (fun nx hnx => if_not n' (fun P hP => ?_) hnx) (fin _ rfl acc _ _ _ _ _ (none hrow) (by omega))
      simp only [blkD, envOf, dRet, dRetN, dOp, dSl, dSlO, dVar, dC, pSome, pNo, ev_sll, ev_slt, ev_sls, dBi, dCons, dNil, ev_lenl, ev_lent, ev_lens, ev_lenr, ev_gI, TC, Pd.gSub, gLt, gLe, gGt, gGe, gMod, gFdiv, gPow, gEq, gNe, ev_oki, ev_oks, ev_okl, ev_okt, gIs, gIsNot, gIsB, gIsNotB, Pd.isNon, dCall, dSeq, dSet, dSetO, dMul, setL, bCons, bOwn, bNil, dIf, dIte, dTB, dAnd, dOr, dNot, dBV, dAndV, dOrV, dChain, dTmp, dTmpT, frzE, dFrz, OD.d, dIxO, dApp, dSetI, dNeg, dLst, dLstO, dTup, dO, dDrop, ev_abs, ev_inttoi, ev_inttob, ev_inttos, ev_strtoi, ev_listl, ev_listt, ev_lists, ev_tupl, ev_tupt, ev_addi, ev_adds, ev_addl, ev_addt, ev_muli, ev_muls, ev_mull, ev_max, ev_min, ev_all, ev_any, gRepr, dLRg, Pd.r1, Pd.r2, eqD_str, eqD_int, eqD_bl, dFld, dProp, dMeth, dAugI, dRev, dMake, dIsi, isT, isC, dNx, dBrk, dNev, dFst, gNm, gTp, gsCons, gsNil, dAsg, dStar, dYes, iniEnd, flatD, wipeE, ev_ixl, ev_ixt, ev_ixs, ev_ixr, ev_srcl, ev_srct, ev_srcs, ev_at0, ev_at1, ev_atl, ev_atn, ev_ixn, Option.some.injEq, exists_eq_left', exists_eq_left, List.foldl_cons, List.foldl_nil, List.map_cons, List.map_nil, List.replicate, List.length_append, List.length_map, List.length_cons, List.length_nil, List.cons_append, List.nil_append, List.append_nil, List.getElem?_cons_zero, List.getElem?_cons_succ, List.set_cons_zero, List.set_cons_succ, Nat.zero_add, Nat.reduceAdd, Nat.reduceSub, Nat.reduceLeDiff, true_and, and_true, decide_eq_true_eq, decide_eq_false_iff_not, ne_eq, reduceCtorEq, false_implies, true_implies, forall_const, Bool.and_self, Bool.and_true, Bool.true_and, lk_ends, lk_blocks, lk_text, lk_spot, lk_letter, Int.toNat_natCast, dFldO, dTmq, dMut, dSetQ, dParQ, qMake, D.still, D.stills, lf_past, lf_word, lf_letters, pf_past, pf_later, pm1, pm2, pm3, pm4, pi1, pi2, pi3, pi4, pi5, lm_state, lm_text, lm_search]
      refine ⟨fun _ => ⟨fun h => absurd h ?_, fun _ => hP⟩, fun _ => hP⟩
      rw [List.length_take, List.length_cons]
      omega
end LW
namespace LW
open PySem L2 Pd
structure V58 (v : D) : Prop where
  an : anD v = true
  dp : dpD v ≤ 20
  rb : rbD v ≤ 1000000
theorem V58.any {v : D} (h : V58 v) : Any 1000000 v := ⟨h.an, Nat.le_trans h.dp (by decide), h.rb⟩
theorem V58.len {v : D} (h : V58 v) : ∀ t, v = .str t → t.length ≤ 1000000 := fun t e => by
  subst e
  have := h.rb
  rw [rbD] at this
  omega
end LW
namespace LW
open PySem L2 Pd
def Fdr.back (F : Fdr) : Fdr := match F.ds.getLast? with
  | none => F
  | some d => F.of F.ds.dropLast (d :: F.ls)
theorem back_snoc {F : Fdr} {l : List Deed} {d : Deed} (h : F.ds = l ++ [d]) : F.back = F.of l (d :: F.ls) := by
  unfold Fdr.back
  rw [h, List.getLast?_concat, List.dropLast_concat]
theorem back_nil {F : Fdr} (h : F.ds = []) : F.back = F := by
  unfold Fdr.back
  rw [h]
  rfl
theorem FOk.bk {F : Fdr} (h : FOk F) : FOk F.back := by
  by_cases he : F.ds = []
  · rw [back_nil he]
    exact h
  · have e := (List.dropLast_concat_getLast he).symm
    rw [back_snoc e]
    exact h.undo e
end LW
namespace LW
open PySem L2 Pd
def stK : List (List Nat) := [[115, 101, 97, 114, 99, 104], [116, 101, 120, 116], [116, 111, 108, 100], [112, 108, 97, 99, 101], [107, 110, 111, 119, 110], [108, 111, 111, 107, 115], [108, 105, 110, 101]]
def ownK : List (List Nat) := [[108, 101, 116, 116, 101, 114, 115], [115, 116, 97, 116, 101, 115], [108, 97, 116, 101, 114]]
def cuS (q : Cu) (ln : List Nat) : D := .dic stK [srD q.ct q.s q.kp, .str q.tx, natsD q.st.fd, .int (q.st.pl : Nat), .int (q.st.kn : Nat), .int (q.st.lk : Nat), .str ln]
end LW
namespace LW
open PySem L2 Pd
def sts1 (w : List Nat) : Cu → List Deed → List D
  | _, [] => []
  | q, d :: l => cuS (q.go w d) (deedT d) :: sts1 w (q.go w d) l
def stsD (F : Fdr) : List D := cuS F.q0 [] :: sts1 F.w F.q0 F.ds
def ltrD (F : Fdr) : List D := (sts1 F.w F.cu F.ls).reverse
def ownO (F : Fdr) : OD := .dic ownK [.str F.w, .lst (stsD F), .lst (ltrD F)]
def ownAt (n k : Nat) (F : Fdr) : Prop := (cs n)[k]? = some (ownO F)
theorem goP_stop {w t : List Nat} {ct s : Nat} {kp : Bool} (hw : 0 < w.length) (hc : ct < w.length) (hs : 1 ≤ s) : ∀ (f : Nat) (st : PS), st.kn < w.length → t.length < st.pl + f → t.length < (goP w t ct s kp f st).pl + w.length
  | 0, st, _, h => by
    show t.length < st.pl + w.length
    exact Nat.lt_of_lt_of_le h (by omega)
  | f + 1, st, hk, h => by
    rw [goP]
    by_cases z : st.pl + w.length ≤ t.length
    · rw [if_pos z]
      have h2 := stp_pl (w := w) (t := t) (c := ct) (s := s) (kp := kp) (st := st) hc hs hk
      exact goP_stop hw hc hs f _ (stp_kn (by omega) hs) (by omega)
    · rw [if_neg z]
      omega
theorem Cu.go_stop {w : List Nat} {q : Cu} (h : CuOk w.length q) {d : Deed} (hd : DOk w.length q d) : (q.go w d).tx.length < (q.go w d).st.pl + w.length := by
  have hw : 0 < w.length := Nat.lt_of_le_of_lt (Nat.zero_le _) h.ct
  cases d with
  | feed u => exact goP_stop hw h.ct h.s1 _ _ h.kn (by show _ < q.st.pl + (_ + 1); show (q.tx ++ u).length < _; omega)
  | turn ct s kp => exact goP_stop hw hd.1 hd.2.1 _ _ hw (by show q.tx.length < q.st.pl + (q.tx.length + 1); omega)
theorem run_stop {w : List Nat} : ∀ (l : List Deed) (q : Cu), CuOk w.length q → DsOk w.length w q l → q.tx.length < q.st.pl + w.length → (q.run w l).tx.length < (q.run w l).st.pl + w.length
  | [], _, _, _, h => h
  | d :: l, q, h, hd, _ => run_stop l (q.go w d) (h.go hd.1) hd.2 (Cu.go_stop h hd.1)
theorem FOk.stop {F : Fdr} (h : FOk F) : F.cu.tx.length < F.cu.st.pl + F.w.length := by
  have hw : 0 < F.w.length := Nat.lt_of_le_of_lt (Nat.zero_le _) h.ct
  exact run_stop F.ds F.q0 h.c0 ((dsOk_app _ _ _).mp h.ds).1 (by show 0 < 0 + F.w.length; omega)
end LW
namespace LW
open PySem L2 Pd
structure Mv (c : Str → Addr) (n i k : Nat) (F : Fdr) (n' : Nat) (F' : Fdr) : Prop where
  d1 : dr n' ≤ dr n
  d2 : dr n ≤ dr n' + 600
  bs : F'.bs = F.bs
  sr : F'.ct = F.ct ∧ F'.s = F.s ∧ F'.kp = F.kp
  ok : FOk F'
  few : F'.ds.length + F'.ls.length ≤ F.ds.length + F.ls.length + 1
  fin : finAt c n' i (finO c F')
  own : ownAt n' k F'
  oth : ∀ j, j ≠ i → j ≠ k → (cs n')[j]? = (cs n)[j]?
theorem fin_own {c : Str → Addr} {n i k : Nat} {fs : List (Str × D)} {F : Fdr} (h1 : finAt c n i fs) (h2 : ownAt n k F) : i ≠ k := fun e => by
  subst e
  unfold finAt at h1
  unfold ownAt at h2
  rw [h1] at h2
  cases h2
theorem Upd.own {n i k n' : Nat} {o : OD} {F : Fdr} (h : Upd n i o n') (hij : i ≠ k) (hk : ownAt n k F) : ownAt n' k F := by
  unfold ownAt
  rw [h.cs, List.getElem?_set_ne hij]
  exact hk
theorem Upd.own' {n k n' : Nat} {F F' : Fdr} (h : Upd n k (ownO F') n') (hk : ownAt n k F) : ownAt n' k F' := by
  unfold ownAt
  rw [h.cs]
  exact List.getElem?_set_self (List.getElem?_eq_some_iff.mp hk).1
theorem Mv.of {c : Str → Addr} {n n1 n2 n3 i k : Nat} {F F' : Fdr} (e1 : dr n1 ≤ dr n) (e2 : dr n ≤ dr n1 + 600) (e3 : cs n1 = cs n) (hi : finAt c n1 i (finO c F)) (hk : ownAt n1 k F) (u1 : Upd n1 i (.ins (cF c) (finO c F')) n2) (u2 : Upd n2 k (ownO F') n3) (bs : F'.bs = F.bs) (sr : F'.ct = F.ct ∧ F'.s = F.s ∧ F'.kp = F.kp) (ok : FOk F')
    (few : F'.ds.length + F'.ls.length ≤ F.ds.length + F.ls.length + 1) : Mv c n i k F n3 F' := by
  have hik := fin_own hi hk
  refine ⟨by rw [u2.dr, u1.dr]; exact e1, by rw [u2.dr, u1.dr]; exact e2, bs, sr, ok, few, u2.ne (fun e => hik e.symm) (u1.at hi), u2.own' (u1.own hik hk), fun j h1 h2 => ?_⟩
  rw [u2.cs, List.getElem?_set_ne fun e => h2 e.symm, u1.cs, List.getElem?_set_ne fun e => h1 e.symm, e3]
theorem Mv.stay {c : Str → Addr} {n n1 i k : Nat} {F : Fdr} (e1 : dr n1 ≤ dr n) (e2 : dr n ≤ dr n1 + 600) (e3 : cs n1 = cs n) (hi : finAt c n1 i (finO c F)) (hk : ownAt n1 k F) (ok : FOk F) : Mv c n i k F n1 F :=
  ⟨e1, e2, rfl, ⟨rfl, rfl, rfl⟩, ok, Nat.le_succ _, hi, hk, fun j _ _ => by rw [e3]⟩
end LW
namespace LW
open PySem L2 Pd
def cellB (b : Bl) : OD := .lst [.str [b.1], .int (b.2 : Nat)]
def LC (n L : Nat) (ss : List Bl) : Prop := ∀ j b, ss[j]? = some b → (cs n)[L + j]? = some (cellB b)
def celsB (L : Nat) (ss : List Bl) : List D := (List.range ss.length).map fun j => .cel none (L + j)
theorem celsB_at {L : Nat} {ss : List Bl} {j : Nat} (h : j < ss.length) : L2.atI (celsB L ss) (j : Nat) = some (.cel none (L + j)) := by
  unfold L2.atI ixN
  have : (celsB L ss).length = ss.length := by simp [celsB]
  rw [if_pos (by omega), this, if_pos (by omega)]
  simp [celsB, h]
theorem LC.set {n L : Nat} {ss : List Bl} (h : LC n L ss) {j : Nat} {b : Bl} (hb : ss[j]? = some b) (v : Nat) : LC (setC n (L + j) (.lst ([D.str [b.1], .int (b.2 : Nat)].set 1 (.int (v : Nat))))) L (ss.set j (b.1, v)) := by
  intro i x hx
  have hj : j < ss.length := (List.getElem?_eq_some_iff.mp hb).1
  rw [cs_setC]
  by_cases e : j = i
  · subst e
    rw [List.getElem?_set_self hj] at hx
    cases hx
    rw [List.getElem?_set_self (List.getElem?_eq_some_iff.mp (h j b hb)).1]
    rfl
  · rw [List.getElem?_set_ne e] at hx
    rw [List.getElem?_set_ne (by omega)]
    exact h i x hx
theorem max54 (z : Int) : ∃ v : Nat, (if z > 1 then z else 1) = (v : Int) ∧ 1 ≤ v := by
  by_cases h : z > 1
  · rw [if_pos h]
    exact ⟨z.toNat, by omega, by omega⟩
  · rw [if_neg h]
    exact ⟨1, rfl, Nat.le_refl _⟩
theorem celsB_set {L : Nat} {ss : List Bl} {j : Nat} {x : Bl} : celsB L (ss.set j x) = celsB L ss := by
  unfold celsB
  rw [List.length_set]
theorem fst_set54 {ss : List Bl} {j : Nat} {b : Bl} (h : ss[j]? = some b) (v : Nat) : (ss.set j (b.1, v)).map (·.1) = ss.map (·.1) := by
  apply List.ext_getElem?
  intro i
  rw [List.getElem?_map, List.getElem?_map]
  by_cases e : j = i
  · subst e
    rw [List.getElem?_set_self (List.getElem?_eq_some_iff.mp h).1, h]
    rfl
  · rw [List.getElem?_set_ne e]
theorem comp_lists54 {s0 s1 s2 s3 s4 s5 s6 s7 s8 : Sl} {P : Nat → List D → Prop} : ∀ (ss : List Bl) (acc : List D) (n : Nat), (∀ n', dr n' = dr n → cs n' = cs n ++ ss.map cellB → P n' (acc ++ celsB (cs n).length ss)) →
    compW (gNm 6) dYes (dLstC (dVar 6)) [s0, s1, s2, s3, s4, s5, s6, s7, s8] P (ss.map blkD) acc n
  | [], acc, n, h => by
    have := h n rfl (by rw [List.map_nil, List.append_nil])
    rw [show celsB (cs n).length [] = [] from rfl, List.append_nil] at this
    exact this
  | b :: ss, acc, n, h => by
    rw [List.map_cons]
    simp only [compW, gNm, dLstC, blkD, envOf, dRet, dRetN, dOp, dSl, dSlO, dVar, dC, pSome, pNo, ev_sll, ev_slt, ev_sls, dBi, dCons, dNil, ev_lenl, ev_lent, ev_lens, ev_lenr, ev_gI, TC, Pd.gSub, gLt, gLe, gGt, gGe, gMod, gFdiv, gPow, gEq, gNe, ev_oki, ev_oks, ev_okl, ev_okt, gIs, gIsNot, gIsB, gIsNotB, Pd.isNon, dCall, dSeq, dSet, dSetO, dMul, setL, bCons, bOwn, bNil, dIf, dIte, dTB, dAnd, dOr, dNot, dBV, dAndV, dOrV, dChain, dTmp, dTmpT, frzE, dFrz, OD.d, dIxO, dApp, dSetI, dNeg, dLst, dLstO, dTup, dO, dDrop, ev_abs, ev_inttoi, ev_inttob, ev_inttos, ev_strtoi, ev_listl, ev_listt, ev_lists, ev_tupl, ev_tupt, ev_addi, ev_adds, ev_addl, ev_addt, ev_muli, ev_muls, ev_mull, ev_max, ev_min, ev_all, ev_any, gRepr, dLRg, Pd.r1, Pd.r2, eqD_str, eqD_int, eqD_bl, dFld, dProp, dMeth, dAugI, dRev, dMake, dIsi, isT, isC, dNx, dBrk, dNev, dFst, gNm, gTp, gsCons, gsNil, dAsg, dStar, dYes, iniEnd, flatD, wipeE, ev_ixl, ev_ixt, ev_ixs, ev_ixr, ev_srcl, ev_srct, ev_srcs, ev_at0, ev_at1, ev_atl, ev_atn, ev_ixn, Option.some.injEq, exists_eq_left', exists_eq_left, List.foldl_cons, List.foldl_nil, List.map_cons, List.map_nil, List.replicate, List.length_append, List.length_map, List.length_cons, List.length_nil, List.cons_append, List.nil_append, List.append_nil, List.getElem?_cons_zero, List.getElem?_cons_succ, List.set_cons_zero, List.set_cons_succ, Nat.zero_add, Nat.reduceAdd, Nat.reduceSub, Nat.reduceLeDiff, true_and, and_true, decide_eq_true_eq, decide_eq_false_iff_not, ne_eq, reduceCtorEq, false_implies, true_implies, forall_const, Bool.and_self, Bool.and_true, Bool.true_and, lk_ends, lk_blocks, lk_text, lk_spot, lk_letter, Int.toNat_natCast, dFldO, dTmq, dMut, dSetQ, dParQ, qMake, D.still, D.stills, lf_past, lf_word, lf_letters, pf_past, pf_later, pm1, pm2, pm3, pm4, pi1, pi2, pi3, pi4, pi5, lm_state, lm_text, lm_search, dFldC, dPropC, dMethC, dMethRC, dFstC, dMakeC, dMakeRC, dLenC, dInC, dEqC, dDicN, dDix, dixAt, dRaise, one, dRetR, dDropR, dSetR, dIteR, dSure, dCallR, dMethR, dMakeR]
    refine comp_lists54 ss _ _ fun n' e1 e2 => ?_
    rw [dr_newC] at e1
    rw [cs_newC] at e2
    have := h n' e1 (by rw [e2, List.map_cons, List.append_assoc]; rfl)
    have e3 : celsB (cs n).length (b :: ss) = .cel none (cs n).length :: celsB (cs (newC n (OD.lst [D.str [b.1], D.int (b.2 : Nat)]))).length ss := by
      unfold celsB
      rw [List.length_cons, List.range_succ_eq_map, List.map_cons, List.map_map, cs_newC, List.length_append]
      congr 1
      refine List.map_congr_left fun j _ => ?_
      show D.cel none ((cs n).length + (j + 1)) = D.cel none ((cs n).length + 1 + j)
      rw [show (cs n).length + (j + 1) = (cs n).length + 1 + j by omega]
    rw [e3] at this
    rw [List.append_assoc]
    exact this
def capB (b : Bl) : Bl := (b.1, min b.2 (10 ^ 30 - 1))
theorem comp_back54 {s0 s1 s2 s3 s4 s5 s6 s7 s8 : Sl} {P : Nat → List D → Prop} {n : Nat} : ∀ (ss : List Bl) (L : Nat) (acc : List D), LC n L ss → P n (acc ++ (ss.map capB).map blkD) →
    compWL (gTpL 2 (gsCons (gNm 7) (gsCons (gNm 8) gsNil))) dYes (dTup (dCons (dVar 7) (dCons (dBi gMin (dCons (dVar 8) (dCons (dOp gSub (dOp gPow (dC (.int 10)) (dC (.int 30))) (dC (.int 1))) dNil))) dNil))) [s0, s1, s2, s3, s4, s5, s6, s7, s8] P (celsB L ss) acc n
  | [], L, acc, _, h => by
    simp only [celsB, List.length_nil, List.range_zero, List.map_nil, compWL]
    rw [List.map_nil, List.map_nil, List.append_nil] at h
    exact h
  | b :: ss, L, acc, hL, h => by
    have e3 : celsB L (b :: ss) = .cel none L :: celsB (L + 1) ss := by
      unfold celsB
      rw [List.length_cons, List.range_succ_eq_map, List.map_cons, List.map_map]
      congr 1
      refine List.map_congr_left fun j _ => ?_
      show D.cel none (L + (j + 1)) = D.cel none (L + 1 + j)
      rw [show L + (j + 1) = L + 1 + j by omega]
    rw [e3]
    have h0 := hL 0 b rfl
    rw [Nat.add_zero] at h0
    simp only [compWL, gTpL]
    refine ⟨L, _, rfl, h0, rfl, ?_⟩
    simp only [gsCons, gsNil, gNm, envOf, dRet, dRetN, dOp, dSl, dSlO, dVar, dC, pSome, pNo, ev_sll, ev_slt, ev_sls, dBi, dCons, dNil, ev_lenl, ev_lent, ev_lens, ev_lenr, ev_gI, TC, Pd.gSub, gLt, gLe, gGt, gGe, gMod, gFdiv, gPow, gEq, gNe, ev_oki, ev_oks, ev_okl, ev_okt, gIs, gIsNot, gIsB, gIsNotB, Pd.isNon, dCall, dSeq, dSet, dSetO, dMul, setL, bCons, bOwn, bNil, dIf, dIte, dTB, dAnd, dOr, dNot, dBV, dAndV, dOrV, dChain, dTmp, dTmpT, frzE, dFrz, OD.d, dIxO, dApp, dSetI, dNeg, dLst, dLstO, dTup, dO, dDrop, ev_abs, ev_inttoi, ev_inttob, ev_inttos, ev_strtoi, ev_listl, ev_listt, ev_lists, ev_tupl, ev_tupt, ev_addi, ev_adds, ev_addl, ev_addt, ev_muli, ev_muls, ev_mull, ev_max, ev_min, ev_all, ev_any, gRepr, dLRg, Pd.r1, Pd.r2, eqD_str, eqD_int, eqD_bl, dFld, dProp, dMeth, dAugI, dRev, dMake, dIsi, isT, isC, dNx, dBrk, dNev, dFst, gNm, gTp, gsCons, gsNil, dAsg, dStar, dYes, iniEnd, flatD, wipeE, ev_ixl, ev_ixt, ev_ixs, ev_ixr, ev_srcl, ev_srct, ev_srcs, ev_at0, ev_at1, ev_atl, ev_atn, ev_ixn, Option.some.injEq, exists_eq_left', exists_eq_left, List.foldl_cons, List.foldl_nil, List.map_cons, List.map_nil, List.replicate, List.length_append, List.length_map, List.length_cons, List.length_nil, List.cons_append, List.nil_append, List.append_nil, List.getElem?_cons_zero, List.getElem?_cons_succ, List.set_cons_zero, List.set_cons_succ, Nat.zero_add, Nat.reduceAdd, Nat.reduceSub, Nat.reduceLeDiff, true_and, and_true, decide_eq_true_eq, decide_eq_false_iff_not, ne_eq, reduceCtorEq, false_implies, true_implies, forall_const, Bool.and_self, Bool.and_true, Bool.true_and, lk_ends, lk_blocks, lk_text, lk_spot, lk_letter, Int.toNat_natCast, dFldO, dTmq, dMut, dSetQ, dParQ, qMake, D.still, D.stills, lf_past, lf_word, lf_letters, pf_past, pf_later, pm1, pm2, pm3, pm4, pi1, pi2, pi3, pi4, pi5, lm_state, lm_text, lm_search, dFldC, dPropC, dMethC, dMethRC, dFstC, dMakeC, dMakeRC, dLenC, dInC, dEqC, dDicN, dDix, dixAt, dRaise, one, dRetR, dDropR, dSetR, dIteR, dSure, dCallR, dMethR, dMakeR]
    refine ⟨⟨by decide, by decide, by decide +kernel⟩, ?_⟩
    refine comp_back54 ss (L + 1) _ (fun j x hx => ?_) ?_
    · have := hL (j + 1) x hx
      rw [show L + (j + 1) = L + 1 + j by omega] at this
      exact this
    · have e4 : D.tup [D.str [b.1], D.int (if (10 : Int) ^ Int.toNat 30 - 1 < (b.2 : Int) then (10 : Int) ^ Int.toNat 30 - 1 else (b.2 : Int))] = blkD (capB b) := by
        have hz : (10 : Int) ^ Int.toNat 30 - 1 = ((10 ^ 30 - 1 : Nat) : Int) := by decide +kernel
        rw [hz]
        unfold blkD capB
        dsimp only
        congr 3
        split
        · rw [Nat.min_eq_right (by omega)]
        · rw [Nat.min_eq_left (by omega)]
      rw [e4, List.append_assoc]
      exact h
def s_near54 : FD := fun ds n P => ∃ bt : List Bl, ds = [.pot, .lst (bt.map blkD)] ∧ Good bt ∧ bt ≠ [] ∧ bt.length ≤ 40 ∧ (∀ b ∈ bt, b.1 ∈ letters) ∧ 20 ≤ dr n ∧ ∀ n' bw, dr n' ≤ dr n → dr n ≤ dr n' + 20 → Told bw → P n' (.lst (bw.map blkD))
theorem adj_of54 : ∀ {a b : List Bl}, a.map (·.1) = b.map (·.1) → Adj a → Adj b
  | [], [], _, _ => trivial
  | [_], [_], _, _ => trivial
  | x :: y :: a, u :: v :: b, h, g => by
    simp only [List.map_cons, List.cons.injEq] at h
    refine ⟨?_, adj_of54 (a := y :: a) (b := v :: b) (by simp only [List.map_cons, h.2.1, h.2.2]) g.2⟩
    rw [← h.1, ← h.2.1]
    exact g.1
  | [], _ :: _, h, _ => by cases h
  | _ :: _, [], h, _ => by cases h
  | [_], _ :: _ :: _, h, _ => by simp at h
  | _ :: _ :: _, [_], h, _ => by simp at h
theorem adj_drop54 : ∀ (k : Nat) {a : List Bl}, Adj a → Adj (a.drop k)
  | 0, _, g => g
  | k + 1, [], _ => trivial
  | k + 1, [x], _ => by rw [List.drop_succ_cons, List.drop_nil]; trivial
  | k + 1, x :: y :: a, g => by rw [List.drop_succ_cons]; exact adj_drop54 k g.2
theorem adj_take54 : ∀ (k : Nat) {a : List Bl}, Adj a → Adj (a.take k)
  | 0, _, _ => trivial
  | k + 1, [], _ => trivial
  | k + 1, [x], _ => by rw [List.take_succ_cons, List.take_nil]; trivial
  | 1, x :: y :: a, _ => trivial
  | k + 2, x :: y :: a, g => ⟨g.1, adj_take54 (k + 1) (a := y :: a) g.2⟩
theorem l_near54 (c : Str → Addr) : ∀ ds n Q, s_near54 ds n Q → dFn 9 2 (b__law_near_blocks c (up takeF) (up s_of)) ds n Q := by
  rintro ds n Q ⟨bt, rfl, gt, hne, hl, hlet, h0, q⟩
  refine ⟨rfl, ?_⟩
  have hl0 : 0 < bt.length := List.length_pos_iff.mpr hne
  have ncb : noC (.lst (bt.map blkD)) = true := by simp [noC]; exact noCs_map nc_blk _
  unfold b__law_near_blocks
  refine seq_all (fun n1 ε => ∃ at_ : Nat, at_ < bt.length ∧ dr n1 ≤ dr n ∧ dr n ≤ dr n1 + 1 ∧ ε = [.val .pot, .val (.lst (bt.map blkD)), .val (.int (at_ : Nat)), .no, .no, .no, .no, .no, .no]) (fun nx hnx => ?_) ?_
  · simp only [envOf, dRet, dRetN, dOp, dSl, dSlO, dVar, dC, pSome, pNo, ev_sll, ev_slt, ev_sls, dBi, dCons, dNil, ev_lenl, ev_lent, ev_lens, ev_lenr, ev_gI, TC, Pd.gSub, gLt, gLe, gGt, gGe, gMod, gFdiv, gPow, gEq, gNe, ev_oki, ev_oks, ev_okl, ev_okt, gIs, gIsNot, gIsB, gIsNotB, Pd.isNon, dCall, dSeq, dSet, dSetO, dMul, setL, bCons, bOwn, bNil, dIf, dIte, dTB, dAnd, dOr, dNot, dBV, dAndV, dOrV, dChain, dTmp, dTmpT, frzE, dFrz, OD.d, dIxO, dApp, dSetI, dNeg, dLst, dLstO, dTup, dO, dDrop, ev_abs, ev_inttoi, ev_inttob, ev_inttos, ev_strtoi, ev_listl, ev_listt, ev_lists, ev_tupl, ev_tupt, ev_addi, ev_adds, ev_addl, ev_addt, ev_muli, ev_muls, ev_mull, ev_max, ev_min, ev_all, ev_any, gRepr, dLRg, Pd.r1, Pd.r2, eqD_str, eqD_int, eqD_bl, dFld, dProp, dMeth, dAugI, dRev, dMake, dIsi, isT, isC, dNx, dBrk, dNev, dFst, gNm, gTp, gsCons, gsNil, dAsg, dStar, dYes, iniEnd, flatD, wipeE, ev_ixl, ev_ixt, ev_ixs, ev_ixr, ev_srcl, ev_srct, ev_srcs, ev_at0, ev_at1, ev_atl, ev_atn, ev_ixn, Option.some.injEq, exists_eq_left', exists_eq_left, List.foldl_cons, List.foldl_nil, List.map_cons, List.map_nil, List.replicate, List.length_append, List.length_map, List.length_cons, List.length_nil, List.cons_append, List.nil_append, List.append_nil, List.getElem?_cons_zero, List.getElem?_cons_succ, List.set_cons_zero, List.set_cons_succ, Nat.zero_add, Nat.reduceAdd, Nat.reduceSub, Nat.reduceLeDiff, true_and, and_true, decide_eq_true_eq, decide_eq_false_iff_not, ne_eq, reduceCtorEq, false_implies, true_implies, forall_const, Bool.and_self, Bool.and_true, Bool.true_and, lk_ends, lk_blocks, lk_text, lk_spot, lk_letter, Int.toNat_natCast, dFldO, dTmq, dMut, dSetQ, dParQ, qMake, D.still, D.stills, lf_past, lf_word, lf_letters, pf_past, pf_later, pm1, pm2, pm3, pm4, pi1, pi2, pi3, pi4, pi5, lm_state, lm_text, lm_search, dFldC, dPropC, dMethC, dMethRC, dFstC, dMakeC, dMakeRC, dLenC, dInC, dEqC, dDicN, dDix, dixAt, dRaise, one, dRetR, dDropR, dSetR, dIteR, dSure, dCallR, dMethR, dMakeR]
    refine noC_up rfl ⟨(bt.length : Nat), rfl, by omega, by omega, dr n - 1, by omega, fun v v0 v1 => fun _ => ?_⟩
    obtain ⟨m, rfl⟩ := Int.eq_ofNat_of_zero_le v0
    exact hnx _ _ ⟨m, by omega, by rw [dr_wd]; omega, by rw [dr_wd]; omega, rfl⟩
  rintro n1 ε ⟨at_, ha, d1, d2, rfl⟩
  refine seq_all (fun n2 ε => ∃ (ss : List Bl) (L : Nat), 0 < ss.length ∧ ss.length ≤ 40 ∧ Good ss ∧ (∀ b ∈ ss, b.1 ∈ letters) ∧ LC n2 L ss ∧ dr n2 ≤ dr n1 ∧ dr n1 ≤ dr n2 + 1 ∧ ε = [.val .pot, .val (.lst (bt.map blkD)), .val (.int (at_ : Nat)), .val (.lst (celsB L ss)), .no, .no, .no, .no, .no]) (fun nx hnx => ?_) ?_
  · simp only [dComp, iVal, envOf, dRet, dRetN, dOp, dSl, dSlO, dVar, dC, pSome, pNo, ev_sll, ev_slt, ev_sls, dBi, dCons, dNil, ev_lenl, ev_lent, ev_lens, ev_lenr, ev_gI, TC, Pd.gSub, gLt, gLe, gGt, gGe, gMod, gFdiv, gPow, gEq, gNe, ev_oki, ev_oks, ev_okl, ev_okt, gIs, gIsNot, gIsB, gIsNotB, Pd.isNon, dCall, dSeq, dSet, dSetO, dMul, setL, bCons, bOwn, bNil, dIf, dIte, dTB, dAnd, dOr, dNot, dBV, dAndV, dOrV, dChain, dTmp, dTmpT, frzE, dFrz, OD.d, dIxO, dApp, dSetI, dNeg, dLst, dLstO, dTup, dO, dDrop, ev_abs, ev_inttoi, ev_inttob, ev_inttos, ev_strtoi, ev_listl, ev_listt, ev_lists, ev_tupl, ev_tupt, ev_addi, ev_adds, ev_addl, ev_addt, ev_muli, ev_muls, ev_mull, ev_max, ev_min, ev_all, ev_any, gRepr, dLRg, Pd.r1, Pd.r2, eqD_str, eqD_int, eqD_bl, dFld, dProp, dMeth, dAugI, dRev, dMake, dIsi, isT, isC, dNx, dBrk, dNev, dFst, gNm, gTp, gsCons, gsNil, dAsg, dStar, dYes, iniEnd, flatD, wipeE, ev_ixl, ev_ixt, ev_ixs, ev_ixr, ev_srcl, ev_srct, ev_srcs, ev_at0, ev_at1, ev_atl, ev_atn, ev_ixn, Option.some.injEq, exists_eq_left', exists_eq_left, List.foldl_cons, List.foldl_nil, List.map_cons, List.map_nil, List.replicate, List.length_append, List.length_map, List.length_cons, List.length_nil, List.cons_append, List.nil_append, List.append_nil, List.getElem?_cons_zero, List.getElem?_cons_succ, List.set_cons_zero, List.set_cons_succ, Nat.zero_add, Nat.reduceAdd, Nat.reduceSub, Nat.reduceLeDiff, true_and, and_true, decide_eq_true_eq, decide_eq_false_iff_not, ne_eq, reduceCtorEq, false_implies, true_implies, forall_const, Bool.and_self, Bool.and_true, Bool.true_and, lk_ends, lk_blocks, lk_text, lk_spot, lk_letter, Int.toNat_natCast, dFldO, dTmq, dMut, dSetQ, dParQ, qMake, D.still, D.stills, lf_past, lf_word, lf_letters, pf_past, pf_later, pm1, pm2, pm3, pm4, pi1, pi2, pi3, pi4, pi5, lm_state, lm_text, lm_search, dFldC, dPropC, dMethC, dMethRC, dFstC, dMakeC, dMakeRC, dLenC, dInC, dEqC, dDicN, dDix, dixAt, dRaise, one, dRetR, dDropR, dSetR, dIteR, dSure, dCallR, dMethR, dMakeR]
    refine noC_up rfl ⟨_, _, dr n1 - 1, rfl, rfl, (fun l e => by cases e), by decide, by decide, by omega, fun x hx => fun _ => ?_⟩
    obtain ⟨m, rfl, hm⟩ : ∃ m : Nat, x = .int m ∧ 1 ≤ m := by
      simp only [srcD, List.mem_cons, List.mem_nil_iff, or_false] at hx
      rcases hx with rfl | rfl | rfl | rfl | rfl | rfl | rfl | rfl
      · exact ⟨1, rfl, by decide⟩
      · exact ⟨1, rfl, by decide⟩
      · exact ⟨2, rfl, by decide⟩
      · exact ⟨2, rfl, by decide⟩
      · exact ⟨3, rfl, by decide⟩
      · exact ⟨4, rfl, by decide⟩
      · exact ⟨20, rfl, by decide⟩
      · exact ⟨40, rfl, by decide⟩
    simp only [envOf, dRet, dRetN, dOp, dSl, dSlO, dVar, dC, pSome, pNo, ev_sll, ev_slt, ev_sls, dBi, dCons, dNil, ev_lenl, ev_lent, ev_lens, ev_lenr, ev_gI, TC, Pd.gSub, gLt, gLe, gGt, gGe, gMod, gFdiv, gPow, gEq, gNe, ev_oki, ev_oks, ev_okl, ev_okt, gIs, gIsNot, gIsB, gIsNotB, Pd.isNon, dCall, dSeq, dSet, dSetO, dMul, setL, bCons, bOwn, bNil, dIf, dIte, dTB, dAnd, dOr, dNot, dBV, dAndV, dOrV, dChain, dTmp, dTmpT, frzE, dFrz, OD.d, dIxO, dApp, dSetI, dNeg, dLst, dLstO, dTup, dO, dDrop, ev_abs, ev_inttoi, ev_inttob, ev_inttos, ev_strtoi, ev_listl, ev_listt, ev_lists, ev_tupl, ev_tupt, ev_addi, ev_adds, ev_addl, ev_addt, ev_muli, ev_muls, ev_mull, ev_max, ev_min, ev_all, ev_any, gRepr, dLRg, Pd.r1, Pd.r2, eqD_str, eqD_int, eqD_bl, dFld, dProp, dMeth, dAugI, dRev, dMake, dIsi, isT, isC, dNx, dBrk, dNev, dFst, gNm, gTp, gsCons, gsNil, dAsg, dStar, dYes, iniEnd, flatD, wipeE, ev_ixl, ev_ixt, ev_ixs, ev_ixr, ev_srcl, ev_srct, ev_srcs, ev_at0, ev_at1, ev_atl, ev_atn, ev_ixn, Option.some.injEq, exists_eq_left', exists_eq_left, List.foldl_cons, List.foldl_nil, List.map_cons, List.map_nil, List.replicate, List.length_append, List.length_map, List.length_cons, List.length_nil, List.cons_append, List.nil_append, List.append_nil, List.getElem?_cons_zero, List.getElem?_cons_succ, List.set_cons_zero, List.set_cons_succ, Nat.zero_add, Nat.reduceAdd, Nat.reduceSub, Nat.reduceLeDiff, true_and, and_true, decide_eq_true_eq, decide_eq_false_iff_not, ne_eq, reduceCtorEq, false_implies, true_implies, forall_const, Bool.and_self, Bool.and_true, Bool.true_and, lk_ends, lk_blocks, lk_text, lk_spot, lk_letter, Int.toNat_natCast, dFldO, dTmq, dMut, dSetQ, dParQ, qMake, D.still, D.stills, lf_past, lf_word, lf_letters, pf_past, pf_later, pm1, pm2, pm3, pm4, pi1, pi2, pi3, pi4, pi5, lm_state, lm_text, lm_search, dFldC, dPropC, dMethC, dMethRC, dFstC, dMakeC, dMakeRC, dLenC, dInC, dEqC, dDicN, dDix, dixAt, dRaise, one, dRetR, dDropR, dSetR, dIteR, dSure, dCallR, dMethR, dMakeR]
    rw [show ((at_ : Int) + (m : Int)) = ((at_ + m : Nat) : Int) by omega, cut_mid, show at_ + m - at_ = m by omega, ← List.map_drop, ← List.map_take]
    have hlen : ((bt.drop at_).take m).length ≤ 40 := by rw [List.length_take, List.length_drop]; omega
    refine ⟨by rw [List.length_map]; omega, comp_lists54 _ _ _ fun n' e1 e2 => ?_⟩
    rw [dr_wd] at e1
    rw [cs_wd] at e2
    rw [cs_wd, List.nil_append]
    refine hnx _ _ ⟨(bt.drop at_).take m, (cs n1).length, by rw [List.length_take, List.length_drop]; omega, hlen, ⟨adj_take54 m (adj_drop54 at_ gt.adj), fun b hb => gt.pos b (List.mem_of_mem_drop (List.mem_of_mem_take hb))⟩, fun b hb => hlet b (List.mem_of_mem_drop (List.mem_of_mem_take hb)), fun j b hb => ?_, by omega, by omega, rfl⟩
    rw [e2, List.getElem?_append_right (by omega), show (cs n1).length + j - (cs n1).length = j by omega, List.getElem?_map, hb]
    rfl
  rintro n2 ε ⟨ss, L, hs0, hs1, gs, sl, hLC, d3, d4, rfl⟩
  have ncl : ∀ (k : Nat), noC (.int (k : Nat)) = true := fun k => rfl
  refine seq_all (fun n3 ε => ∃ (tt : List Bl) (s4 s5 : Sl), tt.length = ss.length ∧ tt.map (·.1) = ss.map (·.1) ∧ (∀ b ∈ tt, 1 ≤ b.2) ∧ LC n3 L tt ∧ dr n3 ≤ dr n2 ∧ dr n2 ≤ dr n3 + 2 ∧ ε = [.val .pot, .val (.lst (bt.map blkD)), .val (.int (at_ : Nat)), .val (.lst (celsB L tt)), s4, s5, .no, .no, .no]) (fun nx hnx => ?_) ?_
  · simp only [dFor, iVal, envOf, dRet, dRetN, dOp, dSl, dSlO, dVar, dC, pSome, pNo, ev_sll, ev_slt, ev_sls, dBi, dCons, dNil, ev_lenl, ev_lent, ev_lens, ev_lenr, ev_gI, TC, Pd.gSub, gLt, gLe, gGt, gGe, gMod, gFdiv, gPow, gEq, gNe, ev_oki, ev_oks, ev_okl, ev_okt, gIs, gIsNot, gIsB, gIsNotB, Pd.isNon, dCall, dSeq, dSet, dSetO, dMul, setL, bCons, bOwn, bNil, dIf, dIte, dTB, dAnd, dOr, dNot, dBV, dAndV, dOrV, dChain, dTmp, dTmpT, frzE, dFrz, OD.d, dIxO, dApp, dSetI, dNeg, dLst, dLstO, dTup, dO, dDrop, ev_abs, ev_inttoi, ev_inttob, ev_inttos, ev_strtoi, ev_listl, ev_listt, ev_lists, ev_tupl, ev_tupt, ev_addi, ev_adds, ev_addl, ev_addt, ev_muli, ev_muls, ev_mull, ev_max, ev_min, ev_all, ev_any, gRepr, dLRg, Pd.r1, Pd.r2, eqD_str, eqD_int, eqD_bl, dFld, dProp, dMeth, dAugI, dRev, dMake, dIsi, isT, isC, dNx, dBrk, dNev, dFst, gNm, gTp, gsCons, gsNil, dAsg, dStar, dYes, iniEnd, flatD, wipeE, ev_ixl, ev_ixt, ev_ixs, ev_ixr, ev_srcl, ev_srct, ev_srcs, ev_at0, ev_at1, ev_atl, ev_atn, ev_ixn, Option.some.injEq, exists_eq_left', exists_eq_left, List.foldl_cons, List.foldl_nil, List.map_cons, List.map_nil, List.replicate, List.length_append, List.length_map, List.length_cons, List.length_nil, List.cons_append, List.nil_append, List.append_nil, List.getElem?_cons_zero, List.getElem?_cons_succ, List.set_cons_zero, List.set_cons_succ, Nat.zero_add, Nat.reduceAdd, Nat.reduceSub, Nat.reduceLeDiff, true_and, and_true, decide_eq_true_eq, decide_eq_false_iff_not, ne_eq, reduceCtorEq, false_implies, true_implies, forall_const, Bool.and_self, Bool.and_true, Bool.true_and, lk_ends, lk_blocks, lk_text, lk_spot, lk_letter, Int.toNat_natCast, dFldO, dTmq, dMut, dSetQ, dParQ, qMake, D.still, D.stills, lf_past, lf_word, lf_letters, pf_past, pf_later, pm1, pm2, pm3, pm4, pi1, pi2, pi3, pi4, pi5, lm_state, lm_text, lm_search, dFldC, dPropC, dMethC, dMethRC, dFstC, dMakeC, dMakeRC, dLenC, dInC, dEqC, dDicN, dDix, dixAt, dRaise, one, dRetR, dDropR, dSetR, dIteR, dSure, dCallR, dMethR, dMakeR]
    have hcl : (celsB L ss).length = ss.length := by simp [celsB]
    rw [hcl]
    refine for_ind (Inv := fun ys n' ε => ∃ (tt : List Bl) (s4 s5 : Sl), tt.length = ss.length ∧ tt.map (·.1) = ss.map (·.1) ∧ (∀ b ∈ tt, 1 ≤ b.2) ∧ LC n' L tt ∧ (∀ y ∈ ys, ∃ j : Nat, y = .int (j : Nat) ∧ j < ss.length) ∧ dr n' ≤ dr n2 ∧ dr n2 + ys.length ≤ dr n' + 2 ∧ ε = [.val .pot, .val (.lst (bt.map blkD)), .val (.int (at_ : Nat)), .val (.lst (celsB L tt)), s4, s5, .no, .no, .no]) ?_ ?_ ?_
    · refine ⟨ss, .no, .no, rfl, rfl, gs.pos, hLC, fun y hy => ?_, Nat.le_refl _, Nat.le_refl _, rfl⟩
      simp only [List.mem_cons, List.not_mem_nil, or_false] at hy
      rcases hy with rfl | rfl
      · exact ⟨0, rfl, hs0⟩
      · exact ⟨ss.length - 1, by rw [show ((ss.length : Int) - 1) = ((ss.length - 1 : Nat) : Int) by omega], by omega⟩
    · rintro n' ε ⟨tt, s4, s5, e1, e2, e3, e4, _, e6, e7, rfl⟩
      rw [List.length_nil] at e7
      exact hnx _ _ ⟨tt, s4, s5, e1, e2, e3, e4, e6, by omega, rfl⟩
    · rintro y ys n' ε nxt ih ⟨tt, s4, s5, e1, e2, e3, e4, e5, e6, e7, rfl⟩
      rw [List.length_cons] at e7
      obtain ⟨j, rfl, hj⟩ := e5 y (by simp)
      have hjt : j < tt.length := by omega
      obtain ⟨b, hb⟩ : ∃ b, tt[j]? = some b := ⟨tt[j], List.getElem?_eq_getElem hjt⟩
      have hb1 : 1 ≤ b.2 := e3 b (List.mem_of_getElem? hb)
      have hat := celsB_at (L := L) hjt
      have hc := e4 j b hb
      refine seqAt n' [.val .pot, .val (.lst (bt.map blkD)), .val (.int (at_ : Nat)), .val (.lst (celsB L tt)), .val (.int (j : Nat)), .val (.int (b.2 : Nat)), .no, .no, .no] (fun nx hnx => ?_) ?_
      · simp only [dIxC, envOf, dRet, dRetN, dOp, dSl, dSlO, dVar, dC, pSome, pNo, ev_sll, ev_slt, ev_sls, dBi, dCons, dNil, ev_lenl, ev_lent, ev_lens, ev_lenr, ev_gI, TC, Pd.gSub, gLt, gLe, gGt, gGe, gMod, gFdiv, gPow, gEq, gNe, ev_oki, ev_oks, ev_okl, ev_okt, gIs, gIsNot, gIsB, gIsNotB, Pd.isNon, dCall, dSeq, dSet, dSetO, dMul, setL, bCons, bOwn, bNil, dIf, dIte, dTB, dAnd, dOr, dNot, dBV, dAndV, dOrV, dChain, dTmp, dTmpT, frzE, dFrz, OD.d, dIxO, dApp, dSetI, dNeg, dLst, dLstO, dTup, dO, dDrop, ev_abs, ev_inttoi, ev_inttob, ev_inttos, ev_strtoi, ev_listl, ev_listt, ev_lists, ev_tupl, ev_tupt, ev_addi, ev_adds, ev_addl, ev_addt, ev_muli, ev_muls, ev_mull, ev_max, ev_min, ev_all, ev_any, gRepr, dLRg, Pd.r1, Pd.r2, eqD_str, eqD_int, eqD_bl, dFld, dProp, dMeth, dAugI, dRev, dMake, dIsi, isT, isC, dNx, dBrk, dNev, dFst, gNm, gTp, gsCons, gsNil, dAsg, dStar, dYes, iniEnd, flatD, wipeE, ev_ixl, ev_ixt, ev_ixs, ev_ixr, ev_srcl, ev_srct, ev_srcs, ev_at0, ev_at1, ev_atl, ev_atn, ev_ixn, Option.some.injEq, exists_eq_left', exists_eq_left, List.foldl_cons, List.foldl_nil, List.map_cons, List.map_nil, List.replicate, List.length_append, List.length_map, List.length_cons, List.length_nil, List.cons_append, List.nil_append, List.append_nil, List.getElem?_cons_zero, List.getElem?_cons_succ, List.set_cons_zero, List.set_cons_succ, Nat.zero_add, Nat.reduceAdd, Nat.reduceSub, Nat.reduceLeDiff, true_and, and_true, decide_eq_true_eq, decide_eq_false_iff_not, ne_eq, reduceCtorEq, false_implies, true_implies, forall_const, Bool.and_self, Bool.and_true, Bool.true_and, lk_ends, lk_blocks, lk_text, lk_spot, lk_letter, Int.toNat_natCast, dFldO, dTmq, dMut, dSetQ, dParQ, qMake, D.still, D.stills, lf_past, lf_word, lf_letters, pf_past, pf_later, pm1, pm2, pm3, pm4, pi1, pi2, pi3, pi4, pi5, lm_state, lm_text, lm_search, dFldC, dPropC, dMethC, dMethRC, dFstC, dMakeC, dMakeRC, dLenC, dInC, dEqC, dDicN, dDix, dixAt, dRaise, one, dRetR, dDropR, dSetR, dIteR, dSure, dCallR, dMethR, dMakeR]
        exact ⟨_, hat, L + j, _, 1, _, rfl, hc, rfl, rfl, hnx⟩
      simp only [dAsgC, gSubC, envOf, dRet, dRetN, dOp, dSl, dSlO, dVar, dC, pSome, pNo, ev_sll, ev_slt, ev_sls, dBi, dCons, dNil, ev_lenl, ev_lent, ev_lens, ev_lenr, ev_gI, TC, Pd.gSub, gLt, gLe, gGt, gGe, gMod, gFdiv, gPow, gEq, gNe, ev_oki, ev_oks, ev_okl, ev_okt, gIs, gIsNot, gIsB, gIsNotB, Pd.isNon, dCall, dSeq, dSet, dSetO, dMul, setL, bCons, bOwn, bNil, dIf, dIte, dTB, dAnd, dOr, dNot, dBV, dAndV, dOrV, dChain, dTmp, dTmpT, frzE, dFrz, OD.d, dIxO, dApp, dSetI, dNeg, dLst, dLstO, dTup, dO, dDrop, ev_abs, ev_inttoi, ev_inttob, ev_inttos, ev_strtoi, ev_listl, ev_listt, ev_lists, ev_tupl, ev_tupt, ev_addi, ev_adds, ev_addl, ev_addt, ev_muli, ev_muls, ev_mull, ev_max, ev_min, ev_all, ev_any, gRepr, dLRg, Pd.r1, Pd.r2, eqD_str, eqD_int, eqD_bl, dFld, dProp, dMeth, dAugI, dRev, dMake, dIsi, isT, isC, dNx, dBrk, dNev, dFst, gNm, gTp, gsCons, gsNil, dAsg, dStar, dYes, iniEnd, flatD, wipeE, ev_ixl, ev_ixt, ev_ixs, ev_ixr, ev_srcl, ev_srct, ev_srcs, ev_at0, ev_at1, ev_atl, ev_atn, ev_ixn, Option.some.injEq, exists_eq_left', exists_eq_left, List.foldl_cons, List.foldl_nil, List.map_cons, List.map_nil, List.replicate, List.length_append, List.length_map, List.length_cons, List.length_nil, List.cons_append, List.nil_append, List.append_nil, List.getElem?_cons_zero, List.getElem?_cons_succ, List.set_cons_zero, List.set_cons_succ, Nat.zero_add, Nat.reduceAdd, Nat.reduceSub, Nat.reduceLeDiff, true_and, and_true, decide_eq_true_eq, decide_eq_false_iff_not, ne_eq, reduceCtorEq, false_implies, true_implies, forall_const, Bool.and_self, Bool.and_true, Bool.true_and, lk_ends, lk_blocks, lk_text, lk_spot, lk_letter, Int.toNat_natCast, dFldO, dTmq, dMut, dSetQ, dParQ, qMake, D.still, D.stills, lf_past, lf_word, lf_letters, pf_past, pf_later, pm1, pm2, pm3, pm4, pi1, pi2, pi3, pi4, pi5, lm_state, lm_text, lm_search, dFldC, dPropC, dMethC, dMethRC, dFstC, dMakeC, dMakeRC, dLenC, dInC, dEqC, dDicN, dDix, dixAt, dRaise, one, dRetR, dDropR, dSetR, dIteR, dSure, dCallR, dMethR, dMakeR]
      refine noC_up rfl ⟨_, _, dr n' - 1, rfl, rfl, (fun l e => by cases e), by simp, by simp, by omega, fun x hx => fun _ => ?_⟩
      obtain ⟨z, rfl⟩ : ∃ z : Int, x = .int z := by
        simp only [srcD, List.mem_cons, List.mem_nil_iff, or_false] at hx
        rcases hx with rfl | rfl | rfl | rfl | rfl <;> exact ⟨_, rfl⟩
      simp only [envOf, dRet, dRetN, dOp, dSl, dSlO, dVar, dC, pSome, pNo, ev_sll, ev_slt, ev_sls, dBi, dCons, dNil, ev_lenl, ev_lent, ev_lens, ev_lenr, ev_gI, TC, Pd.gSub, gLt, gLe, gGt, gGe, gMod, gFdiv, gPow, gEq, gNe, ev_oki, ev_oks, ev_okl, ev_okt, gIs, gIsNot, gIsB, gIsNotB, Pd.isNon, dCall, dSeq, dSet, dSetO, dMul, setL, bCons, bOwn, bNil, dIf, dIte, dTB, dAnd, dOr, dNot, dBV, dAndV, dOrV, dChain, dTmp, dTmpT, frzE, dFrz, OD.d, dIxO, dApp, dSetI, dNeg, dLst, dLstO, dTup, dO, dDrop, ev_abs, ev_inttoi, ev_inttob, ev_inttos, ev_strtoi, ev_listl, ev_listt, ev_lists, ev_tupl, ev_tupt, ev_addi, ev_adds, ev_addl, ev_addt, ev_muli, ev_muls, ev_mull, ev_max, ev_min, ev_all, ev_any, gRepr, dLRg, Pd.r1, Pd.r2, eqD_str, eqD_int, eqD_bl, dFld, dProp, dMeth, dAugI, dRev, dMake, dIsi, isT, isC, dNx, dBrk, dNev, dFst, gNm, gTp, gsCons, gsNil, dAsg, dStar, dYes, iniEnd, flatD, wipeE, ev_ixl, ev_ixt, ev_ixs, ev_ixr, ev_srcl, ev_srct, ev_srcs, ev_at0, ev_at1, ev_atl, ev_atn, ev_ixn, Option.some.injEq, exists_eq_left', exists_eq_left, List.foldl_cons, List.foldl_nil, List.map_cons, List.map_nil, List.replicate, List.length_append, List.length_map, List.length_cons, List.length_nil, List.cons_append, List.nil_append, List.append_nil, List.getElem?_cons_zero, List.getElem?_cons_succ, List.set_cons_zero, List.set_cons_succ, Nat.zero_add, Nat.reduceAdd, Nat.reduceSub, Nat.reduceLeDiff, true_and, and_true, decide_eq_true_eq, decide_eq_false_iff_not, ne_eq, reduceCtorEq, false_implies, true_implies, forall_const, Bool.and_self, Bool.and_true, Bool.true_and, lk_ends, lk_blocks, lk_text, lk_spot, lk_letter, Int.toNat_natCast, dFldO, dTmq, dMut, dSetQ, dParQ, qMake, D.still, D.stills, lf_past, lf_word, lf_letters, pf_past, pf_later, pm1, pm2, pm3, pm4, pi1, pi2, pi3, pi4, pi5, lm_state, lm_text, lm_search, dFldC, dPropC, dMethC, dMethRC, dFstC, dMakeC, dMakeRC, dLenC, dInC, dEqC, dDicN, dDix, dixAt, dRaise, one, dRetR, dDropR, dSetR, dIteR, dSure, dCallR, dMethR, dMakeR]
      obtain ⟨v, hv, hv1⟩ := max54 z
      rw [hv]
      have e4' : LC (wd n' (dr n' - 1)) L tt := fun i x hx => by rw [cs_wd]; exact e4 i x hx
      refine ⟨_, hat, L + j, _, 1, 1, rfl, e4' j b hb, rfl, rfl, ?_⟩
      refine ih _ _ ⟨tt.set j (b.1, v), _, _, by rw [List.length_set]; exact e1, (fst_set54 hb v).trans e2, fun x hx => ?_, e4'.set hb v, fun y hy => e5 y (List.mem_cons_of_mem _ hy), by rw [dr_setC, dr_wd]; omega, by rw [dr_setC, dr_wd]; omega, by rw [celsB_set]⟩
      rcases List.mem_or_eq_of_mem_set hx with h | h
      · exact e3 x h
      · rw [h]; exact hv1
  rintro n3 ε ⟨tt, s4, s5, e1, e2, e3, e4, d5, d6, rfl⟩
  have hcl : (celsB L tt).length = tt.length := by simp [celsB]
  refine seq_all (fun n4 ε => ∃ (uu : List Bl) (s4 s5 : Sl), uu.length = ss.length ∧ uu.map (·.1) = ss.map (·.1) ∧ (∀ b ∈ uu, 1 ≤ b.2) ∧ LC n4 L uu ∧ dr n4 ≤ dr n3 ∧ dr n3 ≤ dr n4 + 2 ∧ ε = [.val .pot, .val (.lst (bt.map blkD)), .val (.int (at_ : Nat)), .val (.lst (celsB L uu)), s4, s5, .no, .no, .no]) (fun nx hnx => ?_) ?_
  · simp only [envOf, dRet, dRetN, dOp, dSl, dSlO, dVar, dC, pSome, pNo, ev_sll, ev_slt, ev_sls, dBi, dCons, dNil, ev_lenl, ev_lent, ev_lens, ev_lenr, ev_gI, TC, Pd.gSub, gLt, gLe, gGt, gGe, gMod, gFdiv, gPow, gEq, gNe, ev_oki, ev_oks, ev_okl, ev_okt, gIs, gIsNot, gIsB, gIsNotB, Pd.isNon, dCall, dSeq, dSet, dSetO, dMul, setL, bCons, bOwn, bNil, dIf, dIte, dTB, dAnd, dOr, dNot, dBV, dAndV, dOrV, dChain, dTmp, dTmpT, frzE, dFrz, OD.d, dIxO, dApp, dSetI, dNeg, dLst, dLstO, dTup, dO, dDrop, ev_abs, ev_inttoi, ev_inttob, ev_inttos, ev_strtoi, ev_listl, ev_listt, ev_lists, ev_tupl, ev_tupt, ev_addi, ev_adds, ev_addl, ev_addt, ev_muli, ev_muls, ev_mull, ev_max, ev_min, ev_all, ev_any, gRepr, dLRg, Pd.r1, Pd.r2, eqD_str, eqD_int, eqD_bl, dFld, dProp, dMeth, dAugI, dRev, dMake, dIsi, isT, isC, dNx, dBrk, dNev, dFst, gNm, gTp, gsCons, gsNil, dAsg, dStar, dYes, iniEnd, flatD, wipeE, ev_ixl, ev_ixt, ev_ixs, ev_ixr, ev_srcl, ev_srct, ev_srcs, ev_at0, ev_at1, ev_atl, ev_atn, ev_ixn, Option.some.injEq, exists_eq_left', exists_eq_left, List.foldl_cons, List.foldl_nil, List.map_cons, List.map_nil, List.replicate, List.length_append, List.length_map, List.length_cons, List.length_nil, List.cons_append, List.nil_append, List.append_nil, List.getElem?_cons_zero, List.getElem?_cons_succ, List.set_cons_zero, List.set_cons_succ, Nat.zero_add, Nat.reduceAdd, Nat.reduceSub, Nat.reduceLeDiff, true_and, and_true, decide_eq_true_eq, decide_eq_false_iff_not, ne_eq, reduceCtorEq, false_implies, true_implies, forall_const, Bool.and_self, Bool.and_true, Bool.true_and, lk_ends, lk_blocks, lk_text, lk_spot, lk_letter, Int.toNat_natCast, dFldO, dTmq, dMut, dSetQ, dParQ, qMake, D.still, D.stills, lf_past, lf_word, lf_letters, pf_past, pf_later, pm1, pm2, pm3, pm4, pi1, pi2, pi3, pi4, pi5, lm_state, lm_text, lm_search, dFldC, dPropC, dMethC, dMethRC, dFstC, dMakeC, dMakeRC, dLenC, dInC, dEqC, dDicN, dDix, dixAt, dRaise, one, dRetR, dDropR, dSetR, dIteR, dSure, dCallR, dMethR, dMakeR]
    refine noC_up rfl ⟨4, rfl, by decide, by decide, dr n3 - 1, by omega, fun v v0 v1 => fun _ => ?_⟩
    have e4' : LC (wd n3 (dr n3 - 1)) L tt := fun i x hx => by rw [cs_wd]; exact e4 i x hx
    simp only [envOf, dRet, dRetN, dOp, dSl, dSlO, dVar, dC, pSome, pNo, ev_sll, ev_slt, ev_sls, dBi, dCons, dNil, ev_lenl, ev_lent, ev_lens, ev_lenr, ev_gI, TC, Pd.gSub, gLt, gLe, gGt, gGe, gMod, gFdiv, gPow, gEq, gNe, ev_oki, ev_oks, ev_okl, ev_okt, gIs, gIsNot, gIsB, gIsNotB, Pd.isNon, dCall, dSeq, dSet, dSetO, dMul, setL, bCons, bOwn, bNil, dIf, dIte, dTB, dAnd, dOr, dNot, dBV, dAndV, dOrV, dChain, dTmp, dTmpT, frzE, dFrz, OD.d, dIxO, dApp, dSetI, dNeg, dLst, dLstO, dTup, dO, dDrop, ev_abs, ev_inttoi, ev_inttob, ev_inttos, ev_strtoi, ev_listl, ev_listt, ev_lists, ev_tupl, ev_tupt, ev_addi, ev_adds, ev_addl, ev_addt, ev_muli, ev_muls, ev_mull, ev_max, ev_min, ev_all, ev_any, gRepr, dLRg, Pd.r1, Pd.r2, eqD_str, eqD_int, eqD_bl, dFld, dProp, dMeth, dAugI, dRev, dMake, dIsi, isT, isC, dNx, dBrk, dNev, dFst, gNm, gTp, gsCons, gsNil, dAsg, dStar, dYes, iniEnd, flatD, wipeE, ev_ixl, ev_ixt, ev_ixs, ev_ixr, ev_srcl, ev_srct, ev_srcs, ev_at0, ev_at1, ev_atl, ev_atn, ev_ixn, Option.some.injEq, exists_eq_left', exists_eq_left, List.foldl_cons, List.foldl_nil, List.map_cons, List.map_nil, List.replicate, List.length_append, List.length_map, List.length_cons, List.length_nil, List.cons_append, List.nil_append, List.append_nil, List.getElem?_cons_zero, List.getElem?_cons_succ, List.set_cons_zero, List.set_cons_succ, Nat.zero_add, Nat.reduceAdd, Nat.reduceSub, Nat.reduceLeDiff, true_and, and_true, decide_eq_true_eq, decide_eq_false_iff_not, ne_eq, reduceCtorEq, false_implies, true_implies, forall_const, Bool.and_self, Bool.and_true, Bool.true_and, lk_ends, lk_blocks, lk_text, lk_spot, lk_letter, Int.toNat_natCast, dFldO, dTmq, dMut, dSetQ, dParQ, qMake, D.still, D.stills, lf_past, lf_word, lf_letters, pf_past, pf_later, pm1, pm2, pm3, pm4, pi1, pi2, pi3, pi4, pi5, lm_state, lm_text, lm_search, dFldC, dPropC, dMethC, dMethRC, dFstC, dMakeC, dMakeRC, dLenC, dInC, dEqC, dDicN, dDix, dixAt, dRaise, one, dRetR, dDropR, dSetR, dIteR, dSure, dCallR, dMethR, dMakeR]
    refine ⟨fun _ => ?_, fun _ => hnx _ _ ⟨tt, s4, s5, e1, e2, e3, e4', by rw [dr_wd]; omega, by rw [dr_wd]; omega, rfl⟩⟩
    rw [hcl]
    refine noC_up rfl ⟨(tt.length : Nat), rfl, by omega, by omega, dr n3 - 2, by rw [dr_wd]; omega, fun v v0 v1 => fun _ => ?_⟩
    obtain ⟨j, rfl⟩ := Int.eq_ofNat_of_zero_le v0
    have hjt : j < tt.length := by omega
    obtain ⟨b, hb⟩ : ∃ b, tt[j]? = some b := ⟨tt[j], List.getElem?_eq_getElem hjt⟩
    have hat := celsB_at (L := L) hjt
    have e4'' : LC (wd (wd n3 (dr n3 - 1)) (dr n3 - 2)) L tt := fun i x hx => by rw [cs_wd]; exact e4' i x hx
    simp only [dAsgC, gSubC, dIxC, envOf, dRet, dRetN, dOp, dSl, dSlO, dVar, dC, pSome, pNo, ev_sll, ev_slt, ev_sls, dBi, dCons, dNil, ev_lenl, ev_lent, ev_lens, ev_lenr, ev_gI, TC, Pd.gSub, gLt, gLe, gGt, gGe, gMod, gFdiv, gPow, gEq, gNe, ev_oki, ev_oks, ev_okl, ev_okt, gIs, gIsNot, gIsB, gIsNotB, Pd.isNon, dCall, dSeq, dSet, dSetO, dMul, setL, bCons, bOwn, bNil, dIf, dIte, dTB, dAnd, dOr, dNot, dBV, dAndV, dOrV, dChain, dTmp, dTmpT, frzE, dFrz, OD.d, dIxO, dApp, dSetI, dNeg, dLst, dLstO, dTup, dO, dDrop, ev_abs, ev_inttoi, ev_inttob, ev_inttos, ev_strtoi, ev_listl, ev_listt, ev_lists, ev_tupl, ev_tupt, ev_addi, ev_adds, ev_addl, ev_addt, ev_muli, ev_muls, ev_mull, ev_max, ev_min, ev_all, ev_any, gRepr, dLRg, Pd.r1, Pd.r2, eqD_str, eqD_int, eqD_bl, dFld, dProp, dMeth, dAugI, dRev, dMake, dIsi, isT, isC, dNx, dBrk, dNev, dFst, gNm, gTp, gsCons, gsNil, dAsg, dStar, dYes, iniEnd, flatD, wipeE, ev_ixl, ev_ixt, ev_ixs, ev_ixr, ev_srcl, ev_srct, ev_srcs, ev_at0, ev_at1, ev_atl, ev_atn, ev_ixn, Option.some.injEq, exists_eq_left', exists_eq_left, List.foldl_cons, List.foldl_nil, List.map_cons, List.map_nil, List.replicate, List.length_append, List.length_map, List.length_cons, List.length_nil, List.cons_append, List.nil_append, List.append_nil, List.getElem?_cons_zero, List.getElem?_cons_succ, List.set_cons_zero, List.set_cons_succ, Nat.zero_add, Nat.reduceAdd, Nat.reduceSub, Nat.reduceLeDiff, true_and, and_true, decide_eq_true_eq, decide_eq_false_iff_not, ne_eq, reduceCtorEq, false_implies, true_implies, forall_const, Bool.and_self, Bool.and_true, Bool.true_and, lk_ends, lk_blocks, lk_text, lk_spot, lk_letter, Int.toNat_natCast, dFldO, dTmq, dMut, dSetQ, dParQ, qMake, D.still, D.stills, lf_past, lf_word, lf_letters, pf_past, pf_later, pm1, pm2, pm3, pm4, pi1, pi2, pi3, pi4, pi5, lm_state, lm_text, lm_search, dFldC, dPropC, dMethC, dMethRC, dFstC, dMakeC, dMakeRC, dLenC, dInC, dEqC, dDicN, dDix, dixAt, dRaise, one, dRetR, dDropR, dSetR, dIteR, dSure, dCallR, dMethR, dMakeR]
    refine ⟨_, hat, L + j, _, 1, _, rfl, e4'' j b hb, rfl, rfl, ?_⟩
    simp only [envOf, dRet, dRetN, dOp, dSl, dSlO, dVar, dC, pSome, pNo, ev_sll, ev_slt, ev_sls, dBi, dCons, dNil, ev_lenl, ev_lent, ev_lens, ev_lenr, ev_gI, TC, Pd.gSub, gLt, gLe, gGt, gGe, gMod, gFdiv, gPow, gEq, gNe, ev_oki, ev_oks, ev_okl, ev_okt, gIs, gIsNot, gIsB, gIsNotB, Pd.isNon, dCall, dSeq, dSet, dSetO, dMul, setL, bCons, bOwn, bNil, dIf, dIte, dTB, dAnd, dOr, dNot, dBV, dAndV, dOrV, dChain, dTmp, dTmpT, frzE, dFrz, OD.d, dIxO, dApp, dSetI, dNeg, dLst, dLstO, dTup, dO, dDrop, ev_abs, ev_inttoi, ev_inttob, ev_inttos, ev_strtoi, ev_listl, ev_listt, ev_lists, ev_tupl, ev_tupt, ev_addi, ev_adds, ev_addl, ev_addt, ev_muli, ev_muls, ev_mull, ev_max, ev_min, ev_all, ev_any, gRepr, dLRg, Pd.r1, Pd.r2, eqD_str, eqD_int, eqD_bl, dFld, dProp, dMeth, dAugI, dRev, dMake, dIsi, isT, isC, dNx, dBrk, dNev, dFst, gNm, gTp, gsCons, gsNil, dAsg, dStar, dYes, iniEnd, flatD, wipeE, ev_ixl, ev_ixt, ev_ixs, ev_ixr, ev_srcl, ev_srct, ev_srcs, ev_at0, ev_at1, ev_atl, ev_atn, ev_ixn, Option.some.injEq, exists_eq_left', exists_eq_left, List.foldl_cons, List.foldl_nil, List.map_cons, List.map_nil, List.replicate, List.length_append, List.length_map, List.length_cons, List.length_nil, List.cons_append, List.nil_append, List.append_nil, List.getElem?_cons_zero, List.getElem?_cons_succ, List.set_cons_zero, List.set_cons_succ, Nat.zero_add, Nat.reduceAdd, Nat.reduceSub, Nat.reduceLeDiff, true_and, and_true, decide_eq_true_eq, decide_eq_false_iff_not, ne_eq, reduceCtorEq, false_implies, true_implies, forall_const, Bool.and_self, Bool.and_true, Bool.true_and, lk_ends, lk_blocks, lk_text, lk_spot, lk_letter, Int.toNat_natCast, dFldO, dTmq, dMut, dSetQ, dParQ, qMake, D.still, D.stills, lf_past, lf_word, lf_letters, pf_past, pf_later, pm1, pm2, pm3, pm4, pi1, pi2, pi3, pi4, pi5, lm_state, lm_text, lm_search, dFldC, dPropC, dMethC, dMethRC, dFstC, dMakeC, dMakeRC, dLenC, dInC, dEqC, dDicN, dDix, dixAt, dRaise, one, dRetR, dDropR, dSetR, dIteR, dSure, dCallR, dMethR, dMakeR]
    refine ⟨⟨by decide, by decide⟩, ?_⟩
    obtain ⟨v, hv, hv1⟩ := max54 ((b.2 : Int) / 2)
    rw [hv]
    refine ⟨_, hat, L + j, _, 1, 1, rfl, e4'' j b hb, rfl, rfl, ?_⟩
    refine hnx _ _ ⟨tt.set j (b.1, v), _, _, by rw [List.length_set]; exact e1, (fst_set54 hb v).trans e2, fun x hx => ?_, e4''.set hb v, by rw [dr_setC, dr_wd]; omega, by rw [dr_setC, dr_wd]; omega, by rw [celsB_set]⟩
    rcases List.mem_or_eq_of_mem_set hx with h | h
    · exact e3 x h
    · rw [h]; exact hv1
  rintro n4 ε ⟨uu, s4, s5, f1, f2, f3, f4, d7, d8, rfl⟩
  simp only [dRet, dO, dCompL, iVal, envOf, dRet, dRetN, dOp, dSl, dSlO, dVar, dC, pSome, pNo, ev_sll, ev_slt, ev_sls, dBi, dCons, dNil, ev_lenl, ev_lent, ev_lens, ev_lenr, ev_gI, TC, Pd.gSub, gLt, gLe, gGt, gGe, gMod, gFdiv, gPow, gEq, gNe, ev_oki, ev_oks, ev_okl, ev_okt, gIs, gIsNot, gIsB, gIsNotB, Pd.isNon, dCall, dSeq, dSet, dSetO, dMul, setL, bCons, bOwn, bNil, dIf, dIte, dTB, dAnd, dOr, dNot, dBV, dAndV, dOrV, dChain, dTmp, dTmpT, frzE, dFrz, OD.d, dIxO, dApp, dSetI, dNeg, dLst, dLstO, dTup, dO, dDrop, ev_abs, ev_inttoi, ev_inttob, ev_inttos, ev_strtoi, ev_listl, ev_listt, ev_lists, ev_tupl, ev_tupt, ev_addi, ev_adds, ev_addl, ev_addt, ev_muli, ev_muls, ev_mull, ev_max, ev_min, ev_all, ev_any, gRepr, dLRg, Pd.r1, Pd.r2, eqD_str, eqD_int, eqD_bl, dFld, dProp, dMeth, dAugI, dRev, dMake, dIsi, isT, isC, dNx, dBrk, dNev, dFst, gNm, gTp, gsCons, gsNil, dAsg, dStar, dYes, iniEnd, flatD, wipeE, ev_ixl, ev_ixt, ev_ixs, ev_ixr, ev_srcl, ev_srct, ev_srcs, ev_at0, ev_at1, ev_atl, ev_atn, ev_ixn, Option.some.injEq, exists_eq_left', exists_eq_left, List.foldl_cons, List.foldl_nil, List.map_cons, List.map_nil, List.replicate, List.length_append, List.length_map, List.length_cons, List.length_nil, List.cons_append, List.nil_append, List.append_nil, List.getElem?_cons_zero, List.getElem?_cons_succ, List.set_cons_zero, List.set_cons_succ, Nat.zero_add, Nat.reduceAdd, Nat.reduceSub, Nat.reduceLeDiff, true_and, and_true, decide_eq_true_eq, decide_eq_false_iff_not, ne_eq, reduceCtorEq, false_implies, true_implies, forall_const, Bool.and_self, Bool.and_true, Bool.true_and, lk_ends, lk_blocks, lk_text, lk_spot, lk_letter, Int.toNat_natCast, dFldO, dTmq, dMut, dSetQ, dParQ, qMake, D.still, D.stills, lf_past, lf_word, lf_letters, pf_past, pf_later, pm1, pm2, pm3, pm4, pi1, pi2, pi3, pi4, pi5, lm_state, lm_text, lm_search, dFldC, dPropC, dMethC, dMethRC, dFstC, dMakeC, dMakeRC, dLenC, dInC, dEqC, dDicN, dDix, dixAt, dRaise, one, dRetR, dDropR, dSetR, dIteR, dSure, dCallR, dMethR, dMakeR]
  refine ⟨by rw [show (celsB L uu).length = uu.length by simp [celsB]]; omega, comp_back54 uu L [] f4 ?_⟩
  rw [List.nil_append]
  refine q _ _ (by omega) (by omega) ⟨⟨?_, ?_⟩, by rw [List.length_map]; omega, fun b hb => ?_, fun e => ?_⟩
  · refine adj_of54 (a := ss) ?_ gs.adj
    rw [← f2, List.map_map]
    rfl
  · intro b hb
    obtain ⟨x, hx, rfl⟩ := List.mem_map.mp hb
    have := f3 x hx
    unfold capB
    dsimp only
    exact Nat.le_min.mpr ⟨this, by decide⟩
  · obtain ⟨x, hx, rfl⟩ := List.mem_map.mp hb
    unfold capB
    dsimp only
    refine ⟨Nat.lt_of_le_of_lt (Nat.min_le_right _ _) (by decide), ?_⟩
    have h1 : x.1 ∈ uu.map (·.1) := List.mem_map_of_mem hx
    rw [f2] at h1
    obtain ⟨y, hy, e⟩ := List.mem_map.mp h1
    rw [← e]
    exact sl y hy
  · have := congrArg List.length e
    rw [List.length_map, List.length_nil] at this
    omega
end LW
namespace LW
open PySem L2 Pd
theorem size_le54 {G : Nat} : ∀ {bs : List Bl}, (∀ b ∈ bs, b.2 ≤ G) → size bs ≤ bs.length * G
  | [], _ => Nat.zero_le _
  | b :: r, h => by
    have h1 := h b (by simp)
    have h2 := size_le54 (bs := r) fun x hx => h x (List.mem_cons_of_mem _ hx)
    show (expand (b :: r)).length ≤ _
    rw [expand, List.length_append, List.length_replicate, List.length_cons, Nat.succ_mul]
    have : (expand r).length ≤ r.length * G := h2
    omega
theorem size_lt54 {bs : List Bl} (T : Told bs) : size bs < 10 ^ 60 := by
  have h := size_le54 (G := 10 ^ 30) fun b hb => Nat.le_of_lt (T.2.2.1 b hb).1
  have h2 : bs.length * 10 ^ 30 ≤ 40 * 10 ^ 30 := Nat.mul_le_mul_right _ T.2.1
  have h3 : 40 * 10 ^ 30 < 10 ^ 60 := by decide
  omega
theorem own_eq54 {c : Str → Addr} {ng : Bool} {x y : List Bl} {P : D → Prop} (q : P (.bl (decide (txt x = txt y) != ng))) : gOwn (c "Word") ng (up (s_Word_eq c)) (wordD c x) (wordD c y) P := by
  refine ⟨fldsW x, fldsW y, rfl, rfl, fun n => ?_⟩
  refine noC_up (by simp [noCs, nc_word]) ?_
  refine ⟨x, y, rfl, fun _ => ?_⟩
  rw [wd_same]
  exact ⟨rfl, _, rfl, q⟩
def s_right54 (c : Str → Addr) : FD := fun ds n P => ds = [.pot] ∧ 14000 ≤ dr n ∧ ∀ n', dr n' ≤ dr n → dr n ≤ dr n' + 14000 → P n' (.bl true)
theorem l_right54 (c : Str → Addr) : ∀ ds n Q, s_right54 c ds n Q → dFn 10 1 (b__law_right_v82 c (up s_of) (up (s_great54 c)) (up s_block_text) (upI i_word) s_near54 (up (s_places c)) (up s_blockPlaces) (up (s_Word_size c)) (up (s_Word_part c)) (up (s_Word_eq c))) ds n Q := by
  rintro ds n Q ⟨rfl, h0, q⟩
  refine ⟨rfl, ?_⟩
  unfold b__law_right_v82
  refine seq_all (fun n1 ε => dr n1 ≤ dr n ∧ dr n ≤ dr n1 + 1400) (fun nx hnx => ?_) ?_
  rotate_left
  · rintro n1 ε ⟨d1, d2⟩
    simp only [envOf, dRet, dRetN, dOp, dSl, dSlO, dVar, dC, pSome, pNo, ev_sll, ev_slt, ev_sls, dBi, dCons, dNil, ev_lenl, ev_lent, ev_lens, ev_lenr, ev_gI, TC, Pd.gSub, gLt, gLe, gGt, gGe, gMod, gFdiv, gPow, gEq, gNe, ev_oki, ev_oks, ev_okl, ev_okt, gIs, gIsNot, gIsB, gIsNotB, Pd.isNon, dCall, dSeq, dSet, dSetO, dMul, setL, bCons, bOwn, bNil, dIf, dIte, dTB, dAnd, dOr, dNot, dBV, dAndV, dOrV, dChain, dTmp, dTmpT, frzE, dFrz, OD.d, dIxO, dApp, dSetI, dNeg, dLst, dLstO, dTup, dO, dDrop, ev_abs, ev_inttoi, ev_inttob, ev_inttos, ev_strtoi, ev_listl, ev_listt, ev_lists, ev_tupl, ev_tupt, ev_addi, ev_adds, ev_addl, ev_addt, ev_muli, ev_muls, ev_mull, ev_max, ev_min, ev_all, ev_any, gRepr, dLRg, Pd.r1, Pd.r2, eqD_str, eqD_int, eqD_bl, dFld, dProp, dMeth, dAugI, dRev, dMake, dIsi, isT, isC, dNx, dBrk, dNev, dFst, gNm, gTp, gsCons, gsNil, dAsg, dStar, dYes, iniEnd, flatD, wipeE, ev_ixl, ev_ixt, ev_ixs, ev_ixr, ev_srcl, ev_srct, ev_srcs, ev_at0, ev_at1, ev_atl, ev_atn, ev_ixn, Option.some.injEq, exists_eq_left', exists_eq_left, List.foldl_cons, List.foldl_nil, List.map_cons, List.map_nil, List.replicate, List.length_append, List.length_map, List.length_cons, List.length_nil, List.cons_append, List.nil_append, List.append_nil, List.getElem?_cons_zero, List.getElem?_cons_succ, List.set_cons_zero, List.set_cons_succ, Nat.zero_add, Nat.reduceAdd, Nat.reduceSub, Nat.reduceLeDiff, true_and, and_true, decide_eq_true_eq, decide_eq_false_iff_not, ne_eq, reduceCtorEq, false_implies, true_implies, forall_const, Bool.and_self, Bool.and_true, Bool.true_and, lk_ends, lk_blocks, lk_text, lk_spot, lk_letter, Int.toNat_natCast, dFldO, dTmq, dMut, dSetQ, dParQ, qMake, D.still, D.stills, lf_past, lf_word, lf_letters, pf_past, pf_later, pm1, pm2, pm3, pm4, pi1, pi2, pi3, pi4, pi5, lm_state, lm_text, lm_search, dFldC, dPropC, dMethC, dMethRC, dFstC, dMakeC, dMakeRC, dLenC, dInC, dEqC, dDicN, dDix, dixAt, dRaise, one, dRetR, dDropR, dSetR, dIteR, dSure, dCallR, dMethR, dMakeR]
    exact q _ (by omega) (by omega)
  simp only [dFor, iRg1, envOf, dRet, dRetN, dOp, dSl, dSlO, dVar, dC, pSome, pNo, ev_sll, ev_slt, ev_sls, dBi, dCons, dNil, ev_lenl, ev_lent, ev_lens, ev_lenr, ev_gI, TC, Pd.gSub, gLt, gLe, gGt, gGe, gMod, gFdiv, gPow, gEq, gNe, ev_oki, ev_oks, ev_okl, ev_okt, gIs, gIsNot, gIsB, gIsNotB, Pd.isNon, dCall, dSeq, dSet, dSetO, dMul, setL, bCons, bOwn, bNil, dIf, dIte, dTB, dAnd, dOr, dNot, dBV, dAndV, dOrV, dChain, dTmp, dTmpT, frzE, dFrz, OD.d, dIxO, dApp, dSetI, dNeg, dLst, dLstO, dTup, dO, dDrop, ev_abs, ev_inttoi, ev_inttob, ev_inttos, ev_strtoi, ev_listl, ev_listt, ev_lists, ev_tupl, ev_tupt, ev_addi, ev_adds, ev_addl, ev_addt, ev_muli, ev_muls, ev_mull, ev_max, ev_min, ev_all, ev_any, gRepr, dLRg, Pd.r1, Pd.r2, eqD_str, eqD_int, eqD_bl, dFld, dProp, dMeth, dAugI, dRev, dMake, dIsi, isT, isC, dNx, dBrk, dNev, dFst, gNm, gTp, gsCons, gsNil, dAsg, dStar, dYes, iniEnd, flatD, wipeE, ev_ixl, ev_ixt, ev_ixs, ev_ixr, ev_srcl, ev_srct, ev_srcs, ev_at0, ev_at1, ev_atl, ev_atn, ev_ixn, Option.some.injEq, exists_eq_left', exists_eq_left, List.foldl_cons, List.foldl_nil, List.map_cons, List.map_nil, List.replicate, List.length_append, List.length_map, List.length_cons, List.length_nil, List.cons_append, List.nil_append, List.append_nil, List.getElem?_cons_zero, List.getElem?_cons_succ, List.set_cons_zero, List.set_cons_succ, Nat.zero_add, Nat.reduceAdd, Nat.reduceSub, Nat.reduceLeDiff, true_and, and_true, decide_eq_true_eq, decide_eq_false_iff_not, ne_eq, reduceCtorEq, false_implies, true_implies, forall_const, Bool.and_self, Bool.and_true, Bool.true_and, lk_ends, lk_blocks, lk_text, lk_spot, lk_letter, Int.toNat_natCast, dFldO, dTmq, dMut, dSetQ, dParQ, qMake, D.still, D.stills, lf_past, lf_word, lf_letters, pf_past, pf_later, pm1, pm2, pm3, pm4, pi1, pi2, pi3, pi4, pi5, lm_state, lm_text, lm_search, dFldC, dPropC, dMethC, dMethRC, dFstC, dMakeC, dMakeRC, dLenC, dInC, dEqC, dDicN, dDix, dixAt, dRaise, one, dRetR, dDropR, dSetR, dIteR, dSure, dCallR, dMethR, dMakeR]
  refine ⟨by decide, by decide, for_ind (Inv := fun ys n' ε => ∃ s1 s2 s3 s4 s5 s6 s7 s8 s9 : Sl, dr n' ≤ dr n ∧ dr n + 350 * ys.length ≤ dr n' + 1400 ∧ ε = [.val .pot, s1, s2, s3, s4, s5, s6, s7, s8, s9]) ?_ ?_ ?_⟩
  · exact ⟨_, _, _, _, _, _, _, _, _, Nat.le_refl _, by rw [rngD_length]; show dr n + 350 * 4 ≤ _; omega, rfl⟩
  · rintro n' ε ⟨s1, s2, s3, s4, s5, s6, s7, s8, s9, e1, e2, rfl⟩
    rw [List.length_nil] at e2
    exact hnx _ _ ⟨e1, by omega⟩
  rintro y ys n' ε nxt ih ⟨s1, s2, s3, s4, s5, s6, s7, s8, s9, e1, e2, rfl⟩
  rw [List.length_cons] at e2
  dsimp only [gNm, List.set_cons_succ, List.set_cons_zero]
  refine seq_all (fun n1 ε => ∃ bt : List Bl, Told bt ∧ (∀ b ∈ bt, b.1 ∈ five54) ∧ dr n1 ≤ dr n' ∧ dr n' ≤ dr n1 + 101 ∧ ε = [.val .pot, .val y, .val (.lst (bt.map blkD)), s3, s4, s5, s6, s7, s8, s9]) (fun nx hnx => ?_) ?_
  · simp only [envOf, dRet, dRetN, dOp, dSl, dSlO, dVar, dC, pSome, pNo, ev_sll, ev_slt, ev_sls, dBi, dCons, dNil, ev_lenl, ev_lent, ev_lens, ev_lenr, ev_gI, TC, Pd.gSub, gLt, gLe, gGt, gGe, gMod, gFdiv, gPow, gEq, gNe, ev_oki, ev_oks, ev_okl, ev_okt, gIs, gIsNot, gIsB, gIsNotB, Pd.isNon, dCall, dSeq, dSet, dSetO, dMul, setL, bCons, bOwn, bNil, dIf, dIte, dTB, dAnd, dOr, dNot, dBV, dAndV, dOrV, dChain, dTmp, dTmpT, frzE, dFrz, OD.d, dIxO, dApp, dSetI, dNeg, dLst, dLstO, dTup, dO, dDrop, ev_abs, ev_inttoi, ev_inttob, ev_inttos, ev_strtoi, ev_listl, ev_listt, ev_lists, ev_tupl, ev_tupt, ev_addi, ev_adds, ev_addl, ev_addt, ev_muli, ev_muls, ev_mull, ev_max, ev_min, ev_all, ev_any, gRepr, dLRg, Pd.r1, Pd.r2, eqD_str, eqD_int, eqD_bl, dFld, dProp, dMeth, dAugI, dRev, dMake, dIsi, isT, isC, dNx, dBrk, dNev, dFst, gNm, gTp, gsCons, gsNil, dAsg, dStar, dYes, iniEnd, flatD, wipeE, ev_ixl, ev_ixt, ev_ixs, ev_ixr, ev_srcl, ev_srct, ev_srcs, ev_at0, ev_at1, ev_atl, ev_atn, ev_ixn, Option.some.injEq, exists_eq_left', exists_eq_left, List.foldl_cons, List.foldl_nil, List.map_cons, List.map_nil, List.replicate, List.length_append, List.length_map, List.length_cons, List.length_nil, List.cons_append, List.nil_append, List.append_nil, List.getElem?_cons_zero, List.getElem?_cons_succ, List.set_cons_zero, List.set_cons_succ, Nat.zero_add, Nat.reduceAdd, Nat.reduceSub, Nat.reduceLeDiff, true_and, and_true, decide_eq_true_eq, decide_eq_false_iff_not, ne_eq, reduceCtorEq, false_implies, true_implies, forall_const, Bool.and_self, Bool.and_true, Bool.true_and, lk_ends, lk_blocks, lk_text, lk_spot, lk_letter, Int.toNat_natCast, dFldO, dTmq, dMut, dSetQ, dParQ, qMake, D.still, D.stills, lf_past, lf_word, lf_letters, pf_past, pf_later, pm1, pm2, pm3, pm4, pi1, pi2, pi3, pi4, pi5, lm_state, lm_text, lm_search, dFldC, dPropC, dMethC, dMethRC, dFstC, dMakeC, dMakeRC, dLenC, dInC, dEqC, dDicN, dDix, dixAt, dRaise, one, dRetR, dDropR, dSetR, dIteR, dSure, dCallR, dMethR, dMakeR]
    refine noC_up rfl ⟨_, _, dr n' - 1, rfl, rfl, (fun l e => by cases e), by decide, by decide, by omega, fun x hx => fun _ => ?_⟩
    obtain ⟨m, rfl, hm1, hm2⟩ : ∃ m : Nat, x = .int m ∧ 1 ≤ m ∧ m ≤ 40 := by
      simp only [srcD, List.mem_cons, List.mem_nil_iff, or_false] at hx
      rcases hx with rfl | rfl | rfl
      · exact ⟨3, rfl, by decide, by decide⟩
      · exact ⟨8, rfl, by decide, by decide⟩
      · exact ⟨40, rfl, by decide, by decide⟩
    refine noC_up rfl ⟨1, m, rfl, Nat.le_refl _, hm1, hm2, by rw [dr_wd]; omega, fun n2 bs b1 b2 g h1 h2 h3 => fun _ => ?_⟩
    rw [dr_wd] at b1 b2
    refine hnx _ _ ⟨bs, ⟨g, by omega, fun b hb => ⟨Nat.lt_of_le_of_lt (h1 b hb).1 (by decide), (by decide : ∀ c ∈ five54, c ∈ letters) _ (h1 b hb).2⟩, fun e => by rw [e] at h2; exact absurd h2 (by decide)⟩, fun b hb => (h1 b hb).2, by rw [dr_wd]; omega, by rw [dr_wd]; omega, rfl⟩
  rintro n1 ε ⟨bt, T, h5, d1, d2, rfl⟩
  have gt := T.1
  have hbl := T.2.1
  have ncb : ∀ bs : List Bl, noC (.lst (bs.map blkD)) = true := fun bs => by simp [noC]; exact noCs_map nc_blk _
  have mkw : ∀ {bs : List Bl} {m : Nat} {P : Nat → List (Str × D) → Prop}, Told bs → P m (fldsW bs) → up s_block_text [.lst (bs.map blkD)] m fun n2 x => upI i_word [x] n2 P := fun {bs m P} Tb hP => by
    refine noC_up (by simp [noCs, ncb]) ⟨bs, rfl, Nat.le_trans Tb.2.1 (by decide), fun b hb => Nat.lt_trans (Tb.2.2.1 b hb).1 (by decide), fun _ => ?_⟩
    rw [wd_same]
    refine upi rfl ⟨bs, rfl, Tb, fun _ => ?_⟩
    rw [wd_same]
    exact hP
  refine seqAt n1 [.val .pot, .val y, .val (.lst (bt.map blkD)), .val (wordD c bt), s4, s5, s6, s7, s8, s9] (fun nx hnx => ?_) ?_
  · simp only [envOf, dRet, dRetN, dOp, dSl, dSlO, dVar, dC, pSome, pNo, ev_sll, ev_slt, ev_sls, dBi, dCons, dNil, ev_lenl, ev_lent, ev_lens, ev_lenr, ev_gI, TC, Pd.gSub, gLt, gLe, gGt, gGe, gMod, gFdiv, gPow, gEq, gNe, ev_oki, ev_oks, ev_okl, ev_okt, gIs, gIsNot, gIsB, gIsNotB, Pd.isNon, dCall, dSeq, dSet, dSetO, dMul, setL, bCons, bOwn, bNil, dIf, dIte, dTB, dAnd, dOr, dNot, dBV, dAndV, dOrV, dChain, dTmp, dTmpT, frzE, dFrz, OD.d, dIxO, dApp, dSetI, dNeg, dLst, dLstO, dTup, dO, dDrop, ev_abs, ev_inttoi, ev_inttob, ev_inttos, ev_strtoi, ev_listl, ev_listt, ev_lists, ev_tupl, ev_tupt, ev_addi, ev_adds, ev_addl, ev_addt, ev_muli, ev_muls, ev_mull, ev_max, ev_min, ev_all, ev_any, gRepr, dLRg, Pd.r1, Pd.r2, eqD_str, eqD_int, eqD_bl, dFld, dProp, dMeth, dAugI, dRev, dMake, dIsi, isT, isC, dNx, dBrk, dNev, dFst, gNm, gTp, gsCons, gsNil, dAsg, dStar, dYes, iniEnd, flatD, wipeE, ev_ixl, ev_ixt, ev_ixs, ev_ixr, ev_srcl, ev_srct, ev_srcs, ev_at0, ev_at1, ev_atl, ev_atn, ev_ixn, Option.some.injEq, exists_eq_left', exists_eq_left, List.foldl_cons, List.foldl_nil, List.map_cons, List.map_nil, List.replicate, List.length_append, List.length_map, List.length_cons, List.length_nil, List.cons_append, List.nil_append, List.append_nil, List.getElem?_cons_zero, List.getElem?_cons_succ, List.set_cons_zero, List.set_cons_succ, Nat.zero_add, Nat.reduceAdd, Nat.reduceSub, Nat.reduceLeDiff, true_and, and_true, decide_eq_true_eq, decide_eq_false_iff_not, ne_eq, reduceCtorEq, false_implies, true_implies, forall_const, Bool.and_self, Bool.and_true, Bool.true_and, lk_ends, lk_blocks, lk_text, lk_spot, lk_letter, Int.toNat_natCast, dFldO, dTmq, dMut, dSetQ, dParQ, qMake, D.still, D.stills, lf_past, lf_word, lf_letters, pf_past, pf_later, pm1, pm2, pm3, pm4, pi1, pi2, pi3, pi4, pi5, lm_state, lm_text, lm_search, dFldC, dPropC, dMethC, dMethRC, dFstC, dMakeC, dMakeRC, dLenC, dInC, dEqC, dDicN, dDix, dixAt, dRaise, one, dRetR, dDropR, dSetR, dIteR, dSure, dCallR, dMethR, dMakeR]
    exact mkw T hnx
  have txl : ∀ x ∈ posn (expand bt) 0 (expand bt), True := fun _ _ => trivial
  have hself : Good bt ∧ bt ≠ [] := ⟨gt, T.2.2.2⟩
  refine seq_all (fun n2 ε => ∃ s4 s5 s6 s7 s8 s9 : Sl, dr n2 ≤ dr n1 ∧ dr n1 ≤ dr n2 + 60 ∧ ε = [.val .pot, .val y, .val (.lst (bt.map blkD)), .val (wordD c bt), s4, s5, s6, s7, s8, s9]) (fun nx hnx => ?_) ?_
  · simp only [dFor, iRg1, envOf, dRet, dRetN, dOp, dSl, dSlO, dVar, dC, pSome, pNo, ev_sll, ev_slt, ev_sls, dBi, dCons, dNil, ev_lenl, ev_lent, ev_lens, ev_lenr, ev_gI, TC, Pd.gSub, gLt, gLe, gGt, gGe, gMod, gFdiv, gPow, gEq, gNe, ev_oki, ev_oks, ev_okl, ev_okt, gIs, gIsNot, gIsB, gIsNotB, Pd.isNon, dCall, dSeq, dSet, dSetO, dMul, setL, bCons, bOwn, bNil, dIf, dIte, dTB, dAnd, dOr, dNot, dBV, dAndV, dOrV, dChain, dTmp, dTmpT, frzE, dFrz, OD.d, dIxO, dApp, dSetI, dNeg, dLst, dLstO, dTup, dO, dDrop, ev_abs, ev_inttoi, ev_inttob, ev_inttos, ev_strtoi, ev_listl, ev_listt, ev_lists, ev_tupl, ev_tupt, ev_addi, ev_adds, ev_addl, ev_addt, ev_muli, ev_muls, ev_mull, ev_max, ev_min, ev_all, ev_any, gRepr, dLRg, Pd.r1, Pd.r2, eqD_str, eqD_int, eqD_bl, dFld, dProp, dMeth, dAugI, dRev, dMake, dIsi, isT, isC, dNx, dBrk, dNev, dFst, gNm, gTp, gsCons, gsNil, dAsg, dStar, dYes, iniEnd, flatD, wipeE, ev_ixl, ev_ixt, ev_ixs, ev_ixr, ev_srcl, ev_srct, ev_srcs, ev_at0, ev_at1, ev_atl, ev_atn, ev_ixn, Option.some.injEq, exists_eq_left', exists_eq_left, List.foldl_cons, List.foldl_nil, List.map_cons, List.map_nil, List.replicate, List.length_append, List.length_map, List.length_cons, List.length_nil, List.cons_append, List.nil_append, List.append_nil, List.getElem?_cons_zero, List.getElem?_cons_succ, List.set_cons_zero, List.set_cons_succ, Nat.zero_add, Nat.reduceAdd, Nat.reduceSub, Nat.reduceLeDiff, true_and, and_true, decide_eq_true_eq, decide_eq_false_iff_not, ne_eq, reduceCtorEq, false_implies, true_implies, forall_const, Bool.and_self, Bool.and_true, Bool.true_and, lk_ends, lk_blocks, lk_text, lk_spot, lk_letter, Int.toNat_natCast, dFldO, dTmq, dMut, dSetQ, dParQ, qMake, D.still, D.stills, lf_past, lf_word, lf_letters, pf_past, pf_later, pm1, pm2, pm3, pm4, pi1, pi2, pi3, pi4, pi5, lm_state, lm_text, lm_search, dFldC, dPropC, dMethC, dMethRC, dFstC, dMakeC, dMakeRC, dLenC, dInC, dEqC, dDicN, dDix, dixAt, dRaise, one, dRetR, dDropR, dSetR, dIteR, dSure, dCallR, dMethR, dMakeR]
    refine ⟨by decide, by decide, for_ind (Inv := fun ys n' ε => ∃ s4 s5 s6 s7 s8 s9 : Sl, dr n' ≤ dr n1 ∧ dr n1 + 20 * ys.length ≤ dr n' + 60 ∧ ε = [.val .pot, .val y, .val (.lst (bt.map blkD)), .val (wordD c bt), s4, s5, s6, s7, s8, s9]) ?_ ?_ ?_⟩
    · exact ⟨_, _, _, _, _, _, Nat.le_refl _, by rw [rngD_length]; show dr n1 + 20 * 3 ≤ _; omega, rfl⟩
    · rintro n2 ε ⟨s4, s5, s6, s7, s8, s9, e1, e2, rfl⟩
      rw [List.length_nil] at e2
      exact hnx _ _ ⟨_, _, _, _, _, _, e1, by omega, rfl⟩
    clear s4 s5 s6 s7 s8 s9
    rintro z ys n2 ε nxt ih ⟨s4, s5, s6, s7, s8, s9, e1, e2, rfl⟩
    rw [List.length_cons] at e2
    dsimp only [gNm, List.set_cons_succ, List.set_cons_zero]
    refine seq_all (fun n3 ε => ∃ bw : List Bl, Told bw ∧ dr n3 ≤ dr n2 ∧ dr n2 ≤ dr n3 + 20 ∧ ε = [.val .pot, .val y, .val (.lst (bt.map blkD)), .val (wordD c bt), .val z, .val (.lst (bw.map blkD)), s6, s7, s8, s9]) (fun nx hnx => ?_) ?_
    · simp only [envOf, dRet, dRetN, dOp, dSl, dSlO, dVar, dC, pSome, pNo, ev_sll, ev_slt, ev_sls, dBi, dCons, dNil, ev_lenl, ev_lent, ev_lens, ev_lenr, ev_gI, TC, Pd.gSub, gLt, gLe, gGt, gGe, gMod, gFdiv, gPow, gEq, gNe, ev_oki, ev_oks, ev_okl, ev_okt, gIs, gIsNot, gIsB, gIsNotB, Pd.isNon, dCall, dSeq, dSet, dSetO, dMul, setL, bCons, bOwn, bNil, dIf, dIte, dTB, dAnd, dOr, dNot, dBV, dAndV, dOrV, dChain, dTmp, dTmpT, frzE, dFrz, OD.d, dIxO, dApp, dSetI, dNeg, dLst, dLstO, dTup, dO, dDrop, ev_abs, ev_inttoi, ev_inttob, ev_inttos, ev_strtoi, ev_listl, ev_listt, ev_lists, ev_tupl, ev_tupt, ev_addi, ev_adds, ev_addl, ev_addt, ev_muli, ev_muls, ev_mull, ev_max, ev_min, ev_all, ev_any, gRepr, dLRg, Pd.r1, Pd.r2, eqD_str, eqD_int, eqD_bl, dFld, dProp, dMeth, dAugI, dRev, dMake, dIsi, isT, isC, dNx, dBrk, dNev, dFst, gNm, gTp, gsCons, gsNil, dAsg, dStar, dYes, iniEnd, flatD, wipeE, ev_ixl, ev_ixt, ev_ixs, ev_ixr, ev_srcl, ev_srct, ev_srcs, ev_at0, ev_at1, ev_atl, ev_atn, ev_ixn, Option.some.injEq, exists_eq_left', exists_eq_left, List.foldl_cons, List.foldl_nil, List.map_cons, List.map_nil, List.replicate, List.length_append, List.length_map, List.length_cons, List.length_nil, List.cons_append, List.nil_append, List.append_nil, List.getElem?_cons_zero, List.getElem?_cons_succ, List.set_cons_zero, List.set_cons_succ, Nat.zero_add, Nat.reduceAdd, Nat.reduceSub, Nat.reduceLeDiff, true_and, and_true, decide_eq_true_eq, decide_eq_false_iff_not, ne_eq, reduceCtorEq, false_implies, true_implies, forall_const, Bool.and_self, Bool.and_true, Bool.true_and, lk_ends, lk_blocks, lk_text, lk_spot, lk_letter, Int.toNat_natCast, dFldO, dTmq, dMut, dSetQ, dParQ, qMake, D.still, D.stills, lf_past, lf_word, lf_letters, pf_past, pf_later, pm1, pm2, pm3, pm4, pi1, pi2, pi3, pi4, pi5, lm_state, lm_text, lm_search, dFldC, dPropC, dMethC, dMethRC, dFstC, dMakeC, dMakeRC, dLenC, dInC, dEqC, dDicN, dDix, dixAt, dRaise, one, dRetR, dDropR, dSetR, dIteR, dSure, dCallR, dMethR, dMakeR]
      exact ⟨bt, rfl, gt, T.2.2.2, hbl, fun b hb => (T.2.2.1 b hb).2, by omega, fun n3 bw a1 a2 Tw => hnx _ _ ⟨bw, Tw, a1, a2, rfl⟩⟩
    rintro n3 ε ⟨bw, Tw, a1, a2, rfl⟩
    have gw := Tw.1
    have hwl := Tw.2.1
    refine seqAt n3 [.val .pot, .val y, .val (.lst (bt.map blkD)), .val (wordD c bt), .val z, .val (.lst (bw.map blkD)), .val (wordD c bw), s7, s8, s9] (fun nx hnx => ?_) ?_
    · simp only [envOf, dRet, dRetN, dOp, dSl, dSlO, dVar, dC, pSome, pNo, ev_sll, ev_slt, ev_sls, dBi, dCons, dNil, ev_lenl, ev_lent, ev_lens, ev_lenr, ev_gI, TC, Pd.gSub, gLt, gLe, gGt, gGe, gMod, gFdiv, gPow, gEq, gNe, ev_oki, ev_oks, ev_okl, ev_okt, gIs, gIsNot, gIsB, gIsNotB, Pd.isNon, dCall, dSeq, dSet, dSetO, dMul, setL, bCons, bOwn, bNil, dIf, dIte, dTB, dAnd, dOr, dNot, dBV, dAndV, dOrV, dChain, dTmp, dTmpT, frzE, dFrz, OD.d, dIxO, dApp, dSetI, dNeg, dLst, dLstO, dTup, dO, dDrop, ev_abs, ev_inttoi, ev_inttob, ev_inttos, ev_strtoi, ev_listl, ev_listt, ev_lists, ev_tupl, ev_tupt, ev_addi, ev_adds, ev_addl, ev_addt, ev_muli, ev_muls, ev_mull, ev_max, ev_min, ev_all, ev_any, gRepr, dLRg, Pd.r1, Pd.r2, eqD_str, eqD_int, eqD_bl, dFld, dProp, dMeth, dAugI, dRev, dMake, dIsi, isT, isC, dNx, dBrk, dNev, dFst, gNm, gTp, gsCons, gsNil, dAsg, dStar, dYes, iniEnd, flatD, wipeE, ev_ixl, ev_ixt, ev_ixs, ev_ixr, ev_srcl, ev_srct, ev_srcs, ev_at0, ev_at1, ev_atl, ev_atn, ev_ixn, Option.some.injEq, exists_eq_left', exists_eq_left, List.foldl_cons, List.foldl_nil, List.map_cons, List.map_nil, List.replicate, List.length_append, List.length_map, List.length_cons, List.length_nil, List.cons_append, List.nil_append, List.append_nil, List.getElem?_cons_zero, List.getElem?_cons_succ, List.set_cons_zero, List.set_cons_succ, Nat.zero_add, Nat.reduceAdd, Nat.reduceSub, Nat.reduceLeDiff, true_and, and_true, decide_eq_true_eq, decide_eq_false_iff_not, ne_eq, reduceCtorEq, false_implies, true_implies, forall_const, Bool.and_self, Bool.and_true, Bool.true_and, lk_ends, lk_blocks, lk_text, lk_spot, lk_letter, Int.toNat_natCast, dFldO, dTmq, dMut, dSetQ, dParQ, qMake, D.still, D.stills, lf_past, lf_word, lf_letters, pf_past, pf_later, pm1, pm2, pm3, pm4, pi1, pi2, pi3, pi4, pi5, lm_state, lm_text, lm_search, dFldC, dPropC, dMethC, dMethRC, dFstC, dMakeC, dMakeRC, dLenC, dInC, dEqC, dDicN, dDix, dixAt, dRaise, one, dRetR, dDropR, dSetR, dIteR, dSure, dCallR, dMethR, dMakeR]
      exact mkw Tw hnx
    have hj : (rowsOf bw 0 bt).foldl stP [] = rowsOf bw 0 bt := by rw [rows_at gw Tw.2.2.2 gt, ← rows_sep54 gw Tw.2.2.2 gt]
    refine seqAt n3 [.val .pot, .val y, .val (.lst (bt.map blkD)), .val (wordD c bt), .val z, .val (.lst (bw.map blkD)), .val (wordD c bw), .val (.tup ((rowsOf bw 0 bt).map prD)), s8, s9] (fun nx hnx => ?_) ?_
    · simp only [envOf, dRet, dRetN, dOp, dSl, dSlO, dVar, dC, pSome, pNo, ev_sll, ev_slt, ev_sls, dBi, dCons, dNil, ev_lenl, ev_lent, ev_lens, ev_lenr, ev_gI, TC, Pd.gSub, gLt, gLe, gGt, gGe, gMod, gFdiv, gPow, gEq, gNe, ev_oki, ev_oks, ev_okl, ev_okt, gIs, gIsNot, gIsB, gIsNotB, Pd.isNon, dCall, dSeq, dSet, dSetO, dMul, setL, bCons, bOwn, bNil, dIf, dIte, dTB, dAnd, dOr, dNot, dBV, dAndV, dOrV, dChain, dTmp, dTmpT, frzE, dFrz, OD.d, dIxO, dApp, dSetI, dNeg, dLst, dLstO, dTup, dO, dDrop, ev_abs, ev_inttoi, ev_inttob, ev_inttos, ev_strtoi, ev_listl, ev_listt, ev_lists, ev_tupl, ev_tupt, ev_addi, ev_adds, ev_addl, ev_addt, ev_muli, ev_muls, ev_mull, ev_max, ev_min, ev_all, ev_any, gRepr, dLRg, Pd.r1, Pd.r2, eqD_str, eqD_int, eqD_bl, dFld, dProp, dMeth, dAugI, dRev, dMake, dIsi, isT, isC, dNx, dBrk, dNev, dFst, gNm, gTp, gsCons, gsNil, dAsg, dStar, dYes, iniEnd, flatD, wipeE, ev_ixl, ev_ixt, ev_ixs, ev_ixr, ev_srcl, ev_srct, ev_srcs, ev_at0, ev_at1, ev_atl, ev_atn, ev_ixn, Option.some.injEq, exists_eq_left', exists_eq_left, List.foldl_cons, List.foldl_nil, List.map_cons, List.map_nil, List.replicate, List.length_append, List.length_map, List.length_cons, List.length_nil, List.cons_append, List.nil_append, List.append_nil, List.getElem?_cons_zero, List.getElem?_cons_succ, List.set_cons_zero, List.set_cons_succ, Nat.zero_add, Nat.reduceAdd, Nat.reduceSub, Nat.reduceLeDiff, true_and, and_true, decide_eq_true_eq, decide_eq_false_iff_not, ne_eq, reduceCtorEq, false_implies, true_implies, forall_const, Bool.and_self, Bool.and_true, Bool.true_and, lk_ends, lk_blocks, lk_text, lk_spot, lk_letter, Int.toNat_natCast, dFldO, dTmq, dMut, dSetQ, dParQ, qMake, D.still, D.stills, lf_past, lf_word, lf_letters, pf_past, pf_later, pm1, pm2, pm3, pm4, pi1, pi2, pi3, pi4, pi5, lm_state, lm_text, lm_search, dFldC, dPropC, dMethC, dMethRC, dFstC, dMakeC, dMakeRC, dLenC, dInC, dEqC, dDicN, dDix, dixAt, dRaise, one, dRetR, dDropR, dSetR, dIteR, dSure, dCallR, dMethR, dMakeR]
      refine noC_up (by simp [noCs, nc_word]) ⟨bw, bt, rfl, gw, Tw.2.2.2, by omega, by omega, fun _ => ?_⟩
      rw [wd_same, hj]
      exact hnx
    have ends := row_ends54 gw Tw.2.2.2 gt
    have hsz := size_lt54 T
    have hrl := rowsOf_len54 bw bt 0
    have hw1 : 1 ≤ size bw := List.length_pos_iff.mpr (exp_ne gw Tw.2.2.2)
    have okr := okRepr_prs (rs := rowsOf bw 0 bt) (by omega) fun r hr => by
      have h1 := (ends r hr r.1 (.inl rfl)).1
      have h2 := (ends r hr r.2 (.inr rfl)).1
      exact ⟨by omega, by omega⟩
    refine seqAt n3 _ (fun nx hnx => if_not n3 (fun P hP => ?_) hnx) ?_
    · simp only [envOf, dRet, dRetN, dOp, dSl, dSlO, dVar, dC, pSome, pNo, ev_sll, ev_slt, ev_sls, dBi, dCons, dNil, ev_lenl, ev_lent, ev_lens, ev_lenr, ev_gI, TC, Pd.gSub, gLt, gLe, gGt, gGe, gMod, gFdiv, gPow, gEq, gNe, ev_oki, ev_oks, ev_okl, ev_okt, gIs, gIsNot, gIsB, gIsNotB, Pd.isNon, dCall, dSeq, dSet, dSetO, dMul, setL, bCons, bOwn, bNil, dIf, dIte, dTB, dAnd, dOr, dNot, dBV, dAndV, dOrV, dChain, dTmp, dTmpT, frzE, dFrz, OD.d, dIxO, dApp, dSetI, dNeg, dLst, dLstO, dTup, dO, dDrop, ev_abs, ev_inttoi, ev_inttob, ev_inttos, ev_strtoi, ev_listl, ev_listt, ev_lists, ev_tupl, ev_tupt, ev_addi, ev_adds, ev_addl, ev_addt, ev_muli, ev_muls, ev_mull, ev_max, ev_min, ev_all, ev_any, gRepr, dLRg, Pd.r1, Pd.r2, eqD_str, eqD_int, eqD_bl, dFld, dProp, dMeth, dAugI, dRev, dMake, dIsi, isT, isC, dNx, dBrk, dNev, dFst, gNm, gTp, gsCons, gsNil, dAsg, dStar, dYes, iniEnd, flatD, wipeE, ev_ixl, ev_ixt, ev_ixs, ev_ixr, ev_srcl, ev_srct, ev_srcs, ev_at0, ev_at1, ev_atl, ev_atn, ev_ixn, Option.some.injEq, exists_eq_left', exists_eq_left, List.foldl_cons, List.foldl_nil, List.map_cons, List.map_nil, List.replicate, List.length_append, List.length_map, List.length_cons, List.length_nil, List.cons_append, List.nil_append, List.append_nil, List.getElem?_cons_zero, List.getElem?_cons_succ, List.set_cons_zero, List.set_cons_succ, Nat.zero_add, Nat.reduceAdd, Nat.reduceSub, Nat.reduceLeDiff, true_and, and_true, decide_eq_true_eq, decide_eq_false_iff_not, ne_eq, reduceCtorEq, false_implies, true_implies, forall_const, Bool.and_self, Bool.and_true, Bool.true_and, lk_ends, lk_blocks, lk_text, lk_spot, lk_letter, Int.toNat_natCast, dFldO, dTmq, dMut, dSetQ, dParQ, qMake, D.still, D.stills, lf_past, lf_word, lf_letters, pf_past, pf_later, pm1, pm2, pm3, pm4, pi1, pi2, pi3, pi4, pi5, lm_state, lm_text, lm_search, dFldC, dPropC, dMethC, dMethRC, dFstC, dMakeC, dMakeRC, dLenC, dInC, dEqC, dDicN, dDix, dixAt, dRaise, one, dRetR, dDropR, dSetR, dIteR, dSure, dCallR, dMethR, dMakeR]
      refine ⟨okr.1, okr.2, noC_up (by simp [noCs, ncb]) ⟨bw, bt, rfl, Tw, gt, fun b hb => letters_lt (T.2.2.1 b hb).2, by omega, fun _ => ?_⟩⟩
      rw [wd_same]
      refine ⟨okr.1, okr.2, ?_⟩
      rw [decide_eq_true rfl]
      exact hP
    simp only [dFor, iVal, dO, dComp, envOf, dRet, dRetN, dOp, dSl, dSlO, dVar, dC, pSome, pNo, ev_sll, ev_slt, ev_sls, dBi, dCons, dNil, ev_lenl, ev_lent, ev_lens, ev_lenr, ev_gI, TC, Pd.gSub, gLt, gLe, gGt, gGe, gMod, gFdiv, gPow, gEq, gNe, ev_oki, ev_oks, ev_okl, ev_okt, gIs, gIsNot, gIsB, gIsNotB, Pd.isNon, dCall, dSeq, dSet, dSetO, dMul, setL, bCons, bOwn, bNil, dIf, dIte, dTB, dAnd, dOr, dNot, dBV, dAndV, dOrV, dChain, dTmp, dTmpT, frzE, dFrz, OD.d, dIxO, dApp, dSetI, dNeg, dLst, dLstO, dTup, dO, dDrop, ev_abs, ev_inttoi, ev_inttob, ev_inttos, ev_strtoi, ev_listl, ev_listt, ev_lists, ev_tupl, ev_tupt, ev_addi, ev_adds, ev_addl, ev_addt, ev_muli, ev_muls, ev_mull, ev_max, ev_min, ev_all, ev_any, gRepr, dLRg, Pd.r1, Pd.r2, eqD_str, eqD_int, eqD_bl, dFld, dProp, dMeth, dAugI, dRev, dMake, dIsi, isT, isC, dNx, dBrk, dNev, dFst, gNm, gTp, gsCons, gsNil, dAsg, dStar, dYes, iniEnd, flatD, wipeE, ev_ixl, ev_ixt, ev_ixs, ev_ixr, ev_srcl, ev_srct, ev_srcs, ev_at0, ev_at1, ev_atl, ev_atn, ev_ixn, Option.some.injEq, exists_eq_left', exists_eq_left, List.foldl_cons, List.foldl_nil, List.map_cons, List.map_nil, List.replicate, List.length_append, List.length_map, List.length_cons, List.length_nil, List.cons_append, List.nil_append, List.append_nil, List.getElem?_cons_zero, List.getElem?_cons_succ, List.set_cons_zero, List.set_cons_succ, Nat.zero_add, Nat.reduceAdd, Nat.reduceSub, Nat.reduceLeDiff, true_and, and_true, decide_eq_true_eq, decide_eq_false_iff_not, ne_eq, reduceCtorEq, false_implies, true_implies, forall_const, Bool.and_self, Bool.and_true, Bool.true_and, lk_ends, lk_blocks, lk_text, lk_spot, lk_letter, Int.toNat_natCast, dFldO, dTmq, dMut, dSetQ, dParQ, qMake, D.still, D.stills, lf_past, lf_word, lf_letters, pf_past, pf_later, pm1, pm2, pm3, pm4, pi1, pi2, pi3, pi4, pi5, lm_state, lm_text, lm_search, dFldC, dPropC, dMethC, dMethRC, dFstC, dMakeC, dMakeRC, dLenC, dInC, dEqC, dDicN, dDix, dixAt, dRaise, one, dRetR, dDropR, dSetR, dIteR, dSure, dCallR, dMethR, dMakeR]
    refine ⟨by omega, compW_map prD (fun r : Pr => intD r.1) _ _ _ (fun x hx m K K' hK => ?_) ?_⟩
    · simp only [gNm, prD, envOf, dRet, dRetN, dOp, dSl, dSlO, dVar, dC, pSome, pNo, ev_sll, ev_slt, ev_sls, dBi, dCons, dNil, ev_lenl, ev_lent, ev_lens, ev_lenr, ev_gI, TC, Pd.gSub, gLt, gLe, gGt, gGe, gMod, gFdiv, gPow, gEq, gNe, ev_oki, ev_oks, ev_okl, ev_okt, gIs, gIsNot, gIsB, gIsNotB, Pd.isNon, dCall, dSeq, dSet, dSetO, dMul, setL, bCons, bOwn, bNil, dIf, dIte, dTB, dAnd, dOr, dNot, dBV, dAndV, dOrV, dChain, dTmp, dTmpT, frzE, dFrz, OD.d, dIxO, dApp, dSetI, dNeg, dLst, dLstO, dTup, dO, dDrop, ev_abs, ev_inttoi, ev_inttob, ev_inttos, ev_strtoi, ev_listl, ev_listt, ev_lists, ev_tupl, ev_tupt, ev_addi, ev_adds, ev_addl, ev_addt, ev_muli, ev_muls, ev_mull, ev_max, ev_min, ev_all, ev_any, gRepr, dLRg, Pd.r1, Pd.r2, eqD_str, eqD_int, eqD_bl, dFld, dProp, dMeth, dAugI, dRev, dMake, dIsi, isT, isC, dNx, dBrk, dNev, dFst, gNm, gTp, gsCons, gsNil, dAsg, dStar, dYes, iniEnd, flatD, wipeE, ev_ixl, ev_ixt, ev_ixs, ev_ixr, ev_srcl, ev_srct, ev_srcs, ev_at0, ev_at1, ev_atl, ev_atn, ev_ixn, Option.some.injEq, exists_eq_left', exists_eq_left, List.foldl_cons, List.foldl_nil, List.map_cons, List.map_nil, List.replicate, List.length_append, List.length_map, List.length_cons, List.length_nil, List.cons_append, List.nil_append, List.append_nil, List.getElem?_cons_zero, List.getElem?_cons_succ, List.set_cons_zero, List.set_cons_succ, Nat.zero_add, Nat.reduceAdd, Nat.reduceSub, Nat.reduceLeDiff, true_and, and_true, decide_eq_true_eq, decide_eq_false_iff_not, ne_eq, reduceCtorEq, false_implies, true_implies, forall_const, Bool.and_self, Bool.and_true, Bool.true_and, lk_ends, lk_blocks, lk_text, lk_spot, lk_letter, Int.toNat_natCast, dFldO, dTmq, dMut, dSetQ, dParQ, qMake, D.still, D.stills, lf_past, lf_word, lf_letters, pf_past, pf_later, pm1, pm2, pm3, pm4, pi1, pi2, pi3, pi4, pi5, lm_state, lm_text, lm_search, dFldC, dPropC, dMethC, dMethRC, dFstC, dMakeC, dMakeRC, dLenC, dInC, dEqC, dDicN, dDix, dixAt, dRaise, one, dRetR, dDropR, dSetR, dIteR, dSure, dCallR, dMethR, dMakeR]
      exact hK
    rw [List.nil_append]
    refine ⟨by omega, compW_map prD (fun r : Pr => intD r.2) _ _ _ (fun x hx m K K' hK => ?_) ?_⟩
    · simp only [gNm, prD, envOf, dRet, dRetN, dOp, dSl, dSlO, dVar, dC, pSome, pNo, ev_sll, ev_slt, ev_sls, dBi, dCons, dNil, ev_lenl, ev_lent, ev_lens, ev_lenr, ev_gI, TC, Pd.gSub, gLt, gLe, gGt, gGe, gMod, gFdiv, gPow, gEq, gNe, ev_oki, ev_oks, ev_okl, ev_okt, gIs, gIsNot, gIsB, gIsNotB, Pd.isNon, dCall, dSeq, dSet, dSetO, dMul, setL, bCons, bOwn, bNil, dIf, dIte, dTB, dAnd, dOr, dNot, dBV, dAndV, dOrV, dChain, dTmp, dTmpT, frzE, dFrz, OD.d, dIxO, dApp, dSetI, dNeg, dLst, dLstO, dTup, dO, dDrop, ev_abs, ev_inttoi, ev_inttob, ev_inttos, ev_strtoi, ev_listl, ev_listt, ev_lists, ev_tupl, ev_tupt, ev_addi, ev_adds, ev_addl, ev_addt, ev_muli, ev_muls, ev_mull, ev_max, ev_min, ev_all, ev_any, gRepr, dLRg, Pd.r1, Pd.r2, eqD_str, eqD_int, eqD_bl, dFld, dProp, dMeth, dAugI, dRev, dMake, dIsi, isT, isC, dNx, dBrk, dNev, dFst, gNm, gTp, gsCons, gsNil, dAsg, dStar, dYes, iniEnd, flatD, wipeE, ev_ixl, ev_ixt, ev_ixs, ev_ixr, ev_srcl, ev_srct, ev_srcs, ev_at0, ev_at1, ev_atl, ev_atn, ev_ixn, Option.some.injEq, exists_eq_left', exists_eq_left, List.foldl_cons, List.foldl_nil, List.map_cons, List.map_nil, List.replicate, List.length_append, List.length_map, List.length_cons, List.length_nil, List.cons_append, List.nil_append, List.append_nil, List.getElem?_cons_zero, List.getElem?_cons_succ, List.set_cons_zero, List.set_cons_succ, Nat.zero_add, Nat.reduceAdd, Nat.reduceSub, Nat.reduceLeDiff, true_and, and_true, decide_eq_true_eq, decide_eq_false_iff_not, ne_eq, reduceCtorEq, false_implies, true_implies, forall_const, Bool.and_self, Bool.and_true, Bool.true_and, lk_ends, lk_blocks, lk_text, lk_spot, lk_letter, Int.toNat_natCast, dFldO, dTmq, dMut, dSetQ, dParQ, qMake, D.still, D.stills, lf_past, lf_word, lf_letters, pf_past, pf_later, pm1, pm2, pm3, pm4, pi1, pi2, pi3, pi4, pi5, lm_state, lm_text, lm_search, dFldC, dPropC, dMethC, dMethRC, dFstC, dMakeC, dMakeRC, dLenC, dInC, dEqC, dDicN, dDix, dixAt, dRaise, one, dRetR, dDropR, dSetR, dIteR, dSure, dCallR, dMethR, dMakeR]
      exact hK
    rw [List.nil_append]
    simp only [envOf, dRet, dRetN, dOp, dSl, dSlO, dVar, dC, pSome, pNo, ev_sll, ev_slt, ev_sls, dBi, dCons, dNil, ev_lenl, ev_lent, ev_lens, ev_lenr, ev_gI, TC, Pd.gSub, gLt, gLe, gGt, gGe, gMod, gFdiv, gPow, gEq, gNe, ev_oki, ev_oks, ev_okl, ev_okt, gIs, gIsNot, gIsB, gIsNotB, Pd.isNon, dCall, dSeq, dSet, dSetO, dMul, setL, bCons, bOwn, bNil, dIf, dIte, dTB, dAnd, dOr, dNot, dBV, dAndV, dOrV, dChain, dTmp, dTmpT, frzE, dFrz, OD.d, dIxO, dApp, dSetI, dNeg, dLst, dLstO, dTup, dO, dDrop, ev_abs, ev_inttoi, ev_inttob, ev_inttos, ev_strtoi, ev_listl, ev_listt, ev_lists, ev_tupl, ev_tupt, ev_addi, ev_adds, ev_addl, ev_addt, ev_muli, ev_muls, ev_mull, ev_max, ev_min, ev_all, ev_any, gRepr, dLRg, Pd.r1, Pd.r2, eqD_str, eqD_int, eqD_bl, dFld, dProp, dMeth, dAugI, dRev, dMake, dIsi, isT, isC, dNx, dBrk, dNev, dFst, gNm, gTp, gsCons, gsNil, dAsg, dStar, dYes, iniEnd, flatD, wipeE, ev_ixl, ev_ixt, ev_ixs, ev_ixr, ev_srcl, ev_srct, ev_srcs, ev_at0, ev_at1, ev_atl, ev_atn, ev_ixn, Option.some.injEq, exists_eq_left', exists_eq_left, List.foldl_cons, List.foldl_nil, List.map_cons, List.map_nil, List.replicate, List.length_append, List.length_map, List.length_cons, List.length_nil, List.cons_append, List.nil_append, List.append_nil, List.getElem?_cons_zero, List.getElem?_cons_succ, List.set_cons_zero, List.set_cons_succ, Nat.zero_add, Nat.reduceAdd, Nat.reduceSub, Nat.reduceLeDiff, true_and, and_true, decide_eq_true_eq, decide_eq_false_iff_not, ne_eq, reduceCtorEq, false_implies, true_implies, forall_const, Bool.and_self, Bool.and_true, Bool.true_and, lk_ends, lk_blocks, lk_text, lk_spot, lk_letter, Int.toNat_natCast, dFldO, dTmq, dMut, dSetQ, dParQ, qMake, D.still, D.stills, lf_past, lf_word, lf_letters, pf_past, pf_later, pm1, pm2, pm3, pm4, pi1, pi2, pi3, pi4, pi5, lm_state, lm_text, lm_search, dFldC, dPropC, dMethC, dMethRC, dFstC, dMakeC, dMakeRC, dLenC, dInC, dEqC, dDicN, dDix, dixAt, dRaise, one, dRetR, dDropR, dSetR, dIteR, dSure, dCallR, dMethR, dMakeR]
    refine ⟨by omega, for_ind (Inv := fun ys n' ε => ∃ s8 s9 : Sl, (∀ v ∈ ys, ∃ x : Nat, v = intD x ∧ x + size bw ≤ size bt ∧ partR x (x + size bw) 0 bt = bw) ∧ n' = n3 ∧ ε = [.val .pot, .val y, .val (.lst (bt.map blkD)), .val (wordD c bt), .val z, .val (.lst (bw.map blkD)), .val (wordD c bw), .val (.tup ((rowsOf bw 0 bt).map prD)), s8, s9]) ?_ ?_ ?_⟩
    · refine ⟨_, _, fun v hv => ?_, rfl, rfl⟩
      rcases List.mem_append.mp hv with h | h
      · obtain ⟨r, hr, rfl⟩ := List.mem_map.mp h
        have := ends r hr r.1 (.inl rfl)
        exact ⟨r.1, rfl, this.1, this.2⟩
      · obtain ⟨r, hr, rfl⟩ := List.mem_map.mp h
        have := ends r hr r.2 (.inr rfl)
        exact ⟨r.2, rfl, this.1, this.2⟩
    · rintro n4 ε ⟨s8, s9, _, rfl, rfl⟩
      exact ih _ _ ⟨_, _, _, _, _, _, by omega, by omega, rfl⟩
    rintro v vs n4 ε nxt2 ih2 ⟨s8, s9, hv, rfl, rfl⟩
    obtain ⟨x, rfl, x1, x2⟩ := hv v (by simp)
    dsimp only [gNm, List.set_cons_succ, List.set_cons_zero]
    refine if_no n4 (fun P hP => ?_) (ih2 _ _ ⟨_, _, fun v hv' => hv v (List.mem_cons_of_mem _ hv'), rfl, rfl⟩)
    simp only [intD, envOf, dRet, dRetN, dOp, dSl, dSlO, dVar, dC, pSome, pNo, ev_sll, ev_slt, ev_sls, dBi, dCons, dNil, ev_lenl, ev_lent, ev_lens, ev_lenr, ev_gI, TC, Pd.gSub, gLt, gLe, gGt, gGe, gMod, gFdiv, gPow, gEq, gNe, ev_oki, ev_oks, ev_okl, ev_okt, gIs, gIsNot, gIsB, gIsNotB, Pd.isNon, dCall, dSeq, dSet, dSetO, dMul, setL, bCons, bOwn, bNil, dIf, dIte, dTB, dAnd, dOr, dNot, dBV, dAndV, dOrV, dChain, dTmp, dTmpT, frzE, dFrz, OD.d, dIxO, dApp, dSetI, dNeg, dLst, dLstO, dTup, dO, dDrop, ev_abs, ev_inttoi, ev_inttob, ev_inttos, ev_strtoi, ev_listl, ev_listt, ev_lists, ev_tupl, ev_tupt, ev_addi, ev_adds, ev_addl, ev_addt, ev_muli, ev_muls, ev_mull, ev_max, ev_min, ev_all, ev_any, gRepr, dLRg, Pd.r1, Pd.r2, eqD_str, eqD_int, eqD_bl, dFld, dProp, dMeth, dAugI, dRev, dMake, dIsi, isT, isC, dNx, dBrk, dNev, dFst, gNm, gTp, gsCons, gsNil, dAsg, dStar, dYes, iniEnd, flatD, wipeE, ev_ixl, ev_ixt, ev_ixs, ev_ixr, ev_srcl, ev_srct, ev_srcs, ev_at0, ev_at1, ev_atl, ev_atn, ev_ixn, Option.some.injEq, exists_eq_left', exists_eq_left, List.foldl_cons, List.foldl_nil, List.map_cons, List.map_nil, List.replicate, List.length_append, List.length_map, List.length_cons, List.length_nil, List.cons_append, List.nil_append, List.append_nil, List.getElem?_cons_zero, List.getElem?_cons_succ, List.set_cons_zero, List.set_cons_succ, Nat.zero_add, Nat.reduceAdd, Nat.reduceSub, Nat.reduceLeDiff, true_and, and_true, decide_eq_true_eq, decide_eq_false_iff_not, ne_eq, reduceCtorEq, false_implies, true_implies, forall_const, Bool.and_self, Bool.and_true, Bool.true_and, lk_ends, lk_blocks, lk_text, lk_spot, lk_letter, Int.toNat_natCast, dFldO, dTmq, dMut, dSetQ, dParQ, qMake, D.still, D.stills, lf_past, lf_word, lf_letters, pf_past, pf_later, pm1, pm2, pm3, pm4, pi1, pi2, pi3, pi4, pi5, lm_state, lm_text, lm_search, dFldC, dPropC, dMethC, dMethRC, dFstC, dMakeC, dMakeRC, dLenC, dInC, dEqC, dDicN, dDix, dixAt, dRaise, one, dRetR, dDropR, dSetR, dIteR, dSure, dCallR, dMethR, dMakeR]
    refine ⟨rfl, rfl, rfl, ?_⟩
    refine noC_up (by have := nc_word c bw; unfold wordD at this; simp [noCs, this]) ⟨bw, rfl, fun _ => ?_⟩
    rw [wd_same]
    simp only [envOf, dRet, dRetN, dOp, dSl, dSlO, dVar, dC, pSome, pNo, ev_sll, ev_slt, ev_sls, dBi, dCons, dNil, ev_lenl, ev_lent, ev_lens, ev_lenr, ev_gI, TC, Pd.gSub, gLt, gLe, gGt, gGe, gMod, gFdiv, gPow, gEq, gNe, ev_oki, ev_oks, ev_okl, ev_okt, gIs, gIsNot, gIsB, gIsNotB, Pd.isNon, dCall, dSeq, dSet, dSetO, dMul, setL, bCons, bOwn, bNil, dIf, dIte, dTB, dAnd, dOr, dNot, dBV, dAndV, dOrV, dChain, dTmp, dTmpT, frzE, dFrz, OD.d, dIxO, dApp, dSetI, dNeg, dLst, dLstO, dTup, dO, dDrop, ev_abs, ev_inttoi, ev_inttob, ev_inttos, ev_strtoi, ev_listl, ev_listt, ev_lists, ev_tupl, ev_tupt, ev_addi, ev_adds, ev_addl, ev_addt, ev_muli, ev_muls, ev_mull, ev_max, ev_min, ev_all, ev_any, gRepr, dLRg, Pd.r1, Pd.r2, eqD_str, eqD_int, eqD_bl, dFld, dProp, dMeth, dAugI, dRev, dMake, dIsi, isT, isC, dNx, dBrk, dNev, dFst, gNm, gTp, gsCons, gsNil, dAsg, dStar, dYes, iniEnd, flatD, wipeE, ev_ixl, ev_ixt, ev_ixs, ev_ixr, ev_srcl, ev_srct, ev_srcs, ev_at0, ev_at1, ev_atl, ev_atn, ev_ixn, Option.some.injEq, exists_eq_left', exists_eq_left, List.foldl_cons, List.foldl_nil, List.map_cons, List.map_nil, List.replicate, List.length_append, List.length_map, List.length_cons, List.length_nil, List.cons_append, List.nil_append, List.append_nil, List.getElem?_cons_zero, List.getElem?_cons_succ, List.set_cons_zero, List.set_cons_succ, Nat.zero_add, Nat.reduceAdd, Nat.reduceSub, Nat.reduceLeDiff, true_and, and_true, decide_eq_true_eq, decide_eq_false_iff_not, ne_eq, reduceCtorEq, false_implies, true_implies, forall_const, Bool.and_self, Bool.and_true, Bool.true_and, lk_ends, lk_blocks, lk_text, lk_spot, lk_letter, Int.toNat_natCast, dFldO, dTmq, dMut, dSetQ, dParQ, qMake, D.still, D.stills, lf_past, lf_word, lf_letters, pf_past, pf_later, pm1, pm2, pm3, pm4, pi1, pi2, pi3, pi4, pi5, lm_state, lm_text, lm_search, dFldC, dPropC, dMethC, dMethRC, dFstC, dMakeC, dMakeRC, dLenC, dInC, dEqC, dDicN, dDix, dixAt, dRaise, one, dRetR, dDropR, dSetR, dIteR, dSure, dCallR, dMethR, dMakeR]
    refine noC_up (by have := nc_word c bt; unfold wordD at this; simp only [noCs, this]; rfl) ⟨bt, x, x + size bw, rfl, T, by omega, x1, fun _ => ?_⟩
    rw [wd_same, x2]
    refine own_eq54 ?_
    rw [decide_eq_true rfl]
    exact hP
  rintro n2 ε ⟨s4, s5, s6, s7, s8, s9, f1, f2, rfl⟩
  refine if_no n2 (fun P hP => ?_) (ih _ _ ⟨_, _, _, _, _, _, _, _, _, by omega, by omega, rfl⟩)
  have r0 : (rowsOf bt 0 bt).foldl stP [] = [(0, 0)] := by rw [rows_at gt T.2.2.2 gt]; exact rowsAt_self (exp_ne gt T.2.2.2)
  have rz : (rowsOf bt 0 [(122, 1)]).foldl stP [] = [] := by
    obtain ⟨a, w, rfl⟩ : ∃ a w, bt = a :: w := by
      cases bt with
      | nil => exact absurd rfl T.2.2.2
      | cons a w => exact ⟨a, w, rfl⟩
    have : rowsOf (a :: w) 0 [(122, 1)] = [] := by
      rw [rowsOf, if_neg, rowsOf]
      · rfl
      · intro z
        have h1 := (st_head54 z.2).1
        have h2 := h5 a (by simp)
        rw [h1] at h2
        exact absurd h2 (by decide)
    rw [this]
    rfl
  have hz : Told [(122, 1)] := ⟨⟨trivial, by decide⟩, by decide, by decide, by decide⟩
  simp only [envOf, dRet, dRetN, dOp, dSl, dSlO, dVar, dC, pSome, pNo, ev_sll, ev_slt, ev_sls, dBi, dCons, dNil, ev_lenl, ev_lent, ev_lens, ev_lenr, ev_gI, TC, Pd.gSub, gLt, gLe, gGt, gGe, gMod, gFdiv, gPow, gEq, gNe, ev_oki, ev_oks, ev_okl, ev_okt, gIs, gIsNot, gIsB, gIsNotB, Pd.isNon, dCall, dSeq, dSet, dSetO, dMul, setL, bCons, bOwn, bNil, dIf, dIte, dTB, dAnd, dOr, dNot, dBV, dAndV, dOrV, dChain, dTmp, dTmpT, frzE, dFrz, OD.d, dIxO, dApp, dSetI, dNeg, dLst, dLstO, dTup, dO, dDrop, ev_abs, ev_inttoi, ev_inttob, ev_inttos, ev_strtoi, ev_listl, ev_listt, ev_lists, ev_tupl, ev_tupt, ev_addi, ev_adds, ev_addl, ev_addt, ev_muli, ev_muls, ev_mull, ev_max, ev_min, ev_all, ev_any, gRepr, dLRg, Pd.r1, Pd.r2, eqD_str, eqD_int, eqD_bl, dFld, dProp, dMeth, dAugI, dRev, dMake, dIsi, isT, isC, dNx, dBrk, dNev, dFst, gNm, gTp, gsCons, gsNil, dAsg, dStar, dYes, iniEnd, flatD, wipeE, ev_ixl, ev_ixt, ev_ixs, ev_ixr, ev_srcl, ev_srct, ev_srcs, ev_at0, ev_at1, ev_atl, ev_atn, ev_ixn, Option.some.injEq, exists_eq_left', exists_eq_left, List.foldl_cons, List.foldl_nil, List.map_cons, List.map_nil, List.replicate, List.length_append, List.length_map, List.length_cons, List.length_nil, List.cons_append, List.nil_append, List.append_nil, List.getElem?_cons_zero, List.getElem?_cons_succ, List.set_cons_zero, List.set_cons_succ, Nat.zero_add, Nat.reduceAdd, Nat.reduceSub, Nat.reduceLeDiff, true_and, and_true, decide_eq_true_eq, decide_eq_false_iff_not, ne_eq, reduceCtorEq, false_implies, true_implies, forall_const, Bool.and_self, Bool.and_true, Bool.true_and, lk_ends, lk_blocks, lk_text, lk_spot, lk_letter, Int.toNat_natCast, dFldO, dTmq, dMut, dSetQ, dParQ, qMake, D.still, D.stills, lf_past, lf_word, lf_letters, pf_past, pf_later, pm1, pm2, pm3, pm4, pi1, pi2, pi3, pi4, pi5, lm_state, lm_text, lm_search, dFldC, dPropC, dMethC, dMethRC, dFstC, dMakeC, dMakeRC, dLenC, dInC, dEqC, dDicN, dDix, dixAt, dRaise, one, dRetR, dDropR, dSetR, dIteR, dSure, dCallR, dMethR, dMakeR]
  refine noC_up (by simp [noCs, nc_word]) ⟨bt, bt, rfl, gt, T.2.2.2, by omega, by omega, fun _ => ?_⟩
  rw [wd_same, r0]
  refine ⟨by decide, fun h => absurd h (by decide), fun _ => ?_⟩
  refine upi rfl ⟨[(122, 1)], rfl, hz, fun _ => ?_⟩
  rw [wd_same]
  refine noC_up (by have := nc_word c [(122, 1)]; unfold wordD at this; simp [noCs, this, nc_word]) ⟨bt, [(122, 1)], rfl, gt, T.2.2.2, by omega, by decide, fun _ => ?_⟩
  rw [wd_same, rz]
  exact ⟨by decide, hP⟩
theorem r_right54 (c : Str → Addr) : RightOk (dn (s_right54 c)) 14000 := fun n Q h q => ⟨rfl, by rw [dr_stN]; exact h, fun n' h1 h2 => by
  rw [dr_stN] at h1 h2
  exact ⟨rfl, q _ h1 h2⟩⟩
end LW
namespace LW
open PySem L2 Pd
structure Fc (K : PySem.W.Frag) (mg : Str → Option Value) : Prop where
  g_Word : mg "Word" = some (.ref (He.ga K "Word"))
  g__law_block_places : mg "_law_block_places" = some (.ref (He.ga K "_law_block_places"))
  g__law_block_text : mg "_law_block_text" = some (.ref (He.ga K "_law_block_text"))
  g__law_cells : mg "_law_cells" = some (.ref (He.ga K "_law_cells"))
  g__law_great_blocks : mg "_law_great_blocks" = some (.ref (He.ga K "_law_great_blocks"))
  g__law_near_blocks : mg "_law_near_blocks" = some (.ref (He.ga K "_law_near_blocks"))
  g__law_of : mg "_law_of" = some (.ref (He.ga K "_law_of"))
  g__law_pot : mg "_law_pot" = some (.ref (He.ga K "_law_pot"))
  g__law_right : mg "_law_right" = some (.ref (He.ga K "_law_right"))
  g__law_take : mg "_law_take" = some (.ref (He.ga K "_law_take"))
  g_block_in : mg "block_in" = some (.ref (He.ga K "block_in"))
  g_blocks_told : mg "blocks_told" = some (.ref (He.ga K "blocks_told"))
  g_is_integer : mg "is_integer" = some (.ref (He.ga K "is_integer"))
  g_is_said : mg "is_said" = some (.ref (He.ga K "is_said"))
  g_joined_stretches : mg "joined_stretches" = some (.ref (He.ga K "joined_stretches"))
  g_made : mg "made" = some (.ref (He.ga K "made"))
  g_pieces_of : mg "pieces_of" = some (.ref (He.ga K "pieces_of"))
  g_places : mg "places" = some (.ref (He.ga K "places"))
  g_stands_at : mg "stands_at" = some (.ref (He.ga K "stands_at"))
  g_text_of : mg "text_of" = some (.ref (He.ga K "text_of"))
  g_whole_in : mg "whole_in" = some (.ref (He.ga K "whole_in"))
  g_law : mg "law" = some (.ref (He.ga K "law"))
  i_BEYOND : ∃ t, mg "BEYOND" = some (.int 1000000000000000000000000000000 t)
  i_MOST_BLOCKS : ∃ t, mg "MOST_BLOCKS" = some (.int 40 t)
  i_MOST_FIGURES_plain : ∃ t, mg "MOST_FIGURES_plain" = some (.int 40 t)
  i_MOST_FIGURES_words : ∃ t, mg "MOST_FIGURES_words" = some (.int 30 t)
  s_FIGURES : ∃ t, mg "FIGURES" = some (.str ⟨List.toArray [48, 49, 50, 51, 52, 53, 54, 55, 56, 57]⟩ t)
  s_LETTERS : ∃ t, mg "LETTERS" = some (.str ⟨List.toArray [97, 98, 99, 100, 101, 102, 103, 104, 105, 106, 107, 108, 109, 110, 111, 112, 113, 114, 115, 116, 117, 118, 119, 120, 121, 122]⟩ t)
  f_abs : mg "abs" = none
  f_all : mg "all" = none
  f_any : mg "any" = none
  f_bool : mg "bool" = none
  f_enumerate : mg "enumerate" = none
  f_int : mg "int" = none
  f_isinstance : mg "isinstance" = none
  f_len : mg "len" = none
  f_list : mg "list" = none
  f_max : mg "max" = none
  f_min : mg "min" = none
  f_range : mg "range" = none
  f_repr : mg "repr" = none
  f_str : mg "str" = none
  f_tuple : mg "tuple" = none
  f_zip : mg "zip" = none
  c_Word : Cls K (He.ga K "Word")
  mk_Word : Mk K (He.ga K "Word") (He.ma K (He.ga K "Word") "__init__")
  n_Word_own_blocks : NoAttr K (He.ga K "Word") "own_blocks"
  n_Word_own_ends : NoAttr K (He.ga K "Word") "own_ends"
  n_Word_own_text : NoAttr K (He.ga K "Word") "own_text"
  p_Word_text : PropOf K (He.ga K "Word") "text" (propAt K "Word" "text") (getterAt "Word" "text" K)
  p_Word_blocks : PropOf K (He.ga K "Word") "blocks" (propAt K "Word" "blocks") (getterAt "Word" "blocks" K)
  p_Word_starts : PropOf K (He.ga K "Word") "starts" (propAt K "Word" "starts") (getterAt "Word" "starts" K)
  p_Word_size : PropOf K (He.ga K "Word") "size" (propAt K "Word" "size") (getterAt "Word" "size" K)
  m_Word___eq__ : Meth K (He.ga K "Word") "__eq__" (methAt "Word" "__eq__" K)
  m_Word_part : Meth K (He.ga K "Word") "part" (methAt "Word" "part" K)
  q_Word : EqnOk K (He.ga K "Word")
  ins_Word : InsOk K (He.ga K "Word")
  is_Word : IsT K (.ref (He.ga K "Word")) (isC (He.ga K "Word") [])
  is_bool : IsT K (.ty "bool") (isT "bool" [He.ga K "Word"])
  is_int : IsT K (.ty "int") (isT "int" [He.ga K "Word"])
  is_str : IsT K (.ty "str") (isT "str" [He.ga K "Word"])
  d_is_integer : ∃ fd, FunD K D_is_integer.name D_is_integer.qual D_is_integer.params D_is_integer.body D_is_integer.scope (D_is_integer.dvs K) [] (D_is_integer.loc K) fd
  d_is_said : ∃ fd, FunD K D_is_said.name D_is_said.qual D_is_said.params D_is_said.body D_is_said.scope [] [] (D_is_said.loc K) fd
  d_whole_in : ∃ fd, FunD K D_whole_in.name D_whole_in.qual D_whole_in.params D_whole_in.body D_whole_in.scope [] [] (D_whole_in.loc K) fd
  d_joined_stretches : ∃ fd, FunD K D_joined_stretches.name D_joined_stretches.qual D_joined_stretches.params D_joined_stretches.body D_joined_stretches.scope [] [] (D_joined_stretches.loc K) fd
  d_pieces_of : ∃ fd, FunD K D_pieces_of.name D_pieces_of.qual D_pieces_of.params D_pieces_of.body D_pieces_of.scope [] [] (D_pieces_of.loc K) fd
  d_block_in : ∃ fd, FunD K D_block_in.name D_block_in.qual D_block_in.params D_block_in.body D_block_in.scope [] [] (D_block_in.loc K) fd
  d_blocks_told : ∃ fd, FunD K D_blocks_told.name D_blocks_told.qual D_blocks_told.params D_blocks_told.body D_blocks_told.scope [] [] (D_blocks_told.loc K) fd
  d_text_of : ∃ fd, FunD K D_text_of.name D_text_of.qual D_text_of.params D_text_of.body D_text_of.scope [] [] (D_text_of.loc K) fd
  d_made : ∃ fd, FunD K D_made.name D_made.qual D_made.params D_made.body D_made.scope [] [] (D_made.loc K) fd
  d_stands_at : ∃ fd, FunD K D_stands_at.name D_stands_at.qual D_stands_at.params D_stands_at.body D_stands_at.scope [] [] (D_stands_at.loc K) fd
  d_places : ∃ fd, FunD K D_places.name D_places.qual D_places.params D_places.body D_places.scope [] [] (D_places.loc K) fd
  d__law_pot : ∃ fd, FunD K D__law_pot.name D__law_pot.qual D__law_pot.params D__law_pot.body D__law_pot.scope [] [] (D__law_pot.loc K) fd
  d__law_take : ∃ fd, FunD K D__law_take.name D__law_take.qual D__law_take.params D__law_take.body D__law_take.scope [] [] (D__law_take.loc K) fd
  d__law_of : ∃ fd, FunD K D__law_of.name D__law_of.qual D__law_of.params D__law_of.body D__law_of.scope [] [] (D__law_of.loc K) fd
  d__law_cells : ∃ fd, FunD K D__law_cells.name D__law_cells.qual D__law_cells.params D__law_cells.body D__law_cells.scope [] [] (D__law_cells.loc K) fd
  d__law_block_text : ∃ fd, FunD K D__law_block_text.name D__law_block_text.qual D__law_block_text.params D__law_block_text.body D__law_block_text.scope [] [] (D__law_block_text.loc K) fd
  d__law_great_blocks : ∃ fd, FunD K D__law_great_blocks.name D__law_great_blocks.qual D__law_great_blocks.params D__law_great_blocks.body D__law_great_blocks.scope [] [] (D__law_great_blocks.loc K) fd
  d__law_block_places : ∃ fd, FunD K D__law_block_places.name D__law_block_places.qual D__law_block_places.params D__law_block_places.body D__law_block_places.scope [] [] (D__law_block_places.loc K) fd
  d__law_near_blocks : ∃ fd, FunD K D__law_near_blocks.name D__law_near_blocks.qual D__law_near_blocks.params D__law_near_blocks.body D__law_near_blocks.scope [] [] (D__law_near_blocks.loc K) fd
  d__law_right : ∃ fd, FunD K D__law_right.name D__law_right.qual D__law_right.params D__law_right.body D__law_right.scope [] [] (D__law_right.loc K) fd
  d_law : ∃ fd, FunD K D_law.name D_law.qual D_law.params D_law.body D_law.scope [] [] (D_law.loc K) fd
  d_Word___init__ : ∃ fd, FunD K D_Word___init__.name D_Word___init__.qual D_Word___init__.params D_Word___init__.body D_Word___init__.scope [] [] (D_Word___init__.loc K) fd
  d_Word_text : ∃ fd, FunD K D_Word_text.name D_Word_text.qual D_Word_text.params D_Word_text.body D_Word_text.scope [] [] (D_Word_text.loc K) fd
  d_Word_blocks : ∃ fd, FunD K D_Word_blocks.name D_Word_blocks.qual D_Word_blocks.params D_Word_blocks.body D_Word_blocks.scope [] [] (D_Word_blocks.loc K) fd
  d_Word_starts : ∃ fd, FunD K D_Word_starts.name D_Word_starts.qual D_Word_starts.params D_Word_starts.body D_Word_starts.scope [] [] (D_Word_starts.loc K) fd
  d_Word_size : ∃ fd, FunD K D_Word_size.name D_Word_size.qual D_Word_size.params D_Word_size.body D_Word_size.scope [] [] (D_Word_size.loc K) fd
  d_Word___eq__ : ∃ fd, FunD K D_Word___eq__.name D_Word___eq__.qual D_Word___eq__.params D_Word___eq__.body D_Word___eq__.scope [] [] (D_Word___eq__.loc K) fd
  d_Word_part : ∃ fd, FunD K D_Word_part.name D_Word_part.qual D_Word_part.params D_Word_part.body D_Word_part.scope [] [] (D_Word_part.loc K) fd
theorem fc_of {K : PySem.W.Frag} {h : Heap} {mg : Str → Option Value} (X : K.In h) (G : h.Ns mainGlobals mg) (c : SaysP fx fn K) : Fc K mg :=
  ⟨He.glo_ok X G (c.fact 0 (f := .old (.glo "Word"))),
   He.glo_ok X G (c.fact 1 (f := .old (.glo "_law_block_places"))),
   He.glo_ok X G (c.fact 2 (f := .old (.glo "_law_block_text"))),
   He.glo_ok X G (c.fact 3 (f := .old (.glo "_law_cells"))),
   He.glo_ok X G (c.fact 4 (f := .old (.glo "_law_great_blocks"))),
   He.glo_ok X G (c.fact 5 (f := .old (.glo "_law_near_blocks"))),
   He.glo_ok X G (c.fact 6 (f := .old (.glo "_law_of"))),
   He.glo_ok X G (c.fact 7 (f := .old (.glo "_law_pot"))),
   He.glo_ok X G (c.fact 8 (f := .old (.glo "_law_right"))),
   He.glo_ok X G (c.fact 9 (f := .old (.glo "_law_take"))),
   He.glo_ok X G (c.fact 10 (f := .old (.glo "block_in"))),
   He.glo_ok X G (c.fact 11 (f := .old (.glo "blocks_told"))),
   He.glo_ok X G (c.fact 12 (f := .old (.glo "is_integer"))),
   He.glo_ok X G (c.fact 13 (f := .old (.glo "is_said"))),
   He.glo_ok X G (c.fact 14 (f := .old (.glo "joined_stretches"))),
   He.glo_ok X G (c.fact 15 (f := .old (.glo "made"))),
   He.glo_ok X G (c.fact 16 (f := .old (.glo "pieces_of"))),
   He.glo_ok X G (c.fact 17 (f := .old (.glo "places"))),
   He.glo_ok X G (c.fact 18 (f := .old (.glo "stands_at"))),
   He.glo_ok X G (c.fact 19 (f := .old (.glo "text_of"))),
   He.glo_ok X G (c.fact 20 (f := .old (.glo "whole_in"))),
   He.glo_ok X G (c.fact 21 (f := .old (.glo "law"))),
   He.int_ok X G (c.fact 22 (f := .old (.int "BEYOND" 1000000000000000000000000000000))),
   He.int_ok X G (c.fact 23 (f := .old (.int "MOST_BLOCKS" 40))),
   He.int_ok X G (c.fact 24 (f := .old (.int "MOST_FIGURES_plain" 40))),
   He.int_ok X G (c.fact 25 (f := .old (.int "MOST_FIGURES_words" 30))),
   He.str_ok X G (c.fact 26 (f := .old (.str "FIGURES" ⟨List.toArray [48, 49, 50, 51, 52, 53, 54, 55, 56, 57]⟩))),
   He.str_ok X G (c.fact 27 (f := .old (.str "LETTERS" ⟨List.toArray [97, 98, 99, 100, 101, 102, 103, 104, 105, 106, 107, 108, 109, 110, 111, 112, 113, 114, 115, 116, 117, 118, 119, 120, 121, 122]⟩))),
   He.free_ok X G (c.fact 28 (f := .old (.free "abs"))),
   He.free_ok X G (c.fact 29 (f := .old (.free "all"))),
   He.free_ok X G (c.fact 30 (f := .old (.free "any"))),
   He.free_ok X G (c.fact 31 (f := .old (.free "bool"))),
   He.free_ok X G (c.fact 32 (f := .old (.free "enumerate"))),
   He.free_ok X G (c.fact 33 (f := .old (.free "int"))),
   He.free_ok X G (c.fact 34 (f := .old (.free "isinstance"))),
   He.free_ok X G (c.fact 35 (f := .old (.free "len"))),
   He.free_ok X G (c.fact 36 (f := .old (.free "list"))),
   He.free_ok X G (c.fact 37 (f := .old (.free "max"))),
   He.free_ok X G (c.fact 38 (f := .old (.free "min"))),
   He.free_ok X G (c.fact 39 (f := .old (.free "range"))),
   He.free_ok X G (c.fact 40 (f := .old (.free "repr"))),
   He.free_ok X G (c.fact 41 (f := .old (.free "str"))),
   He.free_ok X G (c.fact 42 (f := .old (.free "tuple"))),
   He.free_ok X G (c.fact 43 (f := .old (.free "zip"))),
   He.cls_ok (c.fact 44 (f := .old (.cls "Word"))),
   He.mkr_ok (c.fact 45 (f := .old (.mkr "Word"))),
   He.noat_ok (c.fact 46 (f := .old (.noat "Word" "own_blocks"))),
   He.noat_ok (c.fact 47 (f := .old (.noat "Word" "own_ends"))),
   He.noat_ok (c.fact 48 (f := .old (.noat "Word" "own_text"))),
   prop_ok (c.fact 49 (f := .prop "Word" "text")),
   prop_ok (c.fact 50 (f := .prop "Word" "blocks")),
   prop_ok (c.fact 51 (f := .prop "Word" "starts")),
   prop_ok (c.fact 52 (f := .prop "Word" "size")),
   He.meth_ok (c.fact 53 (f := .old (.meth "Word" "__eq__"))),
   He.meth_ok (c.fact 54 (f := .old (.meth "Word" "part"))),
   eqn_ok (c.fact 55 (f := .eqn "Word")),
   ins_ok (He.cls_ok (c.fact 44 (f := .old (.cls "Word")))) (c.fact 56 (f := .ins "Word")),
   isC_ok (fun S hS => by simp only [List.mem_cons, List.mem_nil_iff, or_false] at hS; rcases hS with h | h | h | h | h | h | h <;> subst h; exact isi_ok (c.fact 57 (f := .isi (.type "NoneType") (.inl "Word") false)); exact isi_ok (c.fact 58 (f := .isi (.type "bool") (.inl "Word") false)); exact isi_ok (c.fact 59 (f := .isi (.type "int") (.inl "Word") false)); exact isi_ok (c.fact 60 (f := .isi (.type "str") (.inl "Word") false)); exact isi_ok (c.fact 61 (f := .isi (.type "list") (.inl "Word") false)); exact isi_ok (c.fact 62 (f := .isi (.type "tuple") (.inl "Word") false)); exact isi_ok (c.fact 63 (f := .isi (.type "dict") (.inl "Word") false))) ⟨ins_ok (He.cls_ok (c.fact 44 (f := .old (.cls "Word")))) (c.fact 56 (f := .ins "Word")), isiC_ok (c.fact 64 (f := .isiC "Word" (.inl "Word") true))⟩ (fun C hC => by cases hC),
   isT_ok (fun S hS => by simp only [List.mem_cons, List.mem_nil_iff, or_false] at hS; rcases hS with h | h | h | h | h | h | h <;> subst h; exact isi_ok (c.fact 65 (f := .isi (.type "NoneType") (.inr "bool") false)); exact isi_ok (c.fact 66 (f := .isi (.type "bool") (.inr "bool") true)); exact isi_ok (c.fact 67 (f := .isi (.type "int") (.inr "bool") false)); exact isi_ok (c.fact 68 (f := .isi (.type "str") (.inr "bool") false)); exact isi_ok (c.fact 69 (f := .isi (.type "list") (.inr "bool") false)); exact isi_ok (c.fact 70 (f := .isi (.type "tuple") (.inr "bool") false)); exact isi_ok (c.fact 71 (f := .isi (.type "dict") (.inr "bool") false))) (fun C hC => by simp only [List.mem_cons, List.mem_nil_iff, or_false] at hC; subst hC; exact ⟨ins_ok (He.cls_ok (c.fact 44 (f := .old (.cls "Word")))) (c.fact 56 (f := .ins "Word")), isiC_ok (c.fact 72 (f := .isiC "Word" (.inr "bool") false))⟩),
   isT_ok (fun S hS => by simp only [List.mem_cons, List.mem_nil_iff, or_false] at hS; rcases hS with h | h | h | h | h | h | h <;> subst h; exact isi_ok (c.fact 73 (f := .isi (.type "NoneType") (.inr "int") false)); exact isi_ok (c.fact 74 (f := .isi (.type "bool") (.inr "int") true)); exact isi_ok (c.fact 75 (f := .isi (.type "int") (.inr "int") true)); exact isi_ok (c.fact 76 (f := .isi (.type "str") (.inr "int") false)); exact isi_ok (c.fact 77 (f := .isi (.type "list") (.inr "int") false)); exact isi_ok (c.fact 78 (f := .isi (.type "tuple") (.inr "int") false)); exact isi_ok (c.fact 79 (f := .isi (.type "dict") (.inr "int") false))) (fun C hC => by simp only [List.mem_cons, List.mem_nil_iff, or_false] at hC; subst hC; exact ⟨ins_ok (He.cls_ok (c.fact 44 (f := .old (.cls "Word")))) (c.fact 56 (f := .ins "Word")), isiC_ok (c.fact 80 (f := .isiC "Word" (.inr "int") false))⟩),
   isT_ok (fun S hS => by simp only [List.mem_cons, List.mem_nil_iff, or_false] at hS; rcases hS with h | h | h | h | h | h | h <;> subst h; exact isi_ok (c.fact 81 (f := .isi (.type "NoneType") (.inr "str") false)); exact isi_ok (c.fact 82 (f := .isi (.type "bool") (.inr "str") false)); exact isi_ok (c.fact 83 (f := .isi (.type "int") (.inr "str") false)); exact isi_ok (c.fact 84 (f := .isi (.type "str") (.inr "str") true)); exact isi_ok (c.fact 85 (f := .isi (.type "list") (.inr "str") false)); exact isi_ok (c.fact 86 (f := .isi (.type "tuple") (.inr "str") false)); exact isi_ok (c.fact 87 (f := .isi (.type "dict") (.inr "str") false))) (fun C hC => by simp only [List.mem_cons, List.mem_nil_iff, or_false] at hC; subst hC; exact ⟨ins_ok (He.cls_ok (c.fact 44 (f := .old (.cls "Word")))) (c.fact 56 (f := .ins "Word")), isiC_ok (c.fact 88 (f := .isiC "Word" (.inr "str") false))⟩),
   c.fn 0,
   c.fn 1,
   c.fn 2,
   c.fn 3,
   c.fn 4,
   c.fn 5,
   c.fn 6,
   c.fn 7,
   c.fn 8,
   c.fn 9,
   c.fn 10,
   c.fn 11,
   c.fn 12,
   c.fn 13,
   c.fn 14,
   c.fn 15,
   c.fn 16,
   c.fn 17,
   c.fn 18,
   c.fn 19,
   c.fn 20,
   c.fn 21,
   c.fn 22,
   c.fn 23,
   c.fn 24,
   c.fn 25,
   c.fn 26,
   c.fn 27⟩
section
variable {P : Program} {w : World} {K : PySem.W.Frag} {mg : Str → Option Value} {base : Heap}
abbrev N__law_cells : List Str := ["_law_script", "_law_limit"]
theorem sc__law_cells : FnScope N__law_cells ["_law_script", "_law_limit"] (defScope S__law_cells) := ⟨rfl, rfl, rfl, by decide +kernel, rfl, by decide +kernel, by decide +kernel⟩
theorem ok__law_cells (F : Fc K mg)   {sp : FD} (hs : ∀ ds n Q, sp ds n Q → dFn N__law_cells.length 2 (b__law_cells (He.ga K) ) ds n Q) : HasF false P w K mg base 1 (He.ga K "_law_cells") ["_law_script", "_law_limit"] [] sp :=
  has_f F.d__law_cells sc__law_cells (fun _ _ _ _ _ _ us hl => match us, hl with | [_, _], _ => rfl) (fun fd cdv A outer s H E hr => by
    have nd := sc__law_cells.nd
    exact (dss_one (ds_ret (de_lrg rfl rfl F.f_list (dr_1 rfl F.f_range (de_bi (call_maxA rfl) so_max rfl F.f_max bt_max (da_cons de_int (da_cons (de_bi (call_minA rfl) so_min rfl F.f_min bt_min (da_cons (de_var 1) (da_cons (de_bi call_lenA so_len rfl F.f_len bt_len (da_cons (de_var 0) da_nil)) da_nil))) da_nil)))))))) hs
abbrev N__law_pot : List Str := ["_law_script", "_law_place", "_law_cell", "_law_own", "_law_small"]
theorem sc__law_pot : FnScope N__law_pot ["_law_script", "_law_place"] (defScope S__law_pot) := ⟨rfl, rfl, rfl, by decide +kernel, rfl, by decide +kernel, by decide +kernel⟩
theorem ok__law_pot (F : Fc K mg)   {sp : FD} (hs : ∀ ds n Q, sp ds n Q → dFn N__law_pot.length 2 (b__law_pot (He.ga K) ) ds n Q) : HasF false P w K mg base 1 (He.ga K "_law_pot") ["_law_script", "_law_place"] [] sp :=
  has_f F.d__law_pot sc__law_pot (fun _ _ _ _ _ _ us hl => match us, hl with | [_, _], _ => rfl) (fun fd cdv A outer s H E hr => by
    have nd := sc__law_pot.nd
    exact (dss_cons (ds_set (i := 2) nd rfl (Or.inl rfl) (de_ite (dt_cmp op_lt so_lt (de_var 1) (de_bi call_lenA so_len rfl F.f_len bt_len (da_cons (de_var 0) da_nil))) (de_ix (de_var 0) (de_var 1)) (de_op op_addA so_add (de_op op_mulA so_mul de_int (de_var 1)) de_int)))
      (dss_cons (ds_set (i := 3) nd rfl (Or.inl rfl) (de_op op_mulA so_mul (de_op op_mod so_mod (de_ty call_intA so_int rfl F.f_int bt_int (da_cons (de_bi call_abs so_abs rfl F.f_abs bt_abs (da_cons (de_var 2) da_nil)) da_nil)) (de_op op_powW so_pow (de_op op_powW so_pow de_int de_int) de_int)) (de_ty call_intA so_int rfl F.f_int bt_int (da_cons (de_cmp op_ge so_ge (de_bi call_abs so_abs rfl F.f_abs bt_abs (da_cons (de_var 2) da_nil)) (de_op op_powW so_pow de_int de_int)) da_nil))))
      (dss_cons (ds_set (i := 4) nd rfl (Or.inl rfl) (de_op op_mod so_mod (de_ty call_intA so_int rfl F.f_int bt_int (da_cons (de_var 2) da_nil)) de_int))
      (dss_one (ds_retPot (do_lst (da_cons (de_var 3) (da_cons (de_op op_mod so_mod (de_ty call_intA so_int rfl F.f_int bt_int (da_cons (de_op op_addA so_add (de_op op_addA so_add (de_op op_mulA so_mul (de_var 4) de_int) (de_op op_mulA so_mul (de_op op_mulA so_mul de_int (de_var 1)) (de_var 1))) de_int) da_nil)) de_int) (da_cons de_int da_nil)))))))))) hs
abbrev N__law_take : List Str := ["_law_pot_here", "_law_upto", "_law_digit", "_law_prime", "_law_mixed"]
theorem sc__law_take : FnScope N__law_take ["_law_pot_here", "_law_upto"] (defScope S__law_take) := ⟨rfl, rfl, rfl, by decide +kernel, rfl, by decide +kernel, by decide +kernel⟩
theorem ok__law_take (F : Fc K mg) : HasF false P w K mg base 1 (He.ga K "_law_take") ["_law_pot_here", "_law_upto"] [] takeF :=
  has_take F.d__law_take sc__law_take rfl rfl (fun _ _ _ _ _ _ us hl => match us, hl with | [_, _], _ => rfl) fun fd cdv A outer s H E hr => by
    have nd := sc__law_take.nd
    exact (pss_cons (ps_if (pt_cmpR op_gt (pe_ix ix_seq (pv 0) pe_int (by intro _ _; rfl)) pe_int (nomark _))
      (pss_cons (ps_set (i := 2) nd rfl (Or.inl rfl) (pe_op op_mod (pe_callTy call_int1 rfl F.f_int bt_int (pa_cons (pe_ix ix_seq (pv 0) pe_int (by intro _ _; rfl)) pa_nil)) (pv 1)))
      (pss_cons (ps_asg (pe_op op_fdivW (pe_ix ix_seq (pv 0) pe_int (by intro _ _; rfl)) (pv 1)) (pg_sub (pv 0) pe_int set_list)) (pss_one (ps_ret (pv 2))))) pss_nil)
    (pss_cons (ps_asg (pe_op op_add (pe_ix ix_seq (pv 0) pe_int (by intro _ _; rfl)) pe_int) (pg_sub (pv 0) pe_int set_list))
    (pss_cons (ps_set (i := 3) nd rfl (Or.inl rfl) (pe_ix ix_seq (pe_lst (pa_cons pe_int (pa_cons pe_int (pa_cons pe_int (pa_cons pe_int (pa_cons pe_int pa_nil)))))) (pe_op op_mod (pe_callTy call_int1 rfl F.f_int bt_int (pa_cons (pe_ix ix_seq (pv 0) pe_int (by intro _ _; rfl)) pa_nil)) pe_int) (by intro _ _; rfl)))
    (pss_cons (ps_set (i := 4) nd rfl (Or.inl rfl) (pe_op op_mod (pe_callTy call_int1 rfl F.f_int bt_int (pa_cons (pe_op op_powW (pe_callTy call_int1 rfl F.f_int bt_int (pa_cons (pe_op op_add (pe_op op_add (pe_ix ix_seq (pv 0) pe_int (by intro _ _; rfl)) (pe_op op_mulW (pe_op op_mulW pe_int (pe_ix ix_seq (pv 0) pe_int (by intro _ _; rfl))) (pe_ix ix_seq (pv 0) pe_int (by intro _ _; rfl)))) pe_int) pa_nil)) pe_int) pa_nil)) (pv 3)))
    (pss_cons (ps_set (i := 4) nd rfl (Or.inl rfl) (pe_op op_mod (pe_callTy call_int1 rfl F.f_int bt_int (pa_cons (pe_op op_mulW (pv 4) (pe_op op_add (pe_op op_mod (pe_callTy call_int1 rfl F.f_int bt_int (pa_cons (pv 4) pa_nil)) pe_int) (pe_op op_mulW pe_int (pe_ix ix_seq (pv 0) pe_int (by intro _ _; rfl))))) pa_nil)) pe_int))
    (pss_one (ps_ret (pe_op op_mod (pe_callTy call_int1 rfl F.f_int bt_int (pa_cons (pe_op op_fdivW (pv 4) pe_int) pa_nil)) (pv 1)))))))))
abbrev N__law_of : List Str := ["_law_pot_here", "_law_some"]
theorem sc__law_of : FnScope N__law_of ["_law_pot_here", "_law_some"] (defScope S__law_of) := ⟨rfl, rfl, rfl, by decide +kernel, rfl, by decide +kernel, by decide +kernel⟩
theorem ok__law_of (F : Fc K mg) {s__law_take : FD} (G__law_take : HasF false P w K mg base 1 (He.ga K "_law_take") ["_law_pot_here", "_law_upto"] [] s__law_take) {sp : FD} (hs : ∀ ds n Q, sp ds n Q → dFn N__law_of.length 2 (b__law_of (He.ga K) s__law_take) ds n Q) : HasF false P w K mg base 2 (He.ga K "_law_of") ["_law_pot_here", "_law_some"] [] sp :=
  has_f F.d__law_of sc__law_of (fun _ _ _ _ _ _ us hl => match us, hl with | [_, _], _ => rfl) (fun fd cdv A outer s H E hr => by
    have nd := sc__law_of.nd
    exact (dss_one (ds_ret (de_ix (de_var 1) (de_callF G__law_take (hr.mono (by decide)) rfl F.g__law_take (da_cons (de_var 0) (da_cons (de_bi call_lenA so_len rfl F.f_len bt_len (da_cons (de_var 1) da_nil)) da_nil))))))) hs
abbrev N__law_great_blocks : List Str := ["_law_pot_here", "_law_few", "_law_most", "_law_many", "_law_found", "_law_great", "_law_pool", "_law_lap", "_law_letter", "_law_sign"]
theorem sc__law_great_blocks : FnScope N__law_great_blocks ["_law_pot_here", "_law_few", "_law_most"] (defScope S__law_great_blocks) := ⟨rfl, rfl, rfl, by decide +kernel, rfl, by decide +kernel, by decide +kernel⟩
theorem ok__law_great_blocks (F : Fc K mg) {s__law_take : FD} {s__law_of : FD} (G__law_take : HasF false P w K mg base 1 (He.ga K "_law_take") ["_law_pot_here", "_law_upto"] [] s__law_take) (G__law_of : HasF false P w K mg base 2 (He.ga K "_law_of") ["_law_pot_here", "_law_some"] [] s__law_of) {sp : FD} (hs : ∀ ds n Q, sp ds n Q → dFn N__law_great_blocks.length 3 (b__law_great_blocks (He.ga K) s__law_take s__law_of) ds n Q) : HasF false P w K mg base 3 (He.ga K "_law_great_blocks") ["_law_pot_here", "_law_few", "_law_most"] [] sp :=
  has_f F.d__law_great_blocks sc__law_great_blocks (fun _ _ _ _ _ _ us hl => match us, hl with | [_, _, _], _ => rfl) (fun fd cdv A outer s H E hr => by
    have nd := sc__law_great_blocks.nd
    exact (dss_cons (ds_mul (is := [3, 4]) rfl (db_cons (de_op op_addA so_add (de_var 1) (de_callF G__law_take (hr.mono (by decide)) rfl F.g__law_take (da_cons (de_var 0) (da_cons (de_op op_addA so_add (de_op op_sub so_sub (de_var 2) (de_var 1)) de_int) da_nil)))) (db_own (do_lst da_nil) db_nil)) ⟨pg_name (i := 3) nd rfl (Or.inl rfl), rfl, ⟨pg_name (i := 4) nd rfl (Or.inr rfl), rfl, trivial⟩⟩)
      (dss_cons (ds_par (i := 5) (j := 6) rfl nd rfl rfl (by decide) rfl rfl (db_cons (de_callF G__law_of (hr.mono (by decide)) rfl F.g__law_of (da_cons (de_var 0) (da_cons (de_lst (da_cons de_int (da_cons de_int (da_cons (de_op op_powW so_pow de_int de_int) (da_cons (de_op op_powW so_pow de_int de_int) (da_cons (de_op op_mulA so_mul de_int (de_op op_powW so_pow de_int de_int)) da_nil)))))) da_nil))) (db_cons (de_callF G__law_of (hr.mono (by decide)) rfl F.g__law_of (da_cons (de_var 0) (da_cons (de_lst (da_cons (de_str [97, 98, 99]) (da_cons (de_str [97, 98, 99]) (da_cons (de_str [97, 98, 99, 120, 121]) da_nil)))) da_nil))) db_nil)))
      (dss_cons (ds_for PassesOwn.never rfl (di_rg1 rfl F.f_range (de_var 3)) (dg_nm (i := 7) nd rfl (Or.inl rfl)) (dss_cons (ds_set (i := 8) nd rfl (Or.inl rfl) (de_callF G__law_of (hr.mono (by decide)) rfl F.g__law_of (da_cons (de_var 0) (da_cons (de_own (do_comp rfl nd (di_val (de_var 6)) (blk (N := N__law_great_blocks) (sc := defScope S__law_great_blocks) (own := [("_law_sign", 9)]) (by decide +kernel)) (by decide) (fun _ _ _ _ _ => (dg_nm (i := 9) nd rfl (Or.inl rfl))) (fun _ _ _ _ _ => (dts_one (dt_w (dw_or (dt_tmp 4 (dt_cmp (op_eqA hr.units) so_eq (de_var 4) (de_lst da_nil))) (dw_or1 (dt_cmp (op_neA hr.units) so_ne (de_var 9) (de_ix (de_ixO (pv 4) (de_neg de_int)) de_int))))))) (fun _ _ _ _ _ => (de_var 9)))) da_nil))))
      (dss_one (ds_app (pv 4) (de_tup (da_cons (de_var 8) (da_cons (de_bi (call_maxA rfl) so_max rfl F.f_max bt_max (da_cons de_int (da_cons (de_callF G__law_of (hr.mono (by decide)) rfl F.g__law_of (da_cons (de_var 0) (da_cons (de_lst (da_cons de_int (da_cons de_int (da_cons (de_var 5) (da_cons (de_var 5) (da_cons (de_op op_addA so_add (de_var 5) de_int) (da_cons (de_op op_sub so_sub (de_var 5) de_int) (da_cons (de_op op_mulA so_mul de_int (de_var 5)) da_nil)))))))) da_nil))) da_nil))) da_nil)))))))
      (dss_frz [4] (dss_one (ds_ret (de_var 4)))))))) hs
abbrev N__law_block_text : List Str := ["_law_blocks", "_law_letter", "_law_number"]
theorem sc__law_block_text : FnScope N__law_block_text ["_law_blocks"] (defScope S__law_block_text) := ⟨rfl, rfl, rfl, by decide +kernel, rfl, by decide +kernel, by decide +kernel⟩
theorem ok__law_block_text (F : Fc K mg)   {sp : FD} (hs : ∀ ds n Q, sp ds n Q → dFn N__law_block_text.length 1 (b__law_block_text (He.ga K) ) ds n Q) : HasF false P w K mg base 1 (He.ga K "_law_block_text") ["_law_blocks"] [] sp :=
  has_f F.d__law_block_text sc__law_block_text (fun _ _ _ _ _ _ us hl => match us, hl with | [_], _ => rfl) (fun fd cdv A outer s H E hr => by
    have nd := sc__law_block_text.nd
    exact (dss_one (ds_ret (de_join (de_str []) (de_own (do_comp rfl nd (di_val (de_var 0)) (blk (N := N__law_block_text) (sc := defScope S__law_block_text) (own := [("_law_letter", 1), ("_law_number", 2)]) (by decide +kernel)) (by decide) (fun _ _ _ _ _ => (dg_tup rfl (gs_cons (dg_nm (i := 1) nd rfl (Or.inl rfl)) (gs_cons (dg_nm (i := 2) nd rfl (Or.inl rfl)) gs_nil)))) (fun _ _ _ _ _ => dts_nil) (fun _ _ _ _ _ => (de_op op_addA so_add (de_var 1) (de_ite (dt_cmp op_gt so_gt (de_var 2) de_int) (de_ty call_strA so_str rfl F.f_str bt_str (da_cons (de_var 2) da_nil)) (de_str [])))))))))) hs
abbrev N_is_said : List Str := ["value", "some"]
theorem sc_is_said : FnScope N_is_said ["value", "some"] (defScope S_is_said) := ⟨rfl, rfl, rfl, by decide +kernel, rfl, by decide +kernel, by decide +kernel⟩
theorem ok_is_said (F : Fc K mg)   {sp : FD} (hs : ∀ ds n Q, sp ds n Q → dFn N_is_said.length 2 (b_is_said (He.ga K) ) ds n Q) : HasF false P w K mg base 1 (He.ga K "is_said") ["value", "some"] [] sp :=
  has_f F.d_is_said sc_is_said (fun _ _ _ _ _ _ us hl => match us, hl with | [_, _], _ => rfl) (fun fd cdv A outer s H E hr => by
    have nd := sc_is_said.nd
    exact (dss_one (ds_ret (de_and (de_isi F.is_str rfl F.f_isinstance (de_var 0) (pe_tyN rfl F.f_str bt_str)) (de_one (de_cmp (op_inA (ru hr)) so_in (de_var 0) (de_var 1))))))) hs
abbrev N_pieces_of : List Str := ["text", "spots", "spot", "sign", "end"]
theorem sc_pieces_of : FnScope N_pieces_of ["text"] (defScope S_pieces_of) := ⟨rfl, rfl, rfl, by decide +kernel, rfl, by decide +kernel, by decide +kernel⟩
theorem ok_pieces_of (F : Fc K mg)   {sp : FD} (hs : ∀ ds n Q, sp ds n Q → dFn N_pieces_of.length 1 (b_pieces_of (He.ga K) ) ds n Q) : HasF false P w K mg base 1 (He.ga K "pieces_of") ["text"] [] sp :=
  has_f F.d_pieces_of sc_pieces_of (fun _ _ _ _ _ _ us hl => match us, hl with | [_], _ => rfl) (fun fd cdv A outer s H E hr => by
    have nd := sc_pieces_of.nd
    exact (dss_cons (ds_setComp (ps_setComp (i := 1) rfl nd rfl rfl (sw_true rfl rfl rfl (by decide +kernel)) (di_enum rfl F.f_enumerate (de_var 0)) (blk (N := N_pieces_of) (sc := defScope S_pieces_of) (own := [("spot", 2), ("sign", 3)]) (by decide +kernel)) (by decide) (fun _ _ _ _ _ => (dg_tup rfl (gs_cons (dg_nm (i := 2) nd rfl (Or.inl rfl)) (gs_cons (dg_nm (i := 3) nd rfl (Or.inl rfl)) gs_nil)))) (fun _ _ _ _ _ => (dts_one (dt_cmp (op_inA (ru hr)) so_in (de_var 3) (de_gstr [97, 98, 99, 100, 101, 102, 103, 104, 105, 106, 107, 108, 109, 110, 111, 112, 113, 114, 115, 116, 117, 118, 119, 120, 121, 122] rfl F.s_LETTERS)))) (fun _ _ _ _ _ => (de_var 2))))
      (dss_one (ds_ret (de_own (do_comp rfl nd (di_zip rfl F.f_zip (de_var 1) (de_lst (da_star (de_sl (de_var 1) (dp_some de_int) dp_no) (da_cons (de_bi call_lenA so_len rfl F.f_len bt_len (da_cons (de_var 0) da_nil)) da_nil)))) (blk (N := N_pieces_of) (sc := defScope S_pieces_of) (own := [("spot", 2), ("end", 4)]) (by decide +kernel)) (by decide) (fun _ _ _ _ _ => (dg_tup rfl (gs_cons (dg_nm (i := 2) nd rfl (Or.inl rfl)) (gs_cons (dg_nm (i := 4) nd rfl (Or.inl rfl)) gs_nil)))) (fun _ _ _ _ _ => dts_nil) (fun _ _ _ _ _ => (de_tup (da_cons (de_ix (de_var 0) (de_var 2)) (da_cons (de_sl (de_var 0) (dp_some (de_op op_addA so_add (de_var 2) de_int)) (dp_some (de_var 4))) da_nil)))))))))) hs
abbrev N_whole_in : List Str := ["word", "figures", "sign"]
theorem sc_whole_in : FnScope N_whole_in ["word"] (defScope S_whole_in) := ⟨rfl, rfl, rfl, by decide +kernel, rfl, by decide +kernel, by decide +kernel⟩
theorem ok_whole_in (F : Fc K mg)   {sp : FD} (hs : ∀ ds n Q, sp ds n Q → dFn N_whole_in.length 1 (b_whole_in (He.ga K) ) ds n Q) : HasF false P w K mg base 1 (He.ga K "whole_in") ["word"] [] sp :=
  has_f F.d_whole_in sc_whole_in (fun _ _ _ _ _ _ us hl => match us, hl with | [_], _ => rfl) (fun fd cdv A outer s H E hr => by
    have nd := sc_whole_in.nd
    exact (dss_cons (ds_set (i := 1) nd rfl (Or.inl rfl) (de_ite (dt_cmp (op_eqA hr.units) so_eq (de_sl (de_var 0) dp_no (dp_some de_int)) (de_str [45])) (de_sl (de_var 0) (dp_some de_int) dp_no) (de_var 0)))
      (dss_cons (ds_if (dt_w (dw_or (dt_not (dt_chain op_lt op_le so_lt so_le de_int (de_bi call_lenA so_len rfl F.f_len bt_len (da_cons (de_var 1) da_nil)) (de_gint rfl F.i_MOST_FIGURES_plain))) (dw_or1 (dt_not (dt_val (de_bi (cr_all rfl) so_all rfl F.f_all bt_all (da_cons (de_own (do_comp rfl nd (di_val (de_var 1)) (blk (N := N_whole_in) (sc := defScope S_whole_in) (own := [("sign", 2)]) (by decide +kernel)) (by decide) (fun _ _ _ _ _ => (dg_nm (i := 2) nd rfl (Or.inl rfl))) (fun _ _ _ _ _ => dts_nil) (fun _ _ _ _ _ => (de_cmp (op_inA (ru hr)) so_in (de_var 2) (de_gstr [48, 49, 50, 51, 52, 53, 54, 55, 56, 57] rfl F.s_FIGURES))))) da_nil))))))) (dss_one (ds_ret de_non)) dss_nil)
      (dss_one (ds_ret (de_ite (dt_cmp (op_eqA hr.units) so_eq (de_ty call_strA so_str rfl F.f_str bt_str (da_cons (de_ty call_intA so_int rfl F.f_int bt_int (da_cons (de_var 0) da_nil)) da_nil)) (de_var 0)) (de_ty call_intA so_int rfl F.f_int bt_int (da_cons (de_var 0) da_nil)) de_non)))))) hs
abbrev N_block_in : List Str := ["piece", "letter", "behind", "often"]
theorem sc_block_in : FnScope N_block_in ["piece"] (defScope S_block_in) := ⟨rfl, rfl, rfl, by decide +kernel, rfl, by decide +kernel, by decide +kernel⟩
theorem ok_block_in (F : Fc K mg) {s_whole_in : FD} (G_whole_in : HasF false P w K mg base 1 (He.ga K "whole_in") ["word"] [] s_whole_in) {sp : FD} (hs : ∀ ds n Q, sp ds n Q → dFn N_block_in.length 1 (b_block_in (He.ga K) s_whole_in) ds n Q) : HasF false P w K mg base 2 (He.ga K "block_in") ["piece"] [] sp :=
  has_f F.d_block_in sc_block_in (fun _ _ _ _ _ _ us hl => match us, hl with | [_], _ => rfl) (fun fd cdv A outer s H E hr => by
    have nd := sc_block_in.nd
    exact (dss_cons (ds_asg (de_var 0) (dg_tup rfl (gs_cons (dg_nm (i := 1) nd rfl (Or.inl rfl)) (gs_cons (dg_nm (i := 2) nd rfl (Or.inl rfl)) gs_nil))))
      (dss_cons (ds_if (dt_cmp (op_eqA hr.units) so_eq (de_var 2) (de_str [])) (dss_one (ds_ret (de_tup (da_cons (de_var 1) (da_cons de_int da_nil))))) dss_nil)
      (dss_cons (ds_set (i := 3) nd rfl (Or.inl rfl) (de_callF G_whole_in (hr.mono (by decide)) rfl F.g_whole_in (da_cons (de_var 2) da_nil)))
      (dss_one (ds_ret (de_ite (dt_w (dw_and (dt_cmp op_notN so_isNot (de_var 3) de_non) (dw_and1 (dt_chain op_lt op_lt so_lt so_lt de_int (de_var 3) (de_gint rfl F.i_BEYOND))))) (de_tup (da_cons (de_var 1) (da_cons (de_var 3) da_nil))) de_non))))))) hs
abbrev N_blocks_told : List Str := ["text", "blocks", "piece", "one", "other"]
theorem sc_blocks_told : FnScope N_blocks_told ["text"] (defScope S_blocks_told) := ⟨rfl, rfl, rfl, by decide +kernel, rfl, by decide +kernel, by decide +kernel⟩
theorem ok_blocks_told (F : Fc K mg) {s_is_said : FD} {s_pieces_of : FD} {s_block_in : FD} (G_is_said : HasF false P w K mg base 1 (He.ga K "is_said") ["value", "some"] [] s_is_said) (G_pieces_of : HasF false P w K mg base 1 (He.ga K "pieces_of") ["text"] [] s_pieces_of) (G_block_in : HasF false P w K mg base 2 (He.ga K "block_in") ["piece"] [] s_block_in) {sp : FD} (hs : ∀ ds n Q, sp ds n Q → dFn N_blocks_told.length 1 (b_blocks_told (He.ga K) s_is_said s_pieces_of s_block_in) ds n Q) : HasF false P w K mg base 3 (He.ga K "blocks_told") ["text"] [] sp :=
  has_f F.d_blocks_told sc_blocks_told (fun _ _ _ _ _ _ us hl => match us, hl with | [_], _ => rfl) (fun fd cdv A outer s H E hr => by
    have nd := sc_blocks_told.nd
    exact (dss_cons (ds_if (dt_w (dw_or (dt_not (dt_val (de_isi F.is_str rfl F.f_isinstance (de_var 0) (pe_tyN rfl F.f_str bt_str)))) (dw_or1 (dt_not (dt_val (de_callF G_is_said (hr.mono (by decide)) rfl F.g_is_said (da_cons (de_sl (de_var 0) dp_no (dp_some de_int)) (da_cons (de_ty (call_listA rfl) so_list rfl F.f_list bt_list (da_cons (de_gstr [97, 98, 99, 100, 101, 102, 103, 104, 105, 106, 107, 108, 109, 110, 111, 112, 113, 114, 115, 116, 117, 118, 119, 120, 121, 122] rfl F.s_LETTERS) da_nil)) da_nil)))))))) (dss_one (ds_ret de_non)) dss_nil)
      (dss_cons (ds_set (i := 1) nd rfl (Or.inl rfl) (de_ty (call_tupA rfl) so_tuple rfl F.f_tuple bt_tuple (da_cons (de_own (do_comp rfl nd (di_val (de_callF G_pieces_of (hr.mono (by decide)) rfl F.g_pieces_of (da_cons (de_var 0) da_nil))) (blk (N := N_blocks_told) (sc := defScope S_blocks_told) (own := [("piece", 2)]) (by decide +kernel)) (by decide) (fun _ _ _ _ _ => (dg_nm (i := 2) nd rfl (Or.inl rfl))) (fun _ _ _ _ _ => dts_nil) (fun _ _ _ _ _ => (de_callF G_block_in (hr.mono (by decide)) rfl F.g_block_in (da_cons (de_var 2) da_nil))))) da_nil)))
      (dss_cons (ds_if (dt_w (dw_or (dt_cmp op_gt so_gt (de_bi call_lenA so_len rfl F.f_len bt_len (da_cons (de_var 1) da_nil)) (de_gint rfl F.i_MOST_BLOCKS)) (dw_or1 (dt_cmp (op_inA (ru hr)) so_in de_non (de_var 1))))) (dss_one (ds_ret de_non)) dss_nil)
      (dss_one (ds_ret (de_ite (dt_val (de_bi (cr_all rfl) so_all rfl F.f_all bt_all (da_cons (de_own (do_comp rfl nd (di_zip rfl F.f_zip (de_var 1) (de_sl (de_var 1) (dp_some de_int) dp_no)) (blk (N := N_blocks_told) (sc := defScope S_blocks_told) (own := [("one", 3), ("other", 4)]) (by decide +kernel)) (by decide) (fun _ _ _ _ _ => (dg_tup rfl (gs_cons (dg_nm (i := 3) nd rfl (Or.inl rfl)) (gs_cons (dg_nm (i := 4) nd rfl (Or.inl rfl)) gs_nil)))) (fun _ _ _ _ _ => dts_nil) (fun _ _ _ _ _ => (de_cmp (op_neA hr.units) so_ne (de_ix (de_var 3) de_int) (de_ix (de_var 4) de_int))))) da_nil))) (de_var 1) de_non))))))) hs
abbrev N_Word___init__ : List Str := ["self", "text", "blocks", "ends", "letter", "often"]
theorem sc_Word___init__ : FnScope N_Word___init__ ["self", "text"] (defScope S_Word___init__) := ⟨rfl, rfl, rfl, by decide +kernel, rfl, by decide +kernel, by decide +kernel⟩
theorem ok_Word___init__ (F : Fc K mg) {s_blocks_told : FD} (G_blocks_told : HasF false P w K mg base 3 (He.ga K "blocks_told") ["text"] [] s_blocks_told) {sp : FI} (hs : ∀ ds n Q, sp ds n Q → dIni (He.ga K "Word") N_Word___init__.length 2 (b_Word___init__ (He.ga K) s_blocks_told) ds n Q) : HasI false P w K mg base 4 (He.ga K "Word") ["self", "text"] [] sp :=
  has_init F.mk_Word F.d_Word___init__ sc_Word___init__ (fun _ _ _ _ _ _ us hl => match us, hl with | [_, _], _ => rfl) (fun fd cdv A outer s H E hr => by
    have nd := sc_Word___init__.nd
    exact (dss_cons (ds_set (i := 2) nd rfl (Or.inl rfl) (de_callF G_blocks_told (hr.mono (by decide)) rfl F.g_blocks_told (da_cons (de_var 1) da_nil)))
      (dss_cons (ds_if (dt_cmp op_isN so_is (de_var 2) de_non) (dss_one ds_never) dss_nil)
      (dss_cons (ds_fst F.c_Word F.n_Word_own_text (pv 0) (de_var 1))
      (dss_cons (ds_fst F.c_Word F.n_Word_own_blocks (pv 0) (de_var 2))
      (dss_cons (ds_setO (i := 3) nd rfl (Or.inl rfl) (do_lst (da_cons de_int da_nil)))
      (dss_cons (ds_for PassesOwn.never rfl (di_val (de_var 2)) (dg_tup rfl (gs_cons (dg_nm (i := 4) nd rfl (Or.inl rfl)) (gs_cons (dg_nm (i := 5) nd rfl (Or.inl rfl)) gs_nil))) (dss_one (ds_app (pv 3) (de_op op_addA so_add (de_ixO (pv 3) (de_neg de_int)) (de_var 5)))))
      (dss_frz [3] (dss_one (ds_fst F.c_Word F.n_Word_own_ends (pv 0) (de_ty (call_tupA rfl) so_tuple rfl F.f_tuple bt_tuple (da_cons (de_var 3) da_nil)))))))))))) hs
abbrev N__law_near_blocks : List Str := ["_law_pot_here", "_law_text", "_law_at", "_law_found", "_law_spot", "_law_own", "_law_row", "_law_letter", "_law_many"]
theorem sc__law_near_blocks : FnScope N__law_near_blocks ["_law_pot_here", "_law_text"] (defScope S__law_near_blocks) := ⟨rfl, rfl, rfl, by decide +kernel, rfl, by decide +kernel, by decide +kernel⟩
theorem ok__law_near_blocks (F : Fc K mg) {s__law_take : FD} {s__law_of : FD} (G__law_take : HasF true P w K mg base 1 (He.ga K "_law_take") ["_law_pot_here", "_law_upto"] [] s__law_take) (G__law_of : HasF true P w K mg base 2 (He.ga K "_law_of") ["_law_pot_here", "_law_some"] [] s__law_of) {sp : FD} (hs : ∀ ds n Q, sp ds n Q → dFn N__law_near_blocks.length 2 (b__law_near_blocks (He.ga K) s__law_take s__law_of) ds n Q) : HasF true P w K mg base 3 (He.ga K "_law_near_blocks") ["_law_pot_here", "_law_text"] [] sp :=
  has_f F.d__law_near_blocks sc__law_near_blocks (fun _ _ _ _ _ _ us hl => match us, hl with | [_, _], _ => rfl) (fun fd cdv A outer s H E hr => by
    have nd := sc__law_near_blocks.nd
    exact (dss_cons (ds_set (i := 2) nd rfl (Or.inl rfl) (de_callF G__law_take (hr.mono (by decide)) rfl F.g__law_take (da_cons (de_var 0) (da_cons (de_bi call_lenA so_len rfl F.f_len bt_len (da_cons (de_var 1) da_nil)) da_nil))))
      (dss_cons (ds_setComp (ps_setComp (i := 3) rfl nd rfl rfl (sw_true rfl rfl rfl (by decide +kernel)) (di_val (de_sl (de_var 1) (dp_some (de_var 2)) (dp_some (de_op op_addA so_add (de_var 2) (de_callF G__law_of (hr.mono (by decide)) rfl F.g__law_of (da_cons (de_var 0) (da_cons (de_lst (da_cons de_int (da_cons de_int (da_cons de_int (da_cons de_int (da_cons de_int (da_cons de_int (da_cons de_int (da_cons de_int da_nil))))))))) da_nil))))))) (blk (N := N__law_near_blocks) (sc := defScope S__law_near_blocks) (own := [("_law_row", 6)]) (by decide +kernel)) (by decide) (fun _ _ _ _ _ => (dg_nm (i := 6) nd rfl (Or.inl rfl))) (fun _ _ _ _ _ => dts_nil) (fun _ _ _ _ _ => (de_lstC rfl rfl F.f_list (de_var 6)))))
      (dss_cons (ds_for PassesOwn.never rfl (di_val (de_tup (da_cons de_int (da_cons (de_op op_sub so_sub (de_bi call_lenA so_len rfl F.f_len bt_len (da_cons (de_var 3) da_nil)) de_int) da_nil)))) (dg_nm (i := 4) nd rfl (Or.inl rfl)) (dss_cons (ds_set (i := 5) nd rfl (Or.inl rfl) (de_ixC (de_ix (de_var 3) (de_var 4)) de_int))
      (dss_one (ds_asgC (de_bi (call_maxA rfl) so_max rfl F.f_max bt_max (da_cons de_int (da_cons (de_callF G__law_of (hr.mono (by decide)) rfl F.g__law_of (da_cons (de_var 0) (da_cons (de_lst (da_cons (de_var 5) (da_cons (de_var 5) (da_cons (de_op op_sub so_sub (de_var 5) de_int) (da_cons de_int (da_cons (de_op op_addA so_add (de_var 5) de_int) da_nil)))))) da_nil))) da_nil))) (dgc_sub (de_ix (de_var 3) (de_var 4)) de_int)))))
      (dss_cons (ds_if (dt_cmp (op_eqA hr.units) so_eq (de_callF G__law_take (hr.mono (by decide)) rfl F.g__law_take (da_cons (de_var 0) (da_cons de_int da_nil))) de_int) (dss_cons (ds_set (i := 4) nd rfl (Or.inl rfl) (de_callF G__law_take (hr.mono (by decide)) rfl F.g__law_take (da_cons (de_var 0) (da_cons (de_bi call_lenA so_len rfl F.f_len bt_len (da_cons (de_var 3) da_nil)) da_nil))))
      (dss_one (ds_asgC (de_bi (call_maxA rfl) so_max rfl F.f_max bt_max (da_cons de_int (da_cons (de_op op_fdivW so_fdiv (de_ixC (de_ix (de_var 3) (de_var 4)) de_int) de_int) da_nil))) (dgc_sub (de_ix (de_var 3) (de_var 4)) de_int)))) dss_nil)
      (dss_one (ds_ret (de_own (do_compL rfl nd (di_val (de_var 3)) (blk (N := N__law_near_blocks) (sc := defScope S__law_near_blocks) (own := [("_law_letter", 7), ("_law_many", 8)]) (by decide +kernel)) (by decide) (fun _ _ _ _ _ => (dgl_tup rfl (gs_cons (dg_nm (i := 7) nd rfl (Or.inl rfl)) (gs_cons (dg_nm (i := 8) nd rfl (Or.inl rfl)) gs_nil)))) (fun _ _ _ _ _ => dts_nil) (fun _ _ _ _ _ => (de_tup (da_cons (de_var 7) (da_cons (de_bi (call_minA rfl) so_min rfl F.f_min bt_min (da_cons (de_var 8) (da_cons (de_op op_sub so_sub (de_op op_powW so_pow de_int de_int) de_int) da_nil))) da_nil))))))))))))) hs
abbrev N_Word_blocks : List Str := ["self"]
theorem sc_Word_blocks : FnScope N_Word_blocks ["self"] (defScope S_Word_blocks) := ⟨rfl, rfl, rfl, by decide +kernel, rfl, by decide +kernel, by decide +kernel⟩
theorem ok_Word_blocks (F : Fc K mg)   {sp : FD} (hs : ∀ ds n Q, sp ds n Q → dFn N_Word_blocks.length 1 (b_Word_blocks (He.ga K) ) ds n Q) : HasP false P w K mg base 1 (He.ga K "Word") "blocks" ["self"] sp :=
  has_p F.c_Word F.p_Word_blocks F.d_Word_blocks sc_Word_blocks (fun _ _ _ _ _ _ us hl => match us, hl with | [_], _ => rfl) (fun fd cdv A outer s H E hr => by
    have nd := sc_Word_blocks.nd
    exact (dss_one (ds_ret (de_fld F.c_Word F.n_Word_own_blocks (de_var 0))))) hs
abbrev N_Word_starts : List Str := ["self"]
theorem sc_Word_starts : FnScope N_Word_starts ["self"] (defScope S_Word_starts) := ⟨rfl, rfl, rfl, by decide +kernel, rfl, by decide +kernel, by decide +kernel⟩
theorem ok_Word_starts (F : Fc K mg)   {sp : FD} (hs : ∀ ds n Q, sp ds n Q → dFn N_Word_starts.length 1 (b_Word_starts_v2 (He.ga K) ) ds n Q) : HasP false P w K mg base 1 (He.ga K "Word") "starts" ["self"] sp :=
  has_p F.c_Word F.p_Word_starts F.d_Word_starts sc_Word_starts (fun _ _ _ _ _ _ us hl => match us, hl with | [_], _ => rfl) (fun fd cdv A outer s H E hr => by
    have nd := sc_Word_starts.nd
    exact (dss_one (ds_ret (de_wk (de_ty call_tupF so_tupF rfl F.f_tuple bt_tuple (da_cons (de_slF (de_fld F.c_Word F.n_Word_own_ends (de_var 0)) dp_no (dp_some (de_neg de_int))) da_nil)))))) hs
abbrev N_stands_at : List Str := ["blocks", "others", "number", "letter", "many", "its", "there", "is_amid"]
theorem sc_stands_at : FnScope N_stands_at ["blocks", "others"] (defScope S_stands_at) := ⟨rfl, rfl, rfl, by decide +kernel, rfl, by decide +kernel, by decide +kernel⟩
theorem ok_stands_at (F : Fc K mg)   {sp : FD} (hs : ∀ ds n Q, sp ds n Q → dFn N_stands_at.length 2 (b_stands_at (He.ga K) ) ds n Q) : HasF false P w K mg base 1 (He.ga K "stands_at") ["blocks", "others"] [] sp :=
  has_f F.d_stands_at sc_stands_at (fun _ _ _ _ _ _ us hl => match us, hl with | [_, _], _ => rfl) (fun fd cdv A outer s H E hr => by
    have nd := sc_stands_at.nd
    exact (dss_cons (ds_for PassesOwn.never rfl (di_enumZip rfl F.f_enumerate rfl F.f_zip (de_var 0) (de_var 1)) (dg_tup rfl (gs_cons (dg_nm (i := 2) nd rfl (Or.inl rfl)) (gs_cons (dg_tup rfl (gs_cons (dg_tup rfl (gs_cons (dg_nm (i := 3) nd rfl (Or.inl rfl)) (gs_cons (dg_nm (i := 4) nd rfl (Or.inl rfl)) gs_nil))) (gs_cons (dg_tup rfl (gs_cons (dg_nm (i := 5) nd rfl (Or.inl rfl)) (gs_cons (dg_nm (i := 6) nd rfl (Or.inl rfl)) gs_nil))) gs_nil))) gs_nil))) (dss_cons (ds_set (i := 7) nd rfl (Or.inl rfl) (de_chain op_lt op_lt so_lt so_lt de_int (de_var 2) (de_op op_sub so_sub (de_bi call_lenA so_len rfl F.f_len bt_len (da_cons (de_var 0) da_nil)) de_int)))
      (dss_one (ds_if (dt_w (dw_or (dt_cmp (op_neA hr.units) so_ne (de_var 3) (de_var 5)) (dw_or (dt_cmp op_gt so_gt (de_var 4) (de_var 6)) (dw_or1 (dt_w (dw_and (dt_val (de_var 7)) (dw_and1 (dt_cmp (op_neA hr.units) so_ne (de_var 4) (de_var 6))))))))) (dss_one (ds_ret de_bl)) dss_nil))))
      (dss_one (ds_ret de_bl)))) hs
abbrev N_joined_stretches : List Str := ["rows", "found", "first", "last"]
theorem sc_joined_stretches : FnScope N_joined_stretches ["rows"] (defScope S_joined_stretches) := ⟨rfl, rfl, rfl, by decide +kernel, rfl, by decide +kernel, by decide +kernel⟩
theorem ok_joined_stretches (F : Fc K mg)   {sp : FD} (hs : ∀ ds n Q, sp ds n Q → dFn N_joined_stretches.length 1 (b_joined_stretches (He.ga K) ) ds n Q) : HasF false P w K mg base 1 (He.ga K "joined_stretches") ["rows"] [] sp :=
  has_f F.d_joined_stretches sc_joined_stretches (fun _ _ _ _ _ _ us hl => match us, hl with | [_], _ => rfl) (fun fd cdv A outer s H E hr => by
    have nd := sc_joined_stretches.nd
    exact (dss_cons (ds_setO (i := 1) nd rfl (Or.inl rfl) (do_lst da_nil))
      (dss_cons (ds_for PassesOwn.never rfl (di_val (de_var 0)) (dg_tup rfl (gs_cons (dg_nm (i := 2) nd rfl (Or.inl rfl)) (gs_cons (dg_nm (i := 3) nd rfl (Or.inl rfl)) gs_nil))) (dss_one (ds_if (dt_w (dw_and (dt_tmp 1 (dt_cmp (op_neA hr.units) so_ne (de_var 1) (de_lst da_nil))) (dw_and1 (dt_cmp (op_eqA hr.units) so_eq (de_ix (de_ixO (pv 1) (de_neg de_int)) de_int) (de_op op_sub so_sub (de_var 2) de_int))))) (dss_one (ds_setI (pv 1) (de_neg de_int) (de_tup (da_cons (de_ix (de_ixO (pv 1) (de_neg de_int)) de_int) (da_cons (de_var 3) da_nil))))) (dss_one (ds_app (pv 1) (de_tup (da_cons (de_var 2) (da_cons (de_var 3) da_nil))))))))
      (dss_frz [1] (dss_one (ds_ret (de_ty (call_tupA rfl) so_tuple rfl F.f_tuple bt_tuple (da_cons (de_var 1) da_nil)))))))) hs
abbrev N_places : List Str := ["word", "text", "blocks", "others", "rows", "number", "start", "some", "last"]
theorem sc_places : FnScope N_places ["word", "text"] (defScope S_places) := ⟨rfl, rfl, rfl, by decide +kernel, rfl, by decide +kernel, by decide +kernel⟩
theorem ok_places (F : Fc K mg) {s_Word_blocks : FD} {s_Word_starts : FD} {s_stands_at : FD} {s_joined_stretches : FD} (G_Word_blocks : HasP false P w K mg base 1 (He.ga K "Word") "blocks" ["self"] s_Word_blocks) (G_Word_starts : HasP false P w K mg base 1 (He.ga K "Word") "starts" ["self"] s_Word_starts) (G_stands_at : HasF false P w K mg base 1 (He.ga K "stands_at") ["blocks", "others"] [] s_stands_at) (G_joined_stretches : HasF false P w K mg base 1 (He.ga K "joined_stretches") ["rows"] [] s_joined_stretches) {sp : FD} (hs : ∀ ds n Q, sp ds n Q → dFn N_places.length 2 (b_places (He.ga K) s_Word_blocks s_Word_starts s_stands_at s_joined_stretches) ds n Q) : HasF false P w K mg base 3 (He.ga K "places") ["word", "text"] [] sp :=
  has_f F.d_places sc_places (fun _ _ _ _ _ _ us hl => match us, hl with | [_, _], _ => rfl) (fun fd cdv A outer s H E hr => by
    have nd := sc_places.nd
    exact (dss_cons (ds_if (dt_not (dt_val (de_isi F.is_Word rfl F.f_isinstance (de_var 1) (pe_clN rfl F.g_Word)))) (dss_one ds_never) dss_nil)
      (dss_cons (ds_par3 (i := 2) (j := 3) (l := 4) rfl nd rfl rfl rfl (by decide) (by decide) (by decide) rfl rfl rfl (db_cons (de_propF G_Word_blocks (hr.mono (by decide)) (de_var 0)) (db_cons (de_propF G_Word_blocks (hr.mono (by decide)) (de_var 1)) (db_own (do_lst da_nil) db_nil))))
      (dss_cons (ds_for PassesOwn.never rfl (di_enum rfl F.f_enumerate (de_propF G_Word_starts (hr.mono (by decide)) (de_var 1))) (dg_tup rfl (gs_cons (dg_nm (i := 5) nd rfl (Or.inl rfl)) (gs_cons (dg_nm (i := 6) nd rfl (Or.inl rfl)) gs_nil))) (dss_cons (ds_set (i := 7) nd rfl (Or.inl rfl) (de_sl (de_var 3) (dp_some (de_var 5)) (dp_some (de_op op_addA so_add (de_var 5) (de_bi call_lenA so_len rfl F.f_len bt_len (da_cons (de_var 2) da_nil))))))
      (dss_one (ds_if (dt_w (dw_and (dt_cmp (op_eqA hr.units) so_eq (de_bi call_lenA so_len rfl F.f_len bt_len (da_cons (de_var 7) da_nil)) (de_bi call_lenA so_len rfl F.f_len bt_len (da_cons (de_var 2) da_nil))) (dw_and1 (dt_val (de_callF G_stands_at (hr.mono (by decide)) rfl F.g_stands_at (da_cons (de_var 2) (da_cons (de_var 7) da_nil))))))) (dss_cons (ds_set (i := 8) nd rfl (Or.inl rfl) (de_op op_sub so_sub (de_op op_addA so_add (de_var 6) (de_ix (de_ix (de_var 7) de_int) de_int)) (de_ix (de_ix (de_var 2) de_int) de_int)))
      (dss_one (ds_app (pv 4) (de_tup (da_cons (de_ite (dt_cmp (op_eqA hr.units) so_eq (de_bi call_lenA so_len rfl F.f_len bt_len (da_cons (de_var 2) da_nil)) de_int) (de_var 6) (de_var 8)) (da_cons (de_var 8) da_nil)))))) dss_nil))))
      (dss_frz [4] (dss_one (ds_ret (de_callF G_joined_stretches (hr.mono (by decide)) rfl F.g_joined_stretches (da_cons (de_var 4) da_nil))))))))) hs
abbrev N__law_block_places : List Str := ["_law_word", "_law_text", "_law_found", "_law_start", "_law_at", "_law_letter", "_law_many", "_law_size", "_law_behind", "_law_is_last"]
theorem sc__law_block_places : FnScope N__law_block_places ["_law_word", "_law_text"] (defScope S__law_block_places) := ⟨rfl, rfl, rfl, by decide +kernel, rfl, by decide +kernel, by decide +kernel⟩
theorem ok__law_block_places (F : Fc K mg)   {sp : FD} (hs : ∀ ds n Q, sp ds n Q → dFn N__law_block_places.length 2 (b__law_block_places (He.ga K) ) ds n Q) : HasF false P w K mg base 1 (He.ga K "_law_block_places") ["_law_word", "_law_text"] [] sp :=
  has_f F.d__law_block_places sc__law_block_places (fun _ _ _ _ _ _ us hl => match us, hl with | [_, _], _ => rfl) (fun fd cdv A outer s H E hr => by
    have nd := sc__law_block_places.nd
    exact (dss_cons (ds_par (i := 2) (j := 3) rfl nd rfl rfl (by decide) rfl rfl (db_own (do_lst da_nil) (db_cons de_int db_nil)))
      (dss_cons (ds_for PassesOwn.never rfl (di_enum rfl F.f_enumerate (de_var 1)) (dg_tup rfl (gs_cons (dg_nm (i := 4) nd rfl (Or.inl rfl)) (gs_cons (dg_tup rfl (gs_cons (dg_nm (i := 5) nd rfl (Or.inl rfl)) (gs_cons (dg_nm (i := 6) nd rfl (Or.inl rfl)) gs_nil))) gs_nil))) (dss_cons (ds_set (i := 7) nd rfl (Or.inl rfl) (de_ix (de_ix (de_var 0) de_int) de_int))
      (dss_cons (ds_if (dt_w (dw_and (dt_cmp (op_eqA hr.units) so_eq (de_bi call_lenA so_len rfl F.f_len bt_len (da_cons (de_var 0) da_nil)) de_int) (dw_and (dt_cmp (op_eqA hr.units) so_eq (de_var 5) (de_ix (de_ix (de_var 0) de_int) de_int)) (dw_and1 (dt_cmp op_ge so_ge (de_var 6) (de_var 7)))))) (dss_one (ds_app (pv 2) (de_tup (da_cons (de_var 3) (da_cons (de_op op_sub so_sub (de_op op_addA so_add (de_var 3) (de_var 6)) (de_var 7)) da_nil))))) dss_nil)
      (dss_cons (ds_set (i := 8) nd rfl (Or.inl rfl) (de_sl (de_var 1) (dp_some (de_var 4)) (dp_some (de_op op_addA so_add (de_var 4) (de_bi call_lenA so_len rfl F.f_len bt_len (da_cons (de_var 0) da_nil))))))
      (dss_cons (ds_if (dt_w (dw_and (dt_cmp op_gt so_gt (de_bi call_lenA so_len rfl F.f_len bt_len (da_cons (de_var 0) da_nil)) de_int) (dw_and (dt_cmp (op_eqA hr.units) so_eq (de_bi call_lenA so_len rfl F.f_len bt_len (da_cons (de_var 8) da_nil)) (de_bi call_lenA so_len rfl F.f_len bt_len (da_cons (de_var 0) da_nil))) (dw_and (dt_cmp (op_eqA hr.units) so_eq (de_var 5) (de_ix (de_ix (de_var 0) de_int) de_int)) (dw_and1 (dt_cmp op_ge so_ge (de_var 6) (de_var 7))))))) (dss_cons (ds_set (i := 9) nd rfl (Or.inl rfl) (de_and (de_cmp (op_eqA hr.units) so_eq (de_ix (de_ix (de_var 8) (de_neg de_int)) de_int) (de_ix (de_ix (de_var 0) (de_neg de_int)) de_int)) (de_one (de_cmp op_ge so_ge (de_ix (de_ix (de_var 8) (de_neg de_int)) de_int) (de_ix (de_ix (de_var 0) (de_neg de_int)) de_int)))))
      (dss_one (ds_if (dt_w (dw_and (dt_val (de_var 9)) (dw_and1 (dt_cmp (op_eqA hr.units) so_eq (de_sl (de_var 8) (dp_some de_int) (dp_some (de_neg de_int))) (de_sl (de_var 0) (dp_some de_int) (dp_some (de_neg de_int))))))) (dss_one (ds_app (pv 2) (de_tup (da_cons (de_op op_sub so_sub (de_op op_addA so_add (de_var 3) (de_var 6)) (de_var 7)) (da_cons (de_op op_sub so_sub (de_op op_addA so_add (de_var 3) (de_var 6)) (de_var 7)) da_nil))))) dss_nil))) dss_nil)
      (dss_one (ds_set (i := 3) nd rfl (Or.inl rfl) (de_op op_addA so_add (de_var 3) (de_var 6)))))))))
      (dss_frz [2] (dss_one (ds_ret (de_ty (call_tupA rfl) so_tuple rfl F.f_tuple bt_tuple (da_cons (de_var 2) da_nil)))))))) hs
abbrev N_Word_size : List Str := ["self"]
theorem sc_Word_size : FnScope N_Word_size ["self"] (defScope S_Word_size) := ⟨rfl, rfl, rfl, by decide +kernel, rfl, by decide +kernel, by decide +kernel⟩
theorem ok_Word_size (F : Fc K mg)   {sp : FD} (hs : ∀ ds n Q, sp ds n Q → dFn N_Word_size.length 1 (b_Word_size (He.ga K) ) ds n Q) : HasP false P w K mg base 1 (He.ga K "Word") "size" ["self"] sp :=
  has_p F.c_Word F.p_Word_size F.d_Word_size sc_Word_size (fun _ _ _ _ _ _ us hl => match us, hl with | [_], _ => rfl) (fun fd cdv A outer s H E hr => by
    have nd := sc_Word_size.nd
    exact (dss_one (ds_ret (de_ix (de_fld F.c_Word F.n_Word_own_ends (de_var 0)) (de_neg de_int))))) hs
abbrev N_is_integer : List Str := ["value", "low", "high"]
theorem sc_is_integer : FnScope N_is_integer ["value", "low", "high"] (defScope S_is_integer) := ⟨rfl, rfl, rfl, by decide +kernel, rfl, by decide +kernel, by decide +kernel⟩
theorem ok_is_integer (F : Fc K mg)   {sp : FD} (hs : ∀ ds n Q, sp ds n Q → dFn N_is_integer.length 3 (b_is_integer (He.ga K) ) ds n Q) : HasF false P w K mg base 1 (He.ga K "is_integer") ["value", "low", "high"] [] sp :=
  has_fD F.d_is_integer sc_is_integer 3 1 (by simp [Pd.PDef.dvs, D_is_integer]) rfl (fun _ _ _ _ _ _ _ us its hl hi => match us, its, hl, hi with | [_, _, _], [_], _, _ => ⟨_, rfl, rfl⟩) (fun _ => .nil) (fun fd cdv A outer s H E hr => by
    have nd := sc_is_integer.nd
    exact (dss_cons (ds_if (dt_w (dw_or (dt_not (dt_val (de_isi F.is_int rfl F.f_isinstance (de_var 0) (pe_tyN rfl F.f_int bt_int)))) (dw_or1 (dt_val (de_isi F.is_bool rfl F.f_isinstance (de_var 0) (pe_tyN rfl F.f_bool bt_bool)))))) (dss_one (ds_ret de_bl)) dss_nil)
      (dss_one (ds_ret (de_and (de_cmp op_le so_le (de_var 1) (de_var 0)) (de_one (de_or (de_cmp op_isN so_is (de_var 2) de_non) (de_one (de_cmp op_le so_le (de_var 0) (de_var 2)))))))))) hs
theorem ok_is_integer_2 (F : Fc K mg)   {sp : FD} (hs : ∀ ds n Q, sp ds n Q → dFn N_is_integer.length 3 (b_is_integer (He.ga K) ) ds n Q) : HasF false P w K mg base 1 (He.ga K "is_integer") ["value", "low", "high"] [D.non] sp :=
  has_fD F.d_is_integer sc_is_integer 2 0 (by simp [Pd.PDef.dvs, D_is_integer]) rfl (fun _ _ _ _ _ _ _ us its hl hi => match us, its, hl, hi with | [_, _], [_], _, _ => ⟨_, rfl, rfl⟩) (fun _ => (.cons .non .nil)) (fun fd cdv A outer s H E hr => by
    have nd := sc_is_integer.nd
    exact (dss_cons (ds_if (dt_w (dw_or (dt_not (dt_val (de_isi F.is_int rfl F.f_isinstance (de_var 0) (pe_tyN rfl F.f_int bt_int)))) (dw_or1 (dt_val (de_isi F.is_bool rfl F.f_isinstance (de_var 0) (pe_tyN rfl F.f_bool bt_bool)))))) (dss_one (ds_ret de_bl)) dss_nil)
      (dss_one (ds_ret (de_and (de_cmp op_le so_le (de_var 1) (de_var 0)) (de_one (de_or (de_cmp op_isN so_is (de_var 2) de_non) (de_one (de_cmp op_le so_le (de_var 0) (de_var 2)))))))))) hs
abbrev N_text_of : List Str := ["blocks", "letter", "often"]
theorem sc_text_of : FnScope N_text_of ["blocks"] (defScope S_text_of) := ⟨rfl, rfl, rfl, by decide +kernel, rfl, by decide +kernel, by decide +kernel⟩
theorem ok_text_of (F : Fc K mg)   {sp : FD} (hs : ∀ ds n Q, sp ds n Q → dFn N_text_of.length 1 (b_text_of (He.ga K) ) ds n Q) : HasF false P w K mg base 1 (He.ga K "text_of") ["blocks"] [] sp :=
  has_f F.d_text_of sc_text_of (fun _ _ _ _ _ _ us hl => match us, hl with | [_], _ => rfl) (fun fd cdv A outer s H E hr => by
    have nd := sc_text_of.nd
    exact (dss_one (ds_ret (de_join (de_str []) (de_own (do_comp rfl nd (di_val (de_var 0)) (blk (N := N_text_of) (sc := defScope S_text_of) (own := [("letter", 1), ("often", 2)]) (by decide +kernel)) (by decide) (fun _ _ _ _ _ => (dg_tup rfl (gs_cons (dg_nm (i := 1) nd rfl (Or.inl rfl)) (gs_cons (dg_nm (i := 2) nd rfl (Or.inl rfl)) gs_nil)))) (fun _ _ _ _ _ => dts_nil) (fun _ _ _ _ _ => (de_op op_addA so_add (de_var 1) (de_ite (dt_cmp op_gt so_gt (de_var 2) de_int) (de_ty call_strA so_str rfl F.f_str bt_str (da_cons (de_var 2) da_nil)) (de_str [])))))))))) hs
abbrev N_made : List Str := ["blocks", "letter", "often"]
theorem sc_made : FnScope N_made ["blocks"] (defScope S_made) := ⟨rfl, rfl, rfl, by decide +kernel, rfl, by decide +kernel, by decide +kernel⟩
theorem ok_made (F : Fc K mg) {s_text_of : FD} {i_Word : FI} (G_text_of : HasF false P w K mg base 1 (He.ga K "text_of") ["blocks"] [] s_text_of) (G_Word : HasI false P w K mg base 4 (He.ga K "Word") ["self", "text"] [] i_Word) {sp : FD} (hs : ∀ ds n Q, sp ds n Q → dFn N_made.length 1 (b_made (He.ga K) s_text_of i_Word) ds n Q) : HasF false P w K mg base 6 (He.ga K "made") ["blocks"] [] sp :=
  has_f F.d_made sc_made (fun _ _ _ _ _ _ us hl => match us, hl with | [_], _ => rfl) (fun fd cdv A outer s H E hr => by
    have nd := sc_made.nd
    exact (dss_cons (ds_if (dt_cmp op_gt so_gt (de_bi call_lenA so_len rfl F.f_len bt_len (da_cons (de_var 0) da_nil)) (de_gint rfl F.i_MOST_BLOCKS)) (dss_one ds_never) dss_nil)
      (dss_cons (ds_if (dt_val (de_bi (cr_any rfl) so_any rfl F.f_any bt_any (da_cons (de_own (do_comp rfl nd (di_val (de_var 0)) (blk (N := N_made) (sc := defScope S_made) (own := [("letter", 1), ("often", 2)]) (by decide +kernel)) (by decide) (fun _ _ _ _ _ => (dg_tup rfl (gs_cons (dg_nm (i := 1) nd rfl (Or.inl rfl)) (gs_cons (dg_nm (i := 2) nd rfl (Or.inl rfl)) gs_nil)))) (fun _ _ _ _ _ => dts_nil) (fun _ _ _ _ _ => (de_cmp op_ge so_ge (de_var 2) (de_gint rfl F.i_BEYOND))))) da_nil))) (dss_one ds_never) dss_nil)
      (dss_one (ds_ret (de_makeF G_Word (hr.mono (by decide)) rfl F.g_Word (da_cons (de_callF G_text_of (hr.mono (by decide)) rfl F.g_text_of (da_cons (de_var 0) da_nil)) da_nil))))))) hs
abbrev N_Word_part : List Str := ["self", "first", "last", "found", "letter", "often", "begin", "end"]
theorem sc_Word_part : FnScope N_Word_part ["self", "first", "last"] (defScope S_Word_part) := ⟨rfl, rfl, rfl, by decide +kernel, rfl, by decide +kernel, by decide +kernel⟩
theorem ok_Word_part (F : Fc K mg) {s_is_integer : FD} {s_Word_size : FD} {s_made : FD} (G_is_integer_2 : HasF false P w K mg base 1 (He.ga K "is_integer") ["value", "low", "high"] [D.non] s_is_integer) (G_Word_size : HasP false P w K mg base 1 (He.ga K "Word") "size" ["self"] s_Word_size) (G_is_integer : HasF false P w K mg base 1 (He.ga K "is_integer") ["value", "low", "high"] [] s_is_integer) (G_made : HasF false P w K mg base 6 (He.ga K "made") ["blocks"] [] s_made) {sp : FD} (hs : ∀ ds n Q, sp ds n Q → dFn N_Word_part.length 3 (b_Word_part (He.ga K) s_is_integer s_Word_size s_made) ds n Q) : HasM false P w K mg base 7 (He.ga K "Word") "part" ["self", "first", "last"] [] sp :=
  has_m F.c_Word F.m_Word_part F.d_Word_part sc_Word_part (fun _ _ _ _ _ _ us hl => match us, hl with | [_, _, _], _ => rfl) (fun fd cdv A outer s H E hr => by
    have nd := sc_Word_part.nd
    exact (dss_cons (ds_if (dt_w (dw_or (dt_not (dt_val (de_callF G_is_integer_2 (hr.mono (by decide)) rfl F.g_is_integer (da_cons (de_var 1) (da_cons de_int da_nil))))) (dw_or1 (dt_not (dt_val (de_callF G_is_integer (hr.mono (by decide)) rfl F.g_is_integer (da_cons (de_var 2) (da_cons (de_op op_addA so_add (de_var 1) de_int) (da_cons (de_propF G_Word_size (hr.mono (by decide)) (de_var 0)) da_nil))))))))) (dss_one ds_never) dss_nil)
      (dss_cons (ds_setO (i := 3) nd rfl (Or.inl rfl) (do_lst da_nil))
      (dss_cons (ds_for PassesOwn.never rfl (di_zip3 rfl F.f_zip (de_fld F.c_Word F.n_Word_own_blocks (de_var 0)) (de_fld F.c_Word F.n_Word_own_ends (de_var 0)) (de_sl (de_fld F.c_Word F.n_Word_own_ends (de_var 0)) (dp_some de_int) dp_no)) (dg_tup rfl (gs_cons (dg_tup rfl (gs_cons (dg_nm (i := 4) nd rfl (Or.inl rfl)) (gs_cons (dg_nm (i := 5) nd rfl (Or.inl rfl)) gs_nil))) (gs_cons (dg_nm (i := 6) nd rfl (Or.inl rfl)) (gs_cons (dg_nm (i := 7) nd rfl (Or.inl rfl)) gs_nil)))) (dss_one (ds_if (dt_w (dw_and (dt_cmp op_lt so_lt (de_var 6) (de_var 2)) (dw_and1 (dt_cmp op_lt so_lt (de_var 1) (de_var 7))))) (dss_one (ds_app (pv 3) (de_tup (da_cons (de_var 4) (da_cons (de_op op_sub so_sub (de_bi (call_minA rfl) so_min rfl F.f_min bt_min (da_cons (de_var 7) (da_cons (de_var 2) da_nil))) (de_bi (call_maxA rfl) so_max rfl F.f_max bt_max (da_cons (de_var 6) (da_cons (de_var 1) da_nil)))) da_nil))))) dss_nil)))
      (dss_frz [3] (dss_one (ds_ret (de_callF G_made (hr.mono (by decide)) rfl F.g_made (da_cons (de_var 3) da_nil))))))))) hs
abbrev N_Word_text : List Str := ["self"]
theorem sc_Word_text : FnScope N_Word_text ["self"] (defScope S_Word_text) := ⟨rfl, rfl, rfl, by decide +kernel, rfl, by decide +kernel, by decide +kernel⟩
theorem ok_Word_text (F : Fc K mg)   {sp : FD} (hs : ∀ ds n Q, sp ds n Q → dFn N_Word_text.length 1 (b_Word_text (He.ga K) ) ds n Q) : HasP false P w K mg base 1 (He.ga K "Word") "text" ["self"] sp :=
  has_p F.c_Word F.p_Word_text F.d_Word_text sc_Word_text (fun _ _ _ _ _ _ us hl => match us, hl with | [_], _ => rfl) (fun fd cdv A outer s H E hr => by
    have nd := sc_Word_text.nd
    exact (dss_one (ds_ret (de_fld F.c_Word F.n_Word_own_text (de_var 0))))) hs
abbrev N_Word___eq__ : List Str := ["self", "other"]
theorem sc_Word___eq__ : FnScope N_Word___eq__ ["self", "other"] (defScope S_Word___eq__) := ⟨rfl, rfl, rfl, by decide +kernel, rfl, by decide +kernel, by decide +kernel⟩
theorem ok_Word___eq__ (F : Fc K mg) {s_Word_text : FD} (G_Word_text : HasP false P w K mg base 1 (He.ga K "Word") "text" ["self"] s_Word_text) {sp : FD} (hs : ∀ ds n Q, sp ds n Q → dFn N_Word___eq__.length 2 (b_Word___eq__ (He.ga K) s_Word_text) ds n Q) : HasM false P w K mg base 3 (He.ga K "Word") "__eq__" ["self", "other"] [] sp :=
  has_m F.c_Word F.m_Word___eq__ F.d_Word___eq__ sc_Word___eq__ (fun _ _ _ _ _ _ us hl => match us, hl with | [_, _], _ => rfl) (fun fd cdv A outer s H E hr => by
    have nd := sc_Word___eq__.nd
    exact (dss_one (ds_ret (de_and (de_isi F.is_Word rfl F.f_isinstance (de_var 1) (pe_clN rfl F.g_Word)) (de_one (de_cmp (op_eqA hr.units) so_eq (de_fld F.c_Word F.n_Word_own_text (de_var 0)) (de_propF G_Word_text (hr.mono (by decide)) (de_var 1)))))))) hs
abbrev N__law_right : List Str := ["_law_pot_here", "_law_lap", "_law_blocks", "_law_text", "_law_turn", "_law_some", "_law_word", "_law_told", "_law_place", "_law_row"]
theorem sc__law_right : FnScope N__law_right ["_law_pot_here"] (defScope S__law_right) := ⟨rfl, rfl, rfl, by decide +kernel, rfl, by decide +kernel, by decide +kernel⟩
theorem ok__law_right (F : Fc K mg) {s__law_of : FD} {s__law_great_blocks : FD} {s__law_block_text : FD} {i_Word : FI} {s__law_near_blocks : FD} {s_places : FD} {s__law_block_places : FD} {s_Word_size : FD} {s_Word_part : FD} {s_Word___eq__ : FD} (G__law_of : HasF true P w K mg base 2 (He.ga K "_law_of") ["_law_pot_here", "_law_some"] [] s__law_of) (G__law_great_blocks : HasF true P w K mg base 3 (He.ga K "_law_great_blocks") ["_law_pot_here", "_law_few", "_law_most"] [] s__law_great_blocks) (G__law_block_text : HasF true P w K mg base 1 (He.ga K "_law_block_text") ["_law_blocks"] [] s__law_block_text) (G_Word : HasI true P w K mg base 4 (He.ga K "Word") ["self", "text"] [] i_Word) (G__law_near_blocks : HasF true P w K mg base 3 (He.ga K "_law_near_blocks") ["_law_pot_here", "_law_text"] [] s__law_near_blocks) (G_places : HasF true P w K mg base 3 (He.ga K "places") ["word", "text"] [] s_places) (G__law_block_places : HasF true P w K mg base 1 (He.ga K "_law_block_places") ["_law_word", "_law_text"] [] s__law_block_places) (G_Word_size : HasP true P w K mg base 1 (He.ga K "Word") "size" ["self"] s_Word_size) (G_Word_part : HasM true P w K mg base 7 (He.ga K "Word") "part" ["self", "first", "last"] [] s_Word_part) (G_Word___eq__ : HasM true P w K mg base 3 (He.ga K "Word") "__eq__" ["self", "other"] [] s_Word___eq__) {sp : FD} (hs : ∀ ds n Q, sp ds n Q → dFn N__law_right.length 1 (b__law_right_v82 (He.ga K) s__law_of s__law_great_blocks s__law_block_text i_Word s__law_near_blocks s_places s__law_block_places s_Word_size s_Word_part s_Word___eq__) ds n Q) : HasG true P w K mg base 8 (He.ga K "_law_right") ["_law_pot_here"] [] sp :=
  has_g F.d__law_right sc__law_right (fun _ _ _ _ _ _ us hl => match us, hl with | [_], _ => rfl) (fun fd cdv A outer s H E hr hgd => by
    have nd := sc__law_right.nd
    exact (dss_cons (ds_for PassesOwn.never rfl (di_rg1 rfl F.f_range de_int) (dg_nm (i := 1) nd rfl (Or.inl rfl)) (dss_cons (ds_set (i := 2) nd rfl (Or.inl rfl) (de_callF G__law_great_blocks (hr.mono (by decide)) rfl F.g__law_great_blocks (da_cons (de_var 0) (da_cons de_int (da_cons (de_callF G__law_of (hr.mono (by decide)) rfl F.g__law_of (da_cons (de_var 0) (da_cons (de_lst (da_cons de_int (da_cons de_int (da_cons de_int da_nil)))) da_nil))) da_nil)))))
      (dss_cons (ds_set (i := 3) nd rfl (Or.inl rfl) (de_makeF G_Word (hr.mono (by decide)) rfl F.g_Word (da_cons (de_callF G__law_block_text (hr.mono (by decide)) rfl F.g__law_block_text (da_cons (de_var 2) da_nil)) da_nil)))
      (dss_cons (ds_for PassesOwn.never rfl (di_rg1 rfl F.f_range de_int) (dg_nm (i := 4) nd rfl (Or.inl rfl)) (dss_cons (ds_set (i := 5) nd rfl (Or.inl rfl) (de_callF G__law_near_blocks (hr.mono (by decide)) rfl F.g__law_near_blocks (da_cons (de_var 0) (da_cons (de_var 2) da_nil))))
      (dss_cons (ds_set (i := 6) nd rfl (Or.inl rfl) (de_makeF G_Word (hr.mono (by decide)) rfl F.g_Word (da_cons (de_callF G__law_block_text (hr.mono (by decide)) rfl F.g__law_block_text (da_cons (de_var 5) da_nil)) da_nil)))
      (dss_cons (ds_set (i := 7) nd rfl (Or.inl rfl) (de_callF G_places (hr.mono (by decide)) rfl F.g_places (da_cons (de_var 6) (da_cons (de_var 3) da_nil))))
      (dss_cons (ds_if (dt_cmp (op_neA hr.units) so_ne (de_bi (call_repr hgd hr.units) so_repr rfl F.f_repr bt_repr (da_cons (de_var 7) da_nil)) (de_bi (call_repr hgd hr.units) so_repr rfl F.f_repr bt_repr (da_cons (de_callF G__law_block_places (hr.mono (by decide)) rfl F.g__law_block_places (da_cons (de_var 5) (da_cons (de_var 2) da_nil))) da_nil))) (dss_one (ds_ret de_bl)) dss_nil)
      (dss_one (ds_for PassesOwn.never rfl (di_val (de_op op_addA so_add (de_own (do_comp rfl nd (di_val (de_var 7)) (blk (N := N__law_right) (sc := defScope S__law_right) (own := [("_law_row", 9)]) (by decide +kernel)) (by decide) (fun _ _ _ _ _ => (dg_nm (i := 9) nd rfl (Or.inl rfl))) (fun _ _ _ _ _ => dts_nil) (fun _ _ _ _ _ => (de_ix (de_var 9) de_int)))) (de_own (do_comp rfl nd (di_val (de_var 7)) (blk (N := N__law_right) (sc := defScope S__law_right) (own := [("_law_row", 9)]) (by decide +kernel)) (by decide) (fun _ _ _ _ _ => (dg_nm (i := 9) nd rfl (Or.inl rfl))) (fun _ _ _ _ _ => dts_nil) (fun _ _ _ _ _ => (de_ix (de_var 9) de_int)))))) (dg_nm (i := 8) nd rfl (Or.inl rfl)) (dss_one (ds_if (dt_ownNe G_Word___eq__ F.q_Word (hr.mono (by decide)) (de_methF G_Word_part (hr.mono (by decide)) (de_var 3) (da_cons (de_var 8) (da_cons (de_op op_addA so_add (de_var 8) (de_propF G_Word_size (hr.mono (by decide)) (de_var 6))) da_nil))) (de_var 6)) (dss_one (ds_ret de_bl)) dss_nil)))))))))
      (dss_one (ds_if (dt_w (dw_or (dt_cmp (op_neA hr.units) so_ne (de_callF G_places (hr.mono (by decide)) rfl F.g_places (da_cons (de_var 3) (da_cons (de_var 3) da_nil))) (de_tup (da_cons (de_tup (da_cons de_int (da_cons de_int da_nil))) da_nil))) (dw_or1 (dt_cmp (op_neA hr.units) so_ne (de_callF G_places (hr.mono (by decide)) rfl F.g_places (da_cons (de_var 3) (da_cons (de_makeF G_Word (hr.mono (by decide)) rfl F.g_Word (da_cons (de_str [122]) da_nil)) da_nil))) (de_tup da_nil))))) (dss_one (ds_ret de_bl)) dss_nil))))))
      (dss_one (ds_ret de_bl)))) hs
abbrev N_law : List Str := ["_law_script", "_law_place", "_law_pot_here", "_law_lap"]
theorem sc_law : FnScope N_law ["_law_script"] (defScope S_law) := ⟨rfl, rfl, rfl, by decide +kernel, rfl, by decide +kernel, by decide +kernel⟩
theorem ok_law (F : Fc K mg) {s__law_cells : FD} {s__law_pot : FD} {s__law_right : FD} (G__law_cells : HasF false P w K mg base 1 (He.ga K "_law_cells") ["_law_script", "_law_limit"] [] s__law_cells) (G__law_pot : HasF false P w K mg base 1 (He.ga K "_law_pot") ["_law_script", "_law_place"] [] s__law_pot) (G__law_right : HasG false P w K mg base 8 (He.ga K "_law_right") ["_law_pot_here"] [] s__law_right) {sp : FD} (hs : ∀ ds n Q, sp ds n Q → dFn N_law.length 1 (b_law (He.ga K) s__law_cells s__law_pot s__law_right) ds n Q) : HasG false P w K mg base 9 (He.ga K "law") ["_law_script"] [] sp :=
  has_g F.d_law sc_law (fun _ _ _ _ _ _ us hl => match us, hl with | [_], _ => rfl) (fun fd cdv A outer s H E hr hgd => by
    have nd := sc_law.nd
    exact (dss_cons (ds_for PassesOwn.never rfl (di_val (de_callF G__law_cells (hr.mono (by decide)) rfl F.g__law_cells (da_cons (de_var 0) (da_cons de_int da_nil)))) (dg_nm (i := 1) nd rfl (Or.inl rfl)) (dss_cons (ds_set (i := 2) nd rfl (Or.inr rfl) (de_callF G__law_pot (hr.mono (by decide)) rfl F.g__law_pot (da_cons (de_var 0) (da_cons (de_var 1) da_nil))))
      (dss_one (ds_if (dt_not (dt_val (de_bi (cr_all rfl) so_all rfl F.f_all bt_all (da_cons (de_own (do_comp rfl nd (di_rg1 rfl F.f_range de_int) (blk (N := N_law) (sc := defScope S_law) (own := [("_law_lap", 3)]) (by decide +kernel)) (by decide) (fun _ _ _ _ _ => (dg_nm (i := 3) nd rfl (Or.inl rfl))) (fun _ _ _ _ _ => dts_nil) (fun _ _ _ _ _ => (de_callHG G__law_right (hr.mono (by decide)) hgd rfl F.g__law_right (da_cons (de_var 2) da_nil))))) da_nil)))) (dss_one (ds_ret de_bl)) dss_nil))))
      (dss_one (ds_ret de_bl)))) hs
end
end LW
namespace LW
open PySem L2 Pd
theorem chain {P : Program} {w : World} {K : PySem.W.Frag} {mg : Str → Option Value} {base : Heap} (F : Fc K mg) : HasG false P w K mg base 9 (He.ga K "law") ["_law_script"] [] (s_law2) := by
  have G__law_cells := ok__law_cells (P := P) (w := w) (base := base) F  (l_cells (He.ga K))
  have G__law_pot := ok__law_pot (P := P) (w := w) (base := base) F  (l_pot (He.ga K))
  have G__law_take := ok__law_take (P := P) (w := w) (base := base) F
  have G__law_of := ok__law_of (P := P) (w := w) (base := base) F G__law_take (l_of (He.ga K))
  have G__law_great_blocks := ok__law_great_blocks (P := P) (w := w) (base := base) F G__law_take G__law_of (l_great54 (He.ga K))
  have G__law_block_text := ok__law_block_text (P := P) (w := w) (base := base) F  (l_block_text (He.ga K))
  have G_is_said := ok_is_said (P := P) (w := w) (base := base) F  (l_is_said (He.ga K))
  have G_pieces_of := ok_pieces_of (P := P) (w := w) (base := base) F  (l_pieces_of (He.ga K))
  have G_whole_in := ok_whole_in (P := P) (w := w) (base := base) F  (l_whole_in (He.ga K))
  have G_block_in := ok_block_in (P := P) (w := w) (base := base) F G_whole_in (l_block_in (He.ga K))
  have G_blocks_told := ok_blocks_told (P := P) (w := w) (base := base) F G_is_said G_pieces_of G_block_in (l_blocks_told (He.ga K))
  have G_Word := ok_Word___init__ (P := P) (w := w) (base := base) F G_blocks_told (l_word_init (He.ga K))
  have G__law_near_blocks := ok__law_near_blocks (P := P) (w := w) (base := base) F (G__law_take).up (G__law_of).up (l_near54 (He.ga K))
  have G_Word_blocks := ok_Word_blocks (P := P) (w := w) (base := base) F  (l_Word_blocks (He.ga K))
  have G_Word_starts_B := ok_Word_starts (P := P) (w := w) (base := base) F  (l_Word_starts2 (He.ga K))
  have G_Word_starts := ok_Word_starts (P := P) (w := w) (base := base) F  (l_Word_starts1 (He.ga K))
  have G_stands_at := ok_stands_at (P := P) (w := w) (base := base) F  (l_stands_at (He.ga K))
  have G_joined_stretches := ok_joined_stretches (P := P) (w := w) (base := base) F  (l_joined (He.ga K))
  have G_places := ok_places (P := P) (w := w) (base := base) F G_Word_blocks G_Word_starts G_stands_at G_joined_stretches (l_places (He.ga K))
  have G__law_block_places := ok__law_block_places (P := P) (w := w) (base := base) F  (l_blockPlaces (He.ga K))
  have G_Word_size := ok_Word_size (P := P) (w := w) (base := base) F  (l_Word_size (He.ga K))
  have G_is_integer := ok_is_integer (P := P) (w := w) (base := base) F  (l_is_integer (He.ga K))
  have G_is_integer_2 := ok_is_integer_2 (P := P) (w := w) (base := base) F  (l_is_integer (He.ga K))
  have G_text_of := ok_text_of (P := P) (w := w) (base := base) F  (l_text_of (He.ga K))
  have G_made := ok_made (P := P) (w := w) (base := base) F G_text_of G_Word (l_made (He.ga K))
  have G_Word_part := ok_Word_part (P := P) (w := w) (base := base) F G_is_integer_2 G_Word_size G_is_integer G_made (l_Word_part (He.ga K))
  have G_Word_text := ok_Word_text (P := P) (w := w) (base := base) F  (l_Word_text (He.ga K))
  have G_Word___eq__ := ok_Word___eq__ (P := P) (w := w) (base := base) F G_Word_text (l_Word_eq (He.ga K))
  have G__law_right := ok__law_right (P := P) (w := w) (base := base) F (G__law_of).up (G__law_great_blocks).up (G__law_block_text).up (G_Word).up G__law_near_blocks (G_places).up (G__law_block_places).up (G_Word_size).up (G_Word_part).up (G_Word___eq__).up (l_right54 (He.ga K))
  have G_law := ok_law (P := P) (w := w) (base := base) F G__law_cells G__law_pot (G__law_right).dn (l_lawL (lim := 4) (L := 2) (r_right54 (He.ga K)) (by decide) (by decide) (by decide) (by decide))
  exact G_law
end LW
open PySem PySem.W PySem.Calls PyProof.Rows
theorem PySem.Challenge.cw_showncut_k54_whole_places_in_great_block_holds : PySem.Challenge.rw_showncut_k54_whole_places_in_great_block.Holds := by
  refine LW.early (Pd.law_walkG (n := 63) (k := 9) (x := "_law_script") rfl (by decide) rfl ⟨rfl, by decide +kernel, by decide +kernel⟩ ?_)
  intro w mg fa h hY hN hmg
  obtain ⟨K, KX, hS, TA⟩ := hY
  have F := LW.fc_of KX hN hS
  have hfa : fa = He.ga K "law" := by
    have h1 := F.g_law
    have h2 : mg "law" = some (.ref fa) := hmg
    rw [h1] at h2
    injection h2 with h2
    injection h2 with h2
    exact h2.symm
  subst hfa
  exact ⟨K, LW.s_law2, KX, TA, fun ns _ => ⟨ns, rfl, rfl, fun _ => rfl⟩, fun base hb hn TB => LW.chain F⟩
