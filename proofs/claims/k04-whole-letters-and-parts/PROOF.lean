import PyProof.Rows.All
import Wide.All
import OpenK.AllK
import KE.KNestM
import HandS.Head2
import HandS.HeadHook1
import HandS.HeadHook2
import HandS.HeadHook3
import HandS.HeadHook4
import HandS.Property
import HandS.Words
import HandS.Exc
import KE.KSuper
import KE.KTryMore
import Wide.FinOn
import HandS.ForMost
import HandS.Wide
import HandS.TupAny
import HandS.TupMul
import HandS.Style
import HandS.Walk
import HandS.Zip
import HandS.Conv
import HandS.Defaults
import HandS.Flow
import HandS.ExcInit
import HandS.Lambda
import HandS.SlotsVar
import HandS.Nested
import PyProof.StrOps2
import HandS.NoneIn
import PyProof.ReprRoads
import HandS.Deep
import HandS.IsInst
import KE.KExcIs
import HandS.Codes
import HandS.RaiseMore
import PyProof.ListStr
import PyProof.TupleOfStr
import KE.GoesNew
import HandS.Star
import HandS.Head0
import HandS.Head1
import HandS.HeadEnd
import HandS.WordsExc
import HandS.Iter
import HandS.Strs
import HandS.SetFor
import HandS.SortInts
import KE.SortData
import KE.DataCmp
import KE.DataMinMax
import HandS.OwnEq
import HandS.Replace
import HandS.ExcField
import HandS.ExcIs
import KE.KExcSuper
import HandS.ExcValue
import PyProof.Rows.SortShellAny
import HandS.Text
import PyProof.Rows.StrSplitMax
import PyProof.NeKinds
import KE.KIntText
import KE.KStrOpen
import PySem.Challenge.RW_showncut_k04_whole_letters_and_parts
set_option Elab.async false
set_option linter.all false
set_option maxRecDepth 100000
set_option maxHeartbeats 0
set_option autoImplicit false
namespace Pd
open PySem
def tabOf (o : Obj) : Option (Addr × Str) := match o.cls, o.data with
  | .type "code", .fields vs => match (vs[11]? : Option Value), (vs[1]? : Option Value) with
    | some (.ref P), some (.str q _) => some (P, q ++ ".<locals>." ++ "<lambda>")
    | _, _ => none
  | _, _ => none
def tabsK (K : PySem.W.Frag) : List (Addr × Str) := K.filterMap fun p => if (tabOf p.2).isSome then (K.lookup p.1).bind tabOf else none
def isTab0 (o : Obj) : Bool := match o.cls, o.dict, o.data with
  | .none, none, .fields vs => vs.isEmpty && o.slots.isEmpty
  | _, _, _ => false
def noTab (g : Addr → Option Obj) : Addr → Option Obj := fun a => match g a with
  | some o => if isTab0 o then none else some o
  | none => none
def nodupB : List Addr → Bool
  | [] => true
  | a :: r => !r.contains a && nodupB r
def tabsB (g : Addr → Option Obj) (K : PySem.W.Frag) : Bool :=
  ((tabsK K).all fun p => (match g p.1 with
    | some o => isTab0 o
    | none => false) && (K.lookup p.1).isNone) && (nodupB ((tabsK K).map (·.1)) && K.all fun p => match tabOf p.2 with
    | some q => PySem.W.codeHdIn K p.1 q.1
    | none => true)
structure TabAt (h : Heap) (K : PySem.W.Frag) : Prop where
  obj : ∀ p ∈ tabsK K, h.get? p.1 = some { cls := .none, data := .fields #[] }
  out : ∀ p ∈ tabsK K, K.lookup p.1 = none
  one : ∀ p ∈ tabsK K, ∀ q ∈ tabsK K, p.1 = q.1 → p = q
  code : ∀ (c P : Addr) (q : Str) (o : Obj), K.lookup c = some o → tabOf o = some (P, q) → PySem.W.codeHdIn K c P = true
theorem TabAt.keeps {h h' : Heap} {K : PySem.W.Frag} (t : TabAt h K) (k : ∀ b o, h.get? b = some o → h'.get? b = some o) : TabAt h' K := ⟨fun p hp => k _ _ (t.obj p hp), t.out, t.one, t.code⟩
theorem isTab0_eq {o : Obj} (h : isTab0 o = true) : o = { cls := .none, data := .fields #[] } := by
  obtain ⟨c, d, dt, sl⟩ := o
  unfold isTab0 at h
  split at h
  · rename_i vs h1 h2 h3
    dsimp only at h1 h2 h3
    subst h1 h2 h3
    rw [Bool.and_eq_true] at h
    have e1 : vs = #[] := by simpa using h.1
    have e2 : sl = #[] := by simpa using h.2
    rw [e1, e2]
  · cases h
theorem nodupB_ok : ∀ {l : List Addr}, nodupB l = true → l.Nodup
  | [], _ => .nil
  | a :: r, h => by
    unfold nodupB at h
    rw [Bool.and_eq_true, Bool.not_eq_true'] at h
    exact List.nodup_cons.mpr ⟨by simpa using h.1, nodupB_ok h.2⟩
theorem nodup_one {α : Type} {f : α → Addr} : ∀ {l : List α}, (l.map f).Nodup → ∀ p ∈ l, ∀ q ∈ l, f p = f q → p = q
  | [], _, p, hp, _, _, _ => by cases hp
  | a :: r, nd, p, hp, q, hq, e => by
    rw [List.map_cons, List.nodup_cons] at nd
    rcases List.mem_cons.mp hp with h1 | h1
    · rcases List.mem_cons.mp hq with h2 | h2
      · rw [h1, h2]
      · exact absurd (show f a ∈ r.map f from List.mem_map.mpr ⟨q, h2, by rw [← e, h1]⟩) nd.1
    · rcases List.mem_cons.mp hq with h2 | h2
      · exact absurd (show f a ∈ r.map f from List.mem_map.mpr ⟨p, h1, by rw [e, h2]⟩) nd.1
      · exact nodup_one nd.2 p h1 q h2 e
theorem look_mem : ∀ {K : PySem.W.Frag} {c : Addr} {o : Obj}, K.lookup c = some o → (c, o) ∈ K
  | [], _, _, h => by cases h
  | (b, u) :: r, c, o, h => by
    rw [List.lookup_cons] at h
    cases e : c == b with
    | true =>
      rw [e] at h
      cases h
      rw [beq_iff_eq.mp e]
      exact List.mem_cons_self
    | false =>
      rw [e] at h
      exact List.mem_cons_of_mem _ (look_mem h)
theorem tabs_mem {K : PySem.W.Frag} {c P : Addr} {q : Str} {o : Obj} (h : K.lookup c = some o) (t : tabOf o = some (P, q)) : (P, q) ∈ tabsK K := List.mem_filterMap.mpr ⟨(c, o), look_mem h, by
  dsimp only
  rw [h, t]
  exact t⟩
theorem tabs_of {K : PySem.W.Frag} {p : Addr × Str} (h : p ∈ tabsK K) : ∃ c o, K.lookup c = some o ∧ tabOf o = some p := by
  obtain ⟨q, hq, e⟩ := List.mem_filterMap.mp h
  split at e
  · cases z : K.lookup q.1 with
    | none => rw [z] at e; cases e
    | some o =>
      rw [z] at e
      exact ⟨q.1, o, z, e⟩
  · cases e
theorem tabsB_ok {h : Heap} {K : PySem.W.Frag} (e : tabsB h.get? K = true) : TabAt h K := by
  unfold tabsB at e
  rw [Bool.and_eq_true, Bool.and_eq_true, List.all_eq_true, List.all_eq_true] at e
  obtain ⟨e1, e2, e3⟩ := e
  refine ⟨fun p hp => ?_, fun p hp => ?_, nodup_one (nodupB_ok e2), fun c P q o hl ht => ?_⟩
  · have z := e1 p hp
    rw [Bool.and_eq_true] at z
    have z := z.1
    split at z
    · rename_i o ho
      rw [ho, isTab0_eq z]
    · cases z
  · have z := e1 p hp
    rw [Bool.and_eq_true] at z
    simpa using z.2
  · have z := e3 (c, o) (look_mem hl)
    dsimp only at z
    rw [ht] at z
    exact z
end Pd
namespace Pd
open PySem PyProof.Rows L2
structure PDef where
  loc : PySem.W.Frag → Addr
  name : Str
  qual : Str
  params : Arguments
  body : List Stmt
  scope : Scope
  dfl : List He.Dv := []
  clo : List Str := []
abbrev PSg : Type := Option (Str × Str × Arguments × FuncBody × Scope × Addr × List Str × Addr)
def psg (K : PySem.W.Frag) (a : Addr) : PSg := match K.lookup a with
  | some ⟨_, _, .func q, _⟩ => some (q.name, q.qualname, q.params, q.body, q.scope, q.globals, q.closure.map (·.1), q.builtins)
  | _ => none
def PDef.said (d : PDef) : PSg := some (d.name, d.qual, d.params, .stmts d.body, d.scope, mainGlobals, d.clo, builtinsNs)
def PDef.dvs (K : PySem.W.Frag) (d : PDef) : List V := d.dfl.map (He.Dv.v K)
def PDef.good (K : PySem.W.Frag) (d : PDef) : Bool := PySem.W.keepIn K (.ref (d.loc K)) && (match K.lookup (d.loc K) with
  | some ⟨_, _, .func q, _⟩ => PySem.W.codeIn K q.code d.qual && (He.dflB K q.defaults (d.dvs K) && (He.kwdB K q.kwdefaults [] && (match q.code with
    | .ref c => (match K.lookup c with
      | some o => (tabOf o).isSome
      | none => false)
    | _ => false)))
  | _ => false)
inductive Fx where
  | old (f : He.Fa)
  | prop (C f : Str)
  | ins (C : Str)
  | isi (t : Value) (c : Str ⊕ String) (b : Bool)
  | isiC (C : Str) (c : Str ⊕ String) (b : Bool)
  | begin (x : Str)
  | eqn (C : Str)
  | exc (C : Str)
  | sup (file : Str)
  | sysd
  | errs (D : Str) (Cs : List Str)
  | scl (C : Str)
  | slt (C f : Str) (i : Nat)
  | kwb (C m x : Str) (b : Bool)
def oexB (K : PySem.W.Frag) (C : Addr) : Bool := match K.lookup C with
  | some ⟨.type "type", _, .cls cd, sl⟩ => (match cd.mro, sl.toList with
    | .ref C' :: bm, [_, _, _, _, some (.builtin n), _] => C' == C && (n == "ValueError.__new__" && (!cd.hasDel && (cd.hasDict && PySem.HandSPX.refsVE bm)))
    | _, _ => false)
  | _ => false
def excB (K : PySem.W.Frag) (D fI C : Addr) : Bool :=
  oexB K C && (decide (PySem.W.findIn K (.ref C) "__setattr__" = some (some (.builtin "object.__setattr__"))) && (decide (PySem.W.subIn K (.ref C) (.type "BaseException") = some true) && (decide (PySem.W.typeIn K (.ref C) = some (.type "type")) && (PySem.W.keepIn K (.ref C) &&
  (decide (PySem.W.mroIn K C (.ref D) = some true) && (decide (PySem.W.ks_superIn K C D "__init__" = some (some (.builtin "ValueError.__init__"))) && (decide (PySem.W.subIn K (.ref C) (.type "ValueError") = some true) && (decide (PySem.W.findIn K (.ref C) "value" = some none) &&
  (decide (PySem.W.findIn K (.ref C) "__init__" = some (some (.ref fI))) && (decide (PySem.W.typeIn K (.ref fI) = some (.type "function")) && (decide (PySem.W.exmOne K (.ref C) (.ref D) = some true) &&
  (decide (PySem.W.findIn K (.ref C) "__getattribute__" = some (some (.builtin "BaseException.__getattribute__"))) && (decide (PySem.W.findIn K (.ref C) "__getattr__" = some none) && (PySem.W.hasDictIn K C && ((PySem.W.clsIn K C).isSome &&
  (decide (PySem.W.findIn K (.ref C) "__class__" = some (some (.builtin "object.__class__"))) && (decide (PySem.W.specialIn K (.builtin "object.__class__") "__get__" = some (some (.builtin "getset_descriptor.__get__"))) && (decide (PySem.W.takesIn K (.builtin "object.__class__") = some true) && decide (PySem.W.mroIn K C (.type "object") = some true)))))))))))))))))))
def supB (K : PySem.W.Frag) (D fI : Addr) (file : Str) : Bool := (match K.lookup fI with
  | some ⟨_, _, .func q, _⟩ => (match q.closure, q.code with
    | [(x, cc)], .ref cda => (x == ("__class__" : Str)) && (PySem.W.codeIn K (.ref cda) "CutError.__init__" && ((match K.lookup cda with
      | some ⟨_, _, .fields vs, _⟩ => (match (vs[2]? : Option Value) with
        | some (.str f _) => f == file
        | _ => false)
      | _ => false) && (match K.lookup cc with
      | some ⟨_, _, .cell (some (.ref D')), _⟩ => D' == D
      | _ => false)))
    | _, _ => false)
  | _ => false) && ((PySem.W.clsIn K D).isSome && decide (PySem.W.nsIn K cStatics "thirdparty.any" = some none))
def propAt (K : PySem.W.Frag) (C f : Str) : Addr := match PySem.W.findIn K (.ref (He.ga K C)) f with
  | some (some (.ref p)) => p
  | _ => 0
def getterAt (C f : Str) (K : PySem.W.Frag) : Addr := match PySem.W.recIn K (propAt K C f) "property" with
  | some (.ref g :: _) => g
  | _ => 0
def globAt (x : Str) (K : PySem.W.Frag) : Addr := He.ga K x
def methAt (C m : Str) (K : PySem.W.Frag) : Addr := He.ma K (He.ga K C) m
def clsOf (K : PySem.W.Frag) : Str ⊕ String → Value
  | .inl C => .ref (He.ga K C)
  | .inr T => .type T
def Fx.ok (K : PySem.W.Frag) : Fx → Bool
  | .old f => f.ok K
  | .prop C f => decide (PySem.W.findIn K (.ref (He.ga K C)) f = some (some (.ref (propAt K C f)))) && (decide (PySem.W.specialIn K (.ref (propAt K C f)) "__get__" = some (some (.builtin "property.__get__"))) &&
      (decide (PySem.W.takesIn K (.ref (propAt K C f)) = some true) && (match PySem.W.recIn K (propAt K C f) "property" with
        | some (.ref _ :: _) => true
        | _ => false)))
  | .ins C => decide (PySem.W.findIn K (.ref (He.ga K C)) "__class__" = some (some (.builtin "object.__class__"))) && (decide (PySem.W.specialIn K (.builtin "object.__class__") "__get__" = some (some (.builtin "getset_descriptor.__get__"))) &&
      (decide (PySem.W.takesIn K (.builtin "object.__class__") = some true) && decide (PySem.W.mroIn K (He.ga K C) (.type "object") = some true)))
  | .isi t c b => decide (PySem.W.kitOne K t (clsOf K c) = some b)
  | .isiC C c b => decide (PySem.W.kitOne K (.ref (He.ga K C)) (clsOf K c) = some b)
  | .begin x => decide (PySem.W.nsIn K PySem.mainGlobals x = some (some (.ref (He.ga K x)))) && (match K.lookup (He.ga K x) with
    | some ⟨.type n, _, .seq ⟨[.ref b, .int i _, .int j _, .int k _]⟩ _, _⟩ => (decide (n = "tuple") && decide (i = 0)) && ((decide (j = 0) && decide (k = 0)) && (match K.lookup b with
      | some ⟨.type m, _, .seq ⟨[]⟩ _, _⟩ => decide (m = "tuple")
      | _ => false))
    | _ => false)
  | .exc C => excB K (He.ga K "CutError") (He.ma K (He.ga K "CutError") "__init__") (He.ga K C)
  | .sup file => supB K (He.ga K "CutError") (He.ma K (He.ga K "CutError") "__init__") file
  | .sysd => (match K.lookup sysModules with
    | some ⟨.type n, _, _, _⟩ => decide (n = "dict")
    | _ => false)
  | .errs D Cs => (D :: Cs).all fun A => (decide (PySem.W.kitOne K (.ref (He.ga K A)) (.ref (He.ga K D)) = some true) && decide (PySem.W.kitOne K (.ref (He.ga K A)) (.type "ValueError") = some true)) &&
      ((Cs.all fun B => decide (PySem.W.kitOne K (.ref (He.ga K A)) (.ref (He.ga K B)) = some (decide (A = B)))) &&
      (["NoneType", "bool", "int", "str", "list", "tuple", "dict"].all fun S => decide (PySem.W.kitOne K (.type S) (.ref (He.ga K A)) = some false)))
  | .eqn C => decide (PySem.W.findIn K (.ref (He.ga K C)) "__ne__" = some (some (.builtin "object.__ne__"))) && decide (PySem.W.mroIn K (He.ga K C) (.type "object") = some true)
  | .scl C => PySem.W.plainGet K (He.ga K C) Str.empty && (PySem.W.isClsIn K (He.ga K C) && (PySem.W.plainOver K (He.ga K C) && decide (PySem.W.findIn K (.ref (He.ga K C)) "__setattr__" = some (some (.builtin "object.__setattr__")))))
  | .slt C f i => decide (PySem.W.findIn K (.ref (He.ga K C)) f = some (some (.ref (propAt K C f)))) && (decide (PySem.W.specialIn K (.ref (propAt K C f)) "__get__" = some (some (.builtin "member_descriptor.__get__"))) && (decide (PySem.W.takesIn K (.ref (propAt K C f)) = some true) &&
      (decide (PySem.W.slotIn K (propAt K C f) (He.ga K C) = some i) && (decide (PySem.W.typeIn K (.ref (propAt K C f)) = some (.type "member_descriptor")) && decide (i < 1000)))))
  | .kwb C m x b => (match K.lookup (He.ma K (He.ga K C) m) with
    | some ⟨_, _, .func fd, _⟩ => (match fd.kwdefaults with
      | .ref D => decide (PySem.W.nsIn K D x = some (some (.bool b)))
      | _ => false)
    | _ => false)
abbrev AlP : Type := Bool × List PSg
def obsP (fx : List Fx) (fn : List PDef) (K : PySem.W.Frag) : AlP := ((fx.all fun f => f.ok K) && fn.all fun d => d.good K, fn.map fun d => psg K (d.loc K))
def SaysP (fx : List Fx) (fn : List PDef) (K : PySem.W.Frag) : Prop := obsP fx fn K = (true, fn.map PDef.said)
def frT (g : Addr → Option Obj) (n : Nat) : PySem.W.Frag := He.frG (noTab g) (cStatics :: sysModules :: He.asD g n)
def obsPG (n : Nat) (fx : List Fx) (fn : List PDef) (g : Addr → Option Obj) : AlP := let K := frT g n; ((fx.all fun f => f.ok K) && ((fn.all fun d => d.good K) && tabsB g K), fn.map fun d => psg K (d.loc K))
theorem noTab_of {g : Addr → Option Obj} {a : Addr} {o : Obj} (h : noTab g a = some o) : g a = some o := by
  unfold noTab at h
  cases e : g a with
  | none => rw [e] at h; cases h
  | some u =>
    rw [e] at h
    dsimp only at h
    split at h
    · cases h
    · exact h
theorem obsPG_says {n : Nat} {fx : List Fx} {fn : List PDef} {h : Heap} (e : obsPG n fx fn h.get? = (true, fn.map PDef.said)) : (frT h.get? n).In h ∧ SaysP fx fn (frT h.get? n) ∧ TabAt h (frT h.get? n) := by
  have e1 := (Prod.mk.inj e).1
  have e2 := (Prod.mk.inj e).2
  rw [Bool.and_eq_true, Bool.and_eq_true] at e1
  refine ⟨fun a o hl => noTab_of (He.frG_at _ hl), ?_, tabsB_ok e1.2.2⟩
  unfold SaysP obsP
  rw [e1.1, e1.2.1, e2]
  rfl
def hookP (n : Nat) (fx : List Fx) (fn : List PDef) : PySem.W.Hook where
  α := AlP
  obs := fun s => obsPG n fx fn s.heap.get?
  val := fun _ => (true, fn.map PDef.said)
  says := fun _ h => ∃ K : PySem.W.Frag, K.In h ∧ SaysP fx fn K ∧ TabAt h K
  of := fun _ _ e => ⟨_, obsPG_says e⟩
  keeps := fun _ _ _ ⟨K, hK, c, t⟩ k => ⟨K, PySem.W.Frag.In.keeps hK k, c, t.keeps k⟩
theorem obsPG_eq {n : Nat} {fx : List Fx} {fn : List PDef} {g : Addr → Option Obj} {s : Shared} (h : ∀ a, g a = s.heap.get? a) : obsPG n fx fn g = (hookP n fx fn).obs s := by
  have e : g = s.heap.get? := funext h
  rw [e]
  rfl
def clsBody : Stmt → List Stmt
  | .ClassDef _ _ _ b .. => b
  | _ => []
end Pd
namespace LW
open PySem L2 Pd
abbrev pw : Program := PySem.Challenge.pw_showncut_k04_whole_letters_and_parts
def top (i : Nat) : Stmt := pw.main.body.getD i (.Pass ⟨0, 0, 0, 0⟩)
def inC (i j : Nat) : Stmt := (Pd.clsBody (top i)).getD j (.Pass ⟨0, 0, 0, 0⟩)
abbrev S_is_integer : Stmt := top 13
def D_is_integer : Pd.PDef := ⟨Pd.globAt "is_integer", "is_integer", "is_integer", defArgs S_is_integer, defBody S_is_integer, defScope S_is_integer, [.non], []⟩
abbrev S_is_said : Stmt := top 14
def D_is_said : Pd.PDef := ⟨Pd.globAt "is_said", "is_said", "is_said", defArgs S_is_said, defBody S_is_said, defScope S_is_said, [], []⟩
abbrev S_whole_in : Stmt := top 15
def D_whole_in : Pd.PDef := ⟨Pd.globAt "whole_in", "whole_in", "whole_in", defArgs S_whole_in, defBody S_whole_in, defScope S_whole_in, [], []⟩
abbrev S_pieces_of : Stmt := top 20
def D_pieces_of : Pd.PDef := ⟨Pd.globAt "pieces_of", "pieces_of", "pieces_of", defArgs S_pieces_of, defBody S_pieces_of, defScope S_pieces_of, [], []⟩
abbrev S_block_in : Stmt := top 21
def D_block_in : Pd.PDef := ⟨Pd.globAt "block_in", "block_in", "block_in", defArgs S_block_in, defBody S_block_in, defScope S_block_in, [], []⟩
abbrev S_blocks_told : Stmt := top 22
def D_blocks_told : Pd.PDef := ⟨Pd.globAt "blocks_told", "blocks_told", "blocks_told", defArgs S_blocks_told, defBody S_blocks_told, defScope S_blocks_told, [], []⟩
abbrev S_text_of : Stmt := top 23
def D_text_of : Pd.PDef := ⟨Pd.globAt "text_of", "text_of", "text_of", defArgs S_text_of, defBody S_text_of, defScope S_text_of, [], []⟩
abbrev S_put_together : Stmt := top 24
def D_put_together : Pd.PDef := ⟨Pd.globAt "put_together", "put_together", "put_together", defArgs S_put_together, defBody S_put_together, defScope S_put_together, [], []⟩
abbrev S_made : Stmt := top 25
def D_made : Pd.PDef := ⟨Pd.globAt "made", "made", "made", defArgs S_made, defBody S_made, defScope S_made, [], []⟩
abbrev S__law_pot : Stmt := top 28
def D__law_pot : Pd.PDef := ⟨Pd.globAt "_law_pot", "_law_pot", "_law_pot", defArgs S__law_pot, defBody S__law_pot, defScope S__law_pot, [], []⟩
abbrev S__law_take : Stmt := top 29
def D__law_take : Pd.PDef := ⟨Pd.globAt "_law_take", "_law_take", "_law_take", defArgs S__law_take, defBody S__law_take, defScope S__law_take, [], []⟩
abbrev S__law_of : Stmt := top 30
def D__law_of : Pd.PDef := ⟨Pd.globAt "_law_of", "_law_of", "_law_of", defArgs S__law_of, defBody S__law_of, defScope S__law_of, [], []⟩
abbrev S__law_cells : Stmt := top 31
def D__law_cells : Pd.PDef := ⟨Pd.globAt "_law_cells", "_law_cells", "_law_cells", defArgs S__law_cells, defBody S__law_cells, defScope S__law_cells, [], []⟩
abbrev S__law_random : Stmt := top 32
def D__law_random : Pd.PDef := ⟨Pd.globAt "_law_random", "_law_random", "_law_random", defArgs S__law_random, defBody S__law_random, defScope S__law_random, [], []⟩
abbrev S__law_letters : Stmt := top 33
def D__law_letters : Pd.PDef := ⟨Pd.globAt "_law_letters", "_law_letters", "_law_letters", defArgs S__law_letters, defBody S__law_letters, defScope S__law_letters, [], []⟩
abbrev S__law_any_letters : Stmt := top 34
def D__law_any_letters : Pd.PDef := ⟨Pd.globAt "_law_any_letters", "_law_any_letters", "_law_any_letters", defArgs S__law_any_letters, defBody S__law_any_letters, defScope S__law_any_letters, [], []⟩
abbrev S__law_blocks : Stmt := top 35
def D__law_blocks : Pd.PDef := ⟨Pd.globAt "_law_blocks", "_law_blocks", "_law_blocks", defArgs S__law_blocks, defBody S__law_blocks, defScope S__law_blocks, [], []⟩
abbrev S__law_block_text : Stmt := top 36
def D__law_block_text : Pd.PDef := ⟨Pd.globAt "_law_block_text", "_law_block_text", "_law_block_text", defArgs S__law_block_text, defBody S__law_block_text, defScope S__law_block_text, [], []⟩
abbrev S__law_great_blocks : Stmt := top 37
def D__law_great_blocks : Pd.PDef := ⟨Pd.globAt "_law_great_blocks", "_law_great_blocks", "_law_great_blocks", defArgs S__law_great_blocks, defBody S__law_great_blocks, defScope S__law_great_blocks, [], []⟩
abbrev S__law_sum_of : Stmt := top 38
def D__law_sum_of : Pd.PDef := ⟨Pd.globAt "_law_sum_of", "_law_sum_of", "_law_sum_of", defArgs S__law_sum_of, defBody S__law_sum_of, defScope S__law_sum_of, [], []⟩
abbrev S__law_heads_of : Stmt := top 39
def D__law_heads_of : Pd.PDef := ⟨Pd.globAt "_law_heads_of", "_law_heads_of", "_law_heads_of", defArgs S__law_heads_of, defBody S__law_heads_of, defScope S__law_heads_of, [], []⟩
abbrev S__law_letter_at : Stmt := top 40
def D__law_letter_at : Pd.PDef := ⟨Pd.globAt "_law_letter_at", "_law_letter_at", "_law_letter_at", defArgs S__law_letter_at, defBody S__law_letter_at, defScope S__law_letter_at, [], []⟩
abbrev S__law_merged : Stmt := top 41
def D__law_merged : Pd.PDef := ⟨Pd.globAt "_law_merged", "_law_merged", "_law_merged", defArgs S__law_merged, defBody S__law_merged, defScope S__law_merged, [], []⟩
abbrev S__law_blocks_part : Stmt := top 42
def D__law_blocks_part : Pd.PDef := ⟨Pd.globAt "_law_blocks_part", "_law_blocks_part", "_law_blocks_part", defArgs S__law_blocks_part, defBody S__law_blocks_part, defScope S__law_blocks_part, [], []⟩
abbrev S__law_small_or_great : Stmt := top 43
def D__law_small_or_great : Pd.PDef := ⟨Pd.globAt "_law_small_or_great", "_law_small_or_great", "_law_small_or_great", defArgs S__law_small_or_great, defBody S__law_small_or_great, defScope S__law_small_or_great, [], []⟩
abbrev S__law_place : Stmt := top 44
def D__law_place : Pd.PDef := ⟨Pd.globAt "_law_place", "_law_place", "_law_place", defArgs S__law_place, defBody S__law_place, defScope S__law_place, [], []⟩
abbrev S__law_near_places : Stmt := top 45
def D__law_near_places : Pd.PDef := ⟨Pd.globAt "_law_near_places", "_law_near_places", "_law_near_places", defArgs S__law_near_places, defBody S__law_near_places, defScope S__law_near_places, [], []⟩
abbrev S__law_right : Stmt := top 46
def D__law_right : Pd.PDef := ⟨Pd.globAt "_law_right", "_law_right", "_law_right", defArgs S__law_right, defBody S__law_right, defScope S__law_right, [], []⟩
abbrev S_law : Stmt := top 47
def D_law : Pd.PDef := ⟨Pd.globAt "law", "law", "law", defArgs S_law, defBody S_law, defScope S_law, [], []⟩
abbrev S_Word___init__ : Stmt := inC 26 0
def D_Word___init__ : Pd.PDef := ⟨Pd.methAt "Word" "__init__", "__init__", "Word.__init__", defArgs S_Word___init__, defBody S_Word___init__, defScope S_Word___init__, [], []⟩
abbrev S_Word_text : Stmt := inC 26 1
def D_Word_text : Pd.PDef := ⟨Pd.getterAt "Word" "text", "text", "Word.text", defArgs S_Word_text, defBody S_Word_text, defScope S_Word_text, [], []⟩
abbrev S_Word_blocks : Stmt := inC 26 2
def D_Word_blocks : Pd.PDef := ⟨Pd.getterAt "Word" "blocks", "blocks", "Word.blocks", defArgs S_Word_blocks, defBody S_Word_blocks, defScope S_Word_blocks, [], []⟩
abbrev S_Word_size : Stmt := inC 26 4
def D_Word_size : Pd.PDef := ⟨Pd.getterAt "Word" "size", "size", "Word.size", defArgs S_Word_size, defBody S_Word_size, defScope S_Word_size, [], []⟩
abbrev S_Word___eq__ : Stmt := inC 26 6
def D_Word___eq__ : Pd.PDef := ⟨Pd.methAt "Word" "__eq__", "__eq__", "Word.__eq__", defArgs S_Word___eq__, defBody S_Word___eq__, defScope S_Word___eq__, [], []⟩
abbrev S_Word_spot : Stmt := inC 26 7
def D_Word_spot : Pd.PDef := ⟨Pd.methAt "Word" "spot", "spot", "Word.spot", defArgs S_Word_spot, defBody S_Word_spot, defScope S_Word_spot, [], []⟩
abbrev S_Word_letter : Stmt := inC 26 8
def D_Word_letter : Pd.PDef := ⟨Pd.methAt "Word" "letter", "letter", "Word.letter", defArgs S_Word_letter, defBody S_Word_letter, defScope S_Word_letter, [], []⟩
abbrev S_Word_part : Stmt := inC 26 9
def D_Word_part : Pd.PDef := ⟨Pd.methAt "Word" "part", "part", "Word.part", defArgs S_Word_part, defBody S_Word_part, defScope S_Word_part, [], []⟩
abbrev S_Word_joined : Stmt := inC 26 10
def D_Word_joined : Pd.PDef := ⟨Pd.methAt "Word" "joined", "joined", "Word.joined", defArgs S_Word_joined, defBody S_Word_joined, defScope S_Word_joined, [], []⟩
def fn : List Pd.PDef := [D_is_integer, D_is_said, D_whole_in, D_pieces_of, D_block_in, D_blocks_told, D_text_of, D_put_together, D_made, D__law_pot, D__law_take, D__law_of, D__law_cells, D__law_random, D__law_letters, D__law_any_letters, D__law_blocks, D__law_block_text, D__law_great_blocks, D__law_sum_of, D__law_heads_of, D__law_letter_at, D__law_merged, D__law_blocks_part, D__law_small_or_great, D__law_place, D__law_near_places, D__law_right, D_law, D_Word___init__, D_Word_text, D_Word_blocks, D_Word_size, D_Word___eq__, D_Word_spot, D_Word_letter, D_Word_part, D_Word_joined]
def fx : List Fx := [
  .old (.glo "Word"),
  .old (.glo "_law_any_letters"),
  .old (.glo "_law_block_text"),
  .old (.glo "_law_blocks"),
  .old (.glo "_law_blocks_part"),
  .old (.glo "_law_cells"),
  .old (.glo "_law_great_blocks"),
  .old (.glo "_law_heads_of"),
  .old (.glo "_law_letter_at"),
  .old (.glo "_law_letters"),
  .old (.glo "_law_merged"),
  .old (.glo "_law_near_places"),
  .old (.glo "_law_of"),
  .old (.glo "_law_place"),
  .old (.glo "_law_pot"),
  .old (.glo "_law_random"),
  .old (.glo "_law_right"),
  .old (.glo "_law_small_or_great"),
  .old (.glo "_law_sum_of"),
  .old (.glo "_law_take"),
  .old (.glo "block_in"),
  .old (.glo "blocks_told"),
  .old (.glo "is_integer"),
  .old (.glo "is_said"),
  .old (.glo "made"),
  .old (.glo "pieces_of"),
  .old (.glo "put_together"),
  .old (.glo "text_of"),
  .old (.glo "whole_in"),
  .old (.glo "law"),
  .old (.int "BEYOND" 1000000000000000000000000000000),
  .old (.int "MOST_BLOCKS" 40),
  .old (.int "MOST_FIGURES_plain" 40),
  .old (.int "MOST_FIGURES_words" 30),
  .old (.str "FIGURES" ⟨List.toArray [48, 49, 50, 51, 52, 53, 54, 55, 56, 57]⟩),
  .old (.str "LETTERS" ⟨List.toArray [97, 98, 99, 100, 101, 102, 103, 104, 105, 106, 107, 108, 109, 110, 111, 112, 113, 114, 115, 116, 117, 118, 119, 120, 121, 122]⟩),
  .old (.free "abs"),
  .old (.free "all"),
  .old (.free "any"),
  .old (.free "bool"),
  .old (.free "enumerate"),
  .old (.free "int"),
  .old (.free "isinstance"),
  .old (.free "len"),
  .old (.free "list"),
  .old (.free "max"),
  .old (.free "min"),
  .old (.free "range"),
  .old (.free "set"),
  .old (.free "sorted"),
  .old (.free "str"),
  .old (.free "sum"),
  .old (.free "tuple"),
  .old (.free "zip"),
  .old (.cls "Word"),
  .old (.mkr "Word"),
  .old (.noat "Word" "own_blocks"),
  .old (.noat "Word" "own_ends"),
  .old (.noat "Word" "own_text"),
  .prop "Word" "text",
  .prop "Word" "blocks",
  .prop "Word" "size",
  .old (.meth "Word" "__eq__"),
  .old (.meth "Word" "spot"),
  .old (.meth "Word" "letter"),
  .old (.meth "Word" "part"),
  .old (.meth "Word" "joined"),
  .eqn "Word",
  .ins "Word",
  .isi (.type "NoneType") (.inl "Word") false,
  .isi (.type "bool") (.inl "Word") false,
  .isi (.type "int") (.inl "Word") false,
  .isi (.type "str") (.inl "Word") false,
  .isi (.type "list") (.inl "Word") false,
  .isi (.type "tuple") (.inl "Word") false,
  .isi (.type "dict") (.inl "Word") false,
  .isiC "Word" (.inl "Word") true,
  .isi (.type "NoneType") (.inr "bool") false,
  .isi (.type "bool") (.inr "bool") true,
  .isi (.type "int") (.inr "bool") false,
  .isi (.type "str") (.inr "bool") false,
  .isi (.type "list") (.inr "bool") false,
  .isi (.type "tuple") (.inr "bool") false,
  .isi (.type "dict") (.inr "bool") false,
  .isiC "Word" (.inr "bool") false,
  .isi (.type "NoneType") (.inr "int") false,
  .isi (.type "bool") (.inr "int") true,
  .isi (.type "int") (.inr "int") true,
  .isi (.type "str") (.inr "int") false,
  .isi (.type "list") (.inr "int") false,
  .isi (.type "tuple") (.inr "int") false,
  .isi (.type "dict") (.inr "int") false,
  .isiC "Word" (.inr "int") false,
  .isi (.type "NoneType") (.inr "str") false,
  .isi (.type "bool") (.inr "str") false,
  .isi (.type "int") (.inr "str") false,
  .isi (.type "str") (.inr "str") true,
  .isi (.type "list") (.inr "str") false,
  .isi (.type "tuple") (.inr "str") false,
  .isi (.type "dict") (.inr "str") false,
  .isiC "Word" (.inr "str") false]
abbrev loose : List Str := (["_wall", "is_integer", "is_said", "whole_in", "pieces_of", "block_in", "blocks_told", "text_of", "put_together", "made", "_law_pot", "_law_take", "_law_of", "_law_cells", "_law_random", "_law_letters", "_law_any_letters", "_law_blocks", "_law_block_text", "_law_great_blocks", "_law_sum_of", "_law_heads_of", "_law_letter_at", "_law_merged", "_law_blocks_part", "_law_small_or_great", "_law_place", "_law_near_places", "_law_right", "CutError"] : List Str) ++ (["BadWord", "BadPlace", "BadPart", "NoWord", "Long", "Great", "Word", "__name__", "LETTERS", "FIGURES", "MOST_FIGURES_plain", "MOST_BLOCKS", "MOST_FIGURES_words", "BEYOND"] : List Str)
abbrev R : PySem.W.OpenRow := PySem.W.OpenLaw.row PySem.Challenge.rw_showncut_k04_whole_letters_and_parts
def ob (s : PySem.W.SharedT) : AlP := obsPG 6 fx fn (HandSHeadRun.getT s)
theorem ob_eq (s : PySem.W.SharedT) : ob s = (hookP 6 fx fn).obs s.abs := obsPG_eq (HandSHeadRun.getT_eq s)
theorem run (w : World) : HandSHeadRun.RunEq R (PySem.W.view R.prog [47]) (hookP 6 fx fn) ob 8000 loose w := by
  intro os
  kernel_rfl
abbrev DL := HandSHeadRun.topDef R.prog 47
theorem early (call : PySem.W.WalkO (PySem.W.view R.prog [47]) loose (PySem.W.XL (PySem.W.view R.prog [47]) []) (hookP 6 fx fn).says R.toRowW DL [] fun f vs => PySem.call f vs) : PySem.Challenge.rw_showncut_k04_whole_letters_and_parts.Holds := by
  w_on; o_law
  refine HandSHeadRun.head_any (r := R) (q := PySem.W.view R.prog [47]) (H := hookP 6 fx fn) (ob := ob) (M := 8000) (loose := loose) (d := DL) (kwd := []) ob_eq (by kernel_rfl) (fun s => by kernel_rfl) run (by rfl) (by rfl) (by rfl) (by rfl) (by first | assumption | decide +kernel) (by decide +kernel) ⟨rfl, rfl, rfl, rfl, rfl, by decide +kernel⟩ ?hw call
  case hw => w_witness2
end LW
namespace Pd
open PySem L2
inductive D where
  | non | bl (b : Bool) | int (i : Int) | str (s : List Nat) | lst (xs : List D) | tup (xs : List D)
  | obj (C : Addr) (fs : List (Str × D)) | pot | scr (ns : List Int) | ref (a : Addr) | tupK (xs : List D) | tupF (xs : List D)
  | err (C : Addr) (d : D) | dic (ks : List (List Nat)) (vs : List D)
  | cel (C : Option Addr) (i : Nat)
inductive OD where
  | lst (ds : List D) | ins (C : Addr) (fs : List (Str × D)) | dic (ks : List (List Nat)) (vs : List D)
  | dct (ks : List (List Nat)) (vs : List D)
  | blk (C : Addr) (vs : List D)
def OD.cls : OD → Option Addr
  | .lst _ => none
  | .ins C _ => some C
  | .dic _ _ => none
  | .dct _ _ => none
  | .blk _ _ => none
def pr (a b : Nat) : Nat := 2 ^ a * (2 * b + 1)
def eI : Int → Nat
  | .ofNat n => pr 0 n
  | .negSucc n => pr 1 n
def eL {α : Type} (f : α → Nat) : List α → Nat
  | [] => 0
  | x :: r => pr (f x) (eL f r)
def eS (s : Str) : Nat := eL id s.cps.toList
def eO : Option Addr → Nat
  | none => 0
  | some a => a + 1
mutual
def eD : D → Nat
  | .non => pr 0 0
  | .bl b => pr 1 (if b then 1 else 0)
  | .int i => pr 2 (eI i)
  | .str s => pr 3 (eL id s)
  | .lst xs => pr 4 (eDs xs)
  | .tup xs => pr 5 (eDs xs)
  | .obj C fs => pr 6 (pr C (eFs fs))
  | .pot => pr 7 0
  | .scr ns => pr 8 (eL eI ns)
  | .ref a => pr 9 a
  | .tupK xs => pr 10 (eDs xs)
  | .tupF xs => pr 11 (eDs xs)
  | .err C d => pr 12 (pr C (eD d))
  | .dic ks vs => pr 13 (pr (eL (eL id) ks) (eDs vs))
  | .cel C i => pr 14 (pr (eO C) i)
def eDs : List D → Nat
  | [] => 0
  | x :: r => pr (eD x) (eDs r)
def eFs : List (Str × D) → Nat
  | [] => 0
  | (s, x) :: r => pr (eS s) (pr (eD x) (eFs r))
end
def eOD : OD → Nat
  | .lst ds => pr 0 (eDs ds)
  | .ins C fs => pr 1 (pr C (eFs fs))
  | .dic ks vs => pr 2 (pr (eL (eL id) ks) (eDs vs))
  | .dct ks vs => pr 3 (pr (eL (eL id) ks) (eDs vs))
  | .blk C vs => pr 4 (pr C (eDs vs))
def stN (m : Nat) (cs : List OD) : Nat := pr m (eL eOD cs)
open Classical in
noncomputable def dr (n : Nat) : Nat := if h : ∃ m cs, stN m cs = n then h.choose else 0
open Classical in
noncomputable def cs (n : Nat) : List OD := if h : ∃ cs m, stN m cs = n then h.choose else []
noncomputable def drw (ℓ : Bool) (n : Nat) : Nat := match ℓ with
  | true => dr n
  | false => n
noncomputable def csw (ℓ : Bool) (n : Nat) : List OD := match ℓ with
  | true => cs n
  | false => []
end Pd
namespace Pd
variable {ℓ : Bool}
open PySem L2
def Exq (a C dx : Addr) : HO := .ext fun h => ∃ (oe : Obj) (vs : Array Value), h.get? a = some oe ∧ oe.cls = .ref C ∧ oe.dict = some dx ∧ oe.data = .fields vs
structure Gh where
  G : Hp
  pot : Addr → Prop
  cel : List (Addr × Option Addr)
def NoT (K : PySem.W.Frag) (g : Gh) (a : Addr) : Prop := (∀ q, (a, q) ∉ tabsK K) ∧ ∀ C, (a, C) ∉ g.cel
mutual
inductive Den (K : PySem.W.Frag) (g : Gh) : V → D → Prop
  | non : Den K g .non .non
  | bl (b : Bool) : Den K g (.bl b) (.bl b)
  | int (i : Int) : Den K g (.int i) (.int i)
  | str (l : List Nat) : Den K g (.str ⟨l.toArray⟩) (.str l)
  | lst {a : Addr} {vs : List V} {ds : List D} : g.G a = some (.lst vs) → Dens K g vs ds → Den K g (.ref a) (.lst ds)
  | tup {a : Addr} {vs : List V} {ds : List D} : Rd g.G a (.tup vs) → Dens K g vs ds → Den K g (.ref a) (.tup ds)
  | obj {a C dx : Addr} {fvs : List (Str × V)} {fs : List (Str × D)} : g.G a = some (.ins C dx fvs) → Flds K g fvs fs → Den K g (.ref a) (.obj C fs)
  | pot {a : Addr} : g.pot a → NoT K g a → Den K g (.ref a) .pot
  | scr {a : Addr} {ns : List Int} : SqL K g.G a (ns.map V.int) → Den K g (.ref a) (.scr ns)
  | ref (a : Addr) : Den K g (.ref a) (.ref a)
  | tupK {a : Addr} {vs : List V} {ds : List D} : (∀ H : Hp, SqT K H a vs) → Dens K g vs ds → Den K g (.ref a) (.tupK ds)
  | tupF {a : Addr} {vs : List V} {ds : List D} {o : Obj} : g.G a = some (.frz o (.tup vs)) → o.cls = .type "tuple" → o.dict = none → Dens K g vs ds → Den K g (.ref a) (.tupF ds)
  | err {a C dx : Addr} {v : V} {d : D} : g.G a = some (Exq a C dx) → g.G dx = some (.xd [("value", v)]) → Den K g v d → Den K g (.ref a) (.err C d)
  | dic {a : Addr} {kvs : List (Key × V)} {ks : List (List Nat)} {ds : List D} : g.G a = some (.dK kvs) → kvs.map (·.1) = ks.map (fun x => Sum.inr ⟨x.toArray⟩) → Dens K g (kvs.map (·.2)) ds → Den K g (.ref a) (.dic ks ds)
  | cel {a : Addr} {C : Option Addr} {i : Nat} : g.cel[i]? = some (a, C) → Den K g (.ref a) (.cel C i)
inductive Dens (K : PySem.W.Frag) (g : Gh) : List V → List D → Prop
  | nil : Dens K g [] []
  | cons {v : V} {d : D} {vs : List V} {ds : List D} : Den K g v d → Dens K g vs ds → Dens K g (v :: vs) (d :: ds)
inductive Flds (K : PySem.W.Frag) (g : Gh) : List (Str × V) → List (Str × D) → Prop
  | nil : Flds K g [] []
  | cons {x : Str} {v : V} {d : D} {vs : List (Str × V)} {ds : List (Str × D)} : Den K g v d → Flds K g vs ds → Flds K g ((x, v) :: vs) ((x, d) :: ds)
end
theorem _root_.L2.Rd.same {G H : Hp} {a : Addr} {u : HO} (h : Rd G a u) (sm : Same G H) : Rd H a u := h.elim (fun h => .inl (sm _ _ h)) fun ⟨o, h⟩ => .inr ⟨o, sm _ _ h⟩
structure Ext (g g' : Gh) : Prop where
  G : Same g.G g'.G
  p : ∀ a, g.pot a → g'.pot a
  c : ∃ l, g'.cel = g.cel ++ l ∧ ∀ a C, (a, C) ∈ l → ¬ g.pot a
theorem Ext.refl (g : Gh) : Ext g g := ⟨Same.refl _, fun _ h => h, [], (List.append_nil _).symm, fun _ _ h => by cases h⟩
theorem Ext.trans {g g1 g2 : Gh} (a : Ext g g1) (b : Ext g1 g2) : Ext g g2 := by
  refine ⟨a.G.trans b.G, fun x h => b.p x (a.p x h), ?_⟩
  obtain ⟨l, e, n⟩ := a.c
  obtain ⟨l2, e2, n2⟩ := b.c
  refine ⟨l ++ l2, by rw [e2, e, List.append_assoc], fun x C h => ?_⟩
  rcases List.mem_append.mp h with z | z
  · exact n x C z
  · exact fun w => n2 x C z (a.p x w)
theorem Ext.cel {g g' : Gh} (e : Ext g g') {i : Nat} {x : Addr × Option Addr} (h : g.cel[i]? = some x) : g'.cel[i]? = some x := by
  obtain ⟨l, z, _⟩ := e.c
  rw [z, List.getElem?_append_left (List.getElem?_eq_some_iff.mp h).1]
  exact h
theorem NoT.mono {K : PySem.W.Frag} {g g' : Gh} {a : Addr} (e : Ext g g') (h : g.pot a) (n : NoT K g a) : NoT K g' a := by
  refine ⟨n.1, fun C z => ?_⟩
  obtain ⟨l, q, w⟩ := e.c
  rw [q] at z
  rcases List.mem_append.mp z with z | z
  · exact n.2 C z
  · exact w a C z h
section
variable {K : PySem.W.Frag} {g g' : Gh}
mutual
theorem Den.mono (e : Ext g g') : ∀ {v : V} {d : D}, Den K g v d → Den K g' v d
  | _, _, .non => .non
  | _, _, .bl b => .bl b
  | _, _, .int i => .int i
  | _, _, .str l => .str l
  | _, _, .lst h1 h2 => .lst (e.G _ _ h1) (Dens.mono e h2)
  | _, _, .tup h1 h2 => .tup (h1.same e.G) (Dens.mono e h2)
  | _, _, .obj h1 h2 => .obj (e.G _ _ h1) (Flds.mono e h2)
  | _, _, .pot h hn => .pot (e.p _ h) (hn.mono e h)
  | _, _, .cel h => .cel (e.cel h)
  | _, _, .scr h => .scr (e.G.seq h)
  | _, _, .ref a => .ref a
  | _, _, .tupK h1 h2 => .tupK h1 (Dens.mono e h2)
  | _, _, .tupF h1 c d h2 => .tupF (e.G _ _ h1) c d (Dens.mono e h2)
  | _, _, .err h1 h2 h3 => .err (e.G _ _ h1) (e.G _ _ h2) (Den.mono e h3)
  | _, _, .dic h1 h2 h3 => .dic (e.G _ _ h1) h2 (Dens.mono e h3)
theorem Dens.mono (e : Ext g g') : ∀ {vs : List V} {ds : List D}, Dens K g vs ds → Dens K g' vs ds
  | _, _, .nil => .nil
  | _, _, .cons h t => .cons (Den.mono e h) (Dens.mono e t)
theorem Flds.mono (e : Ext g g') : ∀ {vs : List (Str × V)} {ds : List (Str × D)}, Flds K g vs ds → Flds K g' vs ds
  | _, _, .nil => .nil
  | _, _, .cons h t => .cons (Den.mono e h) (Flds.mono e t)
end
theorem Dens.length : ∀ {vs : List V} {ds : List D}, Dens K g vs ds → vs.length = ds.length
  | _, _, .nil => rfl
  | _, _, .cons _ t => congrArg Nat.succ (Dens.length t)
theorem Dens.append : ∀ {vs ws : List V} {ds es : List D}, Dens K g vs ds → Dens K g ws es → Dens K g (vs ++ ws) (ds ++ es)
  | _, _, _, _, .nil, s => s
  | _, _, _, _, .cons h t, s => .cons h (Dens.append t s)
theorem Dens.get : ∀ {vs : List V} {ds : List D} {i : Nat} {d : D}, Dens K g vs ds → ds[i]? = some d → ∃ v, vs[i]? = some v ∧ Den K g v d
  | _, _, _, _, .nil, e => by simp at e
  | _, _, 0, _, .cons h _, e => by simp at e; subst e; exact ⟨_, rfl, h⟩
  | _, _, i + 1, d, .cons _ t, e => by
    obtain ⟨v, h1, h2⟩ := Dens.get (i := i) (d := d) t (by simpa using e)
    exact ⟨v, by simpa using h1, h2⟩
theorem Dens.getV : ∀ {vs : List V} {ds : List D} {i : Nat} {v : V}, Dens K g vs ds → vs[i]? = some v → ∃ d, ds[i]? = some d ∧ Den K g v d
  | _, _, _, _, .nil, e => by simp at e
  | _, _, 0, _, .cons h _, e => by simp at e; subst e; exact ⟨_, rfl, h⟩
  | _, _, i + 1, v, .cons _ t, e => by
    obtain ⟨d, h1, h2⟩ := Dens.getV (i := i) (v := v) t (by simpa using e)
    exact ⟨d, by simpa using h1, h2⟩
theorem Dens.set {v : V} {d : D} (h : Den K g v d) : ∀ {vs : List V} {ds : List D} (i : Nat), Dens K g vs ds → Dens K g (vs.set i v) (ds.set i d)
  | _, _, _, .nil => .nil
  | _, _, 0, .cons _ t => .cons h t
  | _, _, i + 1, .cons q t => .cons q (Dens.set h i t)
theorem Dens.take : ∀ {vs : List V} {ds : List D} (n : Nat), Dens K g vs ds → Dens K g (vs.take n) (ds.take n)
  | _, _, 0, _ => .nil
  | _, _, _ + 1, .nil => .nil
  | _, _, n + 1, .cons h t => .cons h (Dens.take n t)
theorem Dens.drop : ∀ {vs : List V} {ds : List D} (n : Nat), Dens K g vs ds → Dens K g (vs.drop n) (ds.drop n)
  | _, _, 0, r => r
  | _, _, _ + 1, .nil => .nil
  | _, _, n + 1, .cons _ t => Dens.drop n t
theorem Dens.reverse : ∀ {vs : List V} {ds : List D}, Dens K g vs ds → Dens K g vs.reverse ds.reverse
  | _, _, .nil => .nil
  | _, _, .cons h t => by
    rw [List.reverse_cons, List.reverse_cons]
    exact (Dens.reverse t).append (.cons h .nil)
theorem Dens.ints : ∀ {vs : List V} {ns : List Int}, Dens K g vs (ns.map D.int) → vs = ns.map V.int
  | _, [], .nil => rfl
  | _, n :: ns, .cons (.int _) t => by
    rw [Dens.ints t]
    rfl
theorem Dens.bls : ∀ {vs : List V} {ns : List Bool}, Dens K g vs (ns.map D.bl) → vs = ns.map V.bl
  | _, [], .nil => rfl
  | _, n :: ns, .cons (.bl _) t => by
    rw [Dens.bls t]
    rfl
theorem Dens.strs : ∀ {vs : List V} {ns : List (List Nat)}, Dens K g vs (ns.map D.str) → vs = (ns.map fun l => (⟨l.toArray⟩ : Str)).map V.str
  | _, [], .nil => rfl
  | _, n :: ns, .cons (.str _) t => by
    rw [Dens.strs t]
    rfl
end
def PotH (n : Nat) (o : Option HO) : Prop := ∃ x y z : Int, o = some (.lst [.int x, .int y, .int z]) ∧ 0 ≤ x ∧ x.natAbs < 2 ^ 1100 ∧ 0 ≤ y ∧ y < 2 ^ 61 ∧ 0 ≤ z ∧ z + n ≤ 1000000000
theorem heap_sz : ∀ n : Nat, ∃ h : Heap, h.objs.size = n ∧ ∀ b o, h.get? b = some o → o.cls = Value.none
  | 0 => ⟨{}, rfl, fun b o e => by
    have := Heap.lt_size e
    exact absurd this (by simp)⟩
  | n + 1 => by
    obtain ⟨h, e, z⟩ := heap_sz n
    refine ⟨h.push { cls := .none, data := .plain }, by rw [Heap.size_push, e], fun b o q => ?_⟩
    rcases Heap.get?_push_cases q with ⟨_, w⟩ | w
    · rw [w]
    · exact z b o w
theorem slO_ncode {C dx x c : Addr} {vs : List (Option V)} {q : Str} : SlO C dx x vs ≠ LamX.CodeO c q := fun z => by
  unfold SlO LamX.CodeO at z
  injection z with z
  obtain ⟨h, e, w⟩ := heap_sz c
  have g := Heap.get?_push_size h (o := ({ cls := .none, data := .fields #[.none, .str q 0] } : Obj)) rfl
  rw [e] at g
  have y : SlP C dx x vs (h.push ({ cls := .none, data := .fields #[.none, .str q 0] } : Obj)) := by
    rw [z]
    exact ⟨_, _, 0, g, rfl, rfl⟩
  obtain ⟨us, _, y⟩ := y
  rcases Heap.get?_push_cases y with ⟨_, k⟩ | k
  · have := congrArg Obj.cls k
    cases this
  · have := w _ _ k
    cases this
def Lite (u : HO) : Prop := (∃ vs, u = .lst vs) ∨ (∃ C dx fs, u = .ins C dx fs) ∨ (∃ kvs, u = .dK kvs) ∨ (∃ kvs, u = .dT kvs) ∨ ∃ C dx x vs, u = SlO C dx x vs
def nmOf (q : Str) (l c : Nat) : Str := if q = "_law_block.<locals>.<lambda>" ∧ l = 457 ∧ c = 4 then "_law_block.<locals>._law_look" else q
def Tabs (T : List (Addr × Str)) (H : Hp) : Prop := ∀ p ∈ T, NdefX.TabN H p.1 (nmOf p.2)
theorem Tabs.ext {T : List (Addr × Str)} {H H' : Hp} (t : Tabs T H) (e : ∀ b o, H b = some o → H' b = some o) : Tabs T H' := fun p hp => (t p hp).ext e
structure TOk (T : List (Addr × Str)) (pot : Addr → Prop) (H : Hp) : Prop where
  tabs : Tabs T H
  tp : ∀ p, p ∈ T → pot p.1
  all : ∀ a ps, H a = some (.tbl ps) → ∃ q, (a, q) ∈ T
theorem codeO_lite {c : Addr} {q : Str} (h : Lite (LamX.CodeO c q)) : False := by
  unfold LamX.CodeO at h
  rcases h with ⟨vs, h⟩ | ⟨C, dx, fs, h⟩ | ⟨kvs, h⟩ | ⟨kvs, h⟩ | ⟨C, dx, x, vs, h⟩
  · cases h
  · cases h
  · cases h
  · cases h
  · exact slO_ncode (q := q) (c := c) (by rw [← h]; rfl)
theorem TOk.at {T : List (Addr × Str)} {pot : Addr → Prop} {H H' : Hp} (t : TOk T pot H) (h1 : ∀ a ps, H' a = some (.tbl ps) → H a = some (.tbl ps)) (h2 : ∀ a u, H a = some u → ¬ Lite u → H' a = some u) : TOk T pot H' := by
  refine ⟨fun p hp => ?_, t.tp, fun a ps e => t.all a ps (h1 a ps e)⟩
  obtain ⟨ps, a1, a2, a3⟩ := t.tabs p hp
  refine ⟨ps, h2 _ _ a1 (by rintro (⟨vs, z⟩ | ⟨C, dx, fs, z⟩ | ⟨kvs, z⟩ | ⟨kvs, z⟩ | ⟨C, dx, x, vs, z⟩) <;> (try unfold SlO at z) <;> cases z), a2, fun pos cv hc => ?_⟩
  obtain ⟨c, b1, b2⟩ := a3 pos cv hc
  exact ⟨c, b1, h2 _ _ b2 fun z => codeO_lite z⟩
theorem TOk.upd {T : List (Addr × Str)} {pot : Addr → Prop} {H : Hp} (t : TOk T pot H) {p : Addr} {o : HO} (hp : ∀ u, H p = some u → Lite u) (ho : ∀ ps, o ≠ .tbl ps) : TOk T pot (L2.upd H p o) := by
  refine t.at (fun a ps e => ?_) fun a u e n => ?_
  · by_cases q : a = p
    · subst q
      rw [upd_same] at e
      cases e
      exact (ho ps rfl).elim
    · rw [upd_ne q] at e
      exact e
  · rw [upd_ne fun q => n (hp u (by rw [← q]; exact e))]
    exact e
theorem TOk.new {T : List (Addr × Str)} {pot : Addr → Prop} {H : Hp} (t : TOk T pot H) {p : Addr} {o : HO} (hp : H p = none) (ho : ∀ ps, o ≠ .tbl ps) : TOk T pot (L2.upd H p o) :=
  t.upd (fun u e => by rw [hp] at e; cases e) ho
theorem TOk.no {T : List (Addr × Str)} {pot : Addr → Prop} {H : Hp} (t : TOk T pot H) {p : Addr} (h : ∀ ps, H p ≠ some (.tbl ps)) (q : Str) : (p, q) ∉ T := fun z => by
  obtain ⟨ps, a1, _⟩ := t.tabs _ z
  exact h ps a1
theorem TOk.pots {T : List (Addr × Str)} {pot pot' : Addr → Prop} {H : Hp} (t : TOk T pot H) (h : ∀ a, pot a → pot' a) : TOk T pot' H := ⟨t.tabs, fun p hp => h _ (t.tp p hp), t.all⟩
def OD.d : OD → D
  | .lst ds => .lst ds
  | .ins C fs => .obj C fs
  | .dic ks vs => .dic ks vs
  | .dct _ _ => .non
  | .blk _ _ => .non
def OwnH (K : PySem.W.Frag) (g : Gh) : OD → HO → Prop
  | .lst ds, o => ∃ vs, o = .lst vs ∧ Dens K g vs ds
  | .ins C fs, o => ∃ dx fvs, o = .ins C dx fvs ∧ Flds K g fvs fs
  | .dic ks vs, o => ∃ kvs : List (Key × V), o = .dK kvs ∧ kvs.map (·.1) = ks.map (fun x => Sum.inr ⟨x.toArray⟩) ∧ Dens K g (kvs.map (·.2)) vs
  | .dct _ _, _ => False
  | .blk _ _, _ => False
theorem OwnH.lite {K : PySem.W.Frag} {g : Gh} {d : OD} {o : HO} (h : OwnH K g d o) : Lite o := by
  cases d with
  | lst ds =>
    obtain ⟨vs, e1, _⟩ := h
    exact .inl ⟨vs, e1⟩
  | ins C fs =>
    obtain ⟨dx, fvs, e1, _⟩ := h
    exact .inr (.inl ⟨C, dx, fvs, e1⟩)
  | dic ks vs =>
    obtain ⟨kvs, e1, _⟩ := h
    exact .inr (.inr (.inl ⟨kvs, e1⟩))
  | dct ks vs => exact h.elim
  | blk C vs => exact h.elim
theorem Lite.nt {o : HO} (h : Lite o) (ps : Array Value) : o ≠ .tbl ps := by
  rcases h with ⟨vs, rfl⟩ | ⟨C, dx, fs, rfl⟩ | ⟨kvs, rfl⟩ | ⟨kvs, rfl⟩ | ⟨C, dx, x, vs, rfl⟩ <;> intro z <;> (try unfold SlO at z) <;> cases z
theorem OwnH.mono {K : PySem.W.Frag} {g g' : Gh} {d : OD} {o : HO} (h : OwnH K g d o) (e : Ext g g') : OwnH K g' d o := by
  cases d with
  | lst ds =>
    obtain ⟨vs, e1, e2⟩ := h
    exact ⟨vs, e1, e2.mono e⟩
  | ins C fs =>
    obtain ⟨dx, fvs, e1, e2⟩ := h
    exact ⟨dx, fvs, e1, e2.mono e⟩
  | dic ks vs =>
    obtain ⟨kvs, e1, e2, e3⟩ := h
    exact ⟨kvs, e1, e2, e3.mono e⟩
  | dct ks vs => exact h.elim
  | blk C vs => exact h.elim
theorem OwnH.den {K : PySem.W.Frag} {g : Gh} {d : OD} {o : HO} {p : Addr} (h : OwnH K g d o) (e : g.G p = some o) : Den K g (.ref p) d.d := by
  cases d with
  | lst ds =>
    obtain ⟨vs, e1, e2⟩ := h
    subst e1
    exact .lst e e2
  | ins C fs =>
    obtain ⟨dx, fvs, e1, e2⟩ := h
    subst e1
    exact .obj e e2
  | dic ks vs =>
    obtain ⟨kvs, e1, e2, e3⟩ := h
    subst e1
    exact .dic e e2 e3
  | dct ks vs => exact h.elim
  | blk C vs => exact h.elim
abbrev tupKey (x : List Nat) : List Key := x.map fun (k : Nat) => (Sum.inl ((k : Nat) : Int) : Key)
def CelH (K : PySem.W.Frag) (g : Gh) (a : Addr) : OD → HO → Prop
  | .blk C vs, o => ∃ (dx : Addr) (us : List V), o = SlO C dx a (us.map some) ∧ g.G dx = some (.own a) ∧ dx ≠ a ∧ Dens K g us vs
  | .dct ks vs, o => ∃ kvs : List (List Key × V), o = .dT kvs ∧ kvs.map (·.1) = ks.map tupKey ∧ Dens K g (kvs.map (·.2)) vs
  | .lst ds, o => OwnH K g (.lst ds) o
  | .ins C fs, o => OwnH K g (.ins C fs) o
  | .dic ks vs, o => OwnH K g (.dic ks vs) o
theorem CelH.lite {K : PySem.W.Frag} {g : Gh} {a : Addr} {d : OD} {o : HO} (h : CelH K g a d o) : Lite o := by
  cases d with
  | lst ds => exact OwnH.lite (d := .lst ds) h
  | ins C fs => exact OwnH.lite (d := .ins C fs) h
  | dic ks vs => exact OwnH.lite (d := .dic ks vs) h
  | dct ks vs =>
    obtain ⟨kvs, e1, _⟩ := h
    exact .inr (.inr (.inr (.inl ⟨kvs, e1⟩)))
  | blk C vs =>
    obtain ⟨dx, us, e1, _⟩ := h
    exact .inr (.inr (.inr (.inr ⟨C, dx, a, us.map some, e1⟩)))
theorem CelH.mono {K : PySem.W.Frag} {g g' : Gh} {a : Addr} {d : OD} {o : HO} (h : CelH K g a d o) (e : Ext g g') : CelH K g' a d o := by
  cases d with
  | lst ds => exact OwnH.mono (d := .lst ds) h e
  | ins C fs => exact OwnH.mono (d := .ins C fs) h e
  | dic ks vs => exact OwnH.mono (d := .dic ks vs) h e
  | dct ks vs =>
    obtain ⟨kvs, e1, e2, e3⟩ := h
    exact ⟨kvs, e1, e2, e3.mono e⟩
  | blk C vs =>
    obtain ⟨dx, us, e1, e2, e3, e4⟩ := h
    exact ⟨dx, us, e1, e.G _ _ e2, e3, e4.mono e⟩
structure CelOk (K : PySem.W.Frag) (g : Gh) (H : Hp) (l : List (Addr × Option Addr)) (cs : List OD) : Prop where
  len : l.length = cs.length
  at_ : ∀ (i : Nat) (a : Addr) (C : Option Addr), l[i]? = some (a, C) → g.pot a ∧ (∀ q, (a, q) ∉ tabsK K) ∧ ∃ od o, cs[i]? = some od ∧ od.cls = C ∧ H a = some o ∧ CelH K g a od o
  nd : ∀ (i j : Nat) (a : Addr) (C C' : Option Addr), l[i]? = some (a, C) → l[j]? = some (a, C') → i = j
theorem CelOk.nil {K : PySem.W.Frag} {g : Gh} {H : Hp} : CelOk K g H [] [] := ⟨rfl, fun i a C h => by simp at h, fun i j a C C' h => by simp at h⟩
theorem CelOk.step {K : PySem.W.Frag} {g g' : Gh} {H H' : Hp} {l : List (Addr × Option Addr)} {cs : List OD} (c : CelOk K g H l cs) (e : Ext g g') (h : ∀ a C, (a, C) ∈ l → H' a = H a) : CelOk K g' H' l cs :=
  ⟨c.len, fun i a C q => by
    obtain ⟨h1, h2, od, o, h3, h4, h5, h6⟩ := c.at_ i a C q
    exact ⟨e.p _ h1, h2, od, o, h3, h4, (h a C (List.mem_of_getElem? q)).trans h5, h6.mono e⟩, c.nd⟩
theorem CelOk.mem {K : PySem.W.Frag} {g : Gh} {H : Hp} {l : List (Addr × Option Addr)} {cs : List OD} (c : CelOk K g H l cs) {a : Addr} {C : Option Addr} (h : (a, C) ∈ l) : g.pot a ∧ (∀ q, (a, q) ∉ tabsK K) ∧ ∃ od o, H a = some o ∧ CelH K g a od o := by
  obtain ⟨i, e⟩ := List.getElem?_of_mem h
  obtain ⟨h1, h2, od, o, h3, h4, h5, h6⟩ := c.at_ i a C e
  exact ⟨h1, h2, od, o, h5, h6⟩
theorem CelOk.upd {K : PySem.W.Frag} {g : Gh} {H : Hp} {l : List (Addr × Option Addr)} {cs : List OD} (c : CelOk K g H l cs) {p : Addr} {o : HO} (h : ¬ g.pot p) : CelOk K g (L2.upd H p o) l cs :=
  c.step (Ext.refl g) fun a C m => upd_ne fun q => h (by rw [← q]; exact (c.mem m).1)
structure Ok (ℓ : Bool) (K : PySem.W.Frag) (g : Gh) (H : Hp) (n : Nat) : Prop where
  sub : Same g.G H
  pot : ∀ a, g.pot a → g.G a = none ∧ (((∃ q, (a, q) ∈ tabsK K) ∨ ∃ C, (a, C) ∈ g.cel) ∨ PotH (drw ℓ n) (H a))
  t : TOk (tabsK K) g.pot H
  cel : CelOk K g H g.cel (csw ℓ n)
theorem Ok.nocel {K : PySem.W.Frag} {g : Gh} {H : Hp} {n : Nat} (ok : Ok false K g H n) : g.cel = [] := List.length_eq_zero_iff.mp ok.cel.len
structure Stp (g : Gh) (H : Hp) (g' : Gh) (H' : Hp) : Prop where
  ext : Ext g g'
  gro : ∀ a, H a ≠ none → g.G a = none → g'.G a = none
  grp : ∀ a, H a ≠ none → g'.pot a → g.pot a
  kep : ∀ a o, H a = some o → ¬ g.pot a → H' a = some o
  dom : ∀ a, H a ≠ none → H' a ≠ none
theorem Stp.refl (g : Gh) (H : Hp) : Stp g H g H := ⟨Ext.refl g, fun _ _ h => h, fun _ _ h => h, fun _ _ h _ => h, fun _ h => h⟩
theorem Stp.trans {g g1 g2 : Gh} {H H1 H2 : Hp} (a : Stp g H g1 H1) (b : Stp g1 H1 g2 H2) : Stp g H g2 H2 :=
  ⟨a.ext.trans b.ext, fun x h q => b.gro x (a.dom x h) (a.gro x h q), fun x h q => a.grp x h (b.grp x (a.dom x h) q),
    fun x o h q => b.kep x o (a.kep x o h q) fun z => q (a.grp x (by rw [h]; exact Option.some_ne_none o) z), fun x h => b.dom x (a.dom x h)⟩
def Gh.add (g : Gh) (p : Addr) (o : HO) : Gh := ⟨upd g.G p o, g.pot, g.cel⟩
theorem Ext.addN {g : Gh} {p : Addr} {o : HO} (h : g.G p = none) : Ext g (g.add p o) := ⟨fun a u q => by
  show upd g.G p o a = some u
  rw [upd_ne (ne_of_none q h)]
  exact q, fun _ z => z, [], (List.append_nil _).symm, fun _ _ h => by cases h⟩
theorem Ok.gnone {K : PySem.W.Frag} {g : Gh} {H : Hp} {n : Nat} (ok : Ok ℓ K g H n) {p : Addr} (h : H p = none) : g.G p = none := by
  cases q : g.G p with
  | none => rfl
  | some o =>
    rw [ok.sub p o q] at h
    cases h
theorem Ok.npot {K : PySem.W.Frag} {g : Gh} {H : Hp} {n : Nat} (ok : Ok ℓ K g H n) {p : Addr} (h : H p = none) : ¬ g.pot p := fun z => by
  obtain ⟨_, (⟨q, w⟩ | ⟨C, w⟩) | ⟨x, y, w, e, _⟩⟩ := ok.pot p z
  · obtain ⟨ps, e, _⟩ := ok.t.tabs _ w
    have e : H p = some (.tbl ps) := e
    rw [h] at e
    cases e
  · obtain ⟨_, _, od, o, e, _⟩ := ok.cel.mem w
    rw [h] at e
    cases e
  · rw [h] at e
    cases e
theorem Ok.potH {K : PySem.W.Frag} {g : Gh} {H : Hp} {n : Nat} (ok : Ok ℓ K g H n) {p : Addr} (h : g.pot p) (hn : NoT K g p) : PotH (drw ℓ n) (H p) := (ok.pot p h).2.elim (fun z => z.elim (fun ⟨q, z⟩ => absurd z (hn.1 q)) fun ⟨C, z⟩ => absurd z (hn.2 C)) id
theorem Ok.add {K : PySem.W.Frag} {g : Gh} {H : Hp} {n : Nat} (ok : Ok ℓ K g H n) {p : Addr} {o : HO} (h : H p = none) (ho : ∀ ps, o ≠ .tbl ps := by (intro ps z; cases z)) : Ok ℓ K (g.add p o) (upd H p o) n := by
  refine ⟨fun a u e => ?_, fun a z => ?_, ok.t.new h ho, ok.cel.step (Ext.addN (ok.gnone h)) fun a C m => upd_ne fun q => by
    obtain ⟨_, _, od, o2, e, _⟩ := ok.cel.mem m
    rw [q, h] at e
    cases e⟩
  · by_cases q : a = p
    · subst q
      have e2 : upd g.G a o a = some u := e
      rw [upd_same] at e2 ⊢
      exact e2
    · have e2 : upd g.G p o a = some u := e
      rw [upd_ne q] at e2 ⊢
      exact ok.sub a u e2
  · have z2 : g.pot a := z
    have q : a ≠ p := fun e => ok.npot h (by rw [← e]; exact z2)
    obtain ⟨h1, h2⟩ := ok.pot a z2
    refine ⟨?_, ?_⟩
    · show upd g.G p o a = none
      rw [upd_ne q]
      exact h1
    · rw [upd_ne q]
      exact h2
theorem Stp.add {K : PySem.W.Frag} {g : Gh} {H : Hp} {n : Nat} (ok : Ok ℓ K g H n) {p : Addr} {o : HO} (h : H p = none) : Stp g H (g.add p o) (upd H p o) := by
  refine ⟨Ext.addN (ok.gnone h), fun a d e => ?_, fun _ _ z => z, fun a u e _ => ?_, fun a d => ?_⟩
  · show upd g.G p o a = none
    rw [upd_ne fun q => d (by rw [q]; exact h)]
    exact e
  · rw [upd_ne (ne_of_none e h)]
    exact e
  · rw [upd_ne fun q => d (by rw [q]; exact h)]
    exact d
theorem Gh.at {g : Gh} {p : Addr} {o : HO} : (g.add p o).G p = some o := upd_same
inductive Sl where
  | no | val (d : D) | own (o : OD)
abbrev Ev := List Sl
def SlOk (K : PySem.W.Frag) (O : OD → Addr → Prop) (g : Gh) (H : Hp) (s : Option (Option V)) : Sl → Prop
  | .no => True
  | .val d => ∃ v, s = some (some v) ∧ Den K g v d
  | .own d => ∃ p o, s = some (some (.ref p)) ∧ O d p ∧ g.G p = none ∧ ¬ g.pot p ∧ H p = some o ∧ OwnH K g d o
structure Rp (ℓ : Bool) (K : PySem.W.Frag) (O : OD → Addr → Prop) (g : Gh) (H : Hp) (n : Nat) (σ : L2.St) (ε : Ev) : Prop where
  ok : Ok ℓ K g H n
  len : σ.length = ε.length
  sl : ∀ (i : Nat) (s : Sl), ε[i]? = some s → SlOk K O g H σ[i]? s
  dis : ∀ (i j : Nat) (p : Addr) (ds es : OD), i ≠ j → ε[i]? = some (.own ds) → ε[j]? = some (.own es) → σ[i]? = some (some (.ref p)) → σ[j]? = some (some (.ref p)) → False
section
variable {K : PySem.W.Frag} {O : OD → Addr → Prop} {g g' : Gh} {H H' : Hp} {n n' : Nat} {σ : L2.St} {ε : Ev}
theorem SlOk.step {s : Option (Option V)} {x : Sl} (h : SlOk K O g H s x) (st : Stp g H g' H') : SlOk K O g' H' s x := by
  cases x with
  | no => trivial
  | val d =>
    obtain ⟨v, e, q⟩ := h
    exact ⟨v, e, q.mono st.ext⟩
  | own ds =>
    obtain ⟨p, vs, e, o, h1, h2, h3, h4⟩ := h
    have d : H p ≠ none := by rw [h3]; exact Option.some_ne_none _
    exact ⟨p, vs, e, o, st.gro p d h1, fun z => h2 (st.grp p d z), st.kep p _ h3 h2, h4.mono st.ext⟩
theorem Rp.step (r : Rp ℓ K O g H n σ ε) (st : Stp g H g' H') (ok : Ok ℓ K g' H' n') : Rp ℓ K O g' H' n' σ ε :=
  ⟨ok, r.len, fun i s e => (r.sl i s e).step st, r.dis⟩
theorem Rp.set (r : Rp ℓ K O g H n σ ε) {i : Nat} {v : V} {d : D} (h : Den K g v d) : Rp ℓ K O g H n (σ.set i (some v)) (ε.set i (.val d)) := by
  refine ⟨r.ok, by rw [List.length_set, List.length_set]; exact r.len, fun j s e => ?_, fun j k p ds es hjk e1 e2 e3 e4 => ?_⟩
  · by_cases q : i = j
    · subst q
      have hl : i < ε.length := by
        rcases Nat.lt_or_ge i ε.length with z | z
        · exact z
        · rw [List.getElem?_eq_none (by rw [List.length_set]; exact z)] at e
          cases e
      rw [List.getElem?_set_self hl] at e
      cases e
      exact ⟨v, List.getElem?_set_self (by rw [r.len]; exact hl), h⟩
    · rw [List.getElem?_set_ne q] at e ⊢
      exact r.sl j s e
  · have nown : ∀ {m : Nat} {fs : OD}, (ε.set i (.val d))[m]? = some (.own fs) → i ≠ m := fun {m fs} z q => by
      subst q
      rw [List.getElem?_set] at z
      simp at z
    have q1 := nown e1
    have q2 := nown e2
    rw [List.getElem?_set_ne q1] at e1 e3
    rw [List.getElem?_set_ne q2] at e2 e4
    exact r.dis j k p ds es hjk e1 e2 e3 e4
def wipeE (ε : Ev) : List Nat → Ev
  | [] => ε
  | v :: vs => (wipeE ε vs).set v .no
theorem Rp.unset (r : Rp ℓ K O g H n σ ε) (i : Nat) : Rp ℓ K O g H n (σ.set i none) (ε.set i .no) := by
  refine ⟨r.ok, by rw [List.length_set, List.length_set]; exact r.len, fun j s e => ?_, fun j k p ds es hjk e1 e2 e3 e4 => ?_⟩
  · by_cases q : i = j
    · subst q
      have hl : i < ε.length := by
        rcases Nat.lt_or_ge i ε.length with z | z
        · exact z
        · rw [List.getElem?_eq_none (by rw [List.length_set]; exact z)] at e
          cases e
      rw [List.getElem?_set_self hl] at e
      cases e
      trivial
    · rw [List.getElem?_set_ne q] at e ⊢
      exact r.sl j s e
  · have nown : ∀ {m : Nat} {fs : OD}, (ε.set i .no)[m]? = some (.own fs) → i ≠ m := fun {m fs} z q => by
      subst q
      rw [List.getElem?_set] at z
      simp at z
    have q1 := nown e1
    have q2 := nown e2
    rw [List.getElem?_set_ne q1] at e1 e3
    rw [List.getElem?_set_ne q2] at e2 e4
    exact r.dis j k p ds es hjk e1 e2 e3 e4
theorem Rp.wipe (r : Rp ℓ K O g H n σ ε) : ∀ vs : List Nat, Rp ℓ K O g H n (wipe σ vs) (wipeE ε vs)
  | [] => r
  | v :: vs => (Rp.wipe r vs).unset v
def frzE (ε : Ev) (i : Nat) : Ev := match ε[i]? with
  | some (.own d) => ε.set i (.val d.d)
  | _ => ε
theorem Ok.addOld (ok : Ok ℓ K g H n) {p : Addr} {o : HO} (h : H p = some o) (h2 : ¬ g.pot p) : Ok ℓ K (g.add p o) H n := by
  refine ⟨fun a u e => ?_, fun a z => ?_, ok.t, ok.cel.step ⟨fun a u q => ?_, fun _ z => z, [], (List.append_nil _).symm, fun _ _ h => by cases h⟩ fun _ _ _ => rfl⟩
  rotate_right
  · show upd g.G p o a = some u
    by_cases w : a = p
    · subst w
      rw [upd_same, ← h]
      exact ok.sub a u q
    · rw [upd_ne w]
      exact q
  · by_cases q : a = p
    · subst q
      have e2 : upd g.G a o a = some u := e
      rw [upd_same] at e2
      rw [h]
      exact e2
    · have e2 : upd g.G p o a = some u := e
      rw [upd_ne q] at e2
      exact ok.sub a u e2
  · have z2 : g.pot a := z
    obtain ⟨h3, h4⟩ := ok.pot a z2
    refine ⟨?_, h4⟩
    show upd g.G p o a = none
    rw [upd_ne fun e => h2 (by rw [← e]; exact z2)]
    exact h3
theorem Ext.addOld {p : Addr} {o : HO} (h : g.G p = none) : Ext g (g.add p o) := Ext.addN h
theorem frz_own {i : Nat} {ds : OD} (e : ε[i]? = some (.own ds)) : frzE ε i = ε.set i (.val ds.d) := by
  unfold frzE
  rw [e]
theorem Rp.freezeAt (r : Rp ℓ K O g H n σ ε) {i : Nat} {p : Addr} {vs : HO} {ds : OD} (e : ε[i]? = some (.own ds)) (e1 : σ[i]? = some (some (.ref p))) (h1 : g.G p = none) (h2 : ¬ g.pot p) (h3 : H p = some vs) (h4 : OwnH K g ds vs) :
    Rp ℓ K O (g.add p vs) H n σ (ε.set i (.val ds.d)) := by
  have ex : Ext g (g.add p vs) := Ext.addOld h1
  have hl : i < ε.length := (List.getElem?_eq_some_iff.mp e).1
  refine ⟨r.ok.addOld h3 h2, by rw [List.length_set]; exact r.len, fun j s q => ?_, fun j k q es fs hjk e2 e3 e4 e5 => ?_⟩
  · by_cases hj : i = j
    · subst hj
      rw [List.getElem?_set_self hl] at q
      cases q
      exact ⟨_, e1, (h4.mono ex).den upd_same⟩
    · rw [List.getElem?_set_ne hj] at q
      have w := r.sl j s q
      cases s with
      | no => trivial
      | val d =>
        obtain ⟨v, w1, w2⟩ := w
        exact ⟨v, w1, w2.mono ex⟩
      | own es =>
        obtain ⟨p2, vs2, w1, o2, w2, w3, w4, w5⟩ := w
        refine ⟨p2, vs2, w1, o2, ?_, w3, w4, w5.mono ex⟩
        show upd g.G p vs p2 = none
        rw [upd_ne fun z => r.dis i j p ds es hj e q e1 (by rw [← z]; exact w1)]
        exact w2
  · have nown : ∀ {m : Nat} {fs : OD}, (ε.set i (.val ds.d))[m]? = some (.own fs) → i ≠ m := fun {m fs} z q => by
      subst q
      rw [List.getElem?_set] at z
      simp at z
    have q1 := nown e2
    have q2 := nown e3
    rw [List.getElem?_set_ne q1] at e2
    rw [List.getElem?_set_ne q2] at e3
    exact r.dis j k q es fs hjk e2 e3 e4 e5
theorem Rp.freeze {g0 : Gh} {H0 : Hp} {U : OD → Addr → Prop} (r : Rp ℓ K (fun d p => H0 p = none ∧ U d p) g H n σ ε) (st : Stp g0 H0 g H) (i : Nat) : ∃ g', Stp g0 H0 g' H ∧ Rp ℓ K (fun d p => H0 p = none ∧ U d p) g' H n σ (frzE ε i) := by
  cases e : ε[i]? with
  | none =>
    have z : frzE ε i = ε := by unfold frzE; rw [e]
    rw [z]
    exact ⟨g, st, r⟩
  | some s =>
    cases s with
    | no =>
      have z : frzE ε i = ε := by unfold frzE; rw [e]
      rw [z]
      exact ⟨g, st, r⟩
    | val d =>
      have z : frzE ε i = ε := by unfold frzE; rw [e]
      rw [z]
      exact ⟨g, st, r⟩
    | own ds =>
      rw [frz_own e]
      obtain ⟨p, vs, e1, o, h1, h2, h3, h4⟩ := r.sl i _ e
      refine ⟨g.add p vs, ⟨st.ext.trans (Ext.addOld h1), fun a d q => ?_, st.grp, st.kep, st.dom⟩, r.freezeAt e e1 h1 h2 h3 h4⟩
      show upd g.G p vs a = none
      have o2 : H0 p = none := o.1
      rw [upd_ne fun z => d (by rw [z]; exact o2)]
      exact st.gro a d q
theorem Rp.tmp (r : Rp false K O g H n σ ε) (i : Nat) : ∃ g1, Rp false K O g1 H n σ (frzE ε i) ∧ ∀ g' H' n', Stp g1 H g' H' → Ok false K g' H' n' → ∃ g'', Stp g H g'' H' ∧ Ok false K g'' H' n' := by
  cases e : ε[i]? with
  | none =>
    have z : frzE ε i = ε := by unfold frzE; rw [e]
    rw [z]
    exact ⟨g, r, fun g' H' n' a b => ⟨g', a, b⟩⟩
  | some s =>
    cases s with
    | no =>
      have z : frzE ε i = ε := by unfold frzE; rw [e]
      rw [z]
      exact ⟨g, r, fun g' H' n' a b => ⟨g', a, b⟩⟩
    | val d =>
      have z : frzE ε i = ε := by unfold frzE; rw [e]
      rw [z]
      exact ⟨g, r, fun g' H' n' a b => ⟨g', a, b⟩⟩
    | own ds =>
      rw [frz_own e]
      obtain ⟨p, vs, e1, o, h1, h2, h3, h4⟩ := r.sl i _ e
      refine ⟨g.add p vs, r.freezeAt e e1 h1 h2 h3 h4, fun g' H' n' a b => ⟨⟨fun x => if x = p then none else g'.G x, g'.pot, g'.cel⟩, ⟨⟨fun x u q => ?_, a.ext.p, a.ext.c⟩, fun x d q => ?_, a.grp, a.kep, a.dom⟩, ⟨fun x u q => ?_, fun x z => ?_, b.t, by rw [b.nocel]; exact CelOk.nil⟩⟩⟩
      · show (if x = p then none else g'.G x) = some u
        rw [if_neg (ne_of_none q h1)]
        exact a.ext.G x u ((Ext.addOld (o := vs) h1).G x u q)
      · show (if x = p then none else g'.G x) = none
        by_cases w : x = p
        · rw [if_pos w]
        · rw [if_neg w]
          refine a.gro x d ?_
          show upd g.G p vs x = none
          rw [upd_ne w]
          exact q
      · have q2 : (if x = p then none else g'.G x) = some u := q
        by_cases w : x = p
        · rw [if_pos w] at q2
          cases q2
        · rw [if_neg w] at q2
          exact b.sub x u q2
      · obtain ⟨z1, z2⟩ := b.pot x z
        refine ⟨?_, z2⟩
        show (if x = p then none else g'.G x) = none
        by_cases w : x = p
        · rw [if_pos w]
        · rw [if_neg w]
          exact z1
end
end Pd
namespace Pd
variable {ℓ : Bool}
open PySem L2
abbrev DE := Nat → Ev → (Nat → D → Prop) → Prop
abbrev DT := Nat → Ev → (Nat → Bool → Prop) → Prop
abbrev DA := Nat → Ev → (Nat → List D → Prop) → Prop
structure DN where
  nx : Nat → Ev → Prop
  rt : Nat → D → Prop
  bk : Nat → Ev → Prop := fun _ _ => False
  ct : Nat → Ev → Prop := fun _ _ => False
  slf : Option Addr := none
  ret : Nat → Ev → D → Prop := fun _ _ _ => False
  rs : Nat → Ev → Nat → Prop := fun _ _ _ => False
  xc : Nat → Ev → Addr → D → Prop := fun _ _ _ _ => False
abbrev DS := DN → Nat → Ev → Prop
def liftE (ℓ : Bool) (K : PySem.W.Frag) (d : DE) : TE := fun σ H Q => ∃ O g n ε P, Rp ℓ K O g H n σ ε ∧ d n ε P ∧ ∀ v g' H' n' r, P n' r → Stp g H g' H' → Ok ℓ K g' H' n' → Den K g' v r → Q v H'
def liftT (ℓ : Bool) (K : PySem.W.Frag) (d : DT) : TT := fun σ H Q => ∃ O g n ε P, Rp ℓ K O g H n σ ε ∧ d n ε P ∧ ∀ b g' H' n', P n' b → Stp g H g' H' → Ok ℓ K g' H' n' → Q b H'
def liftA (ℓ : Bool) (K : PySem.W.Frag) (d : DA) : TA := fun σ H Q => ∃ O g n ε P, Rp ℓ K O g H n σ ε ∧ d n ε P ∧ ∀ vs g' H' n' rs, P n' rs → Stp g H g' H' → Ok ℓ K g' H' n' → Dens K g' vs rs → Q vs H'
structure UOk (s : Option Addr) (U : OD → Addr → Prop) : Prop where
  lst : ∀ ds p, U (.lst ds) p
  ins : ∀ C fs fs' p, U (.ins C fs) p → U (.ins C fs') p
  new : ∀ C fs p, s ≠ some C → U (.ins C fs) p
  dic : ∀ ks vs p, U (.dic ks vs) p
abbrev W0 : WX := fun _ _ _ _ => False
def liftS (ℓ : Bool) (W : WX) (K : PySem.W.Frag) (d : DS) : TS := fun E σ H => ∃ U g0 H0 g n ε N, UOk N.slf U ∧ Rp ℓ K (fun d p => H0 p = none ∧ U d p) g H n σ ε ∧ Stp g0 H0 g H ∧ d N n ε ∧
  (∀ σ' g' H' n' ε', N.nx n' ε' → Rp ℓ K (fun d p => H0 p = none ∧ U d p) g' H' n' σ' ε' → Stp g0 H0 g' H' → E.nx σ' H') ∧
  (∀ σ' g' H' n' ε', N.bk n' ε' → Rp ℓ K (fun d p => H0 p = none ∧ U d p) g' H' n' σ' ε' → Stp g0 H0 g' H' → E.bk σ' H') ∧
  (∀ σ' g' H' n' ε', N.ct n' ε' → Rp ℓ K (fun d p => H0 p = none ∧ U d p) g' H' n' σ' ε' → Stp g0 H0 g' H' → E.ct σ' H') ∧
  (∀ v g' H' n' r, N.rt n' r → Stp g0 H0 g' H' → Ok ℓ K g' H' n' → Den K g' v r → E.rt v H') ∧
  (∀ v σ' g' H' n' ε' r, N.ret n' ε' r → Rp ℓ K (fun d p => H0 p = none ∧ U d p) g' H' n' σ' ε' → Stp g0 H0 g' H' → Den K g' v r → E.rt v H') ∧
  (∀ σ' g' H' n' ε' i p, N.rs n' ε' i → Rp ℓ K (fun d p => H0 p = none ∧ U d p) g' H' n' σ' ε' → Stp g0 H0 g' H' → σ'[i]? = some (some (.ref p)) → E.rt (.ref p) H') ∧
  (∀ σ' g' H' n' ε' C dx r v, N.xc n' ε' C r → Rp ℓ K (fun d p => H0 p = none ∧ U d p) g' H' n' σ' ε' → Stp g0 H0 g' H' → g'.G dx = some (.xd [("value", v)]) → Den K g' v r → W (.ref C) (some dx) σ' H')
section
variable {X : Cx} {e : Expr} {es : List Expr} {st : Stmt} {sts : List Stmt}
theorem pe_w {t t' : TE} (h : PE X e t) (w : ∀ σ H Q, t' σ H Q → t σ H Q) : PE X e t' := ⟨fun pins s σ H Q I q => h.run pins s σ H Q I (w σ H Q q)⟩
theorem pt_w {t t' : TT} (h : PT X e t) (w : ∀ σ H Q, t' σ H Q → t σ H Q) : PT X e t' := ⟨fun pins s σ H Q I q => h.run pins s σ H Q I (w σ H Q q)⟩
theorem pw_w {t t' : TT} (h : PW X e t) (w : ∀ σ H Q, t' σ H Q → t σ H Q) : PW X e t' := ⟨fun wh pins s σ H Q I q => h.run wh pins s σ H Q I (w σ H Q q)⟩
theorem pa_w {t t' : TA} (h : PA X es t) (w : ∀ σ H Q, t' σ H Q → t σ H Q) : PA X es t' := ⟨fun pos pins s σ H Q I q => h.run pos pins s σ H Q I (w σ H Q q)⟩
theorem ps_w {t t' : TS} (h : PS X st t) (w : ∀ E σ H, t' E σ H → t E σ H) : PS X st t' := ⟨fun pins s σ H E I q => h.run pins s σ H E I (w E σ H q)⟩
theorem pss_w {t t' : TS} (h : PSs X sts t) (w : ∀ E σ H, t' E σ H → t E σ H) : PSs X sts t' := ⟨fun pins s σ H E I q => h.run pins s σ H E I (w E σ H q)⟩
end
def Fin (ℓ : Bool) (K : PySem.W.Frag) (g : Gh) (H : Hp) (n : Nat) (P : D → Prop) (Q : VK) : Prop := ∀ v g' H' r, P r → Stp g H g' H' → Ok ℓ K g' H' n → Den K g' v r → Q v H'
section
variable {K : PySem.W.Frag} {g : Gh} {H : Hp} {n : Nat} {P : D → Prop} {Q : VK}
theorem Fin.flat (f : Fin ℓ K g H n P Q) (ok : Ok ℓ K g H n) {v : V} {d : D} (p : P d) (h : Den K g v d) : Q v H := f v g H d p (Stp.refl g H) ok h
theorem Fin.newL (f : Fin ℓ K g H n P Q) (ok : Ok ℓ K g H n) {vs : List V} {ds : List D} (p : P (.lst ds)) (h : Dens K g vs ds) {a : Addr} (ha : H a = none) : Q (.ref a) (upd H a (.lst vs)) :=
  f _ _ _ _ p (Stp.add ok ha) (ok.add ha) (.lst Gh.at (h.mono (Stp.add ok ha).ext))
theorem Fin.newT (f : Fin ℓ K g H n P Q) (ok : Ok ℓ K g H n) {vs : List V} {ds : List D} (p : P (.tup ds)) (h : Dens K g vs ds) {a : Addr} (ha : H a = none) : Q (.ref a) (upd H a (.tup vs)) :=
  f _ _ _ _ p (Stp.add ok ha) (ok.add ha) (.tup (.inl Gh.at) (h.mono (Stp.add ok ha).ext))
end
theorem sz {n : Nat} (h : n ≤ 16777216) : n ≤ sizeLine := by
  rw [sizeLine_eq]
  exact h
def dVar (i : Nat) : DE := fun n ε P => match ε[i]? with
  | some (.val d) => P n d
  | _ => False
def dC (d : D) : DE := fun n _ P => P n d
section
variable {X : Cx} {pos : Pos}
theorem de_of {e : Expr} {t : TE} {d : DE} (h : PE X e t) (w : ∀ O g H n σ ε P Q, Rp ℓ X.K O g H n σ ε → d n ε P → (∀ v g' H' n' r, P n' r → Stp g H g' H' → Ok ℓ X.K g' H' n' → Den X.K g' v r → Q v H') → t σ H Q) : PE X e (liftE ℓ X.K d) :=
  pe_w h fun σ H Q ⟨O, g, n, ε, P, r, q, k⟩ => w O g H n σ ε P Q r q k
theorem de_var (i : Nat) {x : Str} (hN : X.N[i]? = some x := by rfl) (hv : Vis X.env.scope x := by first | exact Or.inl rfl | exact Or.inr (Or.inl rfl) | exact Or.inr (Or.inr rfl)) (hd : (x == ("__debug__" : Str)) = false := by decide)
    (hcd : (x == ("__classdict__" : Str)) = false := by decide) : PE X (.Name x pos) (liftE ℓ X.K (dVar i)) :=
  de_of (pe_var hN hv hd hcd) fun O g H n σ ε P Q r q k => by
    unfold dVar at q
    split at q
    · rename_i d e
      obtain ⟨v, e1, e2⟩ := r.sl i _ e
      exact ⟨v, e1, k v g H n d q (Stp.refl g H) r.ok e2⟩
    · exact q.elim
theorem de_c {e : Expr} {v : V} {d : D} (h : PE X e (tC v)) (hd : ∀ g, Den X.K g v d) : PE X e (liftE ℓ X.K (dC d)) :=
  de_of h fun O g H n σ ε P Q r q k => k v g H n d q (Stp.refl g H) r.ok (hd g)
theorem de_int {i : Int} {j : Nat} : PE X (.Constant (.int i) j pos) (liftE ℓ X.K (dC (.int i))) := de_c pe_int fun _ => .int i
theorem de_bl {i : Bool} {j : Nat} : PE X (.Constant (.bool i) j pos) (liftE ℓ X.K (dC (.bl i))) := de_c pe_bl fun _ => .bl i
theorem de_non {j : Nat} : PE X (.Constant .none j pos) (liftE ℓ X.K (dC .non)) := de_c pe_non fun _ => .non
theorem de_str (l : List Nat) {x : Str} {j : Nat} (h : x = ⟨l.toArray⟩ := by decide +kernel) : PE X (.Constant (.str x) j pos) (liftE ℓ X.K (dC (.str l))) := by
  subst h
  exact de_c pe_str fun _ => .str l
theorem de_gint {x : Str} {i : Int} (hg : Gl X x) (hm : ∃ t, X.mg x = some (.int i t)) (hd : (x == ("__debug__" : Str)) = false := by decide) : PE X (.Name x pos) (liftE ℓ X.K (dC (.int i))) := by
  obtain ⟨t, e⟩ := hm
  exact de_c (pe_glob (v := .int i) hg e ⟨t, rfl⟩ hd) fun _ => .int i
theorem de_gstr {x : Str} (l : List Nat) (hg : Gl X x) (hm : ∃ t, X.mg x = some (.str ⟨l.toArray⟩ t)) (hd : (x == ("__debug__" : Str)) = false := by decide) : PE X (.Name x pos) (liftE ℓ X.K (dC (.str l))) := by
  obtain ⟨t, e⟩ := hm
  exact de_c (pe_glob (v := .str ⟨l.toArray⟩) hg e ⟨t, rfl⟩ hd) fun _ => .str l
end
abbrev G2 := D → D → (D → Prop) → Prop
structure SOp (ℓ : Bool) (K : PySem.W.Frag) (r : R2) (go : G2) : Prop where
  ok : ∀ {g : Gh} {H : Hp} {n : Nat} {x y : V} {dx dy : D} {P : D → Prop} {Q : VK}, Ok ℓ K g H n → Den K g x dx → Den K g y dy → go dx dy P → Fin ℓ K g H n P Q → r x y H Q
def dOp (go : G2) (da db : DE) : DE := fun n ε P => da n ε fun n1 x => db n1 ε fun n2 y => go x y (P n2)
theorem two_ok {K : PySem.W.Frag} {da db : DE} {σ : L2.St} {H : Hp} {O : OD → Addr → Prop} {g : Gh} {n : Nat} {ε : Ev} {R : Nat → D → D → Prop} {S : V → V → Hp → Prop} (r : Rp ℓ K O g H n σ ε) (q : da n ε fun n1 x => db n1 ε fun n2 y => R n2 x y)
    (k : ∀ x y g' H' n' dx dy, R n' dx dy → Stp g H g' H' → Ok ℓ K g' H' n' → Den K g' x dx → Den K g' y dy → S x y H') : liftE ℓ K da σ H fun x H1 => liftE ℓ K db σ H1 fun y H2 => S x y H2 :=
  ⟨O, g, n, ε, _, r, q, fun v1 g1 H1 n1 d1 q1 s1 o1 e1 => ⟨O, g1, n1, ε, _, r.step s1 o1, q1, fun v2 g2 H2 n2 d2 q2 s2 o2 e2 => k v1 v2 g2 H2 n2 d1 d2 q2 (s1.trans s2) o2 (e1.mono s2.ext) e2⟩⟩
section
variable {X : Cx} {pos : Pos} {a b c : Expr} {da db dc : DE}
theorem Fin.of {K : PySem.W.Frag} {g g' : Gh} {H H' : Hp} {n' : Nat} {P : Nat → D → Prop} {Q : VK} (k : ∀ v g' H' n' r, P n' r → Stp g H g' H' → Ok ℓ K g' H' n' → Den K g' v r → Q v H') (s : Stp g H g' H') : Fin ℓ K g' H' n' (P n') Q :=
  fun v g2 H2 r p s2 o2 e2 => k v g2 H2 n' r p (s.trans s2) o2 e2
theorem de_op {op : Operator} {r : R2} {go : G2} (ho : OpR X (binaryOp op) r) (hs : SOp ℓ X.K r go) (ha : PE X a (liftE ℓ X.K da)) (hb : PE X b (liftE ℓ X.K db)) : PE X (.BinOp a op b pos) (liftE ℓ X.K (dOp go da db)) :=
  de_of (pe_op ho ha hb) fun O g H n σ ε P Q r q k => two_ok r q fun x y g' H' n' dx dy q2 s o e1 e2 => hs.ok o e1 e2 q2 (Fin.of k s)
theorem de_cmp {op : CmpOp} {r : R2} {go : G2} (ho : OpR X (compareOp op) r) (hs : SOp ℓ X.K r go) (ha : PE X a (liftE ℓ X.K da)) (hb : PE X b (liftE ℓ X.K db)) (hm : behindInMarks op b = false := by first | exact nomark _ | rfl) : PE X (.Compare a [op] [b] pos) (liftE ℓ X.K (dOp go da db)) :=
  de_of (pe_cmpR ho ha hb hm) fun O g H n σ ε P Q r q k => two_ok r q fun x y g' H' n' dx dy q2 s o e1 e2 => hs.ok o e1 e2 q2 (Fin.of k s)
def dTB (d : DE) : DT := fun n ε P => d n ε fun n' x => match x with
  | .bl b => P n' b
  | _ => False
theorem dtb_ok {K : PySem.W.Frag} {O : OD → Addr → Prop} {g : Gh} {H : Hp} {n : Nat} {σ : L2.St} {ε : Ev} {d : DE} {P : Nat → Bool → Prop} {Q : Bool → Hp → Prop} (r : Rp ℓ K O g H n σ ε) (q : dTB d n ε P) (k : ∀ b g' H' n', P n' b → Stp g H g' H' → Ok ℓ K g' H' n' → Q b H') :
    liftE ℓ K d σ H fun x H' => ∃ k, x = .bl k ∧ Q k H' :=
  ⟨O, g, n, ε, _, r, q, fun v g' H' n' x q s o e => by
    cases x with
    | bl b =>
      cases e
      exact ⟨b, rfl, k b g' H' n' q s o⟩
    | _ => exact q.elim⟩
theorem dt_cmp {op : CmpOp} {r : R2} {go : G2} (ho : OpR X (compareOp op) r) (hs : SOp ℓ X.K r go) (ha : PE X a (liftE ℓ X.K da)) (hb : PE X b (liftE ℓ X.K db)) (hm : behindInMarks op b = false := by first | exact nomark _ | rfl) : PT X (.Compare a [op] [b] pos) (liftT ℓ X.K (dTB (dOp go da db))) :=
  pt_w (pt_cmpR ho ha hb hm) fun σ H Q ⟨O, g, n, ε, P, r, q, k⟩ => two_ok r q fun x y g' H' n' dx dy q2 s o e1 e2 => hs.ok o e1 e2 q2 (Fin.of (P := fun n' x => match x with
    | .bl b => P n' b
    | _ => False) (fun v g2 H2 n2 z p s2 o2 e3 => by
      cases z with
      | bl b =>
        cases e3
        exact ⟨b, rfl, k b g2 H2 n2 p s2 o2⟩
      | _ => exact p.elim) s)
theorem dt_val (ha : PE X a (liftE ℓ X.K da)) (he : ∀ whole, isTrue a X.env whole = (do let v ← whole; standAt a.pos; holding [v] (truthy v)) := by intro _; rfl) : PT X a (liftT ℓ X.K (dTB da)) :=
  pt_w (pt_val ha he) fun σ H Q ⟨O, g, n, ε, P, r, q, k⟩ => dtb_ok r q k
end
def dAnd (s t : DT) : DT := fun n ε P => s n ε fun n1 b => (b = true → t n1 ε P) ∧ (b = false → P n1 false)
def dOr (s t : DT) : DT := fun n ε P => s n ε fun n1 b => (b = true → P n1 true) ∧ (b = false → t n1 ε P)
def dNot (s : DT) : DT := fun n ε P => s n ε fun n1 b => P n1 (!b)
def dBV (s : DT) : DE := fun n ε P => s n ε fun n1 b => P n1 (.bl b)
section
variable {X : Cx} {pos : Pos} {a b c : Expr} {da db dc : DE} {s t : DT} {rest : List Expr}
theorem and_ok {K : PySem.W.Frag} : ∀ σ H Q, liftT ℓ K (dAnd s t) σ H Q → tAnd (liftT ℓ K s) (liftT ℓ K t) σ H Q := fun σ H Q ⟨O, g, n, ε, P, r, q, k⟩ =>
  ⟨O, g, n, ε, _, r, q, fun b g1 H1 n1 q1 s1 o1 => by
    cases b with
    | true => exact ⟨O, g1, n1, ε, P, r.step s1 o1, q1.1 rfl, fun b2 g2 H2 n2 q2 s2 o2 => k b2 g2 H2 n2 q2 (s1.trans s2) o2⟩
    | false => exact k false g1 H1 n1 (q1.2 rfl) s1 o1⟩
theorem or_ok {K : PySem.W.Frag} : ∀ σ H Q, liftT ℓ K (dOr s t) σ H Q → tOr (liftT ℓ K s) (liftT ℓ K t) σ H Q := fun σ H Q ⟨O, g, n, ε, P, r, q, k⟩ =>
  ⟨O, g, n, ε, _, r, q, fun b g1 H1 n1 q1 s1 o1 => by
    cases b with
    | false => exact ⟨O, g1, n1, ε, P, r.step s1 o1, q1.2 rfl, fun b2 g2 H2 n2 q2 s2 o2 => k b2 g2 H2 n2 q2 (s1.trans s2) o2⟩
    | true => exact k true g1 H1 n1 (q1.1 rfl) s1 o1⟩
theorem dw_and1 (ha : PT X a (liftT ℓ X.K s)) : PW X (.BoolOp .And [a] pos) (liftT ℓ X.K s) := pw_and1 ha
theorem dw_or1 (ha : PT X a (liftT ℓ X.K s)) : PW X (.BoolOp .Or [a] pos) (liftT ℓ X.K s) := pw_or1 ha
theorem dw_and (ha : PT X a (liftT ℓ X.K s)) (hb : PW X (.BoolOp .And (b :: rest) pos) (liftT ℓ X.K t)) : PW X (.BoolOp .And (a :: b :: rest) pos) (liftT ℓ X.K (dAnd s t)) := pw_w (pw_and ha hb) and_ok
theorem dw_or (ha : PT X a (liftT ℓ X.K s)) (hb : PW X (.BoolOp .Or (b :: rest) pos) (liftT ℓ X.K t)) : PW X (.BoolOp .Or (a :: b :: rest) pos) (liftT ℓ X.K (dOr s t)) := pw_w (pw_or ha hb) or_ok
theorem dt_w (h : PW X a (liftT ℓ X.K s)) : PT X a (liftT ℓ X.K s) := h.pt
theorem dt_not (ha : PT X a (liftT ℓ X.K s)) : PT X (.UnaryOp .Not a pos) (liftT ℓ X.K (dNot s)) := pt_w (pt_not ha) fun σ H Q ⟨O, g, n, ε, P, r, q, k⟩ =>
  ⟨O, g, n, ε, _, r, q, fun b g1 H1 n1 q1 s1 o1 => k (!b) g1 H1 n1 q1 s1 o1⟩
def dAndV (s : DT) (d : DE) : DE := fun n ε P => s n ε fun n1 b => (b = true → d n1 ε P) ∧ (b = false → P n1 (.bl false))
def dOrV (s : DT) (d : DE) : DE := fun n ε P => s n ε fun n1 b => (b = true → P n1 (.bl true)) ∧ (b = false → d n1 ε P)
theorem de_one {op : BoolOp} (h : PE X a (liftE ℓ X.K da)) : PE X (.BoolOp op [a] pos) (liftE ℓ X.K da) := pe_one h
theorem de_and (ha : PE X a (liftE ℓ X.K da)) (hb : PE X (.BoolOp .And (b :: rest) pos) (liftE ℓ X.K db)) : PE X (.BoolOp .And (a :: b :: rest) pos) (liftE ℓ X.K (dAndV (dTB da) db)) :=
  de_of (pe_and ha hb) fun O g H n σ ε P Q r q k => ⟨O, g, n, ε, _, r, q, fun v g1 H1 n1 x q1 s1 o1 e1 => by
    cases x with
    | bl c =>
      cases e1
      refine ⟨c, rfl, ?_⟩
      cases c with
      | true => exact ⟨O, g1, n1, ε, P, r.step s1 o1, q1.1 rfl, fun v2 g2 H2 n2 d2 q2 s2 o2 e2 => k v2 g2 H2 n2 d2 q2 (s1.trans s2) o2 e2⟩
      | false => exact k _ g1 H1 n1 _ (q1.2 rfl) s1 o1 (.bl false)
    | _ => exact q1.elim⟩
theorem de_or (ha : PE X a (liftE ℓ X.K da)) (hb : PE X (.BoolOp .Or (b :: rest) pos) (liftE ℓ X.K db)) : PE X (.BoolOp .Or (a :: b :: rest) pos) (liftE ℓ X.K (dOrV (dTB da) db)) :=
  de_of (pe_or ha hb) fun O g H n σ ε P Q r q k => ⟨O, g, n, ε, _, r, q, fun v g1 H1 n1 x q1 s1 o1 e1 => by
    cases x with
    | bl c =>
      cases e1
      refine ⟨c, rfl, ?_⟩
      cases c with
      | false => exact ⟨O, g1, n1, ε, P, r.step s1 o1, q1.2 rfl, fun v2 g2 H2 n2 d2 q2 s2 o2 e2 => k v2 g2 H2 n2 d2 q2 (s1.trans s2) o2 e2⟩
      | true => exact k _ g1 H1 n1 _ (q1.1 rfl) s1 o1 (.bl true)
    | _ => exact q1.elim⟩
def dIte (t : DT) (da db : DE) : DE := fun n ε P => t n ε fun n1 c => (c = true → da n1 ε P) ∧ (c = false → db n1 ε P)
theorem de_ite (hc : PT X c (liftT ℓ X.K t)) (ha : PE X a (liftE ℓ X.K da)) (hb : PE X b (liftE ℓ X.K db)) : PE X (.IfExp c a b pos) (liftE ℓ X.K (dIte t da db)) :=
  de_of (pe_ifExp hc ha hb) fun O g H n σ ε P Q r q k => ⟨O, g, n, ε, _, r, q, fun c g1 H1 n1 q1 s1 o1 => by
    cases c with
    | true => exact ⟨O, g1, n1, ε, P, r.step s1 o1, q1.1 rfl, fun v2 g2 H2 n2 d2 q2 s2 o2 e2 => k v2 g2 H2 n2 d2 q2 (s1.trans s2) o2 e2⟩
    | false => exact ⟨O, g1, n1, ε, P, r.step s1 o1, q1.2 rfl, fun v2 g2 H2 n2 d2 q2 s2 o2 e2 => k v2 g2 H2 n2 d2 q2 (s1.trans s2) o2 e2⟩⟩
def dChain (go go' : G2) (da db dc : DE) : DE := fun n ε P => da n ε fun n1 x => db n1 ε fun n2 y => go x y fun z => match z with
  | .bl k => (k = true → dc n2 ε fun n3 w => go' y w (P n3)) ∧ (k = false → P n2 (.bl false))
  | _ => False
end
def dNil : DA := fun n _ P => P n []
def dCons (d : DE) (t : DA) : DA := fun n ε P => d n ε fun n1 x => t n1 ε fun n2 xs => P n2 (x :: xs)
def dLst (t : DA) : DE := fun n ε P => t n ε fun n1 xs => xs.length ≤ 16777216 ∧ P n1 (.lst xs)
def dTup (t : DA) : DE := fun n ε P => t n ε fun n1 xs => xs.length ≤ 16777216 ∧ P n1 (.tup xs)
section
variable {X : Cx} {pos : Pos} {e : Expr} {es : List Expr} {d : DE} {t : DA}
theorem da_nil : PA X [] (liftA ℓ X.K dNil) := pa_w pa_nil fun σ H Q ⟨O, g, n, ε, P, r, q, k⟩ => k [] g H n [] q (Stp.refl g H) r.ok .nil
theorem da_cons (ha : PE X e (liftE ℓ X.K d)) (hr : PA X es (liftA ℓ X.K t)) (hs : starEach (e :: es) X.env = (false, eval e X.env) :: starEach es X.env := by rfl) : PA X (e :: es) (liftA ℓ X.K (dCons d t)) :=
  pa_w (pa_cons ha hr hs) fun σ H Q ⟨O, g, n, ε, P, r, q, k⟩ => ⟨O, g, n, ε, _, r, q, fun v1 g1 H1 n1 d1 q1 s1 o1 e1 => ⟨O, g1, n1, ε, _, r.step s1 o1, q1, fun vs g2 H2 n2 ds q2 s2 o2 e2 => k _ g2 H2 n2 _ q2 (s1.trans s2) o2 (.cons (e1.mono s2.ext) e2)⟩⟩
theorem de_lst (h : PA X es (liftA ℓ X.K t)) : PE X (.List es pos) (liftE ℓ X.K (dLst t)) :=
  de_of (pe_lst h) fun O g H n σ ε P Q r q k => ⟨O, g, n, ε, _, r, q, fun vs g1 H1 n1 ds q1 s1 o1 e1 => ⟨by rw [e1.length]; exact sz q1.1, fun p hp => k _ _ _ n1 _ q1.2 (s1.trans (Stp.add o1 hp)) (o1.add hp) (.lst Gh.at (e1.mono (Stp.add o1 hp).ext))⟩⟩
theorem de_tup {x1 : Nat} (h : PA X es (liftA ℓ X.K t)) : PE X (.Tuple es x1 pos) (liftE ℓ X.K (dTup t)) :=
  de_of (pe_tup h) fun O g H n σ ε P Q r q k => ⟨O, g, n, ε, _, r, q, fun vs g1 H1 n1 ds q1 s1 o1 e1 => ⟨by rw [e1.length]; exact sz q1.1, fun p hp => k _ _ _ n1 _ q1.2 (s1.trans (Stp.add o1 hp)) (o1.add hp) (.tup (.inl Gh.at) (e1.mono (Stp.add o1 hp).ext))⟩⟩
end
end Pd
namespace Pd
variable {ℓ : Bool}
open PySem L2
variable {W : WX}
abbrev DO := Nat → Ev → (Nat → List D → Prop) → Prop
def liftO (ℓ : Bool) (K : PySem.W.Frag) (d : DO) : TE := fun σ H Q => ∃ O g n ε P, Rp ℓ K O g H n σ ε ∧ d n ε P ∧ ∀ p vs g' H' n' ds, P n' ds → Stp g H g' H' → Ok ℓ K g' H' n' → H p = none → g'.G p = none → ¬ g'.pot p → H' p = some (.lst vs) → Dens K g' vs ds → Q (.ref p) H'
def dO (d : DO) : DE := fun n ε P => d n ε fun n' ds => P n' (.lst ds)
def dLstO (t : DA) : DO := fun n ε P => t n ε fun n1 xs => xs.length ≤ 16777216 ∧ P n1 xs
theorem new_own {K : PySem.W.Frag} {g : Gh} {H : Hp} {n : Nat} (ok : Ok ℓ K g H n) {p : Addr} (hp : H p = none) (o : HO) (ho : ∀ ps, o ≠ .tbl ps := by (intro ps z; cases z)) : Stp g H g (upd H p o) ∧ Ok ℓ K g (upd H p o) n ∧ g.G p = none ∧ ¬ g.pot p := by
  have h1 := ok.gnone hp
  have h2 := ok.npot hp
  refine ⟨⟨Ext.refl g, fun _ _ z => z, fun _ _ z => z, fun a u e _ => ?_, fun a d => ?_⟩, ⟨fun a u e => ?_, fun a z => ?_, ok.t.new hp ho, ok.cel.step (Ext.refl g) fun a C m => upd_ne fun q => (ok.cel.mem m).1 |> fun z => h2 (by rw [← q]; exact z)⟩, h1, h2⟩
  · rw [upd_ne (ne_of_none e hp)]
    exact e
  · rw [upd_ne fun q => d (by rw [q]; exact hp)]
    exact d
  · rw [upd_ne (ne_of_none e h1)]
    exact ok.sub a u e
  · rw [upd_ne fun q => h2 (by rw [← q]; exact z)]
    exact ok.pot a z
section
variable {X : Cx} {pos : Pos} {e : Expr} {es : List Expr} {d : DO} {t : DA}
theorem do_lst (h : PA X es (liftA ℓ X.K t)) : PE X (.List es pos) (liftO ℓ X.K (dLstO t)) :=
  pe_w (pe_lst h) fun σ H Q ⟨O, g, n, ε, P, r, q, k⟩ => ⟨O, g, n, ε, _, r, q, fun vs g1 H1 n1 ds q1 s1 o1 e1 => ⟨by rw [e1.length]; exact sz q1.1, fun p hp => by
    obtain ⟨z1, z2, z3, z4⟩ := new_own o1 hp (.lst vs)
    have hp0 : H p = none := by
      cases w : H p with
      | none => rfl
      | some u => exact absurd hp (s1.dom p (by rw [w]; exact Option.some_ne_none u))
    exact k p vs g1 _ n1 ds q1.2 (s1.trans z1) z2 hp0 z3 z4 upd_same e1⟩⟩
theorem de_own (h : PE X e (liftO ℓ X.K d)) : PE X e (liftE ℓ X.K (dO d)) :=
  pe_w h fun σ H Q ⟨O, g, n, ε, P, r, q, k⟩ => ⟨O, g, n, ε, _, r, q, fun p vs g' H' n' ds q1 s1 o1 h0 h1 h2 h3 h4 => by
    have ex : Ext g' (g'.add p (.lst vs)) := Ext.addOld h1
    have st : Stp g H (g'.add p (.lst vs)) H' := ⟨s1.ext.trans ex, fun a dd z => by
      show upd g'.G p (.lst vs) a = none
      rw [upd_ne fun w => dd (by rw [w]; exact h0)]
      exact s1.gro a dd z, s1.grp, s1.kep, s1.dom⟩
    exact k _ _ H' n' _ q1 st (o1.addOld h3 h2) (.lst Gh.at (h4.mono ex))⟩
end
abbrev DB := Nat → Ev → (Nat → List Sl → Prop) → Prop
inductive Sls (K : PySem.W.Frag) (g : Gh) (H0 H : Hp) : List V → List Sl → Prop
  | nil : Sls K g H0 H [] []
  | val {v : V} {d : D} {vs : List V} {ss : List Sl} : Den K g v d → Sls K g H0 H vs ss → Sls K g H0 H (v :: vs) (.val d :: ss)
  | own {p : Addr} {o : HO} {d : List D} {vs : List V} {ss : List Sl} : H0 p = none → g.G p = none → ¬ g.pot p → H p = some o → OwnH K g (.lst d) o → (∀ (i : Nat) (d' : OD), ss[i]? = some (.own d') → vs[i]? ≠ some (.ref p)) → Sls K g H0 H vs ss → Sls K g H0 H (.ref p :: vs) (.own (.lst d) :: ss)
def liftB (ℓ : Bool) (K : PySem.W.Frag) (d : DB) : TA := fun σ H Q => ∃ O g n ε P, Rp ℓ K O g H n σ ε ∧ d n ε P ∧ ∀ vs g' H' n' ss, P n' ss → Stp g H g' H' → Ok ℓ K g' H' n' → Sls K g' H H' vs ss → Q vs H'
section
variable {K : PySem.W.Frag} {g g' : Gh} {H0 H1 H H' : Hp}
theorem Sls.length : ∀ {vs : List V} {ss : List Sl}, Sls K g H0 H vs ss → vs.length = ss.length
  | _, _, .nil => rfl
  | _, _, .val _ t => congrArg Nat.succ (Sls.length t)
  | _, _, .own _ _ _ _ _ _ t => congrArg Nat.succ (Sls.length t)
theorem Sls.back (h : ∀ p, H1 p = none → H0 p = none) : ∀ {vs : List V} {ss : List Sl}, Sls K g H1 H vs ss → Sls K g H0 H vs ss
  | _, _, .nil => .nil
  | _, _, .val a t => .val a (Sls.back h t)
  | _, _, .own a b c d e f t => .own (h _ a) b c d e f (Sls.back h t)
theorem Sls.fresh : ∀ {vs : List V} {ss : List Sl} {i : Nat} {d : OD} {p : Addr}, Sls K g H0 H vs ss → ss[i]? = some (.own d) → vs[i]? = some (.ref p) → H0 p = none
  | _, _, _, _, _, .nil, e, _ => by simp at e
  | _, _, 0, _, _, .val _ _, e, _ => by simp at e
  | _, _, i + 1, _, _, .val _ t, e, q => Sls.fresh (i := i) t (by simpa using e) (by simpa using q)
  | _, _, 0, _, _, .own a _ _ _ _ _ _, _, q => by
    simp at q
    rw [← q]
    exact a
  | _, _, i + 1, _, _, .own _ _ _ _ _ _ t, e, q => Sls.fresh (i := i) t (by simpa using e) (by simpa using q)
end
theorem Stp.back0 {g g' : Gh} {H H' : Hp} (s : Stp g H g' H') {p : Addr} (h : H' p = none) : H p = none := by
  cases w : H p with
  | none => rfl
  | some u => exact absurd h (s.dom p (by rw [w]; exact Option.some_ne_none u))
def bNil : DB := fun n _ P => P n []
def bCons (d : DE) (t : DB) : DB := fun n ε P => d n ε fun n1 x => t n1 ε fun n2 xs => P n2 (.val x :: xs)
def bOwn (d : DO) (t : DB) : DB := fun n ε P => d n ε fun n1 x => t n1 ε fun n2 xs => P n2 (.own (.lst x) :: xs)
section
variable {X : Cx} {pos : Pos} {e : Expr} {es : List Expr} {d : DE} {o : DO} {t : DB}
theorem db_nil : PA X [] (liftB ℓ X.K bNil) := pa_w pa_nil fun σ H Q ⟨O, g, n, ε, P, r, q, k⟩ => k [] g H n [] q (Stp.refl g H) r.ok .nil
theorem db_cons (ha : PE X e (liftE ℓ X.K d)) (hr : PA X es (liftB ℓ X.K t)) (hs : starEach (e :: es) X.env = (false, eval e X.env) :: starEach es X.env := by rfl) : PA X (e :: es) (liftB ℓ X.K (bCons d t)) :=
  pa_w (pa_cons ha hr hs) fun σ H Q ⟨O, g, n, ε, P, r, q, k⟩ => ⟨O, g, n, ε, _, r, q, fun v1 g1 H1 n1 d1 q1 s1 o1 e1 => ⟨O, g1, n1, ε, _, r.step s1 o1, q1, fun vs g2 H2 n2 ds q2 s2 o2 e2 =>
    k _ g2 H2 n2 _ q2 (s1.trans s2) o2 (.val (e1.mono s2.ext) (e2.back fun p z => s1.back0 z))⟩⟩
theorem db_own (ha : PE X e (liftO ℓ X.K o)) (hr : PA X es (liftB ℓ X.K t)) (hs : starEach (e :: es) X.env = (false, eval e X.env) :: starEach es X.env := by rfl) : PA X (e :: es) (liftB ℓ X.K (bOwn o t)) :=
  pa_w (pa_cons ha hr hs) fun σ H Q ⟨O, g, n, ε, P, r, q, k⟩ => ⟨O, g, n, ε, _, r, q, fun p vs1 g1 H1 n1 d1 q1 s1 o1 h0 h1 h2 h3 h4 => ⟨O, g1, n1, ε, _, r.step s1 o1, q1, fun vs g2 H2 n2 ds q2 s2 o2 e2 => by
    have dn : H1 p ≠ none := by rw [h3]; exact Option.some_ne_none _
    refine k _ g2 H2 n2 _ q2 (s1.trans s2) o2 (.own h0 (s2.gro p dn h1) (fun z => h2 (s2.grp p dn z)) (s2.kep p _ h3 h2) ⟨vs1, rfl, h4.mono s2.ext⟩ (fun i d' z w => ?_) (e2.back fun p z => s1.back0 z))
    exact dn (e2.fresh z w)⟩⟩
end
def setV (σ : L2.St) : List Nat → List V → L2.St
  | [], _ => σ
  | _ :: _, [] => σ
  | i :: is, v :: vs => setV (σ.set i (some v)) is vs
def setL (ε : Ev) : List Nat → List Sl → Ev
  | [], _ => ε
  | _ :: _, [] => ε
  | i :: is, s :: ss => setL (ε.set i s) is ss
theorem setV_nil {σ : L2.St} {vs : List V} : setV σ [] vs = σ := by cases vs <;> rfl
theorem setL_nil {ε : Ev} {ss : List Sl} : setL ε [] ss = ε := by cases ss <;> rfl
section
variable {K : PySem.W.Frag} {O : OD → Addr → Prop} {g : Gh} {H Hb : Hp} {n : Nat}
theorem Rp.setOwn {σ : L2.St} {ε : Ev} (r : Rp ℓ K O g H n σ ε) {i : Nat} {p : Addr} {o : HO} {d : OD} (ho : O d p) (h1 : g.G p = none) (h2 : ¬ g.pot p) (h3 : H p = some o) (h4 : OwnH K g d o)
    (h5 : ∀ (j : Nat) (d' : OD), ε[j]? = some (.own d') → σ[j]? ≠ some (some (.ref p))) : Rp ℓ K O g H n (σ.set i (some (.ref p))) (ε.set i (.own d)) := by
  refine ⟨r.ok, by rw [List.length_set, List.length_set]; exact r.len, fun j s e => ?_, fun j k q ds es hjk e1 e2 e3 e4 => ?_⟩
  · by_cases q : i = j
    · subst q
      have hl : i < ε.length := by
        rcases Nat.lt_or_ge i ε.length with z | z
        · exact z
        · rw [List.getElem?_eq_none (by rw [List.length_set]; exact z)] at e
          cases e
      rw [List.getElem?_set_self hl] at e
      cases e
      exact ⟨p, o, List.getElem?_set_self (by rw [r.len]; exact hl), ho, h1, h2, h3, h4⟩
    · rw [List.getElem?_set_ne q] at e ⊢
      exact r.sl j s e
  · by_cases a : i = j
    · subst a
      have hk : i ≠ k := hjk
      rw [List.getElem?_set_ne hk] at e2 e4
      have hl : i < σ.length := by
        rcases Nat.lt_or_ge i σ.length with z | z
        · exact z
        · rw [List.getElem?_eq_none (by rw [List.length_set]; exact z)] at e3
          cases e3
      rw [List.getElem?_set_self hl] at e3
      cases e3
      exact h5 k _ e2 e4
    · rw [List.getElem?_set_ne a] at e1 e3
      by_cases b : i = k
      · subst b
        have hl : i < σ.length := by
          rcases Nat.lt_or_ge i σ.length with z | z
          · exact z
          · rw [List.getElem?_eq_none (by rw [List.length_set]; exact z)] at e4
            cases e4
        rw [List.getElem?_set_self hl] at e4
        cases e4
        exact h5 j _ e1 e3
      · rw [List.getElem?_set_ne b] at e2 e4
        exact r.dis j k q ds es hjk e1 e2 e3 e4
theorem Rp.mut {σ : L2.St} {ε : Ev} (r : Rp ℓ K O g H n σ ε) {i : Nat} {p : Addr} {o : HO} {d d' : OD} (e : ε[i]? = some (.own d)) (e1 : σ[i]? = some (some (.ref p))) (h4 : OwnH K g d' o) (hO : O d p → O d' p) :
    Rp ℓ K O g (upd H p o) n σ (ε.set i (.own d')) := by
  obtain ⟨p', o', e1', ho, h1, h2, h3, hl0⟩ := r.sl i _ e
  rw [e1] at e1'
  cases e1'
  have hl : i < ε.length := (List.getElem?_eq_some_iff.mp e).1
  refine ⟨⟨fun a u q => ?_, fun a z => ?_, r.ok.t.upd (fun u z => ?_) h4.lite.nt, r.ok.cel.step (Ext.refl g) fun a C m => upd_ne fun w => h2 (by rw [← w]; exact (r.ok.cel.mem m).1)⟩, by rw [List.length_set]; exact r.len, fun j s q => ?_, fun j k q ds es hjk e2 e3 e4 e5 => ?_⟩
  · rw [upd_ne (ne_of_none q h1)]
    exact r.ok.sub a u q
  · rw [upd_ne fun w => h2 (by rw [← w]; exact z)]
    exact r.ok.pot a z
  · rw [h3] at z
    cases z
    exact hl0.lite
  · by_cases w : i = j
    · subst w
      rw [List.getElem?_set_self hl] at q
      cases q
      exact ⟨p, o, e1, hO ho, h1, h2, upd_same, h4⟩
    · rw [List.getElem?_set_ne w] at q
      have z := r.sl j s q
      cases s with
      | no => trivial
      | val d => exact z
      | own d =>
        obtain ⟨p2, o2, w1, w2, w3, w4, w5, w6⟩ := z
        refine ⟨p2, o2, w1, w2, w3, w4, ?_, w6⟩
        rw [upd_ne fun z => r.dis i j p _ _ w e q e1 (by rw [← z]; exact w1)]
        exact w5
  · have back : ∀ {m : Nat} {f : OD}, (ε.set i (.own d'))[m]? = some (.own f) → ∃ f', ε[m]? = some (.own f') := fun {m f} z => by
      by_cases w : i = m
      · subst w
        exact ⟨d, e⟩
      · rw [List.getElem?_set_ne w] at z
        exact ⟨f, z⟩
    obtain ⟨f1, z1⟩ := back e2
    obtain ⟨f2, z2⟩ := back e3
    exact r.dis j k q f1 f2 hjk z1 z2 e4 e5
theorem Stp.mut {g0 : Gh} {H0 : Hp} (s : Stp g0 H0 g H) {p : Addr} {o : HO} (h : H0 p = none) : Stp g0 H0 g (upd H p o) :=
  ⟨s.ext, s.gro, s.grp, fun a u q z => by
    rw [upd_ne (ne_of_none q h)]
    exact s.kep a u q z, fun a q => by
    rw [upd_ne fun w => q (by rw [w]; exact h)]
    exact s.dom a q⟩
theorem Rp.setLs : ∀ (is : List Nat) {vs : List V} {ss : List Sl} {σ : L2.St} {ε : Ev}, Rp ℓ K O g H n σ ε → Sls K g Hb H vs ss → (∀ ds p, Hb p = none → O (.lst ds) p) →
    (∀ (i : Nat) (d : OD) (p : Addr) (j : Nat) (d' : OD), ε[i]? = some (.own d) → σ[i]? = some (some (.ref p)) → ss[j]? = some (.own d') → vs[j]? ≠ some (.ref p)) → Rp ℓ K O g H n (setV σ is vs) (setL ε is ss)
  | [], _, _, _, _, r, _, _, _ => by
    rw [setV_nil, setL_nil]
    exact r
  | i :: is, _, _, σ, ε, r, .nil, _, _ => r
  | i :: is, _, _, σ, ε, r, .val (v := v) (d := d) (vs := vs) (ss := ss) h t, hO, ap => by
    refine Rp.setLs is (r.set h) t hO fun i' d1 p j d' e1 e2 e3 => ?_
    by_cases w : i = i'
    · subst w
      rw [List.getElem?_set] at e1
      simp at e1
    · rw [List.getElem?_set_ne w] at e1 e2
      have z := ap i' d1 p (j + 1) d' e1 e2 (by simpa using e3)
      simpa using z
  | i :: is, _, _, σ, ε, r, .own (p := p) (o := o) (d := d) (vs := vs) (ss := ss) a b c e f nx t, hO, ap => by
    refine Rp.setLs is (r.setOwn (hO d p a) b c e f fun j d' z w => ?_) t hO fun i' d1 q j d' e1 e2 e3 => ?_
    · exact ap j d' p 0 (.lst d) z w rfl rfl
    · by_cases w : i = i'
      · subst w
        have hl : i < σ.length := by
          rcases Nat.lt_or_ge i σ.length with z | z
          · exact z
          · rw [List.getElem?_eq_none (by rw [List.length_set]; exact z)] at e2
            cases e2
        rw [List.getElem?_set_self hl] at e2
        cases e2
        exact nx j d' e3
      · rw [List.getElem?_set_ne w] at e1 e2
        have z := ap i' d1 q (j + 1) d' e1 e2 (by simpa using e3)
        simpa using z
end
def dSeq (s t : DS) : DS := fun N n ε => s { N with nx := t N } n ε
def dNx : DS := fun N n ε => N.nx n ε
def dBrk : DS := fun N n ε => N.bk n ε
def dNev : DS := fun _ _ _ => False
def dDrop (d : DE) : DS := fun N n ε => d n ε fun n1 _ => N.nx n1 ε
def dRet (d : DE) : DS := fun N n ε => d n ε N.rt
def dRetN : DS := fun N n _ => N.rt n .non
def dIf (t : DT) (a b : DS) : DS := fun N n ε => t n ε fun n1 c => (c = true → a N n1 ε) ∧ (c = false → b N n1 ε)
def dSet (i : Nat) (d : DE) : DS := fun N n ε => d n ε fun n1 r => N.nx n1 (ε.set i (.val r))
def dMul (is : List Nat) (t : DB) : DS := fun N n ε => t n ε fun n1 ss => ss.length = is.length ∧ N.nx n1 (setL ε is ss)
def dFrz (is : List Nat) (s : DS) : DS := fun N n ε => s N n (is.foldl frzE ε)
section
variable {X : Cx} {pos : Pos} {e c : Expr} {es : List Expr} {st : Stmt} {rest a b : List Stmt} {d : DE} {s t : DS} {u : DT} {tb : DB}
theorem dss_nil : PSs X [] (liftS ℓ W X.K dNx) := pss_w pss_nil fun E σ H ⟨U, g0, H0, g, n, ε, N, uo, r, s0, q, k1, k2, k3, k4⟩ => k1 σ g H n ε q r s0
theorem dss_cons (h1 : PS X st (liftS ℓ W X.K s)) (h2 : PSs X rest (liftS ℓ W X.K t)) : PSs X (st :: rest) (liftS ℓ W X.K (dSeq s t)) :=
  pss_w (pss_cons h1 h2) fun E σ H ⟨U, g0, H0, g, n, ε, N, uo, r, s0, q, k1, k2, k3, k4⟩ =>
    ⟨U, g0, H0, g, n, ε, { N with nx := t N }, uo, r, s0, q, fun σ' g' H' n' ε' q' r' s' => ⟨U, g0, H0, g', n', ε', N, uo, r', s', q', k1, k2, k3, k4⟩, k2, k3, k4⟩
theorem dss_one (h1 : PS X st (liftS ℓ W X.K s)) : PSs X [st] (liftS ℓ W X.K s) := pss_one h1
theorem ds_break : PS X (.Break pos) (liftS ℓ W X.K dBrk) := ps_w ps_break fun E σ H ⟨U, g0, H0, g, n, ε, N, uo, r, s0, q, k1, k2, k3, k4⟩ => k2 σ g H n ε q r s0
theorem ds_never : PS X st (liftS ℓ W X.K dNev) := ps_w ps_never fun E σ H ⟨U, g0, H0, g, n, ε, N, uo, r, s0, q, k1, k2, k3, k4⟩ => q
theorem ds_ret (he : PE X e (liftE ℓ X.K d)) : PS X (.Return (some e) pos) (liftS ℓ W X.K (dRet d)) :=
  ps_w (ps_ret he) fun E σ H ⟨U, g0, H0, g, n, ε, N, uo, r, s0, q, k1, k2, k3, k4⟩ => ⟨_, g, n, ε, _, r, q, fun v g1 H1 n1 x q1 s1 o1 e1 => k4.1 v g1 H1 n1 x q1 (s0.trans s1) o1 e1⟩
theorem ds_if (hc : PT X c (liftT ℓ X.K u)) (ha : PSs X a (liftS ℓ W X.K s)) (hb : PSs X b (liftS ℓ W X.K t)) : PS X (.If c a b pos) (liftS ℓ W X.K (dIf u s t)) :=
  ps_w (ps_if hc ha hb) fun E σ H ⟨U, g0, H0, g, n, ε, N, uo, r, s0, q, k1, k2, k3, k4⟩ => ⟨_, g, n, ε, _, r, q, fun b g1 H1 n1 q1 s1 o1 => by
    cases b with
    | true => exact ⟨U, g0, H0, g1, n1, ε, N, uo, r.step s1 o1, s0.trans s1, q1.1 rfl, k1, k2, k3, k4⟩
    | false => exact ⟨U, g0, H0, g1, n1, ε, N, uo, r.step s1 o1, s0.trans s1, q1.2 rfl, k1, k2, k3, k4⟩⟩
theorem ds_set {i : Nat} {x : Str} {pos' : Pos} (hN : X.N.Nodup) (hi : X.N[i]? = some x) (hx : Loc X.env.scope x) (he : PE X e (liftE ℓ X.K d)) (hs : swapsWith e (some (.Name x pos')) pos.line X.env = pure false := by rfl)
    (hf : X.fn x = true ∨ X.env.scope.names.lookup x = some .local := by first | exact .inl rfl | exact .inr rfl | assumption) : PS X (.Assign [.Name x pos'] e pos) (liftS ℓ W X.K (dSet i d)) :=
  ps_w (ps_set hN hi hx he hs hf) fun E σ H ⟨U, g0, H0, g, n, ε, N, uo, r, s0, q, k1, k2, k3, k4⟩ => ⟨_, g, n, ε, _, r, q, fun v g1 H1 n1 x q1 s1 o1 e1 => k1 _ g1 H1 n1 _ q1 ((r.step s1 o1).set e1) (s0.trans s1)⟩
def dSetO (i : Nat) (d : DO) : DS := fun N n ε => d n ε fun n1 ds => N.nx n1 (ε.set i (.own (.lst ds)))
theorem ds_setO {i : Nat} {x : Str} {pos' : Pos} {o : DO} (hN : X.N.Nodup) (hi : X.N[i]? = some x) (hx : Loc X.env.scope x) (he : PE X e (liftO ℓ X.K o)) (hs : swapsWith e (some (.Name x pos')) pos.line X.env = pure false := by rfl)
    (hf : X.fn x = true ∨ X.env.scope.names.lookup x = some .local := by first | exact .inl rfl | exact .inr rfl | assumption) : PS X (.Assign [.Name x pos'] e pos) (liftS ℓ W X.K (dSetO i o)) :=
  ps_w (ps_set hN hi hx he hs hf) fun E σ H ⟨U, g0, H0, g, n, ε, N, uo, r, s0, q, k1, k2, k3, k4⟩ => ⟨_, g, n, ε, _, r, q, fun p vs g1 H1 n1 ds q1 s1 o1 h0 h1 h2 h3 h4 =>
    k1 _ g1 H1 n1 _ q1 ((r.step s1 o1).setOwn ⟨s0.back0 h0, uo.lst _ _⟩ h1 h2 h3 ⟨vs, rfl, h4⟩ fun j d' z w => by
      obtain ⟨p', o', w1, _, _, _, w5, _⟩ := r.sl j _ z
      rw [w] at w1
      cases w1
      rw [h0] at w5
      cases w5) (s0.trans s1)⟩
theorem mul_ok {is : List Nat} {E : Ends} {σ : L2.St} {H : Hp} (h : liftS ℓ W X.K (dMul is tb) E σ H) : liftB ℓ X.K tb σ H fun vs H1 => vs.length = is.length ∧ E.nx (setV σ is vs) H1 := by
  obtain ⟨U, g0, H0, g, n, ε, N, uo, r, s0, q, k1, k2, k3, k4⟩ := h
  refine ⟨_, g, n, ε, _, r, q, fun vs g1 H1 n1 ss q1 s1 o1 e1 => ⟨by rw [e1.length]; exact q1.1, k1 _ g1 H1 n1 _ q1.2 ((r.step s1 o1).setLs is e1 (fun ds p z => ⟨s0.back0 z, uo.lst _ _⟩) fun i d p j d' w1 w2 w3 w4 => ?_) (s0.trans s1)⟩⟩
  obtain ⟨p', o', x1, _, _, _, x5, _⟩ := r.sl i _ w1
  rw [w2] at x1
  cases x1
  rw [e1.fresh w3 w4] at x5
  cases x5
theorem dss_frz (is : List Nat) (h : PSs X rest (liftS ℓ W X.K s)) : PSs X rest (liftS ℓ W X.K (dFrz is s)) :=
  pss_w h fun E σ H ⟨U, g0, H0, g, n, ε, N, uo, r, s0, q, k1, k2, k3, k4⟩ => by
    have z : ∀ (is : List Nat) (g : Gh) (ε : Ev), Rp ℓ X.K (fun d p => H0 p = none ∧ U d p) g H n σ ε → Stp g0 H0 g H → ∃ g', Rp ℓ X.K (fun d p => H0 p = none ∧ U d p) g' H n σ (is.foldl frzE ε) ∧ Stp g0 H0 g' H := fun is => by
      induction is with
      | nil => exact fun g ε r s => ⟨g, r, s⟩
      | cons i is ih =>
        intro g ε r s
        obtain ⟨g1, s1, r1⟩ := r.freeze s i
        exact ih g1 _ r1 s1
    obtain ⟨g1, r1, s1⟩ := z is g ε r s0
    exact ⟨U, g0, H0, g1, n, _, N, uo, r1, s1, q, k1, k2, k3, k4⟩
end
end Pd
namespace Pd
variable {ℓ : Bool}
open PySem L2
variable {W : WX}
abbrev DG := D → Ev → (Ev → Prop) → Prop
abbrev DGs := List D → Ev → (Ev → Prop) → Prop
def gNm (i : Nat) : DG := fun d ε P => P (ε.set i (.val d))
def gsNil : DGs := fun ds ε P => match ds with
  | [] => P ε
  | _ :: _ => False
def gsCons (g : DG) (gs : DGs) : DGs := fun ds ε P => match ds with
  | [] => False
  | d :: ds => g d ε fun ε' => gs ds ε' P
def gTp (n : Nat) (gs : DGs) : DG := fun d ε P => match d with
  | .tup ds => ds.length = n ∧ gs ds ε P
  | .lst ds => ds.length = n ∧ gs ds ε P
  | .tupK ds => ds.length = n ∧ gs ds ε P
  | _ => False
def Only (ws : List Nat) (σ σ' : L2.St) : Prop := σ'.length = σ.length ∧ ∀ j, j ∉ ws → σ'[j]? = σ[j]?
theorem Only.refl (ws : List Nat) (σ : L2.St) : Only ws σ σ := ⟨rfl, fun _ _ => rfl⟩
theorem Only.trans {ws ws' : List Nat} {σ σ1 σ2 : L2.St} (a : Only ws σ σ1) (b : Only ws' σ1 σ2) : Only (ws ++ ws') σ σ2 :=
  ⟨b.1.trans a.1, fun j h => (b.2 j fun z => h (List.mem_append_right _ z)).trans (a.2 j fun z => h (List.mem_append_left _ z))⟩
theorem wipe_at (σ : L2.St) : ∀ (vs : List Nat) (j : Nat), (wipe σ vs)[j]? = if j ∈ vs ∧ j < σ.length then some none else σ[j]?
  | [], j => by simp [wipe]
  | v :: vs, j => by
    unfold wipe
    rw [List.getElem?_set]
    by_cases h : v = j
    · subst h
      rw [if_pos rfl, wipe_length]
      by_cases q : v < σ.length
      · rw [if_pos q, if_pos ⟨List.mem_cons_self, q⟩]
      · rw [if_neg q, if_neg fun z => q z.2, List.getElem?_eq_none (Nat.le_of_not_lt q)]
    · rw [if_neg h, wipe_at σ vs j]
      have e : (j ∈ v :: vs) ↔ j ∈ vs := ⟨fun z => (List.mem_cons.mp z).elim (fun z => absurd z.symm h) id, List.mem_cons_of_mem _⟩
      simp only [e]
theorem Only.wipe {ws vs : List Nat} {σ σ' : L2.St} (h : Only ws σ σ') (s : ∀ i ∈ ws, i ∈ vs) : wipe σ' vs = wipe σ vs := by
  apply List.ext_getElem?
  intro j
  rw [wipe_at, wipe_at, h.1]
  by_cases q : j ∈ vs
  · by_cases r : j < σ.length
    · rw [if_pos ⟨q, r⟩, if_pos ⟨q, r⟩]
    · rw [if_neg fun z => r z.2, if_neg fun z => r z.2, List.getElem?_eq_none (by rw [h.1]; exact Nat.le_of_not_lt r), List.getElem?_eq_none (Nat.le_of_not_lt r)]
  · rw [if_neg fun z => q z.1, if_neg fun z => q z.1]
    exact h.2 j fun z => q (s j z)
theorem wipe_idem (σ : L2.St) (vs : List Nat) : wipe (wipe σ vs) vs = wipe σ vs := by
  apply List.ext_getElem?
  intro j
  rw [wipe_at, wipe_at, wipe_length]
  by_cases q : j ∈ vs ∧ j < σ.length
  · rw [if_pos q, if_pos q]
  · rw [if_neg q, if_neg q]
def liftG (ℓ : Bool) (K : PySem.W.Frag) (ws : List Nat) (dg : DG) : TG := fun v σ H Q => ∃ O g n ε d P, Rp ℓ K O g H n σ ε ∧ Den K g v d ∧ dg d ε P ∧ ∀ σ' ε', P ε' → Rp ℓ K O g H n σ' ε' → Only ws σ σ' → Q σ' H
def liftGs (ℓ : Bool) (K : PySem.W.Frag) (ws : List Nat) (dg : DGs) : TGs := fun vs σ H Q => ∃ O g n ε ds P, Rp ℓ K O g H n σ ε ∧ Dens K g vs ds ∧ dg ds ε P ∧ ∀ σ' ε', P ε' → Rp ℓ K O g H n σ' ε' → Only ws σ σ' → Q σ' H
section
variable {X : Cx} {pos : Pos} {e : Expr} {es : List Expr} {ws ws' : List Nat} {dg : DG} {dgs : DGs}
theorem pg_w {t t' : TG} (h : PG X e t) (w : ∀ v σ H Q, t' v σ H Q → t v σ H Q) : PG X e t' := ⟨fun pins s σ H v u Q I r q => h.run pins s σ H v u Q I r (w v σ H Q q)⟩
theorem pgs_w {t t' : TGs} (h : PGs X es t) (w : ∀ v σ H Q, t' v σ H Q → t v σ H Q) : PGs X es t' := ⟨fun pins s σ H v u Q I r q => h.run pins s σ H v u Q I r (w v σ H Q q)⟩
theorem pg_or {t t' : TG} (h : PG X e t) (h' : PG X e t') : PG X e (fun v σ H Q => t v σ H Q ∨ t' v σ H Q) := ⟨fun pins s σ H v u Q I r q => q.elim (h.run pins s σ H v u Q I r) (h'.run pins s σ H v u Q I r)⟩
theorem dg_nm {i : Nat} {x : Str} (hN : X.N.Nodup) (hi : X.N[i]? = some x) (hx : Loc X.env.scope x) (hf : X.fn x = true ∨ X.env.scope.names.lookup x = some .local := by first | exact .inl rfl | exact .inr rfl | assumption) : PG X (.Name x pos) (liftG ℓ X.K [i] (gNm i)) :=
  pg_w (pg_name hN hi hx hf) fun v σ H Q ⟨O, g, n, ε, d, P, r, dd, q, k⟩ => k _ _ q (r.set dd) ⟨List.length_set, fun j h => List.getElem?_set_ne fun z => h (by rw [z]; exact List.mem_singleton.mpr rfl)⟩
theorem gs_nil : PGs X [] (liftGs ℓ X.K [] gsNil) :=
  pgs_w pgs_nil fun v σ H Q ⟨O, g, n, ε, d, P, r, dd, q, k⟩ => by
    cases dd with
    | nil => exact ⟨rfl, k _ _ q r (Only.refl _ _)⟩
    | cons _ _ => exact q.elim
theorem gs_cons (h1 : PG X e (liftG ℓ X.K ws dg)) (h2 : PGs X es (liftGs ℓ X.K ws' dgs)) (hs : (assignEach (e :: es) X.env).map (·.2) = assign e X.env :: (assignEach es X.env).map (·.2) := by rfl) : PGs X (e :: es) (liftGs ℓ X.K (ws ++ ws') (gsCons dg dgs)) :=
  pgs_w (pgs_cons h1 h2 hs) fun v σ H Q ⟨O, g, n, ε, d, P, r, dd, q, k⟩ => by
    cases dd with
    | nil => exact q.elim
    | cons d1 dt => exact ⟨_, _, rfl, O, g, n, ε, _, _, r, d1, q, fun σ1 ε1 q1 r1 o1 => ⟨O, g, n, ε1, _, P, r1, dt, q1, fun σ2 ε2 q2 r2 o2 => k σ2 ε2 q2 r2 (o1.trans o2)⟩⟩
theorem dg_tup {k n : Nat} (hc : X.calm = true) (h : PGs X es (liftGs ℓ X.K ws dgs)) (hn : (assignEach es X.env).length = n := by rfl) (hst : (assignEach es X.env).findIdx? (·.1) = none := by rfl) : PG X (.Tuple es k pos) (liftG ℓ X.K ws (gTp n dgs)) :=
  pg_w (pg_or (pg_tup hc h hn hst) (pg_unl hc h hn hst)) fun v σ H Q ⟨O, g, m, ε, d, P, r, dd, q, k⟩ => by
    cases dd with
    | tup h1 h2 => exact .inl ⟨_, _, rfl, Or.inl (h1.same r.ok.sub), h2.length.trans q.1, O, g, m, ε, _, P, r, h2, q.2, k⟩
    | lst h1 h2 => exact .inr ⟨_, _, rfl, SqL.of (r.ok.sub _ _ h1), h2.length.trans q.1, O, g, m, ε, _, P, r, h2, q.2, k⟩
    | tupK h1 h2 => exact .inl ⟨_, _, rfl, h1 _, h2.length.trans q.1, O, g, m, ε, _, P, r, h2, q.2, k⟩
    | _ => exact q.elim
end
def dAsg (d : DE) (dg : DG) : DS := fun N n ε => d n ε fun n1 r => dg r ε fun ε' => N.nx n1 ε'
section
variable {X : Cx} {pos : Pos} {e e2 e3 tg : Expr} {es ts : List Expr} {ws : List Nat} {dg : DG} {d : DE} {tb : DB}
theorem ds_asg (he : PE X e (liftE ℓ X.K d)) (hg : PG X tg (liftG ℓ X.K ws dg)) (hs : swapsWithSole [tg] e pos.line X.env = pure false := by rfl) (hw : swappedStores [tg] e X.env = pure none := by rfl)
    (h1 : (assignEach [tg] X.env).map (·.2) = [assign tg X.env] := by rfl) : PS X (.Assign [tg] e pos) (liftS ℓ W X.K (dAsg d dg)) :=
  ps_w (ps_asg he hg hs hw h1) fun E σ H ⟨U, g0, H0, g, n, ε, N, uo, r, s0, q, k1, k2, k3, k4⟩ => ⟨_, g, n, ε, _, r, q, fun v g1 H1 n1 x q1 s1 o1 e1 =>
    ⟨_, g1, n1, ε, x, _, r.step s1 o1, e1, q1, fun σ' ε' q2 r2 _ => k1 σ' g1 H1 n1 ε' q2 r2 (s0.trans s1)⟩⟩
theorem ds_par {i j : Nat} {x y : Str} {a b : Expr} {px py pt : Pos} {kt k2 : Nat} {pt2 : Pos} (hc : X.calm = true) (hN : X.N.Nodup) (hi : X.N[i]? = some x) (hj : X.N[j]? = some y) (hij : i ≠ j)
    (hx : X.env.scope.names.lookup x = some .local) (hy : X.env.scope.names.lookup y = some .local) (ha : PA X [a, b] (liftB ℓ X.K tb))
    (hw : swappedStores [.Tuple [.Name x px, .Name y py] kt pt] (.Tuple [a, b] k2 pt2) X.env = pure (some [x, y]) := by rfl)
    (hs : swapsWithSole [.Tuple [.Name x px, .Name y py] kt pt] (.Tuple [a, b] k2 pt2) pos.line X.env = pure false := by rfl) :
    PS X (.Assign [.Tuple [.Name x px, .Name y py] kt pt] (.Tuple [a, b] k2 pt2) pos) (liftS ℓ W X.K (dMul [i, j] tb)) :=
  ps_w (ps_par hc hN hi hj hij hx hy ha hw hs) fun E σ H h => by
    obtain ⟨O, g, n, ε, P, r, q, k⟩ := mul_ok h
    refine ⟨O, g, n, ε, P, r, q, fun vs g' H' n' ss a b c d => ?_⟩
    obtain ⟨h1, h2⟩ := k vs g' H' n' ss a b c d
    match vs, h1, h2 with
    | [v, w], _, h2 => exact ⟨v, w, rfl, h2⟩
def TgNm (X : Cx) : List Expr → List Nat → Prop
  | [], [] => True
  | t :: ts, i :: is => PG X t (gName i) ∧ (assignEach (t :: ts) X.env).map (·.2) = assign t X.env :: (assignEach ts X.env).map (·.2) ∧ TgNm X ts is
  | _, _ => False
def gsOf : List Nat → TGs
  | [] => gNil
  | i :: is => gCons (gName i) (gsOf is)
theorem tgNm_pgs : ∀ {ts : List Expr} {is : List Nat}, TgNm X ts is → PGs X ts (gsOf is)
  | [], [], _ => pgs_nil
  | _ :: _, _ :: _, ⟨h1, h2, h3⟩ => pgs_cons h1 (tgNm_pgs h3) h2
  | [], _ :: _, h => h.elim
  | _ :: _, [], h => h.elim
theorem gsOf_ok : ∀ {is : List Nat} {vs : List V} {σ : L2.St} {H : Hp} {Q : L2.St → Hp → Prop}, vs.length = is.length → Q (setV σ is vs) H → gsOf is vs σ H Q
  | [], [], _, _, _, _, q => ⟨rfl, q⟩
  | i :: is, v :: vs, _, _, _, h, q => ⟨v, vs, rfl, gsOf_ok (is := is) (Nat.succ.inj h) q⟩
theorem ds_mul {is : List Nat} {kt k2 : Nat} {pt pt2 : Pos} (hc : X.calm = true) (ha : PA X es (liftB ℓ X.K tb)) (ht : TgNm X ts is) (hn : (assignEach ts X.env).length = is.length := by rfl) (hst : (assignEach ts X.env).findIdx? (·.1) = none := by rfl) (hl : is.length ≤ 1000 := by decide)
    (hs : swapsWithSole [.Tuple ts kt pt] (.Tuple es k2 pt2) pos.line X.env = pure false := by rfl) (hw : swappedStores [.Tuple ts kt pt] (.Tuple es k2 pt2) X.env = pure none := by rfl)
    (h1 : (assignEach [.Tuple ts kt pt] X.env).map (·.2) = [assign (.Tuple ts kt pt) X.env] := by rfl) : PS X (.Assign [.Tuple ts kt pt] (.Tuple es k2 pt2) pos) (liftS ℓ W X.K (dMul is tb)) :=
  ps_w (ps_asg (pe_tup ha) (pg_tup hc (tgNm_pgs ht) hn hst) hs hw h1) fun E σ H h => by
    obtain ⟨U, g0, H0, g, n, ε, N, uo, r, s0, q, k1, k2, k3, k4⟩ := h
    refine ⟨_, g, n, ε, _, r, q, fun vs g1 H1 n1 ss q1 s1 o1 e1 => ⟨?_, fun p hp => ⟨p, vs, rfl, SqT.of upd_same, by rw [e1.length]; exact q1.1, gsOf_ok (by rw [e1.length]; exact q1.1) ?_⟩⟩⟩
    · rw [e1.length, q1.1]
      exact sz (Nat.le_trans hl (by decide))
    · obtain ⟨z1, z2, z3, z4⟩ := new_own o1 hp (.tup vs)
      have e2 : Sls X.K g1 H (upd H1 p (.tup vs)) vs ss := by
        have gen : ∀ {vs' : List V} {ss' : List Sl}, Sls X.K g1 H H1 vs' ss' → Sls X.K g1 H (upd H1 p (.tup vs)) vs' ss' := by
          intro vs' ss' z
          induction z with
          | nil => exact .nil
          | val a _ ih => exact .val a ih
          | own a b c d e f _ ih => exact .own a b c (by rw [upd_ne (ne_of_none d hp)]; exact d) e f ih
        exact gen e1
      refine k1 _ g1 _ n1 _ q1.2 (((r.step s1 o1).step z1 z2).setLs is e2 (fun ds p z => ⟨s0.back0 z, uo.lst _ _⟩) fun i d p j d' w1 w2 w3 w4 => ?_) ((s0.trans s1).trans z1)
      obtain ⟨p', o', x1, _, _, _, x5, _⟩ := r.sl i _ w1
      rw [w2] at x1
      cases x1
      rw [e1.fresh w3 w4] at x5
      cases x5
end
abbrev DI := Nat → Ev → (Nat → List D → Prop) → Prop
structure WalkD (ℓ : Bool) (K : PySem.W.Frag) (g : Gh) (J : It) (xs : List D) : Prop where
  go : ∀ i H, i < xs.length → Same g.G H → J.go i H
  stop : ∀ H, Same g.G H → J.stop xs.length H
  yld : ∀ i x H H' g1 n, i < xs.length → Ext g g1 → Ok ℓ K g1 H n → J.yld i H x H' → ∃ g2 d, xs[i]? = some d ∧ Stp g1 H g2 H' ∧ Ok ℓ K g2 H' n ∧ Den K g2 x d
def liftI (ℓ : Bool) (K : PySem.W.Frag) (di : DI) : TI := fun σ H R => ∃ O g n ε P, Rp ℓ K O g H n σ ε ∧ di n ε P ∧ ∀ J g' H' n' xs, P n' xs → Stp g H g' H' → Ok ℓ K g' H' n' → WalkD ℓ K g' J xs → R J H'
def forW (dg : DG) (b : DS) (N : DN) : List D → Nat → Ev → Prop
  | [], n, ε => N.nx n ε
  | x :: xs, n, ε => dg x ε fun ε' => b { N with nx := fun n' ε'' => forW dg b N xs n' ε'', ct := fun n' ε'' => forW dg b N xs n' ε'', bk := N.nx } n ε'
def dFor (di : DI) (dg : DG) (b : DS) : DS := fun N n ε => di n ε fun n1 xs => forW dg b N xs n1 ε
theorem snap {K : PySem.W.Frag} {U : OD → Addr → Prop} {g0 g : Gh} {H0 H : Hp} (s : Stp g0 H0 g H) : ∃ Hs : Hp, Stp g Hs g H ∧ (∀ n σ ε, Rp ℓ K (fun d p => H0 p = none ∧ U d p) g H n σ ε → Rp ℓ K (fun d p => Hs p = none ∧ U d p) g H n σ ε) ∧
    (∀ g' H', Stp g Hs g' H' → Stp g0 H0 g' H') ∧ (∀ g' H' n σ ε, Rp ℓ K (fun d p => Hs p = none ∧ U d p) g' H' n σ ε → Rp ℓ K (fun d p => H0 p = none ∧ U d p) g' H' n σ ε) := by
  classical
  have hs0 : ∀ a, H0 a ≠ none → (if H0 a = none ∧ g.G a = none ∧ ¬ g.pot a then none else H a) = H a := fun a h => if_neg fun z => h z.1
  refine ⟨fun a => if H0 a = none ∧ g.G a = none ∧ ¬ g.pot a then none else H a, ⟨Ext.refl g, fun _ _ z => z, fun _ _ z => z, fun a o e _ => ?_, fun a e => ?_⟩, fun n σ ε r => ⟨r.ok, r.len, fun i x e => ?_, r.dis⟩, fun g' H' s' => ⟨s.ext.trans s'.ext, fun a h q => ?_, fun a h q => ?_, fun a o h q => ?_, fun a h => ?_⟩, fun g' H' n σ ε r => ⟨r.ok, r.len, fun i x e => ?_, r.dis⟩⟩
  · have e2 : (if H0 a = none ∧ g.G a = none ∧ ¬ g.pot a then none else H a) = some o := e
    split at e2
    · cases e2
    · exact e2
  · intro z
    refine e ?_
    show (if H0 a = none ∧ g.G a = none ∧ ¬ g.pot a then none else H a) = none
    rw [z]
    split <;> rfl
  · have w := r.sl i x e
    cases x with
    | no => trivial
    | val d => exact w
    | own d =>
      obtain ⟨p, o, w1, w2, w3, w4, w5, w6⟩ := w
      exact ⟨p, o, w1, ⟨if_pos ⟨w2.1, w3, w4⟩, w2.2⟩, w3, w4, w5, w6⟩
  · exact s'.gro a (by rw [hs0 a h]; exact s.dom a h) (s.gro a h q)
  · exact s.grp a h (s'.grp a (by rw [hs0 a h]; exact s.dom a h) q)
  · exact s'.kep a o (by rw [hs0 a (by rw [h]; exact Option.some_ne_none o)]; exact s.kep a o h q) fun z => q (s.grp a (by rw [h]; exact Option.some_ne_none o) z)
  · exact s'.dom a (by rw [hs0 a h]; exact s.dom a h)
  · have w := r.sl i x e
    cases x with
    | no => trivial
    | val d => exact w
    | own d =>
      obtain ⟨p, o, w1, w2, w3, w4, w5, w6⟩ := w
      refine ⟨p, o, w1, ⟨?_, w2.2⟩, w3, w4, w5, w6⟩
      cases z : H0 p with
      | none => rfl
      | some u =>
        have zn : H0 p ≠ none := by rw [z]; exact Option.some_ne_none u
        have w2' : (if H0 p = none ∧ g.G p = none ∧ ¬ g.pot p then none else H p) = none := w2.1
        rw [hs0 p zn] at w2'
        exact absurd w2' (s.dom p zn)
section
variable {X : Cx} {pos : Pos} {e c tg iter : Expr} {body : List Stmt} {ws : List Nat} {dg : DG} {di : DI} {d : DE} {t : DT} {b : DS}
theorem ds_for (hp : PassesOwn (model X.prog X.w) X.A X.env X.xe) (hc : X.calm = true) (hi : PI X tg iter (liftI ℓ X.K di)) (hg : PG X tg (liftG ℓ X.K ws dg)) (hb : PSs X body (liftS ℓ W X.K b))
    (hs : ∀ x, foldedSetIterable iter X.env x = pure x := by intro _; rfl) : PS X (.For tg iter body [] pos) (liftS ℓ W X.K (dFor di dg b)) :=
  ps_w (ps_for hp hc hi hg hb hs) fun E σ H ⟨U, g0, H0, g, n, ε, N, uo, r, s0, q, k1, k2, k3, k4⟩ => by
    refine ⟨_, g, n, ε, _, r, q, fun J gI HI nI xs q1 s1 o1 wk => ?_⟩
    refine ⟨fun i m σ H => m = xs.length - i ∧ i ≤ xs.length ∧ ∃ g n ε, Rp ℓ X.K (fun d p => H0 p = none ∧ U d p) g H n σ ε ∧ Stp g0 H0 g H ∧ Ext gI g ∧ forW dg b N (xs.drop i) n ε, ⟨xs.length, by simp, Nat.zero_le _, gI, nI, ε, r.step s1 o1, s0.trans s1, Ext.refl _, by simpa using q1⟩, ?_⟩
    rintro i m σ H ⟨rfl, hi, g, n, ε, r, s, ex, fw⟩
    have sm : Same gI.G H := ex.G.trans r.ok.sub
    by_cases hlt : i < xs.length
    · refine .inr ⟨wk.go i H hlt sm, fun σ' H' => ∃ g n ε, Rp ℓ X.K (fun d p => H0 p = none ∧ U d p) g H' n σ' ε ∧ Stp g0 H0 g H' ∧ Ext gI g ∧ forW dg b N (xs.drop (i + 1)) n ε, fun σ' H' z => ⟨xs.length - (i + 1), by omega, rfl, hlt, z⟩, fun x H' y => ?_⟩
      obtain ⟨g2, dx, ed, s2, o2, e2⟩ := wk.yld i x H H' g n hlt ex r.ok y
      have el : xs.drop i = dx :: xs.drop (i + 1) := by
        rw [List.drop_eq_getElem_cons hlt]
        congr 1
        rw [List.getElem?_eq_getElem hlt] at ed
        exact Option.some.inj ed
      rw [el] at fw
      refine ⟨_, g2, n, ε, dx, _, r.step s2 o2, e2, fw, fun σ2 ε2 q2 r2 _ => ?_⟩
      have st2 := s.trans s2
      obtain ⟨Hs, a1, a2, a3, a4⟩ := snap (K := X.K) (U := U) st2
      have again : ∀ σ3 g3 H3 n3 ε3, forW dg b N (xs.drop (i + 1)) n3 ε3 → Rp ℓ X.K (fun d p => Hs p = none ∧ U d p) g3 H3 n3 σ3 ε3 → Stp g2 Hs g3 H3 → ∃ g n ε, Rp ℓ X.K (fun d p => H0 p = none ∧ U d p) g H3 n σ3 ε ∧ Stp g0 H0 g H3 ∧ Ext gI g ∧ forW dg b N (xs.drop (i + 1)) n ε :=
        fun σ3 g3 H3 n3 ε3 q3 r3 s3 => ⟨g3, n3, ε3, a4 _ _ _ _ _ r3, a3 _ _ s3, (ex.trans s2.ext).trans s3.ext, q3⟩
      exact ⟨U, g2, Hs, g2, n, ε2, { N with nx := fun n' ε'' => forW dg b N (xs.drop (i + 1)) n' ε'', ct := fun n' ε'' => forW dg b N (xs.drop (i + 1)) n' ε'', bk := N.nx }, uo, a2 _ _ _ r2, a1, q2, again, fun σ3 g3 H3 n3 ε3 q3 r3 s3 => k1 σ3 g3 H3 n3 ε3 q3 (a4 _ _ _ _ _ r3) (a3 _ _ s3), again, fun v g3 H3 n3 z q3 s3 o3 e3 => k4.1 v g3 H3 n3 z q3 (a3 _ _ s3) o3 e3, fun v σ3 g3 H3 n3 ε3 z q3 r3 s3 e3 => k4.2.1 v σ3 g3 H3 n3 ε3 z q3 (a4 _ _ _ _ _ r3) (a3 _ _ s3) e3, fun σ3 g3 H3 n3 ε3 j p q3 r3 s3 e3 => k4.2.2.1 σ3 g3 H3 n3 ε3 j p q3 (a4 _ _ _ _ _ r3) (a3 _ _ s3) e3, fun σ3 g3 H3 n3 ε3 C dx z v q3 r3 s3 e3 e4 => k4.2.2.2 σ3 g3 H3 n3 ε3 C dx z v q3 (a4 _ _ _ _ _ r3) (a3 _ _ s3) e3 e4⟩
    · have e : i = xs.length := by omega
      subst e
      rw [List.drop_length] at fw
      exact .inl ⟨wk.stop H sm, k1 σ g H n ε fw r s⟩
def compW (dg : DG) (t : DT) (d : DE) (ε : Ev) (P : Nat → List D → Prop) : List D → List D → Nat → Prop
  | [], acc, n => P n acc
  | x :: xs, acc, n => dg x ε fun ε' => t n ε' fun n1 k => (k = true → d n1 ε' fun n2 y => compW dg t d ε P xs (acc ++ [y]) n2) ∧ (k = false → compW dg t d ε P xs acc n1)
def dComp (di : DI) (dg : DG) (t : DT) (d : DE) (vs : List Nat) : DO := fun n ε P => di n ε fun n1 xs => xs.length ≤ 16777216 ∧ compW dg t d (wipeE ε vs) P xs [] n1
def dYes : DT := fun n _ P => P n true
variable {ifs : List Expr} {elt : Expr} {scope : Scope} {own : List (Str × Nat)} {wi : TI} {gg : TG} {tt : TT} {te : TE}
theorem dts_nil : PTs X [] (liftT ℓ X.K dYes) := ⟨fun pins s σ H Q I ⟨O, g, n, ε, P, r, q, k⟩ => (pts_nil (X := X)).run pins s σ H Q I (k true g H n q (Stp.refl g H) r.ok)⟩
theorem dts_one (h : PT X c (liftT ℓ X.K t)) : PTs X [c] (liftT ℓ X.K t) := pts_one h
theorem comp_ok {K : PySem.W.Frag} {vs : List Nat} (hv : ∀ i ∈ ws, i ∈ vs) : ∀ σ H Q, liftO ℓ K (dComp di dg t d vs) σ H Q → tLc (liftI ℓ K di) (liftG ℓ K ws dg) (liftT ℓ K t) (liftE ℓ K d) vs σ H Q := fun σ H Q ⟨O, g, n, ε, P, r, q, k⟩ => by
  refine ⟨O, g, n, ε, _, r, q, fun J gI HI nI xs q1 s1 o1 wk => ?_⟩
  obtain ⟨hz, q1⟩ := q1
  intro D hD
  have hz2 := sz hz
  obtain ⟨z1, z2, z3, z4⟩ := new_own o1 hD (.lst [])
  refine ⟨fun i m H => m = xs.length - i ∧ i ≤ xs.length ∧ ∃ g n acc vsL, Ok ℓ K g H n ∧ Stp gI HI g H ∧ g.G D = none ∧ ¬ g.pot D ∧ H D = some (.lst vsL) ∧ Dens K g vsL acc ∧ acc.length ≤ i ∧ compW dg t d (wipeE ε vs) P (xs.drop i) acc n,
    ⟨xs.length, by simp, Nat.zero_le _, gI, nI, [], [], z2, z1, z3, z4, upd_same, .nil, Nat.le_refl _, by simpa using q1⟩, ?_⟩
  rintro i m H ⟨rfl, hi, g, n, acc, vsL, o, s, h1, h2, h3, h4, h5, cw⟩
  have sm : Same gI.G H := s.ext.G.trans o.sub
  by_cases hlt : i < xs.length
  · refine .inr ⟨wk.go i H hlt sm, fun H' => ∃ g n acc vsL, Ok ℓ K g H' n ∧ Stp gI HI g H' ∧ g.G D = none ∧ ¬ g.pot D ∧ H' D = some (.lst vsL) ∧ Dens K g vsL acc ∧ acc.length ≤ i + 1 ∧ compW dg t d (wipeE ε vs) P (xs.drop (i + 1)) acc n, fun H' z => ⟨xs.length - (i + 1), by omega, rfl, hlt, z⟩, fun x H' y => ?_⟩
    obtain ⟨g2, dx, ed, s2, o2, e2⟩ := wk.yld i x H H' g n hlt s.ext o y
    have el : xs.drop i = dx :: xs.drop (i + 1) := by
      rw [List.drop_eq_getElem_cons hlt]
      congr 1
      rw [List.getElem?_eq_getElem hlt] at ed
      exact Option.some.inj ed
    rw [el] at cw
    have stI := s.trans s2
    have rw2 := ((r.step s1 o1).step stI o2).wipe vs
    refine ⟨O, g2, n, _, dx, _, rw2, e2, cw, fun σ2 ε2 q2 r2 on => ⟨by rw [on.wipe hv, wipe_idem], O, g2, n, ε2, _, r2, q2, fun b g3 H3 n3 q3 s3 o3 => ?_⟩⟩
    have s23 := s2.trans s3
    have dH : H D ≠ none := by rw [h3]; exact Option.some_ne_none _
    cases b with
    | true =>
      refine iteT ?_
      refine ⟨O, g3, n3, ε2, _, r2.step s3 o3, q3.1 rfl, fun v g4 H4 n4 y q4 s4 o4 e4 => ?_⟩
      have s24 := s23.trans s4
      have hD4 : H4 D = some (.lst vsL) := s24.kep D _ h3 h2
      have g4D : g4.G D = none := s24.gro D dH h1
      have p4D : ¬ g4.pot D := fun z => h2 (s24.grp D dH z)
      refine ⟨vsL, hD4, by rw [h4.length]; omega, g4, n4, acc ++ [y], vsL ++ [v], ⟨fun a u w => ?_, fun a z => ?_, o4.t.upd (fun u z => by rw [hD4] at z; cases z; exact .inl ⟨_, rfl⟩) (fun ps z => by cases z), o4.cel.upd p4D⟩, ?_, g4D, p4D, upd_same, (h4.mono s24.ext).append (.cons e4 .nil), by rw [List.length_append, List.length_singleton]; omega, q4⟩
      · rw [upd_ne (ne_of_none w g4D)]
        exact o4.sub a u w
      · rw [upd_ne fun w => p4D (by rw [← w]; exact z)]
        exact o4.pot a z
      · exact (s.trans s24).mut hD
    | false =>
      refine iteF ?_
      exact ⟨g3, n3, acc, vsL, o3, s.trans s23, s23.gro D dH h1, fun z => h2 (s23.grp D dH z), s23.kep D _ h3 h2, h4.mono s23.ext, Nat.le_succ_of_le h5, q3.2 rfl⟩
  · have e : i = xs.length := by omega
    subst e
    rw [List.drop_length] at cw
    exact .inl ⟨wk.stop H sm, k D vsL g H n acc cw (s1.trans s) o (s1.back0 hD) h1 h2 h3 h4⟩
theorem do_comp {vs : List Nat} (hc : X.calm = true) (hN : X.N.Nodup) (hi : PI X tg iter (liftI ℓ X.K di)) (ok : BlkOk X.N X.env.scope scope own) (hv : ∀ i ∈ ws, i ∈ vs)
    (hg : ∀ (s : Shared) (H : Hp) (C : Addr) (cl : List (Str × Addr)) (fp : List Addr), PG (X.blk s H scope (compEnvC scope cl C X.env) fp) tg (liftG ℓ X.K ws dg)) (ht : ∀ (s : Shared) (H : Hp) (C : Addr) (cl : List (Str × Addr)) (fp : List Addr), PTs (X.blk s H scope (compEnvC scope cl C X.env) fp) ifs (liftT ℓ X.K t))
    (he : ∀ (s : Shared) (H : Hp) (C : Addr) (cl : List (Str × Addr)) (fp : List Addr), PE (X.blk s H scope (compEnvC scope cl C X.env) fp) elt (liftE ℓ X.K d)) (hs : ∀ x, foldedSetIterable iter X.env x = pure x := by intro _; rfl) (hvs : own.map (·.2) = vs := by rfl) :
    PE X (.ListComp elt [⟨tg, iter, ifs, 0⟩] scope pos) (liftO ℓ X.K (dComp di dg t d vs)) := by
  subst hvs
  exact pe_w (pe_lc hc hN hi ok hg ht he hs) (comp_ok hv)
variable {i : Nat} {y : Str} {py spos : Pos}
theorem setLc_ok {K : PySem.W.Frag} {o : DO} : ∀ E σ H, liftS ℓ W K (dSet i (dO o)) E σ H → tAsg (liftO ℓ K o) (gName i) E σ H := fun E σ H ⟨U, g0, H0, g, n, ε, N, uo, r, s0, q, k1, k2, k3, k4⟩ =>
  ⟨_, g, n, ε, _, r, q, fun p vs g' H' n' ds q1 s1 o1 h0 h1 h2 h3 h4 => by
    have ex : Ext g' (g'.add p (.lst vs)) := Ext.addOld h1
    have st : Stp g H (g'.add p (.lst vs)) H' := ⟨s1.ext.trans ex, fun a dd z => by
      show upd g'.G p (.lst vs) a = none
      rw [upd_ne fun w => dd (by rw [w]; exact h0)]
      exact s1.gro a dd z, s1.grp, s1.kep, s1.dom⟩
    have ok2 := o1.addOld h3 h2
    exact k1 _ _ H' n' _ q1 ((r.step st ok2).set (.lst Gh.at (h4.mono ex))) (s0.trans st)⟩
theorem ps_setComp {vs : List Nat} (hc : X.calm = true) (hN : X.N.Nodup) (hy : X.N[i]? = some y) (hyl : X.env.scope.names.lookup y = some .local) (hsw : swapsWith (.ListComp elt [⟨tg, iter, ifs, 0⟩] scope pos) (some (.Name y py)) spos.line X.env = pure true)
    (hi : PI X tg iter (liftI ℓ X.K di)) (ok : BlkOk X.N X.env.scope scope own) (hv : ∀ i ∈ ws, i ∈ vs)
    (hg : ∀ (s : Shared) (H : Hp) (C : Addr) (cl : List (Str × Addr)) (fp : List Addr), PG (X.blk s H scope (compEnvC scope cl C X.env) fp) tg (liftG ℓ X.K ws dg)) (ht : ∀ (s : Shared) (H : Hp) (C : Addr) (cl : List (Str × Addr)) (fp : List Addr), PTs (X.blk s H scope (compEnvC scope cl C X.env) fp) ifs (liftT ℓ X.K t))
    (he : ∀ (s : Shared) (H : Hp) (C : Addr) (cl : List (Str × Addr)) (fp : List Addr), PE (X.blk s H scope (compEnvC scope cl C X.env) fp) elt (liftE ℓ X.K d)) (hs : ∀ x, foldedSetIterable iter X.env x = pure x := by intro _; rfl) (hvs : own.map (·.2) = vs := by rfl) :
    PS X (.Assign [.Name y py] (.ListComp elt [⟨tg, iter, ifs, 0⟩] scope pos) spos) (tAsg (liftO ℓ X.K (dComp di dg t d vs)) (gName i)) := by
  subst hvs
  exact ps_w (ps_setLc hc hN hy hyl hsw hi ok hg ht he hs) fun E σ H h => comp_ok hv σ H _ h
theorem ds_setComp {o : DO} (h : PS X (.Assign [.Name y py] e spos) (tAsg (liftO ℓ X.K o) (gName i))) : PS X (.Assign [.Name y py] e spos) (liftS ℓ W X.K (dSet i (dO o))) := ps_w h setLc_ok
end
end Pd
namespace Pd
variable {ℓ : Bool}
open PySem L2
variable {W : WX}
abbrev FD := List D → Nat → (Nat → D → Prop) → Prop
def liftF (ℓ : Bool) (K : PySem.W.Frag) (f : FD) : Sp := fun vs H Q _ => ∃ g n ds P, Ok ℓ K g H n ∧ Dens K g vs ds ∧ f ds n P ∧ ∀ v g' H' n' r, P n' r → Stp g H g' H' → Ok ℓ K g' H' n' → Den K g' v r → Q v H'
def envOf (N : Nat) (ds : List D) : Ev := ds.map Sl.val ++ List.replicate (N - ds.length) Sl.no
def dFn (N np : Nat) (b : DS) : FD := fun ds n P => ds.length = np ∧ b { nx := fun n _ => P n .non, rt := P } n (envOf N ds)
theorem envOf_at {N : Nat} {ds : List D} {i : Nat} {s : Sl} (h : (envOf N ds)[i]? = some s) : s = .no ∨ ∃ d, ds[i]? = some d ∧ s = .val d := by
  unfold envOf at h
  rw [List.getElem?_append] at h
  split at h
  · rw [List.getElem?_map] at h
    cases e : ds[i]? with
    | none =>
      rw [e] at h
      cases h
    | some d =>
      rw [e] at h
      cases h
      exact .inr ⟨d, rfl, rfl⟩
  · rw [List.getElem?_replicate] at h
    split at h
    · cases h
      exact .inl rfl
    · cases h
theorem start_at {names : List Str} {vs : List V} {i : Nat} {v : V} (h : vs[i]? = some v) : (L2.start names vs)[i]? = some (some v) := by
  unfold L2.start
  have hi : i < vs.length := (List.getElem?_eq_some_iff.mp h).1
  rw [List.getElem?_append_left (by rw [List.length_map]; exact hi), List.getElem?_map, h]
  rfl
theorem Rp.start {K : PySem.W.Frag} {O : OD → Addr → Prop} {g : Gh} {H : Hp} {n : Nat} {names : List Str} {vs : List V} {ds : List D} (ok : Ok ℓ K g H n) (h : Dens K g vs ds) : Rp ℓ K O g H n (L2.start names vs) (envOf names.length ds) := by
  refine ⟨ok, ?_, fun i s e => ?_, fun i j p d1 d2 _ e1 _ _ _ => ?_⟩
  · unfold L2.start envOf
    rw [List.length_append, List.length_append, List.length_map, List.length_map, List.length_replicate, List.length_replicate, h.length]
  · rcases envOf_at e with z | ⟨d, z, w⟩
    · rw [z]
      trivial
    · rw [w]
      obtain ⟨v, v1, v2⟩ := h.get z
      exact ⟨v, start_at v1, v2⟩
  · rcases envOf_at e1 with z | ⟨d, _, z⟩
    · cases z
    · cases z
theorem liftF_body {K : PySem.W.Frag} {b : DS} {names : List Str} {np : Nat} {vs : List V} {H : Hp} {Q : VK} {E : XK} (h : liftF ℓ K (dFn names.length np b) vs H Q E) : liftS ℓ W0 K b { nx := fun _ H' => Q .non H', rt := Q } (L2.start names vs) H := by
  obtain ⟨g, n, ds, P, ok, dd, ⟨_, q⟩, k⟩ := h
  exact ⟨fun _ _ => True, g, H, g, n, _, _, ⟨fun _ _ => trivial, fun _ _ _ _ _ => trivial, fun _ _ _ _ => trivial, fun _ _ _ => trivial⟩, Rp.start ok dd, Stp.refl g H, q, fun σ' g' H' n' ε' q' r' s' => k .non g' H' n' .non q' s' r'.ok .non, fun _ _ _ _ _ q' _ _ => q'.elim, fun _ _ _ _ _ q' _ _ => q'.elim, k, fun _ _ _ _ _ _ _ q' _ _ _ => q'.elim, fun _ _ _ _ _ _ _ q' _ _ _ => q'.elim, fun _ _ _ _ _ _ _ _ _ q' _ _ _ _ => q'.elim⟩
theorem liftF_len {K : PySem.W.Frag} {b : DS} {N np : Nat} {vs : List V} {H : Hp} {Q : VK} {E : XK} (h : liftF ℓ K (dFn N np b) vs H Q E) : vs.length = np := by
  obtain ⟨g, n, ds, P, ok, dd, ⟨q, _⟩, k⟩ := h
  rw [dd.length]
  exact q
theorem liftF_mono {K : PySem.W.Frag} {f f' : FD} (h : ∀ ds n P, f' ds n P → f ds n P) : ∀ vs H Q E, liftF ℓ K f' vs H Q E → liftF ℓ K f vs H Q E := fun vs H Q E ⟨g, n, ds, P, ok, dd, q, k⟩ => ⟨g, n, ds, P, ok, dd, h _ _ _ q, k⟩
structure FnG (P : Program) (w : World) (K : PySem.W.Frag) (mg : Str → Option Value) (base : Heap) (k : Nat) (f : Addr) (fd : FuncData) (ps : List Str) (sp : Sp) : Prop where
  len : ∀ vs H Q E, sp vs H Q E → vs.length = ps.length
  run : ∀ (A : Around) (outer : List Env) (s : Shared) (H : Hp) (args : Args) (us : List Value) (vs : List V) (Q : VK) (E : XK), Room k A → A.guards = some [] → Env0 P w K mg base A outer s H → BindsTo s fd args (ps.zip us) → Vals vs us → sp vs H Q E →
    codeAny (model P w) A (.call (.ref f) args) (CR CX0 outer P w H s Q E) s
section
variable {P : Program} {w : World} {K : PySem.W.Frag} {mg : Str → Option Value} {base : Heap} {k : Nat} {f : Addr} {fd : FuncData} {ps : List Str} {sp sp' : Sp}
theorem FnG.imp (F : FnG P w K mg base k f fd ps sp) (h : ∀ vs H Q E, sp' vs H Q E → sp vs H Q E) : FnG P w K mg base k f fd ps sp' :=
  ⟨fun vs H Q E q => F.len vs H Q E (h _ _ _ _ q), fun A outer s H args us vs Q E hr hg he hb hv hs => F.run A outer s H args us vs Q E hr hg he hb hv (h _ _ _ _ hs)⟩
theorem FnG.mono {j : Nat} (F : FnG P w K mg base j f fd ps sp) (h : j ≤ k) : FnG P w K mg base k f fd ps sp := ⟨F.len, fun A outer s H args us vs Q E hr => F.run A outer s H args us vs Q E (hr.mono h)⟩
theorem FnG.of (F : FnOk P w K mg base CX0 k f fd ps sp) : FnG P w K mg base k f fd ps sp := ⟨F.len, fun A outer s H args us vs Q E hr _ => F.run A outer s H args us vs Q E hr⟩
theorem FnG.mk' {x qual : Str} {params : Arguments} {body : List Stmt} {scope : Scope} {dvs : List V} {kws : List (Str × V)} {N : List Str} (F : FunD K x qual params body scope dvs kws f fd) (S : FnScope N ps scope) (len : ∀ vs H Q E, sp vs H Q E → vs.length = ps.length)
    (hb : ∀ (cdv : Value), cdv = fd.code → ∀ (A : Around) (outer : List Env) (s : Shared) (H : Hp) (vs : List V) (Q : VK) (E : XK), Room k (A.deeper (PyProof.Rows.envOfC qual scope s.heap.objs.size f cdv)) → A.guards = some [] → sp vs H Q E →
      ∃ t, PSs (cxOf CX0 P w K mg base N qual scope f cdv A outer s H E) body t ∧ t { nx := fun _ H' => Q .non H', rt := Q } (L2.start N vs) H) : FnG P w K mg base (k + 1) f fd ps sp := by
  obtain ⟨oc, od, dV, kV, doc, pm, an, cdv, ct, osl, rfl, lk, hcd, _, _⟩ := F.ex
  refine ⟨len, ?_⟩
  intro A outer s H args us vs Q E room guards e0 hbind rel hsp
  have hlen := len _ _ _ _ hsp
  have kept : ∀ b o, base.get? b = some o → s.heap.get? b = some o := fun b o e => (e0.bs b o e).1
  have hK : K.In s.heap := e0.mod.kin.keeps kept
  refine codeAny_call_function room.depth (hK _ _ lk) rfl S.co S.gen rfl (PySem.W.codeRec_of hK hcd) (hbind _ _ _ _ (wpAny_newFunctionEnv_cells S.kind (fun y hy => ?_) fun env he s1 x => ?_))
  · rcases S.par y.1 (List.of_mem_zip (a := y.1) (b := y.2) hy).1 with z | z
    · exact .inl z
    · exact .inr ⟨z, PySem.W.cellsFrom_some _ _ _ (.inl z)⟩
  · subst he
    refine ⟨(e0.mod.nolimit.keeps kept).keeps x.toInCall.keep, codeAny_func ?_⟩
    obtain ⟨t, ht, ok⟩ := hb cdv rfl A outer s H vs Q E (room.deeper _) guards hsp
    refine wpAny_mono (ht.run [] s1 (L2.start N vs) H _ (inv_start S room.hd e0 hlen rel x) ok) (fun fl s' z => ?_) fun _ _ z => z
    cases fl with
    | next =>
      obtain ⟨σ', H', J, q⟩ := z
      exact ⟨.non, H', J.os, J.bare, J.base, J.hok, rfl, q⟩
    | ret u =>
      obtain ⟨v, σ', H', J, r, q⟩ := z
      exact ⟨v, H', J.os, J.bare, J.base, J.hok, r, q⟩
    | brk =>
      obtain ⟨_, _, _, q⟩ := z
      exact False.elim q
    | cont =>
      obtain ⟨_, _, _, q⟩ := z
      exact False.elim q
end
section
variable {P : Program} {w : World} {K : PySem.W.Frag} {mg : Str → Option Value} {base : Heap} {k : Nat} {f : Addr} {fd : FuncData} {ps : List Str}
theorem fn_ok {x qual : Str} {params : Arguments} {body : List Stmt} {scope : Scope} {dvs : List V} {kws : List (Str × V)} {N : List Str} {b : DS} {sp : FD} (F : FunD K x qual params body scope dvs kws f fd) (S : FnScope N ps scope)
    (hb : ∀ (cdv : Value) (A : Around) (outer : List Env) (s : Shared) (H : Hp) (E : XK), Room k (A.deeper (PyProof.Rows.envOfC qual scope s.heap.objs.size f cdv)) → PSs (cxOf CX0 P w K mg base N qual scope f cdv A outer s H E).nox body (liftS ℓ W0 K b))
    (hs : ∀ ds n Q, sp ds n Q → dFn N.length ps.length b ds n Q) : FnOk P w K mg base CX0 (k + 1) f fd ps (liftF ℓ K sp) :=
  (F.ok (sp := liftF ℓ K (dFn N.length ps.length b)) S (fun vs H Q E h => liftF_len h) fun cdv A outer s H vs Q E hr h => ⟨_, PSs.nox (hb cdv A outer s H E hr), liftF_body h⟩).imp (liftF_mono hs)
theorem fnG_ok {x qual : Str} {params : Arguments} {body : List Stmt} {scope : Scope} {dvs : List V} {kws : List (Str × V)} {N : List Str} {b : DS} {sp : FD} (F : FunD K x qual params body scope dvs kws f fd) (S : FnScope N ps scope)
    (hb : ∀ (cdv : Value), cdv = fd.code → ∀ (A : Around) (outer : List Env) (s : Shared) (H : Hp) (E : XK), Room k (A.deeper (PyProof.Rows.envOfC qual scope s.heap.objs.size f cdv)) → (A.deeper (PyProof.Rows.envOfC qual scope s.heap.objs.size f cdv)).guards = some [] → PSs (cxOf CX0 P w K mg base N qual scope f cdv A outer s H E).nox body (liftS ℓ W0 K b))
    (hs : ∀ ds n Q, sp ds n Q → dFn N.length ps.length b ds n Q) : FnG P w K mg base (k + 1) f fd ps (liftF ℓ K sp) :=
  (FnG.mk' (sp := liftF ℓ K (dFn N.length ps.length b)) F S (fun vs H Q E h => liftF_len h) fun cdv hcd A outer s H vs Q E hr hg h => ⟨_, PSs.nox (hb cdv hcd A outer s H E hr hg), liftF_body h⟩).imp (liftF_mono hs)
end
def dCall (f : FD) (dd : List D) (t : DA) : DE := fun n ε P => t n ε fun n1 ds => f (ds ++ dd) n1 P
section
variable {X : Cx} {k : Nat} {f C : Addr} {fd : FuncData} {ps : List Str} {sp : FD} {dvs : List V} {dd : List D} {ds : List Value} {E : XK} {x m : Str} {p pos apos : Pos} {e o : Expr} {es : List Expr} {da : DE} {t : DA}
theorem call_ok {K : PySem.W.Frag} (hd : ∀ g, Dens K g dvs dd) : ∀ σ H Q, liftE ℓ K (dCall sp dd t) σ H Q → tCall (liftF ℓ K sp) dvs E (liftA ℓ K t) σ H Q := fun σ H Q ⟨O, g, n, ε, P, r, q, kk⟩ =>
  ⟨O, g, n, ε, _, r, q, fun vs g1 H1 n1 d1 q1 s1 o1 e1 => ⟨g1, n1, d1 ++ dd, P, o1, e1.append (hd g1), q1, fun v g2 H2 n2 z q2 s2 o2 e2 => kk v g2 H2 n2 z q2 (s1.trans s2) o2 e2⟩⟩
theorem de_call (F : FnOk X.prog X.w X.K X.mg X.base CX0 k f fd ps (liftF ℓ X.K sp)) (hr : Room k X.A) (hg : Gl X x) (hm : X.mg x = some (.ref f)) (hk : PySem.W.keepIn X.K (.ref f) = true) (hb : Binds X.K fd ps ds) (hv : Vals dvs ds) (hd : ∀ g, Dens X.K g dvs dd)
    (ha : PA X (e :: es) (liftA ℓ X.K t)) (hdb : (x == ("__debug__" : Str)) = false := by decide) (he : starEach (e :: es) X.env = (false, eval e X.env) :: starEach es X.env := by rfl) (hpl : (backTo pos (starEach es X.env)).any (·.1) = false := by rfl) :
    PE X (.Call (.Name x p) (e :: es) [] pos) (liftE ℓ X.K (dCall sp dd t)) := pe_w (pe_call F hr hg hm hk hb hv pass0 ha hdb he hpl) (call_ok (E := E0) hd)
theorem Flds.lookup {K : PySem.W.Frag} {g : Gh} {f : Str} : ∀ {fvs : List (Str × V)} {fs : List (Str × D)} {d : D}, Flds K g fvs fs → fs.lookup f = some d → ∃ v, fvs.lookup f = some v ∧ Den K g v d
  | _, _, _, .nil, e => by simp at e
  | _, _, _, .cons (x := x) (v := v) (d := d') (vs := vs) (ds := ds) h t, e => by
    rw [List.lookup_cons] at e ⊢
    cases z : f == x with
    | true =>
      rw [z] at e
      cases e
      exact ⟨v, rfl, h⟩
    | false =>
      rw [z] at e
      exact Flds.lookup t e
theorem Flds.lookupN {K : PySem.W.Frag} {g : Gh} {f : Str} : ∀ {fvs : List (Str × V)} {fs : List (Str × D)}, Flds K g fvs fs → fs.lookup f = none → fvs.lookup f = none
  | _, _, .nil, _ => rfl
  | _, _, .cons (x := x) h t, e => by
    rw [List.lookup_cons] at e ⊢
    cases z : f == x with
    | true =>
      rw [z] at e
      cases e
    | false =>
      rw [z] at e
      exact Flds.lookupN t e
def dFld (C : Addr) (f : Str) (d : DE) : DE := fun n ε P => d n ε fun n1 x => match x with
  | .obj C' fs => C' = C ∧ ∃ y, fs.lookup f = some y ∧ P n1 y
  | _ => False
def dProp (C : Addr) (sp : FD) (d : DE) : DE := fun n ε P => d n ε fun n1 x => match x with
  | .obj C' fs => C' = C ∧ sp [.obj C' fs] n1 P
  | _ => False
def dMeth (C : Addr) (m : Str) (sp : FD) (dd : List D) (d : DE) (t : DA) : DE := fun n ε P => d n ε fun n1 x => match x with
  | .obj C' fs => C' = C ∧ fs.lookup m = none ∧ t n1 ε fun n2 ds => sp (.obj C' fs :: (ds ++ dd)) n2 P
  | _ => False
theorem de_fld {f : Str} (c : Cls X.K C) (na : NoAttr X.K C f) (ha : PE X o (liftE ℓ X.K da)) (hb : attributeBase o f X.env (eval o X.env) = eval o X.env := by rfl) : PE X (.Attribute o f pos) (liftE ℓ X.K (dFld C f da)) :=
  de_of (pe_fld ha hb) fun O g H n σ ε P Q r q kk => ⟨O, g, n, ε, _, r, q, fun v g1 H1 n1 x q1 s1 o1 e1 => by
    cases e1 with
    | obj h1 h2 =>
      obtain ⟨rfl, y, l, q2⟩ := q1
      obtain ⟨v', l', dv⟩ := h2.lookup l
      exact ⟨_, _, _, _, v', rfl, o1.sub _ _ h1, c, na, l', kk v' g1 H1 n1 y q2 s1 o1 dv⟩
    | _ => exact q1.elim⟩
theorem de_prop {f : Str} {pp gg : Addr} (c : Cls X.K C) (hp : PropOf X.K C f pp gg) (F : FnOk X.prog X.w X.K X.mg X.base CX0 k gg fd ps (liftF ℓ X.K sp)) (hr : Room (k + 1) X.A) (hb : Binds X.K fd ps []) (ha : PE X o (liftE ℓ X.K da))
    (hab : attributeBase o f X.env (eval o X.env) = eval o X.env := by rfl) : PE X (.Attribute o f pos) (liftE ℓ X.K (dProp C sp da)) :=
  de_of (pe_prop ha c hp F hr hb .nil (E := E0) pass0 hab) fun O g H n σ ε P Q r q kk => ⟨O, g, n, ε, _, r, q, fun v g1 H1 n1 x q1 s1 o1 e1 => by
    cases e1 with
    | obj h1 h2 =>
      obtain ⟨rfl, q2⟩ := q1
      exact ⟨_, _, _, rfl, o1.sub _ _ h1, g1, n1, _, P, o1, .cons (.obj h1 h2) .nil, q2, fun v2 g2 H2 n2 z q3 s3 o3 e3 => kk v2 g2 H2 n2 z q3 (s1.trans s3) o3 e3⟩
    | _ => exact q1.elim⟩
theorem meth_ok {K : PySem.W.Frag} (hd : ∀ g, Dens K g dvs dd) : ∀ σ H Q, liftE ℓ K (dMeth C m sp dd da t) σ H Q → tMeth C m (liftF ℓ K sp) dvs E (liftE ℓ K da) (liftA ℓ K t) σ H Q := fun σ H Q ⟨O, g, n, ε, P, r, q, kk⟩ =>
  ⟨O, g, n, ε, _, r, q, fun v g1 H1 n1 x q1 s1 o1 e1 => by
    cases e1 with
    | obj h1 h2 =>
      obtain ⟨rfl, l, q2⟩ := q1
      exact ⟨_, _, _, rfl, o1.sub _ _ h1, h2.lookupN l, O, g1, n1, ε, _, r.step s1 o1, q2, fun vs g2 H2 n2 d2 q3 s3 o3 e3 => ⟨g2, n2, _, P, o3, .cons ((Den.obj h1 h2).mono s3.ext) (e3.append (hd g2)), q3, fun v2 g4 H4 n4 z q4 s4 o4 e4 => kk v2 g4 H4 n4 z q4 ((s1.trans s3).trans s4) o4 e4⟩⟩
    | _ => exact q1.elim⟩
theorem de_meth {pl : Sem Bool} (c : Cls X.K C) (hm : Meth X.K C m f) (F : FnOk X.prog X.w X.K X.mg X.base CX0 k f fd ps (liftF ℓ X.K sp)) (hr : Room k X.A) (hb : Binds X.K fd ps ds) (hv : Vals dvs ds) (hd : ∀ g, Dens X.K g dvs dd) (ho : PE X o (liftE ℓ X.K da)) (ha : PA X (e :: es) (liftA ℓ X.K t))
    (hst : starEach (e :: es) X.env = (false, eval e X.env) :: starEach es X.env := by rfl) (hpl : (backTo pos (starEach es X.env)).any (·.1) = false := by rfl)
    (ht : eval (.Call (.Attribute o m apos) (e :: es) [] pos) X.env = (do
      let ov ← eval o X.env
      standAt apos.atName
      let (f, first) ← holding [ov] (getMethod ov m pl)
      callWith pos f first (backTo pos (starEach (e :: es) X.env)) (backToKw pos (keywordEach [] X.env))) := by rfl) :
    PE X (.Call (.Attribute o m apos) (e :: es) [] pos) (liftE ℓ X.K (dMeth C m sp dd da t)) := pe_w (pe_meth ho c hm F hr hb hv (E := E0) pass0 ha hst hpl ht) (meth_ok hd)
abbrev FI := List D → Nat → (Nat → List (Str × D) → Prop) → Prop
def rem (H : Hp) (x : Addr) : Hp := fun a => if a = x then none else H a
def liftInit (ℓ : Bool) (K : PySem.W.Frag) (C : Addr) (f : FI) : Sp := fun vs H Q _ => ∃ g n x dx vs' ds P, vs = .ref x :: vs' ∧ H x = some (.ins C dx []) ∧ g.G x = none ∧ ¬ g.pot x ∧ Ok ℓ K g H n ∧ Dens K g vs' ds ∧ f ds n P ∧
  ∀ g' H' n' fs dx' fvs, P n' fs → Stp g (rem H x) g' H' → Ok ℓ K g' H' n' → g'.G x = none → ¬ g'.pot x → H' x = some (.ins C dx' fvs) → Flds K g' fvs fs → Q .non H'
def dMake (C : Addr) (f : FI) (dd : List D) (t : DA) : DE := fun n ε P => t n ε fun n1 ds => f (ds ++ dd) n1 fun n2 fs => P n2 (.obj C fs)
theorem make_ok {K : PySem.W.Frag} {fi : FI} (hd : ∀ g, Dens K g dvs dd) : ∀ σ H Q, liftE ℓ K (dMake C fi dd t) σ H Q → tMake C (liftInit ℓ K C fi) dvs E (liftA ℓ K t) σ H Q := fun σ H Q ⟨O, g, n, ε, P, r, q, kk⟩ =>
  ⟨O, g, n, ε, _, r, q, fun vs g1 H1 n1 d1 q1 s1 o1 e1 => fun x dx hx hdx hne => by
    obtain ⟨a1, a2, a3, a4⟩ := new_own o1 hdx (.own x)
    have hx1 : upd H1 dx (.own x) x = none := by rw [upd_ne hne.symm]; exact hx
    obtain ⟨b1, b2, b3, b4⟩ := new_own a2 hx1 (.ins C dx [])
    refine ⟨g1, n1, x, dx, vs ++ dvs, d1 ++ dd, _, rfl, upd_same, b3, b4, b2, e1.append (hd g1), q1, fun g' H' n' fs dx' fvs q2 s2 o2 h1 h2 h3 h4 => ⟨rfl, ?_⟩⟩
    have hH : H x = none := s1.back0 hx
    have ex : Ext g' (g'.add x (.ins C dx' fvs)) := Ext.addOld h1
    have re : ∀ a, rem (upd (upd H1 dx (.own x)) x (.ins C dx [])) x a = upd H1 dx (.own x) a := fun a => by
      unfold rem
      by_cases z : a = x
      · rw [if_pos z, z, hx1]
      · rw [if_neg z, upd_ne z]
    have s2' : Stp g1 (upd H1 dx (.own x)) g' H' := by
      have e : rem (upd (upd H1 dx (.own x)) x (.ins C dx [])) x = upd H1 dx (.own x) := funext re
      rw [e] at s2
      exact s2
    have st := (s1.trans a1).trans s2'
    have st2 : Stp g H (g'.add x (.ins C dx' fvs)) H' := ⟨st.ext.trans ex, fun a dn z => by
      show upd g'.G x _ a = none
      rw [upd_ne fun w => dn (by rw [w]; exact hH)]
      exact st.gro a dn z, st.grp, st.kep, st.dom⟩
    exact kk _ _ H' n' _ q2 st2 (o2.addOld h3 h2) (.obj Gh.at (h4.mono ex))⟩
theorem de_make {fi : FI} (M : Mk X.K C f) (F : FnOk X.prog X.w X.K X.mg X.base CX0 k f fd ps (liftInit ℓ X.K C fi)) (hr : Room (k + 1) X.A) (hg : Gl X x) (hm : X.mg x = some (.ref C)) (hb : Binds X.K fd ps ds) (hv : Vals dvs ds) (hd : ∀ g, Dens X.K g dvs dd)
    (ha : PA X (e :: es) (liftA ℓ X.K t)) (hdb : (x == ("__debug__" : Str)) = false := by decide) (he : starEach (e :: es) X.env = (false, eval e X.env) :: starEach es X.env := by rfl) (hpl : (backTo pos (starEach es X.env)).any (·.1) = false := by rfl) :
    PE X (.Call (.Name x p) (e :: es) [] pos) (liftE ℓ X.K (dMake C fi dd t)) := pe_w (pe_make M F hr hg hm hb hv (E := E0) pass0 ha hdb he hpl) (make_ok hd)
end
def iniEnd (C : Addr) (P : Nat → List (Str × D) → Prop) (n : Nat) (ε : Ev) : Prop := match (ε : List Sl)[(0 : Nat)]? with
  | some (.own (.ins C' fs)) => C' = C ∧ P n fs
  | _ => False
def dIni (C : Addr) (N np : Nat) (b : DS) : FI := fun ds n P => ds.length + 1 = np ∧ b { nx := fun n ε => iniEnd C P n ε, rt := fun _ _ => False, slf := some C } n (.own (.ins C []) :: envOf (N - 1) ds)
theorem liftInit_body {K : PySem.W.Frag} {C : Addr} {b : DS} {n1 : Str} {names : List Str} {np : Nat} {vs : List V} {H : Hp} {Q : VK} {E : XK} (h : liftInit ℓ K C (dIni C (n1 :: names).length np b) vs H Q E) : liftS ℓ W0 K b { nx := fun _ H' => Q .non H', rt := Q } (L2.start (n1 :: names) vs) H := by
  obtain ⟨g, n, x, dx, vs', ds, P, rfl, hx, gx, px, ok, dd, ⟨_, q⟩, k⟩ := h
  have hs : L2.start (n1 :: names) (.ref x :: vs') = some (.ref x) :: L2.start names vs' := by
    unfold L2.start
    simp
  rw [hs]
  have r0 : Rp ℓ K (fun d p => rem H x p = none ∧ (∀ fs, d = .ins C fs → p = x)) g H n (start names vs') (envOf names.length ds) := Rp.start ok dd
  have noown : ∀ (j : Nat) (d : OD), (envOf names.length ds)[j]? = some (.own d) → False := fun j d e => by
    rcases envOf_at e with z | ⟨_, _, z⟩
    · cases z
    · cases z
  have r1 : Rp ℓ K (fun d p => rem H x p = none ∧ (∀ fs, d = .ins C fs → p = x)) g H n (some (.ref x) :: L2.start names vs') (.own (.ins C []) :: envOf names.length ds) := by
    refine ⟨ok, congrArg Nat.succ r0.len, fun i s e => ?_, fun i j p d1 d2 hij e1 e2 _ _ => ?_⟩
    · cases i with
      | zero =>
        cases e
        exact ⟨x, _, rfl, ⟨if_pos rfl, fun _ _ => rfl⟩, gx, px, hx, dx, [], rfl, .nil⟩
      | succ i => exact r0.sl i s (by simpa using e)
    · cases i with
      | zero =>
        cases j with
        | zero => exact hij rfl
        | succ j => exact noown j d2 (by simpa using e2)
      | succ i => exact noown i d1 (by simpa using e1)
  have s0 : Stp g (rem H x) g H := by
    refine ⟨Ext.refl g, fun _ _ z => z, fun _ _ z => z, fun a o e _ => ?_, fun a e => ?_⟩
    · have e' : (if a = x then none else H a) = some o := e
      by_cases z : a = x
      · rw [if_pos z] at e'
        cases e'
      · rw [if_neg z] at e'
        exact e'
    · intro z
      refine e ?_
      show (if a = x then none else H a) = none
      rw [z]
      split <;> rfl
  refine ⟨fun d p => ∀ fs, d = .ins C fs → p = x, g, rem H x, g, n, _, _, ⟨fun ds p fs e => (by cases e), fun C1 fs fs' p h f2 e => h fs (by cases e; rfl), fun C1 fs p h f2 e => (by cases e; exact (h rfl).elim), fun ks vs p fs e => (by cases e)⟩, r1, s0, q, fun σ' g' H' n' ε' q' r' s' => ?_, fun _ _ _ _ _ q' _ _ => q'.elim, fun _ _ _ _ _ q' _ _ => q'.elim, fun _ _ _ _ _ q' _ _ _ => q'.elim, fun _ _ _ _ _ _ _ q' _ _ _ => q'.elim, fun _ _ _ _ _ _ _ q' _ _ _ => q'.elim, fun _ _ _ _ _ _ _ _ _ q' _ _ _ _ => q'.elim⟩
  have q2 : iniEnd C P n' ε' := q'
  unfold iniEnd at q2
  split at q2
  · rename_i C' fs e
    obtain ⟨rfl, q3⟩ := q2
    obtain ⟨p, o, e1, ⟨_, h2⟩, h3, h4, h5, dx', fvs, rfl, h6⟩ := r'.sl 0 _ e
    have hp : p = x := h2 _ rfl
    subst hp
    exact k g' H' n' fs dx' fvs q3 s' r'.ok h3 h4 h5 h6
  · exact q2.elim
def putFD (f : Str) (v : D) : List (Str × D) → List (Str × D)
  | [] => [(f, v)]
  | (g, x) :: r => if g = f then (g, v) :: r else (g, x) :: putFD f v r
theorem Flds.put {K : PySem.W.Frag} {g : Gh} {f : Str} {v : V} {d : D} (h : Den K g v d) : ∀ {fvs : List (Str × V)} {fs : List (Str × D)}, Flds K g fvs fs → Flds K g (putF f v fvs) (putFD f d fs)
  | _, _, .nil => .cons h .nil
  | _, _, .cons (x := x) a t => by
    unfold putF putFD
    by_cases z : x = f
    · rw [if_pos z, if_pos z]
      exact .cons h t
    · rw [if_neg z, if_neg z]
      exact .cons a (Flds.put h t)
theorem Flds.length {K : PySem.W.Frag} {g : Gh} : ∀ {fvs : List (Str × V)} {fs : List (Str × D)}, Flds K g fvs fs → fvs.length = fs.length
  | _, _, .nil => rfl
  | _, _, .cons _ t => congrArg Nat.succ (Flds.length t)
def dFst (C : Addr) (i : Nat) (f : Str) (d : DE) : DS := fun N n ε => d n ε fun n1 r => match ε[i]? with
  | some (.own (.ins C' fs)) => C' = C ∧ fs.length < 1000 ∧ N.nx n1 (ε.set i (.own (.ins C' (putFD f r fs))))
  | _ => False
section
variable {X : Cx} {C : Addr} {pos pos' : Pos} {o e : Expr} {d : DE} {i : Nat} {f : Str}
theorem ds_fst (c : Cls X.K C) (na : NoAttr X.K C f) (ho : PE X o (tVar i)) (he : PE X e (liftE ℓ X.K d)) (hs : swapsWith e (some (.Attribute o f pos')) pos.line X.env = pure false := by rfl) : PS X (.Assign [.Attribute o f pos'] e pos) (liftS ℓ W X.K (dFst C i f d)) :=
  ps_w (ps_fld ho he hs) fun E σ H ⟨U, g0, H0, g, n, ε, N, uo, r, s0, q, k1, k2, k3, k4⟩ => ⟨_, g, n, ε, _, r, q, fun v g1 H1 n1 x q1 s1 o1 e1 => by
    split at q1
    · rename_i C' fs es
      obtain ⟨rfl, hl, q2⟩ := q1
      have r1 := r.step s1 o1
      obtain ⟨p, ob, a1, ⟨a2, a2'⟩, a3, a4, a5, dx, fvs, rfl, a6⟩ := r1.sl i _ es
      refine ⟨_, a1, p, C', dx, fvs, rfl, a5, c, na, by rw [a6.length]; exact hl, ?_⟩
      exact k1 σ g1 _ n1 _ q2 (r1.mut es a1 ⟨dx, _, rfl, a6.put e1⟩ fun z => ⟨z.1, uo.ins _ _ _ _ z.2⟩) ((s0.trans s1).mut a2)
    · exact q1.elim⟩
end
end Pd
namespace Pd
variable {ℓ : Bool}
open PySem L2
mutual
def toPD : D → PyData
  | .non => .none
  | .bl b => .bool b
  | .int i => .int i
  | .str l => .str ⟨l.toArray⟩
  | .lst xs => .list (toPDs xs)
  | .tup xs => .tuple (toPDs xs)
  | .obj _ _ => .none
  | .pot => .none
  | .scr _ => .none
  | .ref _ => .none
  | .tupK xs => .tuple (toPDs xs)
  | .tupF _ => .none
  | .err _ _ => .none
  | .cel _ _ => .none
  | .dic ks vs => .dict ((ks.map fun x => PyData.str ⟨x.toArray⟩).zip (toPDs vs))
def toPDs : List D → List PyData
  | [] => []
  | x :: xs => toPD x :: toPDs xs
end
mutual
def isPd : D → Bool
  | .non => true
  | .bl _ => true
  | .int _ => true
  | .str l => l.all (· < 1114112)
  | .lst xs => isPds xs
  | .tup xs => isPds xs
  | .obj _ _ => false
  | .pot => false
  | .scr _ => false
  | .ref _ => false
  | .tupK xs => isPds xs
  | .tupF _ => false
  | .err _ _ => false
  | .cel _ _ => false
  | .dic _ _ => false
def isPds : List D → Bool
  | [] => true
  | x :: xs => isPd x && isPds xs
end
mutual
def dpt : D → Nat
  | .lst xs => dpts xs + 1
  | .tup xs => dpts xs + 1
  | .non => 0
  | .bl _ => 0
  | .int _ => 0
  | .str _ => 0
  | .obj _ _ => 0
  | .pot => 0
  | .scr _ => 0
  | .ref _ => 0
  | .tupK xs => dpts xs + 1
  | .tupF _ => 0
  | .err _ _ => 0
  | .cel _ _ => 0
  | .dic ks vs => (toPD (.dic ks vs)).depth
def dpts : List D → Nat
  | [] => 0
  | x :: xs => max (dpt x) (dpts xs)
end
mutual
def eqD : D → D → Bool
  | .non, .non => true
  | .bl a, .bl b => a == b
  | .bl a, .int j => (if a then 1 else 0) == j
  | .int i, .bl b => i == (if b then 1 else 0)
  | .int i, .int j => i == j
  | .str x, .str y => x == y
  | .lst xs, .lst ys => eqDs xs ys
  | .tup xs, .tup ys => eqDs xs ys
  | .tup xs, .tupK ys => eqDs xs ys
  | .tupK xs, .tup ys => eqDs xs ys
  | .tupK xs, .tupK ys => eqDs xs ys
  | _, _ => false
def eqDs : List D → List D → Bool
  | [], [] => true
  | x :: xs, y :: ys => eqD x y && eqDs xs ys
  | _, _ => false
end
theorem str_beq (a b : List Nat) : ((⟨a.toArray⟩ : Str) == ⟨b.toArray⟩) = (a == b) := by
  rw [Bool.eq_iff_iff]
  simp
mutual
theorem eqv_eqD : ∀ (x y : D), isPd x = true → isPd y = true → PyData.eqv (toPD x) (toPD y) = eqD x y
  | .non, y, _, hy => by cases y <;> first | (simp [isPd] at hy; done) | simp [toPD, PyData.eqv, eqD]
  | .bl a, y, _, hy => by cases y <;> first | (simp [isPd] at hy; done) | simp [toPD, PyData.eqv, eqD]
  | .int i, y, _, hy => by cases y <;> first | (simp [isPd] at hy; done) | simp [toPD, PyData.eqv, eqD]
  | .str l, y, _, hy => by
    cases y with
    | str l' =>
      show ((⟨l.toArray⟩ : Str) == ⟨l'.toArray⟩) = _
      rw [str_beq]
      simp [eqD]
    | _ => first | (simp [isPd] at hy; done) | simp [toPD, PyData.eqv, eqD]
  | .lst xs, y, hx, hy => by
    cases y with
    | lst ys =>
      simp only [toPD, PyData.eqv, eqD]
      exact eqvs_eqDs xs ys (by simpa [isPd] using hx) (by simpa [isPd] using hy)
    | _ => first | (simp [isPd] at hy; done) | simp [toPD, PyData.eqv, eqD]
  | .tup xs, y, hx, hy => by
    cases y with
    | tup ys =>
      simp only [toPD, PyData.eqv, eqD]
      exact eqvs_eqDs xs ys (by simpa [isPd] using hx) (by simpa [isPd] using hy)
    | tupK ys =>
      simp only [toPD, PyData.eqv, eqD]
      exact eqvs_eqDs xs ys (by simpa [isPd] using hx) (by simpa [isPd] using hy)
    | _ => first | (simp [isPd] at hy; done) | simp [toPD, PyData.eqv, eqD]
  | .tupK xs, y, hx, hy => by
    cases y with
    | tup ys =>
      simp only [toPD, PyData.eqv, eqD]
      exact eqvs_eqDs xs ys (by simpa [isPd] using hx) (by simpa [isPd] using hy)
    | tupK ys =>
      simp only [toPD, PyData.eqv, eqD]
      exact eqvs_eqDs xs ys (by simpa [isPd] using hx) (by simpa [isPd] using hy)
    | _ => first | (simp [isPd] at hy; done) | simp [toPD, PyData.eqv, eqD]
  | .obj _ _, _, h, _ => by simp [isPd] at h
  | .pot, _, h, _ => by simp [isPd] at h
  | .scr _, _, h, _ => by simp [isPd] at h
  | .ref _, _, h, _ => by simp [isPd] at h
  | .tupF _, _, h, _ => by simp [isPd] at h
  | .err _ _, _, h, _ => by simp [isPd] at h
  | .cel _ _, _, h, _ => by simp [isPd] at h
  | .dic _ _, _, h, _ => by simp [isPd] at h
theorem eqvs_eqDs : ∀ (xs ys : List D), isPds xs = true → isPds ys = true → PyData.eqvAll (toPDs xs) (toPDs ys) = eqDs xs ys
  | [], [], _, _ => by simp [toPDs, PyData.eqvAll, eqDs]
  | [], _ :: _, _, _ => by simp [toPDs, PyData.eqvAll, eqDs]
  | _ :: _, [], _, _ => by simp [toPDs, PyData.eqvAll, eqDs]
  | x :: xs, y :: ys, hx, hy => by
    rw [isPds, Bool.and_eq_true] at hx hy
    simp only [toPDs, PyData.eqvAll, eqDs]
    rw [eqv_eqD x y hx.1 hy.1, eqvs_eqDs xs ys hx.2 hy.2]
end
mutual
theorem lay_toPD : ∀ x : D, isPd x = true → (toPD x).canLay0 = true
  | .non, _ => by simp [toPD, PyData.canLay0]
  | .bl _, _ => by simp [toPD, PyData.canLay0]
  | .int _, _ => by simp [toPD, PyData.canLay0]
  | .str l, h => by
    simp only [toPD, PyData.canLay0]
    simp only [isPd] at h
    unfold PySem.PyData.strOk
    simpa using h
  | .lst xs, h => by
    simp only [toPD, PyData.canLay0]
    exact lay_toPDs xs (by simpa [isPd] using h)
  | .tup xs, h => by
    simp only [toPD, PyData.canLay0]
    exact lay_toPDs xs (by simpa [isPd] using h)
  | .tupK xs, h => by
    simp only [toPD, PyData.canLay0]
    exact lay_toPDs xs (by simpa [isPd] using h)
  | .obj _ _, _ => by simp [toPD, PyData.canLay0]
  | .pot, _ => by simp [toPD, PyData.canLay0]
  | .scr _, _ => by simp [toPD, PyData.canLay0]
  | .ref _, _ => by simp [toPD, PyData.canLay0]
  | .tupF _, h => by simp [isPd] at h
  | .err _ _, h => by simp [isPd] at h
  | .cel _ _, h => by simp [isPd] at h
  | .dic _ _, h => by simp [isPd] at h
theorem lay_toPDs : ∀ xs : List D, isPds xs = true → PyData.canLayAll0 (toPDs xs) = true
  | [], _ => by simp [toPDs, PyData.canLayAll0]
  | x :: xs, h => by
    rw [isPds, Bool.and_eq_true] at h
    simp only [toPDs, PyData.canLayAll0]
    rw [lay_toPD x h.1, lay_toPDs xs h.2]
    rfl
end
mutual
theorem dpt_toPD : ∀ x : D, (toPD x).depth = dpt x
  | .non => by simp [toPD, PyData.depth, dpt]
  | .bl _ => by simp [toPD, PyData.depth, dpt]
  | .int _ => by simp [toPD, PyData.depth, dpt]
  | .str _ => by simp [toPD, PyData.depth, dpt]
  | .lst xs => by simp only [toPD, PyData.depth, dpt]; rw [dpts_toPDs xs]
  | .tup xs => by simp only [toPD, PyData.depth, dpt]; rw [dpts_toPDs xs]
  | .obj _ _ => by simp [toPD, PyData.depth, dpt]
  | .pot => by simp [toPD, PyData.depth, dpt]
  | .scr _ => by simp [toPD, PyData.depth, dpt]
  | .ref _ => by simp [toPD, PyData.depth, dpt]
  | .tupK xs => by simp only [toPD, PyData.depth, dpt]; rw [dpts_toPDs xs]
  | .tupF _ => by simp [toPD, PyData.depth, dpt]
  | .err _ _ => by simp [toPD, PyData.depth, dpt]
  | .cel _ _ => by simp [toPD, PyData.depth, dpt]
  | .dic _ _ => by simp [dpt]
theorem dpts_toPDs : ∀ xs : List D, PyData.depthAll (toPDs xs) = dpts xs
  | [] => by simp [toPDs, PyData.depthAll, dpts]
  | x :: xs => by simp only [toPDs, PyData.depthAll, dpts]; rw [dpt_toPD x, dpts_toPDs xs]
end
def okD (x : D) : Bool := isPd x && decide (dpt x ≤ 50)
theorem okD_shaped {x : D} (h : okD x = true) : SeqAt.shaped (toPD x) = true := by
  unfold okD at h
  rw [Bool.and_eq_true] at h
  unfold SeqAt.shaped
  rw [lay_toPD x h.1, dpt_toPD]
  simp only [Bool.true_and, decide_eq_true_eq]
  have := of_decide_eq_true h.2
  omega
theorem okD_pd {x : D} (h : okD x = true) : isPd x = true := (Bool.and_eq_true_iff.mp h).1
section
variable {K : PySem.W.Frag} {g : Gh} {H : Hp}
mutual
theorem Den.dp (sm : Same g.G H) : ∀ {v : V} {d : D}, Den K g v d → isPd d = true → Dp K H v (toPD d)
  | _, _, .non, _ => .non
  | _, _, .bl b, _ => .bl b
  | _, _, .int i, _ => .int i
  | _, _, .str l, _ => .str _
  | _, _, .lst h1 h2, h => .lst (SqL.of (sm _ _ h1)) (Dens.dp sm h2 (by simpa [isPd] using h))
  | _, _, .tup h1 h2, h => .tup (Or.inl (h1.same sm)) (Dens.dp sm h2 (by simpa [isPd] using h))
  | _, _, .obj h1 h2, h => by simp [isPd] at h
  | _, _, .pot h1 _, h => by simp [isPd] at h
  | _, _, .scr h1, h => by simp [isPd] at h
  | _, _, .ref a, h => by simp [isPd] at h
  | _, _, .tupK h1 h2, h => .tup (h1 _) (Dens.dp sm h2 (by simpa [isPd] using h))
  | _, _, .tupF _ _ _ _, h => by simp [isPd] at h
  | _, _, .err _ _ _, h => by simp [isPd] at h
  | _, _, .cel _, h => by simp [isPd] at h
  | _, _, .dic _ _ _, h => by simp [isPd] at h
theorem Dens.dp (sm : Same g.G H) : ∀ {vs : List V} {ds : List D}, Dens K g vs ds → isPds ds = true → DpAll K H vs (toPDs ds)
  | _, _, .nil, _ => .nil
  | _, _, .cons h t, q => by
    rw [isPds, Bool.and_eq_true] at q
    exact .cons (Den.dp sm h q.1) (Dens.dp sm t q.2)
end
end
def flatD : D → Bool
  | .non => true
  | .bl _ => true
  | .int _ => true
  | .str _ => true
  | _ => false
theorem Den.flat {K : PySem.W.Frag} {g g' : Gh} {v : V} {d : D} (h : Den K g v d) (f : flatD d = true) : Den K g' v d := by
  cases h with
  | non => exact .non
  | bl b => exact .bl b
  | int i => exact .int i
  | str l => exact .str l
  | _ => simp [flatD] at f
def gI (C : Int → Int → Prop) (f : Int → Int → D) : G2 := fun x y P => match x, y with
  | .int i, .int j => C i j ∧ P (f i j)
  | _, _ => False
def TC : Int → Int → Prop := fun _ _ => True
section
variable {K : PySem.W.Frag} {C : Int → Int → Prop} {fv : Int → Int → V} {f : Int → Int → D}
theorem so_i (h : ∀ g i j, Den K g (fv i j) (f i j)) : SOp ℓ K (rI C fv) (gI C f) := ⟨fun {g H n x y dx dy P Q} ok ex ey q k => by
  cases ex with
  | int i =>
    cases ey with
    | int j => exact ⟨i, j, rfl, rfl, q.1, k.flat ok q.2 (h g i j)⟩
    | _ => exact q.elim
  | _ => exact q.elim⟩
theorem so_i0 (h : ∀ g i j, Den K g (fv i j) (f i j)) : SOp ℓ K (rI0 fv) (gI TC f) := ⟨fun {g H n x y dx dy P Q} ok ex ey q k => by
  cases ex with
  | int i =>
    cases ey with
    | int j => exact ⟨i, j, rfl, rfl, k.flat ok q.2 (h g i j)⟩
    | _ => exact q.elim
  | _ => exact q.elim⟩
end
abbrev gSub : G2 := gI TC fun i j => .int (i - j)
abbrev gFdiv : G2 := gI CDivW fun i j => .int (i / j)
abbrev gMod : G2 := gI (fun _ j => 0 < j) fun i j => .int (i % j)
abbrev gLt : G2 := gI TC fun i j => .bl (decide (i < j))
abbrev gLe : G2 := gI TC fun i j => .bl (decide (i ≤ j))
abbrev gGt : G2 := gI TC fun i j => .bl (decide (j < i))
abbrev gGe : G2 := gI TC fun i j => .bl (decide (j ≤ i))
def CPowW (i j : Int) : Prop := 0 ≤ j ∧ j ≤ 1000000 ∧ (Builtin.Int.intBits i : Int) * j ≤ 2 ^ 27
abbrev gPow : G2 := gI CPowW fun i j => .int (i ^ j.toNat)
section
variable {X : Cx}
theorem op_powW : OpR X (binaryOp .Pow) (rI CPowW fun i j => .int (i ^ j.toNat)) := by
  intro pins s σ H x y v u Q I rx ry h
  obtain ⟨i, j, rfl, rfl, hc, q⟩ := h
  obtain ⟨t, rfl⟩ := rx
  obtain ⟨t', rfl⟩ := ry
  exact PyProof.Rows.pow_int hc.1 hc.2.2 ⟨.int _, H, I.tok _, ⟨_, rfl⟩, q⟩
theorem so_sub : SOp ℓ X.K (rI0 fun i j => .int (i - j)) gSub := so_i0 fun _ _ _ => .int _
theorem so_fdiv : SOp ℓ X.K (rI CDivW fun i j => .int (i / j)) gFdiv := so_i fun _ _ _ => .int _
theorem so_mod : SOp ℓ X.K (rI (fun _ j => 0 < j) fun i j => .int (i % j)) gMod := so_i fun _ _ _ => .int _
theorem so_pow : SOp ℓ X.K (rI CPowW fun i j => .int (i ^ j.toNat)) gPow := so_i fun _ _ _ => .int _
theorem so_lt : SOp ℓ X.K (rI0 fun i j => .bl (decide (i < j))) gLt := so_i0 fun _ _ _ => .bl _
theorem so_le : SOp ℓ X.K (rI0 fun i j => .bl (decide (i ≤ j))) gLe := so_i0 fun _ _ _ => .bl _
theorem so_gt : SOp ℓ X.K (rI0 fun i j => .bl (decide (j < i))) gGt := so_i0 fun _ _ _ => .bl _
theorem so_ge : SOp ℓ X.K (rI0 fun i j => .bl (decide (j ≤ i))) gGe := so_i0 fun _ _ _ => .bl _
end
def gAdd : G2 := fun x y P => match x, y with
  | .int i, .int j => P (.int (i + j))
  | .str a, .str b => a.length + b.length ≤ 16777216 ∧ P (.str (a ++ b))
  | .lst a, .lst b => a.length + b.length ≤ 16777216 ∧ P (.lst (a ++ b))
  | .tup a, .tup b => a.length + b.length ≤ 16777216 ∧ P (.tup (a ++ b))
  | _, _ => False
def rAddS : R2 := fun x y H Q => ∃ i j : Str, x = .str i ∧ y = .str j ∧ i.length + j.length ≤ sizeLine ∧ Q (.str (i ++ j)) H
def rAdd (K : PySem.W.Frag) : R2 := fun x y H Q => rI0 (fun i j => .int (i + j)) x y H Q ∨ rAddS x y H Q ∨ rCat x y H Q ∨ rCatA K x y H Q
theorem str_app (a b : List Nat) : ((⟨a.toArray⟩ : Str) ++ ⟨b.toArray⟩) = ⟨(a ++ b).toArray⟩ := by
  show (⟨a.toArray ++ b.toArray⟩ : Str) = _
  simp
section
variable {X : Cx}
theorem op_addA : OpR X (binaryOp .Add) (rAdd X.K) := op_add.or (op_add_str.or (op_cat.or op_catA))
theorem so_add : SOp ℓ X.K (rAdd X.K) gAdd := ⟨fun {g H n x y dx dy P Q} ok ex ey q k => by
  cases ex with
  | int i =>
    cases ey with
    | int j => exact .inl ⟨i, j, rfl, rfl, k.flat ok q (.int _)⟩
    | _ => exact q.elim
  | str a =>
    cases ey with
    | str b => exact .inr (.inl ⟨_, _, rfl, rfl, sz q.1, by rw [str_app]; exact k.flat ok q.2 (.str _)⟩)
    | _ => exact q.elim
  | lst h1 h2 =>
    cases ey with
    | lst h3 h4 => exact .inr (.inr (.inl ⟨_, _, _, _, rfl, rfl, ok.sub _ _ h1, ok.sub _ _ h3, by rw [h2.length, h4.length]; exact sz q.1, fun p hp => k.newL ok q.2 (h2.append h4) hp⟩))
    | _ => exact q.elim
  | tup h1 h2 =>
    rename_i pa vs ds
    cases ey with
    | tup h3 h4 =>
      rename_i pb ws es
      refine .inr (.inr (.inr ⟨_, _, _, _, rfl, rfl, Or.inl (h1.same ok.sub), Or.inl (h3.same ok.sub), by rw [h2.length, h4.length]; exact sz q.1, fun e => ?_, fun _ e => ?_, fun _ _ p hp => k.newT ok q.2 (h2.append h4) hp⟩))
      · subst e
        cases h2
        exact k.flat ok q.2 (.tup h3 h4)
      · subst e
        cases h4
        have q2 := q.2
        rw [List.append_nil] at q2
        exact k.flat ok q2 (.tup h1 h2)
    | _ => exact q.elim
  | _ => exact q.elim⟩
end
def rMulS : R2 := fun x y H Q => ∃ (i : Str) (j : Int), x = .str i ∧ y = .int j ∧ -1000000 ≤ j ∧ j ≤ 1000000 ∧ i.length * j.toNat ≤ 16777216 ∧ Q (.str ⟨((List.replicate j.toNat i.cps.toList).flatten).toArray⟩) H
theorem rep_arr (x : Array Nat) (n : Nat) : (List.replicate n x).foldl (· ++ ·) #[] = ((List.replicate n x.toList).flatten).toArray := by
  have h : ∀ (n : Nat) (acc : Array Nat), (List.replicate n x).foldl (· ++ ·) acc = (acc.toList ++ (List.replicate n x.toList).flatten).toArray := by
    intro n
    induction n with
    | zero => intro acc; simp
    | succ n ih =>
      intro acc
      rw [List.replicate_succ, List.foldl_cons, ih, List.replicate_succ]
      simp
  rw [h]
  simp
section
variable {X : Cx}
theorem op_mulS : OpR X (binaryOp .Mult) rMulS := by
  intro pins s σ H x y v u Q I rx ry h
  obtain ⟨i, j, rfl, rfl, h1, h2, h3, q⟩ := h
  obtain ⟨t, rfl⟩ := rx
  obtain ⟨t', rfl⟩ := ry
  have hz : i.length * j.toNat ≤ sizeLine := sz h3
  have hlen : i.length = i.cps.toList.length := by simp [Str.length]
  refine P.mul_str ?_ (fun hn _ hc => ?_) (fun hn hc => ?_) ?_
  · have a1 : ¬ j < -(2 ^ 63) := by omega
    have a2 : ¬ j ≥ 2 ^ 63 := by omega
    rw [decide_eq_false a1, decide_eq_false a2]
    rfl
  · have e1 : (i.length : Int) * j ≤ 16777216 := by
      have : (((i.length * j.toNat : Nat)) : Int) ≤ ((16777216 : Nat) : Int) := Int.ofNat_le.mpr h3
      rw [Int.natCast_mul, Int.toNat_of_nonneg (by omega)] at this
      exact this
    have e2 : (2 ^ 63 - 1) / j < (i.length : Int) := hc
    have e3 : (2 ^ 63 - 1 : Int) < (i.length : Int) * j := by
      exact Int.lt_mul_of_ediv_lt (show (0 : Int) < j by omega) e2
    omega
  · unfold Builtin.Str.tooLong
    exact decide_eq_false (by omega)
  · by_cases hn : j < 1
    · rw [if_pos hn]
      refine ⟨by decide, ?_⟩
      have e : j.toNat = 0 := by omega
      rw [e] at q
      exact ⟨.str _, H, I.tok _, ⟨_, rfl⟩, q⟩
    · rw [if_neg hn]
      by_cases hc : (j == 1 || i.length == 0) = true
      · rw [if_pos hc]
        refine ⟨.str i, H, I, ⟨_, rfl⟩, ?_⟩
        have e : (⟨((List.replicate j.toNat i.cps.toList).flatten).toArray⟩ : Str) = i := by
          rcases Bool.or_eq_true_iff.mp hc with z | z
          · have e1 : j = 1 := by simpa using z
            subst e1
            cases i
            simp
          · have e1 : i.cps.toList = [] := by
              have : i.length = 0 := by simpa using z
              rw [hlen] at this
              exact List.length_eq_zero_iff.mp this
            rw [e1]
            have e2 : (List.replicate j.toNat ([] : List Nat)).flatten = [] := by simp
            rw [e2]
            cases i with
            | mk c =>
              have : c = #[] := by
                apply Array.toList_inj.mp
                exact e1
              rw [this]
        rw [e] at q
        exact q
      · rw [if_neg hc, rep_arr]
        refine ⟨?_, ⟨.str _, H, I.tok _, ⟨_, rfl⟩, q⟩⟩
        have e : (⟨((List.replicate j.toNat i.cps.toList).flatten).toArray⟩ : Str).length = i.length * j.toNat := by
          show ((List.replicate j.toNat i.cps.toList).flatten.toArray).size = _
          rw [List.size_toArray, List.length_flatten, List.map_replicate, List.sum_replicate_nat, ← hlen, Nat.mul_comm]
        rw [e]
        exact hz
end
def gMul : G2 := fun x y P => match x, y with
  | .int i, .int j => CMulW i j ∧ P (.int (i * j))
  | .str a, .int j => -1000000 ≤ j ∧ j ≤ 1000000 ∧ a.length * j.toNat ≤ 16777216 ∧ P (.str (List.replicate j.toNat a).flatten)
  | .lst a, .int j => -1000000 ≤ j ∧ j ≤ 1000000 ∧ a.length * j.toNat ≤ 16777216 ∧ P (.lst (List.replicate j.toNat a).flatten)
  | .tup a, .int j => a ≠ [] ∧ 2 ≤ j ∧ j ≤ 1000 ∧ a.length ≤ 1000 ∧ P (.tup (List.replicate j.toNat a).flatten)
  | _, _ => False
def rMul (K : PySem.W.Frag) : R2 := fun x y H Q => rI CMulW (fun i j => .int (i * j)) x y H Q ∨ rMulS x y H Q ∨ rRep x y H Q ∨ rRepT K x y H Q
theorem Dens.rep {K : PySem.W.Frag} {g : Gh} {vs : List V} {ds : List D} (h : Dens K g vs ds) : ∀ n : Nat, Dens K g (List.replicate n vs).flatten (List.replicate n ds).flatten
  | 0 => .nil
  | n + 1 => by
    rw [List.replicate_succ, List.replicate_succ, List.flatten_cons, List.flatten_cons]
    exact h.append (Dens.rep h n)
section
variable {X : Cx}
theorem op_mulA : OpR X (binaryOp .Mult) (rMul X.K) := op_mulW.or (op_mulS.or (op_rep.or op_repT))
theorem so_mul : SOp ℓ X.K (rMul X.K) gMul := ⟨fun {g H n x y dx dy P Q} ok ex ey q k => by
  cases ex with
  | int i =>
    cases ey with
    | int j => exact .inl ⟨i, j, rfl, rfl, q.1, k.flat ok q.2 (.int _)⟩
    | _ => exact q.elim
  | str a =>
    cases ey with
    | int j => exact .inr (.inl ⟨_, j, rfl, rfl, q.1, q.2.1, q.2.2.1, k.flat ok q.2.2.2 (.str _)⟩)
    | _ => exact q.elim
  | lst h1 h2 =>
    cases ey with
    | int j => exact .inr (.inr (.inl ⟨_, j, _, rfl, rfl, ok.sub _ _ h1, by have := q.1; omega, by have := q.2.1; omega, by rw [h2.length]; exact sz q.2.2.1, fun p hp => k.newL ok q.2.2.2 (h2.rep _) hp⟩))
    | _ => exact q.elim
  | tup h1 h2 =>
    cases ey with
    | int j =>
      refine .inr (.inr (.inr ⟨_, j, _, rfl, rfl, Or.inl (h1.same ok.sub), fun e => q.1 ?_, q.2.1, q.2.2.1, by rw [h2.length]; exact q.2.2.2.1, fun p hp => k.newT ok q.2.2.2.2 (h2.rep _) hp⟩))
      have := h2.length
      rw [e] at this
      exact List.length_eq_zero_iff.mp this.symm
    | _ => exact q.elim
  | _ => exact q.elim⟩
end
def okEq (x y : D) : Bool := match x, y with
  | .non, _ => flatD y || okD y
  | .int _, .int _ => true
  | .str _, .str _ => true
  | .bl _, .bl _ => true
  | _, _ => okD x && okD y
def gEq : G2 := fun x y P => okEq x y = true ∧ P (.bl (eqD x y))
def gNe : G2 := fun x y P => okEq x y = true ∧ P (.bl (!eqD x y))
def rEqA (K : PySem.W.Frag) : R2 := fun x y H Q => rEq x y H Q ∨ rEqD K x y H Q
def rNeA (K : PySem.W.Frag) : R2 := fun x y H Q => rNe x y H Q ∨ rNeD K x y H Q
section
variable {X : Cx}
theorem op_eqA (hu : X.A.units + 64 < cLine) : OpR X (compareOp .Eq) (rEqA X.K) := op_eq.or (op_eqD hu)
theorem op_neA (hu : X.A.units + 64 < cLine) : OpR X (compareOp .NotEq) (rNeA X.K) := op_ne.or (op_neD hu)
theorem eq_cases {K : PySem.W.Frag} {g : Gh} {H : Hp} {n : Nat} {x y : V} {dx dy : D} (ok : Ok ℓ K g H n) (ex : Den K g x dx) (ey : Den K g y dy) (h : okEq dx dy = true) :
    (scal x y = true ∧ decide (x = y) = eqD dx dy) ∨ (∃ d e, Dp K H x d ∧ Dp K H y e ∧ SeqAt.shaped d = true ∧ SeqAt.shaped e = true ∧ PyData.eqv d e = eqD dx dy) := by
  have deep : okD dx = true → okD dy = true → (∃ d e, Dp K H x d ∧ Dp K H y e ∧ SeqAt.shaped d = true ∧ SeqAt.shaped e = true ∧ PyData.eqv d e = eqD dx dy) := fun h1 h2 =>
    ⟨_, _, ex.dp ok.sub (okD_pd h1), ey.dp ok.sub (okD_pd h2), okD_shaped h1, okD_shaped h2, eqv_eqD dx dy (okD_pd h1) (okD_pd h2)⟩
  have okn : okD .non = true := by decide
  cases ex with
  | non =>
    cases ey with
    | non => exact .inr (deep okn okn)
    | int i => exact .inl ⟨rfl, by simp [eqD]⟩
    | bl i => exact .inl ⟨rfl, by simp [eqD]⟩
    | str i => exact .inl ⟨rfl, by simp [eqD]⟩
    | _ => exact .inr (deep okn (by simpa [okEq, flatD] using h))
  | int i =>
    cases ey with
    | int j => exact .inl ⟨rfl, dec_int⟩
    | _ =>
      simp only [okEq, Bool.and_eq_true] at h
      exact .inr (deep h.1 h.2)
  | bl i =>
    cases ey with
    | bl j => exact .inl ⟨rfl, dec_bl⟩
    | _ =>
      simp only [okEq, Bool.and_eq_true] at h
      exact .inr (deep h.1 h.2)
  | str i =>
    cases ey with
    | str j => exact .inl ⟨rfl, by rw [dec_str, str_beq]; simp [eqD]⟩
    | _ =>
      simp only [okEq, Bool.and_eq_true] at h
      exact .inr (deep h.1 h.2)
  | _ =>
    simp only [okEq, Bool.and_eq_true] at h
    exact .inr (deep h.1 h.2)
theorem so_eq : SOp ℓ X.K (rEqA X.K) gEq := ⟨fun {g H n x y dx dy P Q} ok ex ey q k => by
  have z : Q (.bl (eqD dx dy)) H := k.flat ok q.2 (.bl _)
  rcases eq_cases ok ex ey q.1 with ⟨h1, h2⟩ | ⟨d, e, h1, h2, h3, h4, h5⟩
  · exact .inl ⟨h1, by rw [h2]; exact z⟩
  · exact .inr ⟨d, e, h1, h2, h3, h4, by rw [h5]; exact z⟩⟩
theorem so_ne : SOp ℓ X.K (rNeA X.K) gNe := ⟨fun {g H n x y dx dy P Q} ok ex ey q k => by
  have z : Q (.bl (!eqD dx dy)) H := k.flat ok q.2 (.bl _)
  rcases eq_cases ok ex ey q.1 with ⟨h1, h2⟩ | ⟨d, e, h1, h2, h3, h4, h5⟩
  · exact .inl ⟨h1, by rw [h2]; exact z⟩
  · exact .inr ⟨d, e, h1, h2, h3, h4, by rw [h5]; exact z⟩⟩
end
def okIn (x : D) (ys : List D) : Bool := (match x with
  | .str _ => ys.all fun y => match y with
    | .str _ => true
    | _ => false
  | .int _ => ys.all fun y => match y with
    | .int _ => true
    | _ => false
  | _ => false) || okD x && (isPds ys && decide (dpts ys ≤ 50))
def gInB (f : Bool → Bool) : G2 := fun x y P => match y with
  | .str t => match x with
    | .str [c] => P (.bl (f (decide (c ∈ t))))
    | _ => False
  | .lst ys => okIn x ys = true ∧ P (.bl (f (ys.any fun y => eqD y x)))
  | .tup ys => okIn x ys = true ∧ P (.bl (f (ys.any fun y => eqD y x)))
  | .tupK ys => okIn x ys = true ∧ P (.bl (f (ys.any fun y => eqD y x)))
  | _ => False
abbrev gIn : G2 := gInB fun b => b
def rInTD (K : PySem.W.Frag) (f : Bool → Bool) : R2 := fun x y H Q => ∃ d ds, Dp K H x d ∧ Dp K H y (.tuple ds) ∧ SeqAt.shaped d = true ∧ SeqAt.shaped (.tuple ds) = true ∧ Q (.bl (f (ds.any fun z => PyData.eqv z d))) H
section
variable {X : Cx}
theorem room_inT {A : Around} {d : PyData} {ds : List PyData} (hd : SeqAt.shaped d = true) (hu : A.units + 65 < cLine) : A.units + 1 + min (PyData.depthAll ds) d.depth < cLine := by
  have := SeqAt.depth_of_shaped hd
  omega
theorem op_inTD (hu : X.A.units + 65 < cLine) : OpR X (compareOp .In) (rInTD X.K fun b => b) := by
  intro pins s σ H x y v u Q I rx ry h
  obtain ⟨d, ds, hd, he, sd, se, q⟩ := h
  obtain ⟨as, r1⟩ := Dp.reads I d x v hd rx
  obtain ⟨bs, r2⟩ := Dp.reads I (.tuple ds) y u he ry
  exact SeqAt.in_tuple_reads r2 r1 (SeqAt.canLay_of_shaped se) (SeqAt.canLay_of_shaped sd) (room_inT sd hu) ⟨.bl _, H, I, rfl, q⟩
def rInS1 (f : Bool → Bool) : R2 := fun x y H Q => ∃ (c : Nat) (z : Str), x = .str ⟨#[c]⟩ ∧ y = .str z ∧ Q (.bl (f (decide (c ∈ z.cps.toList)))) H
def rInA (K : PySem.W.Frag) : R2 := fun x y H Q => rInS1 (fun b => b) x y H Q ∨ rIn K false x y H Q ∨ rInD K x y H Q ∨ rInTD K (fun b => b) x y H Q
theorem op_inA (hu : X.A.units + 65 < cLine) : OpR X (compareOp .In) (rInA X.K) := op_in_sign.or (op_in_seq.or ((op_inD hu).or (op_inTD hu)))
theorem any_eqv {d : D} (hd : isPd d = true) : ∀ ys : List D, isPds ys = true → ((toPDs ys).any fun z => PyData.eqv z (toPD d)) = ys.any fun y => eqD y d
  | [], _ => rfl
  | y :: ys, h => by
    rw [isPds, Bool.and_eq_true] at h
    simp only [toPDs, List.any_cons]
    rw [eqv_eqD y d h.1 hd, any_eqv hd ys h.2]
theorem in_strs {K : PySem.W.Frag} {g : Gh} (t : List Nat) : ∀ {xs : List V} {ys : List D}, Dens K g xs ys → (ys.all fun y => match y with
    | .str _ => true
    | _ => false) = true → xs.all flatV = true ∧ inV (.str ⟨t.toArray⟩) xs = ys.any fun y => eqD y (.str t)
  | _, _, .nil, _ => ⟨rfl, rfl⟩
  | _, _, .cons a b, h => by
    simp only [List.all_cons, Bool.and_eq_true] at h
    obtain ⟨i1, i2⟩ := in_strs t b h.2
    cases a with
    | str u =>
      unfold inV at i2 ⊢
      refine ⟨by rw [List.all_cons, i1]; rfl, ?_⟩
      rw [List.any_cons, List.any_cons, i2]
      congr 1
      show ((⟨u.toArray⟩ : Str) == ⟨t.toArray⟩) = _
      rw [str_beq]
      simp [eqD]
    | _ => simp at h
theorem in_ints {K : PySem.W.Frag} {g : Gh} (t : Int) : ∀ {xs : List V} {ys : List D}, Dens K g xs ys → (ys.all fun y => match y with
    | .int _ => true
    | _ => false) = true → xs.all flatV = true ∧ inV (.int t) xs = ys.any fun y => eqD y (.int t)
  | _, _, .nil, _ => ⟨rfl, rfl⟩
  | _, _, .cons a b, h => by
    simp only [List.all_cons, Bool.and_eq_true] at h
    obtain ⟨i1, i2⟩ := in_ints t b h.2
    cases a with
    | int u =>
      unfold inV at i2 ⊢
      refine ⟨by rw [List.all_cons, i1]; rfl, ?_⟩
      rw [List.any_cons, List.any_cons, i2]
      congr 1
    | _ => simp at h
theorem in_cases {K : PySem.W.Frag} {g : Gh} {H : Hp} {n : Nat} {x : V} {dx : D} {xs : List V} {ys : List D} (ok : Ok ℓ K g H n) (ex : Den K g x dx) (e2 : Dens K g xs ys) (h : okIn dx ys = true) :
    (flatV x = true ∧ xs.all flatV = true ∧ inV x xs = ys.any fun y => eqD y dx) ∨ (∃ d ds, Dp K H x d ∧ DpAll K H xs ds ∧ SeqAt.shaped d = true ∧ PyData.canLayAll0 ds = true ∧ PyData.depthAll ds ≤ 50 ∧ (ds.any fun z => PyData.eqv z d) = ys.any fun y => eqD y dx) := by
  unfold okIn at h
  rw [Bool.or_eq_true] at h
  rcases h with h | h
  · left
    cases dx with
    | str t =>
      cases ex
      refine ⟨rfl, ?_⟩
      exact in_strs t e2 h
    | int t =>
      cases ex
      refine ⟨rfl, ?_⟩
      exact in_ints t e2 h
    | _ => simp at h
  · right
    rw [Bool.and_eq_true, Bool.and_eq_true] at h
    refine ⟨_, _, ex.dp ok.sub (okD_pd h.1), e2.dp ok.sub h.2.1, okD_shaped h.1, lay_toPDs _ h.2.1, ?_, any_eqv (okD_pd h.1) ys h.2.1⟩
    rw [dpts_toPDs]
    exact of_decide_eq_true h.2.2
theorem shapedL {ds : List PyData} (h : PyData.canLayAll0 ds = true) (q : PyData.depthAll ds ≤ 50) : SeqAt.shaped (.list ds) = true := by
  have e1 : PyData.canLay0 (.list ds) = true := by simpa [PyData.canLay0] using h
  have e2 : PyData.depth (.list ds) ≤ 64 := by
    simp only [PyData.depth]
    omega
  unfold SeqAt.shaped
  rw [e1, decide_eq_true e2]
  rfl
theorem shapedT {ds : List PyData} (h : PyData.canLayAll0 ds = true) (q : PyData.depthAll ds ≤ 50) : SeqAt.shaped (.tuple ds) = true := by
  have e1 : PyData.canLay0 (.tuple ds) = true := by simpa [PyData.canLay0] using h
  have e2 : PyData.depth (.tuple ds) ≤ 64 := by
    simp only [PyData.depth]
    omega
  unfold SeqAt.shaped
  rw [e1, decide_eq_true e2]
  rfl
theorem so_in : SOp ℓ X.K (rInA X.K) gIn := ⟨fun {g H n x y dx dy P Q} ok ex ey q k => by
  cases ey with
  | str t =>
    cases ex with
    | str u =>
      match u, q with
      | [], q => exact False.elim q
      | c :: _ :: _, q => exact False.elim q
      | [c], q => exact .inl ⟨c, _, rfl, rfl, k.flat ok q (.bl _)⟩
    | _ => exact False.elim q
  | lst h1 h2 =>
    obtain ⟨q1, q2⟩ := q
    have z := k.flat ok q2 (.bl _)
    rcases in_cases ok ex h2 q1 with ⟨a, b, c⟩ | ⟨d, ds, a, b, c, e, e5, f⟩
    · exact .inr (.inl ⟨_, _, rfl, .inl (SqL.of (ok.sub _ _ h1)), a, b, by rw [if_neg (by decide), c]; exact z⟩)
    · exact .inr (.inr (.inl ⟨d, ds, a, .lst (SqL.of (ok.sub _ _ h1)) b, c, shapedL e e5, by rw [f]; exact z⟩))
  | tup h1 h2 =>
    obtain ⟨q1, q2⟩ := q
    have z := k.flat ok q2 (.bl _)
    rcases in_cases ok ex h2 q1 with ⟨a, b, c⟩ | ⟨d, ds, a, b, c, e, e5, f⟩
    · exact .inr (.inl ⟨_, _, rfl, .inr (Or.inl (h1.same ok.sub)), a, b, by rw [if_neg (by decide), c]; exact z⟩)
    · exact .inr (.inr (.inr ⟨d, ds, a, .tup (Or.inl (h1.same ok.sub)) b, c, shapedT e e5, by rw [f]; exact z⟩))
  | tupK h1 h2 =>
    obtain ⟨q1, q2⟩ := q
    have z := k.flat ok q2 (.bl _)
    rcases in_cases ok ex h2 q1 with ⟨a, b, c⟩ | ⟨d, ds, a, b, c, e, e5, f⟩
    · exact .inr (.inl ⟨_, _, rfl, .inr (h1 _), a, b, by rw [if_neg (by decide), c]; exact z⟩)
    · exact .inr (.inr (.inr ⟨d, ds, a, .tup (h1 _) b, c, shapedT e e5, by rw [f]; exact z⟩))
  | _ => exact q.elim⟩
end
def isNon : D → Bool
  | .non => true
  | _ => false
def gIs : G2 := fun x y P => match y with
  | .non => P (.bl (isNon x))
  | _ => False
def gIsNot : G2 := fun x y P => match y with
  | .non => P (.bl (!isNon x))
  | _ => False
theorem isNon_of {K : PySem.W.Frag} {g : Gh} {v : V} {d : D} (h : Den K g v d) : decide (v = .non) = isNon d := by
  cases h <;> simp [isNon]
section
variable {X : Cx}
theorem so_is : SOp ℓ X.K (fun x y H Q => y = .non ∧ Q (.bl (decide (x = .non))) H) gIs := ⟨fun {g H n x y dx dy P Q} ok ex ey q k => by
  cases ey with
  | non => exact ⟨rfl, by rw [isNon_of ex]; exact k.flat ok q (.bl _)⟩
  | _ => exact q.elim⟩
theorem so_isNot : SOp ℓ X.K (fun x y H Q => y = .non ∧ Q (.bl (!decide (x = .non))) H) gIsNot := ⟨fun {g H n x y dx dy P Q} ok ex ey q k => by
  cases ey with
  | non => exact ⟨rfl, by rw [isNon_of ex]; exact k.flat ok q (.bl _)⟩
  | _ => exact q.elim⟩
end
end Pd
namespace L2
open PySem PySem.Spec PyProof.Rows
section
variable {prog : Program} {w : World} {A : Around} {E : Value → Shared → Prop} {s : Shared}
theorem sliceApplied_rev {sl : Addr} {vl vu vs : Value} {n : Nat} {Q : Int × Int × Nat → Shared → Prop} (hs : s.heap.IsSliceOf sl vl vu vs) (pl : IsPart vl none) (pu : IsPart vu none) (ps : IsPart vs (some (-1)))
    (h : Q ((n : Int) - 1, -1, n) s) : wpAny (model prog w) A (Builtin.Slice.sliceApplied (.ref sl) (pure (n : Int))) Q E s := by
  obtain ⟨os, hos, hcs, hds⟩ := id hs
  unfold Builtin.Slice.sliceApplied Builtin.Slice.sliceFields
  refine wpAny_bind (wpAny_bind (wpAny_field hos hds (x := vl) rfl (wpAny_bind (wpAny_field hos hds (x := vu) rfl (wpAny_bind (wpAny_field hos hds (x := vs) rfl (wpAny_pure ?_)))))))
  refine wpAny_bind (HT.slicePart_ ps ?_)
  show wpAny _ _ (if ((-1 : Int) == 0) = true then _ else _) _ _ s
  rw [if_neg (by decide)]
  refine wpAny_bind (HT.slicePart_ pl (wpAny_bind (HT.slicePart_ pu (wpAny_bind (wpAny_pure ?_)))))
  show wpAny _ _ (match Builtin.Slice.sliceAdjust none none (-1) (n : Int) with | (lo, hi) => pure (lo, (-1 : Int), Builtin.Slice.slicePlaces lo hi (-1))) _ _ s
  have e : Builtin.Slice.sliceAdjust none none (-1) (n : Int) = ((n : Int) - 1, -1) := by
    unfold Builtin.Slice.sliceAdjust
    simp
  rw [e]
  show wpAny _ _ (pure ((n : Int) - 1, (-1 : Int), Builtin.Slice.slicePlaces ((n : Int) - 1) (-1) (-1))) _ _ s
  have e2 : Builtin.Slice.slicePlaces ((n : Int) - 1) (-1) (-1) = n := by
    unfold Builtin.Slice.slicePlaces
    have h1 : ¬ ((-1 : Int) > 0) := by omega
    simp only [h1, if_false]
    rw [show (- -1 : Int) = 1 by decide, Int.ediv_one]
    split <;> omega
  rw [e2]
  exact wpAny_pure h
theorem pick_rev (xs : Array Value) : ((List.range xs.size).filterMap fun (m : Nat) => xs[((xs.size : Int) - 1 + (m : Int) * (-1)).toNat]?).toArray = xs.toList.reverse.toArray := by
  have e : ((List.range xs.size).filterMap fun (m : Nat) => xs[((xs.size : Int) - 1 + (m : Int) * (-1)).toNat]?) = ((List.range xs.size).map fun k => xs.size - 1 - k).filterMap (xs[·]?) := by
    rw [List.filterMap_map]
    congr 1
    funext m
    show xs[((xs.size : Int) - 1 + (m : Int) * (-1)).toNat]? = xs[xs.size - 1 - m]?
    congr 1
    omega
  rw [e, PySem.W.krv_range, List.filterMap_reverse, PySem.W.krv_all]
theorem getItem_tuple_rev {t sl : Addr} {items : Array Value} {vl vu vs : Value} {Q : Value → Shared → Prop} (ht : IsTup s.heap t items) (hs : s.heap.IsSliceOf sl vl vu vs) (pl : IsPart vl none) (pu : IsPart vu none) (ps : IsPart vs (some (-1)))
    (h : Q (.ref s.heap.objs.size) { s with heap := s.heap.push { cls := .type "tuple", data := .seq items.toList.reverse.toArray } })
    (hsz : items.size ≤ sizeLine) : wpAny (model prog w) A (getItem (.ref t) (.ref sl)) Q E s := by
  have htake : sizeOk (.seq items.toList.reverse.toArray) := by
    show items.toList.reverse.toArray.size ≤ sizeLine
    rw [List.size_toArray, List.length_reverse, Array.length_toList]
    exact hsz
  obtain ⟨os, hos, hcs, hds⟩ := id hs
  have hTs : s.TypeIs (.ref sl) "slice" := ⟨os, hos, hcs⟩
  unfold getItem
  try with_reducible refine wpAny_holding ?_
  first | refine wpAny_bind (wpAny_pure ?_) | skip
  refine wpAny_bind (wpAny_sequenceKey ht.typeIs (by decide) ?_)
  refine wpAny_bind (wpAny_callSpecial?_slot (name := Str.ofString "__getitem__") ht.typeIs PyProof.Rows.slot_tuple_getitem
    (wpAny_call_entry PyProof.Rows.slot_tuple_getitem ht.typeIs entry_tuple_getitem ?_ (args_tuple_getitem _ _)))
  show wpAny _ _ (Builtin.Tuple.tupleItemsOf (.ref t) >>= _) _ _ s
  refine wpAny_bind (tupleItemsOf_ ht ?_)
  refine wpAny_bind (wpAny_typeOf hTs ?_)
  rw [if_pos (by decide)]
  refine wpAny_bind (sliceApplied_rev hs pl pu ps ?_)
  have hno : ¬ ((((items.size : Int) - 1) == 0 && (-1 : Int) == 1 && items.size == items.size) = true) := by
    simp
  show wpAny _ _ (if (((items.size : Int) - 1) == 0 && (-1 : Int) == 1 && items.size == items.size) = true then _ else _) _ _ s
  rw [if_neg hno, pick_rev]
  first
    | exact wpAny_bind (m := Builtin.Tuple.tupleExact _) (wpAny_newObj_type (wpAny_pure ⟨_, rfl, wpAny_pure h⟩) htake)
    | exact wpAny_bind (m := Builtin.Tuple.tupleExact _) (wpAny_newObj_type (wpAny_bind (wpAny_pure (wpAny_pure ⟨_, rfl, wpAny_pure h⟩))) htake)
    | exact wpAny_bind (wpAny_bind (m := Builtin.Tuple.tupleExact _) (wpAny_newObj_type (wpAny_pure (wpAny_pure ⟨_, rfl, wpAny_pure h⟩)) htake))
    | exact wpAny_bind (wpAny_bind (m := Builtin.Tuple.tupleExact _) (wpAny_newObj_type (wpAny_pure ⟨_, rfl, wpAny_pure h⟩) htake))
end
end L2
namespace L2
open PySem PySem.Spec PyProof.Rows
theorem str_rev_idx (z : Str) : (Builtin.Str.strSliceIndices none none (-1) z.length).filterMap (z.cps[·]?) = z.cps.toList.reverse := by
  have e : Builtin.Str.strSliceIndices none none (-1) z.length = (List.range z.cps.size).map fun k => z.cps.size - 1 - k := by
    show Builtin.Str.strSliceIndices none none (-1) z.cps.size = _
    unfold Builtin.Str.strSliceIndices
    have h1 : ¬ ((-1 : Int) > 0) := by decide
    simp only [h1, if_false]
    exact PySem.W.krv_sliceRange _
  rw [e, PySem.W.krv_range, List.filterMap_reverse, PySem.W.krv_all]
def tRevA (K : PySem.W.Frag) (te : TE) : TE := fun σ H Q => te σ H fun x H1 => (∃ a xs, x = .ref a ∧ SqL K H1 a xs ∧ ∀ p, H1 p = none → Q (.ref p) (upd H1 p (.lst xs.reverse))) ∨
  (∃ a xs, x = .ref a ∧ SqT K H1 a xs ∧ ∀ p, H1 p = none → Q (.ref p) (upd H1 p (.tup xs.reverse))) ∨ ∃ z : Str, x = .str z ∧ z.length ≤ sizeLine ∧ Q (.str ⟨z.cps.toList.reverse.toArray⟩) H1
theorem pe_revA {X : Cx} {e : Expr} {te : TE} {k : Nat} {p1 p2 p3 pos : Pos} (he : PE X e te) : PE X (.Subscript e (.Slice none none (some (.UnaryOp .USub (.Constant (.int 1) k p1) p2)) p3) pos) (tRevA X.K te) := by
  refine ⟨fun pins s σ H Q I h => ?_⟩
  refine Subscript_ (thn (he.run pins s σ H _ I h) fun v s1 ⟨x, H1, I1, r1, q1⟩ => ?_)
  have hst : PO X (some (.UnaryOp .USub (.Constant (.int 1) k p1) p2)) (tPart (tUn (rU fun i => .int (-i)) (tC (.int 1)))) := po_some (pe_un un_neg pe_int)
  refine wpAny_Slice (thn (po_none.run pins s1 σ H1 (fun o H2 => o = none ∧ H2 = H1) I1 ⟨rfl, rfl⟩) fun vl s2 ⟨l, H2, I2, pl, el, e2⟩ => ?_)
  subst el e2
  refine thn (po_none.run pins s2 σ H2 (fun o H3 => o = none ∧ H3 = H2) I2 ⟨rfl, rfl⟩) fun vu s3 ⟨u, H3, I3, pu, eu, e3⟩ => ?_
  subst eu e3
  refine thn (hst.run pins s3 σ H3 (fun o H4 => o = some (-1) ∧ H4 = H3) I3 ⟨1, rfl, -1, rfl, rfl, rfl⟩) fun vs s4 ⟨o, H4, I4, ps, eo, e4⟩ => ?_
  subst eo e4
  have I5 : Inv X pins σ H4 { s4 with heap := s4.heap.push { cls := .type "slice", data := .fields #[vl, vu, vs] } } := I4.kept (t' := s4.toks) fun b ob q => Heap.get?_push_of_some _ q
  show wpAny (model X.prog X.w) X.A (subscriptTail e (.Slice none none (some (.UnaryOp .USub (.Constant (.int 1) k p1) p2)) p3) v (.ref s4.heap.objs.size)) (EP X pins σ Q) X.xe { s4 with heap := s4.heap.push { cls := .type "slice", data := .fields #[vl, vu, vs] } }
  rcases q1 with ⟨a, xs, ex, hx, q⟩ | ⟨a, xs, ex, hx, q⟩ | ⟨z, ex, hz, q⟩
  · subst ex
    cases r1
    obtain ⟨its, r, ht, hz⟩ := I5.list hx
    have hlen := r.length
    refine tail_any (ops := [.ref a, .ref s4.heap.objs.size]) ht.isList.typeIs (PySem.slot_list_getitem.lookup) ?_ (by with_unfolding_all rfl)
    refine wpAny_getItem_list_slice ht.isList (Heap.IsSliceOf.new _ vl vu vs) pl pu ps (by decide) ?_ (by rw [List.size_toArray]; omega)
    rw [PySem.W.krv_pick]
    refine ⟨.ref _, _, I5.laid (t' := s4.toks) (o := .lst xs.reverse) (fun b ob q => Heap.get?_push_of_some _ q) (Nat.le_refl _) ?_, rfl, q _ (I5.hok.fresh (Nat.le_refl _))⟩
    exact ⟨by rw [List.length_reverse]; exact hz, _, 0, r.reverse, Heap.get?_push_size _ rfl⟩
  · subst ex
    cases r1
    obtain ⟨its, r, ht, hz⟩ := I5.tuple hx
    have hlen := r.length
    refine tail_any (ops := [.ref a, .ref s4.heap.objs.size]) ht.typeIs (PyProof.Rows.slot_tuple_getitem.lookup) ?_ (by with_unfolding_all rfl)
    refine getItem_tuple_rev ht (Heap.IsSliceOf.new _ vl vu vs) pl pu ps ?_ (by rw [List.size_toArray]; omega)
    refine ⟨.ref _, _, I5.laid (t' := s4.toks) (o := .tup xs.reverse) (fun b ob q => Heap.get?_push_of_some _ q) (Nat.le_refl _) ?_, rfl, q _ (I5.hok.fresh (Nat.le_refl _))⟩
    exact ⟨by rw [List.length_reverse]; exact hz, _, r.reverse, IsTup.new _ _⟩
  · subst ex
    obtain ⟨t, rfl⟩ := r1
    obtain ⟨l', rfl, el⟩ := IsPart.raw pl
    obtain ⟨u', rfl, eu⟩ := IsPart.raw pu
    obtain ⟨s', rfl, es⟩ := IsPart.raw ps
    have l0 : l' = none := by cases l' with
      | none => rfl
      | some _ => cases el
    have u0 : u' = none := by cases u' with
      | none => rfl
      | some _ => cases eu
    subst l0 u0
    refine tail_any (ops := [.str z t, .ref s4.heap.objs.size]) (typeIs_str _ _ _) F.slot_str_getitem.lookup ?_ (by with_unfolding_all rfl)
    refine wpAny_getItem_str_slice (l := none) (u := none) (st := s') ⟨_, Heap.get?_push_size _ rfl, rfl, rfl⟩ (by rw [es]; rfl) ?_
    unfold sliceMade
    have hn : ¬ (((s'.map (·.1)).getD 1 == 1 && (slicePicked z none none s').length == z.length) = true) := by
      rw [es]
      simp
    rw [if_neg hn]
    have e5 : (slicePicked z none none s').filterMap (z.cps[·]?) = z.cps.toList.reverse := by
      have : slicePicked z none none s' = Builtin.Str.strSliceIndices none none ((s'.map (·.1)).getD 1) z.length := rfl
      rw [this, es]
      exact str_rev_idx z
    rw [e5]
    refine ⟨?_, .str _, H4, I5.tok _, ⟨_, rfl⟩, q⟩
    show z.cps.toList.reverse.toArray.size ≤ sizeLine
    rw [List.size_toArray, List.length_reverse, Array.length_toList]
    exact hz
end L2
namespace Pd
variable {ℓ : Bool}
open PySem L2
variable {W : WX}
theorem Dens.atI {K : PySem.W.Frag} {g : Gh} {vs : List V} {ds : List D} (h : Dens K g vs ds) {i : Int} {d : D} (e : L2.atI ds i = some d) : ∃ v, L2.atI vs i = some v ∧ Den K g v d := by
  unfold L2.atI at e ⊢
  rw [h.length]
  cases z : ixN ds.length i with
  | none =>
    rw [z] at e
    cases e
  | some j =>
    rw [z] at e
    exact h.get e
def gIx : G2 := fun x y P => match y with
  | .int i => match x with
    | .lst xs => ∃ d, L2.atI xs i = some d ∧ P d
    | .tup xs => ∃ d, L2.atI xs i = some d ∧ P d
    | .tupK xs => ∃ d, L2.atI xs i = some d ∧ P d
    | .str l => l.length ≤ 16777216 ∧ ∃ c, L2.atI l i = some c ∧ P (.str [c])
    | .scr ns => ∃ k, L2.atI ns i = some k ∧ P (.int k)
    | _ => False
  | _ => False
theorem atI_map {α β : Type} (f : α → β) {xs : List α} {i : Int} {x : α} (h : L2.atI xs i = some x) : L2.atI (xs.map f) i = some (f x) := by
  unfold L2.atI at h ⊢
  rw [List.length_map]
  cases z : ixN xs.length i with
  | none =>
    rw [z] at h
    cases h
  | some j =>
    rw [z] at h
    have h' : xs[j]? = some x := h
    show (xs.map f)[j]? = some (f x)
    rw [List.getElem?_map, h']
    rfl
theorem so_ix {K : PySem.W.Frag} : SOp ℓ K (rIx K) gIx := ⟨fun {g H n x y dx dy P Q} ok ex ey q k => by
  cases ey with
  | int i =>
    cases ex with
    | lst h1 h2 =>
      obtain ⟨d, q1, q2⟩ := q
      obtain ⟨v, e, dv⟩ := h2.atI q1
      exact .inl ⟨_, _, i, v, rfl, rfl, SqL.of (ok.sub _ _ h1), e, k.flat ok q2 dv⟩
    | tup h1 h2 =>
      obtain ⟨d, q1, q2⟩ := q
      obtain ⟨v, e, dv⟩ := h2.atI q1
      exact .inr (.inl ⟨_, _, i, v, rfl, rfl, Or.inl (h1.same ok.sub), e, k.flat ok q2 dv⟩)
    | tupK h1 h2 =>
      obtain ⟨d, q1, q2⟩ := q
      obtain ⟨v, e, dv⟩ := h2.atI q1
      exact .inr (.inl ⟨_, _, i, v, rfl, rfl, h1 _, e, k.flat ok q2 dv⟩)
    | str l =>
      obtain ⟨hl, c, q1, q2⟩ := q
      exact .inr (.inr ⟨_, i, c, rfl, rfl, sz hl, q1, k.flat ok q2 (.str [c])⟩)
    | scr h =>
      obtain ⟨c, q1, q2⟩ := q
      exact .inl ⟨_, _, i, .int c, rfl, rfl, ok.sub.seq h, atI_map V.int q1, k.flat ok q2 (.int c)⟩
    | _ => exact q.elim
  | _ => exact q.elim⟩
def cut {α : Type} (xs : List α) (lo hi : Option Int) : List α := (xs.drop (HT.sIx xs.length 0 lo)).take (HT.sIx xs.length xs.length hi - HT.sIx xs.length 0 lo)
abbrev DP := Nat → Ev → (Nat → Option Int → Prop) → Prop
def liftP (ℓ : Bool) (K : PySem.W.Frag) (d : DP) : TO := fun σ H Q => ∃ O g n ε P, Rp ℓ K O g H n σ ε ∧ d n ε P ∧ ∀ o g' H' n', P n' o → Stp g H g' H' → Ok ℓ K g' H' n' → Q o H'
def pNo : DP := fun n _ P => P n none
def pSome (d : DE) : DP := fun n ε P => d n ε fun n' x => match x with
  | .int i => P n' (some i)
  | _ => False
def gSl : D → Option Int → Option Int → (D → Prop) → Prop := fun x lo hi P => match x with
  | .lst xs => P (.lst (cut xs lo hi))
  | .tup xs => P (.tup (cut xs lo hi))
  | .str l => l.length ≤ 16777216 ∧ P (.str (cut l lo hi))
  | _ => False
def dSl (d : DE) (l h : DP) : DE := fun n ε P => d n ε fun n1 x => l n1 ε fun n2 lo => h n2 ε fun n3 hi => gSl x lo hi (P n3)
def rSl (K : PySem.W.Frag) : V → Option Int → Option Int → Hp → VK → Prop := fun x lo hi H Q => rSlL K x lo hi H Q ∨ rSlA K x lo hi H Q ∨ rSlS x lo hi H Q
theorem Dens.cut {K : PySem.W.Frag} {g : Gh} {vs : List V} {ds : List D} (h : Dens K g vs ds) (lo hi : Option Int) : Dens K g (cutV vs lo hi) (Pd.cut ds lo hi) := by
  unfold cutV Pd.cut
  rw [h.length]
  exact (h.drop _).take _
theorem cut_whole {α : Type} {xs : List α} {lo hi : Option Int} (h : HT.sIx xs.length 0 lo = 0 ∧ HT.sIx xs.length xs.length hi = xs.length) : cut xs lo hi = xs := by
  unfold cut
  rw [h.1, h.2]
  simp
section
variable {X : Cx} {pos p2 : Pos} {e : Expr} {lo hi : Option Expr} {a b : Expr} {d da db : DE} {dl dh : DP}
theorem dp_no : PO X none (liftP ℓ X.K pNo) := ⟨fun pins s σ H Q I ⟨O, g, n, ε, P, r, q, k⟩ => po_none.run pins s σ H Q I (k none g H n q (Stp.refl g H) r.ok)⟩
theorem dp_some (h : PE X e (liftE ℓ X.K d)) : PO X (some e) (liftP ℓ X.K (pSome d)) := ⟨fun pins s σ H Q I ⟨O, g, n, ε, P, r, q, k⟩ => (po_some h).run pins s σ H Q I ⟨O, g, n, ε, _, r, q, fun v g1 H1 n1 x q1 s1 o1 e1 => by
  cases e1 with
  | int i => exact ⟨i, rfl, k _ g1 H1 n1 q1 s1 o1⟩
  | _ => exact q1.elim⟩⟩
theorem de_ix (ha : PE X a (liftE ℓ X.K da)) (hb : PE X b (liftE ℓ X.K db)) (hs : PlainIx b := by intro _ _; rfl) : PE X (.Subscript a b pos) (liftE ℓ X.K (dOp gIx da db)) :=
  de_of (pe_ix ix_seq ha hb hs) fun O g H n σ ε P Q r q k => two_ok r q fun x y g' H' n' dx dy q2 s o e1 e2 => so_ix.ok o e1 e2 q2 (Fin.of k s)
theorem sl_ok {K : PySem.W.Frag} {g : Gh} {H : Hp} {n : Nat} {x : V} {dx : D} {l u : Option Int} {P : D → Prop} {Q : VK} (ok : Ok ℓ K g H n) (ex : Den K g x dx) (q : gSl dx l u P) (k : Fin ℓ K g H n P Q) : rSl K x l u H Q := by
  cases ex with
  | lst h1 h2 => exact .inl ⟨_, _, rfl, SqL.of (ok.sub _ _ h1), fun p hp => k.newL ok q (h2.cut l u) hp⟩
  | tup h1 h2 =>
    refine .inr (.inl ⟨_, _, rfl, Or.inl (h1.same ok.sub), fun w => ?_, fun _ p hp => k.newT ok q (h2.cut l u) hp⟩)
    rw [h2.length] at w
    have q' : P _ := q
    rw [cut_whole w] at q'
    exact k.flat ok q' (.tup h1 h2)
  | str s =>
    refine .inr (.inr ⟨_, rfl, sz q.1, ?_⟩)
    have q' := k.flat ok q.2 (.str _)
    have e : cutS ⟨s.toArray⟩ l u = ⟨(Pd.cut s l u).toArray⟩ := by
      unfold cutS Pd.cut
      rfl
    rw [e]
    exact q'
  | _ => exact q.elim
theorem de_sl (he : PE X e (liftE ℓ X.K d)) (hl : PO X lo (liftP ℓ X.K dl)) (hu : PO X hi (liftP ℓ X.K dh)) : PE X (.Subscript e (.Slice lo hi none p2) pos) (liftE ℓ X.K (dSl d dl dh)) :=
  de_of (pe_slice (r := rSl X.K) (sl_list.or (sl_tupA.or sl_str)) he hl hu) fun O g H n σ ε P Q r q k => ⟨O, g, n, ε, _, r, q, fun v g1 H1 n1 x q1 s1 o1 e1 => ⟨O, g1, n1, ε, _, r.step s1 o1, q1, fun l g2 H2 n2 q2 s2 o2 => ⟨O, g2, n2, ε, _, (r.step s1 o1).step s2 o2, q2, fun u g3 H3 n3 q3 s3 o3 =>
    sl_ok o3 (e1.mono (s2.trans s3).ext) q3 (Fin.of k ((s1.trans s2).trans s3))⟩⟩⟩
def dRev (d : DE) : DE := fun n ε P => d n ε fun n1 x => match x with
  | .lst xs => P n1 (.lst xs.reverse)
  | .tup xs => P n1 (.tup xs.reverse)
  | .str l => l.length ≤ 16777216 ∧ P n1 (.str l.reverse)
  | _ => False
theorem de_rev {k : Nat} {p1 p3 : Pos} (he : PE X e (liftE ℓ X.K d)) : PE X (.Subscript e (.Slice none none (some (.UnaryOp .USub (.Constant (.int 1) k p1) p2)) p3) pos) (liftE ℓ X.K (dRev d)) :=
  de_of (pe_revA he) fun O g H n σ ε P Q r q kk => ⟨O, g, n, ε, _, r, q, fun v g1 H1 n1 x q1 s1 o1 e1 => by
    have f : Fin ℓ X.K g1 H1 n1 (P n1) Q := Fin.of kk s1
    cases e1 with
    | lst h1 h2 => exact .inl ⟨_, _, rfl, SqL.of (o1.sub _ _ h1), fun p hp => f.newL o1 q1 h2.reverse hp⟩
    | tup h1 h2 => exact .inr (.inl ⟨_, _, rfl, Or.inl (h1.same o1.sub), fun p hp => f.newT o1 q1 h2.reverse hp⟩)
    | str s => exact .inr (.inr ⟨_, rfl, sz q1.1, f.flat o1 q1.2 (.str _)⟩)
    | _ => exact q1.elim⟩
def dTmp (i : Nat) (d : DE) : DE := fun n ε P => d n (frzE ε i) fun n' r => flatD r = true ∧ P n' r
def dTmpT (i : Nat) (t : DT) : DT := fun n ε P => t n (frzE ε i) P
theorem dt_tmp {t : DT} (i : Nat) (h : PT X e (liftT false X.K t)) : PT X e (liftT false X.K (dTmpT i t)) := pt_w h fun σ H Q ⟨O, g, n, ε, P, r, q, k⟩ => by
  obtain ⟨g1, r1, back⟩ := r.tmp i
  exact ⟨O, g1, n, _, _, r1, q, fun v g' H' n' q1 s1 o1 => by
    obtain ⟨g2, s2, o2⟩ := back g' H' n' s1 o1
    exact k v g2 H' n' q1 s2 o2⟩
def dIxO (i : Nat) (d : DE) : DE := fun n ε P => match ε[i]? with
  | some (.own (.lst ds)) => d n ε fun n1 x => match x with
    | .int j => ∃ y, L2.atI ds j = some y ∧ P n1 y
    | _ => False
  | _ => False
theorem de_ixO {i : Nat} (ha : PE X a (tVar i)) (hb : PE X b (liftE ℓ X.K db)) (hs : PlainIx b := by intro _ _; rfl) : PE X (.Subscript a b pos) (liftE ℓ X.K (dIxO i db)) :=
  de_of (pe_ix ix_seq ha hb hs) fun O g H n σ ε P Q r q k => by
    unfold dIxO at q
    split at q
    · rename_i ds ei
      obtain ⟨p, o, w1, w2, w3, w4, w5, w6⟩ := r.sl i _ ei
      refine ⟨_, w1, O, g, n, ε, _, r, q, fun v g1 H1 n1 x q1 s1 o1 e1 => ?_⟩
      cases e1 with
      | int j =>
        obtain ⟨y, q2, q3⟩ := q1
        obtain ⟨vs, rfl, dd⟩ := w6
        obtain ⟨u, e, du⟩ := (dd.mono s1.ext).atI q2
        have hp : H1 p = some (.lst vs) := s1.kep p _ w5 w4
        exact .inl ⟨p, vs, j, u, rfl, rfl, SqL.of hp, e, k u g1 H1 n1 y q3 s1 o1 du⟩
      | _ => exact q1.elim
    · exact q.elim
def dSlO (i : Nat) (l h : DP) : DE := fun n ε P => match ε[i]? with
  | some (.own (.lst ds)) => l n ε fun n2 lo => h n2 ε fun n3 hi => P n3 (.lst (cut ds lo hi))
  | _ => False
def dApp (i : Nat) (d : DE) : DS := fun N n ε => match ε[i]? with
  | some (.own (.lst ds)) => d n ε fun n1 x => ds.length < 16777216 ∧ N.nx n1 (ε.set i (.own (.lst (ds ++ [x]))))
  | _ => False
def dExt (i : Nat) (d : DE) : DS := fun N n ε => match ε[i]? with
  | some (.own (.lst ds)) => d n ε fun n1 x => match x with
    | .lst es => ds.length + es.length ≤ 16777216 ∧ N.nx n1 (ε.set i (.own (.lst (ds ++ es))))
    | _ => False
  | _ => False
def dSetI (i : Nat) (dk d : DE) : DS := fun N n ε => match ε[i]? with
  | some (.own (.lst ds)) => d n ε fun n1 x => dk n1 ε fun n2 y => match y with
    | .int k => ∃ j, ixN ds.length k = some j ∧ N.nx n2 (ε.set i (.own (.lst (ds.set j x))))
    | _ => False
  | _ => False
def dAugI (f : Int → Int → Int) (i : Nat) (d : DE) : DS := fun N n ε => match ε[i]? with
  | some (.val (.int a)) => d n ε fun n1 y => match y with
    | .int b => N.nx n1 (ε.set i (.val (.int (f a b))))
    | _ => False
  | _ => False
end
theorem tyV_own {K : PySem.W.Frag} {H : Hp} {p : Addr} {vs : List V} (h : H p = some (.lst vs)) : tyV K "list" (.ref p) H := .inl ⟨rfl, vs, SqL.of h⟩
section
variable {X : Cx} {pos apos p2 : Pos} {o e : Expr} {d di : DE} {i : Nat}
theorem ds_app (ho : PE X o (tVar i)) (he : PE X e (liftE ℓ X.K d)) (hs : swapsWith (.Call (.Attribute o "append" apos) [e] [] pos) none p2.line X.env = pure false := by rfl)
    (hbase : attributeBase o "append" X.env (eval o X.env) = eval o X.env := by rfl)
    (hfew : ((backTo pos (starEach [e] X.env)).all (fun x => !x.1) && (backToKw pos (keywordEach [] X.env)).all (fun x => x.1.isSome)
      && decide (([e] : List Expr).length + ([] : List Keyword).length + (if ([] : List Keyword).isEmpty then 0 else 1) < 30)) = true := by rfl)
    (hline : (apos.endLine == pos.line) = true := by rfl) (hst : starEach [e] X.env = (false, eval e X.env) :: starEach [] X.env := by rfl) : PS X (.Expr (.Call (.Attribute o "append" apos) [e] [] pos) p2) (liftS ℓ W X.K (dApp i d)) :=
  ps_w (ps_expr (pe_bm PySem.F.plainAttrs_list PySem.F.slot_list_append PySem.F.type_list_append mt_append ho (pa_cons he pa_nil hst) hbase hfew hline hst) hs) fun E σ H ⟨U, g0, H0, g, n, ε, N, uo, r, s0, q, k1, k2, k3, k4⟩ => by
    unfold dApp at q
    split at q
    · rename_i ds ei
      obtain ⟨p, ob, w1, w2, w3, w4, w5, w6⟩ := r.sl i _ ei
      obtain ⟨vs, rfl, dd⟩ := w6
      refine ⟨_, w1, tyV_own w5, _, g, n, ε, _, r, q, fun v g1 H1 n1 x q1 s1 o1 e1 => ?_⟩
      obtain ⟨hl, q2⟩ := q1
      have hp : H1 p = some (.lst vs) := s1.kep p _ w5 w4
      refine ⟨p, vs, v, rfl, rfl, hp, by rw [dd.length, sizeLine_eq]; exact hl, ?_⟩
      have r1 := r.step s1 o1
      exact k1 σ g1 _ n1 _ q2 (r1.mut ei w1 ⟨_, rfl, (dd.mono s1.ext).append (.cons e1 .nil)⟩ fun z => ⟨z.1, uo.lst _ _⟩) ((s0.trans s1).mut w2.1)
    · exact q.elim
theorem ds_ext (ho : PE X o (tVar i)) (he : PE X e (liftE ℓ X.K d)) (hs : swapsWith (.Call (.Attribute o "extend" apos) [e] [] pos) none p2.line X.env = pure false := by rfl)
    (hbase : attributeBase o "extend" X.env (eval o X.env) = eval o X.env := by rfl)
    (hfew : ((backTo pos (starEach [e] X.env)).all (fun x => !x.1) && (backToKw pos (keywordEach [] X.env)).all (fun x => x.1.isSome)
      && decide (([e] : List Expr).length + ([] : List Keyword).length + (if ([] : List Keyword).isEmpty then 0 else 1) < 30)) = true := by rfl)
    (hline : (apos.endLine == pos.line) = true := by rfl) (hst : starEach [e] X.env = (false, eval e X.env) :: starEach [] X.env := by rfl) : PS X (.Expr (.Call (.Attribute o "extend" apos) [e] [] pos) p2) (liftS ℓ W X.K (dExt i d)) :=
  ps_w (ps_expr (pe_bm PySem.F.plainAttrs_list PySem.F.slot_list_extend PySem.F.type_list_extend mt_extend ho (pa_cons he pa_nil hst) hbase hfew hline hst) hs) fun E σ H ⟨U, g0, H0, g, n, ε, N, uo, r, s0, q, k1, k2, k3, k4⟩ => by
    unfold dExt at q
    split at q
    · rename_i ds ei
      obtain ⟨p, ob, w1, w2, w3, w4, w5, w6⟩ := r.sl i _ ei
      obtain ⟨vs, rfl, dd⟩ := w6
      refine ⟨_, w1, tyV_own w5, _, g, n, ε, _, r, q, fun v g1 H1 n1 x q1 s1 o1 e1 => ?_⟩
      cases e1 with
      | lst h1 h2 =>
        obtain ⟨hl, q2⟩ := q1
        have hp : H1 p = some (.lst vs) := s1.kep p _ w5 w4
        refine ⟨p, _, vs, _, rfl, rfl, hp, o1.sub _ _ h1, by rw [dd.length, h2.length]; exact sz hl, ?_⟩
        have r1 := r.step s1 o1
        exact k1 σ g1 _ n1 _ q2 (r1.mut ei w1 ⟨_, rfl, (dd.mono s1.ext).append h2⟩ fun z => ⟨z.1, uo.lst _ _⟩) ((s0.trans s1).mut w2.1)
      | _ => exact q1.elim
    · exact q.elim
theorem Dens.len {K : PySem.W.Frag} {g : Gh} {vs : List V} {ds : List D} (h : Dens K g vs ds) : vs.length = ds.length := h.length
theorem ds_setI {ix : Expr} (ho : PE X o (tVar i)) (hi : PE X ix (liftE ℓ X.K di)) (he : PE X e (liftE ℓ X.K d)) (hs : swapsWithSole [.Subscript o ix pos] e p2.line X.env = pure false := by rfl) (hw : swappedStores [.Subscript o ix pos] e X.env = pure none := by rfl)
    (h1 : (assignEach [.Subscript o ix pos] X.env).map (·.2) = [assign (.Subscript o ix pos) X.env] := by rfl)
    (ha : ∀ v, assign (.Subscript o ix pos) X.env v = (do
      let ov ← holding [v] (eval o X.env)
      let iv ← holding [v, ov] (eval ix X.env)
      standAt pos
      holding [v, ov, iv] (setItem ov iv v)
      release [v, ov, iv] []) := by intro _; rfl) : PS X (.Assign [.Subscript o ix pos] e p2) (liftS ℓ W X.K (dSetI i di d)) :=
  ps_w (ps_asg he (pg_sub ho hi set_list ha) hs hw h1) fun E σ H ⟨U, g0, H0, g, n, ε, N, uo, r, s0, q, k1, k2, k3, k4⟩ => by
    unfold dSetI at q
    split at q
    · rename_i ds ei
      obtain ⟨p, ob, w1, w2, w3, w4, w5, w6⟩ := r.sl i _ ei
      obtain ⟨vs, rfl, dd⟩ := w6
      refine ⟨_, g, n, ε, _, r, q, fun v g1 H1 n1 x q1 s1 o1 e1 => ⟨_, w1, _, g1, n1, ε, _, r.step s1 o1, q1, fun y g2 H2 n2 z q2 s2 o2 e2 => ?_⟩⟩
      cases e2 with
      | int k =>
        obtain ⟨j, hj, q3⟩ := q2
        have s12 := s1.trans s2
        have hp : H2 p = some (.lst vs) := s12.kep p _ w5 w4
        refine ⟨p, vs, k, j, rfl, rfl, hp, by rw [dd.length]; exact hj, ?_⟩
        have r1 := r.step s12 o2
        exact k1 σ g2 _ n2 _ q3 (r1.mut ei w1 ⟨_, rfl, (dd.mono s12.ext).set (e1.mono s2.ext) j⟩ fun z => ⟨z.1, uo.lst _ _⟩) ((s0.trans s12).mut w2.1)
      | _ => exact q2.elim
    · exact q.elim
end
abbrev GC := List D → (D → Prop) → Prop
structure SCall (ℓ : Bool) (K : PySem.W.Frag) (r : List V → Hp → VK → Prop) (go : GC) : Prop where
  ok : ∀ {g : Gh} {H : Hp} {n : Nat} {xs : List V} {ds : List D} {P : D → Prop} {Q : VK}, Ok ℓ K g H n → Dens K g xs ds → go ds P → Fin ℓ K g H n P Q → r xs H Q
def dBi (go : GC) (t : DA) : DE := fun n ε P => t n ε fun n1 ds => go ds (P n1)
section
variable {X : Cx} {pos p : Pos} {e : Expr} {es : List Expr} {r : List V → Hp → VK → Prop} {go : GC} {t : DA} {id T : String} {x : Str}
theorem bi_ok {K : PySem.W.Frag} (hs : SCall ℓ K r go) : ∀ {σ : L2.St} {H : Hp} {Q : VK}, liftE ℓ K (dBi go t) σ H Q → liftA ℓ K t σ H fun xs H1 => r xs H1 Q := fun {σ H Q} ⟨O, g, n, ε, P, rr, q, k⟩ =>
  ⟨O, g, n, ε, _, rr, q, fun vs g1 H1 n1 ds q1 s1 o1 e1 => hs.ok o1 e1 q1 (Fin.of k s1)⟩
theorem de_bi (hc : CallR X (.builtin id) r) (hs : SCall ℓ X.K r go) (hg : Gl X x) (hm : X.mg x = none) (hv : bootBuiltins x = some (.builtin id)) (ha : PA X (e :: es) (liftA ℓ X.K t)) (hn : x ≠ "__name__" := by decide) (hdb : (x == ("__debug__" : Str)) = false := by decide)
    (he : starEach (e :: es) X.env = (false, eval e X.env) :: starEach es X.env := by rfl) (hpl : (backTo pos (starEach es X.env)).any (·.1) = false := by rfl) : PE X (.Call (.Name x p) (e :: es) [] pos) (liftE ℓ X.K (dBi go t)) :=
  pe_w (pe_callB hc hg hm hv ha hn hdb he hpl) fun σ H Q h => bi_ok hs h
theorem de_ty (hc : CallR X (.type T) r) (hs : SCall ℓ X.K r go) (hg : Gl X x) (hm : X.mg x = none) (hv : bootBuiltins x = some (.type T)) (ha : PA X (e :: es) (liftA ℓ X.K t)) (hn : x ≠ "__name__" := by decide) (hdb : (x == ("__debug__" : Str)) = false := by decide)
    (he : starEach (e :: es) X.env = (false, eval e X.env) :: starEach es X.env := by rfl) (hpl : (backTo pos (starEach es X.env)).any (·.1) = false := by rfl) : PE X (.Call (.Name x p) (e :: es) [] pos) (liftE ℓ X.K (dBi go t)) :=
  pe_w (pe_callTy hc hg hm hv ha hn hdb he hpl) fun σ H Q h => bi_ok hs h
end
end Pd
namespace Pd
variable {ℓ : Bool}
open PySem L2
def gAbs : GC := fun ds P => match ds with
  | [.int i] => P (.int (if i < 0 then -i else i))
  | _ => False
def gInt : GC := fun ds P => match ds with
  | [.int i] => P (.int i)
  | [.bl b] => P (.int (if b then 1 else 0))
  | [.str l] => l.length ≤ 640 ∧ ∃ n, PySem.intText? ⟨l.toArray⟩ = some n ∧ P (.int n)
  | _ => False
def numD (i : Int) : List Nat := (toString i : Str).cps.toList
def gStr : GC := fun ds P => match ds with
  | [.int i] => i.natAbs.log2 < 1920 ∧ P (.str (numD i))
  | [.str l] => P (.str l)
  | _ => False
def gLen : GC := fun ds P => match ds with
  | [.lst xs] => P (.int xs.length)
  | [.tup xs] => P (.int xs.length)
  | [.str l] => l.length ≤ 16777216 ∧ P (.int l.length)
  | [.scr ns] => P (.int ns.length)
  | _ => False
def sgn (l : List Nat) : List D := l.map fun c => .str [c]
def gList : GC := fun ds P => match ds with
  | [.lst xs] => P (.lst xs)
  | [.tup xs] => P (.lst xs)
  | [.tupK xs] => P (.lst xs)
  | [.str l] => l.length ≤ 16777216 ∧ P (.lst (sgn l))
  | _ => False
def gTuple : GC := fun ds P => match ds with
  | [.lst xs] => P (.tup xs)
  | [.tup xs] => P (.tup xs)
  | [.str l] => l.length ≤ 16777216 ∧ P (.tup (sgn l))
  | _ => False
def isInts : List D → Option (List Int)
  | [] => some []
  | .int i :: r => (isInts r).map (i :: ·)
  | _ :: _ => none
theorem isInts_map : ∀ {ds : List D} {ns : List Int}, isInts ds = some ns → ds = ns.map D.int
  | [], ns, h => by
    cases h
    rfl
  | .int i :: r, ns, h => by
    rw [isInts] at h
    cases e : isInts r with
    | none =>
      rw [e] at h
      cases h
    | some ms =>
      rw [e] at h
      cases h
      rw [isInts_map e]
      rfl
  | .non :: _, _, h => by cases h
  | .bl _ :: _, _, h => by cases h
  | .str _ :: _, _, h => by cases h
  | .lst _ :: _, _, h => by cases h
  | .tup _ :: _, _, h => by cases h
  | .obj _ _ :: _, _, h => by cases h
  | .pot :: _, _, h => by cases h
  | .cel _ _ :: _, _, h => by cases h
  | .scr _ :: _, _, h => by cases h
  | .ref _ :: _, _, h => by cases h
theorem map_isInts : ∀ (ns : List Int), isInts (ns.map D.int) = some ns
  | [] => rfl
  | n :: ns => by
    rw [List.map_cons, isInts, map_isInts ns]
    rfl
def isBls : List D → Option (List Bool)
  | [] => some []
  | .bl i :: r => (isBls r).map (i :: ·)
  | _ :: _ => none
theorem isBls_map : ∀ {ds : List D} {ns : List Bool}, isBls ds = some ns → ds = ns.map D.bl
  | [], ns, h => by
    cases h
    rfl
  | .bl i :: r, ns, h => by
    rw [isBls] at h
    cases e : isBls r with
    | none =>
      rw [e] at h
      cases h
    | some ms =>
      rw [e] at h
      cases h
      rw [isBls_map e]
      rfl
  | .non :: _, _, h => by cases h
  | .int _ :: _, _, h => by cases h
  | .str _ :: _, _, h => by cases h
  | .lst _ :: _, _, h => by cases h
  | .tup _ :: _, _, h => by cases h
  | .obj _ _ :: _, _, h => by cases h
  | .pot :: _, _, h => by cases h
  | .cel _ _ :: _, _, h => by cases h
  | .scr _ :: _, _, h => by cases h
  | .ref _ :: _, _, h => by cases h
theorem map_isBls : ∀ (ns : List Bool), isBls (ns.map D.bl) = some ns
  | [] => rfl
  | n :: ns => by
    rw [List.map_cons, isBls, map_isBls ns]
    rfl
def isStrs : List D → Option (List (List Nat))
  | [] => some []
  | .str i :: r => (isStrs r).map (i :: ·)
  | _ :: _ => none
theorem isStrs_map : ∀ {ds : List D} {ns : List (List Nat)}, isStrs ds = some ns → ds = ns.map D.str
  | [], ns, h => by
    cases h
    rfl
  | .str i :: r, ns, h => by
    rw [isStrs] at h
    cases e : isStrs r with
    | none =>
      rw [e] at h
      cases h
    | some ms =>
      rw [e] at h
      cases h
      rw [isStrs_map e]
      rfl
  | .non :: _, _, h => by cases h
  | .int _ :: _, _, h => by cases h
  | .bl _ :: _, _, h => by cases h
  | .lst _ :: _, _, h => by cases h
  | .tup _ :: _, _, h => by cases h
  | .obj _ _ :: _, _, h => by cases h
  | .pot :: _, _, h => by cases h
  | .cel _ _ :: _, _, h => by cases h
  | .scr _ :: _, _, h => by cases h
  | .ref _ :: _, _, h => by cases h
theorem map_isStrs : ∀ (ns : List (List Nat)), isStrs (ns.map D.str) = some ns
  | [] => rfl
  | n :: ns => by
    rw [List.map_cons, isStrs, map_isStrs ns]
    rfl
def gMax : GC := fun ds P => match ds with
  | [.int i, .int j] => P (.int (if j > i then j else i))
  | [.lst xs] => ∃ ns, isInts xs = some ns ∧ 0 < ns.length ∧ ∀ m, m ∈ ns → (∀ y, y ∈ ns → y ≤ m) → P (.int m)
  | _ => False
def gMin : GC := fun ds P => match ds with
  | [.int i, .int j] => P (.int (if j < i then j else i))
  | [.lst xs] => ∃ ns, isInts xs = some ns ∧ 0 < ns.length ∧ ∀ m, m ∈ ns → (∀ y, y ∈ ns → m ≤ y) → P (.int m)
  | _ => False
def gSum : GC := fun ds P => match ds with
  | [.lst xs] => ∃ ns, isInts xs = some ns ∧ P (.int ns.sum)
  | _ => False
def gAny : GC := fun ds P => match ds with
  | [.lst xs] => ∃ ns, isBls xs = some ns ∧ P (.bl (ns.any id))
  | _ => False
def gAll : GC := fun ds P => match ds with
  | [.lst xs] => ∃ ns, isBls xs = some ns ∧ P (.bl (ns.all id))
  | _ => False
section
variable {X : Cx}
theorem so_abs : SCall ℓ X.K (fun xs H Q => ∃ i, xs = [.int i] ∧ Q (.int (if i < 0 then -i else i)) H) gAbs := ⟨fun {g H n xs ds P Q} ok ex q k => by
  match ds, ex, q with
  | [.int i], .cons (.int _) .nil, q => exact ⟨i, rfl, k.flat ok q (.int _)⟩⟩
def rIntA : List V → Hp → VK → Prop := fun xs H Q => ((∃ i, xs = [.int i] ∧ Q (.int i) H) ∨ ∃ k, xs = [.bl k] ∧ Q (.int (if k then 1 else 0)) H) ∨ ∃ a n, xs = [.str a] ∧ PySem.intText? a = some n ∧ a.length ≤ 640 ∧ Q (.int n) H
theorem call_intA : CallR X (.type "int") rIntA := call_int1.or call_int_str
theorem so_int : SCall ℓ X.K rIntA gInt := ⟨fun {g H n xs ds P Q} ok ex q k => by
  match ds, ex, q with
  | [.int i], .cons (.int _) .nil, q => exact .inl (.inl ⟨i, rfl, k.flat ok q (.int _)⟩)
  | [.bl b], .cons (.bl _) .nil, q => exact .inl (.inr ⟨b, rfl, k.flat ok q (.int _)⟩)
  | [.str l], .cons (.str _) .nil, q =>
    obtain ⟨q0, n, q1, q2⟩ := q
    exact .inr ⟨_, n, rfl, q1, by simpa [Str.length] using q0, k.flat ok q2 (.int _)⟩⟩
def rStrA : List V → Hp → VK → Prop := fun xs H Q => (∃ i, xs = [.int i] ∧ i.natAbs.log2 < 1920 ∧ Q (.str (toString i)) H) ∨ ∃ a, xs = [.str a] ∧ Q (.str a) H
theorem call_strA : CallR X (.type "str") rStrA := call_str_int.or SkE.call_str_str
theorem numD_str (i : Int) : (⟨(numD i).toArray⟩ : Str) = toString i := by
  unfold numD
  simp
theorem so_str : SCall ℓ X.K rStrA gStr := ⟨fun {g H n xs ds P Q} ok ex q k => by
  match ds, ex, q with
  | [.int i], .cons (.int _) .nil, q => exact .inl ⟨i, rfl, q.1, by rw [← numD_str]; exact k.flat ok q.2 (.str _)⟩
  | [.str l], .cons (.str _) .nil, q => exact .inr ⟨_, rfl, k.flat ok q (.str _)⟩⟩
def rLenA (K : PySem.W.Frag) : List V → Hp → VK → Prop := fun xs H Q => (∃ p ys, xs = [.ref p] ∧ (SqL K H p ys ∨ SqT K H p ys) ∧ Q (.int ys.length) H) ∨ ∃ z : Str, xs = [.str z] ∧ z.length ≤ sizeLine ∧ Q (.int z.length) H
theorem call_lenA : CallR X (.builtin "len") (rLenA X.K) := call_len_seq.or call_len_str
theorem so_len : SCall ℓ X.K (rLenA X.K) gLen := ⟨fun {g H n xs ds P Q} ok ex q k => by
  match ds, ex, q with
  | [.lst l], .cons (.lst h1 h2) .nil, q => exact .inl ⟨_, _, rfl, .inl (SqL.of (ok.sub _ _ h1)), by rw [h2.length]; exact k.flat ok q (.int _)⟩
  | [.tup l], .cons (.tup h1 h2) .nil, q => exact .inl ⟨_, _, rfl, .inr (Or.inl (h1.same ok.sub)), by rw [h2.length]; exact k.flat ok q (.int _)⟩
  | [.str l], .cons (.str _) .nil, q =>
    refine .inr ⟨_, rfl, sz (by simpa [Str.length] using q.1), ?_⟩
    rw [show ((⟨l.toArray⟩ : Str).length : Int) = (l.length : Int) by simp [Str.length]]
    exact k.flat ok q.2 (.int _)
  | [.scr ns], .cons (.scr h) .nil, q => exact .inl ⟨_, _, rfl, .inl (ok.sub.seq h), by rw [List.length_map]; exact k.flat ok q (.int _)⟩⟩
def sgnV (z : Str) : List V := z.cps.toList.map fun c => .str ⟨#[c]⟩
theorem vals_sgn {z : Str} {acc : Array Value} (h : ItemsOf (SignAt z) acc z.cps.size) : Vals (sgnV z) acc.toList := by
  refine vals_of_at (by unfold sgnV; rw [List.length_map, Array.length_toList, Array.length_toList, h.1]) fun j x u e1 e2 => ?_
  obtain ⟨c, t, e3, rfl⟩ := h.2 j u (by simpa using e2)
  unfold sgnV at e1
  rw [List.getElem?_map] at e1
  have e4 : z.cps.toList[j]? = some c := by simpa using e3
  rw [e4] at e1
  cases e1
  exact ⟨t, rfl⟩
def rListT : List V → Hp → VK → Prop := fun xs H Q => ∃ z : Str, xs = [.str z] ∧ z.length ≤ sizeLine ∧ ∀ p, H p = none → Q (.ref p) (upd H p (.lst (sgnV z)))
theorem call_listT (hc : X.calm = true) : CallR X (.type "list") rListT := by
  intro pins s σ H xs us Q I r h
  obtain ⟨z, rfl, hz, q⟩ := h
  cases r with
  | cons r0 r1 =>
    cases r1
    obtain ⟨t, rfl⟩ := r0
    refine call_list_str (I.ok.hd hc) z t (hn := hz) fun h' tk acc' c' hk hS' hacc => ?_
    refine ⟨.ref _, upd H s.heap.objs.size (.lst (sgnV z)), I.laid (t' := tk) hk (Nat.le_refl _) ⟨?_, acc'.toList, c', vals_sgn hacc, by simpa using hS'⟩, rfl, q _ (I.hok.fresh (Nat.le_refl _))⟩
    unfold sgnV
    rw [List.length_map, Array.length_toList]
    exact hz
def rListA (K : PySem.W.Frag) : List V → Hp → VK → Prop := fun xs H Q => (∃ p ys, xs = [.ref p] ∧ (SqL K H p ys ∨ SqT K H p ys) ∧ ∀ l, H l = none → Q (.ref l) (upd H l (.lst ys))) ∨ rListT xs H Q
theorem call_listA (hc : X.calm = true) : CallR X (.type "list") (rListA X.K) := call_list_of.or (call_listT hc)
theorem dens_sgn {K : PySem.W.Frag} {g : Gh} (l : List Nat) : Dens K g (sgnV ⟨l.toArray⟩) (sgn l) := by
  unfold sgnV sgn
  induction l with
  | nil => exact .nil
  | cons c l ih => exact .cons (.str [c]) (by simpa using ih)
theorem so_list : SCall ℓ X.K (rListA X.K) gList := ⟨fun {g H n xs ds P Q} ok ex q k => by
  match ds, ex, q with
  | [.lst l], .cons (.lst h1 h2) .nil, q => exact .inl ⟨_, _, rfl, .inl (SqL.of (ok.sub _ _ h1)), fun p hp => k.newL ok q h2 hp⟩
  | [.tup l], .cons (.tup h1 h2) .nil, q => exact .inl ⟨_, _, rfl, .inr (Or.inl (h1.same ok.sub)), fun p hp => k.newL ok q h2 hp⟩
  | [.tupK l], .cons (.tupK h1 h2) .nil, q => exact .inl ⟨_, _, rfl, .inr (h1 _), fun p hp => k.newL ok q h2 hp⟩
  | [.str l], .cons (.str _) .nil, q => exact .inr ⟨_, rfl, sz (by simpa [Str.length] using q.1), fun p hp => k.newL ok q.2 (dens_sgn l) hp⟩⟩
def rTupT : List V → Hp → VK → Prop := fun xs H Q => ∃ z : Str, xs = [.str z] ∧ z.length ≤ sizeLine ∧ ∀ p, H p = none → Q (.ref p) (upd H p (.tup (sgnV z)))
theorem call_tupT (hc : X.calm = true) : CallR X (.type "tuple") rTupT := by
  intro pins s σ H xs us Q I r h
  obtain ⟨z, rfl, hz, q⟩ := h
  cases r with
  | cons r0 r1 =>
    cases r1
    obtain ⟨t, rfl⟩ := r0
    refine call_tuple_str (I.ok.hd hc) z t (hsz := hz) fun h' tk acc' hk hacc => ?_
    have hlen : (sgnV z).length ≤ sizeLine := by
      unfold sgnV
      rw [List.length_map, Array.length_toList]
      exact hz
    have I2 : Inv X pins σ H { s with heap := h', toks := tk } := I.kept hk
    refine ⟨.ref h'.objs.size, upd H h'.objs.size (.tup (sgnV z)), I2.laid (t' := tk) (fun c o e => Heap.get?_push_of_some _ e) (Nat.le_refl _) (show ObjOk X.prog X.w _ _ _ (.tup (sgnV z)) from ⟨hlen, acc'.toList, vals_sgn hacc, ?_⟩), rfl, q _ (I2.hok.fresh (Nat.le_refl _))⟩
    rw [Array.toArray_toList]
    exact PyProof.Rows.IsTup.new _ _
def rTupA (K : PySem.W.Frag) : List V → Hp → VK → Prop := fun xs H Q => (∃ p ys, xs = [.ref p] ∧ ((SqL K H p ys ∧ ∀ l, H l = none → Q (.ref l) (upd H l (.tup ys))) ∨ (SqT K H p ys ∧ Q (.ref p) H))) ∨ rTupT xs H Q
theorem call_tupA (hc : X.calm = true) : CallR X (.type "tuple") (rTupA X.K) := call_tuple_of.or (call_tupT hc)
theorem so_tuple : SCall ℓ X.K (rTupA X.K) gTuple := ⟨fun {g H n xs ds P Q} ok ex q k => by
  match ds, ex, q with
  | [.lst l], .cons (.lst h1 h2) .nil, q => exact .inl ⟨_, _, rfl, .inl ⟨SqL.of (ok.sub _ _ h1), fun p hp => k.newT ok q h2 hp⟩⟩
  | [.tup l], .cons (.tup h1 h2) .nil, q => exact .inl ⟨_, _, rfl, .inr ⟨Or.inl (h1.same ok.sub), k.flat ok q (.tup h1 h2)⟩⟩
  | [.str l], .cons (.str _) .nil, q => exact .inr ⟨_, rfl, sz (by simpa [Str.length] using q.1), fun p hp => k.newT ok q.2 (dens_sgn l) hp⟩⟩
def rMaxA (K : PySem.W.Frag) : List V → Hp → VK → Prop := fun xs H Q => (∃ i j, xs = [.int i, .int j] ∧ Q (.int (if j > i then j else i)) H) ∨ rMax K xs H Q
def rMinA (K : PySem.W.Frag) : List V → Hp → VK → Prop := fun xs H Q => (∃ i j, xs = [.int i, .int j] ∧ Q (.int (if j < i then j else i)) H) ∨ rMin K xs H Q
theorem call_maxA (hc : X.calm = true) : CallR X (.builtin "max") (rMaxA X.K) := (call_max2 hc).or (cr_max hc)
theorem call_minA (hc : X.calm = true) : CallR X (.builtin "min") (rMinA X.K) := (call_min2 hc).or (cr_min hc)
theorem so_max : SCall ℓ X.K (rMaxA X.K) gMax := ⟨fun {g H n xs ds P Q} ok ex q k => by
  match ds, ex, q with
  | [.int i, .int j], .cons (.int _) (.cons (.int _) .nil), q => exact .inl ⟨i, j, rfl, k.flat ok q (.int _)⟩
  | [.lst l], .cons (.lst h1 h2) .nil, q =>
    obtain ⟨ns, q0, q1, q2⟩ := q
    have e := isInts_map q0
    subst e
    have ev := h2.ints
    subst ev
    exact .inr ⟨_, ns, rfl, SqL.of (ok.sub _ _ h1), q1, fun m m1 m2 => k.flat ok (q2 m m1 m2) (.int _)⟩⟩
theorem so_min : SCall ℓ X.K (rMinA X.K) gMin := ⟨fun {g H n xs ds P Q} ok ex q k => by
  match ds, ex, q with
  | [.int i, .int j], .cons (.int _) (.cons (.int _) .nil), q => exact .inl ⟨i, j, rfl, k.flat ok q (.int _)⟩
  | [.lst l], .cons (.lst h1 h2) .nil, q =>
    obtain ⟨ns, q0, q1, q2⟩ := q
    have e := isInts_map q0
    subst e
    have ev := h2.ints
    subst ev
    exact .inr ⟨_, ns, rfl, SqL.of (ok.sub _ _ h1), q1, fun m m1 m2 => k.flat ok (q2 m m1 m2) (.int _)⟩⟩
theorem so_sum : SCall ℓ X.K (rSum X.K) gSum := ⟨fun {g H n xs ds P Q} ok ex q k => by
  match ds, ex, q with
  | [.lst l], .cons (.lst h1 h2) .nil, q =>
    obtain ⟨ns, q0, q1⟩ := q
    have e := isInts_map q0
    subst e
    have ev := h2.ints
    subst ev
    exact ⟨_, ns, rfl, SqL.of (ok.sub _ _ h1), k.flat ok q1 (.int _)⟩⟩
theorem so_any : SCall ℓ X.K (rAny X.K) gAny := ⟨fun {g H n xs ds P Q} ok ex q k => by
  match ds, ex, q with
  | [.lst l], .cons (.lst h1 h2) .nil, q =>
    obtain ⟨ns, q0, q1⟩ := q
    have e := isBls_map q0
    subst e
    have ev := h2.bls
    subst ev
    exact ⟨_, ns, rfl, SqL.of (ok.sub _ _ h1), k.flat ok q1 (.bl _)⟩⟩
theorem so_all : SCall ℓ X.K (rAll X.K) gAll := ⟨fun {g H n xs ds P Q} ok ex q k => by
  match ds, ex, q with
  | [.lst l], .cons (.lst h1 h2) .nil, q =>
    obtain ⟨ns, q0, q1⟩ := q
    have e := isBls_map q0
    subst e
    have ev := h2.bls
    subst ev
    exact ⟨_, ns, rfl, SqL.of (ok.sub _ _ h1), k.flat ok q1 (.bl _)⟩⟩
end
structure InsOk (K : PySem.W.Frag) (C : Addr) : Prop where
  cl : Cls K C
  ha : PySem.W.findIn K (.ref C) "__class__" = some (some (.builtin "object.__class__"))
  hn : PySem.W.specialIn K (.builtin "object.__class__") "__get__" = some (some (.builtin "getset_descriptor.__get__"))
  htk : PySem.W.takesIn K (.builtin "object.__class__") = some true
  hm : PySem.W.mroIn K C (.type "object") = some true
structure ErrI (K : PySem.W.Frag) (C : Addr) : Prop where
  hcl : (PySem.W.clsIn K C).isSome = true
  hga : PySem.W.findIn K (.ref C) "__getattribute__" = some (some (.builtin "BaseException.__getattribute__"))
  hgt : PySem.W.findIn K (.ref C) "__getattr__" = some none
  hsb : PySem.W.subIn K (.ref C) (.type "BaseException") = some true
  ha : PySem.W.findIn K (.ref C) "__class__" = some (some (.builtin "object.__class__"))
  hn : PySem.W.specialIn K (.builtin "object.__class__") "__get__" = some (some (.builtin "getset_descriptor.__get__"))
  htk : PySem.W.takesIn K (.builtin "object.__class__") = some true
  hm : PySem.W.mroIn K C (.type "object") = some true
inductive TyE (K : PySem.W.Frag) (H : Hp) : V → Value → Prop
  | old {x : V} {t : Value} : TyX K H x t → TyE K H x t
  | exc {a C dx : Addr} {fs : List (Str × V)} : H a = some (Exq a C dx) → H dx = some (.xd fs) → ErrI K C → TyE K H (.ref a) (.ref C)
def rIsE (K : PySem.W.Frag) : List V → Hp → VK → Prop := fun xs H Q => ∃ (x c : V) (t u : Value) (b : Bool), xs = [x, c] ∧ ClsV c u ∧ TyE K H x t ∧ PySem.W.kitOne K t u = some b ∧ Q (.bl b) H
theorem call_isE {X : Cx} : CallR X (.builtin "isinstance") (rIsE X.K) := by
  intro pins s σ H xs us Q I r h
  obtain ⟨x, c, t, u, b, rfl, k, ty, e, q⟩ := h
  cases ty with
  | old ty => exact call_isi pins s σ H _ us Q I r ⟨x, c, t, u, b, rfl, k, ty, e, q⟩
  | @exc a C dx fs h1 h2 T =>
    obtain ⟨u1, u2, rfl, r1, r2⟩ := vals2 r
    have e2 := k.eq r2
    subst e2
    cases (show u1 = Value.ref a from r1)
    obtain ⟨⟨⟨oc, od0, oda, osl⟩, vs, ho, h3, h4, h5⟩, _⟩ := I.hok a _ h1
    dsimp only at h3 h4 h5
    subst h3 h4 h5
    obtain ⟨mA, ⟨od, es, ep, hd, _⟩, _⟩ := I.hok dx _ h2
    exact PySem.W.kia_one (PySem.W.kitx_exc (od := some od) T.hcl T.hga T.hgt T.hsb T.ha T.hn T.htk T.hm) I.kIn (PySem.W.InstAt.mk ho rfl rfl hd) e (fun z => nomatch z) fun tk => ⟨.bl b, H, I.tok tk, rfl, q⟩
def tyD : D → Option Value
  | .non => some (.type "NoneType")
  | .bl _ => some (.type "bool")
  | .int _ => some (.type "int")
  | .str _ => some (.type "str")
  | .lst _ => some (.type "list")
  | .tup _ => some (.type "tuple")
  | .obj C _ => some (.ref C)
  | .tupF _ => some (.type "tuple")
  | .err C _ => some (.ref C)
  | .dic _ _ => some (.type "dict")
  | _ => none
def ClOk (K : PySem.W.Frag) : D → Prop
  | .obj C _ => InsOk K C
  | .err C _ => ErrI K C
  | _ => True
structure IsT (K : PySem.W.Frag) (c : V) (tb : D → Option Bool) : Prop where
  cl : ∃ u, ClsV c u ∧ ∀ d b, tb d = some b → ∃ t, tyD d = some t ∧ ClOk K d ∧ PySem.W.kitOne K t u = some b
theorem den_ty {K : PySem.W.Frag} {g : Gh} {H : Hp} {v : V} {d : D} {t : Value} (sm : Same g.G H) (h : Den K g v d) (e : tyD d = some t) (i : ClOk K d) : TyE K H v t := by
  cases h with
  | non => cases e; exact .old (.base .non)
  | bl b => cases e; exact .old (.base (.bl b))
  | int b => cases e; exact .old (.base (.int b))
  | str b => cases e; exact .old (.base (.str _))
  | lst h1 h2 => cases e; exact .old (.base (.lst (sm _ _ h1)))
  | tup h1 h2 =>
    cases e
    rcases h1 with h1 | ⟨o, h1⟩
    · exact .old (.base (.tup (sm _ _ h1)))
    · exact .old (.fTuple (sm _ _ h1))
  | obj h1 h2 =>
    cases e
    have z : InsOk K _ := i
    exact .old (.base (.ins (sm _ _ h1) z.cl z.ha z.hn z.htk z.hm))
  | tupF h1 _ _ _ => cases e; exact .old (.fTuple (sm _ _ h1))
  | err h1 h2 h3 => cases e; exact .exc (sm _ _ h1) (sm _ _ h2) i
  | dic h1 h2 h3 => cases e; exact .old (.base (.dK (sm _ _ h1)))
  | _ => cases e
def dIsi (tb : D → Option Bool) (d : DE) : DE := fun n ε P => d n ε fun n1 x => ∃ b, tb x = some b ∧ P n1 (.bl b)
section
variable {X : Cx} {pos p p2 : Pos} {a c : Expr} {d : DE} {v : V} {tb : D → Option Bool}
theorem de_isi (hT : IsT X.K v tb) (hg : Gl X "isinstance") (hm : X.mg "isinstance" = none) (ha : PE X a (liftE ℓ X.K d)) (hc : PE X c (tC v))
    (h1 : starEach [a, c] X.env = (false, eval a X.env) :: starEach [c] X.env := by rfl) (h2 : starEach [c] X.env = (false, eval c X.env) :: starEach [] X.env := by rfl) (hpl : (backTo pos (starEach [c] X.env)).any (·.1) = false := by rfl) :
    PE X (.Call (.Name "isinstance" p) [a, c] [] pos) (liftE ℓ X.K (dIsi tb d)) :=
  pe_w (pe_callB (r := rIsE X.K) call_isE hg hm PyProof.Rows.boot_isinstance (pa_cons ha (pa_cons hc pa_nil h2) h1) (by decide) (by decide) h1 hpl) fun σ H Q ⟨O, g, n, ε, P, r, q, k⟩ =>
    ⟨O, g, n, ε, _, r, q, fun w g1 H1 n1 x q1 s1 o1 e1 => by
      obtain ⟨b, q2, q3⟩ := q1
      obtain ⟨u, cu, f⟩ := hT.cl
      obtain ⟨t, t1, t2, t3⟩ := f x b q2
      exact ⟨w, v, t, u, b, rfl, cu, den_ty o1.sub e1 t1 t2, t3, k _ g1 H1 n1 _ q3 s1 o1 (.bl b)⟩⟩
theorem pe_tyN {x : Str} {T : String} (hg : Gl X x) (hm : X.mg x = none) (hv : bootBuiltins x = some (.type T)) (hn : x ≠ "__name__" := by decide) (hd : (x == ("__debug__" : Str)) = false := by decide) : PE X (.Name x pos) (tC (.ty T)) := pe_bltn hg hm hv rfl hn hd
theorem pe_clN {x : Str} {C : Addr} (hg : Gl X x) (hm : X.mg x = some (.ref C)) (hd : (x == ("__debug__" : Str)) = false := by decide) : PE X (.Name x pos) (tC (.ref C)) := pe_glob hg hm rfl hd
end
def shownD (d : D) : List Nat := (toPD d).shown.cps.toList
def okRepr (d : D) : Bool := okD d && (toPD d).showable
section
variable {X : Cx}
def gRepr : GC := fun ds P => match ds with
  | [x] => okRepr x = true ∧ (shownD x).length ≤ 16777216 ∧ P (.str (shownD x))
  | _ => False
end
theorem joinL_nil : ∀ ys : List (List Nat), TL.joinL [] ys = ys.flatten
  | [] => rfl
  | [p] => by simp [TL.joinL]
  | p :: q :: r => by
    show p ++ ([] ++ TL.joinL [] (q :: r)) = _
    rw [joinL_nil (q :: r)]
    simp
def dJoin (da db : DE) : DE := fun n ε P => da n ε fun n1 x => match x with
  | .str a => db n1 ε fun n2 y => match y with
    | .lst xs => ∃ ls, isStrs xs = some ls ∧ (ls.map (·.length)).sum + ls.length * a.length ≤ 16777216 ∧ P n2 (.str (TL.joinL a ls))
    | .tup xs => ∃ ls, isStrs xs = some ls ∧ (ls.map (·.length)).sum + ls.length * a.length ≤ 16777216 ∧ P n2 (.str (TL.joinL a ls))
    | _ => False
  | _ => False
section
variable {X : Cx} {pos apos : Pos} {o e : Expr} {da db : DE}
theorem join_len (ls : List (List Nat)) : ((ls.map fun l => (⟨l.toArray⟩ : Str)).map (·.length)) = ls.map (·.length) := by
  rw [List.map_map]
  exact List.map_congr_left fun l _ => by simp [Str.length]
theorem de_join (ho : PE X o (liftE ℓ X.K da)) (he : PE X e (liftE ℓ X.K db)) (hs : starEach [e] X.env = [(false, eval e X.env)] := by rfl) (hbase : attributeBase o "join" X.env (eval o X.env) = eval o X.env := by rfl) (hline : (apos.endLine == pos.line) = true := by rfl) :
    PE X (.Call (.Attribute o "join" apos) [e] [] pos) (liftE ℓ X.K (dJoin da db)) :=
  de_of (pe_join ho he hs hbase hline) fun O g H n σ ε P Q r q k => ⟨O, g, n, ε, _, r, q, fun v g1 H1 n1 x q1 s1 o1 e1 => by
    cases e1 with
    | str a =>
      refine ⟨⟨_, rfl⟩, O, g1, n1, ε, _, r.step s1 o1, q1, fun w g2 H2 n2 y q2 s2 o2 e2 => ?_⟩
      cases e2 with
      | lst h1 h2 =>
        obtain ⟨ls, z1, z2, z3⟩ := q2
        have ez := isStrs_map z1
        subst ez
        have ev := h2.strs
        subst ev
        refine ⟨_, _, _, rfl, rfl, .inl (SqL.of (o2.sub _ _ h1)), ?_, ?_⟩
        · rw [join_len, List.length_map]
          simpa [Str.length] using z2
        · have ej := SX.join_S a ls
          have ej2 : Txt.join ⟨a.toArray⟩ (ls.map fun l => (⟨l.toArray⟩ : Str)) = ⟨(TL.joinL a ls).toArray⟩ := ej
          rw [ej2]
          exact k _ g2 H2 n2 _ z3 (s1.trans s2) o2 (.str _)
      | tup h1 h2 =>
        obtain ⟨ls, z1, z2, z3⟩ := q2
        have ez := isStrs_map z1
        subst ez
        have ev := h2.strs
        subst ev
        refine ⟨_, _, _, rfl, rfl, .inr (Or.inl (h1.same o2.sub)), ?_, ?_⟩
        · rw [join_len, List.length_map]
          simpa [Str.length] using z2
        · have ej := SX.join_S a ls
          have ej2 : Txt.join ⟨a.toArray⟩ (ls.map fun l => (⟨l.toArray⟩ : Str)) = ⟨(TL.joinL a ls).toArray⟩ := ej
          rw [ej2]
          exact k _ g2 H2 n2 _ z3 (s1.trans s2) o2 (.str _)
      | _ => exact q2.elim
    | _ => exact q1.elim⟩
end
abbrev DR := Nat → Ev → (Nat → Int → Int → Prop) → Prop
def liftR (ℓ : Bool) (K : PySem.W.Frag) (d : DR) : L2.St → Hp → (Int → Int → Hp → Prop) → Prop := fun σ H Q => ∃ O g n ε P, Rp ℓ K O g H n σ ε ∧ d n ε P ∧ ∀ a b g' H' n', P n' a b → Stp g H g' H' → Ok ℓ K g' H' n' → Q a b H'
def r1 (d : DE) : DR := fun n ε P => d n ε fun n1 x => match x with
  | .int i => P n1 0 i
  | _ => False
def r2 (d e : DE) : DR := fun n ε P => d n ε fun n1 x => e n1 ε fun n2 y => match x, y with
  | .int i, .int j => P n2 i j
  | _, _ => False
def rgD (a b : Int) : List D := (List.range (b - a).toNat).map fun i => D.int (a + (i : Nat))
def okRg (a b : Int) : Prop := -(2 ^ 62) ≤ a ∧ a < 2 ^ 62 ∧ -(2 ^ 62) ≤ b ∧ b < 2 ^ 62 ∧ (b - a).toNat ≤ 2 ^ 24
def dLRg (d : DR) : DE := fun n ε P => d n ε fun n1 a b => okRg a b ∧ P n1 (.lst (rgD a b))
section
variable {X : Cx} {pos p : Pos} {e a b : Expr} {d da db : DE} {dr : DR}
theorem dens_rg {K : PySem.W.Frag} {g : Gh} (a b : Int) : Dens K g (rgV a b) (rgD a b) := by
  unfold rgV rgD
  induction List.range (b - a).toNat with
  | nil => exact .nil
  | cons c l ih => exact .cons (.int _) ih
theorem prg_w {t t' : L2.St → Hp → (Int → Int → Hp → Prop) → Prop} (h : PRg X e t) (w : ∀ σ H Q, t' σ H Q → t σ H Q) : PRg X e t' := fun pins s σ H Q I q => h pins s σ H Q I (w σ H Q q)
theorem dr_1 (hg : Gl X "range") (hm : X.mg "range" = none) (ha : PE X a (liftE ℓ X.K da)) (na : starEach [a] X.env = (false, eval a X.env) :: starEach [] X.env := by rfl) : PRg X (.Call (.Name "range" p) [a] [] pos) (liftR ℓ X.K (r1 da)) :=
  prg_w (prg_1 hg hm ha na) fun σ H Q ⟨O, g, n, ε, P, r, q, k⟩ => ⟨O, g, n, ε, _, r, q, fun v g1 H1 n1 x q1 s1 o1 e1 => by
    cases e1 with
    | int i => exact ⟨i, rfl, k 0 i g1 H1 n1 q1 s1 o1⟩
    | _ => exact q1.elim⟩
theorem de_lrg (hc : X.calm = true) (hg : Gl X "list") (hm : X.mg "list" = none) (he : PRg X e (liftR ℓ X.K dr)) (na : starEach [e] X.env = (false, eval e X.env) :: starEach [] X.env := by rfl) : PE X (.Call (.Name "list" p) [e] [] pos) (liftE ℓ X.K (dLRg dr)) :=
  de_of (pe_listRg hc hg hm he na) fun O g H n σ ε P Q r q k => ⟨O, g, n, ε, _, r, q, fun a b g1 H1 n1 q1 s1 o1 => ⟨q1.1, fun p hp => (Fin.of k s1).newL o1 q1.2 (dens_rg a b) hp⟩⟩
end
end Pd
namespace L2
open PySem PySem.Spec PyProof.Rows
theorem meets_enumerate_newI {v : Value} {itf : Heap → Addr} {hpf : Heap → Heap} {H : Heap → Prop}
    (B : ∀ (prog : Program) (w : World) (A : Around) (E : Value → Shared → Prop) (s : Shared) (Q : Value → Shared → Prop), H s.heap → Q (.ref (itf s.heap)) { s with heap := hpf s.heap } → wpAny (model prog w) A (pyIter v) Q E s) :
    Meets (Builtin.«enumerate.__new__» ⟨[.type "enumerate", v], []⟩) (fun _ R s => H s.heap ∧
      R (.ok (.ret (.ref (hpf s.heap).objs.size))) { s with heap := (hpf s.heap).push { cls := .type "enumerate", data := .fields #[.none, .bool false, .ref (itf s.heap), rawInt 0, .none, .none] } }) :=
  .of_wp fun prog w A R s h => by
    obtain ⟨hp, g, d, tk, os⟩ := s; obtain ⟨h1, h⟩ := h
    have hsub := sub_enumerate
    have q1 : ∀ {A' : Around} {E : Value → Shared → Prop} {Q : Value → Shared → Prop}, Q (.ref (itf hp)) ⟨hpf hp, g, d, tk, os⟩ → wpAny (model prog w) A' (pyIter v) Q E ⟨hp, g, d, tk, os⟩ :=
      fun q => B prog w _ _ ⟨hp, g, d, tk, os⟩ _ h1 q
    wp_walk using q1
    refine wpAny_stack_any fun st => wpAny_pure ?_
    split
    · rename_i c _ _ _ _ _
      cases (c == Value.type "enumerate")
      · wp_walk using q1
        exact ⟨_, rfl, h⟩
      · wp_walk using q1
        exact ⟨_, rfl, h⟩
    · wp_walk using q1
      exact ⟨_, rfl, h⟩
section
variable {prog : Program} {w : World} {A : Around} {E : Value → Shared → Prop} {s : Shared}
theorem enum_begins1 {v : Value} {o : Obj} {H : Heap → Prop} {Q : Value → Shared → Prop} (B : Begins v o H) (h1 : H s.heap)
    (h : ∀ h', IsEnum h' (s.heap.objs.size + 1) s.heap.objs.size 0 .none → h'.get? s.heap.objs.size = some o → h'.objs.size = s.heap.objs.size + 2 →
      (∀ b o, s.heap.get? b = some o → h'.get? b = some o) → Q (.ref (s.heap.objs.size + 1)) { s with heap := h' }) :
    wpAny (model prog w) A (call (.type "enumerate") [v]) Q E s := by
  refine callType_new F.called_enumerate (by decide) (F.typeCall_enumerate_1 _) (F.newCall_enumerate_1 _) (fun obj => F.args_object_init_2 obj _) F.entry_enumerate_new
    (meets_enumerate_newI (itf := fun h => h.objs.size) (hpf := fun h => h.push o) B.iter) ⟨h1, ?_⟩
  have hz : (s.heap.push o).objs.size = s.heap.objs.size + 1 := Heap.size_push ..
  show _ ∧ _
  rw [hz]
  have he : IsEnum ((s.heap.push o).push { cls := .type "enumerate", data := .fields #[.none, .bool false, .ref s.heap.objs.size, rawInt 0, .none, .none] }) (s.heap.objs.size + 1) s.heap.objs.size 0 .none := by
    have := Heap.get?_push_size (s.heap.push o) (o := { cls := .type "enumerate", data := .fields #[.none, .bool false, .ref s.heap.objs.size, rawInt 0, .none, .none] }) rfl
    rw [hz] at this; exact this
  refine ⟨⟨_, he, rfl⟩, h _ he (Heap.get?_push_of_some _ (Heap.get?_push_size _ B.free)) (by rw [Heap.size_push, hz]) fun b o x => Heap.get?_push_of_some _ (Heap.get?_push_of_some _ x)⟩
end
inductive Sk where
  | lst (a : Addr) | tup (a : Addr) | str (z : Str)
def Sk.v : Sk → V
  | .lst a => .ref a
  | .tup a => .ref a
  | .str z => .str z
def sgV (z : Str) : List V := z.cps.toList.map fun c => .str ⟨#[c]⟩
def Sk.at (H : Hp) : Sk → List V → Prop
  | .lst a, xs => H a = some (.lst xs)
  | .tup a, xs => Rd H a (.tup xs)
  | .str z, xs => xs = sgV z
def Sk.val (t : Tok) : Sk → Value
  | .lst a => .ref a
  | .tup a => .ref a
  | .str z => .str z t
def Sk.obj (t : Tok) : Sk → Obj
  | .lst a => { cls := .type "list_iterator", data := .fields #[.ref a, .int 0 0] }
  | .tup a => { cls := .type "tuple_iterator", data := .fields #[.ref a, .int 0 0] }
  | .str z => { cls := .type (strIterType z), data := .fields #[.str z t, .int 0 0] }
def Sk.tn (t : Tok) (it : Addr) (i : Nat) (h : Heap) : Sk → Prop
  | .lst a => h.IsListIter it a i
  | .tup a => h.IsTupleIter it a i
  | .str z => h.IsStrIter it (strIterType z) z t i
theorem Sk.rel {k : Sk} {u : Value} (h : RelV k.v u) : ∃ t, u = k.val t := by
  cases k with
  | lst a => exact ⟨0, h⟩
  | tup a => exact ⟨0, h⟩
  | str z =>
    obtain ⟨t, e⟩ := h
    exact ⟨t, e⟩
theorem Sk.tn0 {k : Sk} {t : Tok} {it : Addr} {h : Heap} (e : h.get? it = some (k.obj t)) : k.tn t it 0 h := by
  cases k with
  | lst a => exact ⟨_, e, rfl, rfl⟩
  | tup a => exact ⟨_, e, rfl, rfl⟩
  | str z => exact ⟨_, e, rfl, rfl⟩
theorem Sk.tn_keep {k : Sk} {t : Tok} {it : Addr} {i : Nat} {h h' : Heap} (s : k.tn t it i h) (hk : ∀ o, h.get? it = some o → h'.get? it = some o) : k.tn t it i h' := by
  cases k with
  | lst a => exact Heap.IsListIter.at s hk
  | tup a => exact Heap.IsTupleIter.at s hk
  | str z =>
    obtain ⟨o, e, c, d⟩ := s
    exact ⟨o, hk _ e, c, d⟩
theorem Sk.tn_obj {k : Sk} {t : Tok} {it : Addr} {i : Nat} {h : Heap} (s : k.tn t it i h) : ∃ o, h.get? it = some o ∧ ∀ v, o.data ≠ .cell v := by
  cases k with
  | lst a =>
    obtain ⟨o, e, _, d⟩ := s
    exact ⟨o, e, fun v z => by rw [d] at z; cases z⟩
  | tup a =>
    obtain ⟨o, e, _, d⟩ := s
    exact ⟨o, e, fun v z => by rw [d] at z; cases z⟩
  | str z =>
    obtain ⟨o, e, _, d⟩ := s
    exact ⟨o, e, fun v z => by rw [d] at z; cases z⟩
theorem Sk.len {X : Cx} {pins : List (Addr × Obj)} {σ : St} {H : Hp} {s : Shared} {k : Sk} {xs : List V} (I : Inv X pins σ H s) (h : k.at H xs) : True := trivial
section
variable {X : Cx} {pins : List (Addr × Obj)} {σ : St} {H : Hp} {s : Shared} {k : Sk} {xs : List V}
theorem Sk.begins (I : Inv X pins σ H s) (h : k.at H xs) (t : Tok) : ∃ Hh, Begins (k.val t) (k.obj t) Hh ∧ Hh s.heap := by
  cases k with
  | lst a =>
    obtain ⟨its, n, r, ho, hz⟩ := I.lst h
    exact ⟨_, begins_list a its.toArray, ⟨_, ho, rfl, n, rfl⟩⟩
  | tup a =>
    obtain ⟨its, r, p, hz⟩ := I.tuple (Or.inl h)
    exact ⟨_, begins_tuple a its.toArray, p⟩
  | str z => exact ⟨_, begins_text z t, trivial⟩
theorem Sk.draws (I : Inv X pins σ H s) (h : k.at H xs) (t : Tok) {P : Program} {w : World} {A : Around} (hh : A.handled = none) {it : Addr} (hit : H it = none) :
    ∃ fp St P', Draws P w A it fp xs.length P' St ∧ (∀ i, k.tn t it i s.heap → St i s.heap) ∧ (∀ i h, St i h → k.tn t it i h) ∧ it ∈ fp ∧ (∀ b ∈ fp, b = it ∨ ∃ o, H b = some o) ∧ (∀ i u, P' i u → ∃ y, xs[i]? = some y ∧ RelV y u) := by
  cases k with
  | lst a =>
    obtain ⟨its, n, r, ho, hz⟩ := I.lst h
    have hne : a ≠ it := fun e => by
      have h' : H a = some (.lst xs) := h
      rw [e, hit] at h'
      cases h'
    have hl : s.heap.IsList a its.toArray := ⟨_, ho, rfl, n, rfl⟩
    have D := Draws.list (prog := P) (w := w) (A := A) hh it a hne its.toArray
    rw [List.size_toArray, ← r.length] at D
    refine ⟨_, _, _, D, fun i q => ⟨q, hl⟩, fun i h q => q.1, by simp, fun b hb => ?_, fun i u e => ?_⟩
    · have e : b = it ∨ b = a := by simpa using hb
      exact e.imp id fun z => ⟨_, by rw [z]; exact h⟩
    · have e' : its[i]? = some u := by simpa using e
      obtain ⟨hi, _⟩ := List.getElem?_eq_some_iff.mp e'
      have hx : i < xs.length := by rw [r.length]; exact hi
      obtain ⟨u', e2, r2⟩ := r.get (List.getElem?_eq_getElem hx)
      rw [e'] at e2
      cases e2
      exact ⟨_, List.getElem?_eq_getElem hx, r2⟩
  | tup a =>
    obtain ⟨its, r, p, hz⟩ := I.tuple (Or.inl h)
    obtain ⟨oo, hoo⟩ : ∃ o, H a = some o := (show Rd H a (.tup xs) from h).elim (fun h => ⟨_, h⟩) fun ⟨o, h⟩ => ⟨_, h⟩
    have hne : a ≠ it := fun e => by
      rw [e, hit] at hoo
      cases hoo
    have D := Draws.tuple (prog := P) (w := w) (A := A) hh it a hne its.toArray
    rw [List.size_toArray, ← r.length] at D
    refine ⟨_, _, _, D, fun i q => ⟨q, p⟩, fun i h q => q.1, by simp, fun b hb => ?_, fun i u e => ?_⟩
    · have e : b = it ∨ b = a := by simpa using hb
      exact e.imp id fun z => ⟨_, by rw [z]; exact hoo⟩
    · have e' : its[i]? = some u := by simpa using e
      obtain ⟨hi, _⟩ := List.getElem?_eq_some_iff.mp e'
      have hx : i < xs.length := by rw [r.length]; exact hi
      obtain ⟨u', e2, r2⟩ := r.get (List.getElem?_eq_getElem hx)
      rw [e'] at e2
      cases e2
      exact ⟨_, List.getElem?_eq_getElem hx, r2⟩
  | str z =>
    have e0 : xs = sgV z := h
    subst e0
    refine ⟨_, _, _, by
      have D := Draws.text (prog := P) (w := w) (A := A) hh it z t
      have e : (sgV z).length = z.cps.size := by
        unfold sgV
        rw [List.length_map, Array.length_toList]
      rw [e]
      exact D, fun i q => q, fun i h q => q, by simp, fun b hb => .inl (by simpa using hb), fun i u e => ?_⟩
    obtain ⟨c, u', e1, rfl⟩ := e
    refine ⟨.str ⟨#[c]⟩, ?_, u', rfl⟩
    unfold sgV
    rw [List.getElem?_map]
    have e2 : z.cps.toList[i]? = some c := by simpa using e1
    rw [e2]
    rfl
end
theorem turn_newT {P : Program} {w : World} {K : PySem.W.Frag} {tg : Expr} {J : It} {fp wr : List Addr} {it : Addr} {tn : Nat → Heap → Prop}
    (mem : it ∈ fp) (obj : ∀ i h, tn i h → ∀ b ∈ fp, ∃ o, h.get? b = some o ∧ ∀ v, o.data ≠ .cell v) (keep : ∀ i h h', tn i h → (∀ b ∈ fp, ∀ o, h.get? b = some o → h'.get? b = some o) → tn i h')
    (self : ∀ (A : Around) (i : Nat) (s : Shared) (Q : Value → Shared → Prop) (E : Value → Shared → Prop), tn i s.heap → Q (.ref it) s → wpAny (model P w) A (pyIter (.ref it)) Q E s)
    (hwr : ∀ b ∈ wr, b ∈ fp)
    (step : ∀ (X : Cx), X.prog = P → X.w = w → X.K = K → X.calm = true → ∀ (i : Nat) (pins : List (Addr × Obj)) (s : Shared) (σ : St) (H : Hp), Inv X pins σ H s → (∀ b ∈ fp, FpOk X pins H b) → tn i s.heap → (J.go i H ∨ J.stop i H) →
      ∃ (fpG : List Addr) (n : Nat) (Y : Nat → Heap → Value → Heap → Prop) (St : Nat → Heap → Prop), GoesN P w X.A tg it fpG wr n Y St ∧ St i s.heap ∧ (J.go i H → i < n) ∧ (J.stop i H → i = n) ∧ (∀ h', St (i + 1) h' → tn (i + 1) h') ∧
        ∀ v h', Y i s.heap v h' → ∃ T xs us, v = .ref T ∧ s.heap.objs.size ≤ T ∧ h'.IsTuple T us.toArray ∧ Vals xs us ∧ xs.length ≤ 1000 ∧ J.yld i H (.ref T) (upd H T (.tup xs))) :
    Turn P w K tg J fp it tn where
  mem := mem
  obj := obj
  keep := keep
  self := self
  item := by
    intro X hP hw hK hc i pins s σ H E I hf st hg
    obtain ⟨fpG, n, Y, St, G, s0, s1, _, s2, s3⟩ := step X hP hw hK hc i pins s σ H I hf st (.inl hg)
    subst hP hw hK
    refine thn (G.goes i s (fun v s2 => ∃ x H', Inv X pins σ H' s2 ∧ RelV x v ∧ J.yld i H x H' ∧ tn (i + 1) s2.heap ∧ ∀ b ∈ fp, H' b = none) E (s1 hg) s0 fun v h' tk y st' hk _ => ?_) fun r s1 q => q
    obtain ⟨T, xs, us, rfl, hT, hI, hv, hl, q⟩ := s3 v h' y
    have I1 : Inv X pins σ (upd H T (.tup xs)) { s with heap := h', toks := tk } :=
      I.turnedNew (ch := wr) hk (fun b hb => hf b (hwr b hb)) hT ⟨Nat.le_trans hl (by decide), us, hv, hI⟩
    refine ⟨.ref T, _, I1, rfl, q, s2 h' st', fun b hb => ?_⟩
    obtain ⟨o, eo, _⟩ := obj i s.heap st b hb
    have hlt := Heap.lt_size eo
    rw [upd_ne (Nat.ne_of_lt (Nat.lt_of_lt_of_le hlt hT))]
    exact (hf b hb).1
  done := by
    intro X hP hw hK hc i pins s σ H E I hf st hg
    obtain ⟨fpG, n, Y, St, G, s0, _, s1, _, _⟩ := step X hP hw hK hc i pins s σ H I hf st (.inr hg)
    subst hP hw hK
    have e := s1 hg
    subst e
    exact G.stops s (fun s1 => Inv X pins σ H s1) E s0 fun h' tk hk _ => I.turnedL hk fun b hb => hf b (hwr b hb)
end L2
namespace L2
open PySem PySem.Spec PyProof.Rows
def ItE (k : Sk) (xs : List V) : It :=
  ⟨fun i H => k.at H xs ∧ i < xs.length, fun i H v H' => ∃ T x, v = .ref T ∧ H T = none ∧ H' = upd H T (.tup [.int (i : Nat), x]) ∧ xs[i]? = some x, fun i H => k.at H xs ∧ i = xs.length⟩
def ItZ (k l : Sk) (xs ys : List V) : It :=
  ⟨fun i H => (k.at H xs ∧ l.at H ys) ∧ i < min xs.length ys.length, fun i H v H' => ∃ T x y, v = .ref T ∧ H T = none ∧ H' = upd H T (.tup [x, y]) ∧ xs[i]? = some x ∧ ys[i]? = some y, fun i H => (k.at H xs ∧ l.at H ys) ∧ i = min xs.length ys.length⟩
def ItZ3 (k l m : Sk) (xs ys zs : List V) : It :=
  ⟨fun i H => (k.at H xs ∧ l.at H ys ∧ m.at H zs) ∧ i < min (min xs.length ys.length) zs.length, fun i H v H' => ∃ T x y z, v = .ref T ∧ H T = none ∧ H' = upd H T (.tup [x, y, z]) ∧ xs[i]? = some x ∧ ys[i]? = some y ∧ zs[i]? = some z,
    fun i H => (k.at H xs ∧ l.at H ys ∧ m.at H zs) ∧ i = min (min xs.length ys.length) zs.length⟩
theorem off_fp {H : Hp} {fp : List Addr} {it b : Addr} (h : ∀ b ∈ fp, b = it ∨ ∃ o, H b = some o) (hb : H b = none) (hne : b ≠ it) : b ∉ fp := fun m => by
  rcases h b m with e | ⟨o, e⟩
  · exact hne e
  · rw [hb] at e
    cases e
section
variable {P : Program} {w : World} {K : PySem.W.Frag} {elts : List Expr} {kk : Nat} {tpos : Pos}
theorem turn_enumS (k : Sk) (t : Tok) (xs : List V) (e it : Addr) :
    Turn P w K (.Tuple elts kk tpos) (ItE k xs) [e, it] e (fun i h => (∃ old, IsEnum h e it (0 + ((i : Nat) : Int)) old) ∧ k.tn t it i h ∧ e ≠ it) := by
  refine turn_newT (wr := [e, it]) (by simp) (fun i h st b hb => ?_) (fun i h h' st hk => ?_) (fun A i s Q E st h => ?_) (fun b hb => hb) (fun X hP hw hK hc i pins s σ H I hf st hg => ?_)
  · have e' : b = e ∨ b = it := by simpa using hb
    obtain ⟨⟨old, he⟩, st2, _⟩ := st
    rcases e' with z | z
    · rw [z]; exact ⟨_, he, fun v q => nomatch q⟩
    · rw [z]; exact Sk.tn_obj st2
  · obtain ⟨⟨old, he⟩, st2, hne⟩ := st
    exact ⟨⟨old, hk e (by simp) _ he⟩, Sk.tn_keep st2 fun o q => hk it (by simp) o q, hne⟩
  · obtain ⟨⟨old, he⟩, _⟩ := st
    exact wpAny_pyIter_enum he h
  · obtain ⟨⟨old, he⟩, st2, hne⟩ := st
    have hat : k.at H xs := hg.elim (·.1) (·.1)
    have hn1 := (hf e (by simp)).1
    have hn2 := (hf it (by simp)).1
    obtain ⟨fp, St, P', D, d1, d2, d3, d4, d5⟩ := Sk.draws I hat t (P := P) (w := w) (A := X.A.in1) (show X.A.in1.handled = none from I.ok.hd hc) hn2
    refine ⟨_, _, _, _, GoesN.enumFrom 0 D e hne (off_fp d4 hn1 hne) d3, ⟨⟨old, he⟩, d1 i st2⟩, fun g => g.2, fun g => g.2, fun h' st' => ⟨st'.1, d2 _ _ st'.2, hne⟩, fun v h' y => ?_⟩
    obtain ⟨T, tt, x, rfl, hT, hx, hI⟩ := y
    obtain ⟨y, e1, ry⟩ := d5 i x hx
    have e0 : ((0 : Int) + (i : Nat)) = (i : Nat) := Int.zero_add _
    rw [e0] at hI
    exact ⟨T, [.int (i : Nat), y], [.int (i : Nat) tt, x], rfl, hT, hI, .cons ⟨_, rfl⟩ (.cons ry .nil), by simp, T, y, rfl, I.hok.fresh hT, rfl, e1⟩
theorem turn_zipS (k l : Sk) (t u : Tok) (xs ys : List V) (z TI TO i1 i2 : Addr) (nd : [z, TI, TO, i1, i2].Nodup) :
    Turn P w K (.Tuple elts kk tpos) (ItZ k l xs ys) [z, TI, TO, i1, i2] z (fun i h => IsZip h z TI TO .none ∧ IsTupOf2 h TI (.ref i1) (.ref i2) ∧ (∃ a1 a2, IsTupOf2 h TO a1 a2) ∧ k.tn t i1 i h ∧ l.tn u i2 i h) := by
  refine turn_newT (wr := [z, TO, i1, i2]) (by simp) (fun i h st b hb => ?_) (fun i h h' st hk => ?_) (fun A i s Q E st h => ?_) (fun b hb => ?_) (fun X hP hw hK hc i pins s σ H I hf st hg => ?_)
  · obtain ⟨s1, s2, ⟨a1, a2, s3⟩, s4, s5⟩ := st
    have e' : b = z ∨ b = TI ∨ b = TO ∨ b = i1 ∨ b = i2 := by simpa using hb
    rcases e' with q | q | q | q | q
    · rw [q]; exact ⟨_, s1, fun v q => nomatch q⟩
    · rw [q]; exact ⟨_, s2, fun v q => nomatch q⟩
    · rw [q]; exact ⟨_, s3, fun v q => nomatch q⟩
    · rw [q]; exact Sk.tn_obj s4
    · rw [q]; exact Sk.tn_obj s5
  · obtain ⟨s1, s2, ⟨a1, a2, s3⟩, s4, s5⟩ := st
    exact ⟨hk z (by simp) _ s1, hk TI (by simp) _ s2, ⟨a1, a2, hk TO (by simp) _ s3⟩, Sk.tn_keep s4 fun o q => hk i1 (by simp) o q, Sk.tn_keep s5 fun o q => hk i2 (by simp) o q⟩
  · exact wpAny_pyIter_zip st.1 h
  · have e' : b = z ∨ b = TO ∨ b = i1 ∨ b = i2 := by simpa using hb
    rcases e' with q | q | q | q <;> rw [q] <;> simp
  · obtain ⟨s1, s2, s3, s4, s5⟩ := st
    have hat : k.at H xs ∧ l.at H ys := hg.elim (·.1) (·.1)
    have nz := (hf z (by simp)).1
    have nTO := (hf TO (by simp)).1
    have n1 := (hf i1 (by simp)).1
    have n2 := (hf i2 (by simp)).1
    obtain ⟨fp1, St1, P1, D1, d1, d2, d3, d4, d5⟩ := Sk.draws I hat.1 t (P := P) (w := w) (A := X.A.in1) (show X.A.in1.handled = none from I.ok.hd hc) n1
    obtain ⟨fp2, St2, P2, D2, f1, f2, f3, f4, f5⟩ := Sk.draws I hat.2 u (P := P) (w := w) (A := X.A.in1) (show X.A.in1.handled = none from I.ok.hd hc) n2
    have nd' := nd
    simp only [List.nodup_cons, List.mem_cons, List.mem_nil_iff, not_or, or_false, not_false_eq_true, List.nodup_nil, and_true] at nd'
    obtain ⟨⟨a1, a2, a3, a4⟩, ⟨b1, b2, b3⟩, ⟨c1, c2⟩, e1⟩ := nd'
    have S : ZipSep2 z TI TO i1 i2 fp1 fp2 := { TIz := Ne.symm a1, TOz := Ne.symm a2, TITO := b1, TIi1 := b2, mem1 := d3, zf1 := off_fp d4 nz a3, Tf1 := off_fp d4 nTO c1, TIi2 := b3, mem2 := f3, zf2 := off_fp f4 nz a4, Tf2 := off_fp f4 nTO c2, sep1_2 := off_fp f4 n1 e1, sep2_1 := off_fp d4 n2 (Ne.symm e1) }
    refine ⟨_, _, _, _, GoesN.zip2 S D1 D2, ⟨s1, s2, s3, d1 i s4, f1 i s5⟩, fun g => g.2, fun g => g.2, fun h' st' => ⟨st'.1, st'.2.1, st'.2.2.1, d2 _ _ st'.2.2.2.1, f2 _ _ st'.2.2.2.2⟩, fun v h' y => ?_⟩
    obtain ⟨T, x, y, rfl, hT, hx, hy, hI⟩ := y
    obtain ⟨x', g1, rx⟩ := d5 i x hx
    obtain ⟨y', g2, ry⟩ := f5 i y hy
    exact ⟨T, [x', y'], [x, y], rfl, hT, hI, .cons rx (.cons ry .nil), by simp, T, x', y', rfl, I.hok.fresh hT, rfl, g1, g2⟩
theorem turn_zip3S (k l m : Sk) (t u q : Tok) (xs ys zs : List V) (z TI TO i1 i2 i3 : Addr) (nd : [z, TI, TO, i1, i2, i3].Nodup) :
    Turn P w K (.Tuple elts kk tpos) (ItZ3 k l m xs ys zs) [z, TI, TO, i1, i2, i3] z (fun i h => IsZip h z TI TO .none ∧ IsTupOf3 h TI (.ref i1) (.ref i2) (.ref i3) ∧ (∃ a1 a2 a3, IsTupOf3 h TO a1 a2 a3) ∧ k.tn t i1 i h ∧ l.tn u i2 i h ∧ m.tn q i3 i h) := by
  refine turn_newT (wr := [z, TO, i1, i2, i3]) (by simp) (fun i h st b hb => ?_) (fun i h h' st hk => ?_) (fun A i s Q E st h => ?_) (fun b hb => ?_) (fun X hP hw hK hc i pins s σ H I hf st hg => ?_)
  · obtain ⟨s1, s2, ⟨a1, a2, a3, s3⟩, s4, s5, s6⟩ := st
    have e' : b = z ∨ b = TI ∨ b = TO ∨ b = i1 ∨ b = i2 ∨ b = i3 := by simpa using hb
    rcases e' with q | q | q | q | q | q
    · rw [q]; exact ⟨_, s1, fun v q => nomatch q⟩
    · rw [q]; exact ⟨_, s2, fun v q => nomatch q⟩
    · rw [q]; exact ⟨_, s3, fun v q => nomatch q⟩
    · rw [q]; exact Sk.tn_obj s4
    · rw [q]; exact Sk.tn_obj s5
    · rw [q]; exact Sk.tn_obj s6
  · obtain ⟨s1, s2, ⟨a1, a2, a3, s3⟩, s4, s5, s6⟩ := st
    exact ⟨hk z (by simp) _ s1, hk TI (by simp) _ s2, ⟨a1, a2, a3, hk TO (by simp) _ s3⟩, Sk.tn_keep s4 fun o q => hk i1 (by simp) o q, Sk.tn_keep s5 fun o q => hk i2 (by simp) o q, Sk.tn_keep s6 fun o q => hk i3 (by simp) o q⟩
  · exact wpAny_pyIter_zip st.1 h
  · have e' : b = z ∨ b = TO ∨ b = i1 ∨ b = i2 ∨ b = i3 := by simpa using hb
    rcases e' with q | q | q | q | q <;> rw [q] <;> simp
  · obtain ⟨s1, s2, s3, s4, s5, s6⟩ := st
    have hat : k.at H xs ∧ l.at H ys ∧ m.at H zs := hg.elim (·.1) (·.1)
    have nz := (hf z (by simp)).1
    have nTO := (hf TO (by simp)).1
    have n1 := (hf i1 (by simp)).1
    have n2 := (hf i2 (by simp)).1
    have n3 := (hf i3 (by simp)).1
    obtain ⟨fp1, St1, P1, D1, d1, d2, d3, d4, d5⟩ := Sk.draws I hat.1 t (P := P) (w := w) (A := X.A.in1) (show X.A.in1.handled = none from I.ok.hd hc) n1
    obtain ⟨fp2, St2, P2, D2, f1, f2, f3, f4, f5⟩ := Sk.draws I hat.2.1 u (P := P) (w := w) (A := X.A.in1) (show X.A.in1.handled = none from I.ok.hd hc) n2
    obtain ⟨fp3, St3, P3, D3, h1, h2, h3, h4, h5⟩ := Sk.draws I hat.2.2 q (P := P) (w := w) (A := X.A.in1) (show X.A.in1.handled = none from I.ok.hd hc) n3
    have nd' := nd
    simp only [List.nodup_cons, List.mem_cons, List.mem_nil_iff, not_or, or_false, not_false_eq_true, List.nodup_nil, and_true] at nd'
    obtain ⟨⟨a1, a2, a3, a4, a5⟩, ⟨b1, b2, b3, b4⟩, ⟨c1, c2, c3⟩, ⟨e1, e2⟩, g0⟩ := nd'
    have S : ZipSep3 z TI TO i1 i2 i3 fp1 fp2 fp3 := { TIz := Ne.symm a1, TOz := Ne.symm a2, TITO := b1, TIi1 := b2, mem1 := d3, zf1 := off_fp d4 nz a3, Tf1 := off_fp d4 nTO c1, TIi2 := b3, mem2 := f3, zf2 := off_fp f4 nz a4, Tf2 := off_fp f4 nTO c2, TIi3 := b4, mem3 := h3, zf3 := off_fp h4 nz a5, Tf3 := off_fp h4 nTO c3, sep1_2 := off_fp f4 n1 e1, sep1_3 := off_fp h4 n1 e2, sep2_1 := off_fp d4 n2 (Ne.symm e1), sep2_3 := off_fp h4 n2 g0, sep3_1 := off_fp d4 n3 (Ne.symm e2), sep3_2 := off_fp f4 n3 (Ne.symm g0) }
    refine ⟨_, _, _, _, GoesN.zip3 S D1 D2 D3, ⟨s1, s2, s3, d1 i s4, f1 i s5, h1 i s6⟩, fun g => g.2, fun g => g.2, fun h' st' => ⟨st'.1, st'.2.1, st'.2.2.1, d2 _ _ st'.2.2.2.1, f2 _ _ st'.2.2.2.2.1, h2 _ _ st'.2.2.2.2.2⟩, fun v h' y => ?_⟩
    obtain ⟨T, x, y, u, rfl, hT, hx, hy, hu, hI⟩ := y
    obtain ⟨x', g1, rx⟩ := d5 i x hx
    obtain ⟨y', g2, ry⟩ := f5 i y hy
    obtain ⟨u', g3, ru⟩ := h5 i u hu
    exact ⟨T, [x', y', u'], [x, y, u], rfl, hT, hI, .cons rx (.cons ry (.cons ru .nil)), by simp, T, x', y', u', rfl, I.hok.fresh hT, rfl, g1, g2, g3⟩
end
theorem nodup_off (N : Nat) (l : List Nat) (h : l.Nodup) : (l.map fun i => (N + i : Addr)).Nodup := by
  exact List.pairwise_map.mpr (h.imp fun ne e => ne (Nat.add_left_cancel e))
section
variable {X : Cx}
def iEnumS (te : TA) : TI := fun σ H R => te σ H fun vs H1 => ∃ k xs, vs = [Sk.v k] ∧ k.at H1 xs ∧ R (ItE k xs) H1
theorem pi_enumS {e : Expr} {ta : TA} {p pos tpos : Pos} {elts : List Expr} {kk : Nat} (hg : Gl X "enumerate") (hm : X.mg "enumerate" = none) (ha : PA X [e] ta) (hs : starEach [e] X.env = [(false, eval e X.env)] := by rfl) :
    PI X (.Tuple elts kk tpos) (.Call (.Name "enumerate" p) [e] [] pos) (iEnumS ta) := by
  refine ⟨fun pins s σ H R I h => ?_⟩
  refine Call_ (ld_blt I hg hm boot_enumerate (PyProof.Rows.callWith_type1 (thn (ha.run pos pins s σ H _ I h) fun us s1 ⟨vs, H1, I1, r1, q1⟩ => ?_) hs rfl))
  obtain ⟨k, xs, ex, hq, q⟩ := q1
  subst ex
  cases r1 with
  | cons r rr =>
    cases rr
    obtain ⟨t, rfl⟩ := Sk.rel r
    obtain ⟨Hh, B, hH⟩ := Sk.begins I1 hq t
    refine enum_begins1 B hH fun h' he hit hsz hk => wpAny_pyIter_enum he ?_
    have I2 : Inv X pins σ H1 { s1 with heap := h' } := I1.kept (t' := s1.toks) hk
    refine ⟨s1.heap.objs.size + 1, [s1.heap.objs.size + 1, s1.heap.objs.size], _, _, H1, rfl, I2, turn_enumS k t xs (s1.heap.objs.size + 1) s1.heap.objs.size, ⟨⟨.none, he⟩, Sk.tn0 hit, Nat.succ_ne_self _⟩, fun b hb => ?_, q⟩
    have e' : b = s1.heap.objs.size + 1 ∨ b = s1.heap.objs.size := by simpa using hb
    have hle : s1.heap.objs.size ≤ b := by
      rcases e' with z | z
      · rw [z]; exact Nat.le_add_right _ _
      · rw [z]; exact Nat.le_refl _
    exact I1.fpOk hle (I1.hok.fresh hle)
def iZipS (ta : TA) : TI := fun σ H R => ta σ H fun vs H1 => ∃ k l xs ys, vs = [Sk.v k, Sk.v l] ∧ k.at H1 xs ∧ l.at H1 ys ∧ R (ItZ k l xs ys) H1
theorem pi_zipS {e e2 : Expr} {ta : TA} {p pos tpos : Pos} {elts : List Expr} {kk : Nat} (hg : Gl X "zip") (hm : X.mg "zip" = none) (ha : PA X [e, e2] ta)
    (hs : starEach [e, e2] X.env = (false, eval e X.env) :: starEach [e2] X.env := by rfl) (hpl : (backTo pos (starEach [e2] X.env)).any (·.1) = false := by rfl) :
    PI X (.Tuple elts kk tpos) (.Call (.Name "zip" p) [e, e2] [] pos) (iZipS ta) := by
  refine ⟨fun pins s σ H R I h => ?_⟩
  refine Call_ (ld_blt I hg hm boot_zip (PyProof.Rows.callWith_type1 (thn (ha.run pos pins s σ H _ I h) fun us s1 ⟨vs, H1, I1, r1, q1⟩ => ?_) hs hpl))
  obtain ⟨k, l, xs, ys, ex, hq, hq2, q⟩ := q1
  subst ex
  cases r1 with
  | cons r rr =>
    cases rr with
    | cons r2 rr =>
      cases rr
      obtain ⟨t, rfl⟩ := Sk.rel r
      obtain ⟨t2, rfl⟩ := Sk.rel r2
      obtain ⟨H1', B1, h1⟩ := Sk.begins I1 hq t
      obtain ⟨H2', B2, h2⟩ := Sk.begins I1 hq2 t2
      refine zip_begins2 B1 B2 h1 h2 fun h' hz hTI hTO g1 g2 hsz hk => wpAny_pyIter_zip hz ?_
      have I2 : Inv X pins σ H1 { s1 with heap := h' } := I1.kept (t' := s1.toks) hk
      have nd := nodup_off s1.heap.objs.size [4, 2, 3, 0, 1] (by decide)
      refine ⟨s1.heap.objs.size + 4, [s1.heap.objs.size + 4, s1.heap.objs.size + 2, s1.heap.objs.size + 3, s1.heap.objs.size, s1.heap.objs.size + 1], _, _, H1, rfl, I2, turn_zipS k l t t2 xs ys _ _ _ _ _ nd, ⟨hz, hTI, ⟨_, _, hTO⟩, Sk.tn0 g1, Sk.tn0 g2⟩, fun b hb => ?_, q⟩
      have hle : s1.heap.objs.size ≤ b := by
        have e' : b = s1.heap.objs.size + 4 ∨ b = s1.heap.objs.size + 2 ∨ b = s1.heap.objs.size + 3 ∨ b = s1.heap.objs.size ∨ b = s1.heap.objs.size + 1 := by simpa using hb
        rcases e' with z | z | z | z | z <;> rw [z] <;> first | exact Nat.le_add_right _ _ | exact Nat.le_refl _
      exact I1.fpOk hle (I1.hok.fresh hle)
def iZip3S (ta : TA) : TI := fun σ H R => ta σ H fun vs H1 => ∃ k l m xs ys zs, vs = [Sk.v k, Sk.v l, Sk.v m] ∧ k.at H1 xs ∧ l.at H1 ys ∧ m.at H1 zs ∧ R (ItZ3 k l m xs ys zs) H1
theorem pi_zip3S {e e2 e3 : Expr} {ta : TA} {p pos tpos : Pos} {elts : List Expr} {kk : Nat} (hg : Gl X "zip") (hm : X.mg "zip" = none) (ha : PA X [e, e2, e3] ta)
    (hs : starEach [e, e2, e3] X.env = (false, eval e X.env) :: starEach [e2, e3] X.env := by rfl) (hpl : (backTo pos (starEach [e2, e3] X.env)).any (·.1) = false := by rfl) :
    PI X (.Tuple elts kk tpos) (.Call (.Name "zip" p) [e, e2, e3] [] pos) (iZip3S ta) := by
  refine ⟨fun pins s σ H R I h => ?_⟩
  refine Call_ (ld_blt I hg hm boot_zip (PyProof.Rows.callWith_type1 (thn (ha.run pos pins s σ H _ I h) fun us s1 ⟨vs, H1, I1, r1, q1⟩ => ?_) hs hpl))
  obtain ⟨k, l, m, xs, ys, zs, ex, hq, hq2, hq3, q⟩ := q1
  subst ex
  cases r1 with
  | cons r rr =>
    cases rr with
    | cons r2 rr =>
      cases rr with
      | cons r3 rr =>
        cases rr
        obtain ⟨t, rfl⟩ := Sk.rel r
        obtain ⟨t2, rfl⟩ := Sk.rel r2
        obtain ⟨t3, rfl⟩ := Sk.rel r3
        obtain ⟨H1', B1, h1⟩ := Sk.begins I1 hq t
        obtain ⟨H2', B2, h2⟩ := Sk.begins I1 hq2 t2
        obtain ⟨H3', B3, h3⟩ := Sk.begins I1 hq3 t3
        refine zip_begins3 B1 B2 B3 h1 h2 h3 fun h' hz hTI hTO g1 g2 g3 hsz hk => wpAny_pyIter_zip hz ?_
        have I2 : Inv X pins σ H1 { s1 with heap := h' } := I1.kept (t' := s1.toks) hk
        have nd := nodup_off s1.heap.objs.size [5, 3, 4, 0, 1, 2] (by decide)
        refine ⟨s1.heap.objs.size + 5, [s1.heap.objs.size + 5, s1.heap.objs.size + 3, s1.heap.objs.size + 4, s1.heap.objs.size, s1.heap.objs.size + 1, s1.heap.objs.size + 2], _, _, H1, rfl, I2, turn_zip3S k l m t t2 t3 xs ys zs _ _ _ _ _ _ nd, ⟨hz, hTI, ⟨_, _, _, hTO⟩, Sk.tn0 g1, Sk.tn0 g2, Sk.tn0 g3⟩, fun b hb => ?_, q⟩
        have hle : s1.heap.objs.size ≤ b := by
          have e' : b = s1.heap.objs.size + 5 ∨ b = s1.heap.objs.size + 3 ∨ b = s1.heap.objs.size + 4 ∨ b = s1.heap.objs.size ∨ b = s1.heap.objs.size + 1 ∨ b = s1.heap.objs.size + 2 := by simpa using hb
          rcases e' with z | z | z | z | z | z <;> rw [z] <;> first | exact Nat.le_add_right _ _ | exact Nat.le_refl _
        exact I1.fpOk hle (I1.hok.fresh hle)
def iAny (K : PySem.W.Frag) (te : TE) : TI := fun σ H R => te σ H fun v H1 => (∃ a, v = .ref a ∧ (∃ xs, SqL K H1 a xs) ∧ R (Itl K a) H1) ∨ (∃ a, v = .ref a ∧ (∃ xs, SqT K H1 a xs) ∧ R (Itt K a) H1) ∨ ∃ x, v = .str x ∧ R (Its x) H1
theorem pi_any {tg e : Expr} {te : TE} (he : PE X e te) : PI X tg e (iAny X.K te) := by
  refine ⟨fun pins s σ H R I h => ?_⟩
  refine thn (he.run pins s σ H _ I h) fun v s1 ⟨x, H1, I1, r1, q1⟩ => ?_
  rcases q1 with ⟨a, e, ⟨xs, hq⟩, q⟩ | ⟨a, e, ⟨xs, hq⟩, q⟩ | ⟨x, ex, q⟩
  · subst e
    cases r1
    obtain ⟨its, rv, p, hz⟩ := I1.list hq
    refine wpAny_pyIter_list p.isList ?_
    refine ⟨s1.heap.objs.size, [s1.heap.objs.size], _, _, H1, rfl, I1.kept (t' := s1.toks) fun b o e => Heap.get?_push_of_some _ e, turn_list a _, ⟨_, Heap.get?_push_size _ rfl, rfl, rfl⟩, fun b hb => ?_, q⟩
    have e : b = s1.heap.objs.size := by simpa using hb
    subst e
    exact I1.fpOk (Nat.le_refl _) (I1.hok.fresh (Nat.le_refl _))
  · subst e
    cases r1
    obtain ⟨its, rv, p, hz⟩ := I1.tuple hq
    refine wpAny_pyIter_tuple (show s1.heap.IsTuple a its.toArray from p) ?_
    refine ⟨s1.heap.objs.size, [s1.heap.objs.size], _, _, H1, rfl, I1.kept (t' := s1.toks) fun b o e => Heap.get?_push_of_some _ e, turn_tuple a _, ⟨_, Heap.get?_push_size _ rfl, rfl, rfl⟩, fun b hb => ?_, q⟩
    have e : b = s1.heap.objs.size := by simpa using hb
    subst e
    exact I1.fpOk (Nat.le_refl _) (I1.hok.fresh (Nat.le_refl _))
  · subst ex
    obtain ⟨t, rfl⟩ := r1
    cases ha : x.cps.all (· < 128)
    · exact wpAny_pyIter_wide ha (pi_one (tk := s1.toks) I1 _ (turn_str _ x t "str_iterator" (.inr rfl)) ⟨_, Heap.get?_push_size _ rfl, rfl, rfl⟩ q)
    · exact wpAny_pyIter_ascii ha (pi_one (tk := s1.toks) I1 _ (turn_str _ x t "str_ascii_iterator" (.inl rfl)) ⟨_, Heap.get?_push_size _ rfl, rfl, rfl⟩ q)
end
end L2
namespace Pd
variable {ℓ : Bool}
open PySem L2
def srcD : D → Option (List D)
  | .lst xs => some xs
  | .tup xs => some xs
  | .str l => some (sgn l)
  | _ => none
theorem den_src {K : PySem.W.Frag} {g : Gh} {v : V} {d : D} {xs : List D} (h : Den K g v d) (e : srcD d = some xs) : ∃ (k : Sk) (vs : List V), v = k.v ∧ (∀ H, Same g.G H → k.at H vs) ∧ Dens K g vs xs := by
  cases h with
  | lst h1 h2 =>
    cases e
    exact ⟨.lst _, _, rfl, fun H s => s _ _ h1, h2⟩
  | tup h1 h2 =>
    cases e
    exact ⟨.tup _, _, rfl, fun H s => h1.same s, h2⟩
  | str l =>
    cases e
    exact ⟨.str ⟨l.toArray⟩, _, rfl, fun H s => rfl, dens_sgn l⟩
  | _ => cases e
def iVal (d : DE) : DI := fun n ε P => d n ε fun n1 x => ∃ xs, srcD x = some xs ∧ P n1 xs
def rngD (lo : Int) (n : Nat) : List D := (List.range n).map fun i => D.int (lo + (i : Nat))
def iRg1 (d : DE) : DI := fun n ε P => d n ε fun n1 x => match x with
  | .int j => -(2 ^ 62) ≤ j ∧ j < 2 ^ 62 ∧ P n1 (rngD 0 j.toNat)
  | _ => False
def enumD (xs : List D) : List D := xs.zipIdx.map fun p => .tup [.int (p.2 : Nat), p.1]
def zipD (xs ys : List D) : List D := List.zipWith (fun x y => .tup [x, y]) xs ys
def zip3D (xs ys zs : List D) : List D := List.zipWith (fun f z => f z) (List.zipWith (fun x y z => D.tup [x, y, z]) xs ys) zs
def iEnm (d : DE) : DI := fun n ε P => d n ε fun n1 x => ∃ xs, srcD x = some xs ∧ P n1 (enumD xs)
def iZp (d e : DE) : DI := fun n ε P => d n ε fun n1 x => e n1 ε fun n2 y => ∃ xs ys, srcD x = some xs ∧ srcD y = some ys ∧ P n2 (zipD xs ys)
def iZp3 (d e f : DE) : DI := fun n ε P => d n ε fun n1 x => e n1 ε fun n2 y => f n2 ε fun n3 z => ∃ xs ys zs, srcD x = some xs ∧ srcD y = some ys ∧ srcD z = some zs ∧ P n3 (zip3D xs ys zs)
theorem enumD_length (xs : List D) : (enumD xs).length = xs.length := by simp [enumD]
theorem zipD_length (xs ys : List D) : (zipD xs ys).length = min xs.length ys.length := by simp [zipD]
theorem zip3D_length (xs ys zs : List D) : (zip3D xs ys zs).length = min (min xs.length ys.length) zs.length := by simp [zip3D]
theorem enumD_get {xs : List D} {i : Nat} {d : D} (h : xs[i]? = some d) : (enumD xs)[i]? = some (.tup [.int (i : Nat), d]) := by
  unfold enumD
  rw [List.getElem?_map, List.getElem?_zipIdx, h]
  simp
theorem zipD_get {xs ys : List D} {i : Nat} {d e : D} (h : xs[i]? = some d) (h' : ys[i]? = some e) : (zipD xs ys)[i]? = some (.tup [d, e]) := by
  unfold zipD
  rw [List.getElem?_zipWith, h, h']
theorem zip3D_get {xs ys zs : List D} {i : Nat} {d e f : D} (h : xs[i]? = some d) (h' : ys[i]? = some e) (h2 : zs[i]? = some f) : (zip3D xs ys zs)[i]? = some (.tup [d, e, f]) := by
  unfold zip3D
  rw [List.getElem?_zipWith, List.getElem?_zipWith, h, h', h2]
section
variable {K : PySem.W.Frag} {g : Gh}
theorem walk_flat {J : It} {xs : List D} (go : ∀ i H, i < xs.length → Same g.G H → J.go i H) (stop : ∀ H, Same g.G H → J.stop xs.length H) (yld : ∀ i x H H', i < xs.length → Same g.G H → J.yld i H x H' → H' = H ∧ ∃ d, xs[i]? = some d ∧ Den K g x d) : WalkD ℓ K g J xs :=
  ⟨go, stop, fun i x H H' g1 n hi ex ok y => by
    obtain ⟨rfl, d, e, dd⟩ := yld i x H H' hi (ex.G.trans ok.sub) y
    exact ⟨g1, d, e, Stp.refl _ _, ok, dd.mono ex⟩⟩
theorem walk_list {a : Addr} {vs : List V} {xs : List D} (h : g.G a = some (.lst vs)) (dd : Dens K g vs xs) : WalkD ℓ K g (Itl K a) xs :=
  walk_flat (fun i H hi sm => ⟨vs, vs[i]'(by rw [dd.length]; exact hi), SqL.of (sm _ _ h), List.getElem?_eq_getElem _⟩) (fun H sm => ⟨vs, SqL.of (sm _ _ h), by rw [dd.length]; exact Nat.le_refl _⟩) fun i x H H' hi sm y => ⟨y.1, dd.getV (y.2 vs (SqL.of (sm _ _ h)))⟩
theorem walk_tup {a : Addr} {vs : List V} {xs : List D} (h : Rd g.G a (.tup vs)) (dd : Dens K g vs xs) : WalkD ℓ K g (Itt K a) xs :=
  walk_flat (fun i H hi sm => ⟨vs, vs[i]'(by rw [dd.length]; exact hi), Or.inl (h.same sm), List.getElem?_eq_getElem _⟩) (fun H sm => ⟨vs, Or.inl (h.same sm), by rw [dd.length]; exact Nat.le_refl _⟩) fun i x H H' hi sm y => ⟨y.1, dd.getV (y.2 vs (Or.inl (h.same sm)))⟩
theorem sgn_length (l : List Nat) : (sgn l).length = l.length := by simp [sgn]
theorem walk_str (l : List Nat) : WalkD ℓ K g (Its ⟨l.toArray⟩) (sgn l) :=
  walk_flat (fun i H hi sm => by
    show i < l.toArray.size
    rw [List.size_toArray, ← sgn_length l]
    exact hi) (fun H sm => by
    show l.toArray.size ≤ _
    rw [List.size_toArray, sgn_length]
    exact Nat.le_refl _) fun i x H H' hi sm y => by
    obtain ⟨e, c, e1, rfl⟩ := y
    have e2 : l[i]? = some c := by simpa using e1
    refine ⟨e, .str [c], ?_, .str [c]⟩
    unfold sgn
    rw [List.getElem?_map, e2]
    rfl
theorem rngD_length (lo : Int) (n : Nat) : (rngD lo n).length = n := by simp [rngD]
theorem walk_rng (lo : Int) (n : Nat) : WalkD ℓ K g (Itr lo n) (rngD lo n) :=
  walk_flat (fun i H hi sm => by
    rw [rngD_length] at hi
    exact hi) (fun H sm => by
    show n ≤ _
    rw [rngD_length]
    exact Nat.le_refl _) fun i x H H' hi sm y => by
    obtain ⟨e, rfl⟩ := y
    rw [rngD_length] at hi
    refine ⟨e, .int (lo + i), ?_, .int _⟩
    unfold rngD
    rw [List.getElem?_map, List.getElem?_range hi]
    rfl
theorem walk_tupN {J : It} {xs : List D} (go : ∀ i H, i < xs.length → Same g.G H → J.go i H) (stop : ∀ H, Same g.G H → J.stop xs.length H)
    (yld : ∀ i x H H', i < xs.length → Same g.G H → J.yld i H x H' → ∃ T vs ds, x = .ref T ∧ H T = none ∧ H' = upd H T (.tup vs) ∧ Dens K g vs ds ∧ xs[i]? = some (.tup ds)) : WalkD ℓ K g J xs :=
  ⟨go, stop, fun i x H H' g1 n hi ex ok y => by
    obtain ⟨T, vs, ds, rfl, hT, rfl, dd, e⟩ := yld i x H H' hi (ex.G.trans ok.sub) y
    exact ⟨g1.add T (.tup vs), _, e, Stp.add ok hT, ok.add hT, .tup (.inl Gh.at) (dd.mono (ex.trans (Stp.add ok hT).ext))⟩⟩
theorem walk_enum {k : Sk} {vs : List V} {xs : List D} (h : ∀ H, Same g.G H → k.at H vs) (dd : Dens K g vs xs) : WalkD ℓ K g (ItE k vs) (enumD xs) := by
  have hl := dd.length
  refine walk_tupN (fun i H hi sm => ⟨h H sm, by rw [enumD_length] at hi; omega⟩) (fun H sm => ⟨h H sm, by rw [enumD_length]; omega⟩) fun i x H H' hi sm y => ?_
  obtain ⟨T, u, rfl, hT, rfl, e⟩ := y
  obtain ⟨d, e1, dv⟩ := dd.getV e
  exact ⟨T, _, _, rfl, hT, rfl, .cons (.int _) (.cons dv .nil), enumD_get e1⟩
theorem walk_zip {k l : Sk} {vs ws : List V} {xs ys : List D} (h : ∀ H, Same g.G H → k.at H vs) (dd : Dens K g vs xs) (h' : ∀ H, Same g.G H → l.at H ws) (dd' : Dens K g ws ys) : WalkD ℓ K g (ItZ k l vs ws) (zipD xs ys) := by
  have hl := dd.length
  have hl' := dd'.length
  refine walk_tupN (fun i H hi sm => ⟨⟨h H sm, h' H sm⟩, by rw [zipD_length] at hi; rw [hl, hl']; exact hi⟩) (fun H sm => ⟨⟨h H sm, h' H sm⟩, by rw [zipD_length, hl, hl']⟩) fun i x H H' hi sm y => ?_
  obtain ⟨T, u, v, rfl, hT, rfl, e, e'⟩ := y
  obtain ⟨d, e1, dv⟩ := dd.getV e
  obtain ⟨d', e1', dv'⟩ := dd'.getV e'
  exact ⟨T, _, _, rfl, hT, rfl, .cons dv (.cons dv' .nil), zipD_get e1 e1'⟩
theorem walk_zip3 {k l m : Sk} {vs ws us : List V} {xs ys zs : List D} (h : ∀ H, Same g.G H → k.at H vs) (dd : Dens K g vs xs) (h' : ∀ H, Same g.G H → l.at H ws) (dd' : Dens K g ws ys) (h2 : ∀ H, Same g.G H → m.at H us) (dd2 : Dens K g us zs) : WalkD ℓ K g (ItZ3 k l m vs ws us) (zip3D xs ys zs) := by
  have hl := dd.length
  have hl' := dd'.length
  have hl2 := dd2.length
  refine walk_tupN (fun i H hi sm => ⟨⟨h H sm, h' H sm, h2 H sm⟩, by rw [zip3D_length] at hi; rw [hl, hl', hl2]; exact hi⟩) (fun H sm => ⟨⟨h H sm, h' H sm, h2 H sm⟩, by rw [zip3D_length, hl, hl', hl2]⟩) fun i x H H' hi sm y => ?_
  obtain ⟨T, u, v, w, rfl, hT, rfl, e, e', e2⟩ := y
  obtain ⟨d, e1, dv⟩ := dd.getV e
  obtain ⟨d', e1', dv'⟩ := dd'.getV e'
  obtain ⟨d2, e12, dv2⟩ := dd2.getV e2
  exact ⟨T, _, _, rfl, hT, rfl, .cons dv (.cons dv' (.cons dv2 .nil)), zip3D_get e1 e1' e12⟩
end
section
variable {X : Cx} {pos p tpos : Pos} {tg e a b c : Expr} {elts : List Expr} {kk : Nat} {d da db dc : DE}
theorem pi_w {wi wi' : TI} (h : PI X tg e wi) (w : ∀ σ H R, wi' σ H R → wi σ H R) : PI X tg e wi' := ⟨fun pins s σ H R I q => h.run pins s σ H R I (w σ H R q)⟩
theorem di_val (he : PE X e (liftE ℓ X.K d)) : PI X tg e (liftI ℓ X.K (iVal d)) :=
  pi_w (pi_any he) fun σ H R ⟨O, g, n, ε, P, r, q, k⟩ => ⟨O, g, n, ε, _, r, q, fun v g1 H1 n1 x q1 s1 o1 e1 => by
    obtain ⟨xs, e2, q2⟩ := q1
    cases e1 with
    | lst h1 h2 =>
      cases e2
      exact .inl ⟨_, rfl, ⟨_, SqL.of (o1.sub _ _ h1)⟩, k _ g1 H1 n1 _ q2 s1 o1 (walk_list h1 h2)⟩
    | tup h1 h2 =>
      cases e2
      exact .inr (.inl ⟨_, rfl, ⟨_, Or.inl (h1.same o1.sub)⟩, k _ g1 H1 n1 _ q2 s1 o1 (walk_tup h1 h2)⟩)
    | str l =>
      cases e2
      exact .inr (.inr ⟨_, rfl, k _ g1 H1 n1 _ q2 s1 o1 (walk_str l)⟩)
    | _ => cases e2⟩
theorem di_rg1 (hg : Gl X "range") (hm : X.mg "range" = none) (ha : PE X a (liftE ℓ X.K da)) (hs : starEach [a] X.env = [(false, eval a X.env)] := by rfl) : PI X tg (.Call (.Name "range" p) [a] [] pos) (liftI ℓ X.K (iRg1 da)) :=
  pi_w (pi_range1 hg hm (pa_cons ha pa_nil hs) hs) fun σ H R ⟨O, g, n, ε, P, r, q, k⟩ => ⟨O, g, n, ε, _, r, q, fun v g1 H1 n1 x q1 s1 o1 e1 => by
    cases e1 with
    | int j => exact ⟨j, rfl, q1.1, q1.2.1, k _ g1 H1 n1 _ q1.2.2 s1 o1 (walk_rng 0 _)⟩
    | _ => exact q1.elim⟩
theorem di_enum (hg : Gl X "enumerate") (hm : X.mg "enumerate" = none) (ha : PE X a (liftE ℓ X.K da)) (hs : starEach [a] X.env = [(false, eval a X.env)] := by rfl) : PI X (.Tuple elts kk tpos) (.Call (.Name "enumerate" p) [a] [] pos) (liftI ℓ X.K (iEnm da)) :=
  pi_w (pi_enumS hg hm (pa_cons ha pa_nil hs) hs) fun σ H R ⟨O, g, n, ε, P, r, q, k⟩ => ⟨O, g, n, ε, _, r, q, fun v g1 H1 n1 x q1 s1 o1 e1 => by
    obtain ⟨xs, e2, q2⟩ := q1
    obtain ⟨sk, vs, rfl, hat, dd⟩ := den_src e1 e2
    exact ⟨sk, vs, rfl, hat _ o1.sub, k _ g1 H1 n1 _ q2 s1 o1 (walk_enum hat dd)⟩⟩
theorem di_zip (hg : Gl X "zip") (hm : X.mg "zip" = none) (ha : PE X a (liftE ℓ X.K da)) (hb : PE X b (liftE ℓ X.K db)) (hs : starEach [a, b] X.env = (false, eval a X.env) :: starEach [b] X.env := by rfl) (hs2 : starEach [b] X.env = (false, eval b X.env) :: starEach [] X.env := by rfl)
    (hpl : (backTo pos (starEach [b] X.env)).any (·.1) = false := by rfl) : PI X (.Tuple elts kk tpos) (.Call (.Name "zip" p) [a, b] [] pos) (liftI ℓ X.K (iZp da db)) :=
  pi_w (pi_zipS hg hm (pa_cons ha (pa_cons hb pa_nil hs2) hs) hs hpl) fun σ H R ⟨O, g, n, ε, P, r, q, k⟩ => two_ok r q fun x y g' H' n' dx dy q2 s o e1 e2 => by
    obtain ⟨xs, ys, z1, z2, q3⟩ := q2
    obtain ⟨k1, vs, rfl, a1, d1⟩ := den_src e1 z1
    obtain ⟨k2, ws, rfl, a2, d2⟩ := den_src e2 z2
    exact ⟨k1, k2, vs, ws, rfl, a1 _ o.sub, a2 _ o.sub, k _ g' H' n' _ q3 s o (walk_zip a1 d1 a2 d2)⟩
theorem di_zip3 (hg : Gl X "zip") (hm : X.mg "zip" = none) (ha : PE X a (liftE ℓ X.K da)) (hb : PE X b (liftE ℓ X.K db)) (hc : PE X c (liftE ℓ X.K dc)) (hs : starEach [a, b, c] X.env = (false, eval a X.env) :: starEach [b, c] X.env := by rfl)
    (hs2 : starEach [b, c] X.env = (false, eval b X.env) :: starEach [c] X.env := by rfl) (hs3 : starEach [c] X.env = (false, eval c X.env) :: starEach [] X.env := by rfl)
    (hpl : (backTo pos (starEach [b, c] X.env)).any (·.1) = false := by rfl) : PI X (.Tuple elts kk tpos) (.Call (.Name "zip" p) [a, b, c] [] pos) (liftI ℓ X.K (iZp3 da db dc)) :=
  pi_w (pi_zip3S hg hm (pa_cons ha (pa_cons hb (pa_cons hc pa_nil hs3) hs2) hs) hs hpl) fun σ H R ⟨O, g, n, ε, P, r, q, k⟩ => ⟨O, g, n, ε, _, r, q, fun v1 g1 H1 n1 x q1 s1 o1 e1 => ⟨O, g1, n1, ε, _, r.step s1 o1, q1, fun v2 g2 H2 n2 y q2 s2 o2 e2 => ⟨O, g2, n2, ε, _, (r.step s1 o1).step s2 o2, q2, fun v3 g3 H3 n3 z q3 s3 o3 e3 => by
    obtain ⟨xs, ys, zs, z1, z2, z3, q4⟩ := q3
    obtain ⟨k1, vs, rfl, a1, d1⟩ := den_src (e1.mono (s2.trans s3).ext) z1
    obtain ⟨k2, ws, rfl, a2, d2⟩ := den_src (e2.mono s3.ext) z2
    obtain ⟨k3, us, rfl, a3, d3⟩ := den_src e3 z3
    exact ⟨k1, k2, k3, vs, ws, us, rfl, a1 _ o3.sub, a2 _ o3.sub, a3 _ o3.sub, k _ g3 H3 n3 _ q4 ((s1.trans s2).trans s3) o3 (walk_zip3 a1 d1 a2 d2 a3 d3)⟩⟩⟩⟩
theorem chain_ok {K : PySem.W.Frag} {r r' : R2} {go go' : G2} (hs : SOp ℓ K r go) (hs' : SOp ℓ K r' go') : ∀ σ H Q, liftE ℓ K (dChain go go' da db dc) σ H Q → tChain r r' (liftE ℓ K da) (liftE ℓ K db) (liftE ℓ K dc) σ H Q := fun σ H Q ⟨O, g, n, ε, P, rr, q, k⟩ =>
  ⟨O, g, n, ε, _, rr, q, fun v1 g1 H1 n1 x q1 s1 o1 e1 => ⟨O, g1, n1, ε, _, rr.step s1 o1, q1, fun v2 g2 H2 n2 y q2 s2 o2 e2 => hs.ok o2 (e1.mono s2.ext) e2 q2 fun v g3 H3 z q3 s3 o3 e3 => by
    cases e3 with
    | bl b =>
      refine ⟨b, rfl, ?_⟩
      have st := (s1.trans s2).trans s3
      cases b with
      | true =>
        rw [if_pos rfl]
        exact ⟨O, g3, n2, ε, _, rr.step st o3, q3.1 rfl, fun v4 g4 H4 n4 w q4 s4 o4 e4 => hs'.ok o4 (e2.mono (s3.trans s4).ext) e4 q4 (Fin.of k (st.trans s4))⟩
      | false =>
        rw [if_neg (by decide)]
        exact k _ g3 H3 n2 _ (q3.2 rfl) st o3 (.bl false)
    | _ => exact q3.elim⟩⟩
theorem dt_chain {op op' : CmpOp} {r r' : R2} {go go' : G2} (ho : OpR X (compareOp op) r) (ho' : OpR X (compareOp op') r') (hs : SOp ℓ X.K r go) (hs' : SOp ℓ X.K r' go') (ha : PE X a (liftE ℓ X.K da)) (hb : PE X b (liftE ℓ X.K db)) (hc : PE X c (liftE ℓ X.K dc))
    (hm : lastMarks [op, op'] [b, c] = false := by with_unfolding_all rfl) : PT X (.Compare a [op, op'] [b, c] pos) (liftT ℓ X.K (dTB (dChain go go' da db dc))) :=
  pt_w (pt_chain ho ho' ha hb hc hm) fun σ H Q ⟨O, g, n, ε, P, r, q, k⟩ => chain_ok hs hs' _ _ _ ⟨O, g, n, ε, _, r, q, fun v g1 H1 n1 x q1 s1 o1 e1 => by
    cases e1 with
    | bl b => exact ⟨b, rfl, k b g1 H1 n1 q1 s1 o1⟩
    | _ => exact q1.elim⟩
def dNeg (d : DE) : DE := fun n ε P => d n ε fun n1 x => match x with
  | .int i => P n1 (.int (-i))
  | _ => False
theorem de_neg (ha : PE X a (liftE ℓ X.K da)) : PE X (.UnaryOp .USub a pos) (liftE ℓ X.K (dNeg da)) :=
  de_of (pe_un un_neg ha) fun O g H n σ ε P Q r q k => ⟨O, g, n, ε, _, r, q, fun v g1 H1 n1 x q1 s1 o1 e1 => by
    cases e1 with
    | int i => exact ⟨i, rfl, k _ g1 H1 n1 _ q1 s1 o1 (.int _)⟩
    | _ => exact q1.elim⟩
def dStar (d : DE) (t : DA) : DA := fun n ε P => d n ε fun n1 x => match x with
  | .lst xs => t n1 ε fun n2 ys => P n2 (xs ++ ys)
  | .tup xs => t n1 ε fun n2 ys => P n2 (xs ++ ys)
  | _ => False
theorem da_star {es : List Expr} {t : DA} (he : PE X e (liftE ℓ X.K d)) (hr : PA X es (liftA ℓ X.K t)) (hs : starEach (.Starred e p :: es) X.env = (true, eval e X.env) :: starEach es X.env := by rfl) : PA X (.Starred e p :: es) (liftA ℓ X.K (dStar d t)) :=
  pa_w (StX.pa_star he hr hs) fun σ H Q ⟨O, g, n, ε, P, r, q, k⟩ => ⟨O, g, n, ε, _, r, q, fun v g1 H1 n1 x q1 s1 o1 e1 => by
    cases e1 with
    | lst h1 h2 => exact ⟨_, _, rfl, .inr (SqL.of (o1.sub _ _ h1)), O, g1, n1, ε, _, r.step s1 o1, q1, fun vs g2 H2 n2 ds q2 s2 o2 e2 => k _ g2 H2 n2 _ q2 (s1.trans s2) o2 ((h2.mono s2.ext).append e2)⟩
    | tup h1 h2 => exact ⟨_, _, rfl, .inl (Or.inl (h1.same o1.sub)), O, g1, n1, ε, _, r.step s1 o1, q1, fun vs g2 H2 n2 ds q2 s2 o2 e2 => k _ g2 H2 n2 _ q2 (s1.trans s2) o2 ((h2.mono s2.ext).append e2)⟩
    | _ => exact q1.elim⟩
end
end Pd
namespace Pd
variable {ℓ : Bool}
open PySem L2
structure HasF (ℓ : Bool) (P : Program) (w : World) (K : PySem.W.Frag) (mg : Str → Option Value) (base : Heap) (k : Nat) (f : Addr) (ps : List Str) (dd : List D) (sp : FD) : Prop where
  ex : ∃ fd dvs ds, FnOk P w K mg base CX0 k f fd ps (liftF ℓ K sp) ∧ PySem.W.keepIn K (.ref f) = true ∧ Binds K fd ps ds ∧ Vals dvs ds ∧ ∀ g, Dens K g dvs dd
structure HasG (ℓ : Bool) (P : Program) (w : World) (K : PySem.W.Frag) (mg : Str → Option Value) (base : Heap) (k : Nat) (f : Addr) (ps : List Str) (dd : List D) (sp : FD) : Prop where
  ex : ∃ fd dvs ds, FnG P w K mg base k f fd ps (liftF ℓ K sp) ∧ PySem.W.keepIn K (.ref f) = true ∧ Binds K fd ps ds ∧ Vals dvs ds ∧ ∀ g, Dens K g dvs dd
structure HasI (ℓ : Bool) (P : Program) (w : World) (K : PySem.W.Frag) (mg : Str → Option Value) (base : Heap) (k : Nat) (C : Addr) (ps : List Str) (dd : List D) (fi : FI) : Prop where
  ex : ∃ f fd dvs ds, FnOk P w K mg base CX0 k f fd ps (liftInit ℓ K C fi) ∧ Mk K C f ∧ Binds K fd ps ds ∧ Vals dvs ds ∧ ∀ g, Dens K g dvs dd
structure HasM (ℓ : Bool) (P : Program) (w : World) (K : PySem.W.Frag) (mg : Str → Option Value) (base : Heap) (k : Nat) (C : Addr) (m : Str) (ps : List Str) (dd : List D) (sp : FD) : Prop where
  ex : ∃ f fd dvs ds, FnOk P w K mg base CX0 k f fd ps (liftF ℓ K sp) ∧ Cls K C ∧ Meth K C m f ∧ Binds K fd ps ds ∧ Vals dvs ds ∧ ∀ g, Dens K g dvs dd
structure HasP (ℓ : Bool) (P : Program) (w : World) (K : PySem.W.Frag) (mg : Str → Option Value) (base : Heap) (k : Nat) (C : Addr) (m : Str) (ps : List Str) (sp : FD) : Prop where
  ex : ∃ p f fd, FnOk P w K mg base CX0 k f fd ps (liftF ℓ K sp) ∧ Cls K C ∧ PropOf K C m p f ∧ Binds K fd ps []
section
variable {X : Cx} {k : Nat} {f C : Addr} {ps : List Str} {sp : FD} {dd : List D} {x m : Str} {p pos apos : Pos} {e o : Expr} {es : List Expr} {da : DE} {t : DA} {fi : FI}
theorem de_callF (G : HasF ℓ X.prog X.w X.K X.mg X.base k f ps dd sp) (hr : Room k X.A) (hg : Gl X x) (hm : X.mg x = some (.ref f))
    (ha : PA X (e :: es) (liftA ℓ X.K t)) (hdb : (x == ("__debug__" : Str)) = false := by decide) (he : starEach (e :: es) X.env = (false, eval e X.env) :: starEach es X.env := by rfl) (hpl : (backTo pos (starEach es X.env)).any (·.1) = false := by rfl) :
    PE X (.Call (.Name x p) (e :: es) [] pos) (liftE ℓ X.K (dCall sp dd t)) := by
  obtain ⟨fd, dvs, ds, F, hk, hb, hv, hd⟩ := G.ex
  exact de_call F hr hg hm hk hb hv hd ha hdb he hpl
theorem de_makeF (G : HasI ℓ X.prog X.w X.K X.mg X.base k C ps dd fi) (hr : Room (k + 1) X.A) (hg : Gl X x) (hm : X.mg x = some (.ref C))
    (ha : PA X (e :: es) (liftA ℓ X.K t)) (hdb : (x == ("__debug__" : Str)) = false := by decide) (he : starEach (e :: es) X.env = (false, eval e X.env) :: starEach es X.env := by rfl) (hpl : (backTo pos (starEach es X.env)).any (·.1) = false := by rfl) :
    PE X (.Call (.Name x p) (e :: es) [] pos) (liftE ℓ X.K (dMake C fi dd t)) := by
  obtain ⟨f, fd, dvs, ds, F, M, hb, hv, hd⟩ := G.ex
  exact de_make M F hr hg hm hb hv hd ha hdb he hpl
theorem de_propF (G : HasP ℓ X.prog X.w X.K X.mg X.base k C m ps sp) (hr : Room (k + 1) X.A) (ha : PE X o (liftE ℓ X.K da)) (hab : attributeBase o m X.env (eval o X.env) = eval o X.env := by rfl) : PE X (.Attribute o m pos) (liftE ℓ X.K (dProp C sp da)) := by
  obtain ⟨p, f, fd, F, c, hp, hb⟩ := G.ex
  exact de_prop c hp F hr hb ha hab
theorem de_methF {pl : Sem Bool} (G : HasM ℓ X.prog X.w X.K X.mg X.base k C m ps dd sp) (hr : Room k X.A) (ho : PE X o (liftE ℓ X.K da)) (ha : PA X (e :: es) (liftA ℓ X.K t))
    (hst : starEach (e :: es) X.env = (false, eval e X.env) :: starEach es X.env := by rfl) (hpl : (backTo pos (starEach es X.env)).any (·.1) = false := by rfl)
    (ht : eval (.Call (.Attribute o m apos) (e :: es) [] pos) X.env = (do
      let ov ← eval o X.env
      standAt apos.atName
      let (f, first) ← holding [ov] (getMethod ov m pl)
      callWith pos f first (backTo pos (starEach (e :: es) X.env)) (backToKw pos (keywordEach [] X.env))) := by rfl) :
    PE X (.Call (.Attribute o m apos) (e :: es) [] pos) (liftE ℓ X.K (dMeth C m sp dd da t)) := by
  obtain ⟨f, fd, dvs, ds, F, c, M, hb, hv, hd⟩ := G.ex
  exact de_meth (pl := pl) c M F hr hb hv hd ho ha hst hpl ht
theorem ru {k : Nat} {A : Around} (r : Room k A) : A.units + 65 < cLine := by
  have := r.un
  omega
end
theorem bt_abs : bootBuiltins "abs" = some (.builtin "abs") := by decide +kernel
theorem bt_len : bootBuiltins "len" = some (.builtin "len") := by decide +kernel
theorem bt_max : bootBuiltins "max" = some (.builtin "max") := by decide +kernel
theorem bt_min : bootBuiltins "min" = some (.builtin "min") := by decide +kernel
theorem bt_sum : bootBuiltins "sum" = some (.builtin "sum") := by decide +kernel
theorem bt_any : bootBuiltins "any" = some (.builtin "any") := by decide +kernel
theorem bt_all : bootBuiltins "all" = some (.builtin "all") := by decide +kernel
theorem bt_int : bootBuiltins "int" = some (.type "int") := by decide +kernel
theorem bt_str : bootBuiltins "str" = some (.type "str") := by decide +kernel
theorem bt_bool : bootBuiltins "bool" = some (.type "bool") := by decide +kernel
theorem bt_list : bootBuiltins "list" = some (.type "list") := by decide +kernel
theorem bt_tuple : bootBuiltins "tuple" = some (.type "tuple") := by decide +kernel
def LamD (K : PySem.W.Frag) (qual : Str) (fd : FuncData) : Prop := ∃ (c P : Addr) (o : Obj), fd.code = .ref c ∧ K.lookup c = some o ∧ tabOf o = some (P, qual ++ ".<locals>." ++ "<lambda>")
theorem lamD_of {K : PySem.W.Frag} {qual : Str} {fd : FuncData} (h1 : PySem.W.codeIn K fd.code qual = true) (h2 : (match fd.code with
    | .ref c => (match K.lookup c with
      | some o => (tabOf o).isSome
      | none => false)
    | _ => false) = true) : LamD K qual fd := by
  unfold PySem.W.codeIn at h1
  split at h1
  · rename_i c hc
    rw [hc] at h2
    dsimp only at h2
    split at h1
    · rename_i oc od vs osl hl
      rw [hl] at h2
      dsimp only at h2
      split at h1
      · rename_i v0 n tn rest hv
        have e1 : vs[1]? = some (.str n tn) := by
          rw [← Array.getElem?_toList, hv]
          rfl
        have en : n = qual := beq_iff_eq.mp h1
        subst en
        cases z : tabOf (⟨oc, od, .fields vs, osl⟩ : Obj) with
        | none =>
          rw [z] at h2
          cases h2
        | some pq =>
          obtain ⟨P, q⟩ := pq
          refine ⟨c, P, _, hc, hl, ?_⟩
          have z' := z
          unfold tabOf at z'
          split at z'
          · rename_i vs' hcls hdat
            cases hdat
            split at z'
            · rename_i P' q' t' e11 e12
              rw [e1] at e12
              cases e12
              cases z'
              exact z
            · cases z'
          · cases z'
      · cases h1
    · cases h1
  · cases h1
theorem PDef.fun_ {K : PySem.W.Frag} {d : PDef} (e : psg K (d.loc K) = d.said) (c : d.good K = true) (hc : d.clo = []) : ∃ fd, FunD K d.name d.qual d.params d.body d.scope (d.dvs K) [] (d.loc K) fd ∧ LamD K d.qual fd := by
  unfold PDef.good at c
  rw [Bool.and_eq_true] at c
  obtain ⟨kp, c⟩ := c
  unfold psg PDef.said at e
  rw [hc] at e
  generalize d.loc K = a at *
  cases q : K.lookup a with
  | none => simp [q] at c
  | some o =>
    obtain ⟨oc, od, dt, osl⟩ := o
    rw [q] at c e
    cases dt with
    | func fd =>
      have c' := c
      dsimp only at c' e
      rw [Bool.and_eq_true, Bool.and_eq_true, Bool.and_eq_true] at c'
      obtain ⟨c1, c2, c3, c4⟩ := c'
      have cl := lamD_of c1 c4
      simp only [Option.some.injEq, Prod.mk.injEq, List.map_eq_nil_iff] at e
      obtain ⟨h1, h2, h3, h4, h5, h6, h7, h8⟩ := e
      cases fd
      dsimp only at h1 h2 h3 h4 h5 h6 h7 h8 c1 c2 c3
      subst h1 h2 h3 h4 h5 h6 h7 h8
      exact ⟨_, ⟨⟨oc, od, _, _, _, _, _, _, _, osl, rfl, q, c1, He.dflB_ok c2, He.kwdB_ok c3⟩, kp⟩, cl⟩
    | _ => simp at c
theorem prop_ok {K : PySem.W.Frag} {C f : Str} (h : (Fx.prop C f).ok K = true) : PropOf K (He.ga K C) f (propAt K C f) (getterAt C f K) := by
  simp only [Fx.ok, Bool.and_eq_true, decide_eq_true_eq] at h
  obtain ⟨h1, h2, h3, h4⟩ := h
  refine ⟨h1, h2, h3, ?_⟩
  unfold getterAt
  split at h4
  · rename_i a r e
    rw [e]
    exact ⟨r, rfl⟩
  · cases h4
theorem ins_ok {K : PySem.W.Frag} {C : Str} (c : Cls K (He.ga K C)) (h : (Fx.ins C).ok K = true) : InsOk K (He.ga K C) := by
  simp only [Fx.ok, Bool.and_eq_true, decide_eq_true_eq] at h
  obtain ⟨h1, h2, h3, h4⟩ := h
  exact ⟨c, h1, h2, h3, h4⟩
theorem isi_ok {K : PySem.W.Frag} {t : Value} {c : Str ⊕ String} {b : Bool} (h : (Fx.isi t c b).ok K = true) : PySem.W.kitOne K t (clsOf K c) = some b := of_decide_eq_true h
theorem isiC_ok {K : PySem.W.Frag} {C : Str} {c : Str ⊕ String} {b : Bool} (h : (Fx.isiC C c b).ok K = true) : PySem.W.kitOne K (.ref (He.ga K C)) (clsOf K c) = some b := of_decide_eq_true h
theorem SaysP.fx {fx : List Fx} {fn : List PDef} {K : PySem.W.Frag} (c : SaysP fx fn K) {f : Fx} (h : f ∈ fx) : f.ok K = true := by
  have c1 : ((fx.all fun f => f.ok K) && fn.all fun d => d.good K) = true := congrArg (fun z : AlP => z.1) c
  exact List.all_eq_true.mp (Bool.and_eq_true_iff.mp c1).1 f h
theorem SaysP.fnL {fx : List Fx} {fn : List PDef} {K : PySem.W.Frag} (c : SaysP fx fn K) {d : PDef} (i : Nat) (h : fn[i]? = some d := by rfl) (hc : d.clo = [] := by rfl) : ∃ fd, FunD K d.name d.qual d.params d.body d.scope (d.dvs K) [] (d.loc K) fd ∧ LamD K d.qual fd := by
  have c1 : ((fx.all fun f => f.ok K) && fn.all fun d => d.good K) = true := congrArg (fun z : AlP => z.1) c
  have c2 : (fn.map fun d => psg K (d.loc K)) = fn.map PDef.said := congrArg (fun z : AlP => z.2) c
  have c3 : (fn.map fun d => psg K (d.loc K))[i]? = (fn.map PDef.said)[i]? := by rw [c2]
  rw [List.getElem?_map, List.getElem?_map, h] at c3
  exact PDef.fun_ (Option.some.inj c3) (List.all_eq_true.mp (Bool.and_eq_true_iff.mp c1).2 d (List.mem_of_getElem? h)) hc
theorem SaysP.fn {fx : List Fx} {fn : List PDef} {K : PySem.W.Frag} (c : SaysP fx fn K) {d : PDef} (i : Nat) (h : fn[i]? = some d := by rfl) (hc : d.clo = [] := by rfl) : ∃ fd, FunD K d.name d.qual d.params d.body d.scope (d.dvs K) [] (d.loc K) fd :=
  let ⟨fd, F, _⟩ := c.fnL i h hc
  ⟨fd, F⟩
theorem SaysP.psg {fx : List Fx} {fn : List PDef} {K : PySem.W.Frag} (c : SaysP fx fn K) {d : PDef} (i : Nat) (h : fn[i]? = some d := by rfl) : Pd.psg K (d.loc K) = d.said := by
  have c2 : (fn.map fun d => Pd.psg K (d.loc K)) = fn.map PDef.said := congrArg (fun z : AlP => z.2) c
  have c3 : (fn.map fun d => Pd.psg K (d.loc K))[i]? = (fn.map PDef.said)[i]? := by rw [c2]
  rw [List.getElem?_map, List.getElem?_map, h] at c3
  exact Option.some.inj c3
end Pd
namespace Pd
variable {ℓ : Bool}
open PySem PyProof.Rows L2
theorem script_track {P : Program} {w : World} {K : PySem.W.Frag} {h : Heap} {a : Addr} {vs : List Value} {ns : List Int} (KX : K.In h) (ha : h.get? a = some { cls := .type "list", data := .seq vs.toArray }) (hi : IntsAre vs ns) (hl : ns.length ≤ sizeLine) :
    ∃ H : Hp, L2.Only H ∧ SqL K H a (ns.map V.int) ∧ HOk P w H h ∧ (∀ b, H b ≠ none → b = a ∧ K.lookup b = none) := by
  have rv := vals_ints hi
  by_cases hk : K.lookup a = none
  · refine ⟨fun b => if b = a then some (.frz { cls := .type "list", data := .seq vs.toArray } (.lst (ns.map V.int))) else none, fun b => ?_, .inl (.inr ⟨{ cls := .type "list", data := .seq vs.toArray }, if_pos rfl⟩), fun b u z => ?_, fun b z => ?_⟩
    · by_cases e : b = a
      · exact .inr ⟨_, _, if_pos e⟩
      · exact .inl (if_neg e)
    · dsimp only at z
      split at z
      · rename_i e
        cases z
        rw [e]
        exact ⟨ha, by rw [List.length_map]; exact hl, vs, _, rv, ha⟩
      · cases z
    · dsimp only at z
      split at z
      · rename_i e
        rw [e]
        exact ⟨rfl, hk⟩
      · exact absurd rfl z
  · obtain ⟨o, ho⟩ := Option.ne_none_iff_exists'.mp hk
    have e := KX a o ho
    rw [ha] at e
    cases e
    exact ⟨fun _ => none, fun _ => .inl rfl, .inr ⟨_, vs.toArray, _, ho, rfl, rfl, rfl, by rw [List.size_toArray, hi.length]; exact hl, by simpa using rv⟩, fun b u z => (by cases (show (none : Option HO) = some u from z)), fun b z => absurd rfl z⟩
end Pd
namespace Pd
variable {ℓ : Bool}
open PySem L2
variable {W : WX}
theorem ne_of_pot {K : PySem.W.Frag} {g : Gh} {H : Hp} {n : Nat} (ok : Ok ℓ K g H n) {p a : Addr} (h : g.pot p) {o : HO} (e : g.G a = some o) : a ≠ p := fun q => by
  rw [q, (ok.pot p h).1] at e
  cases e
theorem Ok.turn {K : PySem.W.Frag} {g : Gh} {H : Hp} {n m : Nat} (ok : Ok false K g H n) (hm : m ≤ n) {p : Addr} (h : g.pot p) (hn : NoT K g p) {o : HO} (ho : PotH m (some o)) : Ok false K g (upd H p o) m := by
  refine ⟨fun a u e => ?_, fun a z => ⟨(ok.pot a z).1, ?_⟩, ok.t.upd (fun u z => ?_) fun ps z => ?_, by rw [ok.nocel]; exact CelOk.nil⟩
  · rw [upd_ne (ne_of_pot ok h e)]
    exact ok.sub a u e
  · by_cases q : a = p
    · rw [q, upd_same]
      exact .inr ho
    · rw [upd_ne q]
      refine (ok.pot a z).2.imp id fun ⟨x, y, z, h1, h2, h3, h4, h5, h6, h7⟩ => ⟨x, y, z, h1, h2, h3, h4, h5, h6, ?_⟩
      have h8 : z + (n : Int) ≤ 1000000000 := h7
      show z + (m : Int) ≤ 1000000000
      omega
  · obtain ⟨x, y, w, e, _⟩ := ok.potH h hn
    rw [e] at z
    cases z
    exact .inl ⟨_, rfl⟩
  · obtain ⟨x, y, w, e, _⟩ := ho
    rw [z] at e
    cases e
theorem Stp.turn {g : Gh} {H : Hp} {p : Addr} {o : HO} (h : g.pot p) (hn : H p ≠ none) : Stp g H g (upd H p o) := by
  refine ⟨Ext.refl g, fun _ _ z => z, fun _ _ z => z, fun a u e z => ?_, fun a e => ?_⟩
  · rw [upd_ne fun q => z (by rw [q]; exact h)]
    exact e
  · by_cases q : a = p
    · rw [q, upd_same]
      exact Option.some_ne_none o
    · rw [upd_ne q]
      exact e
def takeF : FD := fun ds n P => ∃ u : Int, ds = [.pot, .int u] ∧ 0 < u ∧ u.natAbs < 2 ^ 200 ∧ ∃ m, n = m + 1 ∧ ∀ r : Int, 0 ≤ r → r < u → P m (.int r)
abbrev rInt1 : List V → Hp → VK → Prop := fun xs H Q => (∃ i, xs = [.int i] ∧ Q (.int i) H) ∨ ∃ k, xs = [.bl k] ∧ Q (.int (if k then 1 else 0)) H
abbrev tI (t : TE) : TE := tCB rInt1 (tCons t tNil)
abbrev ixP (K : PySem.W.Frag) (i : Int) : TE := tOp (rIx K) (tVar 0) (tC (.int i))
abbrev setP (i : Int) (t : TE) : TS := tAsg t (L2.gSub (tVar 0) (tC (.int i)) rSetL)
abbrev rGt0 : R2 := rI0 fun i j => .bl (decide (j < i))
abbrev rPls : R2 := rI0 fun i j => .int (i + j)
abbrev rTms : R2 := rI CMulW fun i j => .int (i * j)
abbrev rMd : R2 := rI (fun _ j => 0 < j) fun i j => .int (i % j)
abbrev rFd : R2 := rI CDivW fun i j => .int (i / j)
abbrev rPw : R2 := rI CPowW fun i j => .int (i ^ j.toNat)
def t_take (K : PySem.W.Frag) : TS :=
  tSeq (tIfS (tTest (tOp rGt0 (ixP K 0) (tC (.int 0))))
    (tSeq (tAsg (tOp rMd (tI (ixP K 0)) (tVar 1)) (gName 2)) (tSeq (setP 0 (tOp rFd (ixP K 0) (tVar 1))) (tRet (tVar 2)))) tNext)
  (tSeq (setP 2 (tOp rPls (ixP K 2) (tC (.int 1))))
  (tSeq (tAsg (tOp (rIx K) (tLst (tCons (tC (.int 2147483647)) (tCons (tC (.int 2147483629)) (tCons (tC (.int 2147483587)) (tCons (tC (.int 2147483579)) (tCons (tC (.int 2147483563)) tNil)))))) (tOp rMd (tI (ixP K 2)) (tC (.int 5)))) (gName 3))
  (tSeq (tAsg (tOp rMd (tI (tOp rPw (tI (tOp rPls (tOp rPls (ixP K 1) (tOp rTms (tOp rTms (tC (.int 98873)) (ixP K 2)) (ixP K 2))) (tC (.int 97)))) (tC (.int 3)))) (tVar 3)) (gName 4))
  (tSeq (tAsg (tOp rMd (tI (tOp rTms (tVar 4) (tOp rPls (tOp rMd (tI (tVar 4)) (tC (.int 10529))) (tOp rTms (tC (.int 193)) (ixP K 2))))) (tC (.int 2305843009213693907))) (gName 4))
  (tRet (tOp rMd (tI (tOp rFd (tVar 4) (tC (.int 173)))) (tVar 1)))))))
theorem bits_lt {a : Int} {n : Nat} (h : a.natAbs < 2 ^ n) (h0 : 0 < n) : a.natAbs.log2 < n := PySem.Flt.log2_lt_of h0 h
theorem mulW {a b : Int} (ha : a.natAbs < 2 ^ 400000) (hb : b.natAbs < 2 ^ 400000) : CMulW a b := wide_mul ha hb (by decide) (by decide) (by decide)
theorem pw {m n : Nat} {a : Nat} (h : a < 2 ^ m) (hmn : m ≤ n) : a < 2 ^ n := Nat.lt_of_lt_of_le h (Nat.pow_le_pow_right (by decide) hmn)
theorem take_ok {K : PySem.W.Frag} {vs : List V} {H : Hp} {Q : VK} {E : XK} {names : List Str} (hN : names.length = 5) (h : liftF false K takeF vs H Q E) : t_take K { nx := fun _ H' => Q .non H', rt := Q } (L2.start names vs) H := by
  obtain ⟨g, n, ds, P, ok, dd, ⟨u, rfl, u0, u1, m, rfl, hp⟩, kk⟩ := h
  cases dd with
  | cons d1 d2 =>
    cases d2 with
    | cons d2 d3 =>
      cases d3
      cases d1 with
      | pot hpot hnt =>
        rename_i p
        cases d2
        have hG := (ok.pot p hpot).1
        obtain ⟨x, y, z, hH, x0, x1, y0, y1, z0, z1⟩ := ok.potH hpot hnt
        have z1 : z + ((m + 1 : Nat) : Int) ≤ 1000000000 := z1
        have hs : L2.start names [.ref p, .int u] = [some (.ref p), some (.int u), none, none, none] := by
          unfold L2.start
          rw [hN]
          rfl
        rw [hs]
        have hn : H p ≠ none := by rw [hH]; exact Option.some_ne_none _
        have ix : ∀ (H : Hp) (a b c : Int), H p = some (.lst [.int a, .int b, .int c]) → ∀ (j : Nat) (v : V), ([.int a, .int b, .int c] : List V)[j]? = some v → ∀ (Q : VK), Q v H → rIx K (.ref p) (.int (j : Int)) H Q := fun H a b c e j v ev Q q =>
          .inl ⟨p, _, (j : Int), v, rfl, rfl, SqL.of e, atI_nat ev, q⟩
        have st : ∀ (H : Hp) (a b c : Int), H p = some (.lst [.int a, .int b, .int c]) → ∀ (j : Nat) (v : V), j < 3 → ∀ (R : Hp → Prop), R (upd H p (.lst (([.int a, .int b, .int c] : List V).set j v))) → rSetL (.ref p) (.int (j : Int)) v H R := fun H a b c e j v hj R q =>
          ⟨p, _, (j : Int), j, rfl, rfl, e, by unfold ixN; rw [if_pos (Int.natCast_nonneg j), if_pos (by show (j : Int) < 3; omega)]; simp, q⟩
        have fin : ∀ (H' : Hp) (o : HO) (r : Int), H' = upd H p o → PotH m (some o) → 0 ≤ r → r < u → Q (.int r) H' := fun H' o r e ho r0 r1 => by
          rw [e]
          exact kk _ g _ m _ (hp r r0 r1) (Stp.turn hpot hn) (ok.turn (by omega) hpot hnt ho) (.int r)
        refine ⟨_, rfl, ix H x y z hH 0 _ rfl _ ?_⟩
        refine ⟨x, 0, rfl, rfl, _, rfl, ?_⟩
        by_cases hx : (0 : Int) < x
        · rw [decide_eq_true hx]
          refine iteT ?_
          refine ⟨_, rfl, ix H x y z hH 0 _ rfl _ ?_⟩
          refine .inl ⟨x, rfl, _, rfl, x, u, rfl, rfl, u0, ?_⟩
          refine ⟨_, rfl, ix H x y z hH 0 _ rfl _ ⟨_, rfl, x, u, rfl, rfl, ⟨u0, Nat.lt_of_lt_of_le (bits_lt u1 (by decide)) (by decide)⟩, ?_⟩⟩
          refine ⟨_, rfl, st H x y z hH 0 _ (by decide) _ ?_⟩
          refine ⟨_, rfl, fin _ _ (x % u) rfl ⟨x / u, y, z, rfl, Int.ediv_nonneg x0 (Int.le_of_lt u0), ?_, y0, y1, z0, by omega⟩ (Int.emod_nonneg _ (by omega)) (Int.emod_lt_of_pos _ u0)⟩
          have h1 : x / u ≤ x := Int.ediv_le_self u x0
          have h2 : 0 ≤ x / u := Int.ediv_nonneg x0 (Int.le_of_lt u0)
          exact Nat.lt_of_le_of_lt (by omega) x1
        · rw [decide_eq_false hx]
          refine iteF ?_
          have z2 : z + 1 ≤ 1000000000 := by omega
          refine ⟨_, rfl, ix H x y z hH 2 _ rfl _ ⟨z, 1, rfl, rfl, ?_⟩⟩
          refine ⟨_, rfl, st H x y z hH 2 _ (by decide) _ ?_⟩
          have hH1 : upd H p (.lst (([.int x, .int y, .int z] : List V).set 2 (.int (z + 1)))) p = some (.lst [.int x, .int y, .int (z + 1)]) := upd_same
          have s1 : Stp g H g (upd H p (.lst (([.int x, .int y, .int z] : List V).set 2 (.int (z + 1))))) := Stp.turn hpot hn
          have o1 : Ok false K g (upd H p (.lst (([.int x, .int y, .int z] : List V).set 2 (.int (z + 1))))) m := ok.turn (by omega) hpot hnt ⟨x, y, z + 1, rfl, x0, x1, y0, y1, by omega, by omega⟩
          generalize upd H p (.lst (([.int x, .int y, .int z] : List V).set 2 (.int (z + 1)))) = H1 at hH1 s1 o1 ⊢
          refine ⟨by rw [sizeLine_eq]; decide, fun l hl => ?_⟩
          obtain ⟨a1, a2, _, _⟩ := new_own o1 hl (.lst [.int 2147483647, .int 2147483629, .int 2147483587, .int 2147483579, .int 2147483563])
          have hlp : p ≠ l := ne_of_none hH1 hl
          have hH2 : upd H1 l (.lst [.int 2147483647, .int 2147483629, .int 2147483587, .int 2147483579, .int 2147483563]) p = some (.lst [.int x, .int y, .int (z + 1)]) := by
            rw [upd_ne hlp]
            exact hH1
          have hl2 : upd H1 l (.lst [.int 2147483647, .int 2147483629, .int 2147483587, .int 2147483579, .int 2147483563]) l = some (.lst [.int 2147483647, .int 2147483629, .int 2147483587, .int 2147483579, .int 2147483563]) := upd_same
          have fin3 : ∀ r : Int, 0 ≤ r → r < u → Q (.int r) (upd H1 l (.lst [.int 2147483647, .int 2147483629, .int 2147483587, .int 2147483579, .int 2147483563])) := fun r r0 r1 => kk _ g _ m _ (hp r r0 r1) (s1.trans a1) a2 (.int r)
          generalize upd H1 l (.lst [.int 2147483647, .int 2147483629, .int 2147483587, .int 2147483579, .int 2147483563]) = H2 at hH2 hl2 fin3 ⊢
          refine ⟨_, rfl, ix H2 x y (z + 1) hH2 2 _ rfl _ (.inl ⟨_, rfl, _, _, rfl, rfl, (show (0 : Int) < 5 by decide), ?_⟩)⟩
          have q1 : 0 ≤ (z + 1) % 5 := Int.emod_nonneg _ (by decide)
          have q2 : (z + 1) % 5 < 5 := Int.emod_lt_of_pos _ (by decide)
          obtain ⟨j, ej⟩ : ∃ j : Nat, (z + 1) % 5 = j := ⟨((z + 1) % 5).toNat, by omega⟩
          have hj : j < 5 := by omega
          obtain ⟨pr, e1, e2, e3⟩ : ∃ pr : Int, ([.int 2147483647, .int 2147483629, .int 2147483587, .int 2147483579, .int 2147483563] : List V)[j]? = some (.int pr) ∧ 0 < pr ∧ pr ≤ 2147483647 := by
            match j, hj with
            | 0, _ => exact ⟨_, rfl, by decide, by decide⟩
            | 1, _ => exact ⟨_, rfl, by decide, by decide⟩
            | 2, _ => exact ⟨_, rfl, by decide, by decide⟩
            | 3, _ => exact ⟨_, rfl, by decide, by decide⟩
            | 4, _ => exact ⟨_, rfl, by decide, by decide⟩
          show rIx K (V.ref l) (V.int ((z + 1) % 5)) H2 _
          rw [ej]
          refine .inl ⟨l, _, _, _, rfl, rfl, SqL.of hl2, atI_nat e1, ?_⟩
          have zb : (z + 1).natAbs < 2 ^ 400000 := pw (m := 31) (by omega) (by decide)
          have zp : (z + 1) * (z + 1) ≤ 1000000000 * 1000000000 := Int.mul_le_mul (by omega) (by omega) (by omega) (by omega)
          have zq : 0 ≤ (z + 1) * (z + 1) := Int.mul_nonneg (by omega) (by omega)
          have ea : (98873 : Int) * (z + 1) * (z + 1) = 98873 * ((z + 1) * (z + 1)) := Int.mul_assoc _ _ _
          refine ⟨_, rfl, ix H2 x y (z + 1) hH2 1 _ rfl _ ?_⟩
          refine ⟨_, rfl, ix H2 x y (z + 1) hH2 2 _ rfl _ ⟨_, _, rfl, rfl, mulW (pw (m := 17) (by decide) (by decide)) zb, ?_⟩⟩
          refine ⟨_, rfl, ix H2 x y (z + 1) hH2 2 _ rfl _ ⟨_, _, rfl, rfl, mulW (pw (m := 50) (by omega) (by decide)) zb, ?_⟩⟩
          refine ⟨_, _, rfl, rfl, _, _, rfl, rfl, .inl ⟨_, rfl, ?_⟩⟩
          have bt : (y + 98873 * (z + 1) * (z + 1) + 97).natAbs < 2 ^ 90 := by
            rw [ea]
            omega
          refine ⟨_, _, rfl, rfl, ⟨by decide, by decide, ?_⟩, .inl ⟨_, rfl, ?_⟩⟩
          · have hb : Builtin.Int.intBits (y + 98873 * (z + 1) * (z + 1) + 97) ≤ 90 := PyProof.Rows.intBits_le bt
            omega
          refine ⟨_, rfl, _, _, rfl, rfl, e2, ?_⟩
          generalize (y + 98873 * (z + 1) * (z + 1) + 97) ^ (3 : Int).toNat = w
          have m0 : 0 ≤ w % pr := Int.emod_nonneg _ (by omega)
          have m1 : w % pr < pr := Int.emod_lt_of_pos _ e2
          have c0 : 0 ≤ w % pr % 10529 := Int.emod_nonneg _ (by decide)
          have c1 : w % pr % 10529 < 10529 := Int.emod_lt_of_pos _ (by decide)
          refine ⟨_, rfl, _, rfl, .inl ⟨_, rfl, _, _, rfl, rfl, (show (0 : Int) < 10529 by decide), ?_⟩⟩
          refine ⟨_, rfl, ix H2 x y (z + 1) hH2 2 _ rfl _ ⟨_, _, rfl, rfl, mulW (pw (m := 8) (by decide) (by decide)) zb, ?_⟩⟩
          refine ⟨_, _, rfl, rfl, _, _, rfl, rfl, mulW (pw (m := 31) (by omega) (by decide)) (pw (m := 60) (by omega) (by decide)), .inl ⟨_, rfl, _, _, rfl, rfl, (show (0 : Int) < 2305843009213693907 by decide), ?_⟩⟩
          refine ⟨_, rfl, _, _, rfl, rfl, (show CDivW _ 173 from ⟨by decide, by decide⟩), .inl ⟨_, rfl, _, rfl, _, _, rfl, rfl, u0, ?_⟩⟩
          exact fin3 _ (Int.emod_nonneg _ (by omega)) (Int.emod_lt_of_pos _ u0)
def dRetPot (d : DO) : DS := fun N n ε => d n ε fun n1 ds => ∃ x y z : Int, ds = [.int x, .int y, .int z] ∧ 0 ≤ x ∧ x.natAbs < 2 ^ 1100 ∧ 0 ≤ y ∧ y < 2 ^ 61 ∧ 0 ≤ z ∧ z + n1 ≤ 1000000000 ∧ N.rt n1 .pot
theorem ds_retPot {X : Cx} {e : Expr} {pos : Pos} {o : DO} (he : PE X e (liftO false X.K o)) : PS X (.Return (some e) pos) (liftS false W X.K (dRetPot o)) :=
  ps_w (ps_ret he) fun E σ H ⟨U, g0, H0, g, n, ε, N, uo, r, s0, q, k1, k2, k3, k4⟩ => ⟨_, g, n, ε, _, r, q, fun p vs g1 H1 n1 ds q1 s1 o1 h0 h1 h2 h3 h4 => by
    obtain ⟨x, y, z, rfl, x0, x1, y0, y1, z0, z1, q2⟩ := q1
    have ev : vs = [.int x, .int y, .int z] := Dens.ints (ns := [x, y, z]) h4
    subst ev
    have st := s0.trans s1
    refine k4.1 (.ref p) ⟨g1.G, fun a => g1.pot a ∨ a = p, g1.cel⟩ H1 n1 .pot q2 ⟨⟨st.ext.G, fun a z => .inl (st.ext.p a z), st.ext.c⟩, st.gro, fun a z w => ?_, st.kep, st.dom⟩ ⟨o1.sub, fun a w => ?_, o1.t.pots fun a z => .inl z, by rw [o1.nocel]; exact CelOk.nil⟩ (.pot (.inr rfl) ⟨o1.t.no fun ps z => (by rw [h3] at z; cases z), fun C z => by rw [show (⟨g1.G, fun a => g1.pot a ∨ a = p, g1.cel⟩ : Gh).cel = [] from o1.nocel] at z; cases z⟩)
    · rcases w with w | w
      · exact st.grp a z w
      · exact absurd (s0.back0 h0) (by rw [← w]; exact z)
    · rcases w with w | w
      · exact o1.pot a w
      · rw [w]
        exact ⟨h1, .inr ⟨x, y, z, h3, x0, x1, y0, y1, z0, z1⟩⟩⟩
def blkB (N : List Str) (sc scope : Scope) (own : List (Str × Nat)) : Bool :=
  decide (scope.kind = .function) && (decide (∀ y ∈ scope.names, scope.names.lookup y.1 = some y.2) && (decide (∀ p ∈ own, N[p.2]? = some p.1) &&
    (decide (∀ y ∈ scope.names, y.2 = .free → sc.names.lookup y.1 = some .cell ∨ sc.names.lookup y.1 = some .free) && decide (∀ y ∈ scope.names, y.2 = .local ∨ y.2 = .cell → y.1 ∈ own.map (·.1) ∨ y.1 ∉ N))))
theorem blk {N : List Str} {sc scope : Scope} {own : List (Str × Nat)} (h : blkB N sc scope own = true) : BlkOk N sc scope own := by
  unfold blkB at h
  simp only [Bool.and_eq_true, decide_eq_true_eq] at h
  obtain ⟨h1, h2, h3, h4, h5⟩ := h
  exact ⟨h1, h2, h3, h4, h5⟩
def isT (T : String) (cs : List Addr) : D → Option Bool
  | .obj C _ => if C ∈ cs then some false else none
  | .non => some (decide ("NoneType" = T))
  | .bl _ => some (decide ("bool" = T ∨ T = "int"))
  | .int _ => some (decide ("int" = T))
  | .str _ => some (decide ("str" = T))
  | .lst _ => some (decide ("list" = T))
  | .tup _ => some (decide ("tuple" = T))
  | .tupF _ => some (decide ("tuple" = T))
  | .dic _ _ => some (decide ("dict" = T))
  | _ => none
def isC (C0 : Addr) (cs : List Addr) : D → Option Bool
  | .obj C _ => if C = C0 then some true else if C ∈ cs then some false else none
  | .non => some false
  | .bl _ => some false
  | .int _ => some false
  | .str _ => some false
  | .lst _ => some false
  | .tup _ => some false
  | .tupF _ => some false
  | .dic _ _ => some false
  | _ => none
theorem isT_ok {K : PySem.W.Frag} {T : String} {cs : List Addr} (hb : ∀ S ∈ ["NoneType", "bool", "int", "str", "list", "tuple", "dict"], PySem.W.kitOne K (.type S) (.type T) = some (decide (S = T ∨ (S = "bool" ∧ T = "int"))))
    (hc : ∀ C ∈ cs, InsOk K C ∧ PySem.W.kitOne K (.ref C) (.type T) = some false) : IsT K (.ty T) (isT T cs) := by
  refine ⟨_, .ty T, fun d b e => ?_⟩
  cases d with
  | obj C fs =>
    simp only [isT] at e
    split at e
    · rename_i h
      cases e
      exact ⟨_, rfl, (hc C h).1, (hc C h).2⟩
    · cases e
  | non =>
    cases e
    refine ⟨_, rfl, trivial, ?_⟩
    rw [hb "NoneType" (by simp)]
    simp
  | bl x =>
    cases e
    refine ⟨_, rfl, trivial, ?_⟩
    rw [hb "bool" (by simp)]
    simp
  | int x =>
    cases e
    refine ⟨_, rfl, trivial, ?_⟩
    rw [hb "int" (by simp)]
    simp
  | str x =>
    cases e
    refine ⟨_, rfl, trivial, ?_⟩
    rw [hb "str" (by simp)]
    simp
  | lst x =>
    cases e
    refine ⟨_, rfl, trivial, ?_⟩
    rw [hb "list" (by simp)]
    simp
  | tup x =>
    cases e
    refine ⟨_, rfl, trivial, ?_⟩
    rw [hb "tuple" (by simp)]
    simp
  | tupF x =>
    cases e
    refine ⟨_, rfl, trivial, ?_⟩
    rw [hb "tuple" (by simp)]
    simp
  | dic x y =>
    cases e
    refine ⟨_, rfl, trivial, ?_⟩
    rw [hb "dict" (by simp)]
    simp
  | _ => cases e
theorem isC_ok {K : PySem.W.Frag} {C0 : Addr} {cs : List Addr} (hb : ∀ S ∈ ["NoneType", "bool", "int", "str", "list", "tuple", "dict"], PySem.W.kitOne K (.type S) (.ref C0) = some false)
    (h0 : InsOk K C0 ∧ PySem.W.kitOne K (.ref C0) (.ref C0) = some true) (hc : ∀ C ∈ cs, InsOk K C ∧ PySem.W.kitOne K (.ref C) (.ref C0) = some false) : IsT K (.ref C0) (isC C0 cs) := by
  refine ⟨_, .own C0, fun d b e => ?_⟩
  cases d with
  | obj C fs =>
    simp only [isC] at e
    split at e
    · rename_i h
      cases e
      rw [h]
      exact ⟨_, rfl, h0.1, h0.2⟩
    · split at e
      · rename_i h
        cases e
        exact ⟨_, rfl, (hc C h).1, (hc C h).2⟩
      · cases e
  | non => cases e; exact ⟨_, rfl, trivial, hb "NoneType" (by simp)⟩
  | bl x => cases e; exact ⟨_, rfl, trivial, hb "bool" (by simp)⟩
  | int x => cases e; exact ⟨_, rfl, trivial, hb "int" (by simp)⟩
  | str x => cases e; exact ⟨_, rfl, trivial, hb "str" (by simp)⟩
  | lst x => cases e; exact ⟨_, rfl, trivial, hb "list" (by simp)⟩
  | tup x => cases e; exact ⟨_, rfl, trivial, hb "tuple" (by simp)⟩
  | tupF x => cases e; exact ⟨_, rfl, trivial, hb "tuple" (by simp)⟩
  | dic x y => cases e; exact ⟨_, rfl, trivial, hb "dict" (by simp)⟩
  | _ => cases e
section
variable {P : Program} {w : World} {K : PySem.W.Frag} {mg : Str → Option Value} {base : Heap} {k : Nat} {f : Addr} {ps : List Str} {x qual : Str} {params : Arguments} {body : List Stmt} {scope : Scope} {N : List Str} {b : DS} {sp : FD}
theorem has_f (D : ∃ fd, FunD K x qual params body scope [] [] f fd) (S : FnScope N ps scope)
    (hbind : ∀ (kV doc pm : Value) (an : Option Addr) (cdv ct : Value) (us : List Value), us.length = ps.length → bindArgs (PySem.W.fnOf x qual params body scope .none kV doc pm an cdv ct) ⟨us, []⟩ = pure (ps.zip us))
    (hb : ∀ (fd : FuncData) (cdv : Value) (A : Around) (outer : List Env) (s : Shared) (H : Hp) (E : XK), Room k (A.deeper (PyProof.Rows.envOfC qual scope s.heap.objs.size f cdv)) → PSs (cxOf CX0 P w K mg base N qual scope f cdv A outer s H E).nox body (liftS ℓ W0 K b))
    (hs : ∀ ds n Q, sp ds n Q → dFn N.length ps.length b ds n Q) : HasF ℓ P w K mg base (k + 1) f ps [] sp := by
  obtain ⟨fd, F⟩ := D
  exact ⟨fd, [], [], fn_ok F S (fun cdv A outer s H E hr => hb fd cdv A outer s H E hr) hs, F.kp, F.bindsN hbind, .nil, fun _ => .nil⟩
theorem has_g (D : ∃ fd, FunD K x qual params body scope [] [] f fd) (S : FnScope N ps scope)
    (hbind : ∀ (kV doc pm : Value) (an : Option Addr) (cdv ct : Value) (us : List Value), us.length = ps.length → bindArgs (PySem.W.fnOf x qual params body scope .none kV doc pm an cdv ct) ⟨us, []⟩ = pure (ps.zip us))
    (hb : ∀ (fd : FuncData) (cdv : Value) (A : Around) (outer : List Env) (s : Shared) (H : Hp) (E : XK), Room k (A.deeper (PyProof.Rows.envOfC qual scope s.heap.objs.size f cdv)) → (A.deeper (PyProof.Rows.envOfC qual scope s.heap.objs.size f cdv)).guards = some [] → PSs (cxOf CX0 P w K mg base N qual scope f cdv A outer s H E).nox body (liftS ℓ W0 K b))
    (hs : ∀ ds n Q, sp ds n Q → dFn N.length ps.length b ds n Q) : HasG ℓ P w K mg base (k + 1) f ps [] sp := by
  obtain ⟨fd, F⟩ := D
  exact ⟨fd, [], [], fnG_ok F S (fun cdv _ A outer s H E hr hg => hb fd cdv A outer s H E hr hg) hs, F.kp, F.bindsN hbind, .nil, fun _ => .nil⟩
theorem has_take (D : ∃ fd, FunD K x qual params body scope [] [] f fd) (S : FnScope N ps scope) (h2 : ps.length = 2) (h5 : N.length = 5)
    (hbind : ∀ (kV doc pm : Value) (an : Option Addr) (cdv ct : Value) (us : List Value), us.length = ps.length → bindArgs (PySem.W.fnOf x qual params body scope .none kV doc pm an cdv ct) ⟨us, []⟩ = pure (ps.zip us))
    (hb : ∀ (fd : FuncData) (cdv : Value) (A : Around) (outer : List Env) (s : Shared) (H : Hp) (E : XK), Room k (A.deeper (PyProof.Rows.envOfC qual scope s.heap.objs.size f cdv)) → PSs (cxOf CX0 P w K mg base N qual scope f cdv A outer s H E).nox body (t_take K)) :
    HasF false P w K mg base (k + 1) f ps [] takeF := by
  obtain ⟨fd, F⟩ := D
  refine ⟨fd, [], [], F.ok S (fun vs H Q E h => ?_) (fun cdv A outer s H vs Q E hr h => ⟨_, PSs.nox (hb fd cdv A outer s H E hr), take_ok h5 h⟩), F.kp, F.bindsN hbind, .nil, fun _ => .nil⟩
  obtain ⟨g, n, ds, P, ok, dd, ⟨u, rfl, _⟩, _⟩ := h
  rw [dd.length, h2]
  rfl
theorem has_init {C : Addr} {n1 : Str} {fi : FI} (M : Mk K C f) (D : ∃ fd, FunD K x qual params body scope [] [] f fd) (S : FnScope (n1 :: N) ps scope)
    (hbind : ∀ (kV doc pm : Value) (an : Option Addr) (cdv ct : Value) (us : List Value), us.length = ps.length → bindArgs (PySem.W.fnOf x qual params body scope .none kV doc pm an cdv ct) ⟨us, []⟩ = pure (ps.zip us))
    (hb : ∀ (fd : FuncData) (cdv : Value) (A : Around) (outer : List Env) (s : Shared) (H : Hp) (E : XK), Room k (A.deeper (PyProof.Rows.envOfC qual scope s.heap.objs.size f cdv)) → PSs (cxOf CX0 P w K mg base (n1 :: N) qual scope f cdv A outer s H E).nox body (liftS ℓ W0 K b))
    (hs : ∀ ds n P, fi ds n P → dIni C (n1 :: N).length ps.length b ds n P) : HasI ℓ P w K mg base (k + 1) C ps [] fi := by
  obtain ⟨fd, F⟩ := D
  have up : ∀ vs H Q E, liftInit ℓ K C fi vs H Q E → liftInit ℓ K C (dIni C (n1 :: N).length ps.length b) vs H Q E := fun vs H Q E ⟨g, n, x, dx, vs', ds, P, h1, h2, h3, h4, h5, h6, h7, h8⟩ => ⟨g, n, x, dx, vs', ds, P, h1, h2, h3, h4, h5, h6, hs _ _ _ h7, h8⟩
  refine ⟨f, fd, [], [], F.ok S (fun vs H Q E h => ?_) (fun cdv A outer s H vs Q E hr h => ⟨_, PSs.nox (hb fd cdv A outer s H E hr), liftInit_body (up vs H Q E h)⟩), M, F.bindsN hbind, .nil, fun _ => .nil⟩
  obtain ⟨g, n, x, dx, vs', ds, P, rfl, h2, h3, h4, h5, h6, h7, h8⟩ := up vs H Q E h
  rw [← h7.1, List.length_cons, h6.length]
theorem has_p {C : Addr} {m : Str} {p : Addr} (c : Cls K C) (hp : PropOf K C m p f) (D : ∃ fd, FunD K x qual params body scope [] [] f fd) (S : FnScope N ps scope)
    (hbind : ∀ (kV doc pm : Value) (an : Option Addr) (cdv ct : Value) (us : List Value), us.length = ps.length → bindArgs (PySem.W.fnOf x qual params body scope .none kV doc pm an cdv ct) ⟨us, []⟩ = pure (ps.zip us))
    (hb : ∀ (fd : FuncData) (cdv : Value) (A : Around) (outer : List Env) (s : Shared) (H : Hp) (E : XK), Room k (A.deeper (PyProof.Rows.envOfC qual scope s.heap.objs.size f cdv)) → PSs (cxOf CX0 P w K mg base N qual scope f cdv A outer s H E).nox body (liftS ℓ W0 K b))
    (hs : ∀ ds n Q, sp ds n Q → dFn N.length ps.length b ds n Q) : HasP ℓ P w K mg base (k + 1) C m ps sp := by
  obtain ⟨fd, F⟩ := D
  exact ⟨p, f, fd, fn_ok F S (fun cdv A outer s H E hr => hb fd cdv A outer s H E hr) hs, c, hp, F.bindsN hbind⟩
theorem has_m {C : Addr} {m : Str} (c : Cls K C) (hm : Meth K C m f) (D : ∃ fd, FunD K x qual params body scope [] [] f fd) (S : FnScope N ps scope)
    (hbind : ∀ (kV doc pm : Value) (an : Option Addr) (cdv ct : Value) (us : List Value), us.length = ps.length → bindArgs (PySem.W.fnOf x qual params body scope .none kV doc pm an cdv ct) ⟨us, []⟩ = pure (ps.zip us))
    (hb : ∀ (fd : FuncData) (cdv : Value) (A : Around) (outer : List Env) (s : Shared) (H : Hp) (E : XK), Room k (A.deeper (PyProof.Rows.envOfC qual scope s.heap.objs.size f cdv)) → PSs (cxOf CX0 P w K mg base N qual scope f cdv A outer s H E).nox body (liftS ℓ W0 K b))
    (hs : ∀ ds n Q, sp ds n Q → dFn N.length ps.length b ds n Q) : HasM ℓ P w K mg base (k + 1) C m ps [] sp := by
  obtain ⟨fd, F⟩ := D
  exact ⟨f, fd, [], [], fn_ok F S (fun cdv A outer s H E hr => hb fd cdv A outer s H E hr) hs, c, hm, F.bindsN hbind, .nil, fun _ => .nil⟩
end
theorem SaysP.fact {fx : List Fx} {fn : List PDef} {K : PySem.W.Frag} (c : SaysP fx fn K) (i : Nat) {f : Fx} (h : fx[i]? = some f := by rfl) : f.ok K = true := c.fx (List.mem_of_getElem? h)
end Pd
namespace L2
open PySem PySem.Spec PyProof.Rows
abbrev IsZipH (h : Heap) (z TI TO T : Addr) (b : Bool) : Prop := h.get? z = some { cls := .type "zip", dict := none, data := .fields #[rawInt T, .bool b, .bool false, .ref TI, .ref TO], slots := #[] }
section
variable {prog : Program} {w : World} {A : Around} {E : Value → Shared → Prop} {s : Shared} {z TI TO i1 i2 T : Addr} {fp1 fp2 : List Addr} {n1 n2 i : Nat} {P1 P2 : Nat → Value → Prop} {St1 St2 : Nat → Heap → Prop}
theorem zip_free_no {b : Bool} {Q : Bool → Shared → Prop} (hz : IsZipH s.heap z TI TO T b) (hT : ∃ o, s.heap.get? T = some o) (h : ∀ h', IsZipH h' z TI TO T true → Heap.ExtBut z s.heap h' → h'.objs.size = s.heap.objs.size → Q false { s with heap := h' }) :
    wpAny (model prog w) A (Builtin.SmallTypes.ownedTupleIsFree (.ref z)) Q E s := by
  obtain ⟨o, ho⟩ := hT
  unfold Builtin.SmallTypes.ownedTupleIsFree
  refine wpAny_bind (wpAny_field hz rfl (x := rawInt T) rfl ?_)
  show wpAny _ _ (loadIfAlive (T : Int).toNat >>= _) _ _ _
  rw [show ((T : Int).toNat : Addr) = T from Int.toNat_natCast T]
  refine wpAny_bind (PySem.W.kdx_alive ho ?_)
  simp only [Option.isNone_some, Bool.false_eq_true, if_false]
  refine wpAny_bind (wpAny_field hz rfl (x := .bool b) rfl ?_)
  cases b with
  | true =>
    rw [if_neg (by decide)]
    exact wpAny_pure (h s.heap hz (fun _ _ _ e => e) rfl)
  | false =>
    rw [if_pos (by decide)]
    refine wpAny_bind (wpAny_setField_rec hz (by simp) fun h' hz' hs => wpAny_pure ?_)
    exact h h' hz' hs.extBut hs.1
theorem zip_held_item {b : Bool} {Q : Value → Shared → Prop} (D1 : Draws prog w A i1 fp1 n1 P1 St1) (D2 : Draws prog w A i2 fp2 n2 P2 St2) (zf1 : z ∉ fp1) (zf2 : z ∉ fp2) (zi1 : z ≠ i1) (zi2 : z ≠ i2) (s12 : i1 ∉ fp2) (s21 : i2 ∉ fp1) (hTz : TI ≠ z)
    (hz : IsZipH s.heap z TI TO T b) (hT : ∃ o, s.heap.get? T = some o) (hTI : IsTupOf2 s.heap TI (.ref i1) (.ref i2)) (st1 : St1 i s.heap) (st2 : St2 i s.heap) (hlt1 : i < n1) (hlt2 : i < n2)
    (hQ : ∀ x1 x2 h' tk, P1 i x1 → P2 i x2 → IsZipH h' z TI TO T true → St1 (i + 1) h' → St2 (i + 1) h' → IsTupOf2 h' s.heap.objs.size x1 x2 → h'.objs.size = s.heap.objs.size + 1 →
      (∀ c o, c ≠ z → c ≠ i1 → c ≠ i2 → s.heap.get? c = some o → h'.get? c = some o) → Q (.ref s.heap.objs.size) { s with heap := h', toks := tk }) :
    wpAny (model prog w) A (Builtin.«zip.__next__» ⟨[.ref z], []⟩) (fun fin s' => ∃ v, fin = .done (.ret v) ∧ Q v s') E s := by
  obtain ⟨hp, g, d, tk0, os⟩ := s
  show wpAny _ _ (field (.ref z) 2 >>= _) _ _ _
  refine wpAny_bind (wpAny_field hz rfl (x := .bool false) rfl ?_)
  show wpAny _ _ (field (.ref z) 3 >>= _) _ _ _
  refine wpAny_bind (wpAny_field hz rfl (x := .ref TI) rfl ?_)
  refine wpAny_bind (wpAny_seqItems hTI rfl ?_)
  show wpAny _ _ (Builtin.SmallTypes.ownedTupleIsFree (.ref z) >>= _) _ _ _
  refine wpAny_bind (zip_free_no hz hT fun g0 hz0 hs0 hn0 => ?_)
  simp only [Bool.false_eq_true, if_false]
  rw [← Array.forIn_toList]
  simp only [List.forIn_cons, List.forIn_nil]
  have q1 : St1 i g0 := D1.frame _ _ _ st1 fun c hc o e => hs0 c o (fun w => zf1 (w ▸ hc)) e
  have q2 : St2 i g0 := D2.frame _ _ _ st2 fun c hc o e => hs0 c o (fun w => zf2 (w ▸ hc)) e
  refine wpAny_bind (wpAny_bind (wpAny_bind (wpAny_holding ?_)))
  show wpAny _ _ (Builtin.SmallTypes.nextOf (.ref i1) >>= _) _ _ ⟨g0, g, d, tk0, os⟩
  refine wpAny_bind (D1.item i _ _ _ hlt1 q1 fun x1 p1 tk1 hx1 sn1 hp1 => wpAny_pure (wpAny_pure ?_))
  replace hp1 : Heap.SameBut i1 g0 p1 := hp1
  refine wpAny_bind (wpAny_bind (wpAny_holding ?_))
  show wpAny _ _ (Builtin.SmallTypes.nextOf (.ref i2) >>= _) _ _ ⟨p1, g, d, tk1, os⟩
  have q3 : St2 i p1 := D2.frame _ _ _ q2 fun c hc o e => hp1.extBut c o (fun w => s12 (w ▸ hc)) e
  refine wpAny_bind (D2.item i _ _ _ hlt2 q3 fun x2 p2 tk2 hx2 sn2 hp2 => wpAny_pure (wpAny_pure (wpAny_pure ?_)))
  replace hp2 : Heap.SameBut i2 p1 p2 := hp2
  show wpAny _ _ (newTuple [x1, x2] >>= _) _ _ ⟨p2, g, d, tk2, os⟩
  refine wpAny_bind (wpAny_newTuple ?_)
  refine wpAny_pure ⟨_, rfl, ?_⟩
  have hsz : p2.objs.size = hp.objs.size := by rw [hp2.1, hp1.1]; exact hn0
  have up : ∀ c o, p2.get? c = some o → (p2.push { cls := .type "tuple", data := .seq #[x1, x2] }).get? c = some o := fun c o e => Heap.get?_push_of_some _ e
  have hnew : IsTupOf2 (p2.push { cls := .type "tuple", data := .seq #[x1, x2] }) p2.objs.size x1 x2 := Heap.get?_push_size _ rfl
  have q4 : St1 (i + 1) p2 := D1.frame _ _ _ sn1 fun c hc o e => hp2.extBut c o (fun w => s21 (w ▸ hc)) e
  have hz2 : IsZipH p2 z TI TO T true := hp2.extBut _ _ zi2 (hp1.extBut _ _ zi1 hz0)
  show Q (.ref p2.objs.size) ⟨p2.push { cls := .type "tuple", data := .seq #[x1, x2] }, g, d, tk2, os⟩
  have hsz2 : (p2.push { cls := .type "tuple", data := .seq #[x1, x2] }).objs.size = hp.objs.size + 1 := by rw [Heap.size_push, hsz]
  rw [hsz] at hnew ⊢
  exact hQ x1 x2 _ tk2 hx1 hx2 (up _ _ hz2) (D1.frame _ _ _ q4 fun c _ o e => up c o e) (D2.frame _ _ _ sn2 fun c _ o e => up c o e) hnew hsz2 fun c o cz c1 c2 e => up c o (hp2.extBut _ _ c2 (hp1.extBut _ _ c1 (hs0 c o cz e)))
abbrev IsZipF (h : Heap) (z TI TO : Addr) (f0 : Value) (b : Bool) : Prop := h.get? z = some { cls := .type "zip", dict := none, data := .fields #[f0, .bool b, .bool false, .ref TI, .ref TO], slots := #[] }
theorem zip_free_yes {f0 : Value} {b : Bool} {Q : Bool → Shared → Prop} (hz : IsZipF s.heap z TI TO f0 b) (hf : f0 = .none ∨ ∃ T : Addr, f0 = rawInt T ∧ s.heap.get? T = none) (h : Q true s) :
    wpAny (model prog w) A (Builtin.SmallTypes.ownedTupleIsFree (.ref z)) Q E s := by
  unfold Builtin.SmallTypes.ownedTupleIsFree
  refine wpAny_bind (wpAny_field hz rfl (x := f0) rfl ?_)
  rcases hf with rfl | ⟨T, rfl, hT⟩
  · exact wpAny_pure h
  · show wpAny _ _ (loadIfAlive (T : Int).toNat >>= _) _ _ _
    rw [show ((T : Int).toNat : Addr) = T from Int.toNat_natCast T]
    refine wpAny_bind ?_
    have step : wpAny (model prog w) A (loadIfAlive T) (fun o s' => o = none ∧ s' = s) E s := by
      have h' : s.heap.get? T = none ∧ s = s := ⟨hT, rfl⟩
      exact fun _ _ _ => h'
    refine thn step fun o s' q => ?_
    obtain ⟨rfl, rfl⟩ := q
    simp only [Option.isNone_none, if_true]
    exact wpAny_pure h
theorem zip_free_item {f0 : Value} {b : Bool} {a1 a2 : Value} {Q : Value → Shared → Prop} (S : ZipSep2 z TI TO i1 i2 fp1 fp2) (D1 : Draws prog w A i1 fp1 n1 P1 St1) (D2 : Draws prog w A i2 fp2 n2 P2 St2)
    (hz : IsZipF s.heap z TI TO f0 b) (hf : f0 = .none ∨ ∃ T : Addr, f0 = rawInt T ∧ s.heap.get? T = none) (hTI : IsTupOf2 s.heap TI (.ref i1) (.ref i2)) (hTO : IsTupOf2 s.heap TO a1 a2) (st1 : St1 i s.heap) (st2 : St2 i s.heap) (hlt1 : i < n1) (hlt2 : i < n2)
    (hQ : ∀ x1 x2 h' tk, P1 i x1 → P2 i x2 → IsZipF h' z TI TO (rawInt s.heap.objs.size) false → IsTupOf2 h' TO x1 x2 → St1 (i + 1) h' → St2 (i + 1) h' → IsTupOf2 h' s.heap.objs.size x1 x2 → h'.objs.size = s.heap.objs.size + 1 →
      (∀ c o, c ≠ z → c ≠ TO → c ≠ i1 → c ≠ i2 → s.heap.get? c = some o → h'.get? c = some o) → Q (.ref s.heap.objs.size) { s with heap := h', toks := tk }) :
    wpAny (model prog w) A (Builtin.«zip.__next__» ⟨[.ref z], []⟩) (fun fin s' => ∃ v, fin = .done (.ret v) ∧ Q v s') E s := by
  obtain ⟨hp, g, d, tk0, os⟩ := s
  have hz' : IsZipF hp z TI TO f0 b := hz
  show wpAny _ _ (field (.ref z) 2 >>= _) _ _ _
  refine wpAny_bind (wpAny_field hz rfl (x := .bool false) rfl ?_)
  show wpAny _ _ (field (.ref z) 3 >>= _) _ _ _
  refine wpAny_bind (wpAny_field hz rfl (x := .ref TI) rfl ?_)
  refine wpAny_bind (wpAny_seqItems hTI rfl ?_)
  show wpAny _ _ (Builtin.SmallTypes.ownedTupleIsFree (.ref z) >>= _) _ _ _
  refine wpAny_bind (zip_free_yes hz hf ?_)
  simp only [if_true]
  refine wpAny_bind (wpAny_rule ?_)
  refine wpAny_bind (wpAny_field hz rfl (x := .ref TO) rfl ?_)
  refine wpAny_bind (wpAny_setField_rec hz (by simp) fun k0 e0 u0 => ?_)
  replace e0 : IsZipF k0 z TI TO .ellipsis b := e0
  replace u0 : Heap.SameBut z hp k0 := u0
  have d1 : St1 i k0 := D1.frame _ _ _ st1 fun c hc o e => u0.extBut c o (fun w => S.zf1 (w ▸ hc)) e
  have d2 : St2 i k0 := D2.frame _ _ _ st2 fun c hc o e => u0.extBut c o (fun w => S.zf2 (w ▸ hc)) e
  have t0 : IsTupOf2 k0 TO a1 a2 := u0.extBut _ _ S.TOz hTO
  refine wpAny_bind ?_
  simp only [List.zipIdx_cons, List.zipIdx_nil, List.forIn_cons, List.forIn_nil]
  refine wpAny_bind (wpAny_bind (wpAny_onRaise ?_))
  show wpAny _ _ (Builtin.SmallTypes.nextOf (.ref i1) >>= _) _ _ ⟨k0, g, d, tk0, os⟩
  refine wpAny_bind (D1.item i _ _ _ hlt1 d1 fun x1 k1 tk1 hx1 sn1 u1 => wpAny_pure ?_)
  replace u1 : Heap.SameBut i1 k0 k1 := u1
  have t1 : IsTupOf2 k1 TO a1 a2 := u1.extBut _ _ S.Ti1 t0
  refine wpAny_bind (wpAny_seqItems (s := ⟨k1, g, d, tk1, os⟩) t1 rfl ?_)
  refine wpAny_bind (updateSeq_IsTupOf2 (s := ⟨k1, g, d, tk1, os⟩) t1 fun k2 t2 u2 => ?_)
  replace t2 : IsTupOf2 k2 TO x1 a2 := t2
  replace u2 : Heap.SameBut TO k1 k2 := u2
  refine wpAny_bind (wpAny_letGo (wpAny_pure ?_))
  refine wpAny_bind (wpAny_bind (wpAny_onRaise ?_))
  show wpAny _ _ (Builtin.SmallTypes.nextOf (.ref i2) >>= _) _ _ ⟨k2, g, d, tk1, os⟩
  have d3 : St2 i k2 := D2.frame _ _ _ (D2.frame _ _ _ d2 fun c hc o e => u1.extBut c o (fun w => S.sep1_2 (w ▸ hc)) e) fun c hc o e => u2.extBut c o (fun w => S.Tf2 (w ▸ hc)) e
  refine wpAny_bind (D2.item i _ _ _ hlt2 d3 fun x2 k3 tk2 hx2 sn2 u3 => wpAny_pure ?_)
  replace u3 : Heap.SameBut i2 k2 k3 := u3
  have t3 : IsTupOf2 k3 TO x1 a2 := u3.extBut _ _ S.Ti2 t2
  refine wpAny_bind (wpAny_seqItems (s := ⟨k3, g, d, tk2, os⟩) t3 rfl ?_)
  refine wpAny_bind (updateSeq_IsTupOf2 (s := ⟨k3, g, d, tk2, os⟩) t3 fun k4 t4 u4 => ?_)
  replace t4 : IsTupOf2 k4 TO x1 x2 := t4
  replace u4 : Heap.SameBut TO k3 k4 := u4
  refine wpAny_bind (wpAny_letGo (wpAny_pure (wpAny_pure ?_)))
  refine wpAny_bind (wpAny_seqItems (s := ⟨k4, g, d, tk2, os⟩) t4 rfl ?_)
  refine wpAny_bind (wpAny_newTuple ?_)
  have n4 : k4.objs.size = hp.objs.size := by rw [u4.1, u3.1, u2.1, u1.1, u0.1]
  have all : ∀ c o, c ≠ z → c ≠ TO → c ≠ i1 → c ≠ i2 → hp.get? c = some o → k4.get? c = some o := fun c o c1 c2 c3 c4 e => u4.extBut _ _ c2 (u3.extBut _ _ c4 (u2.extBut _ _ c2 (u1.extBut _ _ c3 (u0.extBut _ _ c1 e))))
  have e4 : IsZipF k4 z TI TO .ellipsis b := u4.extBut _ _ S.TOz.symm (u3.extBut _ _ S.zi2 (u2.extBut _ _ S.TOz.symm (u1.extBut _ _ S.zi1 e0)))
  have d5 : St1 (i + 1) k4 := D1.frame _ _ _ (D1.frame _ _ _ (D1.frame _ _ _ sn1 fun c hc o e => u2.extBut c o (fun w => S.Tf1 (w ▸ hc)) e) fun c hc o e => u3.extBut c o (fun w => S.sep2_1 (w ▸ hc)) e) fun c hc o e => u4.extBut c o (fun w => S.Tf1 (w ▸ hc)) e
  have d6 : St2 (i + 1) k4 := D2.frame _ _ _ sn2 fun c hc o e => u4.extBut c o (fun w => S.Tf2 (w ▸ hc)) e
  have zlt : z < k4.objs.size := Heap.lt_size e4
  show wpAny _ _ (Builtin.SmallTypes.ownedTupleHandOut (.ref z) (.ref k4.objs.size) >>= _) _ _ ⟨k4.push { cls := .type "tuple", data := .seq #[x1, x2] }, g, d, tk2, os⟩
  refine wpAny_bind ?_
  unfold Builtin.SmallTypes.ownedTupleHandOut
  have e5 : IsZipF (k4.push { cls := .type "tuple", data := .seq #[x1, x2] }) z TI TO .ellipsis b := Heap.get?_push_of_some _ e4
  refine wpAny_bind (wpAny_setField_rec e5 (by simp) fun k6 e6 u6 => ?_)
  replace e6 : IsZipF k6 z TI TO (rawInt k4.objs.size) b := e6
  refine wpAny_setField_rec e6 (by simp) fun k7 e7 u7 => ?_
  replace e7 : IsZipF k7 z TI TO (rawInt k4.objs.size) false := e7
  replace u6 : Heap.SameBut z (k4.push { cls := .type "tuple", data := .seq #[x1, x2] }) k6 := u6
  replace u7 : Heap.SameBut z k6 k7 := u7
  have up : ∀ c o, c ≠ z → k4.get? c = some o → k7.get? c = some o := fun c o c1 e => u7.extBut _ _ c1 (u6.extBut _ _ c1 (Heap.get?_push_of_some _ e))
  have t7 : IsTupOf2 k7 k4.objs.size x1 x2 := u7.extBut _ _ (Nat.ne_of_gt zlt) (u6.extBut _ _ (Nat.ne_of_gt zlt) (Heap.get?_push_size _ rfl))
  have n7 : k7.objs.size = k4.objs.size + 1 := by rw [u7.1, u6.1, Heap.size_push]
  rw [n4] at e7 t7 n7
  refine wpAny_pure ⟨_, rfl, ?_⟩
  show Q (.ref k4.objs.size) ⟨k7, g, d, tk2, os⟩
  rw [n4]
  exact hQ x1 x2 k7 tk2 hx1 hx2 e7 (up _ _ S.TOz t4) (D1.frame _ _ _ d5 fun c hc o e => up c o (fun q => S.zf1 (q ▸ hc)) e) (D2.frame _ _ _ d6 fun c hc o e => up c o (fun q => S.zf2 (q ▸ hc)) e) t7 n7 fun c o cz cT c1 c2 e => up c o cz (all c o cz cT c1 c2 e)
theorem zip_held_end {b : Bool} {Q : Fin → Shared → Prop} (D1 : Draws prog w A i1 fp1 n1 P1 St1) (D2 : Draws prog w A i2 fp2 n2 P2 St2) (zf1 : z ∉ fp1) (zf2 : z ∉ fp2) (s12 : i1 ∉ fp2)
    (hz : IsZipH s.heap z TI TO T b) (hT : ∃ o, s.heap.get? T = some o) (hTI : IsTupOf2 s.heap TI (.ref i1) (.ref i2)) (st1 : St1 i s.heap) (st2 : St2 i s.heap) (hle1 : i ≤ n1) (hle2 : i ≤ n2) (hend : i = n1 ∨ i = n2)
    (hE : ∀ h' tk e, (∀ c o, c ≠ z → c ≠ TO → c ≠ i1 → c ≠ i2 → s.heap.get? c = some o → h'.get? c = some o) → (∃ o, h'.get? e = some o ∧ o.cls = .type "StopIteration") → E (.ref e) { s with heap := h', toks := tk }) :
    wpAny (model prog w) A (Builtin.«zip.__next__» ⟨[.ref z], []⟩) Q E s := by
  obtain ⟨hp, g, d, tk0, os⟩ := s
  show wpAny _ _ (field (.ref z) 2 >>= _) _ _ _
  refine wpAny_bind (wpAny_field hz rfl (x := .bool false) rfl ?_)
  show wpAny _ _ (field (.ref z) 3 >>= _) _ _ _
  refine wpAny_bind (wpAny_field hz rfl (x := .ref TI) rfl ?_)
  refine wpAny_bind (wpAny_seqItems hTI rfl ?_)
  show wpAny _ _ (Builtin.SmallTypes.ownedTupleIsFree (.ref z) >>= _) _ _ _
  refine wpAny_bind (zip_free_no hz hT fun k0 e0 u0 n0 => ?_)
  simp only [Bool.false_eq_true, if_false]
  rw [← Array.forIn_toList]
  simp only [List.forIn_cons, List.forIn_nil]
  have q1 : St1 i k0 := D1.frame _ _ _ st1 fun c hc o e => u0 c o (fun w => zf1 (w ▸ hc)) e
  have q2 : St2 i k0 := D2.frame _ _ _ st2 fun c hc o e => u0 c o (fun w => zf2 (w ▸ hc)) e
  refine wpAny_bind (wpAny_bind (wpAny_bind (wpAny_holding ?_)))
  show wpAny _ _ (Builtin.SmallTypes.nextOf (.ref i1) >>= _) _ _ ⟨k0, g, d, tk0, os⟩
  by_cases hlt : i < n1
  · refine wpAny_bind (D1.item i _ _ _ hlt q1 fun x1 k1 tk1 hx1 sn1 u1 => wpAny_pure (wpAny_pure ?_))
    replace u1 : Heap.SameBut i1 k0 k1 := u1
    refine wpAny_bind (wpAny_bind (wpAny_holding ?_))
    show wpAny _ _ (Builtin.SmallTypes.nextOf (.ref i2) >>= _) _ _ ⟨k1, g, d, tk1, os⟩
    have q3 : St2 i k1 := D2.frame _ _ _ q2 fun c hc o e => u1.extBut c o (fun w => s12 (w ▸ hc)) e
    have hi2 : i = n2 := by omega
    refine wpAny_bind (D2.done ⟨k1, g, d, tk1, os⟩ _ _ (by rw [← hi2]; exact q3) fun k2 e u2 he => ?_)
    exact hE k2 tk1 e (fun c o c1 c2 c3 c4 x => u2 _ _ c4 (u1.extBut _ _ c3 (u0 _ _ c1 x))) he
  · have hi1 : i = n1 := by omega
    refine wpAny_bind (D1.done ⟨k0, g, d, tk0, os⟩ _ _ (by rw [← hi1]; exact q1) fun k2 e u2 he => ?_)
    exact hE k2 tk0 e (fun c o c1 c2 c3 c4 x => u2 _ _ c3 (u0 _ _ c1 x)) he
theorem zip_free_end {f0 : Value} {b : Bool} {a1 a2 : Value} {Q : Fin → Shared → Prop} (S : ZipSep2 z TI TO i1 i2 fp1 fp2) (D1 : Draws prog w A i1 fp1 n1 P1 St1) (D2 : Draws prog w A i2 fp2 n2 P2 St2)
    (hz : IsZipF s.heap z TI TO f0 b) (hf : f0 = .none ∨ ∃ T : Addr, f0 = rawInt T ∧ s.heap.get? T = none) (hTI : IsTupOf2 s.heap TI (.ref i1) (.ref i2)) (hTO : IsTupOf2 s.heap TO a1 a2) (st1 : St1 i s.heap) (st2 : St2 i s.heap) (hle1 : i ≤ n1) (hle2 : i ≤ n2) (hend : i = n1 ∨ i = n2)
    (hE : ∀ h' tk e, (∀ c o, c ≠ z → c ≠ TO → c ≠ i1 → c ≠ i2 → s.heap.get? c = some o → h'.get? c = some o) → (∃ o, h'.get? e = some o ∧ o.cls = .type "StopIteration") → E (.ref e) { s with heap := h', toks := tk }) :
    wpAny (model prog w) A (Builtin.«zip.__next__» ⟨[.ref z], []⟩) Q E s := by
  obtain ⟨hp, g, d, tk0, os⟩ := s
  show wpAny _ _ (field (.ref z) 2 >>= _) _ _ _
  refine wpAny_bind (wpAny_field hz rfl (x := .bool false) rfl ?_)
  show wpAny _ _ (field (.ref z) 3 >>= _) _ _ _
  refine wpAny_bind (wpAny_field hz rfl (x := .ref TI) rfl ?_)
  refine wpAny_bind (wpAny_seqItems hTI rfl ?_)
  show wpAny _ _ (Builtin.SmallTypes.ownedTupleIsFree (.ref z) >>= _) _ _ _
  refine wpAny_bind (zip_free_yes hz hf ?_)
  simp only [if_true]
  refine wpAny_bind (wpAny_rule ?_)
  refine wpAny_bind (wpAny_field hz rfl (x := .ref TO) rfl ?_)
  refine wpAny_bind (wpAny_setField_rec hz (by simp) fun k0 e0 u0 => ?_)
  replace e0 : IsZipF k0 z TI TO .ellipsis b := e0
  replace u0 : Heap.SameBut z hp k0 := u0
  have d1 : St1 i k0 := D1.frame _ _ _ st1 fun c hc o e => u0.extBut c o (fun w => S.zf1 (w ▸ hc)) e
  have d2 : St2 i k0 := D2.frame _ _ _ st2 fun c hc o e => u0.extBut c o (fun w => S.zf2 (w ▸ hc)) e
  have t0 : IsTupOf2 k0 TO a1 a2 := u0.extBut _ _ S.TOz hTO
  have noz : ∀ {k : Heap} {e : Addr} {o : Obj}, IsZipF k z TI TO .ellipsis b → k.get? e = some o → o.cls = .type "StopIteration" → e ≠ z := fun {k e o} q h c x => by
    rw [x, q] at h
    cases h
    simp at c
  refine wpAny_bind ?_
  simp only [List.zipIdx_cons, List.zipIdx_nil, List.forIn_cons, List.forIn_nil]
  refine wpAny_bind (wpAny_bind (wpAny_onRaise ?_))
  show wpAny _ _ (Builtin.SmallTypes.nextOf (.ref i1) >>= _) _ _ ⟨k0, g, d, tk0, os⟩
  by_cases hlt : i < n1
  · refine wpAny_bind (D1.item i _ _ _ hlt d1 fun x1 k1 tk1 hx1 sn1 u1 => wpAny_pure ?_)
    replace u1 : Heap.SameBut i1 k0 k1 := u1
    have t1 : IsTupOf2 k1 TO a1 a2 := u1.extBut _ _ S.Ti1 t0
    refine wpAny_bind (wpAny_seqItems (s := ⟨k1, g, d, tk1, os⟩) t1 rfl ?_)
    refine wpAny_bind (updateSeq_IsTupOf2 (s := ⟨k1, g, d, tk1, os⟩) t1 fun k2 t2 u2 => ?_)
    replace u2 : Heap.SameBut TO k1 k2 := u2
    refine wpAny_bind (wpAny_letGo (wpAny_pure ?_))
    have hi2 : i = n2 := by omega
    refine wpAny_bind (wpAny_bind (wpAny_onRaise ?_))
    show wpAny _ _ (Builtin.SmallTypes.nextOf (.ref i2) >>= _) _ _ ⟨k2, g, d, tk1, os⟩
    have d3 : St2 i k2 := D2.frame _ _ _ (D2.frame _ _ _ d2 fun c hc o e => u1.extBut c o (fun w => S.sep1_2 (w ▸ hc)) e) fun c hc o e => u2.extBut c o (fun w => S.Tf2 (w ▸ hc)) e
    refine wpAny_bind (D2.done ⟨k2, g, d, tk1, os⟩ _ _ (by rw [← hi2]; exact d3) fun k3 e u3 he => ?_)
    replace u3 : Heap.ExtBut i2 k2 k3 := u3
    obtain ⟨oe, ho, hc⟩ := he
    replace ho : k3.get? e = some oe := ho
    have e3 : IsZipF k3 z TI TO .ellipsis b := u3 _ _ S.zi2 (u2.extBut _ _ S.TOz.symm (u1.extBut _ _ S.zi1 e0))
    refine wpAny_setField_rec (s := ⟨k3, g, d, tk1, os⟩) e3 (by simp) fun k4 _ u4 => ?_
    replace u4 : Heap.SameBut z k3 k4 := u4
    exact hE k4 tk1 e (fun c o c1 c2 c3 c4 x => u4.extBut _ _ c1 (u3 _ _ c4 (u2.extBut _ _ c2 (u1.extBut _ _ c3 (u0.extBut _ _ c1 x))))) ⟨oe, u4.extBut _ _ (noz e3 ho hc) ho, hc⟩
  · have hi1 : i = n1 := by omega
    refine wpAny_bind (D1.done ⟨k0, g, d, tk0, os⟩ _ _ (by rw [← hi1]; exact d1) fun k3 e u3 he => ?_)
    replace u3 : Heap.ExtBut i1 k0 k3 := u3
    obtain ⟨oe, ho, hc⟩ := he
    replace ho : k3.get? e = some oe := ho
    have e3 : IsZipF k3 z TI TO .ellipsis b := u3 _ _ S.zi1 e0
    refine wpAny_setField_rec (s := ⟨k3, g, d, tk0, os⟩) e3 (by simp) fun k4 _ u4 => ?_
    replace u4 : Heap.SameBut z k3 k4 := u4
    exact hE k4 tk0 e (fun c o c1 c2 c3 c4 x => u4.extBut _ _ c1 (u3 _ _ c3 (u0.extBut _ _ c1 x))) ⟨oe, u4.extBut _ _ (noz e3 ho hc) ho, hc⟩
def ZSt (h : Heap) (z TI TO : Addr) : Prop := ∃ f0 b, IsZipF h z TI TO f0 b ∧ (f0 = .none ∨ ∃ T : Addr, f0 = rawInt T)
theorem zip_item {a1 a2 : Value} {Q : Value → Shared → Prop} (S : ZipSep2 z TI TO i1 i2 fp1 fp2) (D1 : Draws prog w A i1 fp1 n1 P1 St1) (D2 : Draws prog w A i2 fp2 n2 P2 St2)
    (hz : ZSt s.heap z TI TO) (hTI : IsTupOf2 s.heap TI (.ref i1) (.ref i2)) (hTO : IsTupOf2 s.heap TO a1 a2) (st1 : St1 i s.heap) (st2 : St2 i s.heap) (hlt1 : i < n1) (hlt2 : i < n2)
    (hQ : ∀ x1 x2 h' tk, P1 i x1 → P2 i x2 → ZSt h' z TI TO → (∃ a1 a2, IsTupOf2 h' TO a1 a2) → St1 (i + 1) h' → St2 (i + 1) h' → IsTupOf2 h' s.heap.objs.size x1 x2 → h'.objs.size = s.heap.objs.size + 1 →
      (∀ c o, c ≠ z → c ≠ TO → c ≠ i1 → c ≠ i2 → s.heap.get? c = some o → h'.get? c = some o) → Q (.ref s.heap.objs.size) { s with heap := h', toks := tk }) :
    wpAny (model prog w) A (Builtin.«zip.__next__» ⟨[.ref z], []⟩) (fun fin s' => ∃ v, fin = .done (.ret v) ∧ Q v s') E s := by
  obtain ⟨f0, b, hz, hf⟩ := hz
  have free : (f0 = .none ∨ ∃ T : Addr, f0 = rawInt T ∧ s.heap.get? T = none) → wpAny (model prog w) A (Builtin.«zip.__next__» ⟨[.ref z], []⟩) (fun fin s' => ∃ v, fin = .done (.ret v) ∧ Q v s') E s := fun hf =>
    zip_free_item S D1 D2 hz hf hTI hTO st1 st2 hlt1 hlt2 fun x1 x2 h' tk y1 y2 c1 c2 c3 c4 c5 c6 c7 => hQ x1 x2 h' tk y1 y2 ⟨_, _, c1, .inr ⟨_, rfl⟩⟩ ⟨_, _, c2⟩ c3 c4 c5 c6 c7
  rcases hf with rfl | ⟨T, rfl⟩
  · exact free (.inl rfl)
  · cases e : s.heap.get? T with
    | none => exact free (.inr ⟨T, rfl, e⟩)
    | some o => exact zip_held_item D1 D2 S.zf1 S.zf2 S.zi1 S.zi2 S.sep1_2 S.sep2_1 S.TIz hz ⟨o, e⟩ hTI st1 st2 hlt1 hlt2 fun x1 x2 h' tk y1 y2 c1 c3 c4 c5 c6 c7 => hQ x1 x2 h' tk y1 y2 ⟨_, _, c1, .inr ⟨_, rfl⟩⟩ ⟨a1, a2, c7 _ _ S.TOz S.Ti1 S.Ti2 hTO⟩ c3 c4 c5 c6 fun c o d1 _ d3 d4 x => c7 c o d1 d3 d4 x
theorem zip_end {a1 a2 : Value} {Q : Fin → Shared → Prop} (S : ZipSep2 z TI TO i1 i2 fp1 fp2) (D1 : Draws prog w A i1 fp1 n1 P1 St1) (D2 : Draws prog w A i2 fp2 n2 P2 St2)
    (hz : ZSt s.heap z TI TO) (hTI : IsTupOf2 s.heap TI (.ref i1) (.ref i2)) (hTO : IsTupOf2 s.heap TO a1 a2) (st1 : St1 i s.heap) (st2 : St2 i s.heap) (hi : i = min n1 n2)
    (hE : ∀ h' tk e, (∀ c o, c ≠ z → c ≠ TO → c ≠ i1 → c ≠ i2 → s.heap.get? c = some o → h'.get? c = some o) → (∃ o, h'.get? e = some o ∧ o.cls = .type "StopIteration") → E (.ref e) { s with heap := h', toks := tk }) :
    wpAny (model prog w) A (Builtin.«zip.__next__» ⟨[.ref z], []⟩) Q E s := by
  obtain ⟨f0, b, hz, hf⟩ := hz
  have free : (f0 = .none ∨ ∃ T : Addr, f0 = rawInt T ∧ s.heap.get? T = none) → wpAny (model prog w) A (Builtin.«zip.__next__» ⟨[.ref z], []⟩) Q E s := fun hf =>
    zip_free_end S D1 D2 hz hf hTI hTO st1 st2 (by omega) (by omega) (by omega) hE
  rcases hf with rfl | ⟨T, rfl⟩
  · exact free (.inl rfl)
  · cases e : s.heap.get? T with
    | none => exact free (.inr ⟨T, rfl, e⟩)
    | some o => exact zip_held_end D1 D2 S.zf1 S.zf2 S.sep1_2 hz ⟨o, e⟩ hTI st1 st2 (by omega) (by omega) (by omega) hE
theorem ZSt.typeIs (h : ZSt s.heap z TI TO) : s.TypeIs (.ref z) "zip" := by
  obtain ⟨f0, b, e, _⟩ := h
  exact ⟨_, e, rfl⟩
end
section
variable {X : Cx}
theorem zip_made {a b : Expr} {ta : TA} {p pos : Pos} {pins : List (Addr × Obj)} {s : Shared} {σ : St} {H : Hp} {R : Sk → Sk → List V → List V → Hp → Prop} {Q' : Value → Shared → Prop} (hg : Gl X "zip") (hm : X.mg "zip" = none) (ha : PA X [a, b] ta)
    (hs : starEach [a, b] X.env = (false, eval a X.env) :: starEach [b] X.env) (hpl : (backTo pos (starEach [b] X.env)).any (·.1) = false)
    (I : Inv X pins σ H s) (h : ta σ H fun vs H1 => ∃ k l xs ys, vs = [Sk.v k, Sk.v l] ∧ k.at H1 xs ∧ l.at H1 ys ∧ R k l xs ys H1)
    (hQ : ∀ N s' k l t u xs ys H', IsZip s'.heap (N + 4) (N + 2) (N + 3) .none → IsTupOf2 s'.heap (N + 2) (.ref (N : Addr)) (.ref (N + 1 : Addr)) → IsTupOf2 s'.heap (N + 3) .none .none → Sk.tn t (N : Addr) 0 s'.heap k → Sk.tn u (N + 1 : Addr) 0 s'.heap l →
      Inv X pins σ H' s' → (∀ c ∈ [N + 4, N + 2, N + 3, N, N + 1], FpOk X pins H' c) → s'.heap.objs.size = N + 5 → k.at H' xs → l.at H' ys → R k l xs ys H' → Q' (.ref (N + 4 : Addr)) s') :
    wpAny (model X.prog X.w) X.A (eval (.Call (.Name "zip" p) [a, b] [] pos) X.env) Q' X.xe s := by
  refine Call_ (ld_blt I hg hm boot_zip (PyProof.Rows.callWith_type1 (thn (ha.run pos pins s σ H _ I h) fun us s1 ⟨vs, H1, I1, r1, q1⟩ => ?_) hs hpl))
  obtain ⟨k, l, xs, ys, ex, hq, hq2, q⟩ := q1
  subst ex
  cases r1 with
  | cons r rr =>
    cases rr with
    | cons r2 rr =>
      cases rr
      obtain ⟨t, rfl⟩ := Sk.rel r
      obtain ⟨t2, rfl⟩ := Sk.rel r2
      obtain ⟨H1', B1, h1⟩ := Sk.begins I1 hq t
      obtain ⟨H2', B2, h2⟩ := Sk.begins I1 hq2 t2
      refine zip_begins2 B1 B2 h1 h2 fun h' hz hTI hTO g1 g2 hsz hk => ?_
      have I2 : Inv X pins σ H1 { s1 with heap := h' } := I1.kept (t' := s1.toks) hk
      refine hQ s1.heap.objs.size _ k l t t2 xs ys H1 hz hTI hTO (Sk.tn0 g1) (Sk.tn0 g2) I2 (fun b hb => ?_) hsz hq hq2 q
      have hle : s1.heap.objs.size ≤ b := by
        have e' : b = s1.heap.objs.size + 4 ∨ b = s1.heap.objs.size + 2 ∨ b = s1.heap.objs.size + 3 ∨ b = s1.heap.objs.size ∨ b = s1.heap.objs.size + 1 := by simpa using hb
        rcases e' with z | z | z | z | z <;> rw [z] <;> first | exact Nat.le_add_right _ _ | exact Nat.le_refl _
      exact I1.fpOk hle (I1.hok.fresh hle)
end
end L2
namespace Pd
open PySem L2
end Pd
namespace Pd
open PySem PyProof.Rows L2
def TabBs (K : PySem.W.Frag) (mg : Str → Option Value) (base : Heap) : Prop := ∀ (c P : Addr) (q : Str) (o : Obj), K.lookup c = some o → tabOf o = some (P, q) → LamX.TabB base mg c P
theorem law_calledG {P : Program} {w : World} {K : PySem.W.Frag} {mg mb : Str → Option Value} {k : Nat} {fa a : Addr} {x : Str} {sp : FD} {s : Shared} {vs : List Value} {ns : List Int}
    (KX : K.In s.heap) (TA : TabAt s.heap K) (hbm : ∃ (bm : Addr) (ob : Obj), mg "__builtins__" = some (.ref bm) ∧ bm ≠ builtinsNs ∧ s.heap.get? bm = some ob ∧ ob.cls = .type "module" ∧ ob.dict = some builtinsNs ∧ ob.data = .plain) (hns : s.heap.Ns mainGlobals mg) (hb : s.heap.Ns builtinsNs mb) (hbb : ∀ x : Str, x ≠ "__name__" → mb x = bootBuiltins x) (hlim : s.heap.NoLimit) (hg : s.gens = #[])
    (ha : s.heap.get? a = some { cls := .type "list", data := .seq vs.toArray }) (hi : IntsAre vs ns) (hl : ns.length ≤ sizeLine) (hr : Room k callerA)
    (F : ∀ base : Heap, K.In base → base.Ns mainGlobals mg → TabBs K mg base → HasG false P w K mg base k fa [x] [] sp)
    (hsp : sp [.scr ns] 1000000000 fun _ r => r = .bl true) :
    codeAny (model P w) callerA (.call (.ref fa) ⟨[.ref a], []⟩) (fun r s' => r = .ok (.ret (.bool true)) ∧ OldK s.heap s'.heap ∧ s'.os = s.os ∧ AllBare s'.gens) s := by
  obtain ⟨H0, hO0, hS0, hok0, hA0⟩ := script_track (P := P) (w := w) KX ha hi hl
  have atT : ∀ b, b ∈ (tabsK K).map (·.1) → s.heap.get? b = some { cls := .none, data := .fields #[] } := fun b hb => by
    obtain ⟨p, hp, rfl⟩ := List.mem_map.mp hb
    exact TA.obj p hp
  have aT : a ∉ (tabsK K).map (·.1) := fun z => by
    have q := atT a z
    rw [ha] at q
    have z' : Data.seq vs.toArray _ = Data.fields #[] := congrArg Obj.data (Option.some.inj q)
    cases z'
  obtain ⟨H, hH⟩ : ∃ H : Hp, H = fun b => if b ∈ (tabsK K).map (·.1) then some (.tbl #[]) else H0 b := ⟨_, rfl⟩
  have onT : ∀ b, b ∈ (tabsK K).map (·.1) → H b = some (.tbl #[]) := fun b hb => by rw [hH]; exact if_pos hb
  have offT : ∀ b, b ∉ (tabsK K).map (·.1) → H b = H0 b := fun b hb => by rw [hH]; exact if_neg hb
  have sm : Same H0 H := fun b u e => by
    rw [offT b (by rw [(hA0 b (by rw [e]; exact Option.some_ne_none u)).1]; exact aT)]
    exact e
  have hS : SqL K H a (ns.map V.int) := sm.seq hS0
  have hok : HOk P w H s.heap := fun b u e => by
    by_cases hb : b ∈ (tabsK K).map (·.1)
    · rw [onT b hb] at e
      cases e
      exact atT b hb
    · rw [offT b hb] at e
      exact (hok0 b u e).stay (fun _ _ _ q => q) (fun c q => sm _ _ q) fun c xs q => sm _ _ q
  have low : ∀ {b : Addr} {o : Obj}, s.heap.get? b = some o → H b = none → (hidT s.heap H).get? b = some o := fun e n => hidT_get e n
  have noH : ∀ {b : Addr} {o : Obj}, s.heap.get? b = some o → (∀ vs n, o.data ≠ .seq vs n) → o.data ≠ .fields #[] → H b = none := fun {b o} e d1 d2 => by
    by_cases hb : b ∈ (tabsK K).map (·.1)
    · rw [atT b hb] at e
      cases e
      exact (d2 rfl).elim
    · rw [offT b hb]
      refine Classical.byContradiction fun n => ?_
      rw [(hA0 b n).1, ha] at e
      cases e
      exact d1 _ _ rfl
  have dictOff : ∀ {b : Addr} {o : Obj} {es : Array DictEntry} {ep : Nat}, s.heap.get? b = some o → o.data = .dict es ep → H b = none := fun {b o es ep} e d => noH e (fun vs n z => by rw [d] at z; cases z) fun z => by rw [d] at z; cases z
  have nsUp : ∀ {b : Addr} {m : Str → Option Value}, s.heap.Ns b m → (hidT s.heap H).Ns b m := fun {b m} q => by
    obtain ⟨o, es, ep, e, d, r⟩ := q
    exact ⟨o, es, ep, low e (dictOff e d), d, r⟩
  have KB : K.In (hidT s.heap H) := fun b o e => low (KX b o e) (by
    by_cases hb : b ∈ (tabsK K).map (·.1)
    · obtain ⟨p, hp, rfl⟩ := List.mem_map.mp hb
      rw [TA.out p hp] at e
      cases e
    · rw [offT b hb]
      refine Classical.byContradiction fun n => ?_
      rw [(hA0 b n).2] at e
      cases e)
  have M : Mod K mg (hidT s.heap H) := by
    obtain ⟨mc, h1, h2⟩ := hlim
    exact ⟨KB, nsUp hns, ⟨mb, nsUp hb, hbb⟩, mc, nsUp h1, h2⟩
  have none0 : ∀ {b : Addr}, ¬ b ∈ ([] : List Addr) := fun z => nomatch z
  have e0 : Env0 P w K mg (hidT s.heap H) callerA [] s H := ⟨rfl, M, fun b o e => of_hidT e, Nat.le_of_eq (hidT_size _ _), trivial, fun b z => absurd (show b ∈ ([] : List Addr) from z) none0, hok, .of_eq hg⟩
  have TBs : TabBs K mg (hidT s.heap H) := fun c Pt q o hl ht => by
    have hm := tabs_mem hl ht
    have hP := TA.obj _ hm
    obtain ⟨bm, ob, b1, b2, b3, b4, b5, b6⟩ := hbm
    refine ⟨PySem.W.codeHd_of_K KB (TA.code c Pt q o hl ht), ⟨bm, ob, b1, b2, fun z => ?_, fun z => ?_, low b3 (noH b3 (fun vs n z => by rw [b6] at z; cases z) fun z => by rw [b6] at z; cases z), b4, b5, b6⟩, fun z => ?_⟩
    · obtain ⟨o, es, ep, e, hd, _⟩ := hns
      rw [z, e] at b3
      cases b3
      rw [hd] at b6
      cases b6
    · rw [z] at b3
      rw [show s.heap.get? Pt = _ from hP] at b3
      cases b3
      cases b6
    · obtain ⟨o, es, ep, e, hd, _⟩ := hns
      rw [z, show s.heap.get? Pt = _ from hP] at e
      cases e
      cases hd
  let g : Gh := ⟨H0, fun b => b ∈ (tabsK K).map (·.1), []⟩
  have ok : Ok false K g H 1000000000 := by
    refine ⟨sm, fun b hb => ⟨?_, ?_⟩, ⟨fun p hp => ?_, fun p hp => List.mem_map.mpr ⟨p, hp, rfl⟩, fun b ps e => ?_⟩, CelOk.nil⟩
    · refine Classical.byContradiction fun n => ?_
      exact aT (by rw [← (hA0 b n).1]; exact hb)
    · obtain ⟨p, hp, rfl⟩ := List.mem_map.mp hb
      exact .inl (.inl ⟨p.2, hp⟩)
    · exact NdefX.TabN.nil (onT _ (List.mem_map.mpr ⟨p, hp, rfl⟩))
    · by_cases hb : b ∈ (tabsK K).map (·.1)
      · obtain ⟨p, hp, rfl⟩ := List.mem_map.mp hb
        exact ⟨p.2, hp⟩
      · rw [offT b hb] at e
        rcases hO0 b with z | ⟨ob, xs, z⟩ <;> (rw [z] at e; cases e)
  have L : liftF false K sp [.ref a] H (fun v _ => v = .bl true) E0 := ⟨g, 1000000000, [.scr ns], _, ok, .cons (.scr hS0) .nil, hsp, fun v g' H' n' r q _ _ d => by
    have q' : r = .bl true := q
    rw [q'] at d
    cases d
    rfl⟩
  obtain ⟨fd, dvs, ds, FG, _, B, hv, hd⟩ := (F _ KB (nsUp hns) TBs).ex
  have hdv : dvs = [] := by
    cases hd g
    rfl
  subst hdv
  have hds : ds = [] := by
    cases hv
    rfl
  subst hds
  refine codeAny_mono (FG.run callerA [] s H ⟨[.ref a], []⟩ [.ref a] [.ref a] _ E0 hr rfl e0 (B s [.ref a] KX rfl) (.cons rfl .nil) L) fun r s' z => ?_
  match r, z with
  | .error _, z => exact False.elim z
  | .ok .next, z => exact False.elim z
  | .ok .brk, z => exact False.elim z
  | .ok .cont, z => exact False.elim z
  | .ok (.ret u), z =>
    obtain ⟨v, H', os, bare, un, hok', rv, q⟩ := z
    have q' : v = .bl true := q
    rw [q'] at rv
    obtain rfl : u = Value.bool true := rv
    have same : ∀ b o, b ∉ (tabsK K).map (·.1) → s.heap.get? b = some o → s'.heap.get? b = some o := fun b o nb e => by
      rcases hO0 b with hz | ⟨ob, xs, hz⟩
      · exact un.keep b o e (by rw [offT b nb]; exact hz) (fun z => absurd (show b ∈ ([] : List Addr) from z) none0) (by simp)
      · have hz' : H b = some (.frz ob (.lst xs)) := sm _ _ hz
        obtain ⟨e1, _⟩ := hok b _ hz'
        obtain ⟨e2, _⟩ := hok' b _ (un.frzs b ob _ hz')
        rw [e] at e1
        cases e1
        exact e2
    have grown : ∀ b, b ∈ (tabsK K).map (·.1) → ∃ more : Array Value, s'.heap.get? b = some { cls := .none, data := .fields more } := fun b hb => by
      obtain ⟨more, z⟩ := un.tbls b #[] (onT b hb)
      exact ⟨_, hok' b _ z⟩
    refine ⟨rfl, ⟨fun b o e => ?_, fun b o e => ?_⟩, os, bare⟩
    · by_cases hb : b ∈ (tabsK K).map (·.1)
      · obtain ⟨more, hm⟩ := grown b hb
        obtain ⟨p, hp, ep⟩ := List.mem_map.mp hb
        obtain ⟨c, o1, hl1, ht1⟩ := tabs_of hp
        have CH := PySem.W.codeHd_of_K KX (TA.code c p.1 p.2 o1 hl1 ht1)
        have tb := atT b hb
        rw [tb] at e
        cases e
        rw [← ep] at hm tb ⊢
        exact .inr (.inl ⟨(CH.tab tb).isCodeTable, rfl, #[], more, rfl, by rw [Array.empty_append]; exact hm⟩)
      · exact .inl (same b o hb e)
    · by_cases hb : b ∈ (tabsK K).map (·.1)
      · obtain ⟨more, hm⟩ := grown b hb
        exact ⟨_, hm⟩
      · exact ⟨o, same b o hb e⟩
theorem law_walkG {l : PySem.W.OpenLaw} {n k : Nat} {q : Program} {loose : List Str} {XP : (Str → Option Value) → Heap → Prop} {YP : World → Heap → Prop} {d : DefRec} {x : Str}
    (hn : l.most = some n) (hn2 : n ≤ sizeLine) (hdf : d.params.defaults = []) (hr : Room k callerA)
    (F : ∀ (w : World) (mg : Str → Option Value) (fa : Addr) (h : Heap), YP w h → h.Ns mainGlobals mg → mg d.name = some (.ref fa) →
      ∃ (K : PySem.W.Frag) (sp : FD), K.In h ∧ TabAt h K ∧
        (∀ ns : List Int, ns.length ≤ n → sp [.scr ns] 1000000000 fun _ r => r = .bl true) ∧
        ∀ base : Heap, K.In base → base.Ns mainGlobals mg → TabBs K mg base → HasG false l.prog w K mg base k fa [x] [] sp) :
    PySem.W.WalkO q loose XP YP l.row.toRowW d [] (fun f vs => PySem.call f vs) := by
  refine Att.attach_call hn hdf fun w s₀ s₁ mg mb fa o pm cd doc a vs ns G Y ho hd hcd hmg hobj hints hlen hg => ?_
  obtain ⟨K, sp, KX, TA, hsp, hF⟩ := F w mg fa _ Y G.T.g hmg
  exact law_calledG KX TA G.T.bmain G.T.g G.T.b G.T.builtins G.T.nolimit hg hobj hints (Nat.le_trans hlen hn2) hr hF (hsp ns hlen)
end Pd
namespace PySem
namespace F
theorem zip_no_len : typeLookup (.type "zip") "__len__" = pure none := by rw [typeLookup_type, builtinLookup_eq_fast]; kernel_rfl
theorem zip_no_hint : typeLookup (.type "zip") "__length_hint__" = pure none := by rw [typeLookup_type, builtinLookup_eq_fast]; kernel_rfl
end F
end PySem
namespace L2
open PySem PySem.Spec PyProof.Rows
theorem tbl_upd {H : Hp} {p b : Addr} {o : HO} {ps : Array Value} (e : upd H p o b = some (.tbl ps)) (ho : ∀ ps, o ≠ .tbl ps := by (intro ps z; cases z)) : H b = some (.tbl ps) := by
  by_cases q : b = p
  · rw [q, upd_same] at e
    cases e
    exact (ho ps rfl).elim
  · rw [upd_ne q] at e
    exact e
def PairsOf (H0 H : Hp) (L : Addr) (xs ys acc : List V) : Prop := ∀ (j : Nat) (v : V), acc[j]? = some v → ∃ T x y, v = .ref T ∧ T ≠ L ∧ H0 T = none ∧ H T = some (.tup [x, y]) ∧ xs[j]? = some x ∧ ys[j]? = some y
section
variable {X : Cx} {pins : List (Addr × Obj)} {σ : St}
theorem Sk.at_mono {k : Sk} {H H' : Hp} {xs : List V} (g : ∀ b o, H b = some o → H' b = some o) (h : k.at H xs) : k.at H' xs := by
  cases k with
  | lst a => exact g _ _ h
  | tup a => exact (show Rd _ _ _ from h).same g
  | str z => exact h
theorem loopZ {A : Around} {k l : Sk} {t u : Tok} {xs ys : List V} {z TI TO i1 i2 L : Addr} {R : Result → Shared → Prop} {res : Value} {H0 : Hp} (hh : A.handled = none) (nd : [z, TI, TO, i1, i2].Nodup) (hz : min xs.length ys.length ≤ sizeLine) (hL0 : H0 L = none) (hk0 : k.at H0 xs) (hl0 : l.at H0 ys)
    (hR : ∀ s' H' acc', Inv X pins σ H' s' → (∀ b o, H0 b = some o → H' b = some o) → (∀ b ps, H' b = some (.tbl ps) → H0 b = some (.tbl ps)) → H' L = some (.lst acc') → acc'.length = min xs.length ys.length → PairsOf H0 H' L xs ys acc' → R (.ok (.ret res)) s') :
    ∀ (m i : Nat) (s : Shared) (H : Hp) (acc : List V), min xs.length ys.length - i = m → i ≤ min xs.length ys.length → Inv X pins σ H s → (∀ b ∈ [z, TI, TO, i1, i2], FpOk X pins H b) → (∀ b o, H0 b = some o → H b = some o) → (∀ b ps, H b = some (.tbl ps) → H0 b = some (.tbl ps)) → H L = some (.lst acc) → acc.length = i → PairsOf H0 H L xs ys acc →
      (ZSt s.heap z TI TO ∧ IsTupOf2 s.heap TI (.ref i1) (.ref i2) ∧ (∃ a1 a2, IsTupOf2 s.heap TO a1 a2) ∧ k.tn t i1 i s.heap ∧ l.tn u i2 i s.heap) →
      codeAny (model X.prog X.w) A (.builtin "list.extend.loop" ⟨[.ref L, .ref z, res], []⟩) R s := by
  have nd' := nd
  simp only [List.nodup_cons, List.mem_cons, List.mem_nil_iff, not_or, or_false, not_false_eq_true, List.nodup_nil, and_true] at nd'
  obtain ⟨⟨a1, a2, a3, a4⟩, ⟨c1, c2, c3⟩, ⟨e1, e2⟩, e3⟩ := nd'
  intro m
  induction m with
  | zero =>
    intro i s H acc hm hi I hf hg ht hL hl hp st
    obtain ⟨s1, s2, ⟨b1, b2, s3⟩, s4, s5⟩ := st
    have nz := (hf z (by simp)).1
    have nTO := (hf TO (by simp)).1
    have n1 := (hf i1 (by simp)).1
    have n2 := (hf i2 (by simp)).1
    obtain ⟨fp1, St1, P1, D1, d1, d2, d3, d4, d5⟩ := Sk.draws I (Sk.at_mono hg hk0) t (P := X.prog) (w := X.w) (A := A.in1.in1) (show A.in1.in1.handled = none from hh) n1
    obtain ⟨fp2, St2, P2, D2, f1, f2, f3, f4, f5⟩ := Sk.draws I (Sk.at_mono hg hl0) u (P := X.prog) (w := X.w) (A := A.in1.in1) (show A.in1.in1.handled = none from hh) n2
    have S : ZipSep2 z TI TO i1 i2 fp1 fp2 := { TIz := Ne.symm a1, TOz := Ne.symm a2, TITO := c1, TIi1 := c2, mem1 := d3, zf1 := off_fp d4 nz a3, Tf1 := off_fp d4 nTO e1, TIi2 := c3, mem2 := f3, zf2 := off_fp f4 nz a4, Tf2 := off_fp f4 nTO e2, sep1_2 := off_fp f4 n1 e3, sep2_1 := off_fp d4 n2 (Ne.symm e3) }
    refine codeAny_builtin PySem.F.entry_extend_loop ?_
    rw [Around.under_plainId PySem.F.plain_extend_loop _]
    show wpAny _ A.in1 (pyNext (.ref z) >>= _) _ _ s
    refine wpAny_bind ?_
    unfold pyNext
    refine wpAny_bind (wpAny_attempt (wpAny_callSpecial?_slot (name := Str.ofString "__next__") s1.typeIs F.slot_zip_next (wpAny_call_entry F.slot_zip_next s1.typeIs F.entry_zip_next (zip_end S D1 D2 s1 s2 s3 (d1 i s4) (f1 i s5) (by omega) fun h' tk x hk hx => ?_) (F.args_zip_next_1 _))))
    obtain ⟨o, ho, hcx⟩ := hx
    refine wpAny_bind (wpAny_isInstance (T := "StopIteration") (b := true) ⟨o, ho, hcx⟩ isSubtype_stop ?_)
    refine wpAny_pure ?_
    refine wpAny_pure (hR _ H acc (I.turnedL (t' := tk) (ch := [z, TO, i1, i2]) (fun b o hb q => hk b o (fun w => hb (by simp [w])) (fun w => hb (by simp [w])) (fun w => hb (by simp [w])) (fun w => hb (by simp [w])) q) fun b hb => hf b (by
      have e' : b = z ∨ b = TO ∨ b = i1 ∨ b = i2 := by simpa using hb
      rcases e' with q | q | q | q <;> rw [q] <;> simp)) hg ht hL (by omega) hp)
  | succ m ih =>
    intro i s H acc hm hi I hf hg ht hL hl hp st
    obtain ⟨s1, s2, ⟨b1, b2, s3⟩, s4, s5⟩ := st
    have nz := (hf z (by simp)).1
    have nTO := (hf TO (by simp)).1
    have n1 := (hf i1 (by simp)).1
    have n2 := (hf i2 (by simp)).1
    have nTI := (hf TI (by simp)).1
    obtain ⟨fp1, St1, P1, D1, d1, d2, d3, d4, d5⟩ := Sk.draws I (Sk.at_mono hg hk0) t (P := X.prog) (w := X.w) (A := A.in1.in1) (show A.in1.in1.handled = none from hh) n1
    obtain ⟨fp2, St2, P2, D2, f1, f2, f3, f4, f5⟩ := Sk.draws I (Sk.at_mono hg hl0) u (P := X.prog) (w := X.w) (A := A.in1.in1) (show A.in1.in1.handled = none from hh) n2
    have S : ZipSep2 z TI TO i1 i2 fp1 fp2 := { TIz := Ne.symm a1, TOz := Ne.symm a2, TITO := c1, TIi1 := c2, mem1 := d3, zf1 := off_fp d4 nz a3, Tf1 := off_fp d4 nTO e1, TIi2 := c3, mem2 := f3, zf2 := off_fp f4 nz a4, Tf2 := off_fp f4 nTO e2, sep1_2 := off_fp f4 n1 e3, sep2_1 := off_fp d4 n2 (Ne.symm e3) }
    refine codeAny_builtin PySem.F.entry_extend_loop ?_
    rw [Around.under_plainId PySem.F.plain_extend_loop _]
    show wpAny _ A.in1 (pyNext (.ref z) >>= _) _ _ s
    refine wpAny_bind ?_
    unfold pyNext
    refine wpAny_bind (wpAny_attempt (wpAny_callSpecial?_slot (name := Str.ofString "__next__") s1.typeIs F.slot_zip_next (wpAny_call_entry F.slot_zip_next s1.typeIs F.entry_zip_next (zip_item S D1 D2 s1 s2 s3 (d1 i s4) (f1 i s5) (by omega) (by omega) fun x1 x2 h' tk y1 y2 q1 q2 q3 q4 q5 q6 q7 => ?_) (F.args_zip_next_1 _))))
    refine wpAny_pure ?_
    obtain ⟨x', ex, rx⟩ := d5 i x1 y1
    obtain ⟨y', ey, ry⟩ := f5 i x2 y2
    have fr : H s.heap.objs.size = none := I.hok.fresh (Nat.le_refl _)
    have I1 : Inv X pins σ (upd H s.heap.objs.size (.tup [x', y'])) { s with heap := h', toks := tk } :=
      I.turnedNew (ch := [z, TO, i1, i2]) (fun b o hb q => q7 b o (fun w => hb (by simp [w])) (fun w => hb (by simp [w])) (fun w => hb (by simp [w])) (fun w => hb (by simp [w])) q) (fun b hb => hf b (by
        have e' : b = z ∨ b = TO ∨ b = i1 ∨ b = i2 := by simpa using hb
        rcases e' with q | q | q | q <;> rw [q] <;> simp)) (Nat.le_refl _) ⟨by show 2 ≤ sizeLine; decide, [x1, x2], .cons rx (.cons ry .nil), ⟨_, q5, rfl, _, rfl⟩⟩
    have hLT : L ≠ s.heap.objs.size := fun e => by rw [e, fr] at hL; cases hL
    have hL1 : upd H s.heap.objs.size (.tup [x', y']) L = some (.lst acc) := by rw [upd_ne hLT]; exact hL
    obtain ⟨z1, its, n, r, hlen, eL⟩ := I1.lstM hL1
    have J := I1.lset (ys := acc ++ [.ref s.heap.objs.size]) (its' := its ++ [.ref s.heap.objs.size]) (f := fun a => a.push (.ref s.heap.objs.size)) (t' := tk) hL1 eL (by simp) (r.append (.cons (show RelV (V.ref s.heap.objs.size) (Value.ref s.heap.objs.size) from rfl) .nil)) (by rw [List.length_append, List.length_singleton]; omega)
    show wpAny _ A.in1 (updateSeq L (·.push (Value.ref s.heap.objs.size)) >>= _) _ _ _
    refine wpAny_bind ?_
    have nLz : ∀ b ∈ [z, TI, TO, i1, i2], L ≠ b := fun b hb e => by
      have := (hf b hb).1
      rw [← e, hL] at this
      cases this
    have hlt : ∀ b ∈ [z, TI, TO, i1, i2], b < s.heap.objs.size := fun b hb => by
      have e' : b = z ∨ b = TI ∨ b = TO ∨ b = i1 ∨ b = i2 := by simpa using hb
      obtain ⟨f0, bb, r1, _⟩ := s1
      rcases e' with q | q | q | q | q <;> rw [q]
      · exact Heap.lt_size r1
      · exact Heap.lt_size s2
      · exact Heap.lt_size s3
      · obtain ⟨o, eo, _⟩ := Sk.tn_obj s4
        exact Heap.lt_size eo
      · obtain ⟨o, eo, _⟩ := Sk.tn_obj s5
        exact Heap.lt_size eo
    have up : ∀ b o, L ≠ b → h'.get? b = some o → (h'.update L (Obj.mapSeq (·.push (Value.ref s.heap.objs.size)))).get? b = some o := fun b o hb e => (Heap.get?_update_other _ _ hb).trans e
    refine wpAny_updateSeq (s := { s with heap := h', toks := tk }) eL rfl (wpAny_pure ⟨plainId_quiet PySem.F.plain_extend_loop _, ih (i + 1) _ _ (acc ++ [.ref s.heap.objs.size]) (by omega) (by omega) J (fun b hb => ?_) (fun b o e => ?_) (fun b ps e => ht b ps (tbl_upd (tbl_upd e))) upd_same (by rw [List.length_append, hl]; rfl) (fun j v e => ?_) ⟨?_, up _ _ (nLz _ (by simp)) (q7 _ _ (Ne.symm a1) c1 c2 c3 s2), ?_, ?_, ?_⟩⟩) (by rw [List.size_toArray, ← hlen]; omega) (by rw [Array.size_push, List.size_toArray, ← hlen]; omega)
    · obtain ⟨w1, w2⟩ := hf b hb
      exact ⟨by rw [upd_ne (Ne.symm (nLz b hb)), upd_ne (Nat.ne_of_lt (hlt b hb))]; exact w1, w2⟩
    · have h1 : b ≠ L := fun q => by rw [q, hL0] at e; cases e
      have h2 : b ≠ s.heap.objs.size := fun q => by
        have := hg b o e
        rw [q, fr] at this
        cases this
      rw [upd_ne h1, upd_ne h2]
      exact hg b o e
    · rcases Nat.lt_or_ge j acc.length with hj | hj
      · rw [List.getElem?_append_left hj] at e
        obtain ⟨T, x, y, p1, p2, p3, p4, p5, p6⟩ := hp j v e
        refine ⟨T, x, y, p1, p2, p3, ?_, p5, p6⟩
        rw [upd_ne p2, upd_ne (fun q => by rw [q, fr] at p4; cases p4)]
        exact p4
      · rw [List.getElem?_append_right hj] at e
        have hj0 : j - acc.length = 0 := by
          rcases Nat.eq_zero_or_pos (j - acc.length) with q | q
          · exact q
          · rw [List.getElem?_eq_none (by rw [List.length_singleton]; exact q)] at e
            cases e
        rw [hj0] at e
        cases e
        have hji : j = i := by omega
        subst hji
        refine ⟨_, x', y', rfl, Ne.symm hLT, ?_, ?_, ex, ey⟩
        · cases q : H0 s.heap.objs.size with
          | none => rfl
          | some o =>
            have := hg _ o q
            rw [fr] at this
            cases this
        · rw [upd_ne (Ne.symm hLT), upd_same]
    · obtain ⟨f0, bb, r1, r2⟩ := q1
      exact ⟨f0, bb, up _ _ (nLz _ (by simp)) r1, r2⟩
    · obtain ⟨r1, r2, r3⟩ := q2
      exact ⟨r1, r2, up _ _ (nLz _ (by simp)) r3⟩
    · exact Sk.tn_keep (d2 _ _ q3) fun o q => up _ _ (nLz _ (by simp)) q
    · exact Sk.tn_keep (f2 _ _ q4) fun o q => up _ _ (nLz _ (by simp)) q
def tLstZip (ta : TA) : TE := fun σ H Q => ta σ H fun vs H1 => ∃ k l xs ys, vs = [Sk.v k, Sk.v l] ∧ k.at H1 xs ∧ l.at H1 ys ∧ min xs.length ys.length ≤ sizeLine ∧
  ∀ p H' acc, H1 p = none → (∀ b o, H1 b = some o → H' b = some o) → (∀ b ps, H' b = some (.tbl ps) → H1 b = some (.tbl ps)) → H' p = some (.lst acc) → acc.length = min xs.length ys.length → PairsOf H1 H' p xs ys acc → Q (.ref p) H'
theorem pe_listZip {a b : Expr} {ta : TA} {p pos p2 pos2 : Pos} (hc : X.calm = true) (hg : Gl X "list") (hm : X.mg "list" = none) (hg2 : Gl X "zip") (hm2 : X.mg "zip" = none) (ha : PA X [a, b] ta)
    (hs : starEach [a, b] X.env = (false, eval a X.env) :: starEach [b] X.env := by rfl) (hpl : (backTo pos2 (starEach [b] X.env)).any (·.1) = false := by rfl)
    (na : starEach [.Call (.Name "zip" p2) [a, b] [] pos2] X.env = (false, eval (.Call (.Name "zip" p2) [a, b] [] pos2) X.env) :: starEach [] X.env := by rfl) :
    PE X (.Call (.Name "list" p) [.Call (.Name "zip" p2) [a, b] [] pos2] [] pos) (tLstZip ta) := by
  refine ⟨fun pins s σ H Q I h => ?_⟩
  refine Call_ (ld_blt I hg hm PyProof.Rows.boot_list (PyProof.Rows.callWith_type1 (args_cons (zip_made (R := fun k l (xs ys : List V) (H1 : Hp) => min xs.length ys.length ≤ sizeLine ∧ ∀ (p : Addr) (H' : Hp) (acc : List V), H1 p = none → (∀ b o, H1 b = some o → H' b = some o) → (∀ b ps, H' b = some (.tbl ps) → H1 b = some (.tbl ps)) → H' p = some (.lst acc) → acc.length = min xs.length ys.length → PairsOf H1 H' p xs ys acc → Q (.ref p) H') hg2 hm2 ha hs hpl I h fun N s1 k l t u xs ys H1 hz hTI hTO g1 g2 I1 hf hsz a1 a2 q => args_nil ?_) na) na))
  obtain ⟨hmin, q⟩ := q
  refine callType_codes (Q₁ := fun obj s₁ => obj = .ref s1.heap.objs.size ∧ s₁ = { s1 with heap := s1.heap.push { cls := .type "list", data := .seq #[] } }) PySem.F.called_list (PySem.F.typeCall_list_1 _) PySem.F.entry_list_init
    (code_list_new _ ⟨rfl, rfl⟩) fun obj s₁ h₁ => ?_
  obtain ⟨rfl, rfl⟩ := h₁
  have hS : (s1.heap.push { cls := .type "list", data := .seq #[] }).get? s1.heap.objs.size = some { cls := .type "list", data := .seq #[] } := Heap.get?_push_size _ rfl
  refine ⟨⟨_, hS, rfl⟩, PySem.F.args_list_init_2 _ _, ?_⟩
  have hne : s1.heap.objs.size ≠ N + 4 := by rw [hsz]; exact Nat.ne_of_gt (Nat.lt_succ_self _)
  have oth0 : ∀ b o, s1.heap.get? b = some o → (s1.heap.push { cls := .type "list", data := .seq #[] }).get? b = some o := fun b o e => Heap.get?_push_of_some _ e
  show wpAny _ X.A.in1.in1 (do let old ← Builtin.List.listItems (.ref s1.heap.objs.size); Builtin.List.listUpdate (.ref s1.heap.objs.size) (fun _ => #[]); letGo old.toList.reverse; Builtin.List.listExtendWith (.ref s1.heap.objs.size) (.ref (N + 4)) .none) _ _ _
  refine wpAny_bind ?_
  unfold Builtin.List.listItems
  refine wpAny_bind (wpAny_seqItems hS rfl (wpAny_pure ?_))
  show wpAny _ X.A.in1.in1 (updateSeq s1.heap.objs.size (fun _ => #[]) >>= fun _ => letGo (#[] : Array Value).toList.reverse >>= fun _ => Builtin.List.listExtendWith (.ref s1.heap.objs.size) (.ref (N + 4)) .none) _ _ _
  refine wpAny_bind (wpAny_updateSeq hS rfl ?_)
  have hS2 := Heap.get?_update_self (Obj.mapSeq (fun _ => (#[] : Array Value))) hS rfl
  have oth : ∀ (g : Heap) (f : Array Value → Array Value), (∀ b o, s1.heap.get? b = some o → g.get? b = some o) → ∀ b o, s1.heap.get? b = some o → (g.update s1.heap.objs.size (Obj.mapSeq f)).get? b = some o :=
    fun g f k b o e => (Heap.get?_update_other _ _ (Ne.symm (Nat.ne_of_lt (Heap.lt_size e)))).trans (k b o e)
  refine wpAny_bind (wpAny_letGo ?_)
  unfold Builtin.List.listExtendWith
  have o1 := oth _ (fun _ => #[]) oth0
  have tz : Shared.TypeIs { s1 with heap := (s1.heap.push { cls := .type "list", data := .seq #[] }).update s1.heap.objs.size (Obj.mapSeq (fun _ => #[])) } (.ref (N + 4)) "zip" := ⟨_, o1 _ _ hz, rfl⟩
  refine wpAny_bind (wpAny_typeOf tz ?_)
  have h1 : Builtin.List.listSameRef (.ref s1.heap.objs.size) (.ref (N + 4)) = false := by simp [Builtin.List.listSameRef, hne]
  have h2 : (Value.type "zip" == Value.type "list") = false := by decide
  have h3 : (Value.type "zip" == Value.type "tuple") = false := by decide
  simp only [h1, h2, h3, Bool.or_false, Bool.false_eq_true, if_false]
  refine wpAny_bind (wpAny_pyIter_zip (s := { s1 with heap := (s1.heap.push { cls := .type "list", data := .seq #[] }).update s1.heap.objs.size (Obj.mapSeq (fun _ => #[])) }) (o1 _ _ hz) ?_)
  refine wpAny_bind (wpAny_holding ?_)
  unfold Builtin.List.listLengthHint
  refine wpAny_bind (wpAny_specialOf tz PySem.F.zip_no_len ?_)
  show wpAny _ X.A.in1.in1 (specialOf (Value.ref (N + 4)) (Str.ofString "__length_hint__") >>= _) _ _ _
  refine wpAny_bind (wpAny_specialOf tz PySem.F.zip_no_hint ?_)
  refine wpAny_pure ?_
  show wpAny _ X.A.in1.in1 (rule "list.extend.makes-room" >>= fun _ => Builtin.List.listTouch (.ref s1.heap.objs.size) >>= fun _ =>
    again (.builtin "list.extend.loop" ⟨[.ref s1.heap.objs.size, .ref (N + 4), .none], []⟩)) _ _ _
  refine wpAny_bind (wpAny_rule ?_)
  refine wpAny_bind ?_
  show wpAny _ X.A.in1.in1 (updateSeq s1.heap.objs.size (·.push .none) >>= fun _ => updateSeq s1.heap.objs.size (·.pop)) _ _ _
  refine wpAny_bind (wpAny_updateSeq hS2 rfl ?_)
  have hS3 := Heap.get?_update_self (Obj.mapSeq (·.push Value.none)) hS2 rfl
  refine wpAny_updateSeq (hz := by seq_fits) hS3 rfl ?_
  have hS4 := Heap.get?_update_self (Obj.mapSeq (·.pop)) hS3 rfl
  have o3 := oth _ (·.pop) (oth _ (·.push Value.none) o1)
  have fr : H1 s1.heap.objs.size = none := I1.hok.fresh (Nat.le_refl _)
  have nd := nodup_off N [4, 2, 3, 0, 1] (by decide)
  refine wpAny_pure ⟨plainId_quiet PySem.F.plain_extend_loop _, loopZ (A := X.A.in1) (H0 := H1) (t := t) (u := u) (show X.A.in1.handled = none from I1.ok.hd hc) nd hmin fr a1 a2 (fun s' H' acc' J g tt hl hn hp => ?_) (min xs.length ys.length) 0 _ (upd H1 s1.heap.objs.size (.lst [])) [] (Nat.sub_zero _) (Nat.zero_le _)
    (I1.laid (t' := s1.toks) o3 (Nat.le_refl _) (show ObjOk X.prog X.w _ _ _ (.lst []) from ⟨Nat.zero_le _, [], _, .nil, hS4⟩)) (fun b hb => ?_) (fun b o e => ?_) (fun b ps e => tbl_upd e) upd_same rfl (fun j v e => by simp at e) ⟨⟨_, _, o3 _ _ hz, .inl rfl⟩, o3 _ _ hTI, ⟨_, _, o3 _ _ hTO⟩, Sk.tn_keep g1 fun o x => o3 _ _ x, Sk.tn_keep g2 fun o x => o3 _ _ x⟩⟩
  · exact ⟨rfl, .ref s1.heap.objs.size, H', J, rfl, q _ H' acc' fr g tt hl hn hp⟩
  · obtain ⟨w1, w2⟩ := hf b hb
    refine ⟨?_, w2⟩
    rw [upd_ne fun e => ?_]
    · exact w1
    · have e' : b = N + 4 ∨ b = N + 2 ∨ b = N + 3 ∨ b = N ∨ b = N + 1 := by simpa using hb
      rw [e, hsz] at e'
      revert e'
      have z : ∀ j : Nat, j < 5 → (N + 5 : Nat) ≠ N + j := fun j hj e => absurd (Nat.add_left_cancel e) (Nat.ne_of_gt hj)
      rintro (e' | e' | e' | e' | e')
      · exact z 4 (by decide) e'
      · exact z 2 (by decide) e'
      · exact z 3 (by decide) e'
      · exact z 0 (by decide) e'
      · exact z 1 (by decide) e'
  · rw [upd_ne fun q => by rw [q, fr] at e; cases e]
    exact e
end
end L2
namespace Pd
variable {ℓ : Bool}
open PySem L2
theorem grow {K : PySem.W.Frag} {g : Gh} {H H' : Hp} {n : Nat} (ok : Ok ℓ K g H n) (N : Addr → Prop) (hN : ∀ a, N a → H a = none) (k : ∀ b o, H b = some o → H' b = some o) (kt : ∀ b ps, H' b = some (.tbl ps) → H b = some (.tbl ps)) :
    ∃ g' : Gh, (∀ a, N a → g'.G a = H' a) ∧ Stp g H g' H' ∧ Ok ℓ K g' H' n := by
  classical
  have old : ∀ a, H a ≠ none → ¬ N a := fun a h z => h (hN a z)
  have ex : Ext g ⟨fun a => if N a then H' a else g.G a, g.pot, g.cel⟩ := ⟨fun a o e => by
    show (if N a then H' a else g.G a) = some o
    rw [if_neg (old a (by rw [ok.sub a o e]; exact Option.some_ne_none o))]
    exact e, fun a z => z, [], (List.append_nil _).symm, fun _ _ h => by cases h⟩
  refine ⟨⟨fun a => if N a then H' a else g.G a, g.pot, g.cel⟩, fun a h => if_pos h, ⟨ex, fun a h e => ?_, fun a _ z => z, fun a o e _ => k a o e, fun a h => ?_⟩, ⟨fun a o e => ?_, fun a z => ?_, ok.t.at kt fun a u e _ => k a u e, ok.cel.step ex fun a C m => by
    obtain ⟨_, _, od, o, e, _⟩ := ok.cel.mem m
    rw [e, k a o e]⟩⟩
  · show (if N a then H' a else g.G a) = none
    rw [if_neg (old a h)]
    exact e
  · obtain ⟨o, e⟩ := Option.ne_none_iff_exists'.mp h
    rw [k a o e]
    exact Option.some_ne_none o
  · have e' : (if N a then H' a else g.G a) = some o := e
    split at e'
    · exact e'
    · exact k a o (ok.sub a o e')
  · obtain ⟨h1, w⟩ := ok.pot a z
    have ea : H a ≠ none := fun e => ok.npot e z
    refine ⟨?_, w.imp id fun ⟨x, y, w, e, r⟩ => ⟨x, y, w, k a _ e, r⟩⟩
    show (if N a then H' a else g.G a) = none
    rw [if_neg (old a ea)]
    exact h1
theorem dens_of {K : PySem.W.Frag} {g : Gh} : ∀ {vs : List V} {ds : List D}, vs.length = ds.length → (∀ (j : Nat) (v : V) (d : D), vs[j]? = some v → ds[j]? = some d → Den K g v d) → Dens K g vs ds
  | [], [], _, _ => .nil
  | [], _ :: _, h, _ => by simp at h
  | _ :: _, [], h, _ => by simp at h
  | v :: vs, d :: ds, h, f => .cons (f 0 v d rfl rfl) (dens_of (by simpa using h) fun j a b h1 h2 => f (j + 1) a b (by simpa using h1) (by simpa using h2))
def dLZp (d e : DE) : DE := fun n ε P => d n ε fun n1 x => e n1 ε fun n2 y => ∃ xs ys, srcD x = some xs ∧ srcD y = some ys ∧ min xs.length ys.length ≤ 16777216 ∧ P n2 (.lst (zipD xs ys))
section
variable {X : Cx} {pos p p2 pos2 : Pos} {a b : Expr} {da db : DE}
theorem de_lzp (hc : X.calm = true) (hg : Gl X "list") (hm : X.mg "list" = none) (hg2 : Gl X "zip") (hm2 : X.mg "zip" = none) (ha : PE X a (liftE ℓ X.K da)) (hb : PE X b (liftE ℓ X.K db)) (hs : starEach [a, b] X.env = (false, eval a X.env) :: starEach [b] X.env := by rfl) (hs2 : starEach [b] X.env = (false, eval b X.env) :: starEach [] X.env := by rfl)
    (hpl : (backTo pos2 (starEach [b] X.env)).any (·.1) = false := by rfl)
    (na : starEach [.Call (.Name "zip" p2) [a, b] [] pos2] X.env = (false, eval (.Call (.Name "zip" p2) [a, b] [] pos2) X.env) :: starEach [] X.env := by rfl) :
    PE X (.Call (.Name "list" p) [.Call (.Name "zip" p2) [a, b] [] pos2] [] pos) (liftE ℓ X.K (dLZp da db)) :=
  de_of (pe_listZip hc hg hm hg2 hm2 (pa_cons ha (pa_cons hb pa_nil hs2) hs) hs hpl na) fun O g H n σ ε P Q r q k => two_ok r q fun x y g' H' n' dx dy q2 s o e1 e2 => by
    obtain ⟨xs, ys, z1, z2, z3, q3⟩ := q2
    obtain ⟨k1, vs, rfl, a1, d1⟩ := den_src e1 z1
    obtain ⟨k2, ws, rfl, a2, d2⟩ := den_src e2 z2
    have l1 := d1.length
    have l2 := d2.length
    refine ⟨k1, k2, vs, ws, rfl, a1 _ o.sub, a2 _ o.sub, by rw [l1, l2]; exact sz z3, fun p H2 acc hp kp kt hl hn hpr => ?_⟩
    obtain ⟨g2, n2, s2, o2⟩ := grow o (fun a => H' a = none) (fun a h => h) kp kt
    refine k _ g2 H2 n' _ q3 (s.trans s2) o2 (.lst (vs := acc) (by rw [n2 p hp]; exact hl) (dens_of (by rw [hn, zipD_length, l1, l2]) fun j v d h1 h2 => ?_))
    obtain ⟨T, x, y, rfl, _, t2, t3, t4, t5⟩ := hpr j v h1
    obtain ⟨d, w1, w2⟩ := d1.getV t4
    obtain ⟨d', w3, w4⟩ := d2.getV t5
    rw [zipD_get w1 w3] at h2
    cases h2
    exact .tup (.inl (by rw [n2 T t2]; exact t3)) (.cons (w2.mono s2.ext) (.cons (w4.mono s2.ext) .nil))
end
end Pd
namespace L2
open PySem PySem.Spec PyProof.Rows
end L2
namespace Pd
variable {ℓ : Bool}
open PySem L2 PyProof.Rows
variable {W : WX}
section
variable {P : Program} {w : World} {K : PySem.W.Frag} {mg : Str → Option Value} {base : Heap} {k : Nat} {f : Addr} {ps : List Str} {x qual : Str} {params : Arguments} {body : List Stmt} {scope : Scope} {N : List Str} {b : DS} {sp : FD} {dvs : List V} {dd : List D}
theorem has_fD (D : ∃ fd, FunD K x qual params body scope dvs [] f fd) (S : FnScope N ps scope) (n j : Nat) (hd : dvs ≠ []) (hn : n + (dvs.length - j) = ps.length)
    (hbind : ∀ (T : Addr) (kV doc pm : Value) (an : Option Addr) (cdv ct : Value) (us its : List Value), us.length = n → its.length = dvs.length →
      ∃ k, bindArgs (PySem.W.fnOf x qual params body scope (.ref T) kV doc pm an cdv ct) ⟨us, []⟩ = seqItems? (.ref T) >>= k ∧ k (some its.toArray) = pure (ps.zip (us ++ its.drop j)))
    (hdd : ∀ g, Dens K g (dvs.drop j) dd)
    (hb : ∀ (fd : FuncData) (cdv : Value) (A : Around) (outer : List Env) (s : Shared) (H : Hp) (E : XK), Room k (A.deeper (PyProof.Rows.envOfC qual scope s.heap.objs.size f cdv)) → PSs (cxOf CX0 P w K mg base N qual scope f cdv A outer s H E).nox body (liftS ℓ W0 K b))
    (hs : ∀ ds n Q, sp ds n Q → dFn N.length ps.length b ds n Q) : HasF ℓ P w K mg base (k + 1) f ps dd sp := by
  obtain ⟨fd, F⟩ := D
  obtain ⟨ds, hv, hB⟩ := F.binds1 n j hd hn hbind
  exact ⟨fd, _, ds, fn_ok F S (fun cdv A outer s H E hr => hb fd cdv A outer s H E hr) hs, F.kp, hB, hv, hdd⟩
end
def gIsB : G2 := fun x y P => match x, y with
  | .bl a, .bl b => P (.bl (decide (a = b)))
  | _, _ => False
def gIsNotB : G2 := fun x y P => match x, y with
  | .bl a, .bl b => P (.bl (!decide (a = b)))
  | _, _ => False
end Pd
namespace L2
open PySem PySem.Spec PyProof.Rows HT
end L2
namespace Pd
open PySem L2
end Pd
namespace Pd
open PySem L2
end Pd
namespace L2
open PySem PySem.Spec PyProof.Rows HT
abbrev sNew (w : World) : Obj := { cls := .type "set", dict := none, data := .set #[] 0 (.fresh 0 0 (!w.params.followText "set-order")) }
section
variable {P : Program} {w : World} {A : Around} {E : Value → Shared → Prop} {s : Shared}
def SetLeft (w : World) (s : Shared) (ks : List Int) (h2 : Heap) (c : Nat) : Prop :=
  SetR w h2 s.heap.objs.size (fun j => decide (j ∈ ks)) c ∧ c ≤ ks.length ∧ ∀ b o, s.heap.get? b = some o → h2.get? b = some o
theorem set_of_list {p : Addr} {us : Array Value} (ks : List Int) {Q : Value → Shared → Prop} (nh : A.handled = none) (isL : s.heap.IsList p us) (are : IntsAre us.toList ks) (room : ks.length + 1 < scanBound)
    (fin : ∀ (h2 : Heap) (tk c : Nat), SetLeft w s ks h2 c → Q (.ref s.heap.objs.size) { s with heap := h2, toks := tk }) : wpAny (model P w) A (call (.type "set") [.ref p]) Q E s := by
  have us_len : us.size = ks.length := by simpa using IntsAre.length are
  obtain ⟨cc, tl, line⟩ := F.called_set.mro
  have f1 := F.called_set.made
  have f2 := F.called_set.sub
  apply wpAny_call
  apply codeAny_of_tree
  show wpAny _ _ (callAny (.type "set") _) _ _ _
  apply wpAny_pure
  refine ⟨Code.quiet_builtin _ (by decide +kernel), codeAny_builtin F.entry_type_call ?_⟩
  rw [Around.under_plain (weight_type_call_type "set" [.ref p] []) rfl]
  have f3 := F.called_set.notType
  have f4 := F.called_set.canCreate
  have f5 := F.typeCall_set_1 (.ref p)
  repeat (any_goals (first | assumption | wp_step))
  refine codeAny_mono (code_set_led1 (.ref p) (E := E) (Q₁ := fun v z => v = .ref s.heap.objs.size ∧ z = { s with heap := s.heap.push (sNew w) }) ⟨rfl, rfl⟩) fun r z hr => ?_
  rcases r with e | fl
  · exact hr
  cases fl with
  | ret v =>
    obtain ⟨rfl, rfl⟩ := hr
    have at1 : (s.heap.push (sNew w)).get? s.heap.objs.size = some (sNew w) := Heap.get?_push_size _ rfl
    have isSet : Shared.TypeIs { s with heap := s.heap.push (sNew w) } (.ref s.heap.objs.size) "set" := ⟨_, at1, rfl⟩
    have g1 := F.called_set.init.lookup
    have g2 := F.called_set.init.bind (.ref s.heap.objs.size)
    repeat (any_goals (first | assumption | wp_step))
    refine codeAny_mono (codeAny_call_builtin (R := wants (fun v z => v = .none ∧ ∃ h2 tk c, z = { s with heap := h2, toks := tk } ∧ SetLeft w s ks h2 c) E) F.called_set.init.plain F.entry_set_init (check_set_init_1 isSet ?_)) fun r2 z2 hr2 => ?_
    · obtain ⟨⟨lc, ld, lt, ls⟩, lat, lcl, ln, ldt⟩ := isL
      simp only at lcl ldt
      subst lcl ldt
      have lat1 : (s.heap.push (sNew w)).get? p = some { cls := .type "list", dict := ld, data := .seq us ln, slots := ls } := Heap.get?_push_of_some _ lat
      have k1 := F.sub_list_set
      have k2 := F.sub_list_frozenset
      have k3 : (Value.type "list" == Value.type "dict") = false := by decide
      have isL1 : (s.heap.push (sNew w)).IsList p us := ⟨_, lat1, rfl, ln, rfl⟩
      unfold Builtin.«set.__init__» noKeywords Builtin.Frozenset.updateFrom
      generalize hit : pyIter = it
      wp_walk
      subst hit
      refine wpAny_pyIter_list isL1 (wpAny_bind (wpAny_runValue ?_))
      have plt : p < s.heap.objs.size := Heap.lt_size lat
      have sz1 : (s.heap.push (sNew w)).objs.size = s.heap.objs.size + 1 := Heap.size_push ..
      have pne : p ≠ (s.heap.push (sNew w)).objs.size := by rw [sz1]; exact Nat.ne_of_lt (Nat.lt_succ_of_lt plt)
      have apart : s.heap.objs.size ∉ [(s.heap.push (sNew w)).objs.size, p] := by
        rw [sz1]
        simp only [List.mem_cons, List.not_mem_nil, or_false, not_or]
        exact ⟨Nat.ne_of_lt (Nat.lt_succ_self _), Nat.ne_of_gt plt⟩
      have vals : ∀ (i : Nat) (v : Value), us[i]? = some v → ∃ k t, ks[i]? = some k ∧ v = .int k t := fun i v hv => by
        obtain ⟨il, _⟩ := Array.getElem?_eq_some_iff.mp hv
        have ik : i < ks.length := by omega
        obtain ⟨t, e⟩ := IntsAre.int_at are i v (by simpa using hv)
        exact ⟨ks[i], t, List.getElem?_eq_getElem ik, by rw [e, List.getD_eq_getElem?_getD, List.getElem?_eq_getElem ik]; rfl⟩
      refine set_update_ints ((Walks.list (by simp [nh]) _ p pne us).toS) s.heap.objs.size apart ks us_len room vals (us.size - 0) 0 _ (by omega) (Nat.zero_le _) ⟨⟨_, Heap.get?_push_size _ rfl, rfl, rfl⟩, isL1.push _⟩ ?begin ?close
      case begin => exact ⟨0, Nat.le_refl 0, setR_new_at (Heap.get?_push_of_some _ at1)⟩
      case close =>
        intro z c mv cle R
        rw [us_len] at cle
        obtain ⟨h2, z1, z2, tk, z3⟩ := z
        have e1 : z1 = s.gens := mv.gens
        have e2 : z2 = s.drawn := mv.drawn
        have e3 : z3 = s.os := mv.os
        subst e1 e2 e3
        show wpAny _ _ _ _ _ _
        apply wpAny_pure
        show wpAny _ _ (ret Value.none) _ _ _
        apply wpAny_pure
        refine ⟨rfl, h2, tk, c, rfl, R, cle, fun b o hb => ?_⟩
        have blt := Heap.lt_size hb
        refine mv.heap b o ?_ (Heap.get?_push_of_some _ (Heap.get?_push_of_some _ hb))
        rw [sz1]
        simp only [List.mem_cons, List.not_mem_nil, or_false, not_or]
        exact ⟨Nat.ne_of_lt blt, Nat.ne_of_lt (Nat.lt_succ_of_lt blt)⟩
    · rcases r2 with e | fl2
      · exact hr2
      cases fl2 with
      | ret v =>
        obtain ⟨rfl, h2, tk, c, rfl, left⟩ := hr2
        repeat (any_goals (first | assumption | wp_step))
        exact fin _ _ _ left
      | _ => exact hr2.elim
  | _ => exact hr.elim
end
section
variable {X : Cx}
def rSetOfI (K : PySem.W.Frag) (w : World) : List V → Hp → VK → Prop := fun xs H Q => ∃ (p : Addr) (ks : List Int), xs = [.ref p] ∧ SqL K H p (ks.map V.int) ∧ ks.length ≤ 1000 ∧
  ∀ a c, H a = none → c ≤ ks.length → Q (.ref a) (upd H a (SetO w a (fun j => decide (j ∈ ks)) c))
theorem cr_setOfI (hc : X.calm = true) : CallR X (.type "set") (rSetOfI X.K X.w) := by
  intro pins s σ H xs us Q I r h
  obtain ⟨p, ks, rfl, hq, hl, q⟩ := h
  obtain ⟨u, rfl, rx⟩ := vals1 r
  cases rx
  obtain ⟨its, rv, pl, hz⟩ := I.list hq
  have hi : IntsAre its.toArray.toList ks := ints_of_vals rv
  refine set_of_list ks (I.ok.hd hc) pl.isList hi (by unfold scanBound; omega) fun h2 tk c left => ?_
  obtain ⟨R, cle, kept⟩ := left
  have I1 : Inv X pins σ H { s with heap := h2, toks := tk } := I.kept kept
  exact ⟨.ref s.heap.objs.size, _, I.laid (t' := tk) kept (Nat.le_refl _) (setO_new R), rfl, q _ _ (I.hok.fresh (Nat.le_refl _)) cle⟩
end
end L2
namespace Pd
variable {ℓ : Bool}
open PySem L2
theorem bt_set : bootBuiltins "set" = some (.type "set") := by decide +kernel
theorem bt_sorted : bootBuiltins "sorted" = some (.builtin "sorted") := by decide +kernel
def dSrtSet (d : DE) : DE := fun n ε P => d n ε fun n1 x => match x with
  | .lst xs => ∃ ns, isInts xs = some ns ∧ ns.length < 64 ∧ ∀ ms : List Int, ms.Pairwise (· < ·) → (∀ k, k ∈ ms ↔ k ∈ ns) → P n1 (.lst (ms.map D.int))
  | _ => False
theorem dens_ints2 {K : PySem.W.Frag} {g : Gh} : ∀ ns : List Int, Dens K g (ns.map V.int) (ns.map D.int)
  | [] => .nil
  | n :: ns => .cons (.int n) (dens_ints2 ns)
section
variable {X : Cx} {pos p p2 q2 : Pos} {a : Expr} {da : DE}
theorem de_srtSet (hc : X.calm = true) (hg : Gl X "sorted") (hm : X.mg "sorted" = none) (hg2 : Gl X "set") (hm2 : X.mg "set" = none) (ha : PE X a (liftE ℓ X.K da))
    (na : starEach [a] X.env = (false, eval a X.env) :: starEach [] X.env := by rfl)
    (nb : starEach [.Call (.Name "set" p2) [a] [] q2] X.env = (false, eval (.Call (.Name "set" p2) [a] [] q2) X.env) :: starEach [] X.env := by rfl) :
    PE X (.Call (.Name "sorted" p) [.Call (.Name "set" p2) [a] [] q2] [] pos) (liftE ℓ X.K (dSrtSet da)) :=
  de_of (pe_callB (cr_sortedSet hc) hg hm bt_sorted (pa_cons (pe_callTy (cr_setOfI hc) hg2 hm2 bt_set (pa_cons ha pa_nil na) (by decide) (by decide) na) pa_nil nb) (by decide) (by decide) nb) fun O g H n σ ε P Q r q k => ⟨O, g, n, ε, _, r, q, fun v g1 H1 n1 x q1 s1 o1 e1 => by
    cases e1 with
    | lst h1 h2 =>
      obtain ⟨ns, z1, z2, z3⟩ := q1
      have ez := isInts_map z1
      subst ez
      have ev := h2.ints
      subst ev
      refine ⟨_, ns, rfl, SqL.of (o1.sub _ _ h1), by omega, fun a c hfa hc => ⟨a, _, c, rfl, upd_same, by omega, fun ms p pw mem len hp => ?_⟩⟩
      obtain ⟨a1, a2, a3, a4⟩ := new_own o1 hfa (SetO X.w a (fun j => decide (j ∈ ns)) c)
      exact (Fin.of k (s1.trans a1)).newL a2 (z3 ms pw fun j => (mem j).trans decide_eq_true_iff) (dens_ints2 ms) hp
    | _ => exact q1.elim⟩
end
end Pd
namespace Pd
variable {ℓ : Bool}
open PySem L2
variable {W : WX}
mutual
def D.still : D → Bool
  | .non => true
  | .bl _ => true
  | .int _ => true
  | .str _ => true
  | .tup xs => D.stills xs
  | .tupK xs => D.stills xs
  | .tupF xs => D.stills xs
  | .pot => true
  | .cel _ _ => false
  | .ref _ => true
  | .err _ d => d.still
  | _ => false
def D.stills : List D → Bool
  | [] => true
  | x :: xs => x.still && D.stills xs
end
section
variable {X : Cx} {C : Addr} {pos pos' : Pos} {o e : Expr} {d : DE} {i : Nat} {f : Str}
def dTmq (i : Nat) (d : DE) : DE := fun n ε P => d n (frzE ε i) fun n' r => r.still = true ∧ P n' r
def dFldO (C : Addr) (i : Nat) (f : Str) : DE := fun n ε P => match ε[i]? with
  | some (.own (.ins C' fs)) => C' = C ∧ ∃ y, fs.lookup f = some y ∧ P n y
  | _ => False
end
abbrev DQ := Nat → Ev → (Nat → List (Str × D) → Prop) → Prop
def qMake (fi : FI) (dd : List D) (t : DA) : DQ := fun n ε P => t n ε fun n1 ds => fi (ds ++ dd) n1 P
section
variable {X : Cx} {C : Addr} {pos : Pos} {x : Str} {p : Pos} {e : Expr} {es : List Expr} {t : DA} {k : Nat} {ps : List Str} {dd : List D} {fi : FI} {dvs : List V} {E : XK}
def dSetQ (C : Addr) (i : Nat) (d : DQ) : DS := fun N n ε => N.slf ≠ some C ∧ d n ε fun n1 fs => N.nx n1 (ε.set i (.own (.ins C fs)))
variable {q : DQ} {i : Nat} {y : Str} {pos' : Pos} {a : Expr}
def dParQ (C : Addr) (i j : Nat) (q : DQ) (d : DE) : DS := fun N n ε => N.slf ≠ some C ∧ q n ε fun n1 fs => d n1 ε fun n2 y => N.nx n2 ((ε.set i (.own (.ins C fs))).set j (.val y))
end
abbrev FM := List (Str × D) → List D → Nat → (Nat → List (Str × D) → Prop) → Prop
def dMut (C : Addr) (i : Nat) (m : Str) (sp : FM) (dd : List D) (t : DA) : DS := fun N n ε => match ε[i]? with
  | some (.own (.ins C' fs)) => C' = C ∧ fs.lookup m = none ∧ t n ε fun n1 ds => sp fs (ds ++ dd) n1 fun n2 fs' => N.nx n2 (ε.set i (.own (.ins C fs')))
  | _ => False
end Pd
namespace Pd
open PySem L2
end Pd
namespace Pd
open PySem L2
end Pd
namespace Pd
variable {ℓ : Bool}
open PySem L2
variable {W : WX}
def rsz (i j c : Int) : Nat := (if i < j then (j - i - 1) / c + 1 else 0).toNat
theorem rsz_eq {i j c : Int} (hc : 0 < c) : Builtin.Range.rangeSize i j c = (rsz i j c : Nat) := by
  unfold Builtin.Range.rangeSize rsz
  rw [if_pos (by omega)]
  split
  · have := Int.ediv_nonneg (a := j - i - 1) (b := c) (by omega) (by omega)
    omega
  · rfl
theorem RgC.pos {i j c : Int} (hc : 0 < c) (hc' : c < 1073741824) (ha : -(2 ^ 60) ≤ i) (ha' : i < 2 ^ 60) (hb : -(2 ^ 60) ≤ j) (hb' : j < 2 ^ 60) : RgC i j c (rsz i j c) := by
  refine ⟨by omega, by omega, ?_, rsz_eq hc⟩
  have h1 : Builtin.Range.rangeSize i j c ≤ 2 ^ 62 ∧ 0 ≤ Builtin.Range.rangeSize i j c := by
    unfold Builtin.Range.rangeSize
    rw [if_pos (by omega)]
    split
    · have h1 := Int.ediv_le_self c (show (0 : Int) ≤ j - i - 1 by omega)
      have h2 := Int.ediv_nonneg (a := j - i - 1) (b := c) (by omega) (by omega)
      omega
    · omega
  unfold Builtin.Range.small
  simp only [Builtin.Range.rangeFitsLong, Bool.and_eq_true, Bool.or_eq_true, decide_eq_true_eq, beq_iff_eq, if_pos (show c > 0 from hc)]
  omega
end Pd
namespace Pd
open PySem L2
end Pd
namespace L2
open PySem PySem.Spec PyProof.Rows HT
def keyS (e : Int × Value) : Str := match e.2 with | .str k _ => k | _ => ⟨#[]⟩
def GoodT (w : World) (e : Int × Value) : Prop := ∃ k tk, e.2 = Value.str k tk ∧ e.1 = hashStr w k
def SetT (w : World) (h : Heap) (a : Addr) (S : Str → Bool) (n : Nat) : Prop :=
  ∃ o es ep t, h.get? a = some o ∧ o.ExactSet ∧ o.data = .set es ep t ∧ (∀ e ∈ es.toList, GoodT w e) ∧ (es.toList.map keyS).Nodup ∧ (∀ k, S k = true ↔ k ∈ es.toList.map keyS) ∧
    es.size < scanBound ∧ t.fits es.size = true ∧ es.size = n ∧ Ris t.place.toList ∧ (w.params.followText "set-order" = true ∨ t.led = true)
section
variable {P : Program} {w : World} {h h' : Heap} {a : Addr} {S : Str → Bool} {n : Nat}
theorem SetT.at (R : SetT w h a S n) (k : ∀ o, h.get? a = some o → h'.get? a = some o) : SetT w h' a S n := by
  obtain ⟨o, es, ep, t, ho, r⟩ := R
  exact ⟨o, es, ep, t, k o ho, r⟩
end
end L2
namespace L2
open PySem PySem.Spec PyProof.Rows HT
end L2
namespace Pd
open PySem L2
end Pd
namespace L2
open PySem PySem.Spec PyProof.Rows HT
end L2
namespace Pd
open PySem L2
end Pd
namespace L2
open PySem PySem.Spec PyProof.Rows HT
end L2
namespace Pd
open PySem L2
end Pd
namespace Pd
open PySem L2
end Pd
namespace L2
open PySem PySem.Spec PyProof.Rows HT
end L2
namespace L2
open PySem PySem.Spec PyProof.Rows HT
end L2
namespace Pd
open PySem L2
end Pd
namespace Pd
variable {ℓ : Bool}
open PySem L2
def rOwn (C : Addr) (ng : Bool) (sp : Sp) : R2 := fun x y H Q => ∃ a b dx dy fs gs, x = .ref a ∧ y = .ref b ∧ H a = some (.ins C dx fs) ∧ H b = some (.ins C dy gs) ∧ sp [.ref a, .ref b] H (fun v H' => ∃ k, v = .bl k ∧ Q (.bl (k != ng)) H') E0
section
variable {X : Cx} {n : Nat} {C f : Addr} {fd : FuncData} {ps : List Str} {sp : Sp} {pins : List (Addr × Obj)} {σ : L2.St} {H : Hp} {s : Shared} {a b : Addr}
theorem own_called (F : FnOk X.prog X.w X.K X.mg X.base CX0 n f fd ps sp) (hb : Binds X.K fd ps []) {A : Around} (hr : Room n A) (hfr : A.frames = X.A.frames) (I : Inv X pins σ H s) {Q : Bool → Hp → Prop}
    (q : sp [.ref a, .ref b] H (fun v H' => ∃ k, v = .bl k ∧ Q k H') E0) {E : Value → Shared → Prop} :
    wpAny (model X.prog X.w) A (call (.ref f) [.ref a, .ref b]) (fun r s' => ∃ k H', r = .bool k ∧ Inv X pins σ H' s' ∧ Q k H') E s := by
  have hl := F.len _ _ _ _ q
  have hbt := hb s [.ref a, .ref b] I.kIn (by simpa using hl)
  have e := I.env0
  have e0 : Env0 X.prog X.w X.K X.mg X.base A X.stack s H := ⟨hfr.trans e.frames, e.mod, e.bs, e.bsz, e.funs, e.frf, e.hok, e.bare⟩
  refine wpAny_call (codeAny_mono (F.run A X.stack s H ⟨[.ref a, .ref b], []⟩ [.ref a, .ref b] [.ref a, .ref b] _ _ hr e0 (by simpa using hbt) (.cons rfl (.cons rfl .nil)) q) fun r s' z => ?_)
  cases r with
  | error er =>
    have z' : CX0 X.stack H s E0 er s' := z
    exact z'.elim
  | ok fl =>
    cases fl with
    | ret w =>
      obtain ⟨v, H', I', rv, k, ek, qk⟩ := I.after z
      subst ek
      cases rv
      exact ⟨k, H', rfl, I', qk⟩
    | next => exact False.elim z
    | brk => exact False.elim z
    | cont => exact False.elim z
theorem ins_both (I : Inv X pins σ H s) {dx dy : Addr} {fs gs : List (Str × V)} (ha : H a = some (.ins C dx fs)) (hb : H b = some (.ins C dy gs)) :
    ∃ ox od oy od', PySem.W.InstAt s.heap a ox C od ∧ PySem.W.InstAt s.heap b oy C od' := by
  obtain ⟨_, J, _⟩ := ins_get I.hok ha
  obtain ⟨_, J', _⟩ := ins_get I.hok hb
  obtain ⟨od, J, _⟩ := J.look
  obtain ⟨od', J', _⟩ := J'.look
  exact ⟨_, _, _, _, J, J'⟩
theorem ne_slot : Slot "object" "__ne__" "object.__ne__" := PySem.F.cmp_object.ne
theorem ne_body {K : PySem.W.Frag} {A : Around} {ox : Obj} {od : Option Obj} {Q : PySem.Fin → Shared → Prop} {E : Value → Shared → Prop} (hu : A.units < cLine) (KX : K.In s.heap) (J : PySem.W.InstAt s.heap a ox C od) (hs : PySem.W.findIn K (.ref C) "__eq__" = some (some (.ref f))) (hf : PySem.W.isFn K (.ref f) = true)
    (h : wpAny (model X.prog X.w) A (call (.ref f) [.ref a, .ref b]) (fun r s' => ∃ k, r = .bool k ∧ Q (.done (.ret (.bool (!k)))) s') E s) :
    wpAny (model X.prog X.w) A (Builtin.«object.__ne__» ⟨[.ref a, .ref b], []⟩) Q E s := by
  unfold Builtin.«object.__ne__»
  refine wpAny_bind (wpAny_of_eq (a := ((Value.ref a : Value), [Value.ref b])) (by first | rfl | (simp only [slotArgs]; rfl)) ?_)
  refine wpAny_bind (wpAny_cRoomFor hu (wpAny_bind (PySem.W.ifBound_K KX J hs hf (wpAny_mono h (fun r s' z => ?_) fun _ _ z => z))))
  obtain ⟨k, rfl, q⟩ := z
  exact wpAny_bind (wpAny_of_eq (a := k) (by cases k <;> rfl) (wpAny_pure q))
theorem ne_try {K : PySem.W.Frag} {A : Around} {ox : Obj} {od : Option Obj} {Q : Option Value → Shared → Prop} {E : Value → Shared → Prop} (hu : A.units + 1 < cLine) (KX : K.In s.heap) (J : PySem.W.InstAt s.heap a ox C od)
    (hne : PySem.W.findIn K (.ref C) "__ne__" = some (some (.builtin "object.__ne__"))) (hob : PySem.W.mroIn K C (.type "object") = some true) (hs : PySem.W.findIn K (.ref C) "__eq__" = some (some (.ref f))) (hf : PySem.W.isFn K (.ref f) = true)
    (h : wpAny (model X.prog X.w) A.in1 (call (.ref f) [.ref a, .ref b]) (fun r s' => ∃ k, r = .bool k ∧ Q (some (.bool (!k))) s') E s) :
    wpAny (model X.prog X.w) A (callSpecialIfBound? (.ref a) "__ne__" [.ref b]) Q E s := by
  have run : wpAny (model X.prog X.w) A (call (.builtin "object.__ne__") ([.ref a] ++ [.ref b])) (fun v s' => Q (some v) s') E s := by
    refine wpAny_call (codeAny_call_builtin ne_slot.plain PySem.F.cmpEntry_ne (PySem.W.check_slot PySem.F.cmpKind_ne PySem.F.cmpSplit_ne (J.type.andThen (PySem.W.looks_mroIn KX hob)) (PySem.F.cmpArgs_ne _ _) ?_))
    exact ne_body (X := X) (A := A.in1) hu KX J hs hf (wpAny_mono h (fun r s' ⟨k, e, q⟩ => ⟨k, e, q⟩) fun _ _ z => z)
  have fin : wpAny (model X.prog X.w) A (call (.builtin "object.__ne__") ([.ref a] ++ [.ref b]) >>= fun v => pure (some v)) Q E s := wpAny_bind (wpAny_mono run (fun v s' z => wpAny_pure z) fun _ _ z => z)
  simp only [callSpecialIfBound?, bindSpecialIfBound?]
  refine wpAny_holding (wpAny_bind (wpAny_bind (wpAny_bind (J.type.here ((PySem.W.looks_findIn KX hne).here (by
    simp only [ne_slot.bind]
    refine wpAny_bind (wpAny_askSetting (wpAny_ite ?_))
    split
    · exact wpAny_bind (wpAny_pure (wpAny_pure fin))
    · exact wpAny_tryCatch (wpAny_bind (wpAny_pure (wpAny_pure fin)))))))))
theorem op_own_ne (F : FnOk X.prog X.w X.K X.mg X.base CX0 n f fd ps sp) (hs : PySem.W.findIn X.K (.ref C) "__eq__" = some (some (.ref f))) (hne : PySem.W.findIn X.K (.ref C) "__ne__" = some (some (.builtin "object.__ne__"))) (hob : PySem.W.mroIn X.K C (.type "object") = some true)
    (hf : PySem.W.isFn X.K (.ref f) = true) (hb : Binds X.K fd ps []) (hr : Room (n + 1) X.A) : OpR X (compareOp .NotEq) (rOwn C true sp) := by
  intro pins s σ H x y v u Q I rx ry q
  obtain ⟨a, b, dx, dy, fs, gs, rfl, rfl, ha, hb', q⟩ := q
  cases rx
  cases ry
  obtain ⟨ox, od, oy, od', J, J'⟩ := ins_both I ha hb'
  have tried : wpAny (model X.prog X.w) X.A (tryCompare (.ref a) "__ne__" (.ref b)) (fun r s' => ∃ v, r = some v ∧ EP X pins σ Q v s') X.xe s := by
    unfold tryCompare
    refine wpAny_bind (ne_try (X := X) (by have := hr.un; omega) I.kIn J hne hob hs hf (wpAny_mono (own_called F hb hr.in1 rfl I q) (fun r s' z => ?_) fun _ _ z => z))
    obtain ⟨k, H', rfl, I', qk⟩ := z
    rw [Bool.bne_true] at qk
    exact ⟨k, rfl, wpAny_pure ⟨_, rfl, .bl (!k), H', I', rfl, qk⟩⟩
  have ask : wpAny (model X.prog X.w) X.A (richCompare .NotEq (.ref a) (.ref b)) (EP X pins σ Q) X.xe s := by
    unfold richCompare
    simp only [oneThing_ref, cmpInfo_NotEq]
    refine wpAny_holding (wpAny_bind (wpAny_cRoomFor hr.units0 (wpAny_bind (J.type.here (wpAny_bind (J'.type.here ?_))))))
    rw [if_neg (show ¬ (Value.ref C != Value.ref C) = true by simp)]
    refine wpAny_bind (wpAny_pure ?_)
    rw [if_neg (by decide)]
    refine wpAny_bind (wpAny_mono tried (fun r s' z => ?_) fun _ _ z => z)
    obtain ⟨v, rfl, q'⟩ := z
    exact wpAny_pure q'
  exact ask
end
end Pd
namespace Pd
variable {ℓ : Bool}
open PySem L2
structure EqnOk (K : PySem.W.Frag) (C : Addr) : Prop where
  ne : PySem.W.findIn K (.ref C) "__ne__" = some (some (.builtin "object.__ne__"))
  ob : PySem.W.mroIn K C (.type "object") = some true
theorem eqn_ok {K : PySem.W.Frag} {C : Str} (h : (Fx.eqn C).ok K = true) : EqnOk K (He.ga K C) := by
  simp only [Fx.ok, Bool.and_eq_true, decide_eq_true_eq] at h
  exact ⟨h.1, h.2⟩
def gOwn (C : Addr) (ng : Bool) (sp : FD) : G2 := fun dx dy P => ∃ fs gs, dx = .obj C fs ∧ dy = .obj C gs ∧ ∀ n, sp [dx, dy] n fun n' r => n' = n ∧ ∃ k, r = .bl k ∧ P (.bl (k != ng))
theorem so_own {K : PySem.W.Frag} {C : Addr} {ng : Bool} {sp : FD} : SOp ℓ K (rOwn C ng (liftF ℓ K sp)) (gOwn C ng sp) := ⟨fun {g H n x y dx dy P Q} ok hx hy q f => by
  obtain ⟨fs, gs, rfl, rfl, q⟩ := q
  cases hx with
  | obj h1 h2 =>
    cases hy with
    | obj h3 h4 =>
      refine ⟨_, _, _, _, _, _, rfl, rfl, ok.sub _ _ h1, ok.sub _ _ h3, g, n, _, _, ok, .cons (.obj h1 h2) (.cons (.obj h3 h4) .nil), q n, fun v g' H' n' r p s o d => ?_⟩
      obtain ⟨rfl, k, rfl, p⟩ := p
      cases d
      exact ⟨k, rfl, f _ _ _ _ p s o (.bl _)⟩⟩
section
variable {X : Cx} {k : Nat} {C : Addr} {ps : List Str} {sp : FD} {pos : Pos} {a b : Expr} {da db : DE}
theorem dt_ownNe (G : HasM ℓ X.prog X.w X.K X.mg X.base k C "__eq__" ps [] sp) (hq : EqnOk X.K C) (hr : Room (k + 1) X.A) (ha : PE X a (liftE ℓ X.K da)) (hb : PE X b (liftE ℓ X.K db)) (hm : behindInMarks .NotEq b = false := by first | exact nomark _ | rfl) : PT X (.Compare a [.NotEq] [b] pos) (liftT ℓ X.K (dTB (dOp (gOwn C true sp) da db))) := by
  obtain ⟨f, fd, dvs, ds, F, _, ⟨h1, h2, _⟩, hb', hv, hd⟩ := G.ex
  obtain rfl : dvs = [] := by
    have := hd ⟨fun _ => none, fun _ => False, []⟩
    cases this
    rfl
  cases hv
  exact dt_cmp (op_own_ne F h1 hq.ne hq.ob h2 hb' hr) so_own ha hb hm
end
end Pd
namespace Pd
open PySem L2
end Pd
namespace Pd
open PySem L2
end Pd
namespace Pd
open PySem L2
end Pd
namespace Pd
open PySem PySem.Spec PyProof.Rows L2
end Pd
namespace Pd
variable {ℓ : Bool}
open PySem L2 PyProof.Rows
structure SupC (K : PySem.W.Frag) (D C : Addr) : Prop where
  oex : OexC K C
  mro : PySem.W.mroIn K C (.ref D) = some true
  sup : PySem.W.ks_superIn K C D "__init__" = some (some (.builtin "ValueError.__init__"))
  sub : PySem.W.subIn K (.ref C) (.type "ValueError") = some true
  val : PySem.W.findIn K (.ref C) "value" = some none
def spSup (K : PySem.W.Frag) (D : Addr) : Sp := fun vs H Q _ => ∃ (a C : Addr) (v : V), vs = [.ref a, v] ∧ SupC K D C ∧ H a = some (exo a C none) ∧
  ∀ dx, H dx = none → dx ≠ a → Q .non (upd (upd H dx (exd dx [("value", v)])) a (exo a C (some dx)))
end Pd
namespace Pd
variable {ℓ : Bool}
open PySem L2 PyProof.Rows
variable {W : WX}
structure HasE (P : Program) (w : World) (K : PySem.W.Frag) (mg : Str → Option Value) (base : Heap) (k : Nat) (C : Addr) : Prop where
  ex : ∃ (D fI : Addr) (fd : FuncData), FnOk P w K mg base CX0 k fI fd ["self", "value"] (spSup K D) ∧ SupC K D C ∧ PySem.W.findIn K (.ref C) "__init__" = some (some (.ref fI)) ∧ PySem.W.typeIn K (.ref fI) = some (.type "function") ∧ Binds K fd ["self", "value"] []
def outX (ℓ : Bool) (K : PySem.W.Frag) (g : Gh) (H : Hp) (R : Nat → Addr → D → Prop) (W : Value → Option Addr → Hp → Prop) : Prop :=
  ∀ g' H' n' C dx u r, R n' C r → Stp g H g' H' → Ok ℓ K g' H' n' → g'.G dx = some (.xd [("value", u)]) → Den K g' u r → W (.ref C) (some dx) H'
def one (P : Nat → D → Prop) : Nat → List D → Prop := fun n vs => match vs with
  | [v] => P n v
  | _ => False
structure ErrV (K : PySem.W.Frag) (C : Addr) : Prop where
  xf : XfC K C
  val : PySem.W.findIn K (.ref C) "value" = some none
end Pd
namespace Pd
variable {ℓ : Bool}
open PySem L2 PyProof.Rows
theorem outX.step {K : PySem.W.Frag} {g g' : Gh} {H H' : Hp} {R : Nat → Addr → D → Prop} {W : Value → Option Addr → Hp → Prop} (k : outX ℓ K g H R W) (s : Stp g H g' H') : outX ℓ K g' H' R W := fun g2 H2 n2 C dx u r q s2 o2 e1 e2 => k g2 H2 n2 C dx u r q (s.trans s2) o2 e1 e2
end Pd
namespace Pd
open PySem L2 PyProof.Rows
end Pd
namespace Pd
open PySem L2 PyProof.Rows
end Pd
namespace Pd
open PySem L2 PyProof.Rows LamX
end Pd
namespace Pd
open PySem L2 PyProof.Rows LamX
end Pd
namespace Pd
variable {ℓ : Bool}
open PySem L2 PyProof.Rows LamX
structure ErrAll (K : PySem.W.Frag) (D fI C : Addr) : Prop where
  sc : SupC K D C
  ei : ErrI K C
  ev : ErrV K C
  init : PySem.W.findIn K (.ref C) "__init__" = some (some (.ref fI))
  fn : PySem.W.typeIn K (.ref fI) = some (.type "function")
  ex : PySem.W.exmOne K (.ref C) (.ref D) = some true
theorem HasE.of {P : Program} {w : World} {K : PySem.W.Frag} {mg : Str → Option Value} {base : Heap} {D fI C : Addr} {fd : FuncData} (F : FnOk P w K mg base CX0 1 fI fd ["self", "value"] (spSup K D)) (hb : Binds K fd ["self", "value"] []) (A : ErrAll K D fI C) : HasE P w K mg base 1 C :=
  ⟨D, fI, fd, F, A.sc, A.init, A.fn, hb⟩
end Pd
namespace Pd
variable {ℓ : Bool}
open PySem L2 PyProof.Rows
theorem SaysP.good {fx : List Fx} {fn : List PDef} {K : PySem.W.Frag} (c : SaysP fx fn K) {d : PDef} (i : Nat) (h : fn[i]? = some d := by rfl) : d.good K = true := by
  have c1 : ((fx.all fun f => f.ok K) && fn.all fun d => d.good K) = true := congrArg (fun z : AlP => z.1) c
  exact List.all_eq_true.mp (Bool.and_eq_true_iff.mp c1).2 d (List.mem_of_getElem? h)
end Pd
namespace Pd
variable {ℓ : Bool}
open PySem L2 PyProof.Rows
structure SysD (K : PySem.W.Frag) : Prop where
  ex : ∃ o : Obj, K.lookup sysModules = some o ∧ o.cls = .type "dict"
mutual
def isPx : D → Bool
  | .non => true
  | .bl _ => true
  | .int _ => true
  | .str l => l.all (· < 1114112)
  | .lst xs => isPxs xs
  | .tup xs => isPxs xs
  | .obj _ _ => false
  | .pot => false
  | .scr _ => false
  | .ref _ => false
  | .tupK xs => isPxs xs
  | .tupF _ => false
  | .err _ _ => false
  | .cel _ _ => false
  | .dic _ vs => isPxs vs
def isPxs : List D → Bool
  | [] => true
  | x :: xs => isPx x && isPxs xs
end
section
variable {X : Cx} {pins : List (Addr × Obj)} {σ : L2.St} {H : Hp} {s : Shared} {g : Gh}
theorem not_sys (I : Inv X pins σ H s) (S : SysD X.K) {a : Addr} {o : Obj} (ho : s.heap.get? a = some o) (hc : o.cls = .type "list") : sysModules ≠ a := fun e => by
  subst e
  obtain ⟨o', h1, h2⟩ := S.ex
  have h3 := I.kIn _ _ h1
  rw [ho] at h3
  cases h3
  rw [hc] at h2
  injection h2 with h2
  exact absurd h2 (by decide)
theorem keys_read {h : Heap} {P : Program} {w : World} : ∀ {es : List DictEntry} {ps : List (Key × Value)} {ks : List (List Nat)}, Pairs (mixKind P w) es ps → ps.map (·.1) = ks.map (fun x => Sum.inr ⟨x.toArray⟩) → ReadsAll h (es.map (·.key)) (ks.map fun x => PyData.str ⟨x.toArray⟩) []
  | [], [], [], .nil, _ => .nil
  | [], [], _ :: _, .nil, e => by cases e
  | e :: es, p :: ps, [], .cons _ _ _, x => by cases x
  | e :: es, p :: ps, k :: ks, .cons h1 h2 h3, x => by
    rw [List.map_cons, List.map_cons, List.cons.injEq] at x
    obtain ⟨x1, x2⟩ := x
    have h1' : keyIs p.1 e.key = true := h1
    rw [x1] at h1'
    rcases keyIs_shape h1' with ⟨i, t, z, _⟩ | ⟨y, t, z, hk⟩
    · cases z
    · injection z with z
      subst z
      rw [List.map_cons, List.map_cons, hk]
      exact .cons (.str _ t) (keys_read h3 x2)
  | [], _ :: _, _, h, _ => nomatch h
theorem vals_pair {P : Program} {w : World} : ∀ {es : List DictEntry} {ps : List (Key × Value)} {kvs : List (Key × V)}, Pairs (mixKind P w) es ps → KV kvs ps → Vals (kvs.map (·.2)) (es.map (·.val))
  | _, _, _, .nil, .nil => .nil
  | _, _, _, .cons h1 h2 h3, .cons r t => by
    rw [List.map_cons, List.map_cons, h2]
    exact .cons r.2 (vals_pair h3 t)
theorem keys_pair {kvs : List (Key × V)} {ps : List (Key × Value)} (h : KV kvs ps) : kvs.map (·.1) = ps.map (·.1) := by
  induction h with
  | nil => rfl
  | cons r _ ih => rw [List.map_cons, List.map_cons, ih, r.1]
mutual
theorem Den.reads (I : Inv X pins σ H s) (S : SysD X.K) (sm : Same g.G H) : ∀ {v : V} {d : D}, Den X.K g v d → isPx d = true → ∀ u, RelV v u → ∃ as, Reads s.heap u (toPD d) as ∧ sysModules ∉ as
  | _, _, .non, _, u, r => by cases r; exact ⟨_, .none, by simp⟩
  | _, _, .bl b, _, u, r => by cases r; exact ⟨_, .bool b, by simp⟩
  | _, _, .int i, _, u, r => by obtain ⟨t, rfl⟩ := r; exact ⟨_, .int i t, by simp⟩
  | _, _, .str l, _, u, r => by obtain ⟨t, rfl⟩ := r; exact ⟨_, .str _ t, by simp⟩
  | _, _, .lst h1 h2, h, u, r => by
    cases r
    obtain ⟨its, rv, ⟨o, n, ho, hc, _, hd⟩, _⟩ := I.list (SqL.of (sm _ _ h1))
    obtain ⟨as, hr, hn⟩ := Dens.reads I S sm h2 (by simpa [isPx] using h) its rv
    refine ⟨_, Reads.list ho hc hd hr, fun hm => ?_⟩
    rcases List.mem_cons.mp hm with e | hm
    · exact not_sys I S ho hc e
    · exact hn hm
  | _, _, .tup h1 h2, h, u, r => by
    cases r
    obtain ⟨its, rv, ⟨o, ho, hc, n, hd⟩, _⟩ := I.tuple (Or.inl (h1.same sm))
    obtain ⟨as, hr, hn⟩ := Dens.reads I S sm h2 (by simpa [isPx] using h) its rv
    exact ⟨_, Reads.tuple ho hc hd hr, hn⟩
  | _, _, .obj h1 h2, h, _, _ => by simp [isPx] at h
  | _, _, .pot h1 _, h, _, _ => by simp [isPx] at h
  | _, _, .scr h1, h, _, _ => by simp [isPx] at h
  | _, _, .ref a, h, _, _ => by simp [isPx] at h
  | _, _, .tupK h1 h2, h, u, r => by
    cases r
    obtain ⟨its, rv, ⟨o, ho, hc, n, hd⟩, _⟩ := I.tuple (h1 _)
    obtain ⟨as, hr, hn⟩ := Dens.reads I S sm h2 (by simpa [isPx] using h) its rv
    exact ⟨_, Reads.tuple ho hc hd hr, hn⟩
  | _, _, .tupF _ _ _ _, h, _, _ => by simp [isPx] at h
  | _, _, .err _ _ _, h, _, _ => by simp [isPx] at h
  | _, _, .dic h1 h2 h3, h, u, r => by
    cases r
    obtain ⟨_, hs, ps, kv, o, es, ep, ho, hx, hd, _, hp, _⟩ := dk_of I.hok (sm _ _ h1)
    obtain ⟨as, hr, hn⟩ := Dens.reads I S sm h3 (by simpa [isPx] using h) _ (vals_pair hp kv)
    have hk := keys_read (h := s.heap) hp ((keys_pair kv).symm.trans h2)
    have hl := h3.length
    have hlk := congrArg List.length h2
    simp only [List.length_map] at hl hlk
    rw [toPD]
    have hlen : ∀ ds : List D, (toPDs ds).length = ds.length := by
      intro ds
      induction ds with
      | nil => simp [toPDs]
      | cons x xs ih => simp [toPDs, ih]
    refine ⟨_, Reads.dict ho hx.1 hd (as := []) (bs := as) ?_ ?_, fun hm => ?_⟩
    · rw [List.map_fst_zip (by rw [List.length_map, hlen]; omega)]
      exact hk
    · rw [List.map_snd_zip (by rw [List.length_map, hlen]; omega)]
      exact hr
    · simp only [List.append_nil, List.cons_append, List.nil_append] at hm
      rcases List.mem_cons.mp hm with e | hm
      · rw [← e] at hs
        simp at hs
      · exact hn hm
theorem Dens.reads (I : Inv X pins σ H s) (S : SysD X.K) (sm : Same g.G H) : ∀ {vs : List V} {ds : List D}, Dens X.K g vs ds → isPxs ds = true → ∀ us, Vals vs us → ∃ as, ReadsAll s.heap us (toPDs ds) as ∧ sysModules ∉ as
  | _, _, .nil, _, us, r => by cases r; exact ⟨_, .nil, by simp⟩
  | _, _, .cons h t, q, us, r => by
    rw [isPxs, Bool.and_eq_true] at q
    cases r with
    | cons r1 r2 =>
      obtain ⟨as, q1, n1⟩ := Den.reads I S sm h q.1 _ r1
      obtain ⟨bs, q2, n2⟩ := Dens.reads I S sm t q.2 _ r2
      exact ⟨_, ReadsAll.cons q1 q2, fun hm => (List.mem_append.mp hm).elim n1 n2⟩
end
end
end Pd
namespace Pd
open PySem L2 PyProof.Rows
end Pd
namespace Pd
open PySem L2 PyProof.Rows
end Pd
namespace Pd
variable {ℓ : Bool}
open PySem L2 PyProof.Rows
def dCatO (d e : DE) : DO := fun n ε P => d n ε fun n1 x => e n1 ε fun n2 y => match x, y with
  | .lst xs, .lst ys => xs.length + ys.length ≤ 16777216 ∧ P n2 (xs ++ ys)
  | _, _ => False
theorem do_cat {X : Cx} {pos : Pos} {a b : Expr} {da db : DE} (ha : PE X a (liftE ℓ X.K da)) (hb : PE X b (liftE ℓ X.K db)) : PE X (.BinOp a .Add b pos) (liftO ℓ X.K (dCatO da db)) :=
  pe_w (pe_op op_cat ha hb) fun σ H Q ⟨O, g, n, ε, P, r, q, k⟩ => two_ok r q fun x y g1 H1 n1 dx dy q1 s1 o1 e1 e2 => by
    cases e1 with
    | lst h1 h2 =>
      cases e2 with
      | lst h3 h4 =>
        refine ⟨_, _, _, _, rfl, rfl, o1.sub _ _ h1, o1.sub _ _ h3, by rw [h2.length, h4.length]; exact sz q1.1, fun p hp => ?_⟩
        obtain ⟨a1, a2, a3, a4⟩ := new_own o1 hp (.lst _)
        exact k p _ g1 _ n1 _ q1.2 (s1.trans a1) a2 (s1.back0 hp) a3 a4 upd_same (h2.append h4)
      | _ => exact q1.elim
    | _ => exact q1.elim
end Pd
namespace L2
open PySem PySem.Spec PyProof.Rows HT
end L2
namespace Pd
open PySem L2 PyProof.Rows
end Pd
namespace Pd
open PySem L2
end Pd
namespace Pd
open PySem L2 PyProof.Rows
end Pd
namespace Pd
open PySem L2 PyProof.Rows
end Pd
namespace Pd
open PySem L2 PyProof.Rows
end Pd
namespace Pd
variable {ℓ : Bool}
open PySem L2
structure ErrT (K : PySem.W.Frag) (D : Str) (Cs : List Str) : Prop where
  top : ∀ A ∈ D :: Cs, PySem.W.kitOne K (.ref (He.ga K A)) (.ref (He.ga K D)) = some true
  ve : ∀ A ∈ D :: Cs, PySem.W.kitOne K (.ref (He.ga K A)) (.type "ValueError") = some true
  one : ∀ A ∈ D :: Cs, ∀ B ∈ Cs, PySem.W.kitOne K (.ref (He.ga K A)) (.ref (He.ga K B)) = some (decide (A = B))
  bi : ∀ A ∈ D :: Cs, ∀ S ∈ ["NoneType", "bool", "int", "str", "list", "tuple", "dict"], PySem.W.kitOne K (.type S) (.ref (He.ga K A)) = some false
theorem kit_self {K : PySem.W.Frag} (a : Addr) : PySem.W.kitOne K (.ref a) (.ref a) = some true := by
  unfold PySem.W.kitOne
  rw [if_pos (by simp)]
theorem ErrT.inj {K : PySem.W.Frag} {D : Str} {Cs : List Str} (t : ErrT K D Cs) : ∀ A ∈ D :: Cs, ∀ B ∈ Cs, He.ga K A = He.ga K B → A = B := fun A hA B hB e => by
  have h := t.one A hA B hB
  rw [e, kit_self] at h
  simpa using h.symm
end Pd
namespace Pd
open PySem L2
end Pd
namespace L2
open PySem PySem.Spec PyProof.Rows HT
end L2
namespace Pd
open PySem L2
end Pd
namespace Pd
variable {ℓ : Bool}
open PySem L2
def rNeL (K : PySem.W.Frag) : R2 := fun x y H Q => ∃ a b xs, x = .ref a ∧ y = .ref b ∧ SqL K H a xs ∧ SqL K H b [] ∧ Q (.bl (!xs.isEmpty)) H
def gNeL : G2 := fun x y P => match x, y with
  | .lst xs, .lst [] => P (.bl (!xs.isEmpty))
  | _, _ => False
section
variable {X : Cx}
theorem op_neL (hu : X.A.units + 64 < cLine) : OpR X (compareOp .NotEq) (rNeL X.K) := by
  intro pins s σ H x y v u Q I rx ry h
  obtain ⟨a, b, xs, rfl, rfl, ha, hb, q⟩ := h
  cases rx
  cases ry
  obtain ⟨its, r1, p1, _⟩ := I.list ha
  obtain ⟨its2, r2, p2, _⟩ := I.list hb
  cases r2
  have fin : EP X pins σ Q (.bool (!xs.isEmpty)) s := ⟨.bl _, H, I, rfl, q⟩
  cases r1 with
  | nil => exact SeqAt.RcNeAt.lists (e := fun _ => true) p1.isList p2.isList rfl (by omega) (fun j h1 h2 => by simp at h2) _ _ _ _ fin
  | cons _ _ => exact SeqAt.RcNeAt.lists_lengths p1.isList p2.isList (by simp) (by omega) _ _ _ _ fin
theorem so_neL : SOp ℓ X.K (rNeL X.K) gNeL := ⟨fun {g H n x y dx dy P Q} ok ex ey q k => by
  cases ex with
  | lst h1 h2 =>
    cases ey with
    | lst h3 h4 =>
      cases h4 with
      | nil =>
        refine ⟨_, _, _, rfl, rfl, SqL.of (ok.sub _ _ h1), SqL.of (ok.sub _ _ h3), ?_⟩
        have e : ∀ {vs : List V} {ds : List D}, Dens X.K g vs ds → vs.isEmpty = ds.isEmpty := fun h => by cases h <;> rfl
        rw [e h2]
        exact k.flat ok q (.bl _)
      | cons _ _ => exact q.elim
    | _ => exact q.elim
  | _ => exact q.elim⟩
end
end Pd
namespace LW
open PySem L2 Pd
def b__law_cells (c : Str → Addr)  : DS := (dRet (dLRg (r1 (dBi gMax (dCons (dC (.int 1)) (dCons (dBi gMin (dCons (dVar 1) (dCons (dBi gLen (dCons (dVar 0) dNil)) dNil))) dNil))))))
def b__law_pot (c : Str → Addr)  : DS := (dSeq (dSet 2 (dIte (dTB (dOp gLt (dVar 1) (dBi gLen (dCons (dVar 0) dNil)))) (dOp gIx (dVar 0) (dVar 1)) (dOp gAdd (dOp gMul (dC (.int 281)) (dVar 1)) (dC (.int 127)))))
    (dSeq (dSet 3 (dOp gMul (dOp gMod (dBi gInt (dCons (dBi gAbs (dCons (dVar 2) dNil)) dNil)) (dOp gPow (dOp gPow (dC (.int 10)) (dC (.int 60))) (dC (.int 5)))) (dBi gInt (dCons (dOp gGe (dBi gAbs (dCons (dVar 2) dNil)) (dOp gPow (dC (.int 10)) (dC (.int 18)))) dNil))))
    (dSeq (dSet 4 (dOp gMod (dBi gInt (dCons (dVar 2) dNil)) (dC (.int 2305843009213693951))))
    (dRetPot (dLstO (dCons (dVar 3) (dCons (dOp gMod (dBi gInt (dCons (dOp gAdd (dOp gAdd (dOp gMul (dVar 4) (dC (.int 74521))) (dOp gMul (dOp gMul (dC (.int 7823)) (dVar 1)) (dVar 1))) (dC (.int 199))) dNil)) (dC (.int 2305843009213693921))) (dCons (dC (.int 0)) dNil))))))))
def b__law_of (c : Str → Addr) (s__law_take : FD) : DS := (dRet (dOp gIx (dVar 1) (dCall s__law_take [] (dCons (dVar 0) (dCons (dBi gLen (dCons (dVar 1) dNil)) dNil)))))
def b__law_random (c : Str → Addr) (s__law_of : FD) : DS := (dRet (dJoin (dC (.str [])) (dO (dComp (iRg1 (dVar 2)) (gNm 3) dYes (dCall s__law_of [] (dCons (dVar 0) (dCons (dVar 1) dNil))) [3]))))
def b__law_any_letters (c : Str → Addr) (s__law_take : FD) (s__law_of : FD) (s__law_random : FD) : DS := (dSeq (dMul [3, 4] (bCons (dOp gAdd (dVar 1) (dCall s__law_take [] (dCons (dVar 0) (dCons (dOp gAdd (dOp gSub (dVar 2) (dVar 1)) (dC (.int 1))) dNil)))) (bCons (dCall s__law_take [] (dCons (dVar 0) (dCons (dC (.int 6)) dNil))) bNil)))
    (dSeq (dSet 5 (dCall s__law_of [] (dCons (dVar 0) (dCons (dLst (dCons (dC (.str [97, 98])) (dCons (dC (.str [97, 98])) (dCons (dC (.str [97, 98, 99])) (dCons (dC (.str [97])) (dCons (dC (.str [120, 121, 122])) (dCons (dC (.str [113, 97, 98])) (dCons (dC (.str [97, 98, 99, 120, 121])) (dCons (dC (.str [97, 98, 99, 113, 120, 121, 122])) dNil))))))))) dNil))))
    (dSeq (dIf (dTB (dOp gLt (dVar 4) (dC (.int 2)))) (dRet (dCall s__law_random [] (dCons (dVar 0) (dCons (dVar 5) (dCons (dVar 3) dNil))))) dNx)
    (dSeq (dSet 6 (dCall s__law_random [] (dCons (dVar 0) (dCons (dVar 5) (dCons (dOp gAdd (dC (.int 1)) (dCall s__law_take [] (dCons (dVar 0) (dCons (dBi gMax (dCons (dC (.int 1)) (dCons (dOp gSub (dVar 3) (dC (.int 1))) dNil))) dNil)))) dNil)))))
    (dSeq (dIf (dTB (dOp gLt (dVar 4) (dC (.int 4)))) (dSeq (dSet 7 (dOp gAdd (dCall s__law_random [] (dCons (dVar 0) (dCons (dVar 5) (dCons (dCall s__law_take [] (dCons (dVar 0) (dCons (dC (.int 3)) dNil))) dNil)))) (dOp gMul (dVar 6) (dVar 3))))
    (dRet (dSl (dVar 7) pNo (pSome (dVar 3))))) dNx)
    (dSeq (dIf (dTB (dOp gEq (dVar 4) (dC (.int 4)))) (dRet (dSl (dOp gAdd (dVar 6) (dOp gMul (dRev (dVar 6)) (dVar 3))) pNo (pSome (dVar 3)))) dNx)
    (dSeq (dMul [8, 9] (bCons (dOp gIx (dVar 5) (dC (.int 0))) (bCons (dSl (dVar 5) pNo (pSome (dC (.int 2)))) bNil)))
    (dSeq (dFor (iRg1 (dVar 3)) (gNm 10) (dSeq (dMul [8, 9] (bCons (dVar 9) (bCons (dOp gAdd (dVar 9) (dVar 8)) bNil)))
    (dIf (dTB (dOp gGt (dBi gLen (dCons (dVar 9) dNil)) (dVar 3))) dBrk dNx)))
    (dRet (dSl (dOp gAdd (dVar 9) (dOp gMul (dVar 8) (dVar 3))) pNo (pSome (dVar 3))))))))))))
def b__law_blocks (c : Str → Addr)  : DS := (dSeq (dSetO 1 (dLstO dNil))
    (dSeq (dFor (iVal (dVar 0)) (gNm 2) (dIf (dAnd (dTmpT 1 (dTB (dOp gNe (dVar 1) (dLst dNil)))) (dTB (dOp gEq (dOp gIx (dIxO 1 (dNeg (dC (.int 1)))) (dC (.int 0))) (dVar 2)))) (dSetI 1 (dNeg (dC (.int 1))) (dTup (dCons (dVar 2) (dCons (dOp gAdd (dOp gIx (dIxO 1 (dNeg (dC (.int 1)))) (dC (.int 1))) (dC (.int 1))) dNil)))) (dApp 1 (dTup (dCons (dVar 2) (dCons (dC (.int 1)) dNil))))))
    (dFrz [1] (dRet (dVar 1)))))
def b__law_letters (c : Str → Addr) (s__law_any_letters : FD) (s__law_blocks : FD) : DS := (dSeq (dSet 3 (dCall s__law_blocks [] (dCons (dCall s__law_any_letters [] (dCons (dVar 0) (dCons (dVar 1) (dCons (dVar 2) dNil)))) dNil)))
    (dRet (dJoin (dC (.str [])) (dO (dComp (iVal (dSl (dVar 3) pNo (pSome (dC (.int 40))))) (gTp 2 (gsCons (gNm 4) (gsCons (gNm 5) gsNil))) dYes (dOp gMul (dVar 4) (dVar 5)) [4, 5])))))
def b__law_block_text (c : Str → Addr)  : DS := (dRet (dJoin (dC (.str [])) (dO (dComp (iVal (dVar 0)) (gTp 2 (gsCons (gNm 1) (gsCons (gNm 2) gsNil))) dYes (dOp gAdd (dVar 1) (dIte (dTB (dOp gGt (dVar 2) (dC (.int 1)))) (dBi gStr (dCons (dVar 2) dNil)) (dC (.str [])))) [1, 2]))))
def b_is_said (c : Str → Addr)  : DS := (dRet (dAndV (dTB (dIsi (isT "str" [c "Word"]) (dVar 0))) (dOp gIn (dVar 0) (dVar 1))))
def b_pieces_of (c : Str → Addr)  : DS := (dSeq (dSet 1 (dO (dComp (iEnm (dVar 0)) (gTp 2 (gsCons (gNm 2) (gsCons (gNm 3) gsNil))) (dTB (dOp gIn (dVar 3) (dC (.str [97, 98, 99, 100, 101, 102, 103, 104, 105, 106, 107, 108, 109, 110, 111, 112, 113, 114, 115, 116, 117, 118, 119, 120, 121, 122])))) (dVar 2) [2, 3])))
    (dRet (dO (dComp (iZp (dVar 1) (dLst (dStar (dSl (dVar 1) (pSome (dC (.int 1))) pNo) (dCons (dBi gLen (dCons (dVar 0) dNil)) dNil)))) (gTp 2 (gsCons (gNm 2) (gsCons (gNm 4) gsNil))) dYes (dTup (dCons (dOp gIx (dVar 0) (dVar 2)) (dCons (dSl (dVar 0) (pSome (dOp gAdd (dVar 2) (dC (.int 1)))) (pSome (dVar 4))) dNil))) [2, 4]))))
def b_whole_in (c : Str → Addr)  : DS := (dSeq (dSet 1 (dIte (dTB (dOp gEq (dSl (dVar 0) pNo (pSome (dC (.int 1)))) (dC (.str [45])))) (dSl (dVar 0) (pSome (dC (.int 1))) pNo) (dVar 0)))
    (dSeq (dIf (dOr (dNot (dTB (dChain gLt gLe (dC (.int 0)) (dBi gLen (dCons (dVar 1) dNil)) (dC (.int 40))))) (dNot (dTB (dBi gAll (dCons (dO (dComp (iVal (dVar 1)) (gNm 2) dYes (dOp gIn (dVar 2) (dC (.str [48, 49, 50, 51, 52, 53, 54, 55, 56, 57]))) [2])) dNil))))) (dRet (dC .non)) dNx)
    (dRet (dIte (dTB (dOp gEq (dBi gStr (dCons (dBi gInt (dCons (dVar 0) dNil)) dNil)) (dVar 0))) (dBi gInt (dCons (dVar 0) dNil)) (dC .non)))))
def b_block_in (c : Str → Addr) (s_whole_in : FD) : DS := (dSeq (dAsg (dVar 0) (gTp 2 (gsCons (gNm 1) (gsCons (gNm 2) gsNil))))
    (dSeq (dIf (dTB (dOp gEq (dVar 2) (dC (.str [])))) (dRet (dTup (dCons (dVar 1) (dCons (dC (.int 1)) dNil)))) dNx)
    (dSeq (dSet 3 (dCall s_whole_in [] (dCons (dVar 2) dNil)))
    (dRet (dIte (dAnd (dTB (dOp gIsNot (dVar 3) (dC .non))) (dTB (dChain gLt gLt (dC (.int 1)) (dVar 3) (dC (.int 1000000000000000000000000000000))))) (dTup (dCons (dVar 1) (dCons (dVar 3) dNil))) (dC .non))))))
def b_blocks_told (c : Str → Addr) (s_is_said : FD) (s_pieces_of : FD) (s_block_in : FD) : DS := (dSeq (dIf (dOr (dNot (dTB (dIsi (isT "str" [c "Word"]) (dVar 0)))) (dNot (dTB (dCall s_is_said [] (dCons (dSl (dVar 0) pNo (pSome (dC (.int 1)))) (dCons (dBi gList (dCons (dC (.str [97, 98, 99, 100, 101, 102, 103, 104, 105, 106, 107, 108, 109, 110, 111, 112, 113, 114, 115, 116, 117, 118, 119, 120, 121, 122])) dNil)) dNil)))))) (dRet (dC .non)) dNx)
    (dSeq (dSet 1 (dBi gTuple (dCons (dO (dComp (iVal (dCall s_pieces_of [] (dCons (dVar 0) dNil))) (gNm 2) dYes (dCall s_block_in [] (dCons (dVar 2) dNil)) [2])) dNil)))
    (dSeq (dIf (dOr (dTB (dOp gGt (dBi gLen (dCons (dVar 1) dNil)) (dC (.int 40)))) (dTB (dOp gIn (dC .non) (dVar 1)))) (dRet (dC .non)) dNx)
    (dRet (dIte (dTB (dBi gAll (dCons (dO (dComp (iZp (dVar 1) (dSl (dVar 1) (pSome (dC (.int 1))) pNo)) (gTp 2 (gsCons (gNm 3) (gsCons (gNm 4) gsNil))) dYes (dOp gNe (dOp gIx (dVar 3) (dC (.int 0))) (dOp gIx (dVar 4) (dC (.int 0)))) [3, 4])) dNil))) (dVar 1) (dC .non))))))
def b_Word___init__ (c : Str → Addr) (s_blocks_told : FD) : DS := (dSeq (dSet 2 (dCall s_blocks_told [] (dCons (dVar 1) dNil)))
    (dSeq (dIf (dTB (dOp gIs (dVar 2) (dC .non))) dNev dNx)
    (dSeq (dFst (c "Word") 0 "own_text" (dVar 1))
    (dSeq (dFst (c "Word") 0 "own_blocks" (dVar 2))
    (dSeq (dSetO 3 (dLstO (dCons (dC (.int 0)) dNil)))
    (dSeq (dFor (iVal (dVar 2)) (gTp 2 (gsCons (gNm 4) (gsCons (gNm 5) gsNil))) (dApp 3 (dOp gAdd (dIxO 3 (dNeg (dC (.int 1)))) (dVar 5))))
    (dFrz [3] (dFst (c "Word") 0 "own_ends" (dBi gTuple (dCons (dVar 3) dNil))))))))))
def b_Word_blocks (c : Str → Addr)  : DS := (dRet (dFld (c "Word") "own_blocks" (dVar 0)))
end LW
namespace LW
open PySem L2 Pd
section
variable {P : D → Prop} {C : Int → Int → Prop} {f : Int → Int → D} {i j : Int} {a b : List Nat} {xs ys : List D} {ns : List Int} {d : D} {lo hi : Option Int}
theorem ev_gI : gI C f (.int i) (.int j) P = (C i j ∧ P (f i j)) := rfl
theorem ev_addi : gAdd (.int i) (.int j) P = P (.int (i + j)) := rfl
theorem ev_adds : gAdd (.str a) (.str b) P = (a.length + b.length ≤ 16777216 ∧ P (.str (a ++ b))) := rfl
theorem ev_addl : gAdd (.lst xs) (.lst ys) P = (xs.length + ys.length ≤ 16777216 ∧ P (.lst (xs ++ ys))) := rfl
theorem ev_addt : gAdd (.tup xs) (.tup ys) P = (xs.length + ys.length ≤ 16777216 ∧ P (.tup (xs ++ ys))) := rfl
theorem ev_muli : gMul (.int i) (.int j) P = (CMulW i j ∧ P (.int (i * j))) := rfl
theorem ev_muls : gMul (.str a) (.int j) P = (-1000000 ≤ j ∧ j ≤ 1000000 ∧ a.length * j.toNat ≤ 16777216 ∧ P (.str (List.replicate j.toNat a).flatten)) := rfl
theorem ev_mull : gMul (.lst xs) (.int j) P = (-1000000 ≤ j ∧ j ≤ 1000000 ∧ xs.length * j.toNat ≤ 16777216 ∧ P (.lst (List.replicate j.toNat xs).flatten)) := rfl
theorem ev_oki : okEq (.int i) (.int j) = true := rfl
theorem ev_oks : okEq (.str a) (.str b) = true := rfl
theorem ev_okl : okEq (.lst xs) d = (okD (.lst xs) && okD d) := rfl
theorem ev_okt : okEq (.tup xs) d = (okD (.tup xs) && okD d) := rfl
theorem ev_ixl : gIx (.lst xs) (.int i) P = ∃ d, L2.atI xs i = some d ∧ P d := rfl
theorem ev_ixt : gIx (.tup xs) (.int i) P = ∃ d, L2.atI xs i = some d ∧ P d := rfl
theorem ev_ixs : gIx (.str a) (.int i) P = (a.length ≤ 16777216 ∧ ∃ c, L2.atI a i = some c ∧ P (.str [c])) := rfl
theorem ev_ixr : gIx (.scr ns) (.int i) P = ∃ k, L2.atI ns i = some k ∧ P (.int k) := rfl
theorem ev_lenl : gLen [.lst xs] P = P (.int xs.length) := rfl
theorem ev_lent : gLen [.tup xs] P = P (.int xs.length) := rfl
theorem ev_lens : gLen [.str a] P = (a.length ≤ 16777216 ∧ P (.int a.length)) := rfl
theorem ev_lenr : gLen [.scr ns] P = P (.int ns.length) := rfl
theorem ev_sll : gSl (.lst xs) lo hi P = P (.lst (cut xs lo hi)) := rfl
theorem ev_slt : gSl (.tup xs) lo hi P = P (.tup (cut xs lo hi)) := rfl
theorem ev_sls : gSl (.str a) lo hi P = (a.length ≤ 16777216 ∧ P (.str (cut a lo hi))) := rfl
theorem ev_inttoi : gInt [.int i] P = P (.int i) := rfl
theorem ev_inttob {x : Bool} : gInt [.bl x] P = P (.int (if x then 1 else 0)) := rfl
theorem ev_inttos : gInt [.str a] P = (a.length ≤ 640 ∧ ∃ n, PySem.intText? ⟨a.toArray⟩ = some n ∧ P (.int n)) := rfl
theorem ev_strtoi : gStr [.int i] P = (i.natAbs.log2 < 1920 ∧ P (.str (numD i))) := rfl
theorem ev_tupl : gTuple [.lst xs] P = P (.tup xs) := rfl
theorem ev_tupt : gTuple [.tup xs] P = P (.tup xs) := rfl
theorem ev_listl : gList [.lst xs] P = P (.lst xs) := rfl
theorem ev_listt : gList [.tup xs] P = P (.lst xs) := rfl
theorem ev_lists : gList [.str a] P = (a.length ≤ 16777216 ∧ P (.lst (sgn a))) := rfl
theorem ev_max : gMax [.int i, .int j] P = P (.int (if j > i then j else i)) := rfl
theorem ev_min : gMin [.int i, .int j] P = P (.int (if j < i then j else i)) := rfl
theorem ev_abs : gAbs [.int i] P = P (.int (if i < 0 then -i else i)) := rfl
theorem ev_all : gAll [.lst xs] P = ∃ ns, isBls xs = some ns ∧ P (.bl (ns.all id)) := rfl
theorem ev_any : gAny [.lst xs] P = ∃ ns, isBls xs = some ns ∧ P (.bl (ns.any id)) := rfl
theorem ev_srcl : srcD (.lst xs) = some xs := rfl
theorem ev_srct : srcD (.tup xs) = some xs := rfl
theorem ev_srcs : srcD (.str a) = some (sgn a) := rfl
theorem ev_at0 {α : Type} (x : α) (l : List α) : L2.atI (x :: l) 0 = some x := L2.atI_nat (j := 0) rfl
theorem ev_at1 {α : Type} (x y : α) (l : List α) : L2.atI (x :: y :: l) 1 = some y := L2.atI_nat (j := 1) rfl
theorem ev_atl {α : Type} (l : List α) (x : α) : L2.atI (l ++ [x]) (-1) = some x := L2.atI_last l x
theorem ev_atn {α : Type} : L2.atI ([] : List α) (-1) = none := by
  unfold L2.atI ixN
  rfl
theorem ev_ixn (n : Nat) : ixN (n + 1) (-1) = some n := by
  unfold ixN
  rw [if_neg (by decide), if_pos (by omega)]
  congr 1
  omega
end
theorem cut_from {α : Type} (l : List α) (k : Nat) : cut l (some (k : Int)) none = l.drop k := by
  unfold cut
  rw [show HT.sIx l.length 0 (some (k : Int)) = min k l.length from HT.sIx_nat _ _ _, show HT.sIx l.length l.length none = l.length from rfl]
  by_cases h : k ≤ l.length
  · rw [Nat.min_eq_left h]
    exact List.take_of_length_le (by rw [List.length_drop]; exact Nat.le_refl _)
  · rw [Nat.min_eq_right (by omega), List.drop_of_length_le (Nat.le_refl _), List.drop_of_length_le (by omega)]
    simp
theorem cut_to {α : Type} (l : List α) (k : Nat) : cut l none (some (k : Int)) = l.take k := by
  unfold cut
  rw [show HT.sIx l.length l.length (some (k : Int)) = min k l.length from HT.sIx_nat _ _ _, show HT.sIx l.length 0 none = 0 from rfl, List.drop_zero, Nat.sub_zero]
  by_cases h : k ≤ l.length
  · rw [Nat.min_eq_left h]
  · rw [Nat.min_eq_right (by omega), List.take_of_length_le (Nat.le_refl _), List.take_of_length_le (by omega)]
theorem cut_mid {α : Type} (l : List α) (i j : Nat) : cut l (some (i : Int)) (some (j : Int)) = (l.drop i).take (j - i) := by
  unfold cut
  rw [show HT.sIx l.length 0 (some (i : Int)) = min i l.length from HT.sIx_nat _ _ _, show HT.sIx l.length l.length (some (j : Int)) = min j l.length from HT.sIx_nat _ _ _]
  by_cases h : i ≤ l.length
  · rw [Nat.min_eq_left h]
    by_cases h2 : j ≤ l.length
    · rw [Nat.min_eq_left h2]
    · rw [Nat.min_eq_right (by omega), List.take_of_length_le (by rw [List.length_drop]; exact Nat.le_refl _), List.take_of_length_le (by rw [List.length_drop]; omega)]
  · rw [Nat.min_eq_right (by omega : l.length ≤ i), List.drop_of_length_le (Nat.le_refl _), List.drop_of_length_le (by omega)]
    simp
theorem cut_last {α : Type} (l : List α) : cut l none (some (-1)) = l.dropLast := by
  unfold cut
  rw [show HT.sIx l.length l.length (some (-1 : Int)) = l.length - 1 from by
    show (if (-1 : Int) < 0 then (-1 + (l.length : Int)).toNat else min (-1 : Int).toNat l.length) = _
    rw [if_pos (by decide)]
    omega, show HT.sIx l.length 0 none = 0 from rfl, List.drop_zero, Nat.sub_zero, List.dropLast_eq_take]
theorem compW_pure {dg : DG} {t : DT} {d : DE} {ε : Ev} {P : Nat → List D → Prop} (f : D → Bool) (g : D → D) : ∀ (xs acc : List D) (n : Nat),
    (∀ x ∈ xs, ∀ (n : Nat) (K : Nat → D → Prop) (K' : Nat → Prop), (f x = true → K n (g x)) → (f x = false → K' n) → dg x ε fun ε' => t n ε' fun n1 k => (k = true → d n1 ε' fun n2 y => K n2 y) ∧ (k = false → K' n1)) →
    P n (acc ++ (xs.filter f).map g) → compW dg t d ε P xs acc n
  | [], acc, n, _, q => by
    rw [List.filter_nil, List.map_nil, List.append_nil] at q
    exact q
  | x :: xs, acc, n, h, q => by
    refine h x (by simp) n (fun n2 y => compW dg t d ε P xs (acc ++ [y]) n2) (fun n1 => compW dg t d ε P xs acc n1) (fun hf => ?_) (fun hf => ?_)
    · refine compW_pure f g xs _ n (fun y hy => h y (List.mem_cons_of_mem _ hy)) ?_
      rw [List.filter_cons_of_pos hf, List.map_cons] at q
      rw [List.append_assoc]
      exact q
    · refine compW_pure f g xs _ n (fun y hy => h y (List.mem_cons_of_mem _ hy)) ?_
      rw [List.filter_cons_of_neg (by rw [hf]; decide)] at q
      exact q
theorem eqD_str (a b : List Nat) : eqD (.str a) (.str b) = decide (a = b) := by
  rw [eqD, Bool.eq_iff_iff]
  simp
theorem eqD_int (a b : Int) : eqD (.int a) (.int b) = decide (a = b) := by
  rw [eqD, Bool.eq_iff_iff]
  simp
theorem eqD_bl (a b : Bool) : eqD (.bl a) (.bl b) = (a == b) := by
  rw [eqD]
theorem forW_ind {dg : DG} {b : DS} {N : DN} {Inv : List D → Nat → Ev → Prop} (h0 : ∀ n ε, Inv [] n ε → N.nx n ε)
    (hs : ∀ x xs n ε, (∀ n ε, Inv xs n ε → forW dg b N xs n ε) → Inv (x :: xs) n ε → dg x ε fun ε' => b { N with nx := fun n' ε'' => forW dg b N xs n' ε'', ct := fun n' ε'' => forW dg b N xs n' ε'', bk := N.nx } n ε') :
    ∀ xs n ε, Inv xs n ε → forW dg b N xs n ε
  | [], n, ε, i => h0 n ε i
  | x :: xs, n, ε, i => hs x xs n ε (fun n ε => forW_ind h0 hs xs n ε) i
def s_of : FD := fun ds n P => ∃ (s : D) (xs : List D) (m : Nat), ds = [.pot, s] ∧ srcD s = some xs ∧ (∀ l, s = .str l → l.length ≤ 16777216) ∧ 0 < xs.length ∧ xs.length ≤ 1000000 ∧ n = m + 1 ∧ ∀ x ∈ xs, P m x
theorem l_of (c : Str → Addr) : ∀ ds n Q, s_of ds n Q → dFn 2 2 (b__law_of c takeF) ds n Q := by
  rintro ds n Q ⟨s, xs, m, rfl, hs, hl, h0, h1, rfl, q⟩
  refine ⟨rfl, ?_⟩
  have idx : ∀ {α : Type} (l : List α) (r : Int), 0 ≤ r → r < (l.length : Int) → ∃ j x, r = (j : Nat) ∧ l[j]? = some x := fun l r r0 r1 => by
    have hj : r.toNat < l.length := by omega
    exact ⟨r.toNat, _, by omega, List.getElem?_eq_getElem hj⟩
  cases s with
  | lst ys =>
    cases hs
    simp only [b__law_of, envOf, dRet, dRetN, dOp, dSl, dSlO, dVar, dC, pSome, pNo, ev_sll, ev_slt, ev_sls, dBi, dCons, dNil, ev_lenl, ev_lent, ev_lens, ev_lenr, ev_gI, TC, Pd.gSub, gLt, gLe, gGt, gGe, gMod, gFdiv, gPow, gEq, gNe, ev_oki, ev_oks, ev_okl, ev_okt, gIs, gIsNot, gIsB, gIsNotB, Pd.isNon, dCall, dSeq, dSet, dSetO, dMul, setL, bCons, bOwn, bNil, dIf, dIte, dTB, dAnd, dOr, dNot, dBV, dAndV, dOrV, dChain, dTmp, dTmpT, frzE, dFrz, OD.d, dIxO, dApp, dSetI, dNeg, dLst, dLstO, dTup, dO, dDrop, ev_abs, ev_inttoi, ev_inttob, ev_inttos, ev_strtoi, ev_listl, ev_listt, ev_lists, ev_tupl, ev_tupt, ev_addi, ev_adds, ev_addl, ev_addt, ev_muli, ev_muls, ev_mull, ev_max, ev_min, ev_all, ev_any, gRepr, dLRg, Pd.r1, Pd.r2, eqD_str, eqD_int, eqD_bl, dFld, dProp, dMeth, dAugI, dRev, dMake, dIsi, isT, isC, dNx, dBrk, dNev, dFst, putFD, gNm, gTp, gsCons, gsNil, dAsg, dStar, dYes, iniEnd, flatD, wipeE, ev_ixl, ev_ixt, ev_ixs, ev_ixr, ev_srcl, ev_srct, ev_srcs, ev_at0, ev_at1, ev_atl, ev_atn, ev_ixn, Option.some.injEq, exists_eq_left', exists_eq_left, List.foldl_cons, List.foldl_nil, List.map_cons, List.map_nil, List.replicate, List.length_append, List.length_map, List.length_cons, List.length_nil, List.cons_append, List.nil_append, List.append_nil, List.getElem?_cons_zero, List.getElem?_cons_succ, List.set_cons_zero, List.set_cons_succ, Nat.zero_add, Nat.reduceAdd, Nat.reduceSub, Nat.reduceLeDiff, true_and, and_true, decide_eq_true_eq, decide_eq_false_iff_not, ne_eq, reduceCtorEq, false_implies, true_implies, forall_const, Bool.and_self, Bool.and_true, Bool.true_and, takeF]
    refine ⟨_, rfl, by omega, Nat.lt_of_le_of_lt (by simpa using h1) (by decide), m, rfl, fun r r0 r1 => ?_⟩
    obtain ⟨j, x, rfl, e⟩ := idx _ r r0 r1
    exact ⟨x, atI_nat e, q x (List.mem_of_getElem? e)⟩
  | tup ys =>
    cases hs
    simp only [b__law_of, envOf, dRet, dRetN, dOp, dSl, dSlO, dVar, dC, pSome, pNo, ev_sll, ev_slt, ev_sls, dBi, dCons, dNil, ev_lenl, ev_lent, ev_lens, ev_lenr, ev_gI, TC, Pd.gSub, gLt, gLe, gGt, gGe, gMod, gFdiv, gPow, gEq, gNe, ev_oki, ev_oks, ev_okl, ev_okt, gIs, gIsNot, gIsB, gIsNotB, Pd.isNon, dCall, dSeq, dSet, dSetO, dMul, setL, bCons, bOwn, bNil, dIf, dIte, dTB, dAnd, dOr, dNot, dBV, dAndV, dOrV, dChain, dTmp, dTmpT, frzE, dFrz, OD.d, dIxO, dApp, dSetI, dNeg, dLst, dLstO, dTup, dO, dDrop, ev_abs, ev_inttoi, ev_inttob, ev_inttos, ev_strtoi, ev_listl, ev_listt, ev_lists, ev_tupl, ev_tupt, ev_addi, ev_adds, ev_addl, ev_addt, ev_muli, ev_muls, ev_mull, ev_max, ev_min, ev_all, ev_any, gRepr, dLRg, Pd.r1, Pd.r2, eqD_str, eqD_int, eqD_bl, dFld, dProp, dMeth, dAugI, dRev, dMake, dIsi, isT, isC, dNx, dBrk, dNev, dFst, putFD, gNm, gTp, gsCons, gsNil, dAsg, dStar, dYes, iniEnd, flatD, wipeE, ev_ixl, ev_ixt, ev_ixs, ev_ixr, ev_srcl, ev_srct, ev_srcs, ev_at0, ev_at1, ev_atl, ev_atn, ev_ixn, Option.some.injEq, exists_eq_left', exists_eq_left, List.foldl_cons, List.foldl_nil, List.map_cons, List.map_nil, List.replicate, List.length_append, List.length_map, List.length_cons, List.length_nil, List.cons_append, List.nil_append, List.append_nil, List.getElem?_cons_zero, List.getElem?_cons_succ, List.set_cons_zero, List.set_cons_succ, Nat.zero_add, Nat.reduceAdd, Nat.reduceSub, Nat.reduceLeDiff, true_and, and_true, decide_eq_true_eq, decide_eq_false_iff_not, ne_eq, reduceCtorEq, false_implies, true_implies, forall_const, Bool.and_self, Bool.and_true, Bool.true_and, takeF]
    refine ⟨_, rfl, by omega, Nat.lt_of_le_of_lt (by simpa using h1) (by decide), m, rfl, fun r r0 r1 => ?_⟩
    obtain ⟨j, x, rfl, e⟩ := idx _ r r0 r1
    exact ⟨x, atI_nat e, q x (List.mem_of_getElem? e)⟩
  | str l =>
    cases hs
    rw [sgn_length] at h0 h1
    simp only [b__law_of, envOf, dRet, dRetN, dOp, dSl, dSlO, dVar, dC, pSome, pNo, ev_sll, ev_slt, ev_sls, dBi, dCons, dNil, ev_lenl, ev_lent, ev_lens, ev_lenr, ev_gI, TC, Pd.gSub, gLt, gLe, gGt, gGe, gMod, gFdiv, gPow, gEq, gNe, ev_oki, ev_oks, ev_okl, ev_okt, gIs, gIsNot, gIsB, gIsNotB, Pd.isNon, dCall, dSeq, dSet, dSetO, dMul, setL, bCons, bOwn, bNil, dIf, dIte, dTB, dAnd, dOr, dNot, dBV, dAndV, dOrV, dChain, dTmp, dTmpT, frzE, dFrz, OD.d, dIxO, dApp, dSetI, dNeg, dLst, dLstO, dTup, dO, dDrop, ev_abs, ev_inttoi, ev_inttob, ev_inttos, ev_strtoi, ev_listl, ev_listt, ev_lists, ev_tupl, ev_tupt, ev_addi, ev_adds, ev_addl, ev_addt, ev_muli, ev_muls, ev_mull, ev_max, ev_min, ev_all, ev_any, gRepr, dLRg, Pd.r1, Pd.r2, eqD_str, eqD_int, eqD_bl, dFld, dProp, dMeth, dAugI, dRev, dMake, dIsi, isT, isC, dNx, dBrk, dNev, dFst, putFD, gNm, gTp, gsCons, gsNil, dAsg, dStar, dYes, iniEnd, flatD, wipeE, ev_ixl, ev_ixt, ev_ixs, ev_ixr, ev_srcl, ev_srct, ev_srcs, ev_at0, ev_at1, ev_atl, ev_atn, ev_ixn, Option.some.injEq, exists_eq_left', exists_eq_left, List.foldl_cons, List.foldl_nil, List.map_cons, List.map_nil, List.replicate, List.length_append, List.length_map, List.length_cons, List.length_nil, List.cons_append, List.nil_append, List.append_nil, List.getElem?_cons_zero, List.getElem?_cons_succ, List.set_cons_zero, List.set_cons_succ, Nat.zero_add, Nat.reduceAdd, Nat.reduceSub, Nat.reduceLeDiff, true_and, and_true, decide_eq_true_eq, decide_eq_false_iff_not, ne_eq, reduceCtorEq, false_implies, true_implies, forall_const, Bool.and_self, Bool.and_true, Bool.true_and, takeF]
    refine ⟨hl l rfl, _, rfl, by omega, Nat.lt_of_le_of_lt (by simpa using h1) (by decide), m, rfl, fun r r0 r1 => ?_⟩
    obtain ⟨j, x, rfl, e⟩ := idx _ r r0 r1
    refine ⟨hl l rfl, x, atI_nat e, q _ ?_⟩
    unfold sgn
    exact List.mem_map_of_mem (List.mem_of_getElem? e)
  | _ => cases hs
def s_random : FD := fun ds n P => ∃ (l : List Nat) (k m : Nat), ds = [.pot, .str l, .int k] ∧ l ≠ [] ∧ l.length ≤ 1000 ∧ k ≤ 10000 ∧ n = m + k ∧ ∀ r : List Nat, r.length = k → (∀ x ∈ r, x ∈ l) → P m (.str r)
theorem flat_sgn (ls : List (List Nat)) (h : ∀ l ∈ ls, l.length = 1) : (ls.map (·.length)).sum = ls.length := by
  induction ls with
  | nil => rfl
  | cons a r ih =>
    rw [List.map_cons, List.sum_cons, ih fun l hl => h l (List.mem_cons_of_mem _ hl), h a (by simp), List.length_cons]
    omega
theorem l_random (c : Str → Addr) : ∀ ds n Q, s_random ds n Q → dFn 4 3 (b__law_random c s_of) ds n Q := by
  rintro ds n Q ⟨l, k, m, rfl, h0, h1, h2, rfl, q⟩
  refine ⟨rfl, ?_⟩
  simp only [b__law_random, envOf, dRet, dRetN, dOp, dSl, dSlO, dVar, dC, pSome, pNo, ev_sll, ev_slt, ev_sls, dBi, dCons, dNil, ev_lenl, ev_lent, ev_lens, ev_lenr, ev_gI, TC, Pd.gSub, gLt, gLe, gGt, gGe, gMod, gFdiv, gPow, gEq, gNe, ev_oki, ev_oks, ev_okl, ev_okt, gIs, gIsNot, gIsB, gIsNotB, Pd.isNon, dCall, dSeq, dSet, dSetO, dMul, setL, bCons, bOwn, bNil, dIf, dIte, dTB, dAnd, dOr, dNot, dBV, dAndV, dOrV, dChain, dTmp, dTmpT, frzE, dFrz, OD.d, dIxO, dApp, dSetI, dNeg, dLst, dLstO, dTup, dO, dDrop, ev_abs, ev_inttoi, ev_inttob, ev_inttos, ev_strtoi, ev_listl, ev_listt, ev_lists, ev_tupl, ev_tupt, ev_addi, ev_adds, ev_addl, ev_addt, ev_muli, ev_muls, ev_mull, ev_max, ev_min, ev_all, ev_any, gRepr, dLRg, Pd.r1, Pd.r2, eqD_str, eqD_int, eqD_bl, dFld, dProp, dMeth, dAugI, dRev, dMake, dIsi, isT, isC, dNx, dBrk, dNev, dFst, putFD, gNm, gTp, gsCons, gsNil, dAsg, dStar, dYes, iniEnd, flatD, wipeE, ev_ixl, ev_ixt, ev_ixs, ev_ixr, ev_srcl, ev_srct, ev_srcs, ev_at0, ev_at1, ev_atl, ev_atn, ev_ixn, Option.some.injEq, exists_eq_left', exists_eq_left, List.foldl_cons, List.foldl_nil, List.map_cons, List.map_nil, List.replicate, List.length_append, List.length_map, List.length_cons, List.length_nil, List.cons_append, List.nil_append, List.append_nil, List.getElem?_cons_zero, List.getElem?_cons_succ, List.set_cons_zero, List.set_cons_succ, Nat.zero_add, Nat.reduceAdd, Nat.reduceSub, Nat.reduceLeDiff, true_and, and_true, decide_eq_true_eq, decide_eq_false_iff_not, ne_eq, reduceCtorEq, false_implies, true_implies, forall_const, Bool.and_self, Bool.and_true, Bool.true_and, dJoin, dComp, iRg1]
  refine ⟨by omega, by omega, by rw [rngD_length]; omega, ?_⟩
  have go : ∀ (xs : List D) (r : List Nat), r.length + xs.length = k → (∀ x ∈ r, x ∈ l) → compW (gNm 3) dYes (dCall s_of [] (dCons (dVar 0) (dCons (dVar 1) dNil))) [.val .pot, .val (.str l), .val (.int k), .no]
      (fun n' ds => ∃ ls, isStrs ds = some ls ∧ (ls.map (·.length)).sum + ls.length * 0 ≤ 16777216 ∧ Q n' (.str (TL.joinL [] ls))) xs (sgn r) (m + xs.length) := by
    intro xs
    induction xs with
    | nil =>
      intro r hr hl
      refine ⟨r.map fun x => [x], ?_, ?_, ?_⟩
      · unfold sgn
        have : (r.map fun c => D.str [c]) = (r.map fun x => [x]).map D.str := by rw [List.map_map]; rfl
        rw [this, map_isStrs]
      · rw [flat_sgn _ (by intro a ha; obtain ⟨y, _, rfl⟩ := List.mem_map.mp ha; rfl)]
        simp only [List.length_map, List.length_nil] at hr ⊢
        omega
      · rw [joinL_nil]
        have e : (r.map fun x => [x]).flatten = r := by
          clear hr hl
          induction r with
          | nil => rfl
          | cons a r ih => rw [List.map_cons, List.flatten_cons, ih]; rfl
        rw [e]
        exact q r (by simpa using hr) hl
    | cons x xs ih =>
      intro r hr hl
      simp only [compW, envOf, dRet, dRetN, dOp, dSl, dSlO, dVar, dC, pSome, pNo, ev_sll, ev_slt, ev_sls, dBi, dCons, dNil, ev_lenl, ev_lent, ev_lens, ev_lenr, ev_gI, TC, Pd.gSub, gLt, gLe, gGt, gGe, gMod, gFdiv, gPow, gEq, gNe, ev_oki, ev_oks, ev_okl, ev_okt, gIs, gIsNot, gIsB, gIsNotB, Pd.isNon, dCall, dSeq, dSet, dSetO, dMul, setL, bCons, bOwn, bNil, dIf, dIte, dTB, dAnd, dOr, dNot, dBV, dAndV, dOrV, dChain, dTmp, dTmpT, frzE, dFrz, OD.d, dIxO, dApp, dSetI, dNeg, dLst, dLstO, dTup, dO, dDrop, ev_abs, ev_inttoi, ev_inttob, ev_inttos, ev_strtoi, ev_listl, ev_listt, ev_lists, ev_tupl, ev_tupt, ev_addi, ev_adds, ev_addl, ev_addt, ev_muli, ev_muls, ev_mull, ev_max, ev_min, ev_all, ev_any, gRepr, dLRg, Pd.r1, Pd.r2, eqD_str, eqD_int, eqD_bl, dFld, dProp, dMeth, dAugI, dRev, dMake, dIsi, isT, isC, dNx, dBrk, dNev, dFst, putFD, gNm, gTp, gsCons, gsNil, dAsg, dStar, dYes, iniEnd, flatD, wipeE, ev_ixl, ev_ixt, ev_ixs, ev_ixr, ev_srcl, ev_srct, ev_srcs, ev_at0, ev_at1, ev_atl, ev_atn, ev_ixn, Option.some.injEq, exists_eq_left', exists_eq_left, List.foldl_cons, List.foldl_nil, List.map_cons, List.map_nil, List.replicate, List.length_append, List.length_map, List.length_cons, List.length_nil, List.cons_append, List.nil_append, List.append_nil, List.getElem?_cons_zero, List.getElem?_cons_succ, List.set_cons_zero, List.set_cons_succ, Nat.zero_add, Nat.reduceAdd, Nat.reduceSub, Nat.reduceLeDiff, true_and, and_true, decide_eq_true_eq, decide_eq_false_iff_not, ne_eq, reduceCtorEq, false_implies, true_implies, forall_const, Bool.and_self, Bool.and_true, Bool.true_and, s_of]
      refine ⟨.str l, sgn l, m + xs.length, rfl, rfl, fun l' e => by cases e; omega, by rw [sgn_length]; exact List.length_pos_iff.mpr h0, by rw [sgn_length]; omega, by omega, fun y hy => ?_⟩
      unfold sgn at hy
      obtain ⟨z, hz, rfl⟩ := List.mem_map.mp hy
      have e : sgn r ++ [.str [z]] = sgn (r ++ [z]) := by unfold sgn; rw [List.map_append]; rfl
      rw [e]
      refine ih (r ++ [z]) (by rw [List.length_append, List.length_singleton]; rw [List.length_cons] at hr; omega) fun x hx => ?_
      rcases List.mem_append.mp hx with h | h
      · exact hl x h
      · rw [List.mem_singleton.mp h]
        exact hz
  have := go (rngD 0 (k : Int).toNat) [] (by rw [rngD_length]; simp) (by simp)
  rw [rngD_length] at this
  simpa [sgn] using this
abbrev Bl := Nat × Nat
def blkD (b : Bl) : D := .tup [.str [b.1], .int (b.2 : Nat)]
def expand : List Bl → List Nat
  | [] => []
  | b :: r => List.replicate b.2 b.1 ++ expand r
def Adj : List Bl → Prop
  | [] => True
  | [_] => True
  | a :: b :: r => a.1 ≠ b.1 ∧ Adj (b :: r)
structure Good (bs : List Bl) : Prop where
  adj : Adj bs
  pos : ∀ b ∈ bs, 1 ≤ b.2
theorem expand_append : ∀ (a b : List Bl), expand (a ++ b) = expand a ++ expand b
  | [], b => rfl
  | x :: a, b => by
    rw [List.cons_append, expand, expand, expand_append a b, List.append_assoc]
theorem Adj.snoc : ∀ {a : List Bl} {d : Bl} {x : Bl}, Adj (a ++ [d]) → d.1 ≠ x.1 → Adj (a ++ [d] ++ [x])
  | [], d, x, _, h => ⟨h, trivial⟩
  | [y], d, x, g, h => ⟨g.1, h, trivial⟩
  | y :: z :: a, d, x, g, h => ⟨g.1, Adj.snoc (a := z :: a) g.2 h⟩
theorem Adj.last : ∀ {a : List Bl} {d e : Bl}, Adj (a ++ [d]) → d.1 = e.1 → Adj (a ++ [e])
  | [], d, e, _, _ => trivial
  | [y], d, e, g, h => ⟨fun q => g.1 (q.trans h.symm), trivial⟩
  | y :: z :: a, d, e, g, h => ⟨g.1, Adj.last (a := z :: a) g.2 h⟩
theorem isPds_blk : ∀ {bs : List Bl}, (∀ b ∈ bs, b.1 < 1114112) → isPds (bs.map blkD) = true
  | [], _ => by simp [isPds]
  | b :: bs, h => by
    have h1 := h b (by simp)
    rw [List.map_cons, isPds, isPds_blk fun x hx => h x (List.mem_cons_of_mem _ hx)]
    simp [blkD, isPd, isPds, h1]
theorem dpts_blk : ∀ (bs : List Bl), dpts (bs.map blkD) ≤ 1
  | [] => by simp [dpts]
  | b :: bs => by
    rw [List.map_cons, dpts]
    have := dpts_blk bs
    have e : dpt (blkD b) = 1 := by simp [blkD, dpt, dpts]
    omega
theorem okD_blks {bs : List Bl} (h : ∀ b ∈ bs, b.1 < 1114112) : okD (.lst (bs.map blkD)) = true := by
  unfold okD
  rw [isPd, isPds_blk h, dpt]
  have := dpts_blk bs
  simp only [Bool.true_and, decide_eq_true_eq]
  omega
theorem okD_nil : okD (.lst []) = true := by decide
theorem eqD_snoc (xs : List D) (x : D) : eqD (.lst (xs ++ [x])) (.lst []) = false := by
  cases xs <;> simp [eqD, eqDs]
theorem set_last {α : Type} (xs : List α) (y z : α) : (xs ++ [y]).set xs.length z = xs ++ [z] := by
  rw [List.set_append_right _ _ (Nat.le_refl _), Nat.sub_self]
  rfl
theorem mem_expand : ∀ {bs : List Bl} {b : Bl}, b ∈ bs → 1 ≤ b.2 → b.1 ∈ expand bs
  | a :: r, b, h, h1 => by
    rw [expand]
    rcases List.mem_cons.mp h with e | e
    · rw [e] at h1 ⊢
      exact List.mem_append_left _ (List.mem_replicate.mpr ⟨by omega, rfl⟩)
    · exact List.mem_append_right _ (mem_expand e h1)
def s_blocks : FD := fun ds n P => ∃ l : List Nat, ds = [.str l] ∧ l.length ≤ 1000000 ∧ (∀ c ∈ l, c < 1114112) ∧ ∀ bs, expand bs = l → Good bs → P n (.lst (bs.map blkD))
theorem l_blocks (c : Str → Addr) : ∀ ds n Q, s_blocks ds n Q → dFn 3 1 (b__law_blocks c) ds n Q := by
  rintro ds n Q ⟨l, rfl, h0, h1, q⟩
  refine ⟨rfl, ?_⟩
  simp only [b__law_blocks, envOf, dRet, dRetN, dOp, dSl, dSlO, dVar, dC, pSome, pNo, ev_sll, ev_slt, ev_sls, dBi, dCons, dNil, ev_lenl, ev_lent, ev_lens, ev_lenr, ev_gI, TC, Pd.gSub, gLt, gLe, gGt, gGe, gMod, gFdiv, gPow, gEq, gNe, ev_oki, ev_oks, ev_okl, ev_okt, gIs, gIsNot, gIsB, gIsNotB, Pd.isNon, dCall, dSeq, dSet, dSetO, dMul, setL, bCons, bOwn, bNil, dIf, dIte, dTB, dAnd, dOr, dNot, dBV, dAndV, dOrV, dChain, dTmp, dTmpT, frzE, dFrz, OD.d, dIxO, dApp, dSetI, dNeg, dLst, dLstO, dTup, dO, dDrop, ev_abs, ev_inttoi, ev_inttob, ev_inttos, ev_strtoi, ev_listl, ev_listt, ev_lists, ev_tupl, ev_tupt, ev_addi, ev_adds, ev_addl, ev_addt, ev_muli, ev_muls, ev_mull, ev_max, ev_min, ev_all, ev_any, gRepr, dLRg, Pd.r1, Pd.r2, eqD_str, eqD_int, eqD_bl, dFld, dProp, dMeth, dAugI, dRev, dMake, dIsi, isT, isC, dNx, dBrk, dNev, dFst, putFD, gNm, gTp, gsCons, gsNil, dAsg, dStar, dYes, iniEnd, flatD, wipeE, ev_ixl, ev_ixt, ev_ixs, ev_ixr, ev_srcl, ev_srct, ev_srcs, ev_at0, ev_at1, ev_atl, ev_atn, ev_ixn, Option.some.injEq, exists_eq_left', exists_eq_left, List.foldl_cons, List.foldl_nil, List.map_cons, List.map_nil, List.replicate, List.length_append, List.length_map, List.length_cons, List.length_nil, List.cons_append, List.nil_append, List.append_nil, List.getElem?_cons_zero, List.getElem?_cons_succ, List.set_cons_zero, List.set_cons_succ, Nat.zero_add, Nat.reduceAdd, Nat.reduceSub, Nat.reduceLeDiff, true_and, and_true, decide_eq_true_eq, decide_eq_false_iff_not, ne_eq, reduceCtorEq, false_implies, true_implies, forall_const, Bool.and_self, Bool.and_true, Bool.true_and, dFor, iVal]
  refine forW_ind (Inv := fun ys n' ε => ∃ (xs p : List Nat) (bs : List Bl) (s2 : Sl), ys = sgn xs ∧ n' = n ∧ ε = [.val (.str l), .own (.lst (bs.map blkD)), s2] ∧ p ++ xs = l ∧ expand bs = p ∧ Good bs ∧ bs.length ≤ p.length) ?_ ?_ _ _ _ ⟨l, [], [], .no, rfl, rfl, rfl, rfl, rfl, ⟨trivial, fun b hb => by cases hb⟩, Nat.le_refl _⟩
  · rintro n' ε ⟨xs, p, bs, s2, e, rfl, rfl, hp, hb, hg, hl⟩
    have : xs = [] := List.map_eq_nil_iff.mp e.symm
    subst this
    rw [List.append_nil] at hp
    simp only [envOf, dRet, dRetN, dOp, dSl, dSlO, dVar, dC, pSome, pNo, ev_sll, ev_slt, ev_sls, dBi, dCons, dNil, ev_lenl, ev_lent, ev_lens, ev_lenr, ev_gI, TC, Pd.gSub, gLt, gLe, gGt, gGe, gMod, gFdiv, gPow, gEq, gNe, ev_oki, ev_oks, ev_okl, ev_okt, gIs, gIsNot, gIsB, gIsNotB, Pd.isNon, dCall, dSeq, dSet, dSetO, dMul, setL, bCons, bOwn, bNil, dIf, dIte, dTB, dAnd, dOr, dNot, dBV, dAndV, dOrV, dChain, dTmp, dTmpT, frzE, dFrz, OD.d, dIxO, dApp, dSetI, dNeg, dLst, dLstO, dTup, dO, dDrop, ev_abs, ev_inttoi, ev_inttob, ev_inttos, ev_strtoi, ev_listl, ev_listt, ev_lists, ev_tupl, ev_tupt, ev_addi, ev_adds, ev_addl, ev_addt, ev_muli, ev_muls, ev_mull, ev_max, ev_min, ev_all, ev_any, gRepr, dLRg, Pd.r1, Pd.r2, eqD_str, eqD_int, eqD_bl, dFld, dProp, dMeth, dAugI, dRev, dMake, dIsi, isT, isC, dNx, dBrk, dNev, dFst, putFD, gNm, gTp, gsCons, gsNil, dAsg, dStar, dYes, iniEnd, flatD, wipeE, ev_ixl, ev_ixt, ev_ixs, ev_ixr, ev_srcl, ev_srct, ev_srcs, ev_at0, ev_at1, ev_atl, ev_atn, ev_ixn, Option.some.injEq, exists_eq_left', exists_eq_left, List.foldl_cons, List.foldl_nil, List.map_cons, List.map_nil, List.replicate, List.length_append, List.length_map, List.length_cons, List.length_nil, List.cons_append, List.nil_append, List.append_nil, List.getElem?_cons_zero, List.getElem?_cons_succ, List.set_cons_zero, List.set_cons_succ, Nat.zero_add, Nat.reduceAdd, Nat.reduceSub, Nat.reduceLeDiff, true_and, and_true, decide_eq_true_eq, decide_eq_false_iff_not, ne_eq, reduceCtorEq, false_implies, true_implies, forall_const, Bool.and_self, Bool.and_true, Bool.true_and]
    exact q bs (hb.trans hp) hg
  · rintro y ys n' ε ih ⟨xs, p, bs, s2, e, rfl, rfl, hp, hb, hg, hl⟩
    match xs, e with
    | x :: xs, e =>
      obtain ⟨rfl, rfl⟩ : y = .str [x] ∧ ys = sgn xs := by simpa [sgn] using e
      have hx : x < 1114112 := h1 x (by rw [← hp]; simp)
      have hlt : ∀ b ∈ bs, b.1 < 1114112 := fun b hb' => h1 b.1 (by
        rw [← hp, ← hb]
        exact List.mem_append_left _ (mem_expand hb' (hg.pos b hb')))
      have hpl : p.length + (xs.length + 1) ≤ 1000000 := by
        have := congrArg List.length hp
        rw [List.length_append, List.length_cons] at this
        omega
      have ih' := fun bs' h1 h2 h3 => ih n' _ ⟨xs, p ++ [x], bs', .val (.str [x]), rfl, rfl, rfl, by rw [List.append_assoc]; exact hp, h1, h2, by rw [List.length_append]; exact h3⟩
      rcases List.eq_nil_or_concat bs with rfl | ⟨as, d, rfl⟩
      · simp only [envOf, dRet, dRetN, dOp, dSl, dSlO, dVar, dC, pSome, pNo, ev_sll, ev_slt, ev_sls, dBi, dCons, dNil, ev_lenl, ev_lent, ev_lens, ev_lenr, ev_gI, TC, Pd.gSub, gLt, gLe, gGt, gGe, gMod, gFdiv, gPow, gEq, gNe, ev_oki, ev_oks, ev_okl, ev_okt, gIs, gIsNot, gIsB, gIsNotB, Pd.isNon, dCall, dSeq, dSet, dSetO, dMul, setL, bCons, bOwn, bNil, dIf, dIte, dTB, dAnd, dOr, dNot, dBV, dAndV, dOrV, dChain, dTmp, dTmpT, frzE, dFrz, OD.d, dIxO, dApp, dSetI, dNeg, dLst, dLstO, dTup, dO, dDrop, ev_abs, ev_inttoi, ev_inttob, ev_inttos, ev_strtoi, ev_listl, ev_listt, ev_lists, ev_tupl, ev_tupt, ev_addi, ev_adds, ev_addl, ev_addt, ev_muli, ev_muls, ev_mull, ev_max, ev_min, ev_all, ev_any, gRepr, dLRg, Pd.r1, Pd.r2, eqD_str, eqD_int, eqD_bl, dFld, dProp, dMeth, dAugI, dRev, dMake, dIsi, isT, isC, dNx, dBrk, dNev, dFst, putFD, gNm, gTp, gsCons, gsNil, dAsg, dStar, dYes, iniEnd, flatD, wipeE, ev_ixl, ev_ixt, ev_ixs, ev_ixr, ev_srcl, ev_srct, ev_srcs, ev_at0, ev_at1, ev_atl, ev_atn, ev_ixn, Option.some.injEq, exists_eq_left', exists_eq_left, List.foldl_cons, List.foldl_nil, List.map_cons, List.map_nil, List.replicate, List.length_append, List.length_map, List.length_cons, List.length_nil, List.cons_append, List.nil_append, List.append_nil, List.getElem?_cons_zero, List.getElem?_cons_succ, List.set_cons_zero, List.set_cons_succ, Nat.zero_add, Nat.reduceAdd, Nat.reduceSub, Nat.reduceLeDiff, true_and, and_true, decide_eq_true_eq, decide_eq_false_iff_not, ne_eq, reduceCtorEq, false_implies, true_implies, forall_const, Bool.and_self, Bool.and_true, Bool.true_and, okD_nil, eqD, eqDs, Bool.not_true]
        refine ⟨by decide, ih' [(x, 1)] ?_ ⟨trivial, fun b hb => by simp at hb; subst hb; exact Nat.le_refl _⟩ (by simp)⟩
        rw [← hb]
        rfl
      · rw [List.concat_eq_append] at *
        rw [List.map_append, List.map_cons, List.map_nil] at *
        have hok : okD (.lst (as.map blkD ++ [blkD d])) = true := by
          have := okD_blks hlt
          rwa [List.map_append] at this
        simp only [envOf, dRet, dRetN, dOp, dSl, dSlO, dVar, dC, pSome, pNo, ev_sll, ev_slt, ev_sls, dBi, dCons, dNil, ev_lenl, ev_lent, ev_lens, ev_lenr, ev_gI, TC, Pd.gSub, gLt, gLe, gGt, gGe, gMod, gFdiv, gPow, gEq, gNe, ev_oki, ev_oks, ev_okl, ev_okt, gIs, gIsNot, gIsB, gIsNotB, Pd.isNon, dCall, dSeq, dSet, dSetO, dMul, setL, bCons, bOwn, bNil, dIf, dIte, dTB, dAnd, dOr, dNot, dBV, dAndV, dOrV, dChain, dTmp, dTmpT, frzE, dFrz, OD.d, dIxO, dApp, dSetI, dNeg, dLst, dLstO, dTup, dO, dDrop, ev_abs, ev_inttoi, ev_inttob, ev_inttos, ev_strtoi, ev_listl, ev_listt, ev_lists, ev_tupl, ev_tupt, ev_addi, ev_adds, ev_addl, ev_addt, ev_muli, ev_muls, ev_mull, ev_max, ev_min, ev_all, ev_any, gRepr, dLRg, Pd.r1, Pd.r2, eqD_str, eqD_int, eqD_bl, dFld, dProp, dMeth, dAugI, dRev, dMake, dIsi, isT, isC, dNx, dBrk, dNev, dFst, putFD, gNm, gTp, gsCons, gsNil, dAsg, dStar, dYes, iniEnd, flatD, wipeE, ev_ixl, ev_ixt, ev_ixs, ev_ixr, ev_srcl, ev_srct, ev_srcs, ev_at0, ev_at1, ev_atl, ev_atn, ev_ixn, Option.some.injEq, exists_eq_left', exists_eq_left, List.foldl_cons, List.foldl_nil, List.map_cons, List.map_nil, List.replicate, List.length_append, List.length_map, List.length_cons, List.length_nil, List.cons_append, List.nil_append, List.append_nil, List.getElem?_cons_zero, List.getElem?_cons_succ, List.set_cons_zero, List.set_cons_succ, Nat.zero_add, Nat.reduceAdd, Nat.reduceSub, Nat.reduceLeDiff, true_and, and_true, decide_eq_true_eq, decide_eq_false_iff_not, ne_eq, reduceCtorEq, false_implies, true_implies, forall_const, Bool.and_self, Bool.and_true, Bool.true_and, okD_nil, hok, eqD_snoc, Bool.not_false]
        simp only [blkD, envOf, dRet, dRetN, dOp, dSl, dSlO, dVar, dC, pSome, pNo, ev_sll, ev_slt, ev_sls, dBi, dCons, dNil, ev_lenl, ev_lent, ev_lens, ev_lenr, ev_gI, TC, Pd.gSub, gLt, gLe, gGt, gGe, gMod, gFdiv, gPow, gEq, gNe, ev_oki, ev_oks, ev_okl, ev_okt, gIs, gIsNot, gIsB, gIsNotB, Pd.isNon, dCall, dSeq, dSet, dSetO, dMul, setL, bCons, bOwn, bNil, dIf, dIte, dTB, dAnd, dOr, dNot, dBV, dAndV, dOrV, dChain, dTmp, dTmpT, frzE, dFrz, OD.d, dIxO, dApp, dSetI, dNeg, dLst, dLstO, dTup, dO, dDrop, ev_abs, ev_inttoi, ev_inttob, ev_inttos, ev_strtoi, ev_listl, ev_listt, ev_lists, ev_tupl, ev_tupt, ev_addi, ev_adds, ev_addl, ev_addt, ev_muli, ev_muls, ev_mull, ev_max, ev_min, ev_all, ev_any, gRepr, dLRg, Pd.r1, Pd.r2, eqD_str, eqD_int, eqD_bl, dFld, dProp, dMeth, dAugI, dRev, dMake, dIsi, isT, isC, dNx, dBrk, dNev, dFst, putFD, gNm, gTp, gsCons, gsNil, dAsg, dStar, dYes, iniEnd, flatD, wipeE, ev_ixl, ev_ixt, ev_ixs, ev_ixr, ev_srcl, ev_srct, ev_srcs, ev_at0, ev_at1, ev_atl, ev_atn, ev_ixn, Option.some.injEq, exists_eq_left', exists_eq_left, List.foldl_cons, List.foldl_nil, List.map_cons, List.map_nil, List.replicate, List.length_append, List.length_map, List.length_cons, List.length_nil, List.cons_append, List.nil_append, List.append_nil, List.getElem?_cons_zero, List.getElem?_cons_succ, List.set_cons_zero, List.set_cons_succ, Nat.zero_add, Nat.reduceAdd, Nat.reduceSub, Nat.reduceLeDiff, true_and, and_true, decide_eq_true_eq, decide_eq_false_iff_not, ne_eq, reduceCtorEq, false_implies, true_implies, forall_const, Bool.and_self, Bool.and_true, Bool.true_and, List.cons.injEq]
        refine ⟨fun he => ?_, fun he => ?_⟩
        · have e2 : ((as.map blkD ++ [D.tup [.str [d.1], .int (d.2 : Nat)]]).set as.length (.tup [.str [x], .int ((d.2 : Int) + 1)])) = (as ++ [(x, d.2 + 1)]).map blkD := by
            rw [show as.length = (as.map blkD).length by rw [List.length_map], set_last, List.map_append]
            rfl
          have e3 : (List.map (fun b : Bl => D.tup [.str [b.1], .int (b.2 : Nat)]) as ++ [D.tup [.str [d.1], .int (d.2 : Nat)]]) = as.map blkD ++ [D.tup [.str [d.1], .int (d.2 : Nat)]] := rfl
          first | rw [e3, e2] | rw [e2]
          refine ih' _ ?_ ⟨Adj.last hg.adj he, fun b hb' => ?_⟩ (by rw [List.length_append, List.length_singleton] at hl ⊢; rw [List.length_singleton]; omega)
          · rw [← hb, expand_append, expand_append, List.append_assoc]
            congr 1
            simp only [expand, List.append_nil]
            rw [he, List.replicate_succ']
          · rcases List.mem_append.mp hb' with h | h
            · exact hg.pos b (List.mem_append_left _ h)
            · rw [List.mem_singleton.mp h]
              exact Nat.le_add_left _ _
        · have hne : d.1 ≠ x := fun q => he q
          refine ⟨by have : as.length + 1 ≤ p.length := by simpa using hl
                     omega, ?_⟩
          have e3 : (List.map blkD as ++ [D.tup [.str [d.1], .int (d.2 : Nat)], D.tup [.str [x], .int 1]]) = (as ++ [d] ++ [(x, 1)]).map blkD := by
            rw [List.map_append, List.map_append]
            simp [blkD]
          simp only [List.append_assoc, List.cons_append, List.nil_append]
          have e4 : (List.map (fun b : Bl => D.tup [.str [b.1], .int (b.2 : Nat)]) as ++ [D.tup [.str [d.1], .int (d.2 : Nat)], D.tup [.str [x], .int 1]]) = List.map blkD as ++ [D.tup [.str [d.1], .int (d.2 : Nat)], D.tup [.str [x], .int 1]] := rfl
          first | rw [e4, e3] | rw [e3]
          refine ih' _ ?_ ⟨Adj.snoc hg.adj hne, fun b hb' => ?_⟩ (by rw [List.length_append, List.length_singleton]; rw [List.length_singleton]; omega)
          · rw [expand_append, hb]
            rfl
          · rcases List.mem_append.mp hb' with h | h
            · exact hg.pos b h
            · rw [List.mem_singleton.mp h]
              exact Nat.le_refl _
end LW
namespace LW
open PySem L2 Pd
theorem numD_digits (k : Nat) : numD (k : Int) = (Nat.toDigits 10 k).map Char.toNat := PySem.W.KIN.signs_num k
theorem numD_dig {k c : Nat} (h : c ∈ numD (k : Int)) : 48 ≤ c ∧ c ≤ 57 := by
  rw [numD_digits] at h
  obtain ⟨ch, hch, e⟩ := List.mem_map.mp h
  have r := PyProof.Rows.digit_range (Nat.isDigit_of_mem_toDigits (by decide) (by decide) hch)
  rw [← e]
  exact r
theorem numD_ne (k : Nat) : numD (k : Int) ≠ [] := by
  rw [numD_digits]
  intro e
  have h := PyProof.Rows.tDigits_len_ge 10 k
  rw [List.map_eq_nil_iff.mp e] at h
  exact absurd h (by decide)
theorem numD_len {k : Nat} (h : k < 10 ^ 31) : (numD (k : Int)).length ≤ 31 := by
  rw [numD_digits, List.length_map]
  exact PyProof.Rows.digits10_le (by decide) h
theorem numD_back {k : Nat} (h : k < 10 ^ 31) : PySem.intText? ⟨(numD (k : Int)).toArray⟩ = some (k : Int) := by
  have hl := numD_len h
  have e := intText_digits (x := ⟨(numD (k : Int)).toArray⟩) (fun c hc => numD_dig (by simpa using hc)) (by simpa using numD_ne k) (by simp only [Str.length, List.size_toArray]; omega)
  have e2 : (⟨(numD (k : Int)).toArray⟩ : Str).cps.toList = (Nat.toDigits 10 k).map Char.toNat := by
    rw [← numD_digits]
  rw [e2, PySem.W.KIN.val_back] at e
  exact e
theorem log_lt {k : Nat} (h : k < 10 ^ 31) : ((k : Int)).natAbs.log2 < 1920 := by
  rw [Int.natAbs_natCast]
  by_cases h0 : k = 0
  · subst h0
    decide
  · rw [Nat.log2_lt h0]
    exact Nat.lt_of_lt_of_le h (by decide)
def tail (k : Nat) : List Nat := if 1 < k then numD (k : Int) else []
def txt : List Bl → List Nat
  | [] => []
  | b :: r => (b.1 :: tail b.2) ++ txt r
theorem tail_len {k : Nat} (h : k < 10 ^ 31) : (tail k).length ≤ 31 := by
  unfold tail
  split
  · exact numD_len h
  · exact Nat.zero_le _
theorem txt_len : ∀ {bs : List Bl}, (∀ b ∈ bs, b.2 < 10 ^ 31) → (txt bs).length ≤ 32 * bs.length
  | [], _ => Nat.le_refl _
  | b :: r, h => by
    have h1 := tail_len (h b (by simp))
    have h2 := txt_len (bs := r) fun x hx => h x (List.mem_cons_of_mem _ hx)
    rw [txt, List.length_append, List.length_cons, List.length_cons]
    omega
def s_block_text : FD := fun ds n P => ∃ bs : List Bl, ds = [.lst (bs.map blkD)] ∧ bs.length ≤ 1000 ∧ (∀ b ∈ bs, b.2 < 10 ^ 31) ∧ P n (.str (txt bs))
theorem txt_flat : ∀ bs : List Bl, (bs.map fun b => b.1 :: tail b.2).flatten = txt bs
  | [] => rfl
  | b :: r => by rw [List.map_cons, List.flatten_cons, txt_flat r]; rfl
theorem l_block_text (c : Str → Addr) : ∀ ds n Q, s_block_text ds n Q → dFn 3 1 (b__law_block_text c) ds n Q := by
  rintro ds n Q ⟨bs, rfl, h0, h1, q⟩
  refine ⟨rfl, ?_⟩
  simp only [b__law_block_text, envOf, dRet, dRetN, dOp, dSl, dSlO, dVar, dC, pSome, pNo, ev_sll, ev_slt, ev_sls, dBi, dCons, dNil, ev_lenl, ev_lent, ev_lens, ev_lenr, ev_gI, TC, Pd.gSub, gLt, gLe, gGt, gGe, gMod, gFdiv, gPow, gEq, gNe, ev_oki, ev_oks, ev_okl, ev_okt, gIs, gIsNot, gIsB, gIsNotB, Pd.isNon, dCall, dSeq, dSet, dSetO, dMul, setL, bCons, bOwn, bNil, dIf, dIte, dTB, dAnd, dOr, dNot, dBV, dAndV, dOrV, dChain, dTmp, dTmpT, frzE, dFrz, OD.d, dIxO, dApp, dSetI, dNeg, dLst, dLstO, dTup, dO, dDrop, ev_abs, ev_inttoi, ev_inttob, ev_inttos, ev_strtoi, ev_listl, ev_listt, ev_lists, ev_tupl, ev_tupt, ev_addi, ev_adds, ev_addl, ev_addt, ev_muli, ev_muls, ev_mull, ev_max, ev_min, ev_all, ev_any, gRepr, dLRg, Pd.r1, Pd.r2, eqD_str, eqD_int, eqD_bl, dFld, dProp, dMeth, dAugI, dRev, dMake, dIsi, isT, isC, dNx, dBrk, dNev, dFst, putFD, gNm, gTp, gsCons, gsNil, dAsg, dStar, dYes, iniEnd, flatD, wipeE, ev_ixl, ev_ixt, ev_ixs, ev_ixr, ev_srcl, ev_srct, ev_srcs, ev_at0, ev_at1, ev_atl, ev_atn, ev_ixn, Option.some.injEq, exists_eq_left', exists_eq_left, List.foldl_cons, List.foldl_nil, List.map_cons, List.map_nil, List.replicate, List.length_append, List.length_map, List.length_cons, List.length_nil, List.cons_append, List.nil_append, List.append_nil, List.getElem?_cons_zero, List.getElem?_cons_succ, List.set_cons_zero, List.set_cons_succ, Nat.zero_add, Nat.reduceAdd, Nat.reduceSub, Nat.reduceLeDiff, true_and, and_true, decide_eq_true_eq, decide_eq_false_iff_not, ne_eq, reduceCtorEq, false_implies, true_implies, forall_const, Bool.and_self, Bool.and_true, Bool.true_and, dJoin, dComp, iVal]
  refine ⟨by omega, ?_⟩
  refine compW_pure (fun _ => true) (fun d => match d with
    | .tup [.str [a], .int k] => .str (a :: tail k.toNat)
    | _ => .non) _ _ _ (fun x hx n K K' q1 q2 => ?_) ?_
  · obtain ⟨b, hb, rfl⟩ := List.mem_map.mp hx
    have hk := h1 b hb
    have q3 : K n (.str (b.1 :: tail b.2)) := q1 rfl
    simp only [blkD, envOf, dRet, dRetN, dOp, dSl, dSlO, dVar, dC, pSome, pNo, ev_sll, ev_slt, ev_sls, dBi, dCons, dNil, ev_lenl, ev_lent, ev_lens, ev_lenr, ev_gI, TC, Pd.gSub, gLt, gLe, gGt, gGe, gMod, gFdiv, gPow, gEq, gNe, ev_oki, ev_oks, ev_okl, ev_okt, gIs, gIsNot, gIsB, gIsNotB, Pd.isNon, dCall, dSeq, dSet, dSetO, dMul, setL, bCons, bOwn, bNil, dIf, dIte, dTB, dAnd, dOr, dNot, dBV, dAndV, dOrV, dChain, dTmp, dTmpT, frzE, dFrz, OD.d, dIxO, dApp, dSetI, dNeg, dLst, dLstO, dTup, dO, dDrop, ev_abs, ev_inttoi, ev_inttob, ev_inttos, ev_strtoi, ev_listl, ev_listt, ev_lists, ev_tupl, ev_tupt, ev_addi, ev_adds, ev_addl, ev_addt, ev_muli, ev_muls, ev_mull, ev_max, ev_min, ev_all, ev_any, gRepr, dLRg, Pd.r1, Pd.r2, eqD_str, eqD_int, eqD_bl, dFld, dProp, dMeth, dAugI, dRev, dMake, dIsi, isT, isC, dNx, dBrk, dNev, dFst, putFD, gNm, gTp, gsCons, gsNil, dAsg, dStar, dYes, iniEnd, flatD, wipeE, ev_ixl, ev_ixt, ev_ixs, ev_ixr, ev_srcl, ev_srct, ev_srcs, ev_at0, ev_at1, ev_atl, ev_atn, ev_ixn, Option.some.injEq, exists_eq_left', exists_eq_left, List.foldl_cons, List.foldl_nil, List.map_cons, List.map_nil, List.replicate, List.length_append, List.length_map, List.length_cons, List.length_nil, List.cons_append, List.nil_append, List.append_nil, List.getElem?_cons_zero, List.getElem?_cons_succ, List.set_cons_zero, List.set_cons_succ, Nat.zero_add, Nat.reduceAdd, Nat.reduceSub, Nat.reduceLeDiff, true_and, and_true, decide_eq_true_eq, decide_eq_false_iff_not, ne_eq, reduceCtorEq, false_implies, true_implies, forall_const, Bool.and_self, Bool.and_true, Bool.true_and]
    refine ⟨fun h => ?_, fun h => ?_⟩
    · have hk1 : 1 < b.2 := by omega
      have e : tail b.2 = numD (b.2 : Int) := by unfold tail; rw [if_pos hk1]
      rw [e] at q3
      have := numD_len hk
      exact ⟨log_lt hk, by omega, q3⟩
    · have hk1 : ¬ 1 < b.2 := by omega
      have e : tail b.2 = [] := by unfold tail; rw [if_neg hk1]
      rw [e] at q3
      exact q3
  · have e : (([] : List D) ++ ((bs.map blkD).filter fun _ => true).map (fun d : D => match d with
      | .tup [.str [a], .int k] => D.str (a :: tail k.toNat)
      | _ => .non)) = (bs.map fun b => b.1 :: tail b.2).map D.str := by
      rw [List.nil_append, List.filter_eq_self.mpr (fun _ _ => rfl), List.map_map, List.map_map]
      exact List.map_congr_left fun b _ => by simp [blkD]
    rw [e, map_isStrs]
    refine ⟨_, rfl, ?_, ?_⟩
    · have e2 : ((bs.map fun b => b.1 :: tail b.2).map (·.length)).sum = (txt bs).length := by
        rw [← txt_flat, List.length_flatten]
      rw [e2]
      have := txt_len h1
      simp only [Nat.mul_zero, Nat.add_zero]
      omega
    · rw [joinL_nil, txt_flat]
      exact q
def s_whole_in : FD := fun ds n P => ∃ k : Nat, ds = [.str (numD (k : Int))] ∧ k < 10 ^ 31 ∧ P n (.int k)
theorem l_whole_in (c : Str → Addr) : ∀ ds n Q, s_whole_in ds n Q → dFn 3 1 (b_whole_in c) ds n Q := by
  rintro ds n Q ⟨k, rfl, h0, q⟩
  refine ⟨rfl, ?_⟩
  have hl := numD_len h0
  have hne := numD_ne k
  have hd := fun c => numD_dig (k := k) (c := c)
  have hb := numD_back h0
  generalize hD : numD (k : Int) = l at *
  have e1 : ¬ (cut l none (some 1) = [45]) := by
    rw [show (1 : Int) = ((1 : Nat) : Int) from rfl, cut_to]
    match l, hne with
    | a :: r, _ =>
      intro e
      have := (hd a (by simp)).1
      simp at e
      omega
  have hpos : 0 < l.length := List.length_pos_iff.mpr hne
  simp only [b_whole_in, envOf, dRet, dRetN, dOp, dSl, dSlO, dVar, dC, pSome, pNo, ev_sll, ev_slt, ev_sls, dBi, dCons, dNil, ev_lenl, ev_lent, ev_lens, ev_lenr, ev_gI, TC, Pd.gSub, gLt, gLe, gGt, gGe, gMod, gFdiv, gPow, gEq, gNe, ev_oki, ev_oks, ev_okl, ev_okt, gIs, gIsNot, gIsB, gIsNotB, Pd.isNon, dCall, dSeq, dSet, dSetO, dMul, setL, bCons, bOwn, bNil, dIf, dIte, dTB, dAnd, dOr, dNot, dBV, dAndV, dOrV, dChain, dTmp, dTmpT, frzE, dFrz, OD.d, dIxO, dApp, dSetI, dNeg, dLst, dLstO, dTup, dO, dDrop, ev_abs, ev_inttoi, ev_inttob, ev_inttos, ev_strtoi, ev_listl, ev_listt, ev_lists, ev_tupl, ev_tupt, ev_addi, ev_adds, ev_addl, ev_addt, ev_muli, ev_muls, ev_mull, ev_max, ev_min, ev_all, ev_any, gRepr, dLRg, Pd.r1, Pd.r2, eqD_str, eqD_int, eqD_bl, dFld, dProp, dMeth, dAugI, dRev, dMake, dIsi, isT, isC, dNx, dBrk, dNev, dFst, putFD, gNm, gTp, gsCons, gsNil, dAsg, dStar, dYes, iniEnd, flatD, wipeE, ev_ixl, ev_ixt, ev_ixs, ev_ixr, ev_srcl, ev_srct, ev_srcs, ev_at0, ev_at1, ev_atl, ev_atn, ev_ixn, Option.some.injEq, exists_eq_left', exists_eq_left, List.foldl_cons, List.foldl_nil, List.map_cons, List.map_nil, List.replicate, List.length_append, List.length_map, List.length_cons, List.length_nil, List.cons_append, List.nil_append, List.append_nil, List.getElem?_cons_zero, List.getElem?_cons_succ, List.set_cons_zero, List.set_cons_succ, Nat.zero_add, Nat.reduceAdd, Nat.reduceSub, Nat.reduceLeDiff, true_and, and_true, decide_eq_true_eq, decide_eq_false_iff_not, ne_eq, reduceCtorEq, false_implies, true_implies, forall_const, Bool.and_self, Bool.and_true, Bool.true_and, dComp, iVal]
  refine ⟨by omega, fun h => absurd h e1, fun _ => ⟨by omega, fun _ => ⟨fun h => ?_, fun _ => ⟨by rw [sgn_length]; omega, ?_⟩⟩, fun h => absurd (by omega) h⟩⟩
  · have : (l.length : Int) ≤ 40 := by omega
    rw [decide_eq_true this] at h
    cases h
  · refine compW_pure (fun _ => true) (fun _ => .bl true) _ _ _ (fun x hx n K K' q1 q2 => ?_) ?_
    · unfold sgn at hx
      obtain ⟨ch, hc, rfl⟩ := List.mem_map.mp hx
      have hr := hd ch hc
      have hm : ch ∈ [48, 49, 50, 51, 52, 53, 54, 55, 56, 57] := by
        simp only [List.mem_cons, List.mem_nil_iff, or_false]
        omega
      simp only [envOf, dRet, dRetN, dOp, dSl, dSlO, dVar, dC, pSome, pNo, ev_sll, ev_slt, ev_sls, dBi, dCons, dNil, ev_lenl, ev_lent, ev_lens, ev_lenr, ev_gI, TC, Pd.gSub, gLt, gLe, gGt, gGe, gMod, gFdiv, gPow, gEq, gNe, ev_oki, ev_oks, ev_okl, ev_okt, gIs, gIsNot, gIsB, gIsNotB, Pd.isNon, dCall, dSeq, dSet, dSetO, dMul, setL, bCons, bOwn, bNil, dIf, dIte, dTB, dAnd, dOr, dNot, dBV, dAndV, dOrV, dChain, dTmp, dTmpT, frzE, dFrz, OD.d, dIxO, dApp, dSetI, dNeg, dLst, dLstO, dTup, dO, dDrop, ev_abs, ev_inttoi, ev_inttob, ev_inttos, ev_strtoi, ev_listl, ev_listt, ev_lists, ev_tupl, ev_tupt, ev_addi, ev_adds, ev_addl, ev_addt, ev_muli, ev_muls, ev_mull, ev_max, ev_min, ev_all, ev_any, gRepr, dLRg, Pd.r1, Pd.r2, eqD_str, eqD_int, eqD_bl, dFld, dProp, dMeth, dAugI, dRev, dMake, dIsi, isT, isC, dNx, dBrk, dNev, dFst, putFD, gNm, gTp, gsCons, gsNil, dAsg, dStar, dYes, iniEnd, flatD, wipeE, ev_ixl, ev_ixt, ev_ixs, ev_ixr, ev_srcl, ev_srct, ev_srcs, ev_at0, ev_at1, ev_atl, ev_atn, ev_ixn, Option.some.injEq, exists_eq_left', exists_eq_left, List.foldl_cons, List.foldl_nil, List.map_cons, List.map_nil, List.replicate, List.length_append, List.length_map, List.length_cons, List.length_nil, List.cons_append, List.nil_append, List.append_nil, List.getElem?_cons_zero, List.getElem?_cons_succ, List.set_cons_zero, List.set_cons_succ, Nat.zero_add, Nat.reduceAdd, Nat.reduceSub, Nat.reduceLeDiff, true_and, and_true, decide_eq_true_eq, decide_eq_false_iff_not, ne_eq, reduceCtorEq, false_implies, true_implies, forall_const, Bool.and_self, Bool.and_true, Bool.true_and, gInB, decide_eq_true hm]
      exact q1 rfl
    · have e2 : (([] : List D) ++ ((sgn l).filter fun _ => true).map fun _ => D.bl true) = (l.map fun _ => true).map D.bl := by
        rw [List.nil_append, List.filter_eq_self.mpr (fun _ _ => rfl)]
        unfold sgn
        rw [List.map_map, List.map_map]
        rfl
      have e3 : (l.map fun _ => true).all id = true := by simp
      rw [e2, map_isBls]
      refine ⟨_, rfl, fun h => ?_, fun _ => ⟨by omega, _, hb, log_lt h0, fun _ => ⟨by omega, _, hb, q⟩, fun h => absurd hD h⟩⟩
      rw [e3] at h
      cases h
def pcD (b : Bl) : D := .tup [.str [b.1], .str (tail b.2)]
def s_block_in : FD := fun ds n P => ∃ b : Bl, ds = [pcD b] ∧ 1 ≤ b.2 ∧ b.2 < 10 ^ 30 ∧ P n (blkD b)
theorem l_block_in (c : Str → Addr) : ∀ ds n Q, s_block_in ds n Q → dFn 4 1 (b_block_in c s_whole_in) ds n Q := by
  rintro ds n Q ⟨b, rfl, h0, h1, q⟩
  refine ⟨rfl, ?_⟩
  simp only [b_block_in, pcD, envOf, dRet, dRetN, dOp, dSl, dSlO, dVar, dC, pSome, pNo, ev_sll, ev_slt, ev_sls, dBi, dCons, dNil, ev_lenl, ev_lent, ev_lens, ev_lenr, ev_gI, TC, Pd.gSub, gLt, gLe, gGt, gGe, gMod, gFdiv, gPow, gEq, gNe, ev_oki, ev_oks, ev_okl, ev_okt, gIs, gIsNot, gIsB, gIsNotB, Pd.isNon, dCall, dSeq, dSet, dSetO, dMul, setL, bCons, bOwn, bNil, dIf, dIte, dTB, dAnd, dOr, dNot, dBV, dAndV, dOrV, dChain, dTmp, dTmpT, frzE, dFrz, OD.d, dIxO, dApp, dSetI, dNeg, dLst, dLstO, dTup, dO, dDrop, ev_abs, ev_inttoi, ev_inttob, ev_inttos, ev_strtoi, ev_listl, ev_listt, ev_lists, ev_tupl, ev_tupt, ev_addi, ev_adds, ev_addl, ev_addt, ev_muli, ev_muls, ev_mull, ev_max, ev_min, ev_all, ev_any, gRepr, dLRg, Pd.r1, Pd.r2, eqD_str, eqD_int, eqD_bl, dFld, dProp, dMeth, dAugI, dRev, dMake, dIsi, isT, isC, dNx, dBrk, dNev, dFst, putFD, gNm, gTp, gsCons, gsNil, dAsg, dStar, dYes, iniEnd, flatD, wipeE, ev_ixl, ev_ixt, ev_ixs, ev_ixr, ev_srcl, ev_srct, ev_srcs, ev_at0, ev_at1, ev_atl, ev_atn, ev_ixn, Option.some.injEq, exists_eq_left', exists_eq_left, List.foldl_cons, List.foldl_nil, List.map_cons, List.map_nil, List.replicate, List.length_append, List.length_map, List.length_cons, List.length_nil, List.cons_append, List.nil_append, List.append_nil, List.getElem?_cons_zero, List.getElem?_cons_succ, List.set_cons_zero, List.set_cons_succ, Nat.zero_add, Nat.reduceAdd, Nat.reduceSub, Nat.reduceLeDiff, true_and, and_true, decide_eq_true_eq, decide_eq_false_iff_not, ne_eq, reduceCtorEq, false_implies, true_implies, forall_const, Bool.and_self, Bool.and_true, Bool.true_and]
  refine ⟨fun h => ?_, fun h => ?_⟩
  · have hb : b.2 = 1 := by
      by_cases h2 : 1 < b.2
      · unfold tail at h
        rw [if_pos h2] at h
        exact absurd h (numD_ne _)
      · omega
    have e : blkD b = .tup [.str [b.1], .int 1] := by unfold blkD; rw [hb]; rfl
    rw [e] at q
    exact q
  · have h2 : 1 < b.2 := by
      by_cases h2 : 1 < b.2
      · exact h2
      · unfold tail at h
        rw [if_neg h2] at h
        exact absurd rfl h
    have e : tail b.2 = numD (b.2 : Int) := by unfold tail; rw [if_pos h2]
    rw [e]
    refine ⟨b.2, rfl, Nat.lt_trans h1 (by decide), ?_⟩
    simp only [envOf, dRet, dRetN, dOp, dSl, dSlO, dVar, dC, pSome, pNo, ev_sll, ev_slt, ev_sls, dBi, dCons, dNil, ev_lenl, ev_lent, ev_lens, ev_lenr, ev_gI, TC, Pd.gSub, gLt, gLe, gGt, gGe, gMod, gFdiv, gPow, gEq, gNe, ev_oki, ev_oks, ev_okl, ev_okt, gIs, gIsNot, gIsB, gIsNotB, Pd.isNon, dCall, dSeq, dSet, dSetO, dMul, setL, bCons, bOwn, bNil, dIf, dIte, dTB, dAnd, dOr, dNot, dBV, dAndV, dOrV, dChain, dTmp, dTmpT, frzE, dFrz, OD.d, dIxO, dApp, dSetI, dNeg, dLst, dLstO, dTup, dO, dDrop, ev_abs, ev_inttoi, ev_inttob, ev_inttos, ev_strtoi, ev_listl, ev_listt, ev_lists, ev_tupl, ev_tupt, ev_addi, ev_adds, ev_addl, ev_addt, ev_muli, ev_muls, ev_mull, ev_max, ev_min, ev_all, ev_any, gRepr, dLRg, Pd.r1, Pd.r2, eqD_str, eqD_int, eqD_bl, dFld, dProp, dMeth, dAugI, dRev, dMake, dIsi, isT, isC, dNx, dBrk, dNev, dFst, putFD, gNm, gTp, gsCons, gsNil, dAsg, dStar, dYes, iniEnd, flatD, wipeE, ev_ixl, ev_ixt, ev_ixs, ev_ixr, ev_srcl, ev_srct, ev_srcs, ev_at0, ev_at1, ev_atl, ev_atn, ev_ixn, Option.some.injEq, exists_eq_left', exists_eq_left, List.foldl_cons, List.foldl_nil, List.map_cons, List.map_nil, List.replicate, List.length_append, List.length_map, List.length_cons, List.length_nil, List.cons_append, List.nil_append, List.append_nil, List.getElem?_cons_zero, List.getElem?_cons_succ, List.set_cons_zero, List.set_cons_succ, Nat.zero_add, Nat.reduceAdd, Nat.reduceSub, Nat.reduceLeDiff, true_and, and_true, decide_eq_true_eq, decide_eq_false_iff_not, ne_eq, reduceCtorEq, false_implies, true_implies, forall_const, Bool.and_self, Bool.and_true, Bool.true_and, Bool.not_false]
    exact ⟨fun _ => ⟨fun _ => q, fun h => absurd (by have : ((10 ^ 30 : Nat) : Int) = 1000000000000000000000000000000 := by decide
                                                     omega) h⟩, fun h => absurd (by omega) h⟩
end LW
namespace LW
open PySem L2 Pd
def letters : List Nat := [97, 98, 99, 100, 101, 102, 103, 104, 105, 106, 107, 108, 109, 110, 111, 112, 113, 114, 115, 116, 117, 118, 119, 120, 121, 122]
def pse : Nat → List Bl → List (Nat × Nat)
  | _, [] => []
  | k, b :: r => (k, k + 1 + (tail b.2).length) :: pse (k + 1 + (tail b.2).length) r
def inD (d : D) : D := match d with
  | .tup [.int a, _] => .int a
  | _ => .non
def isLetter (d : D) : Bool := match d with
  | .tup [_, .str [c]] => decide (c ∈ letters)
  | _ => false
theorem not_letter {c : Nat} (h : 48 ≤ c ∧ c ≤ 57) : c ∉ letters := by
  intro e
  have : ∀ x ∈ letters, 58 ≤ x := by decide
  have := this c e
  omega
theorem tail_not {k c : Nat} (h : c ∈ tail k) : c ∉ letters := by
  unfold tail at h
  split at h
  · exact not_letter (numD_dig h)
  · cases h
def enD (k : Nat) (xs : List Nat) : List D := ((sgn xs).zipIdx k).map fun p => D.tup [.int (p.2 : Nat), p.1]
theorem enD_cons (k c : Nat) (xs : List Nat) : enD k (c :: xs) = .tup [.int (k : Nat), .str [c]] :: enD (k + 1) xs := rfl
theorem enD_skip : ∀ (l xs : List Nat) (k : Nat), (∀ c ∈ l, c ∉ letters) → (enD k (l ++ xs)).filter isLetter = (enD (k + l.length) xs).filter isLetter
  | [], xs, k, _ => by rw [List.nil_append, List.length_nil, Nat.add_zero]
  | a :: l, xs, k, h => by
    rw [List.cons_append, enD_cons, List.filter_cons_of_neg, enD_skip l xs (k + 1) fun c hc => h c (List.mem_cons_of_mem _ hc), List.length_cons]
    · rw [show k + 1 + l.length = k + (l.length + 1) by omega]
    · simp only [isLetter, decide_eq_true_eq]
      exact h a (by simp)
theorem spots_eq : ∀ (bs : List Bl) (k : Nat), (∀ b ∈ bs, b.1 ∈ letters) → ((enD k (txt bs)).filter isLetter).map inD = (pse k bs).map fun p => D.int (p.1 : Nat)
  | [], _, _ => rfl
  | b :: r, k, h => by
    have hb : isLetter (.tup [.int (k : Nat), .str [b.1]]) = true := by
      simp only [isLetter, decide_eq_true_eq]
      exact h b (by simp)
    rw [txt, List.cons_append, enD_cons, List.filter_cons_of_pos hb, enD_skip _ _ _ fun c hc => tail_not hc, List.map_cons, spots_eq r _ fun x hx => h x (List.mem_cons_of_mem _ hx), pse, List.map_cons]
    rfl
theorem zip_pse : ∀ (bs : List Bl) (k : Nat), zipD ((pse k bs).map fun p => D.int (p.1 : Nat)) (((pse k bs).map fun p => D.int (p.1 : Nat)).drop 1 ++ [.int ((k + (txt bs).length : Nat))]) = (pse k bs).map fun p => D.tup [.int (p.1 : Nat), .int (p.2 : Nat)]
  | [], _ => rfl
  | [b], k => by
    simp only [pse, List.map_cons, List.map_nil, List.drop_succ_cons, List.drop_zero, List.nil_append, zipD, List.zipWith, txt, List.append_nil, List.length_cons]
    rw [show k + 1 + (tail b.snd).length = k + ((tail b.snd).length + 1) by omega]
  | b :: b2 :: r, k => by
    have ih := zip_pse (b2 :: r) (k + 1 + (tail b.2).length)
    have e : k + (txt (b :: b2 :: r)).length = k + 1 + (tail b.2).length + (txt (b2 :: r)).length := by
      rw [txt, List.length_append, List.length_cons]
      omega
    rw [e, pse, List.map_cons, List.map_cons, List.drop_succ_cons, List.drop_zero, ← ih]
    rfl
def pcOf (t : List Nat) (d : D) : D := match d with
  | .tup [.int a, .int e] => .tup [.str [t.getD a.toNat 0], .str (cut t (some (a + 1)) (some e))]
  | _ => .non
theorem pse_at : ∀ (bs : List Bl) (pre : List Nat) (p : Nat × Nat), p ∈ pse pre.length bs → ∃ b : Bl, ∃ pr rest, pre ++ txt bs = pr ++ (b.1 :: (tail b.2 ++ rest)) ∧ p.1 = pr.length ∧ p.2 = pr.length + 1 + (tail b.2).length
  | [], _, _, h => by cases h
  | b :: r, pre, p, h => by
    rw [pse] at h
    rcases List.mem_cons.mp h with rfl | h
    · exact ⟨b, pre, txt r, by rw [txt, List.cons_append], rfl, rfl⟩
    · have h2 : p ∈ pse (pre ++ b.1 :: tail b.2).length r := by
        rw [List.length_append, List.length_cons, show pre.length + ((tail b.snd).length + 1) = pre.length + 1 + (tail b.2).length by omega]
        exact h
      obtain ⟨b', pr, rest, e, e1, e2⟩ := pse_at r _ p h2
      exact ⟨b', pr, rest, by rw [← e, txt, List.append_assoc], e1, e2⟩
theorem pcOf_at (b : Bl) (pr rest : List Nat) : pcOf (pr ++ (b.1 :: (tail b.2 ++ rest))) (.tup [.int (pr.length : Nat), .int ((pr.length + 1 + (tail b.2).length : Nat))]) = pcD b := by
  have e1 : (pr ++ (b.1 :: (tail b.2 ++ rest))).getD (pr.length : Int).toNat 0 = b.1 := by
    simp [List.getD]
  have e2 : cut (pr ++ (b.1 :: (tail b.2 ++ rest))) (some ((pr.length : Nat) + 1)) (some ((pr.length + 1 + (tail b.2).length : Nat))) = tail b.2 := by
    rw [show ((pr.length : Nat) : Int) + 1 = ((pr.length + 1 : Nat) : Int) from rfl, cut_mid]
    rw [show pr.length + 1 + (tail b.2).length - (pr.length + 1) = (tail b.2).length by omega]
    rw [show pr ++ (b.1 :: (tail b.2 ++ rest)) = (pr ++ [b.1]) ++ (tail b.2 ++ rest) by simp]
    rw [show pr.length + 1 = (pr ++ [b.1]).length by simp, List.drop_left, List.take_left]
  unfold pcOf pcD
  simp only
  rw [e1, e2]
theorem pcOf_all : ∀ (bs : List Bl) (pre t : List Nat), pre ++ txt bs = t → ((pse pre.length bs).map fun p => D.tup [.int (p.1 : Nat), .int (p.2 : Nat)]).map (pcOf t) = bs.map pcD
  | [], _, _, _ => rfl
  | b :: r, pre, t, e => by
    have e1 : (pre ++ b.1 :: tail b.2).length = pre.length + 1 + (tail b.2).length := by
      rw [List.length_append, List.length_cons]
      omega
    have ih := pcOf_all r (pre ++ b.1 :: tail b.2) t (by rw [← e, txt, List.append_assoc])
    rw [e1] at ih
    rw [pse, List.map_cons, List.map_cons, ih, List.map_cons]
    congr 1
    rw [← e, txt, List.cons_append]
    exact pcOf_at b pre (txt r)
def s_pieces_of : FD := fun ds n P => ∃ bs : List Bl, ds = [.str (txt bs)] ∧ bs.length ≤ 1000 ∧ (∀ b ∈ bs, b.2 < 10 ^ 31 ∧ b.1 ∈ letters) ∧ P n (.lst (bs.map pcD))
theorem l_pieces_of (c : Str → Addr) : ∀ ds n Q, s_pieces_of ds n Q → dFn 5 1 (b_pieces_of c) ds n Q := by
  rintro ds n Q ⟨bs, rfl, h0, h1, q⟩
  refine ⟨rfl, ?_⟩
  have ht := txt_len fun b hb => (h1 b hb).1
  simp only [b_pieces_of, envOf, dRet, dRetN, dOp, dSl, dSlO, dVar, dC, pSome, pNo, ev_sll, ev_slt, ev_sls, dBi, dCons, dNil, ev_lenl, ev_lent, ev_lens, ev_lenr, ev_gI, TC, Pd.gSub, gLt, gLe, gGt, gGe, gMod, gFdiv, gPow, gEq, gNe, ev_oki, ev_oks, ev_okl, ev_okt, gIs, gIsNot, gIsB, gIsNotB, Pd.isNon, dCall, dSeq, dSet, dSetO, dMul, setL, bCons, bOwn, bNil, dIf, dIte, dTB, dAnd, dOr, dNot, dBV, dAndV, dOrV, dChain, dTmp, dTmpT, frzE, dFrz, OD.d, dIxO, dApp, dSetI, dNeg, dLst, dLstO, dTup, dO, dDrop, ev_abs, ev_inttoi, ev_inttob, ev_inttos, ev_strtoi, ev_listl, ev_listt, ev_lists, ev_tupl, ev_tupt, ev_addi, ev_adds, ev_addl, ev_addt, ev_muli, ev_muls, ev_mull, ev_max, ev_min, ev_all, ev_any, gRepr, dLRg, Pd.r1, Pd.r2, eqD_str, eqD_int, eqD_bl, dFld, dProp, dMeth, dAugI, dRev, dMake, dIsi, isT, isC, dNx, dBrk, dNev, dFst, putFD, gNm, gTp, gsCons, gsNil, dAsg, dStar, dYes, iniEnd, flatD, wipeE, ev_ixl, ev_ixt, ev_ixs, ev_ixr, ev_srcl, ev_srct, ev_srcs, ev_at0, ev_at1, ev_atl, ev_atn, ev_ixn, Option.some.injEq, exists_eq_left', exists_eq_left, List.foldl_cons, List.foldl_nil, List.map_cons, List.map_nil, List.replicate, List.length_append, List.length_map, List.length_cons, List.length_nil, List.cons_append, List.nil_append, List.append_nil, List.getElem?_cons_zero, List.getElem?_cons_succ, List.set_cons_zero, List.set_cons_succ, Nat.zero_add, Nat.reduceAdd, Nat.reduceSub, Nat.reduceLeDiff, true_and, and_true, decide_eq_true_eq, decide_eq_false_iff_not, ne_eq, reduceCtorEq, false_implies, true_implies, forall_const, Bool.and_self, Bool.and_true, Bool.true_and, dComp, iVal, iEnm, iZp]
  have len1 : ∀ l : List Nat, (enumD (sgn l)).length = l.length := fun l => by simp [enumD, sgn]
  refine ⟨by rw [len1]; omega, ?_⟩
  refine compW_pure isLetter inD _ _ _ (fun x hx n K K' q1 q2 => ?_) ?_
  · obtain ⟨p, hp, rfl⟩ := List.mem_map.mp hx
    obtain ⟨y, i⟩ := p
    have hy : y ∈ sgn (txt bs) := by
      have := List.mem_zipIdx hp
      rw [this.2.2]
      exact List.getElem_mem _
    unfold sgn at hy
    obtain ⟨ch, hc, rfl⟩ := List.mem_map.mp hy
    simp only [envOf, dRet, dRetN, dOp, dSl, dSlO, dVar, dC, pSome, pNo, ev_sll, ev_slt, ev_sls, dBi, dCons, dNil, ev_lenl, ev_lent, ev_lens, ev_lenr, ev_gI, TC, Pd.gSub, gLt, gLe, gGt, gGe, gMod, gFdiv, gPow, gEq, gNe, ev_oki, ev_oks, ev_okl, ev_okt, gIs, gIsNot, gIsB, gIsNotB, Pd.isNon, dCall, dSeq, dSet, dSetO, dMul, setL, bCons, bOwn, bNil, dIf, dIte, dTB, dAnd, dOr, dNot, dBV, dAndV, dOrV, dChain, dTmp, dTmpT, frzE, dFrz, OD.d, dIxO, dApp, dSetI, dNeg, dLst, dLstO, dTup, dO, dDrop, ev_abs, ev_inttoi, ev_inttob, ev_inttos, ev_strtoi, ev_listl, ev_listt, ev_lists, ev_tupl, ev_tupt, ev_addi, ev_adds, ev_addl, ev_addt, ev_muli, ev_muls, ev_mull, ev_max, ev_min, ev_all, ev_any, gRepr, dLRg, Pd.r1, Pd.r2, eqD_str, eqD_int, eqD_bl, dFld, dProp, dMeth, dAugI, dRev, dMake, dIsi, isT, isC, dNx, dBrk, dNev, dFst, putFD, gNm, gTp, gsCons, gsNil, dAsg, dStar, dYes, iniEnd, flatD, wipeE, ev_ixl, ev_ixt, ev_ixs, ev_ixr, ev_srcl, ev_srct, ev_srcs, ev_at0, ev_at1, ev_atl, ev_atn, ev_ixn, Option.some.injEq, exists_eq_left', exists_eq_left, List.foldl_cons, List.foldl_nil, List.map_cons, List.map_nil, List.replicate, List.length_append, List.length_map, List.length_cons, List.length_nil, List.cons_append, List.nil_append, List.append_nil, List.getElem?_cons_zero, List.getElem?_cons_succ, List.set_cons_zero, List.set_cons_succ, Nat.zero_add, Nat.reduceAdd, Nat.reduceSub, Nat.reduceLeDiff, true_and, and_true, decide_eq_true_eq, decide_eq_false_iff_not, ne_eq, reduceCtorEq, false_implies, true_implies, forall_const, Bool.and_self, Bool.and_true, Bool.true_and, gInB]
    refine ⟨fun h => q1 (by simp only [isLetter]; exact decide_eq_true h), fun h => q2 (by simp only [isLetter]; exact decide_eq_false h)⟩
  · have e0 : ([] : List D) ++ ((enumD (sgn (txt bs))).filter isLetter).map inD = (pse 0 bs).map fun p => D.int (p.1 : Nat) := by
      rw [List.nil_append]
      exact spots_eq bs 0 fun b hb => (h1 b hb).2
    have hpl : ∀ k, (pse k bs).length = bs.length := by
      clear h0 h1 q ht e0
      induction bs with
      | nil => exact fun _ => rfl
      | cons b r ih => exact fun k => by rw [pse, List.length_cons, List.length_cons, ih]
    have e1 := zip_pse bs 0
    have e2 := pcOf_all bs [] _ rfl
    rw [List.nil_append, List.length_nil] at e2
    rw [Nat.zero_add] at e1
    rw [e0, show (1 : Int) = ((1 : Nat) : Int) from rfl, cut_from]
    refine ⟨by omega, by rw [List.length_drop, List.length_map, hpl]; omega, _, _, rfl, rfl, ?_, ?_⟩
    · rw [e1, List.length_map, hpl]
      omega
    · rw [e1]
      refine compW_pure (fun _ => true) (pcOf (txt bs)) _ _ _ (fun x hx n K K' q1 q2 => ?_) ?_
      · obtain ⟨p, hp, rfl⟩ := List.mem_map.mp hx
        obtain ⟨b, pr, rest, e, e3, e4⟩ := pse_at bs [] p hp
        have q3 := q1 rfl
        obtain ⟨a, z⟩ := p
        subst e3 e4
        rw [List.nil_append] at e
        rw [e] at q3 ht ⊢
        rw [pcOf_at] at q3
        simp only [envOf, dRet, dRetN, dOp, dSl, dSlO, dVar, dC, pSome, pNo, ev_sll, ev_slt, ev_sls, dBi, dCons, dNil, ev_lenl, ev_lent, ev_lens, ev_lenr, ev_gI, TC, Pd.gSub, gLt, gLe, gGt, gGe, gMod, gFdiv, gPow, gEq, gNe, ev_oki, ev_oks, ev_okl, ev_okt, gIs, gIsNot, gIsB, gIsNotB, Pd.isNon, dCall, dSeq, dSet, dSetO, dMul, setL, bCons, bOwn, bNil, dIf, dIte, dTB, dAnd, dOr, dNot, dBV, dAndV, dOrV, dChain, dTmp, dTmpT, frzE, dFrz, OD.d, dIxO, dApp, dSetI, dNeg, dLst, dLstO, dTup, dO, dDrop, ev_abs, ev_inttoi, ev_inttob, ev_inttos, ev_strtoi, ev_listl, ev_listt, ev_lists, ev_tupl, ev_tupt, ev_addi, ev_adds, ev_addl, ev_addt, ev_muli, ev_muls, ev_mull, ev_max, ev_min, ev_all, ev_any, gRepr, dLRg, Pd.r1, Pd.r2, eqD_str, eqD_int, eqD_bl, dFld, dProp, dMeth, dAugI, dRev, dMake, dIsi, isT, isC, dNx, dBrk, dNev, dFst, putFD, gNm, gTp, gsCons, gsNil, dAsg, dStar, dYes, iniEnd, flatD, wipeE, ev_ixl, ev_ixt, ev_ixs, ev_ixr, ev_srcl, ev_srct, ev_srcs, ev_at0, ev_at1, ev_atl, ev_atn, ev_ixn, Option.some.injEq, exists_eq_left', exists_eq_left, List.foldl_cons, List.foldl_nil, List.map_cons, List.map_nil, List.replicate, List.length_append, List.length_map, List.length_cons, List.length_nil, List.cons_append, List.nil_append, List.append_nil, List.getElem?_cons_zero, List.getElem?_cons_succ, List.set_cons_zero, List.set_cons_succ, Nat.zero_add, Nat.reduceAdd, Nat.reduceSub, Nat.reduceLeDiff, true_and, and_true, decide_eq_true_eq, decide_eq_false_iff_not, ne_eq, reduceCtorEq, false_implies, true_implies, forall_const, Bool.and_self, Bool.and_true, Bool.true_and]
        simp only [List.length_append, List.length_cons] at ht
        have e3 : cut (pr ++ b.1 :: (tail b.2 ++ rest)) (some ((pr.length : Int) + 1)) (some ((pr.length + 1 + (tail b.2).length : Nat))) = tail b.2 := by
          have := pcOf_at b pr rest
          unfold pcOf pcD at this
          injection this with this
          injection this with _ this
          injection this with this
          injection this
        refine ⟨by omega, b.1, atI_nat (by simp), by omega, ?_⟩
        have q4 := q3
        unfold pcD at q4
        rw [← e3] at q4
        exact q4
      · rw [List.filter_eq_self.mpr (fun _ _ => rfl), e2]
        exact q
def rightW : List Nat := [114, 105, 103, 104, 116]
def missesW : List Nat := [109, 105, 115, 115, 101, 115]
def tellsW : List Nat := [116, 101, 108, 108, 115]
def s_is_said : FD := fun ds n P => (∃ (b : Nat) , ds = [.str [b], .lst (sgn letters)] ∧ b ∈ letters ∧ P n (.bl true)) ∨ (∃ a : List Nat, ds = [.str a, .tup [.str rightW, .str missesW, .str tellsW]] ∧ (a = rightW ∨ a = missesW ∨ a = tellsW) ∧ P n (.bl true))
theorem in_sgn {b : Nat} {l : List Nat} (h : b ∈ l) : ((sgn l).any fun y => eqD y (.str [b])) = true := by
  rw [List.any_eq_true]
  exact ⟨.str [b], List.mem_map_of_mem h, by rw [eqD_str]; simp⟩
theorem okIn_sgn (b : Nat) (l : List Nat) : okIn (.str [b]) (sgn l) = true := by
  unfold okIn
  rw [Bool.or_eq_true]
  left
  rw [List.all_eq_true]
  intro y hy
  obtain ⟨c, _, rfl⟩ := List.mem_map.mp hy
  rfl
theorem l_is_said (c : Str → Addr) : ∀ ds n Q, s_is_said ds n Q → dFn 2 2 (b_is_said c) ds n Q := by
  rintro ds n Q (⟨b, rfl, h, q⟩ | ⟨a, rfl, h, q⟩)
  · refine ⟨rfl, ?_⟩
    simp only [b_is_said, envOf, dRet, dRetN, dOp, dSl, dSlO, dVar, dC, pSome, pNo, ev_sll, ev_slt, ev_sls, dBi, dCons, dNil, ev_lenl, ev_lent, ev_lens, ev_lenr, ev_gI, TC, Pd.gSub, gLt, gLe, gGt, gGe, gMod, gFdiv, gPow, gEq, gNe, ev_oki, ev_oks, ev_okl, ev_okt, gIs, gIsNot, gIsB, gIsNotB, Pd.isNon, dCall, dSeq, dSet, dSetO, dMul, setL, bCons, bOwn, bNil, dIf, dIte, dTB, dAnd, dOr, dNot, dBV, dAndV, dOrV, dChain, dTmp, dTmpT, frzE, dFrz, OD.d, dIxO, dApp, dSetI, dNeg, dLst, dLstO, dTup, dO, dDrop, ev_abs, ev_inttoi, ev_inttob, ev_inttos, ev_strtoi, ev_listl, ev_listt, ev_lists, ev_tupl, ev_tupt, ev_addi, ev_adds, ev_addl, ev_addt, ev_muli, ev_muls, ev_mull, ev_max, ev_min, ev_all, ev_any, gRepr, dLRg, Pd.r1, Pd.r2, eqD_str, eqD_int, eqD_bl, dFld, dProp, dMeth, dAugI, dRev, dMake, dIsi, isT, isC, dNx, dBrk, dNev, dFst, putFD, gNm, gTp, gsCons, gsNil, dAsg, dStar, dYes, iniEnd, flatD, wipeE, ev_ixl, ev_ixt, ev_ixs, ev_ixr, ev_srcl, ev_srct, ev_srcs, ev_at0, ev_at1, ev_atl, ev_atn, ev_ixn, Option.some.injEq, exists_eq_left', exists_eq_left, List.foldl_cons, List.foldl_nil, List.map_cons, List.map_nil, List.replicate, List.length_append, List.length_map, List.length_cons, List.length_nil, List.cons_append, List.nil_append, List.append_nil, List.getElem?_cons_zero, List.getElem?_cons_succ, List.set_cons_zero, List.set_cons_succ, Nat.zero_add, Nat.reduceAdd, Nat.reduceSub, Nat.reduceLeDiff, true_and, and_true, decide_eq_true_eq, decide_eq_false_iff_not, ne_eq, reduceCtorEq, false_implies, true_implies, forall_const, Bool.and_self, Bool.and_true, Bool.true_and]
    refine ⟨⟨okIn_sgn _ _, ?_⟩, fun h => absurd trivial h⟩
    rw [in_sgn h]
    exact q
  · refine ⟨rfl, ?_⟩
    simp only [b_is_said, envOf, dRet, dRetN, dOp, dSl, dSlO, dVar, dC, pSome, pNo, ev_sll, ev_slt, ev_sls, dBi, dCons, dNil, ev_lenl, ev_lent, ev_lens, ev_lenr, ev_gI, TC, Pd.gSub, gLt, gLe, gGt, gGe, gMod, gFdiv, gPow, gEq, gNe, ev_oki, ev_oks, ev_okl, ev_okt, gIs, gIsNot, gIsB, gIsNotB, Pd.isNon, dCall, dSeq, dSet, dSetO, dMul, setL, bCons, bOwn, bNil, dIf, dIte, dTB, dAnd, dOr, dNot, dBV, dAndV, dOrV, dChain, dTmp, dTmpT, frzE, dFrz, OD.d, dIxO, dApp, dSetI, dNeg, dLst, dLstO, dTup, dO, dDrop, ev_abs, ev_inttoi, ev_inttob, ev_inttos, ev_strtoi, ev_listl, ev_listt, ev_lists, ev_tupl, ev_tupt, ev_addi, ev_adds, ev_addl, ev_addt, ev_muli, ev_muls, ev_mull, ev_max, ev_min, ev_all, ev_any, gRepr, dLRg, Pd.r1, Pd.r2, eqD_str, eqD_int, eqD_bl, dFld, dProp, dMeth, dAugI, dRev, dMake, dIsi, isT, isC, dNx, dBrk, dNev, dFst, putFD, gNm, gTp, gsCons, gsNil, dAsg, dStar, dYes, iniEnd, flatD, wipeE, ev_ixl, ev_ixt, ev_ixs, ev_ixr, ev_srcl, ev_srct, ev_srcs, ev_at0, ev_at1, ev_atl, ev_atn, ev_ixn, Option.some.injEq, exists_eq_left', exists_eq_left, List.foldl_cons, List.foldl_nil, List.map_cons, List.map_nil, List.replicate, List.length_append, List.length_map, List.length_cons, List.length_nil, List.cons_append, List.nil_append, List.append_nil, List.getElem?_cons_zero, List.getElem?_cons_succ, List.set_cons_zero, List.set_cons_succ, Nat.zero_add, Nat.reduceAdd, Nat.reduceSub, Nat.reduceLeDiff, true_and, and_true, decide_eq_true_eq, decide_eq_false_iff_not, ne_eq, reduceCtorEq, false_implies, true_implies, forall_const, Bool.and_self, Bool.and_true, Bool.true_and]
    refine ⟨⟨by rcases h with rfl | rfl | rfl <;> rfl, ?_⟩, fun h => absurd trivial h⟩
    have e : ([D.str rightW, D.str missesW, D.str tellsW].any fun y => eqD y (.str a)) = true := by
      simp only [List.any_cons, eqD_str, List.any_nil, Bool.or_false, Bool.or_eq_true, decide_eq_true_eq]
      rcases h with rfl | rfl | rfl
      · exact .inl rfl
      · exact .inr (.inl rfl)
      · exact .inr (.inr rfl)
    rw [e]
    exact q
def Told (bs : List Bl) : Prop := Good bs ∧ bs.length ≤ 40 ∧ (∀ b ∈ bs, b.2 < 10 ^ 30 ∧ b.1 ∈ letters) ∧ bs ≠ []
def s_blocks_told : FD := fun ds n P => ∃ bs : List Bl, ds = [.str (txt bs)] ∧ Told bs ∧ P n (.tup (bs.map blkD))
theorem letters_lt {c : Nat} (h : c ∈ letters) : c < 1114112 := by
  have : ∀ x ∈ letters, x < 1114112 := by decide
  exact this c h
theorem noneIn (bs : List Bl) : ((bs.map blkD).any fun y => eqD y .non) = false := by
  rw [List.any_eq_false]
  intro y hy
  obtain ⟨b, _, rfl⟩ := List.mem_map.mp hy
  simp [blkD, eqD]
theorem okIn_blk {bs : List Bl} (h : ∀ b ∈ bs, b.1 < 1114112) : okIn .non (bs.map blkD) = true := by
  have := okD_blks h
  unfold okIn
  rw [Bool.or_eq_true]
  right
  unfold okD at this
  rw [isPd, isPds_blk h, dpt] at this
  simp only [Bool.true_and, decide_eq_true_eq] at this
  rw [isPds_blk h]
  simp only [Bool.and_eq_true, Bool.true_and, decide_eq_true_eq]
  exact ⟨by decide, by omega⟩
theorem compW_map {α : Type} {dg : DG} {t : DT} {d : DE} {ε : Ev} {P : Nat → List D → Prop} (f g : α → D) : ∀ (bs : List α) (acc : List D) (n : Nat),
    (∀ b ∈ bs, ∀ (n : Nat) (K : Nat → D → Prop) (K' : Nat → Prop), K n (g b) → dg (f b) ε fun ε' => t n ε' fun n1 k => (k = true → d n1 ε' fun n2 y => K n2 y) ∧ (k = false → K' n1)) →
    P n (acc ++ bs.map g) → compW dg t d ε P (bs.map f) acc n
  | [], acc, n, _, q => by
    rw [List.map_nil, List.append_nil] at q
    exact q
  | x :: xs, acc, n, h, q => by
    refine h x (by simp) n (fun n2 y => compW dg t d ε P (xs.map f) (acc ++ [y]) n2) (fun n1 => compW dg t d ε P (xs.map f) acc n1) ?_
    refine compW_map f g xs _ n (fun y hy => h y (List.mem_cons_of_mem _ hy)) ?_
    rw [List.append_assoc]
    exact q
theorem adj_ne : ∀ {bs : List Bl}, Adj bs → ∀ d ∈ zipD (bs.map blkD) ((bs.map blkD).drop 1), ∃ a b : Bl, d = .tup [blkD a, blkD b] ∧ a.1 ≠ b.1
  | [], _, d, h => by cases h
  | [_], _, d, h => by cases h
  | a :: b :: r, g, d, h => by
    rcases List.mem_cons.mp h with rfl | h
    · exact ⟨a, b, rfl, g.1⟩
    · exact adj_ne (bs := b :: r) g.2 d h
theorem l_blocks_told (c : Str → Addr) : ∀ ds n Q, s_blocks_told ds n Q → dFn 5 1 (b_blocks_told c s_is_said s_pieces_of s_block_in) ds n Q := by
  rintro ds n Q ⟨bs, rfl, ⟨hg, h0, h1, hne⟩, q⟩
  refine ⟨rfl, ?_⟩
  have h31 : ∀ b ∈ bs, b.2 < 10 ^ 31 := fun b hb => Nat.lt_trans (h1 b hb).1 (by decide)
  have hlt : ∀ b ∈ bs, b.1 < 1114112 := fun b hb => letters_lt (h1 b hb).2
  have hl := txt_len h31
  simp only [b_blocks_told, envOf, dRet, dRetN, dOp, dSl, dSlO, dVar, dC, pSome, pNo, ev_sll, ev_slt, ev_sls, dBi, dCons, dNil, ev_lenl, ev_lent, ev_lens, ev_lenr, ev_gI, TC, Pd.gSub, gLt, gLe, gGt, gGe, gMod, gFdiv, gPow, gEq, gNe, ev_oki, ev_oks, ev_okl, ev_okt, gIs, gIsNot, gIsB, gIsNotB, Pd.isNon, dCall, dSeq, dSet, dSetO, dMul, setL, bCons, bOwn, bNil, dIf, dIte, dTB, dAnd, dOr, dNot, dBV, dAndV, dOrV, dChain, dTmp, dTmpT, frzE, dFrz, OD.d, dIxO, dApp, dSetI, dNeg, dLst, dLstO, dTup, dO, dDrop, ev_abs, ev_inttoi, ev_inttob, ev_inttos, ev_strtoi, ev_listl, ev_listt, ev_lists, ev_tupl, ev_tupt, ev_addi, ev_adds, ev_addl, ev_addt, ev_muli, ev_muls, ev_mull, ev_max, ev_min, ev_all, ev_any, gRepr, dLRg, Pd.r1, Pd.r2, eqD_str, eqD_int, eqD_bl, dFld, dProp, dMeth, dAugI, dRev, dMake, dIsi, isT, isC, dNx, dBrk, dNev, dFst, putFD, gNm, gTp, gsCons, gsNil, dAsg, dStar, dYes, iniEnd, flatD, wipeE, ev_ixl, ev_ixt, ev_ixs, ev_ixr, ev_srcl, ev_srct, ev_srcs, ev_at0, ev_at1, ev_atl, ev_atn, ev_ixn, Option.some.injEq, exists_eq_left', exists_eq_left, List.foldl_cons, List.foldl_nil, List.map_cons, List.map_nil, List.replicate, List.length_append, List.length_map, List.length_cons, List.length_nil, List.cons_append, List.nil_append, List.append_nil, List.getElem?_cons_zero, List.getElem?_cons_succ, List.set_cons_zero, List.set_cons_succ, Nat.zero_add, Nat.reduceAdd, Nat.reduceSub, Nat.reduceLeDiff, true_and, and_true, decide_eq_true_eq, decide_eq_false_iff_not, ne_eq, reduceCtorEq, false_implies, true_implies, forall_const, Bool.and_self, Bool.and_true, Bool.true_and, dComp, iVal, iZp]
  refine ⟨fun h => absurd h (by decide), fun _ => ⟨by omega, ?_⟩⟩
  obtain ⟨b0, r0, e0⟩ : ∃ b0 r0, bs = b0 :: r0 := by
    cases bs with
    | nil => exact absurd rfl hne
    | cons a r => exact ⟨a, r, rfl⟩
  have e1 : cut (txt bs) none (some 1) = [b0.1] := by
    rw [show (1 : Int) = ((1 : Nat) : Int) from rfl, cut_to, e0]
    rfl
  rw [e1]
  refine .inl ⟨b0.1, rfl, (h1 b0 (by rw [e0]; simp)).2, ?_⟩
  refine ⟨fun h => absurd h (by decide), fun _ => ⟨bs, rfl, by omega, fun b hb => ⟨h31 b hb, (h1 b hb).2⟩, _, rfl, by rw [List.length_map]; omega, ?_⟩⟩
  refine compW_map pcD blkD bs _ _ (fun b hb n K K' q1 => ?_) ?_
  · simp only [envOf, dRet, dRetN, dOp, dSl, dSlO, dVar, dC, pSome, pNo, ev_sll, ev_slt, ev_sls, dBi, dCons, dNil, ev_lenl, ev_lent, ev_lens, ev_lenr, ev_gI, TC, Pd.gSub, gLt, gLe, gGt, gGe, gMod, gFdiv, gPow, gEq, gNe, ev_oki, ev_oks, ev_okl, ev_okt, gIs, gIsNot, gIsB, gIsNotB, Pd.isNon, dCall, dSeq, dSet, dSetO, dMul, setL, bCons, bOwn, bNil, dIf, dIte, dTB, dAnd, dOr, dNot, dBV, dAndV, dOrV, dChain, dTmp, dTmpT, frzE, dFrz, OD.d, dIxO, dApp, dSetI, dNeg, dLst, dLstO, dTup, dO, dDrop, ev_abs, ev_inttoi, ev_inttob, ev_inttos, ev_strtoi, ev_listl, ev_listt, ev_lists, ev_tupl, ev_tupt, ev_addi, ev_adds, ev_addl, ev_addt, ev_muli, ev_muls, ev_mull, ev_max, ev_min, ev_all, ev_any, gRepr, dLRg, Pd.r1, Pd.r2, eqD_str, eqD_int, eqD_bl, dFld, dProp, dMeth, dAugI, dRev, dMake, dIsi, isT, isC, dNx, dBrk, dNev, dFst, putFD, gNm, gTp, gsCons, gsNil, dAsg, dStar, dYes, iniEnd, flatD, wipeE, ev_ixl, ev_ixt, ev_ixs, ev_ixr, ev_srcl, ev_srct, ev_srcs, ev_at0, ev_at1, ev_atl, ev_atn, ev_ixn, Option.some.injEq, exists_eq_left', exists_eq_left, List.foldl_cons, List.foldl_nil, List.map_cons, List.map_nil, List.replicate, List.length_append, List.length_map, List.length_cons, List.length_nil, List.cons_append, List.nil_append, List.append_nil, List.getElem?_cons_zero, List.getElem?_cons_succ, List.set_cons_zero, List.set_cons_succ, Nat.zero_add, Nat.reduceAdd, Nat.reduceSub, Nat.reduceLeDiff, true_and, and_true, decide_eq_true_eq, decide_eq_false_iff_not, ne_eq, reduceCtorEq, false_implies, true_implies, forall_const, Bool.and_self, Bool.and_true, Bool.true_and]
    exact ⟨b, rfl, hg.pos b hb, (h1 b hb).1, q1⟩
  · rw [List.nil_append, List.length_map]
    refine ⟨fun h => absurd h (by omega), fun _ => ⟨okIn_blk hlt, ?_⟩⟩
    rw [noneIn]
    refine ⟨fun h => (by cases h), fun _ => ⟨_, _, rfl, rfl, ?_, ?_⟩⟩
    · rw [zipD, List.length_zipWith, List.length_map]
      omega
    · rw [show (1 : Int) = ((1 : Nat) : Int) from rfl, cut_from]
      refine compW_pure (fun _ => true) (fun _ => .bl true) _ _ _ (fun x hx n K K' q1 q2 => ?_) ?_
      · obtain ⟨a, b, rfl, hab⟩ := adj_ne hg.adj x hx
        simp only [blkD, envOf, dRet, dRetN, dOp, dSl, dSlO, dVar, dC, pSome, pNo, ev_sll, ev_slt, ev_sls, dBi, dCons, dNil, ev_lenl, ev_lent, ev_lens, ev_lenr, ev_gI, TC, Pd.gSub, gLt, gLe, gGt, gGe, gMod, gFdiv, gPow, gEq, gNe, ev_oki, ev_oks, ev_okl, ev_okt, gIs, gIsNot, gIsB, gIsNotB, Pd.isNon, dCall, dSeq, dSet, dSetO, dMul, setL, bCons, bOwn, bNil, dIf, dIte, dTB, dAnd, dOr, dNot, dBV, dAndV, dOrV, dChain, dTmp, dTmpT, frzE, dFrz, OD.d, dIxO, dApp, dSetI, dNeg, dLst, dLstO, dTup, dO, dDrop, ev_abs, ev_inttoi, ev_inttob, ev_inttos, ev_strtoi, ev_listl, ev_listt, ev_lists, ev_tupl, ev_tupt, ev_addi, ev_adds, ev_addl, ev_addt, ev_muli, ev_muls, ev_mull, ev_max, ev_min, ev_all, ev_any, gRepr, dLRg, Pd.r1, Pd.r2, eqD_str, eqD_int, eqD_bl, dFld, dProp, dMeth, dAugI, dRev, dMake, dIsi, isT, isC, dNx, dBrk, dNev, dFst, putFD, gNm, gTp, gsCons, gsNil, dAsg, dStar, dYes, iniEnd, flatD, wipeE, ev_ixl, ev_ixt, ev_ixs, ev_ixr, ev_srcl, ev_srct, ev_srcs, ev_at0, ev_at1, ev_atl, ev_atn, ev_ixn, Option.some.injEq, exists_eq_left', exists_eq_left, List.foldl_cons, List.foldl_nil, List.map_cons, List.map_nil, List.replicate, List.length_append, List.length_map, List.length_cons, List.length_nil, List.cons_append, List.nil_append, List.append_nil, List.getElem?_cons_zero, List.getElem?_cons_succ, List.set_cons_zero, List.set_cons_succ, Nat.zero_add, Nat.reduceAdd, Nat.reduceSub, Nat.reduceLeDiff, true_and, and_true, decide_eq_true_eq, decide_eq_false_iff_not, ne_eq, reduceCtorEq, false_implies, true_implies, forall_const, Bool.and_self, Bool.and_true, Bool.true_and, List.cons.injEq]
        rw [decide_eq_false hab]
        exact q1 rfl
      · have e2 : (([] : List D) ++ ((zipD (bs.map blkD) ((bs.map blkD).drop 1)).filter fun _ => true).map fun _ => D.bl true) = ((zipD (bs.map blkD) ((bs.map blkD).drop 1)).map fun _ => true).map D.bl := by
          rw [List.nil_append, List.filter_eq_self.mpr (fun _ _ => rfl), List.map_map]
          rfl
        rw [e2, map_isBls]
        refine ⟨_, rfl, fun _ => q, fun h => ?_⟩
        exfalso
        revert h
        simp
end LW
namespace LW
open PySem L2 Pd
def NH (a : Nat) (l : List Nat) : Prop := ∀ x ∈ l.head?, x ≠ a
theorem pre_rep (a : Nat) : ∀ (c0 c : Nat) (x y : List Nat), NH a x → NH a y → (List.replicate c0 a ++ x <+: List.replicate c a ++ y ↔ (c0 = c ∧ x <+: y) ∨ (x = [] ∧ c0 ≤ c))
  | 0, 0, x, y, hx, hy => by
    simp only [List.replicate, List.nil_append, true_and, Nat.le_refl, and_true]
    exact ⟨Or.inl, fun h => h.elim id fun e => e ▸ List.nil_prefix⟩
  | 0, c + 1, x, y, hx, hy => by
    rw [List.replicate, List.nil_append, List.replicate_succ, List.cons_append]
    constructor
    · intro h
      match x, hx, h with
      | [], _, _ => exact Or.inr ⟨rfl, Nat.zero_le _⟩
      | b :: x, hx, h => exact absurd (List.cons_prefix_cons.mp h).1 (hx b rfl)
    · rintro (⟨h, _⟩ | ⟨rfl, _⟩)
      · cases h
      · exact List.nil_prefix
  | c0 + 1, 0, x, y, hx, hy => by
    rw [List.replicate_succ, List.cons_append, List.replicate, List.nil_append]
    constructor
    · intro h
      match y, hy, h with
      | [], _, h => exact absurd (List.prefix_nil.mp h) (by simp)
      | b :: y, hy, h => exact absurd (List.cons_prefix_cons.mp h).1.symm (hy b rfl)
    · rintro (⟨h, _⟩ | ⟨_, h⟩)
      · cases h
      · omega
  | c0 + 1, c + 1, x, y, hx, hy => by
    rw [List.replicate_succ, List.cons_append, List.replicate_succ, List.cons_append, List.cons_prefix_cons, pre_rep a c0 c x y hx hy]
    simp only [true_and, Nat.add_right_cancel_iff, Nat.add_le_add_iff_right]
theorem nh_expand {a : Bl} : ∀ {r : List Bl}, Good (a :: r) → NH a.1 (expand r)
  | [], _ => fun x h => by cases h
  | b :: r, g => fun x h => by
    have hb : 1 ≤ b.2 := g.pos b (by simp)
    rw [expand] at h
    obtain ⟨m, hm⟩ : ∃ m, b.2 = m + 1 := ⟨b.2 - 1, by omega⟩
    rw [hm, List.replicate_succ] at h
    have : x = b.1 := by simpa using h.symm
    rw [this]
    exact fun e => g.adj.1 e.symm
theorem Good.tl {a : Bl} : ∀ {r : List Bl}, Good (a :: r) → Good r
  | [], g => ⟨trivial, fun b hb => by cases hb⟩
  | b :: r, g => ⟨g.adj.2, fun x hx => g.pos x (List.mem_cons_of_mem _ hx)⟩
theorem expand_ne {a : Bl} {r : List Bl} (g : Good (a :: r)) : expand (a :: r) ≠ [] := by
  have := g.pos a (by simp)
  rw [expand]
  obtain ⟨m, hm⟩ : ∃ m, a.2 = m + 1 := ⟨a.2 - 1, by omega⟩
  rw [hm, List.replicate_succ]
  simp
theorem expand_nil {r : List Bl} (g : Good r) : expand r = [] ↔ r = [] := by
  cases r with
  | nil => exact ⟨fun _ => rfl, fun _ => rfl⟩
  | cons a r => exact ⟨fun h => absurd h (expand_ne g), fun h => by cases h⟩
theorem pre_head {a b : Bl} {x y : List Nat} (ha : 1 ≤ a.2) (hb : 1 ≤ b.2) (h : List.replicate a.2 a.1 ++ x <+: List.replicate b.2 b.1 ++ y) : a.1 = b.1 := by
  obtain ⟨m, hm⟩ : ∃ m, a.2 = m + 1 := ⟨a.2 - 1, by omega⟩
  obtain ⟨k, hk⟩ : ∃ k, b.2 = k + 1 := ⟨b.2 - 1, by omega⟩
  rw [hm, hk, List.replicate_succ, List.replicate_succ, List.cons_append, List.cons_append] at h
  exact (List.cons_prefix_cons.mp h).1
theorem pre_blk {a b : Bl} {r q : List Bl} (ga : Good (a :: r)) (gb : Good (b :: q)) : expand (a :: r) <+: expand (b :: q) ↔ a.1 = b.1 ∧ ((a.2 = b.2 ∧ expand r <+: expand q) ∨ (r = [] ∧ a.2 ≤ b.2)) := by
  have na := nh_expand ga
  have nb := nh_expand gb
  rw [expand, expand]
  constructor
  · intro h
    have e := pre_head (ga.pos a (by simp)) (gb.pos b (by simp)) h
    rw [← e] at h nb
    have := (pre_rep a.1 _ _ _ _ na nb).mp h
    rw [expand_nil ga.tl] at this
    exact ⟨e, this⟩
  · rintro ⟨e, h⟩
    rw [← e] at nb ⊢
    rw [← expand_nil ga.tl] at h
    exact (pre_rep a.1 _ _ _ _ na nb).mpr h
theorem good_unique : ∀ {x y : List Bl}, Good x → Good y → expand x = expand y → x = y
  | [], y, _, gy, e => ((expand_nil gy).mp e.symm).symm
  | a :: r, [], gx, _, e => absurd e (expand_ne gx)
  | a :: r, b :: q, gx, gy, e => by
    have h1 := (pre_blk gx gy).mp (e ▸ List.prefix_rfl)
    have h2 := (pre_blk gy gx).mp (e ▸ List.prefix_rfl)
    have hc : a.2 = b.2 := by
      rcases h1.2 with h | h
      · exact h.1
      · rcases h2.2 with h' | h'
        · exact h'.1.symm
        · omega
    have hr : expand r = expand q := by
      rw [expand, expand, hc, h1.1] at e
      exact List.append_cancel_left e
    have hr2 := good_unique gx.tl gy.tl hr
    obtain ⟨a1, a2⟩ := a
    obtain ⟨b1, b2⟩ := b
    simp only at hc
    have := h1.1
    simp only at this
    rw [hc, hr2, this]
end LW
namespace LW
open PySem L2 Pd
def sts : Nat → List Bl → List Nat
  | _, [] => []
  | k, b :: r => k :: sts (k + b.2) r
def tot : Nat → List Bl → Nat
  | k, [] => k
  | k, b :: r => tot (k + b.2) r
def intD (k : Nat) : D := .int (k : Nat)
def fldsW (bs : List Bl) : List (Str × D) := [("own_text", .str (txt bs)), ("own_blocks", .tup (bs.map blkD)), ("own_ends", .tup ((sts 0 bs ++ [tot 0 bs]).map intD))]
def i_word : FI := fun ds n P => ∃ bs : List Bl, ds = [.str (txt bs)] ∧ Told bs ∧ P n (fldsW bs)
theorem sts_len : ∀ (bs : List Bl) (k : Nat), (sts k bs).length = bs.length
  | [], _ => rfl
  | b :: r, k => by rw [sts, List.length_cons, List.length_cons, sts_len r]
theorem l_word_init (c : Str → Addr) : ∀ ds n Q, i_word ds n Q → dIni (c "Word") 6 2 (b_Word___init__ c s_blocks_told) ds n Q := by
  rintro ds n Q ⟨bs, rfl, ht, q⟩
  refine ⟨rfl, ?_⟩
  simp only [b_Word___init__, envOf, dRet, dRetN, dOp, dSl, dSlO, dVar, dC, pSome, pNo, ev_sll, ev_slt, ev_sls, dBi, dCons, dNil, ev_lenl, ev_lent, ev_lens, ev_lenr, ev_gI, TC, Pd.gSub, gLt, gLe, gGt, gGe, gMod, gFdiv, gPow, gEq, gNe, ev_oki, ev_oks, ev_okl, ev_okt, gIs, gIsNot, gIsB, gIsNotB, Pd.isNon, dCall, dSeq, dSet, dSetO, dMul, setL, bCons, bOwn, bNil, dIf, dIte, dTB, dAnd, dOr, dNot, dBV, dAndV, dOrV, dChain, dTmp, dTmpT, frzE, dFrz, OD.d, dIxO, dApp, dSetI, dNeg, dLst, dLstO, dTup, dO, dDrop, ev_abs, ev_inttoi, ev_inttob, ev_inttos, ev_strtoi, ev_listl, ev_listt, ev_lists, ev_tupl, ev_tupt, ev_addi, ev_adds, ev_addl, ev_addt, ev_muli, ev_muls, ev_mull, ev_max, ev_min, ev_all, ev_any, gRepr, dLRg, Pd.r1, Pd.r2, eqD_str, eqD_int, eqD_bl, dFld, dProp, dMeth, dAugI, dRev, dMake, dIsi, isT, isC, dNx, dBrk, dNev, dFst, putFD, gNm, gTp, gsCons, gsNil, dAsg, dStar, dYes, iniEnd, flatD, wipeE, ev_ixl, ev_ixt, ev_ixs, ev_ixr, ev_srcl, ev_srct, ev_srcs, ev_at0, ev_at1, ev_atl, ev_atn, ev_ixn, Option.some.injEq, exists_eq_left', exists_eq_left, List.foldl_cons, List.foldl_nil, List.map_cons, List.map_nil, List.replicate, List.length_append, List.length_map, List.length_cons, List.length_nil, List.cons_append, List.nil_append, List.append_nil, List.getElem?_cons_zero, List.getElem?_cons_succ, List.set_cons_zero, List.set_cons_succ, Nat.zero_add, Nat.reduceAdd, Nat.reduceSub, Nat.reduceLeDiff, true_and, and_true, decide_eq_true_eq, decide_eq_false_iff_not, ne_eq, reduceCtorEq, false_implies, true_implies, forall_const, Bool.and_self, Bool.and_true, Bool.true_and, dFor, iVal]
  refine ⟨bs, rfl, ht, fun h => (by cases h), fun _ => ?_⟩
  simp only [putFD, envOf, dRet, dRetN, dOp, dSl, dSlO, dVar, dC, pSome, pNo, ev_sll, ev_slt, ev_sls, dBi, dCons, dNil, ev_lenl, ev_lent, ev_lens, ev_lenr, ev_gI, TC, Pd.gSub, gLt, gLe, gGt, gGe, gMod, gFdiv, gPow, gEq, gNe, ev_oki, ev_oks, ev_okl, ev_okt, gIs, gIsNot, gIsB, gIsNotB, Pd.isNon, dCall, dSeq, dSet, dSetO, dMul, setL, bCons, bOwn, bNil, dIf, dIte, dTB, dAnd, dOr, dNot, dBV, dAndV, dOrV, dChain, dTmp, dTmpT, frzE, dFrz, OD.d, dIxO, dApp, dSetI, dNeg, dLst, dLstO, dTup, dO, dDrop, ev_abs, ev_inttoi, ev_inttob, ev_inttos, ev_strtoi, ev_listl, ev_listt, ev_lists, ev_tupl, ev_tupt, ev_addi, ev_adds, ev_addl, ev_addt, ev_muli, ev_muls, ev_mull, ev_max, ev_min, ev_all, ev_any, gRepr, dLRg, Pd.r1, Pd.r2, eqD_str, eqD_int, eqD_bl, dFld, dProp, dMeth, dAugI, dRev, dMake, dIsi, isT, isC, dNx, dBrk, dNev, dFst, putFD, gNm, gTp, gsCons, gsNil, dAsg, dStar, dYes, iniEnd, flatD, wipeE, ev_ixl, ev_ixt, ev_ixs, ev_ixr, ev_srcl, ev_srct, ev_srcs, ev_at0, ev_at1, ev_atl, ev_atn, ev_ixn, Option.some.injEq, exists_eq_left', exists_eq_left, List.foldl_cons, List.foldl_nil, List.map_cons, List.map_nil, List.replicate, List.length_append, List.length_map, List.length_cons, List.length_nil, List.cons_append, List.nil_append, List.append_nil, List.getElem?_cons_zero, List.getElem?_cons_succ, List.set_cons_zero, List.set_cons_succ, Nat.zero_add, Nat.reduceAdd, Nat.reduceSub, Nat.reduceLeDiff, true_and, and_true, decide_eq_true_eq, decide_eq_false_iff_not, ne_eq, reduceCtorEq, false_implies, true_implies, forall_const, Bool.and_self, Bool.and_true, Bool.true_and]
  refine ⟨by decide, by decide, ?_⟩
  rw [if_neg (show ¬ ((Str.ofString "own_text") = (Str.ofString "own_blocks")) by decide)]
  refine forW_ind (Inv := fun ys n' ε => ∃ (rem : List Bl) (L : List Nat) (k : Nat) (s4 s5 : Sl), ys = rem.map blkD ∧ n' = n ∧ ε = [.own (.ins (c "Word") [("own_text", .str (txt bs)), ("own_blocks", .tup (bs.map blkD))]), .val (.str (txt bs)), .val (.tup (bs.map blkD)), .own (.lst (L.map intD ++ [intD k])), s4, s5] ∧ L ++ sts k rem = sts 0 bs ∧ tot k rem = tot 0 bs ∧ L.length + rem.length = bs.length) ?_ ?_ _ _ _ ⟨bs, [], 0, .no, .no, rfl, rfl, rfl, rfl, rfl, by simp⟩
  · rintro n' ε ⟨rem, L, k, s4, s5, e, rfl, rfl, h1, h2, h3⟩
    have : rem = [] := List.map_eq_nil_iff.mp e.symm
    subst this
    simp only [putFD, envOf, dRet, dRetN, dOp, dSl, dSlO, dVar, dC, pSome, pNo, ev_sll, ev_slt, ev_sls, dBi, dCons, dNil, ev_lenl, ev_lent, ev_lens, ev_lenr, ev_gI, TC, Pd.gSub, gLt, gLe, gGt, gGe, gMod, gFdiv, gPow, gEq, gNe, ev_oki, ev_oks, ev_okl, ev_okt, gIs, gIsNot, gIsB, gIsNotB, Pd.isNon, dCall, dSeq, dSet, dSetO, dMul, setL, bCons, bOwn, bNil, dIf, dIte, dTB, dAnd, dOr, dNot, dBV, dAndV, dOrV, dChain, dTmp, dTmpT, frzE, dFrz, OD.d, dIxO, dApp, dSetI, dNeg, dLst, dLstO, dTup, dO, dDrop, ev_abs, ev_inttoi, ev_inttob, ev_inttos, ev_strtoi, ev_listl, ev_listt, ev_lists, ev_tupl, ev_tupt, ev_addi, ev_adds, ev_addl, ev_addt, ev_muli, ev_muls, ev_mull, ev_max, ev_min, ev_all, ev_any, gRepr, dLRg, Pd.r1, Pd.r2, eqD_str, eqD_int, eqD_bl, dFld, dProp, dMeth, dAugI, dRev, dMake, dIsi, isT, isC, dNx, dBrk, dNev, dFst, putFD, gNm, gTp, gsCons, gsNil, dAsg, dStar, dYes, iniEnd, flatD, wipeE, ev_ixl, ev_ixt, ev_ixs, ev_ixr, ev_srcl, ev_srct, ev_srcs, ev_at0, ev_at1, ev_atl, ev_atn, ev_ixn, Option.some.injEq, exists_eq_left', exists_eq_left, List.foldl_cons, List.foldl_nil, List.map_cons, List.map_nil, List.replicate, List.length_append, List.length_map, List.length_cons, List.length_nil, List.cons_append, List.nil_append, List.append_nil, List.getElem?_cons_zero, List.getElem?_cons_succ, List.set_cons_zero, List.set_cons_succ, Nat.zero_add, Nat.reduceAdd, Nat.reduceSub, Nat.reduceLeDiff, true_and, and_true, decide_eq_true_eq, decide_eq_false_iff_not, ne_eq, reduceCtorEq, false_implies, true_implies, forall_const, Bool.and_self, Bool.and_true, Bool.true_and]
    refine ⟨by decide, ?_⟩
    rw [if_neg (show ¬ ((Str.ofString "own_text") = (Str.ofString "own_ends")) by decide), if_neg (show ¬ ((Str.ofString "own_blocks") = (Str.ofString "own_ends")) by decide)]
    have e : L.map intD ++ [intD k] = (sts 0 bs ++ [tot 0 bs]).map intD := by
      rw [← h1, ← h2, sts, List.append_nil, tot, List.map_append]
      rfl
    rw [e]
    exact q
  · rintro y ys n' ε ih ⟨rem, L, k, s4, s5, e, rfl, rfl, h1, h2, h3⟩
    match rem, e with
    | b :: rem, e =>
      obtain ⟨rfl, rfl⟩ : y = blkD b ∧ ys = rem.map blkD := by simpa using e
      have ih' := ih n' _ ⟨rem, L ++ [k], k + b.2, .val (.str [b.1]), .val (.int b.2), rfl, rfl, rfl, by rw [List.append_assoc]; exact h1, h2, by rw [List.length_append, ← h3]; simp; omega⟩
      simp only [blkD, intD, envOf, dRet, dRetN, dOp, dSl, dSlO, dVar, dC, pSome, pNo, ev_sll, ev_slt, ev_sls, dBi, dCons, dNil, ev_lenl, ev_lent, ev_lens, ev_lenr, ev_gI, TC, Pd.gSub, gLt, gLe, gGt, gGe, gMod, gFdiv, gPow, gEq, gNe, ev_oki, ev_oks, ev_okl, ev_okt, gIs, gIsNot, gIsB, gIsNotB, Pd.isNon, dCall, dSeq, dSet, dSetO, dMul, setL, bCons, bOwn, bNil, dIf, dIte, dTB, dAnd, dOr, dNot, dBV, dAndV, dOrV, dChain, dTmp, dTmpT, frzE, dFrz, OD.d, dIxO, dApp, dSetI, dNeg, dLst, dLstO, dTup, dO, dDrop, ev_abs, ev_inttoi, ev_inttob, ev_inttos, ev_strtoi, ev_listl, ev_listt, ev_lists, ev_tupl, ev_tupt, ev_addi, ev_adds, ev_addl, ev_addt, ev_muli, ev_muls, ev_mull, ev_max, ev_min, ev_all, ev_any, gRepr, dLRg, Pd.r1, Pd.r2, eqD_str, eqD_int, eqD_bl, dFld, dProp, dMeth, dAugI, dRev, dMake, dIsi, isT, isC, dNx, dBrk, dNev, dFst, putFD, gNm, gTp, gsCons, gsNil, dAsg, dStar, dYes, iniEnd, flatD, wipeE, ev_ixl, ev_ixt, ev_ixs, ev_ixr, ev_srcl, ev_srct, ev_srcs, ev_at0, ev_at1, ev_atl, ev_atn, ev_ixn, Option.some.injEq, exists_eq_left', exists_eq_left, List.foldl_cons, List.foldl_nil, List.map_cons, List.map_nil, List.replicate, List.length_append, List.length_map, List.length_cons, List.length_nil, List.cons_append, List.nil_append, List.append_nil, List.getElem?_cons_zero, List.getElem?_cons_succ, List.set_cons_zero, List.set_cons_succ, Nat.zero_add, Nat.reduceAdd, Nat.reduceSub, Nat.reduceLeDiff, true_and, and_true, decide_eq_true_eq, decide_eq_false_iff_not, ne_eq, reduceCtorEq, false_implies, true_implies, forall_const, Bool.and_self, Bool.and_true, Bool.true_and]
      have hl := ht.2.1
      rw [List.length_cons] at h3
      rw [List.map_append] at ih'
      exact ⟨by omega, ih'⟩
def wordD (c : Str → Addr) (bs : List Bl) : D := .obj (c "Word") (fldsW bs)
def s_Word_blocks (c : Str → Addr) : FD := fun ds n P => ∃ bs : List Bl, ds = [wordD c bs] ∧ P n (.tup (bs.map blkD))
theorem l_Word_blocks (c : Str → Addr) : ∀ ds n Q, s_Word_blocks c ds n Q → dFn 1 1 (b_Word_blocks c) ds n Q := by
  rintro ds n Q ⟨bs, rfl, q⟩
  refine ⟨rfl, ?_⟩
  simp only [b_Word_blocks, wordD, fldsW, envOf, dRet, dRetN, dOp, dSl, dSlO, dVar, dC, pSome, pNo, ev_sll, ev_slt, ev_sls, dBi, dCons, dNil, ev_lenl, ev_lent, ev_lens, ev_lenr, ev_gI, TC, Pd.gSub, gLt, gLe, gGt, gGe, gMod, gFdiv, gPow, gEq, gNe, ev_oki, ev_oks, ev_okl, ev_okt, gIs, gIsNot, gIsB, gIsNotB, Pd.isNon, dCall, dSeq, dSet, dSetO, dMul, setL, bCons, bOwn, bNil, dIf, dIte, dTB, dAnd, dOr, dNot, dBV, dAndV, dOrV, dChain, dTmp, dTmpT, frzE, dFrz, OD.d, dIxO, dApp, dSetI, dNeg, dLst, dLstO, dTup, dO, dDrop, ev_abs, ev_inttoi, ev_inttob, ev_inttos, ev_strtoi, ev_listl, ev_listt, ev_lists, ev_tupl, ev_tupt, ev_addi, ev_adds, ev_addl, ev_addt, ev_muli, ev_muls, ev_mull, ev_max, ev_min, ev_all, ev_any, gRepr, dLRg, Pd.r1, Pd.r2, eqD_str, eqD_int, eqD_bl, dFld, dProp, dMeth, dAugI, dRev, dMake, dIsi, isT, isC, dNx, dBrk, dNev, dFst, putFD, gNm, gTp, gsCons, gsNil, dAsg, dStar, dYes, iniEnd, flatD, wipeE, ev_ixl, ev_ixt, ev_ixs, ev_ixr, ev_srcl, ev_srct, ev_srcs, ev_at0, ev_at1, ev_atl, ev_atn, ev_ixn, Option.some.injEq, exists_eq_left', exists_eq_left, List.foldl_cons, List.foldl_nil, List.map_cons, List.map_nil, List.replicate, List.length_append, List.length_map, List.length_cons, List.length_nil, List.cons_append, List.nil_append, List.append_nil, List.getElem?_cons_zero, List.getElem?_cons_succ, List.set_cons_zero, List.set_cons_succ, Nat.zero_add, Nat.reduceAdd, Nat.reduceSub, Nat.reduceLeDiff, true_and, and_true, decide_eq_true_eq, decide_eq_false_iff_not, ne_eq, reduceCtorEq, false_implies, true_implies, forall_const, Bool.and_self, Bool.and_true, Bool.true_and]
  exact ⟨_, rfl, q⟩
end LW
namespace LW
open PySem L2 Pd
def pos (bs : List Bl) (j : Nat) : Nat := ((bs.take j).map (·.2)).sum
theorem pos_zero (bs : List Bl) : pos bs 0 = 0 := by simp [pos]
theorem pos_cons (a : Bl) (r : List Bl) (j : Nat) : pos (a :: r) (j + 1) = a.2 + pos r j := by simp [pos]
theorem pos_succ : ∀ {bs : List Bl} {j : Nat} {b : Bl}, bs[j]? = some b → pos bs (j + 1) = pos bs j + b.2
  | [], j, b, h => by simp at h
  | a :: r, 0, b, h => by
    have e : a = b := by simpa using h
    rw [pos_cons, pos_zero, pos_zero, e]
    omega
  | a :: r, j + 1, b, h => by
    have e : r[j]? = some b := by simpa using h
    rw [pos_cons, pos_cons, pos_succ e]
    omega
theorem pos_step (bs : List Bl) (j : Nat) : pos bs j ≤ pos bs (j + 1) := by
  cases e : bs[j]? with
  | some b =>
    rw [pos_succ e]
    omega
  | none =>
    have h : bs.length ≤ j := by simpa using e
    unfold pos
    rw [List.take_of_length_le h, List.take_of_length_le (by omega)]
    exact Nat.le_refl _
theorem pos_mono (bs : List Bl) {j k : Nat} (h : j ≤ k) : pos bs j ≤ pos bs k := by
  induction k with
  | zero => rw [Nat.le_zero.mp h]; exact Nat.le_refl _
  | succ k ih =>
    rcases Nat.lt_or_ge k j with q | q
    · rw [show j = k + 1 by omega]; exact Nat.le_refl _
    · exact Nat.le_trans (ih q) (pos_step bs k)
theorem pos_all : ∀ bs : List Bl, pos bs bs.length = (expand bs).length
  | [] => by simp [pos, expand]
  | a :: r => by
    rw [List.length_cons, pos_cons, pos_all r, expand, List.length_append, List.length_replicate]
theorem pos_lt {bs : List Bl} (g : ∀ b ∈ bs, 1 ≤ b.2) {j k : Nat} (h : j < k) (hk : k ≤ bs.length) : pos bs j < pos bs k := by
  have e : bs[j]? = some bs[j] := List.getElem?_eq_getElem (by omega)
  have h1 := pos_succ e
  have h2 := g bs[j] (List.getElem_mem _)
  have h3 := pos_mono bs (j := j + 1) (k := k) (by omega)
  omega
theorem expand_at : ∀ {bs : List Bl} {j : Nat} {b : Bl} {p : Nat}, bs[j]? = some b → pos bs j ≤ p → p < pos bs (j + 1) → (expand bs)[p]? = some b.1
  | [], j, b, p, h, _, _ => by simp at h
  | a :: r, 0, b, p, h, h1, h2 => by
    have e : a = b := by simpa using h
    rw [pos_cons, pos_zero] at h2
    rw [expand, List.getElem?_append_left (by rw [List.length_replicate]; omega), List.getElem?_replicate, if_pos (by omega), e]
  | a :: r, j + 1, b, p, h, h1, h2 => by
    have e : r[j]? = some b := by simpa using h
    rw [pos_cons] at h1 h2
    rw [expand, List.getElem?_append_right (by rw [List.length_replicate]; omega), List.length_replicate]
    exact expand_at e (by omega) (by omega)
theorem block_of {bs : List Bl} {p : Nat} (h : p < (expand bs).length) : ∃ j, j < bs.length ∧ pos bs j ≤ p ∧ p < pos bs (j + 1) := by
  rw [← pos_all] at h
  have go : ∀ m, m ≤ bs.length → p < pos bs m → ∃ j, j < m ∧ pos bs j ≤ p ∧ p < pos bs (j + 1) := by
    intro m
    induction m with
    | zero => intro _ q; rw [pos_zero] at q; omega
    | succ m ih =>
      intro hm q
      rcases Nat.lt_or_ge p (pos bs m) with z | z
      · obtain ⟨j, h1, h2, h3⟩ := ih (by omega) z
        exact ⟨j, by omega, h2, h3⟩
      · exact ⟨m, by omega, z, q⟩
  exact go _ (Nat.le_refl _) h
theorem sts_pos : ∀ (bs : List Bl) (k : Nat), sts k bs = (List.range bs.length).map fun j => k + pos bs j
  | [], k => rfl
  | b :: r, k => by
    rw [sts, sts_pos r, List.length_cons, List.range_succ_eq_map, List.map_cons, List.map_map, pos_zero, Nat.add_zero]
    congr 1
    refine List.map_congr_left fun j _ => ?_
    show k + b.2 + pos r j = k + pos (b :: r) (j + 1)
    rw [pos_cons]
    omega
theorem tot_pos : ∀ (bs : List Bl) (k : Nat), tot k bs = k + pos bs bs.length
  | [], k => by simp [tot, pos]
  | b :: r, k => by
    rw [tot, tot_pos r, List.length_cons, pos_cons]
    omega
def endsD (bs : List Bl) : List D := (List.range (bs.length + 1)).map fun j => intD (pos bs j)
theorem ends_eq (bs : List Bl) : (sts 0 bs ++ [tot 0 bs]).map intD = endsD bs := by
  unfold endsD
  rw [sts_pos, tot_pos, List.range_succ, List.map_append, List.map_append, List.map_map]
  congr 1
  · refine List.map_congr_left fun j _ => ?_
    show intD (0 + pos bs j) = _
    rw [Nat.zero_add]
  · rw [Nat.zero_add]; rfl
theorem endsD_len (bs : List Bl) : (endsD bs).length = bs.length + 1 := by simp [endsD]
theorem lk_text (bs : List Bl) : List.lookup (Str.ofString "own_text") (fldsW bs) = some (.str (txt bs)) := rfl
theorem lk_blocks (bs : List Bl) : List.lookup (Str.ofString "own_blocks") (fldsW bs) = some (.tup (bs.map blkD)) := rfl
theorem lk_ends (bs : List Bl) : List.lookup (Str.ofString "own_ends") (fldsW bs) = some (.tup (endsD bs)) := by
  rw [← ends_eq]
  rfl
theorem lk_spot (bs : List Bl) : (List.lookup (Str.ofString "spot") (fldsW bs) = none) = True := eq_true rfl
theorem lk_letter (bs : List Bl) : (List.lookup (Str.ofString "letter") (fldsW bs) = none) = True := eq_true rfl
theorem for_ind {dg : DG} {b : DS} {N : DN} (Inv : List D → Nat → Ev → Prop) {xs : List D} {n : Nat} {ε : Ev} (hi : Inv xs n ε) (h0 : ∀ n ε, Inv [] n ε → N.nx n ε)
    (hs : ∀ x xs n ε (nxt : Nat → Ev → Prop), (∀ n ε, Inv xs n ε → nxt n ε) → Inv (x :: xs) n ε → dg x ε fun ε' => b { N with nx := nxt, ct := nxt, bk := N.nx } n ε') : forW dg b N xs n ε :=
  forW_ind h0 (fun x xs n ε ih i => hs x xs n ε (forW dg b N xs) ih i) xs n ε hi
def spot (bs : List Bl) (p : Nat) : Nat := ((List.range' 1 (bs.length - 1)).filter fun j => decide (pos bs j ≤ p)).length
theorem filter_pre (f : Nat → Bool) : ∀ (n lo j : Nat), j ≤ n → (∀ i, lo ≤ i → i < lo + j → f i = true) → (∀ i, lo + j ≤ i → i < lo + n → f i = false) → ((List.range' lo n).filter f).length = j
  | 0, lo, j, h, _, _ => by
    rw [Nat.le_zero.mp h]
    rfl
  | n + 1, lo, 0, h, _, h2 => by
    have e : (List.range' lo (n + 1)).filter f = [] := by
      rw [List.filter_eq_nil_iff]
      intro i hi
      rw [List.mem_range'_1] at hi
      rw [h2 i (by omega) (by omega)]
      decide
    rw [e]
    rfl
  | n + 1, lo, j + 1, h, h1, h2 => by
    rw [List.range'_succ, List.filter_cons_of_pos (h1 lo (by omega) (by omega)), List.length_cons, filter_pre f n (lo + 1) j (by omega) (fun i a b => h1 i (by omega) (by omega)) (fun i a b => h2 i (by omega) (by omega))]
theorem spot_eq {bs : List Bl} {p j : Nat} (hj : j < bs.length) (h1 : pos bs j ≤ p) (h2 : p < pos bs (j + 1)) : spot bs p = j := by
  unfold spot
  refine filter_pre _ _ _ _ (by omega) (fun i a b => decide_eq_true ?_) (fun i a b => decide_eq_false ?_)
  · have := pos_mono bs (j := i) (k := j) (by omega)
    omega
  · have := pos_mono bs (j := j + 1) (k := i) (by omega)
    omega
theorem cut_amid {α : Type} (l : List α) (h : 2 ≤ l.length) : cut l (some 1) (some (-1)) = (l.drop 1).take (l.length - 2) := by
  unfold cut
  rw [show HT.sIx l.length 0 (some (1 : Int)) = 1 from by
    rw [show (1 : Int) = ((1 : Nat) : Int) from rfl, HT.sIx_nat]
    omega, show HT.sIx l.length l.length (some (-1 : Int)) = l.length - 1 from by
    show (if (-1 : Int) < 0 then (-1 + (l.length : Int)).toNat else min (-1 : Int).toNat l.length) = _
    rw [if_pos (by decide)]
    omega, show l.length - 1 - 1 = l.length - 2 by omega]
theorem amid_ends {bs : List Bl} (h : bs ≠ []) : cut (endsD bs) (some 1) (some (-1)) = (List.range' 1 (bs.length - 1)).map fun j => intD (pos bs j) := by
  have hl : 0 < bs.length := List.length_pos_iff.mpr h
  rw [cut_amid _ (by rw [endsD_len]; omega), endsD_len]
  unfold endsD
  rw [← List.map_drop, ← List.map_take]
  congr 1
  apply List.ext_getElem
  · simp
  · intro i h1 h2
    simp
end LW
namespace LW
open PySem L2 Pd
def b_Word_size (c : Str → Addr)  : DS := (dRet (dOp gIx (dFld (c "Word") "own_ends" (dVar 0)) (dNeg (dC (.int 1)))))
def b_Word_spot (c : Str → Addr)  : DS := (dRet (dBi gLen (dCons (dO (dComp (iVal (dSl (dFld (c "Word") "own_ends" (dVar 0)) (pSome (dC (.int 1))) (pSome (dNeg (dC (.int 1)))))) (gNm 2) (dTB (dOp gLe (dVar 2) (dVar 1))) (dVar 2) [2])) dNil)))
def b_text_of (c : Str → Addr)  : DS := (dRet (dJoin (dC (.str [])) (dO (dComp (iVal (dVar 0)) (gTp 2 (gsCons (gNm 1) (gsCons (gNm 2) gsNil))) dYes (dOp gAdd (dVar 1) (dIte (dTB (dOp gGt (dVar 2) (dC (.int 1)))) (dBi gStr (dCons (dVar 2) dNil)) (dC (.str [])))) [1, 2]))))
def b_is_integer (c : Str → Addr)  : DS := (dSeq (dIf (dOr (dNot (dTB (dIsi (isT "int" [c "Word"]) (dVar 0)))) (dTB (dIsi (isT "bool" [c "Word"]) (dVar 0)))) (dRet (dC (.bl false))) dNx)
    (dRet (dAndV (dTB (dOp gLe (dVar 1) (dVar 0))) (dOrV (dTB (dOp gIs (dVar 2) (dC .non))) (dOp gLe (dVar 0) (dVar 2))))))
def b_Word_letter (c : Str → Addr) (s_Word_size : FD) (s_is_integer : FD) (s_Word_spot : FD) : DS := (dSeq (dIf (dNot (dTB (dCall s_is_integer [] (dCons (dVar 1) (dCons (dC (.int 0)) (dCons (dOp gSub (dProp (c "Word") s_Word_size (dVar 0)) (dC (.int 1))) dNil)))))) dNev dNx)
    (dRet (dOp gIx (dOp gIx (dFld (c "Word") "own_blocks" (dVar 0)) (dMeth (c "Word") "spot" s_Word_spot [] (dVar 0) (dCons (dVar 1) dNil))) (dC (.int 0)))))
end LW
namespace LW
open PySem L2 Pd
def size (bs : List Bl) : Nat := (expand bs).length
def s_Word_size (c : Str → Addr) : FD := fun ds n P => ∃ bs : List Bl, ds = [wordD c bs] ∧ P n (.int (size bs : Nat))
theorem atI_endlast (bs : List Bl) : L2.atI (endsD bs) (-1) = some (intD (size bs)) := by
  unfold endsD
  rw [List.range_succ, List.map_append, List.map_cons, List.map_nil, pos_all]
  exact L2.atI_last _ _
theorem l_Word_size (c : Str → Addr) : ∀ ds n Q, s_Word_size c ds n Q → dFn 1 1 (b_Word_size c) ds n Q := by
  rintro ds n Q ⟨bs, rfl, q⟩
  refine ⟨rfl, ?_⟩
  simp only [b_Word_size, wordD, fldsW, envOf, dRet, dRetN, dOp, dSl, dSlO, dVar, dC, pSome, pNo, ev_sll, ev_slt, ev_sls, dBi, dCons, dNil, ev_lenl, ev_lent, ev_lens, ev_lenr, ev_gI, TC, Pd.gSub, gLt, gLe, gGt, gGe, gMod, gFdiv, gPow, gEq, gNe, ev_oki, ev_oks, ev_okl, ev_okt, gIs, gIsNot, gIsB, gIsNotB, Pd.isNon, dCall, dSeq, dSet, dSetO, dMul, setL, bCons, bOwn, bNil, dIf, dIte, dTB, dAnd, dOr, dNot, dBV, dAndV, dOrV, dChain, dTmp, dTmpT, frzE, dFrz, OD.d, dIxO, dApp, dSetI, dNeg, dLst, dLstO, dTup, dO, dDrop, ev_abs, ev_inttoi, ev_inttob, ev_inttos, ev_strtoi, ev_listl, ev_listt, ev_lists, ev_tupl, ev_tupt, ev_addi, ev_adds, ev_addl, ev_addt, ev_muli, ev_muls, ev_mull, ev_max, ev_min, ev_all, ev_any, gRepr, dLRg, Pd.r1, Pd.r2, eqD_str, eqD_int, eqD_bl, dFld, dProp, dMeth, dAugI, dRev, dMake, dIsi, isT, isC, dNx, dBrk, dNev, dFst, putFD, gNm, gTp, gsCons, gsNil, dAsg, dStar, dYes, iniEnd, flatD, wipeE, ev_ixl, ev_ixt, ev_ixs, ev_ixr, ev_srcl, ev_srct, ev_srcs, ev_at0, ev_at1, ev_atl, ev_atn, ev_ixn, Option.some.injEq, exists_eq_left', exists_eq_left, List.foldl_cons, List.foldl_nil, List.map_cons, List.map_nil, List.replicate, List.length_append, List.length_map, List.length_cons, List.length_nil, List.cons_append, List.nil_append, List.append_nil, List.getElem?_cons_zero, List.getElem?_cons_succ, List.set_cons_zero, List.set_cons_succ, Nat.zero_add, Nat.reduceAdd, Nat.reduceSub, Nat.reduceLeDiff, true_and, and_true, decide_eq_true_eq, decide_eq_false_iff_not, ne_eq, reduceCtorEq, false_implies, true_implies, forall_const, Bool.and_self, Bool.and_true, Bool.true_and]
  refine ⟨_, rfl, ?_⟩
  simp only [envOf, dRet, dRetN, dOp, dSl, dSlO, dVar, dC, pSome, pNo, ev_sll, ev_slt, ev_sls, dBi, dCons, dNil, ev_lenl, ev_lent, ev_lens, ev_lenr, ev_gI, TC, Pd.gSub, gLt, gLe, gGt, gGe, gMod, gFdiv, gPow, gEq, gNe, ev_oki, ev_oks, ev_okl, ev_okt, gIs, gIsNot, gIsB, gIsNotB, Pd.isNon, dCall, dSeq, dSet, dSetO, dMul, setL, bCons, bOwn, bNil, dIf, dIte, dTB, dAnd, dOr, dNot, dBV, dAndV, dOrV, dChain, dTmp, dTmpT, frzE, dFrz, OD.d, dIxO, dApp, dSetI, dNeg, dLst, dLstO, dTup, dO, dDrop, ev_abs, ev_inttoi, ev_inttob, ev_inttos, ev_strtoi, ev_listl, ev_listt, ev_lists, ev_tupl, ev_tupt, ev_addi, ev_adds, ev_addl, ev_addt, ev_muli, ev_muls, ev_mull, ev_max, ev_min, ev_all, ev_any, gRepr, dLRg, Pd.r1, Pd.r2, eqD_str, eqD_int, eqD_bl, dFld, dProp, dMeth, dAugI, dRev, dMake, dIsi, isT, isC, dNx, dBrk, dNev, dFst, putFD, gNm, gTp, gsCons, gsNil, dAsg, dStar, dYes, iniEnd, flatD, wipeE, ev_ixl, ev_ixt, ev_ixs, ev_ixr, ev_srcl, ev_srct, ev_srcs, ev_at0, ev_at1, ev_atl, ev_atn, ev_ixn, Option.some.injEq, exists_eq_left', exists_eq_left, List.foldl_cons, List.foldl_nil, List.map_cons, List.map_nil, List.replicate, List.length_append, List.length_map, List.length_cons, List.length_nil, List.cons_append, List.nil_append, List.append_nil, List.getElem?_cons_zero, List.getElem?_cons_succ, List.set_cons_zero, List.set_cons_succ, Nat.zero_add, Nat.reduceAdd, Nat.reduceSub, Nat.reduceLeDiff, true_and, and_true, decide_eq_true_eq, decide_eq_false_iff_not, ne_eq, reduceCtorEq, false_implies, true_implies, forall_const, Bool.and_self, Bool.and_true, Bool.true_and]
  refine ⟨_, ?_, q⟩
  rw [ends_eq]
  exact atI_endlast bs
def s_Word_spot (c : Str → Addr) : FD := fun ds n P => ∃ (bs : List Bl) (p : Nat), ds = [wordD c bs, .int p] ∧ bs ≠ [] ∧ bs.length ≤ 1000 ∧ P n (.int (spot bs p : Nat))
theorem l_Word_spot (c : Str → Addr) : ∀ ds n Q, s_Word_spot c ds n Q → dFn 3 2 (b_Word_spot c) ds n Q := by
  rintro ds n Q ⟨bs, p, rfl, hne, hl, q⟩
  refine ⟨rfl, ?_⟩
  simp only [b_Word_spot, wordD, fldsW, envOf, dRet, dRetN, dOp, dSl, dSlO, dVar, dC, pSome, pNo, ev_sll, ev_slt, ev_sls, dBi, dCons, dNil, ev_lenl, ev_lent, ev_lens, ev_lenr, ev_gI, TC, Pd.gSub, gLt, gLe, gGt, gGe, gMod, gFdiv, gPow, gEq, gNe, ev_oki, ev_oks, ev_okl, ev_okt, gIs, gIsNot, gIsB, gIsNotB, Pd.isNon, dCall, dSeq, dSet, dSetO, dMul, setL, bCons, bOwn, bNil, dIf, dIte, dTB, dAnd, dOr, dNot, dBV, dAndV, dOrV, dChain, dTmp, dTmpT, frzE, dFrz, OD.d, dIxO, dApp, dSetI, dNeg, dLst, dLstO, dTup, dO, dDrop, ev_abs, ev_inttoi, ev_inttob, ev_inttos, ev_strtoi, ev_listl, ev_listt, ev_lists, ev_tupl, ev_tupt, ev_addi, ev_adds, ev_addl, ev_addt, ev_muli, ev_muls, ev_mull, ev_max, ev_min, ev_all, ev_any, gRepr, dLRg, Pd.r1, Pd.r2, eqD_str, eqD_int, eqD_bl, dFld, dProp, dMeth, dAugI, dRev, dMake, dIsi, isT, isC, dNx, dBrk, dNev, dFst, putFD, gNm, gTp, gsCons, gsNil, dAsg, dStar, dYes, iniEnd, flatD, wipeE, ev_ixl, ev_ixt, ev_ixs, ev_ixr, ev_srcl, ev_srct, ev_srcs, ev_at0, ev_at1, ev_atl, ev_atn, ev_ixn, Option.some.injEq, exists_eq_left', exists_eq_left, List.foldl_cons, List.foldl_nil, List.map_cons, List.map_nil, List.replicate, List.length_append, List.length_map, List.length_cons, List.length_nil, List.cons_append, List.nil_append, List.append_nil, List.getElem?_cons_zero, List.getElem?_cons_succ, List.set_cons_zero, List.set_cons_succ, Nat.zero_add, Nat.reduceAdd, Nat.reduceSub, Nat.reduceLeDiff, true_and, and_true, decide_eq_true_eq, decide_eq_false_iff_not, ne_eq, reduceCtorEq, false_implies, true_implies, forall_const, Bool.and_self, Bool.and_true, Bool.true_and, dComp, iVal]
  refine ⟨_, rfl, ?_⟩
  simp only [envOf, dRet, dRetN, dOp, dSl, dSlO, dVar, dC, pSome, pNo, ev_sll, ev_slt, ev_sls, dBi, dCons, dNil, ev_lenl, ev_lent, ev_lens, ev_lenr, ev_gI, TC, Pd.gSub, gLt, gLe, gGt, gGe, gMod, gFdiv, gPow, gEq, gNe, ev_oki, ev_oks, ev_okl, ev_okt, gIs, gIsNot, gIsB, gIsNotB, Pd.isNon, dCall, dSeq, dSet, dSetO, dMul, setL, bCons, bOwn, bNil, dIf, dIte, dTB, dAnd, dOr, dNot, dBV, dAndV, dOrV, dChain, dTmp, dTmpT, frzE, dFrz, OD.d, dIxO, dApp, dSetI, dNeg, dLst, dLstO, dTup, dO, dDrop, ev_abs, ev_inttoi, ev_inttob, ev_inttos, ev_strtoi, ev_listl, ev_listt, ev_lists, ev_tupl, ev_tupt, ev_addi, ev_adds, ev_addl, ev_addt, ev_muli, ev_muls, ev_mull, ev_max, ev_min, ev_all, ev_any, gRepr, dLRg, Pd.r1, Pd.r2, eqD_str, eqD_int, eqD_bl, dFld, dProp, dMeth, dAugI, dRev, dMake, dIsi, isT, isC, dNx, dBrk, dNev, dFst, putFD, gNm, gTp, gsCons, gsNil, dAsg, dStar, dYes, iniEnd, flatD, wipeE, ev_ixl, ev_ixt, ev_ixs, ev_ixr, ev_srcl, ev_srct, ev_srcs, ev_at0, ev_at1, ev_atl, ev_atn, ev_ixn, Option.some.injEq, exists_eq_left', exists_eq_left, List.foldl_cons, List.foldl_nil, List.map_cons, List.map_nil, List.replicate, List.length_append, List.length_map, List.length_cons, List.length_nil, List.cons_append, List.nil_append, List.append_nil, List.getElem?_cons_zero, List.getElem?_cons_succ, List.set_cons_zero, List.set_cons_succ, Nat.zero_add, Nat.reduceAdd, Nat.reduceSub, Nat.reduceLeDiff, true_and, and_true, decide_eq_true_eq, decide_eq_false_iff_not, ne_eq, reduceCtorEq, false_implies, true_implies, forall_const, Bool.and_self, Bool.and_true, Bool.true_and]
  rw [ends_eq, amid_ends hne]
  refine ⟨by rw [List.length_map, List.length_range']; omega, compW_pure (fun d => match d with
    | .int i => decide (i ≤ (p : Int))
    | _ => false) id _ _ _ (fun x hx n K K' q1 q2 => ?_) ?_⟩
  · obtain ⟨j, hj, rfl⟩ := List.mem_map.mp hx
    simp only [intD, envOf, dRet, dRetN, dOp, dSl, dSlO, dVar, dC, pSome, pNo, ev_sll, ev_slt, ev_sls, dBi, dCons, dNil, ev_lenl, ev_lent, ev_lens, ev_lenr, ev_gI, TC, Pd.gSub, gLt, gLe, gGt, gGe, gMod, gFdiv, gPow, gEq, gNe, ev_oki, ev_oks, ev_okl, ev_okt, gIs, gIsNot, gIsB, gIsNotB, Pd.isNon, dCall, dSeq, dSet, dSetO, dMul, setL, bCons, bOwn, bNil, dIf, dIte, dTB, dAnd, dOr, dNot, dBV, dAndV, dOrV, dChain, dTmp, dTmpT, frzE, dFrz, OD.d, dIxO, dApp, dSetI, dNeg, dLst, dLstO, dTup, dO, dDrop, ev_abs, ev_inttoi, ev_inttob, ev_inttos, ev_strtoi, ev_listl, ev_listt, ev_lists, ev_tupl, ev_tupt, ev_addi, ev_adds, ev_addl, ev_addt, ev_muli, ev_muls, ev_mull, ev_max, ev_min, ev_all, ev_any, gRepr, dLRg, Pd.r1, Pd.r2, eqD_str, eqD_int, eqD_bl, dFld, dProp, dMeth, dAugI, dRev, dMake, dIsi, isT, isC, dNx, dBrk, dNev, dFst, putFD, gNm, gTp, gsCons, gsNil, dAsg, dStar, dYes, iniEnd, flatD, wipeE, ev_ixl, ev_ixt, ev_ixs, ev_ixr, ev_srcl, ev_srct, ev_srcs, ev_at0, ev_at1, ev_atl, ev_atn, ev_ixn, Option.some.injEq, exists_eq_left', exists_eq_left, List.foldl_cons, List.foldl_nil, List.map_cons, List.map_nil, List.replicate, List.length_append, List.length_map, List.length_cons, List.length_nil, List.cons_append, List.nil_append, List.append_nil, List.getElem?_cons_zero, List.getElem?_cons_succ, List.set_cons_zero, List.set_cons_succ, Nat.zero_add, Nat.reduceAdd, Nat.reduceSub, Nat.reduceLeDiff, true_and, and_true, decide_eq_true_eq, decide_eq_false_iff_not, ne_eq, reduceCtorEq, false_implies, true_implies, forall_const, Bool.and_self, Bool.and_true, Bool.true_and] at q1 q2 ⊢
    exact ⟨q1, q2⟩
  · rw [List.nil_append, List.map_id, List.filter_map, List.length_map]
    have e : (List.range' 1 (bs.length - 1)).filter ((fun d => match d with
      | .int i => decide (i ≤ (p : Int))
      | _ => false) ∘ fun j => intD (pos bs j)) = (List.range' 1 (bs.length - 1)).filter fun j => decide (pos bs j ≤ p) := by
      refine List.filter_congr fun j _ => ?_
      show decide ((pos bs j : Int) ≤ (p : Int)) = _
      simp
    rw [e]
    exact q
theorem atI_blks {bs : List Bl} {j : Nat} (h : j < bs.length) : L2.atI (bs.map blkD) (j : Int) = some (blkD bs[j]) := atI_nat (by rw [List.getElem?_map, List.getElem?_eq_getElem h]; rfl)
end LW
namespace LW
open PySem L2 Pd
theorem exp_ne {bs : List Bl} (g : Good bs) (h : bs ≠ []) : expand bs ≠ [] := fun e => h ((expand_nil g).mp e)
end LW
namespace LW
open PySem L2 Pd
def AL (l : List Nat) : Prop := ∀ c ∈ l, c ∈ letters
theorem AL.app {a b : List Nat} (h : AL a) (g : AL b) : AL (a ++ b) := fun c hc => (List.mem_append.mp hc).elim (h c) (g c)
theorem AL.sub {a b : List Nat} (h : AL b) (g : ∀ c ∈ a, c ∈ b) : AL a := fun c hc => h c (g c hc)
theorem AL.rep {a : List Nat} (h : AL a) (k : Nat) : AL (List.replicate k a).flatten := fun c hc => by
  obtain ⟨l, h1, h2⟩ := List.mem_flatten.mp hc
  exact h c (List.eq_of_mem_replicate h1 ▸ h2)
theorem AL.take {a : List Nat} (h : AL a) (k : Nat) : AL (a.take k) := h.sub fun c hc => List.mem_of_mem_take hc
theorem AL.drop {a : List Nat} (h : AL a) (k : Nat) : AL (a.drop k) := h.sub fun c hc => List.mem_of_mem_drop hc
theorem rep_len (a : List Nat) (k : Nat) : (List.replicate k a).flatten.length = k * a.length := by
  rw [List.length_flatten, List.map_replicate, List.sum_replicate_nat]
def s_any : FD := fun ds n P => ∃ few most : Nat, ds = [.pot, .int few, .int most] ∧ 1 ≤ few ∧ few ≤ most ∧ most ≤ 300 ∧ 500 ≤ n ∧ ∀ (n' : Nat) (l : List Nat), n' ≤ n → n ≤ n' + 500 → AL l → few ≤ l.length → l.length ≤ most → P n' (.str l)
theorem l_any (c : Str → Addr) : ∀ ds n Q, s_any ds n Q → dFn 11 3 (b__law_any_letters c takeF s_of s_random) ds n Q := by
  rintro ds n Q ⟨few, most, rfl, h0, h1, h2, h3, q⟩
  refine ⟨rfl, ?_⟩
  simp only [b__law_any_letters, envOf, dRet, dRetN, dOp, dSl, dSlO, dVar, dC, pSome, pNo, ev_sll, ev_slt, ev_sls, dBi, dCons, dNil, ev_lenl, ev_lent, ev_lens, ev_lenr, ev_gI, TC, Pd.gSub, gLt, gLe, gGt, gGe, gMod, gFdiv, gPow, gEq, gNe, ev_oki, ev_oks, ev_okl, ev_okt, gIs, gIsNot, gIsB, gIsNotB, Pd.isNon, dCall, dSeq, dSet, dSetO, dMul, setL, bCons, bOwn, bNil, dIf, dIte, dTB, dAnd, dOr, dNot, dBV, dAndV, dOrV, dChain, dTmp, dTmpT, frzE, dFrz, OD.d, dIxO, dApp, dSetI, dNeg, dLst, dLstO, dTup, dO, dDrop, ev_abs, ev_inttoi, ev_inttob, ev_inttos, ev_strtoi, ev_listl, ev_listt, ev_lists, ev_tupl, ev_tupt, ev_addi, ev_adds, ev_addl, ev_addt, ev_muli, ev_muls, ev_mull, ev_max, ev_min, ev_all, ev_any, gRepr, dLRg, Pd.r1, Pd.r2, eqD_str, eqD_int, eqD_bl, dFld, dProp, dMeth, dAugI, dRev, dMake, dIsi, isT, isC, dNx, dBrk, dNev, dFst, putFD, gNm, gTp, gsCons, gsNil, dAsg, dStar, dYes, iniEnd, flatD, wipeE, ev_ixl, ev_ixt, ev_ixs, ev_ixr, ev_srcl, ev_srct, ev_srcs, ev_at0, ev_at1, ev_atl, ev_atn, ev_ixn, Option.some.injEq, exists_eq_left', exists_eq_left, List.foldl_cons, List.foldl_nil, List.map_cons, List.map_nil, List.replicate, List.length_append, List.length_map, List.length_cons, List.length_nil, List.cons_append, List.nil_append, List.append_nil, List.getElem?_cons_zero, List.getElem?_cons_succ, List.set_cons_zero, List.set_cons_succ, Nat.zero_add, Nat.reduceAdd, Nat.reduceSub, Nat.reduceLeDiff, true_and, and_true, decide_eq_true_eq, decide_eq_false_iff_not, ne_eq, reduceCtorEq, false_implies, true_implies, forall_const, Bool.and_self, Bool.and_true, Bool.true_and, takeF, dFor, iRg1]
  refine ⟨_, rfl, by omega, by omega, n - 1, by omega, fun r r0 r1 => ⟨_, rfl, by decide, by decide, n - 2, by omega, fun w w0 w1 => ?_⟩⟩
  obtain ⟨d, rfl⟩ : ∃ d : Nat, r = d := ⟨r.toNat, by omega⟩
  refine ⟨_, _, n - 3, rfl, rfl, fun l e => (by cases e), by decide, by decide, by omega, fun x hx => ?_⟩
  obtain ⟨p, rfl, p0, p1, p2⟩ : ∃ p, x = .str p ∧ 0 < p.length ∧ p.length ≤ 10 ∧ AL p := by
    simp only [List.mem_cons, List.not_mem_nil, or_false] at hx
    unfold AL
    rcases hx with rfl | rfl | rfl | rfl | rfl | rfl | rfl | rfl <;> exact ⟨_, rfl, by decide, by decide, by decide⟩
  clear hx
  have pne : p ≠ [] := fun e => by rw [e] at p0; exact absurd p0 (by decide)
  have hz : ((few : Int) + (d : Int)) = ((few + d : Nat) : Int) := rfl
  have hs : few + d ≤ most := by omega
  rw [hz]
  generalize hk : few + d = k at *
  have q' : ∀ (n' : Nat) (l : List Nat), n' ≤ n → n ≤ n' + 500 → AL l → l.length = k → Q n' (.str l) := fun n' l a b g e => q n' l a b g (by omega) (by omega)
  clear q hz
  refine ⟨fun hw => ⟨p, k, n - 3 - k, rfl, pne, by omega, by omega, by omega, fun r hr hm => ?_⟩, fun hw => ?_⟩
  · exact q' _ _ (by omega) (by omega) (p2.sub hm) hr
  have hu : (if (k : Int) - 1 > 1 then (k : Int) - 1 else 1) ≤ 300 ∧ 0 < (if (k : Int) - 1 > 1 then (k : Int) - 1 else 1) := by
    split <;> omega
  refine ⟨_, rfl, hu.2, Nat.lt_of_le_of_lt (m := 300) (by omega) (by decide), n - 4, by omega, fun v v0 v1 => ?_⟩
  obtain ⟨z, rfl⟩ : ∃ z : Nat, v = z := ⟨v.toNat, by omega⟩
  refine ⟨p, 1 + z, n - 4 - (1 + z), rfl, pne, by omega, by omega, by omega, fun r hr hm => ?_⟩
  have hr1 : 1 ≤ r.length := by omega
  have hr2 : r.length ≤ 301 := by omega
  have hrA := p2.sub hm
  generalize hn5 : n - 4 - (1 + z) = n5
  have hn5a : n ≤ n5 + 305 := by omega
  have hn5b : n5 ≤ n := by omega
  clear hn5 hr v0 v1 hu
  have kn : (k : Int).toNat = k := rfl
  have hkr : k ≤ k * r.length := Nat.le_mul_of_pos_right _ hr1
  have hkr2 : k * r.length ≤ 300 * 301 := Nat.mul_le_mul (by omega) hr2
  refine ⟨fun hw => ⟨_, rfl, by decide, by decide, n5 - 1, by omega, fun v v0 v1 => ?_⟩, fun hw => ⟨fun hw => ?_, fun hw => ?_⟩⟩
  · obtain ⟨y, rfl⟩ : ∃ y : Nat, v = y := ⟨v.toNat, by omega⟩
    refine ⟨p, y, n5 - 1 - y, rfl, pne, by omega, by omega, by omega, fun r2 hr2 hm2 => ?_⟩
    simp only [envOf, dRet, dRetN, dOp, dSl, dSlO, dVar, dC, pSome, pNo, ev_sll, ev_slt, ev_sls, dBi, dCons, dNil, ev_lenl, ev_lent, ev_lens, ev_lenr, ev_gI, TC, Pd.gSub, gLt, gLe, gGt, gGe, gMod, gFdiv, gPow, gEq, gNe, ev_oki, ev_oks, ev_okl, ev_okt, gIs, gIsNot, gIsB, gIsNotB, Pd.isNon, dCall, dSeq, dSet, dSetO, dMul, setL, bCons, bOwn, bNil, dIf, dIte, dTB, dAnd, dOr, dNot, dBV, dAndV, dOrV, dChain, dTmp, dTmpT, frzE, dFrz, OD.d, dIxO, dApp, dSetI, dNeg, dLst, dLstO, dTup, dO, dDrop, ev_abs, ev_inttoi, ev_inttob, ev_inttos, ev_strtoi, ev_listl, ev_listt, ev_lists, ev_tupl, ev_tupt, ev_addi, ev_adds, ev_addl, ev_addt, ev_muli, ev_muls, ev_mull, ev_max, ev_min, ev_all, ev_any, gRepr, dLRg, Pd.r1, Pd.r2, eqD_str, eqD_int, eqD_bl, dFld, dProp, dMeth, dAugI, dRev, dMake, dIsi, isT, isC, dNx, dBrk, dNev, dFst, putFD, gNm, gTp, gsCons, gsNil, dAsg, dStar, dYes, iniEnd, flatD, wipeE, ev_ixl, ev_ixt, ev_ixs, ev_ixr, ev_srcl, ev_srct, ev_srcs, ev_at0, ev_at1, ev_atl, ev_atn, ev_ixn, Option.some.injEq, exists_eq_left', exists_eq_left, List.foldl_cons, List.foldl_nil, List.map_cons, List.map_nil, List.replicate, List.length_append, List.length_map, List.length_cons, List.length_nil, List.cons_append, List.nil_append, List.append_nil, List.getElem?_cons_zero, List.getElem?_cons_succ, List.set_cons_zero, List.set_cons_succ, Nat.zero_add, Nat.reduceAdd, Nat.reduceSub, Nat.reduceLeDiff, true_and, and_true, decide_eq_true_eq, decide_eq_false_iff_not, ne_eq, reduceCtorEq, false_implies, true_implies, forall_const, Bool.and_self, Bool.and_true, Bool.true_and, kn, rep_len]
    refine ⟨by omega, by omega, by rw [Nat.mul_comm]; omega, by omega, by omega, ?_⟩
    rw [cut_to]
    refine q' _ _ (by omega) (by omega) (((p2.sub hm2).app (hrA.rep k)).take k) ?_
    rw [List.length_take, List.length_append, rep_len]
    omega
  · simp only [dRev, envOf, dRet, dRetN, dOp, dSl, dSlO, dVar, dC, pSome, pNo, ev_sll, ev_slt, ev_sls, dBi, dCons, dNil, ev_lenl, ev_lent, ev_lens, ev_lenr, ev_gI, TC, Pd.gSub, gLt, gLe, gGt, gGe, gMod, gFdiv, gPow, gEq, gNe, ev_oki, ev_oks, ev_okl, ev_okt, gIs, gIsNot, gIsB, gIsNotB, Pd.isNon, dCall, dSeq, dSet, dSetO, dMul, setL, bCons, bOwn, bNil, dIf, dIte, dTB, dAnd, dOr, dNot, dBV, dAndV, dOrV, dChain, dTmp, dTmpT, frzE, dFrz, OD.d, dIxO, dApp, dSetI, dNeg, dLst, dLstO, dTup, dO, dDrop, ev_abs, ev_inttoi, ev_inttob, ev_inttos, ev_strtoi, ev_listl, ev_listt, ev_lists, ev_tupl, ev_tupt, ev_addi, ev_adds, ev_addl, ev_addt, ev_muli, ev_muls, ev_mull, ev_max, ev_min, ev_all, ev_any, gRepr, dLRg, Pd.r1, Pd.r2, eqD_str, eqD_int, eqD_bl, dFld, dProp, dMeth, dAugI, dRev, dMake, dIsi, isT, isC, dNx, dBrk, dNev, dFst, putFD, gNm, gTp, gsCons, gsNil, dAsg, dStar, dYes, iniEnd, flatD, wipeE, ev_ixl, ev_ixt, ev_ixs, ev_ixr, ev_srcl, ev_srct, ev_srcs, ev_at0, ev_at1, ev_atl, ev_atn, ev_ixn, Option.some.injEq, exists_eq_left', exists_eq_left, List.foldl_cons, List.foldl_nil, List.map_cons, List.map_nil, List.replicate, List.length_append, List.length_map, List.length_cons, List.length_nil, List.cons_append, List.nil_append, List.append_nil, List.getElem?_cons_zero, List.getElem?_cons_succ, List.set_cons_zero, List.set_cons_succ, Nat.zero_add, Nat.reduceAdd, Nat.reduceSub, Nat.reduceLeDiff, true_and, and_true, decide_eq_true_eq, decide_eq_false_iff_not, ne_eq, reduceCtorEq, false_implies, true_implies, forall_const, Bool.and_self, Bool.and_true, Bool.true_and, kn, rep_len, List.length_reverse]
    refine ⟨by omega, by omega, by omega, by rw [Nat.mul_comm]; omega, by omega, by omega, ?_⟩
    rw [cut_to]
    refine q' _ _ (by omega) (by omega) ((hrA.app ((AL.sub hrA fun c hc => List.mem_reverse.mp hc).rep k)).take k) ?_
    rw [List.length_take, List.length_append, rep_len, List.length_reverse]
    omega
  · obtain ⟨p00, pr, pe⟩ : ∃ a b, p = a :: b := by
      cases p with
      | nil => exact absurd rfl pne
      | cons a b => exact ⟨a, b, rfl⟩
    simp only [envOf, dRet, dRetN, dOp, dSl, dSlO, dVar, dC, pSome, pNo, ev_sll, ev_slt, ev_sls, dBi, dCons, dNil, ev_lenl, ev_lent, ev_lens, ev_lenr, ev_gI, TC, Pd.gSub, gLt, gLe, gGt, gGe, gMod, gFdiv, gPow, gEq, gNe, ev_oki, ev_oks, ev_okl, ev_okt, gIs, gIsNot, gIsB, gIsNotB, Pd.isNon, dCall, dSeq, dSet, dSetO, dMul, setL, bCons, bOwn, bNil, dIf, dIte, dTB, dAnd, dOr, dNot, dBV, dAndV, dOrV, dChain, dTmp, dTmpT, frzE, dFrz, OD.d, dIxO, dApp, dSetI, dNeg, dLst, dLstO, dTup, dO, dDrop, ev_abs, ev_inttoi, ev_inttob, ev_inttos, ev_strtoi, ev_listl, ev_listt, ev_lists, ev_tupl, ev_tupt, ev_addi, ev_adds, ev_addl, ev_addt, ev_muli, ev_muls, ev_mull, ev_max, ev_min, ev_all, ev_any, gRepr, dLRg, Pd.r1, Pd.r2, eqD_str, eqD_int, eqD_bl, dFld, dProp, dMeth, dAugI, dRev, dMake, dIsi, isT, isC, dNx, dBrk, dNev, dFst, putFD, gNm, gTp, gsCons, gsNil, dAsg, dStar, dYes, iniEnd, flatD, wipeE, ev_ixl, ev_ixt, ev_ixs, ev_ixr, ev_srcl, ev_srct, ev_srcs, ev_at0, ev_at1, ev_atl, ev_atn, ev_ixn, Option.some.injEq, exists_eq_left', exists_eq_left, List.foldl_cons, List.foldl_nil, List.map_cons, List.map_nil, List.replicate, List.length_append, List.length_map, List.length_cons, List.length_nil, List.cons_append, List.nil_append, List.append_nil, List.getElem?_cons_zero, List.getElem?_cons_succ, List.set_cons_zero, List.set_cons_succ, Nat.zero_add, Nat.reduceAdd, Nat.reduceSub, Nat.reduceLeDiff, true_and, and_true, decide_eq_true_eq, decide_eq_false_iff_not, ne_eq, reduceCtorEq, false_implies, true_implies, forall_const, Bool.and_self, Bool.and_true, Bool.true_and]
    refine ⟨by omega, p00, by rw [pe, ev_at0], by omega, by omega, by omega, ?_⟩
    rw [show (2 : Int) = ((2 : Nat) : Int) from rfl, cut_to]
    have fin : ∀ a b : List Nat, 1 ≤ b.length → a.length ≤ 2000 → b.length ≤ 1000 → AL a → AL b → -1000000 ≤ (k : Int) ∧ (k : Int) ≤ 1000000 ∧ b.length * (k : Int).toNat ≤ 16777216 ∧ a.length + (List.replicate (k : Int).toNat b).flatten.length ≤ 16777216 ∧ a.length + (List.replicate (k : Int).toNat b).flatten.length ≤ 16777216 ∧ Q n5 (.str (cut (a ++ (List.replicate (k : Int).toNat b).flatten) none (some (k : Int)))) := fun a b b1 a2 b2 aA bA => by
      have m1 : k * b.length ≤ 300 * 1000 := Nat.mul_le_mul (by omega) b2
      have m2 : k ≤ k * b.length := Nat.le_mul_of_pos_right _ b1
      rw [kn, rep_len, cut_to, Nat.mul_comm b.length k]
      refine ⟨by omega, by omega, by omega, by omega, by omega, ?_⟩
      refine q' _ _ (by omega) (by omega) ((aA.app (bA.rep k)).take k) ?_
      rw [List.length_take, List.length_append, rep_len]
      omega
    refine forW_ind (Inv := fun ys n' ε => ∃ (fs sc : List Nat) (s10 : Sl), n' = n5 ∧ ε = [.val .pot, .val (.int few), .val (.int most), .val (.int k), .val (.int w), .val (.str p), .val (.str r), .no, .val (.str fs), .val (.str sc), s10] ∧ 1 ≤ fs.length ∧ 1 ≤ sc.length ∧ fs.length ≤ 1000 ∧ sc.length ≤ 600 ∧ AL fs ∧ AL sc) ?_ ?_ _ _ _ ⟨[p00], p.take 2, .no, rfl, rfl, by simp, by rw [List.length_take]; omega, by simp, by rw [List.length_take]; omega, p2.sub fun c hc => by rw [pe]; simp at hc ⊢; exact Or.inl hc, p2.take 2⟩
    · rintro n' ε ⟨fs, sc, s10, rfl, rfl, g1, g2, g3, g4, g5, g6⟩
      simp only [envOf, dRet, dRetN, dOp, dSl, dSlO, dVar, dC, pSome, pNo, ev_sll, ev_slt, ev_sls, dBi, dCons, dNil, ev_lenl, ev_lent, ev_lens, ev_lenr, ev_gI, TC, Pd.gSub, gLt, gLe, gGt, gGe, gMod, gFdiv, gPow, gEq, gNe, ev_oki, ev_oks, ev_okl, ev_okt, gIs, gIsNot, gIsB, gIsNotB, Pd.isNon, dCall, dSeq, dSet, dSetO, dMul, setL, bCons, bOwn, bNil, dIf, dIte, dTB, dAnd, dOr, dNot, dBV, dAndV, dOrV, dChain, dTmp, dTmpT, frzE, dFrz, OD.d, dIxO, dApp, dSetI, dNeg, dLst, dLstO, dTup, dO, dDrop, ev_abs, ev_inttoi, ev_inttob, ev_inttos, ev_strtoi, ev_listl, ev_listt, ev_lists, ev_tupl, ev_tupt, ev_addi, ev_adds, ev_addl, ev_addt, ev_muli, ev_muls, ev_mull, ev_max, ev_min, ev_all, ev_any, gRepr, dLRg, Pd.r1, Pd.r2, eqD_str, eqD_int, eqD_bl, dFld, dProp, dMeth, dAugI, dRev, dMake, dIsi, isT, isC, dNx, dBrk, dNev, dFst, putFD, gNm, gTp, gsCons, gsNil, dAsg, dStar, dYes, iniEnd, flatD, wipeE, ev_ixl, ev_ixt, ev_ixs, ev_ixr, ev_srcl, ev_srct, ev_srcs, ev_at0, ev_at1, ev_atl, ev_atn, ev_ixn, Option.some.injEq, exists_eq_left', exists_eq_left, List.foldl_cons, List.foldl_nil, List.map_cons, List.map_nil, List.replicate, List.length_append, List.length_map, List.length_cons, List.length_nil, List.cons_append, List.nil_append, List.append_nil, List.getElem?_cons_zero, List.getElem?_cons_succ, List.set_cons_zero, List.set_cons_succ, Nat.zero_add, Nat.reduceAdd, Nat.reduceSub, Nat.reduceLeDiff, true_and, and_true, decide_eq_true_eq, decide_eq_false_iff_not, ne_eq, reduceCtorEq, false_implies, true_implies, forall_const, Bool.and_self, Bool.and_true, Bool.true_and]
      exact fin sc fs g1 (by omega) g3 g6 g5
    · rintro y ys n' ε ih ⟨fs, sc, s10, rfl, rfl, g1, g2, g3, g4, g5, g6⟩
      simp only [envOf, dRet, dRetN, dOp, dSl, dSlO, dVar, dC, pSome, pNo, ev_sll, ev_slt, ev_sls, dBi, dCons, dNil, ev_lenl, ev_lent, ev_lens, ev_lenr, ev_gI, TC, Pd.gSub, gLt, gLe, gGt, gGe, gMod, gFdiv, gPow, gEq, gNe, ev_oki, ev_oks, ev_okl, ev_okt, gIs, gIsNot, gIsB, gIsNotB, Pd.isNon, dCall, dSeq, dSet, dSetO, dMul, setL, bCons, bOwn, bNil, dIf, dIte, dTB, dAnd, dOr, dNot, dBV, dAndV, dOrV, dChain, dTmp, dTmpT, frzE, dFrz, OD.d, dIxO, dApp, dSetI, dNeg, dLst, dLstO, dTup, dO, dDrop, ev_abs, ev_inttoi, ev_inttob, ev_inttos, ev_strtoi, ev_listl, ev_listt, ev_lists, ev_tupl, ev_tupt, ev_addi, ev_adds, ev_addl, ev_addt, ev_muli, ev_muls, ev_mull, ev_max, ev_min, ev_all, ev_any, gRepr, dLRg, Pd.r1, Pd.r2, eqD_str, eqD_int, eqD_bl, dFld, dProp, dMeth, dAugI, dRev, dMake, dIsi, isT, isC, dNx, dBrk, dNev, dFst, putFD, gNm, gTp, gsCons, gsNil, dAsg, dStar, dYes, iniEnd, flatD, wipeE, ev_ixl, ev_ixt, ev_ixs, ev_ixr, ev_srcl, ev_srct, ev_srcs, ev_at0, ev_at1, ev_atl, ev_atn, ev_ixn, Option.some.injEq, exists_eq_left', exists_eq_left, List.foldl_cons, List.foldl_nil, List.map_cons, List.map_nil, List.replicate, List.length_append, List.length_map, List.length_cons, List.length_nil, List.cons_append, List.nil_append, List.append_nil, List.getElem?_cons_zero, List.getElem?_cons_succ, List.set_cons_zero, List.set_cons_succ, Nat.zero_add, Nat.reduceAdd, Nat.reduceSub, Nat.reduceLeDiff, true_and, and_true, decide_eq_true_eq, decide_eq_false_iff_not, ne_eq, reduceCtorEq, false_implies, true_implies, forall_const, Bool.and_self, Bool.and_true, Bool.true_and]
      refine ⟨by omega, by omega, fun hlt => ?_, fun hlt => ih n' _ ⟨sc, sc ++ fs, .val y, rfl, rfl, g2, by rw [List.length_append]; omega, by omega, by rw [List.length_append]; omega, g6, g6.app g5⟩⟩
      have := fin (sc ++ fs) sc g2 (by rw [List.length_append]; omega) (by omega) (g6.app g5) g6
      rw [List.length_append] at this
      exact this
end LW
namespace LW
open PySem L2 Pd
theorem AL.lt {l : List Nat} (h : AL l) : ∀ c ∈ l, c < 1114112 := fun c hc => letters_lt (h c hc)
theorem flat_one (k a : Nat) : (List.replicate k [a]).flatten = List.replicate k a := by
  induction k with
  | zero => rfl
  | succ k ih => rw [List.replicate_succ, List.flatten_cons, ih, List.replicate_succ]; rfl
theorem expand_flat : ∀ bs : List Bl, (bs.map fun b => List.replicate b.2 b.1).flatten = expand bs
  | [] => rfl
  | b :: r => by rw [List.map_cons, List.flatten_cons, expand_flat r]; rfl
def s_letters : FD := fun ds n P => ∃ few most : Nat, ds = [.pot, .int few, .int most] ∧ 1 ≤ few ∧ few ≤ most ∧ most ≤ 300 ∧ 500 ≤ n ∧ ∀ (n' : Nat) (bs : List Bl), n' ≤ n → n ≤ n' + 500 → Good bs → AL (expand bs) → bs.length ≤ 40 → (few ≤ size bs ∨ 40 ≤ size bs) → size bs ≤ most → P n' (.str (expand bs))
theorem mem_le_expand : ∀ {bs : List Bl} {b : Bl}, b ∈ bs → b.2 ≤ (expand bs).length
  | a :: r, b, h => by
    rw [expand, List.length_append, List.length_replicate]
    rcases List.mem_cons.mp h with e | e
    · rw [e]; omega
    · have := mem_le_expand e
      omega
theorem good_take : ∀ {bs : List Bl} (k : Nat), Good bs → Good (bs.take k)
  | bs, 0, _ => ⟨trivial, fun b hb => by simp at hb⟩
  | [], k + 1, g => g
  | [a], k + 1, g => by simpa using g
  | a :: b :: r, 1, g => ⟨trivial, fun x hx => by
    have : x = a := by simpa using hx
    rw [this]
    exact g.pos a (by simp)⟩
  | a :: b :: r, k + 2, g => by
    have h := good_take (bs := b :: r) (k + 1) g.tl
    rw [List.take_succ_cons] at h ⊢
    rw [List.take_succ_cons]
    exact ⟨⟨g.adj.1, h.adj⟩, fun x hx => by
      rcases List.mem_cons.mp hx with e | e
      · rw [e]; exact g.pos a (by simp)
      · exact h.pos x e⟩
theorem size_ge : ∀ {bs : List Bl}, (∀ b ∈ bs, 1 ≤ b.2) → bs.length ≤ size bs
  | [], _ => Nat.zero_le _
  | a :: r, h => by
    have ih := size_ge (bs := r) fun x hx => h x (List.mem_cons_of_mem _ hx)
    have := h a (by simp)
    unfold size at *
    rw [expand, List.length_append, List.length_replicate, List.length_cons]
    omega
theorem expand_take (bs : List Bl) (k : Nat) : expand (bs.take k) <+: expand bs := by
  have := expand_append (bs.take k) (bs.drop k)
  rw [List.take_append_drop] at this
  exact ⟨_, this.symm⟩
theorem l_letters (c : Str → Addr) : ∀ ds n Q, s_letters ds n Q → dFn 6 3 (b__law_letters c s_any s_blocks) ds n Q := by
  rintro ds n Q ⟨few, most, rfl, h0, h1, h2, h3, q⟩
  refine ⟨rfl, ?_⟩
  simp only [b__law_letters, envOf, dRet, dRetN, dOp, dSl, dSlO, dVar, dC, pSome, pNo, ev_sll, ev_slt, ev_sls, dBi, dCons, dNil, ev_lenl, ev_lent, ev_lens, ev_lenr, ev_gI, TC, Pd.gSub, gLt, gLe, gGt, gGe, gMod, gFdiv, gPow, gEq, gNe, ev_oki, ev_oks, ev_okl, ev_okt, gIs, gIsNot, gIsB, gIsNotB, Pd.isNon, dCall, dSeq, dSet, dSetO, dMul, setL, bCons, bOwn, bNil, dIf, dIte, dTB, dAnd, dOr, dNot, dBV, dAndV, dOrV, dChain, dTmp, dTmpT, frzE, dFrz, OD.d, dIxO, dApp, dSetI, dNeg, dLst, dLstO, dTup, dO, dDrop, ev_abs, ev_inttoi, ev_inttob, ev_inttos, ev_strtoi, ev_listl, ev_listt, ev_lists, ev_tupl, ev_tupt, ev_addi, ev_adds, ev_addl, ev_addt, ev_muli, ev_muls, ev_mull, ev_max, ev_min, ev_all, ev_any, gRepr, dLRg, Pd.r1, Pd.r2, eqD_str, eqD_int, eqD_bl, dFld, dProp, dMeth, dAugI, dRev, dMake, dIsi, isT, isC, dNx, dBrk, dNev, dFst, putFD, gNm, gTp, gsCons, gsNil, dAsg, dStar, dYes, iniEnd, flatD, wipeE, ev_ixl, ev_ixt, ev_ixs, ev_ixr, ev_srcl, ev_srct, ev_srcs, ev_at0, ev_at1, ev_atl, ev_atn, ev_ixn, Option.some.injEq, exists_eq_left', exists_eq_left, List.foldl_cons, List.foldl_nil, List.map_cons, List.map_nil, List.replicate, List.length_append, List.length_map, List.length_cons, List.length_nil, List.cons_append, List.nil_append, List.append_nil, List.getElem?_cons_zero, List.getElem?_cons_succ, List.set_cons_zero, List.set_cons_succ, Nat.zero_add, Nat.reduceAdd, Nat.reduceSub, Nat.reduceLeDiff, true_and, and_true, decide_eq_true_eq, decide_eq_false_iff_not, ne_eq, reduceCtorEq, false_implies, true_implies, forall_const, Bool.and_self, Bool.and_true, Bool.true_and, dJoin, dComp, iVal]
  refine ⟨few, most, rfl, h0, h1, by omega, h3, fun n' l a1 a2 a3 a4 a5 => ⟨l, rfl, by omega, a3.lt, fun bs eb g => ?_⟩⟩
  simp only [envOf, dRet, dRetN, dOp, dSl, dSlO, dVar, dC, pSome, pNo, ev_sll, ev_slt, ev_sls, dBi, dCons, dNil, ev_lenl, ev_lent, ev_lens, ev_lenr, ev_gI, TC, Pd.gSub, gLt, gLe, gGt, gGe, gMod, gFdiv, gPow, gEq, gNe, ev_oki, ev_oks, ev_okl, ev_okt, gIs, gIsNot, gIsB, gIsNotB, Pd.isNon, dCall, dSeq, dSet, dSetO, dMul, setL, bCons, bOwn, bNil, dIf, dIte, dTB, dAnd, dOr, dNot, dBV, dAndV, dOrV, dChain, dTmp, dTmpT, frzE, dFrz, OD.d, dIxO, dApp, dSetI, dNeg, dLst, dLstO, dTup, dO, dDrop, ev_abs, ev_inttoi, ev_inttob, ev_inttos, ev_strtoi, ev_listl, ev_listt, ev_lists, ev_tupl, ev_tupt, ev_addi, ev_adds, ev_addl, ev_addt, ev_muli, ev_muls, ev_mull, ev_max, ev_min, ev_all, ev_any, gRepr, dLRg, Pd.r1, Pd.r2, eqD_str, eqD_int, eqD_bl, dFld, dProp, dMeth, dAugI, dRev, dMake, dIsi, isT, isC, dNx, dBrk, dNev, dFst, putFD, gNm, gTp, gsCons, gsNil, dAsg, dStar, dYes, iniEnd, flatD, wipeE, ev_ixl, ev_ixt, ev_ixs, ev_ixr, ev_srcl, ev_srct, ev_srcs, ev_at0, ev_at1, ev_atl, ev_atn, ev_ixn, Option.some.injEq, exists_eq_left', exists_eq_left, List.foldl_cons, List.foldl_nil, List.map_cons, List.map_nil, List.replicate, List.length_append, List.length_map, List.length_cons, List.length_nil, List.cons_append, List.nil_append, List.append_nil, List.getElem?_cons_zero, List.getElem?_cons_succ, List.set_cons_zero, List.set_cons_succ, Nat.zero_add, Nat.reduceAdd, Nat.reduceSub, Nat.reduceLeDiff, true_and, and_true, decide_eq_true_eq, decide_eq_false_iff_not, ne_eq, reduceCtorEq, false_implies, true_implies, forall_const, Bool.and_self, Bool.and_true, Bool.true_and]
  rw [show (40 : Int) = ((40 : Nat) : Int) from rfl, cut_to, ← List.map_take]
  have gt := good_take 40 g
  have hp := expand_take bs 40
  have hsz : size bs = l.length := by rw [← eb]; rfl
  have hle : size (bs.take 40) ≤ size bs := hp.length_le
  refine ⟨by rw [List.length_map, List.length_take]; omega, compW_map blkD (fun b => .str (List.replicate b.2 b.1)) (bs.take 40) _ _ (fun b hbm n K K' q1 => ?_) ?_⟩
  · have := mem_le_expand hbm
    have h9 : (expand (bs.take 40)).length ≤ l.length := by rw [← hsz]; exact hle
    simp only [blkD, envOf, dRet, dRetN, dOp, dSl, dSlO, dVar, dC, pSome, pNo, ev_sll, ev_slt, ev_sls, dBi, dCons, dNil, ev_lenl, ev_lent, ev_lens, ev_lenr, ev_gI, TC, Pd.gSub, gLt, gLe, gGt, gGe, gMod, gFdiv, gPow, gEq, gNe, ev_oki, ev_oks, ev_okl, ev_okt, gIs, gIsNot, gIsB, gIsNotB, Pd.isNon, dCall, dSeq, dSet, dSetO, dMul, setL, bCons, bOwn, bNil, dIf, dIte, dTB, dAnd, dOr, dNot, dBV, dAndV, dOrV, dChain, dTmp, dTmpT, frzE, dFrz, OD.d, dIxO, dApp, dSetI, dNeg, dLst, dLstO, dTup, dO, dDrop, ev_abs, ev_inttoi, ev_inttob, ev_inttos, ev_strtoi, ev_listl, ev_listt, ev_lists, ev_tupl, ev_tupt, ev_addi, ev_adds, ev_addl, ev_addt, ev_muli, ev_muls, ev_mull, ev_max, ev_min, ev_all, ev_any, gRepr, dLRg, Pd.r1, Pd.r2, eqD_str, eqD_int, eqD_bl, dFld, dProp, dMeth, dAugI, dRev, dMake, dIsi, isT, isC, dNx, dBrk, dNev, dFst, putFD, gNm, gTp, gsCons, gsNil, dAsg, dStar, dYes, iniEnd, flatD, wipeE, ev_ixl, ev_ixt, ev_ixs, ev_ixr, ev_srcl, ev_srct, ev_srcs, ev_at0, ev_at1, ev_atl, ev_atn, ev_ixn, Option.some.injEq, exists_eq_left', exists_eq_left, List.foldl_cons, List.foldl_nil, List.map_cons, List.map_nil, List.replicate, List.length_append, List.length_map, List.length_cons, List.length_nil, List.cons_append, List.nil_append, List.append_nil, List.getElem?_cons_zero, List.getElem?_cons_succ, List.set_cons_zero, List.set_cons_succ, Nat.zero_add, Nat.reduceAdd, Nat.reduceSub, Nat.reduceLeDiff, true_and, and_true, decide_eq_true_eq, decide_eq_false_iff_not, ne_eq, reduceCtorEq, false_implies, true_implies, forall_const, Bool.and_self, Bool.and_true, Bool.true_and, flat_one, Int.toNat_natCast]
    exact ⟨by omega, by omega, by omega, q1⟩
  · have e : ([] : List D) ++ ((bs.take 40).map fun b => D.str (List.replicate b.2 b.1)) = ((bs.take 40).map fun b => List.replicate b.2 b.1).map D.str := by
      rw [List.nil_append, List.map_map]
      rfl
    rw [e, map_isStrs]
    refine ⟨_, rfl, ?_, ?_⟩
    · have e2 : (((bs.take 40).map fun b => List.replicate b.2 b.1).map (·.length)).sum = (expand (bs.take 40)).length := by
        rw [← expand_flat, List.length_flatten]
      rw [e2]
      have h9 : (expand (bs.take 40)).length ≤ l.length := by rw [← hsz]; exact hle
      omega
    · rw [joinL_nil, expand_flat]
      refine q n' _ a1 a2 gt (fun c hc => a3 c (by rw [← eb]; exact hp.subset hc)) (by rw [List.length_take]; omega) ?_ (by omega)
      rcases Nat.lt_or_ge 40 bs.length with h | h
      · have := size_ge gt.pos
        rw [List.length_take] at this
        omega
      · rw [List.take_of_length_le h]
        omega
def tI (f : Nat → Bool) : D → Bool
  | .int i => f i.toNat
  | _ => false
theorem tI_int (f : Nat → Bool) (k : Nat) : tI f (.int (k : Nat)) = f k := rfl
theorem filter_intD (f : Nat → Bool) (l : List Nat) : (l.map intD).filter (tI f) = (l.filter f).map intD := by
  rw [List.filter_map]
  rfl
theorem rngD_eq (n lo : Nat) : rngD (lo : Int) n = (List.range' lo n).map intD := by
  unfold rngD
  have e : List.range' lo n = (List.range n).map fun i => lo + i := by
    rw [List.range_eq_range', List.map_add_range']
    simp
  rw [e, List.map_map]
  refine List.map_congr_left fun i _ => ?_
  show D.int ((lo : Int) + (i : Nat)) = D.int ((lo + i : Nat) : Int)
  congr 1
def s_cells : FD := fun ds n P => ∃ (ns : List Int) (lim : Nat), ds = [.scr ns, .int lim] ∧ 1 ≤ lim ∧ lim ≤ 8 ∧ ∀ xs : List D, xs.length ≤ lim → (∀ x ∈ xs, ∃ k : Nat, x = .int k ∧ k < lim) → P n (.lst xs)
theorem l_cells (c : Str → Addr) : ∀ ds n Q, s_cells ds n Q → dFn 2 2 (b__law_cells c) ds n Q := by
  rintro ds n Q ⟨ns, lim, rfl, hl1, hl8, q⟩
  refine ⟨rfl, ?_⟩
  simp only [b__law_cells, envOf, dRet, dRetN, dOp, dSl, dSlO, dVar, dC, pSome, pNo, ev_sll, ev_slt, ev_sls, dBi, dCons, dNil, ev_lenl, ev_lent, ev_lens, ev_lenr, ev_gI, TC, Pd.gSub, gLt, gLe, gGt, gGe, gMod, gFdiv, gPow, gEq, gNe, ev_oki, ev_oks, ev_okl, ev_okt, gIs, gIsNot, gIsB, gIsNotB, Pd.isNon, dCall, dSeq, dSet, dSetO, dMul, setL, bCons, bOwn, bNil, dIf, dIte, dTB, dAnd, dOr, dNot, dBV, dAndV, dOrV, dChain, dTmp, dTmpT, frzE, dFrz, OD.d, dIxO, dApp, dSetI, dNeg, dLst, dLstO, dTup, dO, dDrop, ev_abs, ev_inttoi, ev_inttob, ev_inttos, ev_strtoi, ev_listl, ev_listt, ev_lists, ev_tupl, ev_tupt, ev_addi, ev_adds, ev_addl, ev_addt, ev_muli, ev_muls, ev_mull, ev_max, ev_min, ev_all, ev_any, gRepr, dLRg, Pd.r1, Pd.r2, eqD_str, eqD_int, eqD_bl, dFld, dProp, dMeth, dAugI, dRev, dMake, dIsi, isT, isC, dNx, dBrk, dNev, dFst, putFD, gNm, gTp, gsCons, gsNil, dAsg, dStar, dYes, iniEnd, flatD, wipeE, ev_ixl, ev_ixt, ev_ixs, ev_ixr, ev_srcl, ev_srct, ev_srcs, ev_at0, ev_at1, ev_atl, ev_atn, ev_ixn, Option.some.injEq, exists_eq_left', exists_eq_left, List.foldl_cons, List.foldl_nil, List.map_cons, List.map_nil, List.replicate, List.length_append, List.length_map, List.length_cons, List.length_nil, List.cons_append, List.nil_append, List.append_nil, List.getElem?_cons_zero, List.getElem?_cons_succ, List.set_cons_zero, List.set_cons_succ, Nat.zero_add, Nat.reduceAdd, Nat.reduceSub, Nat.reduceLeDiff, true_and, and_true, decide_eq_true_eq, decide_eq_false_iff_not, ne_eq, reduceCtorEq, false_implies, true_implies, forall_const, Bool.and_self, Bool.and_true, Bool.true_and]
  have hm : ∃ m : Nat, (if (if (ns.length : Int) < lim then (ns.length : Int) else lim) > 1 then (if (ns.length : Int) < lim then (ns.length : Int) else lim) else 1) = m ∧ m ≤ lim := by
    by_cases h : (ns.length : Int) < lim
    · rw [if_pos h]
      by_cases h2 : (ns.length : Int) > 1
      · rw [if_pos h2]
        exact ⟨ns.length, rfl, by omega⟩
      · rw [if_neg h2]
        exact ⟨1, rfl, by omega⟩
    · rw [if_neg h]
      by_cases h2 : (lim : Int) > 1
      · rw [if_pos h2]
        exact ⟨lim, rfl, by omega⟩
      · rw [if_neg h2]
        exact ⟨1, rfl, by omega⟩
  obtain ⟨m, hm, h4⟩ := hm
  rw [hm]
  refine ⟨⟨by omega, by omega, by omega, by omega, by omega⟩, ?_⟩
  have e : (((m : Int) - 0).toNat) = m := by omega
  unfold rgD
  rw [e]
  refine q _ (by rw [List.length_map, List.length_range]; exact h4) fun x hx => ?_
  obtain ⟨i, hi, rfl⟩ := List.mem_map.mp hx
  have hi := List.mem_range.mp hi
  exact ⟨i, by rw [Int.zero_add], by omega⟩
theorem abs_lt_pow {z M : Int} {a : Nat} (h0 : 0 ≤ z) (h1 : z < M) (h2 : M < ((2 ^ a : Nat) : Int)) : z.natAbs < 2 ^ a := by
  omega
def s_pot : FD := fun ds n P => ∃ (ns : List Int) (k : Nat), ds = [.scr ns, .int k] ∧ k < 8 ∧ n ≤ 1000000000 ∧ P n .pot
theorem l_pot (c : Str → Addr) : ∀ ds n Q, s_pot ds n Q → dFn 5 2 (b__law_pot c) ds n Q := by
  rintro ds n Q ⟨ns, k, rfl, hk, h0, q⟩
  refine ⟨rfl, ?_⟩
  simp only [b__law_pot, envOf, dRet, dRetN, dOp, dSl, dSlO, dVar, dC, pSome, pNo, ev_sll, ev_slt, ev_sls, dBi, dCons, dNil, ev_lenl, ev_lent, ev_lens, ev_lenr, ev_gI, TC, Pd.gSub, gLt, gLe, gGt, gGe, gMod, gFdiv, gPow, gEq, gNe, ev_oki, ev_oks, ev_okl, ev_okt, gIs, gIsNot, gIsB, gIsNotB, Pd.isNon, dCall, dSeq, dSet, dSetO, dMul, setL, bCons, bOwn, bNil, dIf, dIte, dTB, dAnd, dOr, dNot, dBV, dAndV, dOrV, dChain, dTmp, dTmpT, frzE, dFrz, OD.d, dIxO, dApp, dSetI, dNeg, dLst, dLstO, dTup, dO, dDrop, ev_abs, ev_inttoi, ev_inttob, ev_inttos, ev_strtoi, ev_listl, ev_listt, ev_lists, ev_tupl, ev_tupt, ev_addi, ev_adds, ev_addl, ev_addt, ev_muli, ev_muls, ev_mull, ev_max, ev_min, ev_all, ev_any, gRepr, dLRg, Pd.r1, Pd.r2, eqD_str, eqD_int, eqD_bl, dFld, dProp, dMeth, dAugI, dRev, dMake, dIsi, isT, isC, dNx, dBrk, dNev, dFst, putFD, gNm, gTp, gsCons, gsNil, dAsg, dStar, dYes, iniEnd, flatD, wipeE, ev_ixl, ev_ixt, ev_ixs, ev_ixr, ev_srcl, ev_srct, ev_srcs, ev_at0, ev_at1, ev_atl, ev_atn, ev_ixn, Option.some.injEq, exists_eq_left', exists_eq_left, List.foldl_cons, List.foldl_nil, List.map_cons, List.map_nil, List.replicate, List.length_append, List.length_map, List.length_cons, List.length_nil, List.cons_append, List.nil_append, List.append_nil, List.getElem?_cons_zero, List.getElem?_cons_succ, List.set_cons_zero, List.set_cons_succ, Nat.zero_add, Nat.reduceAdd, Nat.reduceSub, Nat.reduceLeDiff, true_and, and_true, decide_eq_true_eq, decide_eq_false_iff_not, ne_eq, reduceCtorEq, false_implies, true_implies, forall_const, Bool.and_self, Bool.and_true, Bool.true_and]
  have hk2 : (k : Int).natAbs < 2 ^ 3 := by
    have : (2 : Nat) ^ 3 = 8 := by decide
    omega
  have fin : ∀ (x z : Int), 0 ≤ z → z.natAbs < 2 ^ 1000 → dRetPot
                        (dLstO
                          (dCons (dVar 3)
                            (dCons
                              (dOp gMod
                                (dBi gInt
                                  (dCons
                                    (dOp gAdd
                                      (dOp gAdd (dOp gMul (dVar 4) (dC (D.int 74521)))
                                        (dOp gMul (dOp gMul (dC (D.int 7823)) (dVar 1)) (dVar 1)))
                                      (dC (D.int 199)))
                                    dNil))
                                (dC (D.int 2305843009213693921)))
                              (dCons (dC (D.int 0)) dNil))))
                        { nx := fun n x => Q n D.non, rt := Q } n
                        [Sl.val (D.scr ns), Sl.val (D.int k), Sl.val (D.int x), Sl.val (D.int z), Sl.val (D.int (x % 2305843009213693951))] := by
    intro x z z0 z1
    have y0 := Int.emod_nonneg x (b := 2305843009213693951) (by decide)
    have y1 := Int.emod_lt_of_pos x (b := 2305843009213693951) (by decide)
    have y2 := abs_lt_pow (a := 61) y0 y1 (by decide)
    simp only [dRetPot, envOf, dRet, dRetN, dOp, dSl, dSlO, dVar, dC, pSome, pNo, ev_sll, ev_slt, ev_sls, dBi, dCons, dNil, ev_lenl, ev_lent, ev_lens, ev_lenr, ev_gI, TC, Pd.gSub, gLt, gLe, gGt, gGe, gMod, gFdiv, gPow, gEq, gNe, ev_oki, ev_oks, ev_okl, ev_okt, gIs, gIsNot, gIsB, gIsNotB, Pd.isNon, dCall, dSeq, dSet, dSetO, dMul, setL, bCons, bOwn, bNil, dIf, dIte, dTB, dAnd, dOr, dNot, dBV, dAndV, dOrV, dChain, dTmp, dTmpT, frzE, dFrz, OD.d, dIxO, dApp, dSetI, dNeg, dLst, dLstO, dTup, dO, dDrop, ev_abs, ev_inttoi, ev_inttob, ev_inttos, ev_strtoi, ev_listl, ev_listt, ev_lists, ev_tupl, ev_tupt, ev_addi, ev_adds, ev_addl, ev_addt, ev_muli, ev_muls, ev_mull, ev_max, ev_min, ev_all, ev_any, gRepr, dLRg, Pd.r1, Pd.r2, eqD_str, eqD_int, eqD_bl, dFld, dProp, dMeth, dAugI, dRev, dMake, dIsi, isT, isC, dNx, dBrk, dNev, dFst, putFD, gNm, gTp, gsCons, gsNil, dAsg, dStar, dYes, iniEnd, flatD, wipeE, ev_ixl, ev_ixt, ev_ixs, ev_ixr, ev_srcl, ev_srct, ev_srcs, ev_at0, ev_at1, ev_atl, ev_atn, ev_ixn, Option.some.injEq, exists_eq_left', exists_eq_left, List.foldl_cons, List.foldl_nil, List.map_cons, List.map_nil, List.replicate, List.length_append, List.length_map, List.length_cons, List.length_nil, List.cons_append, List.nil_append, List.append_nil, List.getElem?_cons_zero, List.getElem?_cons_succ, List.set_cons_zero, List.set_cons_succ, Nat.zero_add, Nat.reduceAdd, Nat.reduceSub, Nat.reduceLeDiff, true_and, and_true, decide_eq_true_eq, decide_eq_false_iff_not, ne_eq, reduceCtorEq, false_implies, true_implies, forall_const, Bool.and_self, Bool.and_true, Bool.true_and]
    refine ⟨wide_mul y2 (b := 20) (by decide) (by decide) (by decide) (by decide), wide_mul (a := 20) (by decide) hk2 (by decide) (by decide) (by decide), wide_mul (a := 20) (b := 3) ?_ hk2 (by decide) (by decide) (by decide), by decide, _, _, _, rfl, z0, Nat.lt_trans z1 (by decide +kernel), Int.emod_nonneg _ (by decide), Int.lt_trans (Int.emod_lt_of_pos _ (by decide)) (by decide), by decide, by omega, q⟩
    have : (2 : Nat) ^ 20 = 1048576 := by decide
    omega
  have core : ∀ y : Int, 0 ≤ y % (10 ^ Int.toNat 60) ^ Int.toNat 5 ∧ (y % (10 ^ Int.toNat 60) ^ Int.toNat 5).natAbs < 2 ^ 999 := fun y => by
    have hM : (0 : Int) < (10 ^ Int.toNat 60) ^ Int.toNat 5 := by decide +kernel
    have hM2 : ((10 ^ Int.toNat 60) ^ Int.toNat 5 : Int) < ((2 ^ 999 : Nat) : Int) := by decide +kernel
    have l0 := Int.emod_nonneg y (Int.ne_of_gt hM)
    exact ⟨l0, abs_lt_pow l0 (Int.emod_lt_of_pos y hM) hM2⟩
  have tim : ∀ (z : Int) (p : Prop) [Decidable p], 0 ≤ z → z.natAbs < 2 ^ 999 → CMulW z (if p then 1 else 0) ∧ 0 ≤ z * (if p then 1 else 0) ∧ (z * (if p then 1 else 0)).natAbs < 2 ^ 1000 := fun z p _ z0 z1 => by
    refine ⟨wide_mul z1 (b := 1) (by split <;> decide) (by decide) (by decide) (by decide), ?_, ?_⟩
    · split
      · omega
      · omega
    · split
      · rw [Int.mul_one]
        exact Nat.lt_trans z1 (by decide +kernel)
      · rw [Int.mul_zero]
        decide +kernel
  have p1 : CPowW 10 60 := ⟨by decide, by decide, by decide +kernel⟩
  have p2 : CPowW (10 ^ Int.toNat 60) 5 := ⟨by decide, by decide, by decide +kernel⟩
  have p3 : CPowW 10 18 := ⟨by decide, by decide, by decide +kernel⟩
  refine ⟨fun h => ?_, fun h => ?_⟩
  · have hj : k < ns.length := by omega
    refine ⟨ns[k], atI_nat (List.getElem?_eq_getElem hj), p1, p2, by decide +kernel, p3, ?_, by decide, ?_⟩
    · exact (tim _ _ (core _).1 (core _).2).1
    · exact fin _ _ (tim _ _ (core _).1 (core _).2).2.1 (tim _ _ (core _).1 (core _).2).2.2
  · refine ⟨wide_mul (a := 20) (by decide) hk2 (by decide) (by decide) (by decide), p1, p2, by decide +kernel, p3, ?_, by decide, ?_⟩
    · exact (tim _ _ (core _).1 (core _).2).1
    · exact fin _ _ (tim _ _ (core _).1 (core _).2).2.1 (tim _ _ (core _).1 (core _).2).2.2
end LW
namespace LW
open PySem L2 Pd
def s_text_of : FD := fun ds n P => ∃ (x : D) (bs : List Bl), ds = [x] ∧ srcD x = some (bs.map blkD) ∧ bs.length ≤ 1000 ∧ (∀ b ∈ bs, b.2 < 10 ^ 31) ∧ P n (.str (txt bs))
theorem l_text_of (c : Str → Addr) : ∀ ds n Q, s_text_of ds n Q → dFn 3 1 (b_text_of c) ds n Q := by
  rintro ds n Q ⟨x, bs, rfl, hx, h0, h1, q⟩
  refine ⟨rfl, ?_⟩
  simp only [b_text_of, envOf, dRet, dRetN, dOp, dSl, dSlO, dVar, dC, pSome, pNo, ev_sll, ev_slt, ev_sls, dBi, dCons, dNil, ev_lenl, ev_lent, ev_lens, ev_lenr, ev_gI, TC, Pd.gSub, gLt, gLe, gGt, gGe, gMod, gFdiv, gPow, gEq, gNe, ev_oki, ev_oks, ev_okl, ev_okt, gIs, gIsNot, gIsB, gIsNotB, Pd.isNon, dCall, dSeq, dSet, dSetO, dMul, setL, bCons, bOwn, bNil, dIf, dIte, dTB, dAnd, dOr, dNot, dBV, dAndV, dOrV, dChain, dTmp, dTmpT, frzE, dFrz, OD.d, dIxO, dApp, dSetI, dNeg, dLst, dLstO, dTup, dO, dDrop, ev_abs, ev_inttoi, ev_inttob, ev_inttos, ev_strtoi, ev_listl, ev_listt, ev_lists, ev_tupl, ev_tupt, ev_addi, ev_adds, ev_addl, ev_addt, ev_muli, ev_muls, ev_mull, ev_max, ev_min, ev_all, ev_any, gRepr, dLRg, Pd.r1, Pd.r2, eqD_str, eqD_int, eqD_bl, dFld, dProp, dMeth, dAugI, dRev, dMake, dIsi, isT, isC, dNx, dBrk, dNev, dFst, putFD, gNm, gTp, gsCons, gsNil, dAsg, dStar, dYes, iniEnd, flatD, wipeE, ev_ixl, ev_ixt, ev_ixs, ev_ixr, ev_srcl, ev_srct, ev_srcs, ev_at0, ev_at1, ev_atl, ev_atn, ev_ixn, Option.some.injEq, exists_eq_left', exists_eq_left, List.foldl_cons, List.foldl_nil, List.map_cons, List.map_nil, List.replicate, List.length_append, List.length_map, List.length_cons, List.length_nil, List.cons_append, List.nil_append, List.append_nil, List.getElem?_cons_zero, List.getElem?_cons_succ, List.set_cons_zero, List.set_cons_succ, Nat.zero_add, Nat.reduceAdd, Nat.reduceSub, Nat.reduceLeDiff, true_and, and_true, decide_eq_true_eq, decide_eq_false_iff_not, ne_eq, reduceCtorEq, false_implies, true_implies, forall_const, Bool.and_self, Bool.and_true, Bool.true_and, dJoin, dComp, iVal]
  refine ⟨_, hx, by rw [List.length_map]; omega, compW_map blkD (fun b => .str (b.1 :: tail b.2)) bs _ _ (fun b hb n K K' q1 => ?_) ?_⟩
  · have hl := log_lt (h1 b hb)
    have ht := tail_len (h1 b hb)
    have hn := numD_len (h1 b hb)
    unfold tail at q1
    simp only [blkD, envOf, dRet, dRetN, dOp, dSl, dSlO, dVar, dC, pSome, pNo, ev_sll, ev_slt, ev_sls, dBi, dCons, dNil, ev_lenl, ev_lent, ev_lens, ev_lenr, ev_gI, TC, Pd.gSub, gLt, gLe, gGt, gGe, gMod, gFdiv, gPow, gEq, gNe, ev_oki, ev_oks, ev_okl, ev_okt, gIs, gIsNot, gIsB, gIsNotB, Pd.isNon, dCall, dSeq, dSet, dSetO, dMul, setL, bCons, bOwn, bNil, dIf, dIte, dTB, dAnd, dOr, dNot, dBV, dAndV, dOrV, dChain, dTmp, dTmpT, frzE, dFrz, OD.d, dIxO, dApp, dSetI, dNeg, dLst, dLstO, dTup, dO, dDrop, ev_abs, ev_inttoi, ev_inttob, ev_inttos, ev_strtoi, ev_listl, ev_listt, ev_lists, ev_tupl, ev_tupt, ev_addi, ev_adds, ev_addl, ev_addt, ev_muli, ev_muls, ev_mull, ev_max, ev_min, ev_all, ev_any, gRepr, dLRg, Pd.r1, Pd.r2, eqD_str, eqD_int, eqD_bl, dFld, dProp, dMeth, dAugI, dRev, dMake, dIsi, isT, isC, dNx, dBrk, dNev, dFst, putFD, gNm, gTp, gsCons, gsNil, dAsg, dStar, dYes, iniEnd, flatD, wipeE, ev_ixl, ev_ixt, ev_ixs, ev_ixr, ev_srcl, ev_srct, ev_srcs, ev_at0, ev_at1, ev_atl, ev_atn, ev_ixn, Option.some.injEq, exists_eq_left', exists_eq_left, List.foldl_cons, List.foldl_nil, List.map_cons, List.map_nil, List.replicate, List.length_append, List.length_map, List.length_cons, List.length_nil, List.cons_append, List.nil_append, List.append_nil, List.getElem?_cons_zero, List.getElem?_cons_succ, List.set_cons_zero, List.set_cons_succ, Nat.zero_add, Nat.reduceAdd, Nat.reduceSub, Nat.reduceLeDiff, true_and, and_true, decide_eq_true_eq, decide_eq_false_iff_not, ne_eq, reduceCtorEq, false_implies, true_implies, forall_const, Bool.and_self, Bool.and_true, Bool.true_and]
    refine ⟨fun h => ⟨hl, by omega, ?_⟩, fun h => ?_⟩
    · rw [if_pos (by omega)] at q1
      exact q1
    · rw [if_neg (by omega)] at q1
      exact q1
  · have e : (([] : List D) ++ bs.map fun b => D.str (b.1 :: tail b.2)) = (bs.map fun b => b.1 :: tail b.2).map D.str := by
      rw [List.nil_append, List.map_map]
      rfl
    rw [e, map_isStrs]
    refine ⟨_, rfl, ?_, ?_⟩
    · have e2 : ((bs.map fun b => b.1 :: tail b.2).map (·.length)).sum = (txt bs).length := by
        rw [← txt_flat, List.length_flatten]
      rw [e2]
      have := txt_len h1
      omega
    · rw [joinL_nil, txt_flat]
      exact q
end LW
namespace LW
open PySem L2 Pd
def b_law_v2 (c : Str → Addr) (s__law_cells : FD) (s__law_pot : FD) (s__law_right : FD) : DS := (dRet (dBi gAll (dCons (dO (dComp (iVal (dCall s__law_cells [] (dCons (dVar 0) (dCons (dC (.int 6)) dNil)))) (gNm 1) dYes (dCall s__law_right [] (dCons (dCall s__law_pot [] (dCons (dVar 0) (dCons (dVar 1) dNil))) dNil)) [1])) dNil)))
end LW
namespace LW
open PySem L2 Pd
theorem all_bls {α : Type} (l : List α) : ∃ ns, isBls (l.map fun _ => D.bl true) = some ns ∧ ns.all id = true := by
  refine ⟨l.map fun _ => true, ?_, by simp⟩
  rw [show (l.map fun _ => D.bl true) = (l.map fun _ => true).map D.bl by rw [List.map_map]; rfl, map_isBls]
def RightOk (s : FD) (B : Nat) : Prop := ∀ n Q, B ≤ n → (∀ n', n' ≤ n → n ≤ n' + B → Q n' (.bl true)) → s [.pot] n Q
theorem isBls_rep (m : Nat) : ∃ ns, isBls (List.replicate m (D.bl true)) = some ns ∧ ns.all id = true := by
  have := all_bls (List.range m)
  rw [List.map_const', List.length_range] at this
  exact this
theorem cells_all {s : FD} {B : Nat} (hs : RightOk s B) {ns : List Int} {Q : Nat → D → Prop} {sl : Sl} (q : ∀ n', Q n' (.bl true)) : ∀ (xs : List D) (m n : Nat), (∀ x ∈ xs, ∃ k : Nat, x = .int k ∧ k < 8) → xs.length * B ≤ n → n ≤ 1000000000 →
    compW (gNm 1) dYes (dCall s [] (dCons (dCall s_pot [] (dCons (dVar 0) (dCons (dVar 1) dNil))) dNil)) [.val (.scr ns), sl] (fun n' ds => ∃ ns, isBls ds = some ns ∧ Q n' (.bl (ns.all id))) xs (List.replicate m (.bl true)) n
  | [], m, n, _, _, _ => by
    obtain ⟨ns, e1, e2⟩ := isBls_rep m
    exact ⟨ns, e1, by rw [e2]; exact q n⟩
  | x :: xs, m, n, h, hn, h9 => by
    obtain ⟨k, rfl, hk⟩ := h x (by simp)
    rw [List.length_cons, Nat.succ_mul] at hn
    simp only [compW, envOf, dRet, dRetN, dOp, dSl, dSlO, dVar, dC, pSome, pNo, ev_sll, ev_slt, ev_sls, dBi, dCons, dNil, ev_lenl, ev_lent, ev_lens, ev_lenr, ev_gI, TC, Pd.gSub, gLt, gLe, gGt, gGe, gMod, gFdiv, gPow, gEq, gNe, ev_oki, ev_oks, ev_okl, ev_okt, gIs, gIsNot, gIsB, gIsNotB, Pd.isNon, dCall, dSeq, dSet, dSetO, dMul, setL, bCons, bOwn, bNil, dIf, dIte, dTB, dAnd, dOr, dNot, dBV, dAndV, dOrV, dChain, dTmp, dTmpT, frzE, dFrz, OD.d, dIxO, dApp, dSetI, dNeg, dLst, dLstO, dTup, dO, dDrop, ev_abs, ev_inttoi, ev_inttob, ev_inttos, ev_strtoi, ev_listl, ev_listt, ev_lists, ev_tupl, ev_tupt, ev_addi, ev_adds, ev_addl, ev_addt, ev_muli, ev_muls, ev_mull, ev_max, ev_min, ev_all, ev_any, gRepr, dLRg, Pd.r1, Pd.r2, eqD_str, eqD_int, eqD_bl, dFld, dProp, dMeth, dAugI, dRev, dMake, dIsi, isT, isC, dNx, dBrk, dNev, dFst, putFD, gNm, gTp, gsCons, gsNil, dAsg, dStar, dYes, iniEnd, flatD, wipeE, ev_ixl, ev_ixt, ev_ixs, ev_ixr, ev_srcl, ev_srct, ev_srcs, ev_at0, ev_at1, ev_atl, ev_atn, ev_ixn, Option.some.injEq, exists_eq_left', exists_eq_left, List.foldl_cons, List.foldl_nil, List.map_cons, List.map_nil, List.replicate, List.length_append, List.length_map, List.length_cons, List.length_nil, List.cons_append, List.nil_append, List.append_nil, List.getElem?_cons_zero, List.getElem?_cons_succ, List.set_cons_zero, List.set_cons_succ, Nat.zero_add, Nat.reduceAdd, Nat.reduceSub, Nat.reduceLeDiff, true_and, and_true, decide_eq_true_eq, decide_eq_false_iff_not, ne_eq, reduceCtorEq, false_implies, true_implies, forall_const, Bool.and_self, Bool.and_true, Bool.true_and, lk_ends, lk_blocks, lk_text, lk_spot, lk_letter, Int.toNat_natCast]
    refine ⟨ns, k, rfl, hk, h9, hs n _ (by omega) fun n' a b => ?_⟩
    rw [show List.replicate m (D.bl true) ++ [D.bl true] = List.replicate (m + 1) (D.bl true) by rw [List.replicate_succ']]
    exact cells_all hs q xs (m + 1) n' (fun y hy => h y (List.mem_cons_of_mem _ hy)) (by omega) (by omega)
def s_law2 : FD := fun ds n P => ∃ ns : List Int, ds = [.scr ns] ∧ n = 1000000000 ∧ ∀ n', P n' (.bl true)
theorem l_law2 (c : Str → Addr) {s : FD} {B : Nat} (hs : RightOk s B) (hB : B ≤ 100000000) : ∀ ds n Q, s_law2 ds n Q → dFn 2 1 (b_law_v2 c s_cells s_pot s) ds n Q := by
  rintro ds n Q ⟨ns, rfl, rfl, q⟩
  refine ⟨rfl, ?_⟩
  simp only [b_law_v2, envOf, dRet, dRetN, dOp, dSl, dSlO, dVar, dC, pSome, pNo, ev_sll, ev_slt, ev_sls, dBi, dCons, dNil, ev_lenl, ev_lent, ev_lens, ev_lenr, ev_gI, TC, Pd.gSub, gLt, gLe, gGt, gGe, gMod, gFdiv, gPow, gEq, gNe, ev_oki, ev_oks, ev_okl, ev_okt, gIs, gIsNot, gIsB, gIsNotB, Pd.isNon, dCall, dSeq, dSet, dSetO, dMul, setL, bCons, bOwn, bNil, dIf, dIte, dTB, dAnd, dOr, dNot, dBV, dAndV, dOrV, dChain, dTmp, dTmpT, frzE, dFrz, OD.d, dIxO, dApp, dSetI, dNeg, dLst, dLstO, dTup, dO, dDrop, ev_abs, ev_inttoi, ev_inttob, ev_inttos, ev_strtoi, ev_listl, ev_listt, ev_lists, ev_tupl, ev_tupt, ev_addi, ev_adds, ev_addl, ev_addt, ev_muli, ev_muls, ev_mull, ev_max, ev_min, ev_all, ev_any, gRepr, dLRg, Pd.r1, Pd.r2, eqD_str, eqD_int, eqD_bl, dFld, dProp, dMeth, dAugI, dRev, dMake, dIsi, isT, isC, dNx, dBrk, dNev, dFst, putFD, gNm, gTp, gsCons, gsNil, dAsg, dStar, dYes, iniEnd, flatD, wipeE, ev_ixl, ev_ixt, ev_ixs, ev_ixr, ev_srcl, ev_srct, ev_srcs, ev_at0, ev_at1, ev_atl, ev_atn, ev_ixn, Option.some.injEq, exists_eq_left', exists_eq_left, List.foldl_cons, List.foldl_nil, List.map_cons, List.map_nil, List.replicate, List.length_append, List.length_map, List.length_cons, List.length_nil, List.cons_append, List.nil_append, List.append_nil, List.getElem?_cons_zero, List.getElem?_cons_succ, List.set_cons_zero, List.set_cons_succ, Nat.zero_add, Nat.reduceAdd, Nat.reduceSub, Nat.reduceLeDiff, true_and, and_true, decide_eq_true_eq, decide_eq_false_iff_not, ne_eq, reduceCtorEq, false_implies, true_implies, forall_const, Bool.and_self, Bool.and_true, Bool.true_and, lk_ends, lk_blocks, lk_text, lk_spot, lk_letter, Int.toNat_natCast, dComp, iVal]
  refine ⟨ns, 6, rfl, by decide, by decide, fun xs hx hk => ⟨xs, rfl, by omega, ?_⟩⟩
  exact cells_all hs q xs 0 _ (fun x hx => by
    obtain ⟨k, e, h⟩ := hk x hx
    exact ⟨k, e, by omega⟩) (Nat.le_trans (Nat.mul_le_mul hx hB) (by decide)) (Nat.le_refl _)
end LW
namespace LW
open PySem L2 Pd
theorem for_map {α : Type} (f : α → D) {dg : DG} {b : DS} {N : DN} (Inv : List α → List α → Nat → Ev → Prop) (l : List α) {n : Nat} {ε : Ev} (hi : Inv [] l n ε) (h0 : ∀ n ε, Inv l [] n ε → N.nx n ε)
    (hs : ∀ a x r n ε (nxt : Nat → Ev → Prop), l = a ++ x :: r → (∀ n' ε', Inv (a ++ [x]) r n' ε' → nxt n' ε') → Inv a (x :: r) n ε → dg (f x) ε fun ε' => b { N with nx := nxt, ct := nxt, bk := N.nx } n ε') : forW dg b N (l.map f) n ε := by
  refine for_ind (fun ys n' ε' => ∃ a r, l = a ++ r ∧ ys = r.map f ∧ Inv a r n' ε') ⟨[], l, rfl, rfl, hi⟩ ?_ ?_
  · rintro n' ε' ⟨a, r, e1, e2, i⟩
    have : r = [] := List.map_eq_nil_iff.mp e2.symm
    subst this
    rw [List.append_nil] at e1
    rw [← e1] at i
    exact h0 n' ε' i
  · rintro y ys n' ε' nxt ih ⟨a, r, e1, e2, i⟩
    match r, e2 with
    | x :: r, e2 =>
      rw [List.map_cons] at e2
      obtain ⟨rfl, rfl⟩ := List.cons.inj e2
      exact hs a x r n' ε' nxt e1 (fun n2 ε2 i2 => ih n2 ε2 ⟨a ++ [x], r, by rw [e1, List.append_assoc]; rfl, rfl, i2⟩) i
theorem compW_inv {dg : DG} {t : DT} {d : DE} {ε : Ev} {P : Nat → List D → Prop} (Inv : List D → List D → Nat → Prop) (h0 : ∀ acc n, Inv [] acc n → P n acc)
    (hs : ∀ x xs acc n (K : List D → Nat → Prop), (∀ acc' n', Inv xs acc' n' → K acc' n') → Inv (x :: xs) acc n → dg x ε fun ε' => t n ε' fun n1 k => (k = true → d n1 ε' fun n2 y => K (acc ++ [y]) n2) ∧ (k = false → K acc n1)) :
    ∀ (xs acc : List D) (n : Nat), Inv xs acc n → compW dg t d ε P xs acc n
  | [], acc, n, i => h0 acc n i
  | x :: xs, acc, n, i => hs x xs acc n (fun acc' n' => compW dg t d ε P xs acc' n') (fun acc' n' i' => compW_inv Inv h0 hs xs acc' n' i') i
theorem isInts_nat (l : List Nat) : isInts (l.map intD) = some (l.map fun k : Nat => (k : Int)) := by
  rw [show l.map intD = (l.map fun k : Nat => (k : Int)).map D.int by rw [List.map_map]; rfl, map_isInts]
theorem sum_nat (l : List Nat) : (l.map fun k : Nat => (k : Int)).sum = (l.sum : Nat) := by
  induction l with
  | nil => rfl
  | cons x l ih => rw [List.map_cons, List.sum_cons, List.sum_cons, ih]; omega
end LW
namespace LW
open PySem L2 Pd
def rep (w : List Nat) (c k : Nat) : Prop := ∀ i, c - k ≤ i → i < c → i + k < w.length → w[i]? = w[i + k]?
instance (w : List Nat) (c k : Nat) : Decidable (rep w c k) :=
  decidable_of_iff (∀ i < c, c - k ≤ i → i + k < w.length → w[i]? = w[i + k]?) ⟨fun h i a b d => h i b a d, fun h i b a d => h i a b d⟩
end LW
namespace LW
open PySem L2 Pd
theorem rngD0 (n : Nat) : rngD 0 n = (List.range n).map intD := by
  have := rngD_eq n 0
  rw [List.range_eq_range']
  exact this
end LW
namespace LW
open PySem L2 Pd
structure PS where
  pl : Nat
  kn : Nat
  fd : List Nat
  lk : Nat
def s_is_integer : FD := fun ds n P => (∃ (v lo hi : Int), ds = [.int v, .int lo, .int hi] ∧ P n (.bl (decide (lo ≤ v ∧ v ≤ hi)))) ∨ (∃ (v lo : Int), ds = [.int v, .int lo, .non] ∧ P n (.bl (decide (lo ≤ v))))
theorem l_is_integer (c : Str → Addr) : ∀ ds n Q, s_is_integer ds n Q → dFn 3 3 (b_is_integer c) ds n Q := by
  rintro ds n Q (⟨v, lo, hi, rfl, q⟩ | ⟨v, lo, rfl, q⟩)
  · refine ⟨rfl, ?_⟩
    simp only [b_is_integer, envOf, dRet, dRetN, dOp, dSl, dSlO, dVar, dC, pSome, pNo, ev_sll, ev_slt, ev_sls, dBi, dCons, dNil, ev_lenl, ev_lent, ev_lens, ev_lenr, ev_gI, TC, Pd.gSub, gLt, gLe, gGt, gGe, gMod, gFdiv, gPow, gEq, gNe, ev_oki, ev_oks, ev_okl, ev_okt, gIs, gIsNot, gIsB, gIsNotB, Pd.isNon, dCall, dSeq, dSet, dSetO, dMul, setL, bCons, bOwn, bNil, dIf, dIte, dTB, dAnd, dOr, dNot, dBV, dAndV, dOrV, dChain, dTmp, dTmpT, frzE, dFrz, OD.d, dIxO, dApp, dSetI, dNeg, dLst, dLstO, dTup, dO, dDrop, ev_abs, ev_inttoi, ev_inttob, ev_inttos, ev_strtoi, ev_listl, ev_listt, ev_lists, ev_tupl, ev_tupt, ev_addi, ev_adds, ev_addl, ev_addt, ev_muli, ev_muls, ev_mull, ev_max, ev_min, ev_all, ev_any, gRepr, dLRg, Pd.r1, Pd.r2, eqD_str, eqD_int, eqD_bl, dFld, dProp, dMeth, dAugI, dRev, dMake, dIsi, isT, isC, dNx, dBrk, dNev, dFst, putFD, gNm, gTp, gsCons, gsNil, dAsg, dStar, dYes, iniEnd, flatD, wipeE, ev_ixl, ev_ixt, ev_ixs, ev_ixr, ev_srcl, ev_srct, ev_srcs, ev_at0, ev_at1, ev_atl, ev_atn, ev_ixn, Option.some.injEq, exists_eq_left', exists_eq_left, List.foldl_cons, List.foldl_nil, List.map_cons, List.map_nil, List.replicate, List.length_append, List.length_map, List.length_cons, List.length_nil, List.cons_append, List.nil_append, List.append_nil, List.getElem?_cons_zero, List.getElem?_cons_succ, List.set_cons_zero, List.set_cons_succ, Nat.zero_add, Nat.reduceAdd, Nat.reduceSub, Nat.reduceLeDiff, true_and, and_true, decide_eq_true_eq, decide_eq_false_iff_not, ne_eq, reduceCtorEq, false_implies, true_implies, forall_const, Bool.and_self, Bool.and_true, Bool.true_and, lk_ends, lk_blocks, lk_text, lk_spot, lk_letter, Int.toNat_natCast]
    refine ⟨fun h => by simp at h, fun _ => ⟨fun h => by simp at h, fun _ => ⟨fun h => ?_, fun h => ?_⟩⟩⟩
    · rw [show decide (lo ≤ v ∧ v ≤ hi) = decide (v ≤ hi) by simp [h]] at q
      exact q
    · rw [show decide (lo ≤ v ∧ v ≤ hi) = false by simp [h]] at q
      exact q
  · refine ⟨rfl, ?_⟩
    simp only [b_is_integer, envOf, dRet, dRetN, dOp, dSl, dSlO, dVar, dC, pSome, pNo, ev_sll, ev_slt, ev_sls, dBi, dCons, dNil, ev_lenl, ev_lent, ev_lens, ev_lenr, ev_gI, TC, Pd.gSub, gLt, gLe, gGt, gGe, gMod, gFdiv, gPow, gEq, gNe, ev_oki, ev_oks, ev_okl, ev_okt, gIs, gIsNot, gIsB, gIsNotB, Pd.isNon, dCall, dSeq, dSet, dSetO, dMul, setL, bCons, bOwn, bNil, dIf, dIte, dTB, dAnd, dOr, dNot, dBV, dAndV, dOrV, dChain, dTmp, dTmpT, frzE, dFrz, OD.d, dIxO, dApp, dSetI, dNeg, dLst, dLstO, dTup, dO, dDrop, ev_abs, ev_inttoi, ev_inttob, ev_inttos, ev_strtoi, ev_listl, ev_listt, ev_lists, ev_tupl, ev_tupt, ev_addi, ev_adds, ev_addl, ev_addt, ev_muli, ev_muls, ev_mull, ev_max, ev_min, ev_all, ev_any, gRepr, dLRg, Pd.r1, Pd.r2, eqD_str, eqD_int, eqD_bl, dFld, dProp, dMeth, dAugI, dRev, dMake, dIsi, isT, isC, dNx, dBrk, dNev, dFst, putFD, gNm, gTp, gsCons, gsNil, dAsg, dStar, dYes, iniEnd, flatD, wipeE, ev_ixl, ev_ixt, ev_ixs, ev_ixr, ev_srcl, ev_srct, ev_srcs, ev_at0, ev_at1, ev_atl, ev_atn, ev_ixn, Option.some.injEq, exists_eq_left', exists_eq_left, List.foldl_cons, List.foldl_nil, List.map_cons, List.map_nil, List.replicate, List.length_append, List.length_map, List.length_cons, List.length_nil, List.cons_append, List.nil_append, List.append_nil, List.getElem?_cons_zero, List.getElem?_cons_succ, List.set_cons_zero, List.set_cons_succ, Nat.zero_add, Nat.reduceAdd, Nat.reduceSub, Nat.reduceLeDiff, true_and, and_true, decide_eq_true_eq, decide_eq_false_iff_not, ne_eq, reduceCtorEq, false_implies, true_implies, forall_const, Bool.and_self, Bool.and_true, Bool.true_and, lk_ends, lk_blocks, lk_text, lk_spot, lk_letter, Int.toNat_natCast]
    refine ⟨fun h => by simp at h, fun _ => ⟨fun h => by simp at h, fun _ => ⟨fun h => ?_, fun h => ?_⟩⟩⟩
    · rw [decide_eq_true h] at q
      exact q
    · rw [decide_eq_false h] at q
      exact q
end LW
namespace LW
open PySem L2 Pd
def b_made (c : Str → Addr) (s_text_of : FD) (i_Word : FI) : DS := (dSeq (dIf (dTB (dOp gGt (dBi gLen (dCons (dVar 0) dNil)) (dC (.int 40)))) dNev dNx)
    (dSeq (dIf (dTB (dBi gAny (dCons (dO (dComp (iVal (dVar 0)) (gTp 2 (gsCons (gNm 1) (gsCons (gNm 2) gsNil))) dYes (dOp gGe (dVar 2) (dC (.int 1000000000000000000000000000000))) [1, 2])) dNil))) dNev dNx)
    (dRet (dMake (c "Word") i_Word [] (dCons (dCall s_text_of [] (dCons (dVar 0) dNil)) dNil)))))
def b_put_together (c : Str → Addr)  : DS := (dSeq (dSetO 1 (dLstO dNil))
    (dSeq (dFor (iVal (dVar 0)) (gTp 2 (gsCons (gNm 2) (gsCons (gNm 3) gsNil))) (dIf (dAnd (dTmpT 1 (dTB (dOp gNe (dVar 1) (dLst dNil)))) (dTB (dOp gEq (dOp gIx (dIxO 1 (dNeg (dC (.int 1)))) (dC (.int 0))) (dVar 2)))) (dSetI 1 (dNeg (dC (.int 1))) (dTup (dCons (dVar 2) (dCons (dOp gAdd (dOp gIx (dIxO 1 (dNeg (dC (.int 1)))) (dC (.int 1))) (dVar 3)) dNil)))) (dApp 1 (dTup (dCons (dVar 2) (dCons (dVar 3) dNil))))))
    (dFrz [1] (dRet (dVar 1)))))
def b_Word_part (c : Str → Addr) (s_is_integer : FD) (s_Word_size : FD) (s_made : FD) : DS := (dSeq (dIf (dOr (dNot (dTB (dCall s_is_integer [.non] (dCons (dVar 1) (dCons (dC (.int 0)) dNil))))) (dNot (dTB (dCall s_is_integer [] (dCons (dVar 2) (dCons (dOp gAdd (dVar 1) (dC (.int 1))) (dCons (dProp (c "Word") s_Word_size (dVar 0)) dNil))))))) dNev dNx)
    (dSeq (dSetO 3 (dLstO dNil))
    (dSeq (dFor (iZp3 (dFld (c "Word") "own_blocks" (dVar 0)) (dFld (c "Word") "own_ends" (dVar 0)) (dSl (dFld (c "Word") "own_ends" (dVar 0)) (pSome (dC (.int 1))) pNo)) (gTp 3 (gsCons (gTp 2 (gsCons (gNm 4) (gsCons (gNm 5) gsNil))) (gsCons (gNm 6) (gsCons (gNm 7) gsNil)))) (dIf (dAnd (dTB (dOp gLt (dVar 6) (dVar 2))) (dTB (dOp gLt (dVar 1) (dVar 7)))) (dApp 3 (dTup (dCons (dVar 4) (dCons (dOp gSub (dBi gMin (dCons (dVar 7) (dCons (dVar 2) dNil))) (dBi gMax (dCons (dVar 6) (dCons (dVar 1) dNil)))) dNil)))) dNx))
    (dFrz [3] (dRet (dCall s_made [] (dCons (dVar 3) dNil)))))))
def b_Word_joined (c : Str → Addr) (s_Word_blocks : FD) (s_put_together : FD) (s_made : FD) : DS := (dSeq (dIf (dNot (dTB (dIsi (isC (c "Word") []) (dVar 1)))) dNev dNx)
    (dRet (dCall s_made [] (dCons (dCall s_put_together [] (dCons (dLst (dStar (dFld (c "Word") "own_blocks" (dVar 0)) (dStar (dProp (c "Word") s_Word_blocks (dVar 1)) dNil))) dNil)) dNil))))
def b_Word_text (c : Str → Addr)  : DS := (dRet (dFld (c "Word") "own_text" (dVar 0)))
end LW
namespace LW
open PySem L2 Pd
def s_put : FD := fun ds n P => ∃ (x : D) (xs : List Bl), ds = [x] ∧ srcD x = some (xs.map blkD) ∧ xs.length ≤ 1000 ∧ (∀ b ∈ xs, 1 ≤ b.2 ∧ b.1 < 1114112) ∧ ∀ bs, Good bs → expand bs = expand xs → bs.length ≤ xs.length → P n (.lst (bs.map blkD))
theorem l_put (c : Str → Addr) : ∀ ds n Q, s_put ds n Q → dFn 4 1 (b_put_together c) ds n Q := by
  rintro ds n Q ⟨x, l, rfl, hx, h0, h1, q⟩
  refine ⟨rfl, ?_⟩
  simp only [b_put_together, envOf, dRet, dRetN, dOp, dSl, dSlO, dVar, dC, pSome, pNo, ev_sll, ev_slt, ev_sls, dBi, dCons, dNil, ev_lenl, ev_lent, ev_lens, ev_lenr, ev_gI, TC, Pd.gSub, gLt, gLe, gGt, gGe, gMod, gFdiv, gPow, gEq, gNe, ev_oki, ev_oks, ev_okl, ev_okt, gIs, gIsNot, gIsB, gIsNotB, Pd.isNon, dCall, dSeq, dSet, dSetO, dMul, setL, bCons, bOwn, bNil, dIf, dIte, dTB, dAnd, dOr, dNot, dBV, dAndV, dOrV, dChain, dTmp, dTmpT, frzE, dFrz, OD.d, dIxO, dApp, dSetI, dNeg, dLst, dLstO, dTup, dO, dDrop, ev_abs, ev_inttoi, ev_inttob, ev_inttos, ev_strtoi, ev_listl, ev_listt, ev_lists, ev_tupl, ev_tupt, ev_addi, ev_adds, ev_addl, ev_addt, ev_muli, ev_muls, ev_mull, ev_max, ev_min, ev_all, ev_any, gRepr, dLRg, Pd.r1, Pd.r2, eqD_str, eqD_int, eqD_bl, dFld, dProp, dMeth, dAugI, dRev, dMake, dIsi, isT, isC, dNx, dBrk, dNev, dFst, putFD, gNm, gTp, gsCons, gsNil, dAsg, dStar, dYes, iniEnd, flatD, wipeE, ev_ixl, ev_ixt, ev_ixs, ev_ixr, ev_srcl, ev_srct, ev_srcs, ev_at0, ev_at1, ev_atl, ev_atn, ev_ixn, Option.some.injEq, exists_eq_left', exists_eq_left, List.foldl_cons, List.foldl_nil, List.map_cons, List.map_nil, List.replicate, List.length_append, List.length_map, List.length_cons, List.length_nil, List.cons_append, List.nil_append, List.append_nil, List.getElem?_cons_zero, List.getElem?_cons_succ, List.set_cons_zero, List.set_cons_succ, Nat.zero_add, Nat.reduceAdd, Nat.reduceSub, Nat.reduceLeDiff, true_and, and_true, decide_eq_true_eq, decide_eq_false_iff_not, ne_eq, reduceCtorEq, false_implies, true_implies, forall_const, Bool.and_self, Bool.and_true, Bool.true_and, dFor, iVal, hx]
  refine for_map blkD (fun p r n' ε => ∃ (bs : List Bl) (s2 s3 : Sl), n' = n ∧ ε = [.val x, .own (.lst (bs.map blkD)), s2, s3] ∧ expand bs = expand p ∧ Good bs ∧ bs.length ≤ p.length ∧ ∀ b ∈ bs, b.1 < 1114112) l ⟨[], .no, .no, rfl, rfl, rfl, ⟨trivial, fun b hb => by cases hb⟩, Nat.le_refl _, fun b hb => by cases hb⟩ ?_ ?_
  · rintro n' ε ⟨bs, s2, s3, rfl, rfl, hb, hg, hl, _⟩
    simp only [envOf, dRet, dRetN, dOp, dSl, dSlO, dVar, dC, pSome, pNo, ev_sll, ev_slt, ev_sls, dBi, dCons, dNil, ev_lenl, ev_lent, ev_lens, ev_lenr, ev_gI, TC, Pd.gSub, gLt, gLe, gGt, gGe, gMod, gFdiv, gPow, gEq, gNe, ev_oki, ev_oks, ev_okl, ev_okt, gIs, gIsNot, gIsB, gIsNotB, Pd.isNon, dCall, dSeq, dSet, dSetO, dMul, setL, bCons, bOwn, bNil, dIf, dIte, dTB, dAnd, dOr, dNot, dBV, dAndV, dOrV, dChain, dTmp, dTmpT, frzE, dFrz, OD.d, dIxO, dApp, dSetI, dNeg, dLst, dLstO, dTup, dO, dDrop, ev_abs, ev_inttoi, ev_inttob, ev_inttos, ev_strtoi, ev_listl, ev_listt, ev_lists, ev_tupl, ev_tupt, ev_addi, ev_adds, ev_addl, ev_addt, ev_muli, ev_muls, ev_mull, ev_max, ev_min, ev_all, ev_any, gRepr, dLRg, Pd.r1, Pd.r2, eqD_str, eqD_int, eqD_bl, dFld, dProp, dMeth, dAugI, dRev, dMake, dIsi, isT, isC, dNx, dBrk, dNev, dFst, putFD, gNm, gTp, gsCons, gsNil, dAsg, dStar, dYes, iniEnd, flatD, wipeE, ev_ixl, ev_ixt, ev_ixs, ev_ixr, ev_srcl, ev_srct, ev_srcs, ev_at0, ev_at1, ev_atl, ev_atn, ev_ixn, Option.some.injEq, exists_eq_left', exists_eq_left, List.foldl_cons, List.foldl_nil, List.map_cons, List.map_nil, List.replicate, List.length_append, List.length_map, List.length_cons, List.length_nil, List.cons_append, List.nil_append, List.append_nil, List.getElem?_cons_zero, List.getElem?_cons_succ, List.set_cons_zero, List.set_cons_succ, Nat.zero_add, Nat.reduceAdd, Nat.reduceSub, Nat.reduceLeDiff, true_and, and_true, decide_eq_true_eq, decide_eq_false_iff_not, ne_eq, reduceCtorEq, false_implies, true_implies, forall_const, Bool.and_self, Bool.and_true, Bool.true_and]
    exact q bs hg hb hl
  · rintro p y r n' ε nxt e1 ih ⟨bs, s2, s3, rfl, rfl, hb, hg, hl, hlt⟩
    obtain ⟨y1, y2⟩ := h1 y (by rw [e1]; simp)
    have hpl : p.length < 1000 := by
      have := congrArg List.length e1
      rw [List.length_append, List.length_cons] at this
      omega
    have ih' := fun (bs' : List Bl) (h1 : expand bs' = expand p ++ List.replicate y.2 y.1) (h2 : Good bs') (h3 : bs'.length ≤ p.length + 1) (h4 : ∀ b ∈ bs', b.1 < 1114112) => ih n' [.val x, .own (.lst (bs'.map blkD)), .val (.str [y.1]), .val (.int y.2)] ⟨bs', _, _, rfl, rfl, by rw [h1, expand_append]; simp [expand], h2, by rw [List.length_append]; exact h3, h4⟩
    rcases List.eq_nil_or_concat bs with rfl | ⟨as, d, rfl⟩
    · simp only [blkD, envOf, dRet, dRetN, dOp, dSl, dSlO, dVar, dC, pSome, pNo, ev_sll, ev_slt, ev_sls, dBi, dCons, dNil, ev_lenl, ev_lent, ev_lens, ev_lenr, ev_gI, TC, Pd.gSub, gLt, gLe, gGt, gGe, gMod, gFdiv, gPow, gEq, gNe, ev_oki, ev_oks, ev_okl, ev_okt, gIs, gIsNot, gIsB, gIsNotB, Pd.isNon, dCall, dSeq, dSet, dSetO, dMul, setL, bCons, bOwn, bNil, dIf, dIte, dTB, dAnd, dOr, dNot, dBV, dAndV, dOrV, dChain, dTmp, dTmpT, frzE, dFrz, OD.d, dIxO, dApp, dSetI, dNeg, dLst, dLstO, dTup, dO, dDrop, ev_abs, ev_inttoi, ev_inttob, ev_inttos, ev_strtoi, ev_listl, ev_listt, ev_lists, ev_tupl, ev_tupt, ev_addi, ev_adds, ev_addl, ev_addt, ev_muli, ev_muls, ev_mull, ev_max, ev_min, ev_all, ev_any, gRepr, dLRg, Pd.r1, Pd.r2, eqD_str, eqD_int, eqD_bl, dFld, dProp, dMeth, dAugI, dRev, dMake, dIsi, isT, isC, dNx, dBrk, dNev, dFst, putFD, gNm, gTp, gsCons, gsNil, dAsg, dStar, dYes, iniEnd, flatD, wipeE, ev_ixl, ev_ixt, ev_ixs, ev_ixr, ev_srcl, ev_srct, ev_srcs, ev_at0, ev_at1, ev_atl, ev_atn, ev_ixn, Option.some.injEq, exists_eq_left', exists_eq_left, List.foldl_cons, List.foldl_nil, List.map_cons, List.map_nil, List.replicate, List.length_append, List.length_map, List.length_cons, List.length_nil, List.cons_append, List.nil_append, List.append_nil, List.getElem?_cons_zero, List.getElem?_cons_succ, List.set_cons_zero, List.set_cons_succ, Nat.zero_add, Nat.reduceAdd, Nat.reduceSub, Nat.reduceLeDiff, true_and, and_true, decide_eq_true_eq, decide_eq_false_iff_not, ne_eq, reduceCtorEq, false_implies, true_implies, forall_const, Bool.and_self, Bool.and_true, Bool.true_and, okD_nil, eqD, eqDs, Bool.not_true]
      refine ⟨by decide, ih' [y] ?_ ⟨trivial, fun b hb => by rw [List.mem_singleton.mp hb]; exact y1⟩ (by simp) (fun b hb => by rw [List.mem_singleton.mp hb]; exact y2)⟩
      rw [← hb]
      simp [expand]
    · rw [List.concat_eq_append] at *
      rw [List.map_append, List.map_cons, List.map_nil] at *
      have hok : okD (.lst (as.map blkD ++ [blkD d])) = true := by
        have := okD_blks hlt
        rwa [List.map_append] at this
      have hal : as.length + 1 ≤ p.length := by simpa using hl
      have hd := hlt d (by simp)
      simp only [envOf, dRet, dRetN, dOp, dSl, dSlO, dVar, dC, pSome, pNo, ev_sll, ev_slt, ev_sls, dBi, dCons, dNil, ev_lenl, ev_lent, ev_lens, ev_lenr, ev_gI, TC, Pd.gSub, gLt, gLe, gGt, gGe, gMod, gFdiv, gPow, gEq, gNe, ev_oki, ev_oks, ev_okl, ev_okt, gIs, gIsNot, gIsB, gIsNotB, Pd.isNon, dCall, dSeq, dSet, dSetO, dMul, setL, bCons, bOwn, bNil, dIf, dIte, dTB, dAnd, dOr, dNot, dBV, dAndV, dOrV, dChain, dTmp, dTmpT, frzE, dFrz, OD.d, dIxO, dApp, dSetI, dNeg, dLst, dLstO, dTup, dO, dDrop, ev_abs, ev_inttoi, ev_inttob, ev_inttos, ev_strtoi, ev_listl, ev_listt, ev_lists, ev_tupl, ev_tupt, ev_addi, ev_adds, ev_addl, ev_addt, ev_muli, ev_muls, ev_mull, ev_max, ev_min, ev_all, ev_any, gRepr, dLRg, Pd.r1, Pd.r2, eqD_str, eqD_int, eqD_bl, dFld, dProp, dMeth, dAugI, dRev, dMake, dIsi, isT, isC, dNx, dBrk, dNev, dFst, putFD, gNm, gTp, gsCons, gsNil, dAsg, dStar, dYes, iniEnd, flatD, wipeE, ev_ixl, ev_ixt, ev_ixs, ev_ixr, ev_srcl, ev_srct, ev_srcs, ev_at0, ev_at1, ev_atl, ev_atn, ev_ixn, Option.some.injEq, exists_eq_left', exists_eq_left, List.foldl_cons, List.foldl_nil, List.map_cons, List.map_nil, List.replicate, List.length_append, List.length_map, List.length_cons, List.length_nil, List.cons_append, List.nil_append, List.append_nil, List.getElem?_cons_zero, List.getElem?_cons_succ, List.set_cons_zero, List.set_cons_succ, Nat.zero_add, Nat.reduceAdd, Nat.reduceSub, Nat.reduceLeDiff, true_and, and_true, decide_eq_true_eq, decide_eq_false_iff_not, ne_eq, reduceCtorEq, false_implies, true_implies, forall_const, Bool.and_self, Bool.and_true, Bool.true_and, okD_nil, hok, eqD_snoc, Bool.not_false]
      simp only [blkD, envOf, dRet, dRetN, dOp, dSl, dSlO, dVar, dC, pSome, pNo, ev_sll, ev_slt, ev_sls, dBi, dCons, dNil, ev_lenl, ev_lent, ev_lens, ev_lenr, ev_gI, TC, Pd.gSub, gLt, gLe, gGt, gGe, gMod, gFdiv, gPow, gEq, gNe, ev_oki, ev_oks, ev_okl, ev_okt, gIs, gIsNot, gIsB, gIsNotB, Pd.isNon, dCall, dSeq, dSet, dSetO, dMul, setL, bCons, bOwn, bNil, dIf, dIte, dTB, dAnd, dOr, dNot, dBV, dAndV, dOrV, dChain, dTmp, dTmpT, frzE, dFrz, OD.d, dIxO, dApp, dSetI, dNeg, dLst, dLstO, dTup, dO, dDrop, ev_abs, ev_inttoi, ev_inttob, ev_inttos, ev_strtoi, ev_listl, ev_listt, ev_lists, ev_tupl, ev_tupt, ev_addi, ev_adds, ev_addl, ev_addt, ev_muli, ev_muls, ev_mull, ev_max, ev_min, ev_all, ev_any, gRepr, dLRg, Pd.r1, Pd.r2, eqD_str, eqD_int, eqD_bl, dFld, dProp, dMeth, dAugI, dRev, dMake, dIsi, isT, isC, dNx, dBrk, dNev, dFst, putFD, gNm, gTp, gsCons, gsNil, dAsg, dStar, dYes, iniEnd, flatD, wipeE, ev_ixl, ev_ixt, ev_ixs, ev_ixr, ev_srcl, ev_srct, ev_srcs, ev_at0, ev_at1, ev_atl, ev_atn, ev_ixn, Option.some.injEq, exists_eq_left', exists_eq_left, List.foldl_cons, List.foldl_nil, List.map_cons, List.map_nil, List.replicate, List.length_append, List.length_map, List.length_cons, List.length_nil, List.cons_append, List.nil_append, List.append_nil, List.getElem?_cons_zero, List.getElem?_cons_succ, List.set_cons_zero, List.set_cons_succ, Nat.zero_add, Nat.reduceAdd, Nat.reduceSub, Nat.reduceLeDiff, true_and, and_true, decide_eq_true_eq, decide_eq_false_iff_not, ne_eq, reduceCtorEq, false_implies, true_implies, forall_const, Bool.and_self, Bool.and_true, Bool.true_and, List.cons.injEq]
      refine ⟨fun he => ?_, fun he => ?_⟩
      · have e2 : ((as.map blkD ++ [D.tup [.str [d.1], .int (d.2 : Nat)]]).set as.length (.tup [.str [y.1], .int ((d.2 : Int) + (y.2 : Int))])) = (as ++ [(y.1, d.2 + y.2)]).map blkD := by
          rw [show as.length = (as.map blkD).length by rw [List.length_map], set_last, List.map_append]
          rfl
        have e3 : (List.map (fun b : Bl => D.tup [.str [b.1], .int (b.2 : Nat)]) as ++ [D.tup [.str [d.1], .int (d.2 : Nat)]]) = as.map blkD ++ [D.tup [.str [d.1], .int (d.2 : Nat)]] := rfl
        first | rw [e3, e2] | rw [e2]
        refine ih' _ ?_ ⟨Adj.last hg.adj he, fun b hb' => ?_⟩ (by rw [List.length_append, List.length_singleton]; omega) (fun b hb' => ?_)
        · rw [← hb, expand_append, expand_append, List.append_assoc]
          congr 1
          simp only [expand, List.append_nil]
          rw [he, List.replicate_append_replicate]
        · rcases List.mem_append.mp hb' with h | h
          · exact hg.pos b (List.mem_append_left _ h)
          · rw [List.mem_singleton.mp h]
            show 1 ≤ d.2 + y.2
            omega
        · rcases List.mem_append.mp hb' with h | h
          · exact hlt b (List.mem_append_left _ h)
          · rw [List.mem_singleton.mp h]
            exact y2
      · have hne : d.1 ≠ y.1 := fun q => he q
        refine ⟨by omega, ?_⟩
        have e3 : (List.map blkD as ++ [D.tup [.str [d.1], .int (d.2 : Nat)], D.tup [.str [y.1], .int (y.2 : Nat)]]) = (as ++ [d] ++ [y]).map blkD := by
          rw [List.map_append, List.map_append]
          simp [blkD]
        simp only [List.append_assoc, List.cons_append, List.nil_append]
        have e4 : (List.map (fun b : Bl => D.tup [.str [b.1], .int (b.2 : Nat)]) as ++ [D.tup [.str [d.1], .int (d.2 : Nat)], D.tup [.str [y.1], .int (y.2 : Nat)]]) = List.map blkD as ++ [D.tup [.str [d.1], .int (d.2 : Nat)], D.tup [.str [y.1], .int (y.2 : Nat)]] := rfl
        first | rw [e4, e3] | rw [e3]
        refine ih' _ ?_ ⟨Adj.snoc hg.adj hne, fun b hb' => ?_⟩ (by rw [List.length_append, List.length_append, List.length_singleton, List.length_singleton]; omega) (fun b hb' => ?_)
        · rw [expand_append, hb]
          simp [expand]
        · rcases List.mem_append.mp hb' with h | h
          · exact hg.pos b h
          · rw [List.mem_singleton.mp h]
            exact y1
        · rcases List.mem_append.mp hb' with h | h
          · exact hlt b h
          · rw [List.mem_singleton.mp h]
            exact y2
def s_made (c : Str → Addr) : FD := fun ds n P => ∃ (x : D) (bs : List Bl), ds = [x] ∧ (x = .lst (bs.map blkD) ∨ x = .tup (bs.map blkD)) ∧ Told bs ∧ P n (wordD c bs)
theorem l_made (c : Str → Addr) : ∀ ds n Q, s_made c ds n Q → dFn 3 1 (b_made c s_text_of i_word) ds n Q := by
  rintro ds n Q ⟨x, bs, rfl, hx, T, q⟩
  refine ⟨rfl, ?_⟩
  have hl := T.2.1
  have hsrc : srcD x = some (bs.map blkD) := by rcases hx with rfl | rfl <;> rfl
  have hlen : ∀ P : D → Prop, P (.int (bs.length : Nat)) → gLen [x] P := fun P h => by
    rcases hx with rfl | rfl
    · rw [ev_lenl, List.length_map]; exact h
    · rw [ev_lent, List.length_map]; exact h
  simp only [b_made, dNev, dComp, iVal, envOf, dRet, dRetN, dOp, dSl, dSlO, dVar, dC, pSome, pNo, ev_sll, ev_slt, ev_sls, dBi, dCons, dNil, ev_lenl, ev_lent, ev_lens, ev_lenr, ev_gI, TC, Pd.gSub, gLt, gLe, gGt, gGe, gMod, gFdiv, gPow, gEq, gNe, ev_oki, ev_oks, ev_okl, ev_okt, gIs, gIsNot, gIsB, gIsNotB, Pd.isNon, dCall, dSeq, dSet, dSetO, dMul, setL, bCons, bOwn, bNil, dIf, dIte, dTB, dAnd, dOr, dNot, dBV, dAndV, dOrV, dChain, dTmp, dTmpT, frzE, dFrz, OD.d, dIxO, dApp, dSetI, dNeg, dLst, dLstO, dTup, dO, dDrop, ev_abs, ev_inttoi, ev_inttob, ev_inttos, ev_strtoi, ev_listl, ev_listt, ev_lists, ev_tupl, ev_tupt, ev_addi, ev_adds, ev_addl, ev_addt, ev_muli, ev_muls, ev_mull, ev_max, ev_min, ev_all, ev_any, gRepr, dLRg, Pd.r1, Pd.r2, eqD_str, eqD_int, eqD_bl, dFld, dProp, dMeth, dAugI, dRev, dMake, dIsi, isT, isC, dNx, dBrk, dNev, dFst, putFD, gNm, gTp, gsCons, gsNil, dAsg, dStar, dYes, iniEnd, flatD, wipeE, ev_ixl, ev_ixt, ev_ixs, ev_ixr, ev_srcl, ev_srct, ev_srcs, ev_at0, ev_at1, ev_atl, ev_atn, ev_ixn, Option.some.injEq, exists_eq_left', exists_eq_left, List.foldl_cons, List.foldl_nil, List.map_cons, List.map_nil, List.replicate, List.length_append, List.length_map, List.length_cons, List.length_nil, List.cons_append, List.nil_append, List.append_nil, List.getElem?_cons_zero, List.getElem?_cons_succ, List.set_cons_zero, List.set_cons_succ, Nat.zero_add, Nat.reduceAdd, Nat.reduceSub, Nat.reduceLeDiff, true_and, and_true, decide_eq_true_eq, decide_eq_false_iff_not, ne_eq, reduceCtorEq, false_implies, true_implies, forall_const, Bool.and_self, Bool.and_true, Bool.true_and]
  refine hlen _ ?_
  simp only [envOf, dRet, dRetN, dOp, dSl, dSlO, dVar, dC, pSome, pNo, ev_sll, ev_slt, ev_sls, dBi, dCons, dNil, ev_lenl, ev_lent, ev_lens, ev_lenr, ev_gI, TC, Pd.gSub, gLt, gLe, gGt, gGe, gMod, gFdiv, gPow, gEq, gNe, ev_oki, ev_oks, ev_okl, ev_okt, gIs, gIsNot, gIsB, gIsNotB, Pd.isNon, dCall, dSeq, dSet, dSetO, dMul, setL, bCons, bOwn, bNil, dIf, dIte, dTB, dAnd, dOr, dNot, dBV, dAndV, dOrV, dChain, dTmp, dTmpT, frzE, dFrz, OD.d, dIxO, dApp, dSetI, dNeg, dLst, dLstO, dTup, dO, dDrop, ev_abs, ev_inttoi, ev_inttob, ev_inttos, ev_strtoi, ev_listl, ev_listt, ev_lists, ev_tupl, ev_tupt, ev_addi, ev_adds, ev_addl, ev_addt, ev_muli, ev_muls, ev_mull, ev_max, ev_min, ev_all, ev_any, gRepr, dLRg, Pd.r1, Pd.r2, eqD_str, eqD_int, eqD_bl, dFld, dProp, dMeth, dAugI, dRev, dMake, dIsi, isT, isC, dNx, dBrk, dNev, dFst, putFD, gNm, gTp, gsCons, gsNil, dAsg, dStar, dYes, iniEnd, flatD, wipeE, ev_ixl, ev_ixt, ev_ixs, ev_ixr, ev_srcl, ev_srct, ev_srcs, ev_at0, ev_at1, ev_atl, ev_atn, ev_ixn, Option.some.injEq, exists_eq_left', exists_eq_left, List.foldl_cons, List.foldl_nil, List.map_cons, List.map_nil, List.replicate, List.length_append, List.length_map, List.length_cons, List.length_nil, List.cons_append, List.nil_append, List.append_nil, List.getElem?_cons_zero, List.getElem?_cons_succ, List.set_cons_zero, List.set_cons_succ, Nat.zero_add, Nat.reduceAdd, Nat.reduceSub, Nat.reduceLeDiff, true_and, and_true, decide_eq_true_eq, decide_eq_false_iff_not, ne_eq, reduceCtorEq, false_implies, true_implies, forall_const, Bool.and_self, Bool.and_true, Bool.true_and]
  refine ⟨fun h => by omega, fun _ => ?_⟩
  simp only [hsrc, envOf, dRet, dRetN, dOp, dSl, dSlO, dVar, dC, pSome, pNo, ev_sll, ev_slt, ev_sls, dBi, dCons, dNil, ev_lenl, ev_lent, ev_lens, ev_lenr, ev_gI, TC, Pd.gSub, gLt, gLe, gGt, gGe, gMod, gFdiv, gPow, gEq, gNe, ev_oki, ev_oks, ev_okl, ev_okt, gIs, gIsNot, gIsB, gIsNotB, Pd.isNon, dCall, dSeq, dSet, dSetO, dMul, setL, bCons, bOwn, bNil, dIf, dIte, dTB, dAnd, dOr, dNot, dBV, dAndV, dOrV, dChain, dTmp, dTmpT, frzE, dFrz, OD.d, dIxO, dApp, dSetI, dNeg, dLst, dLstO, dTup, dO, dDrop, ev_abs, ev_inttoi, ev_inttob, ev_inttos, ev_strtoi, ev_listl, ev_listt, ev_lists, ev_tupl, ev_tupt, ev_addi, ev_adds, ev_addl, ev_addt, ev_muli, ev_muls, ev_mull, ev_max, ev_min, ev_all, ev_any, gRepr, dLRg, Pd.r1, Pd.r2, eqD_str, eqD_int, eqD_bl, dFld, dProp, dMeth, dAugI, dRev, dMake, dIsi, isT, isC, dNx, dBrk, dNev, dFst, putFD, gNm, gTp, gsCons, gsNil, dAsg, dStar, dYes, iniEnd, flatD, wipeE, ev_ixl, ev_ixt, ev_ixs, ev_ixr, ev_srcl, ev_srct, ev_srcs, ev_at0, ev_at1, ev_atl, ev_atn, ev_ixn, Option.some.injEq, exists_eq_left', exists_eq_left, List.foldl_cons, List.foldl_nil, List.map_cons, List.map_nil, List.replicate, List.length_append, List.length_map, List.length_cons, List.length_nil, List.cons_append, List.nil_append, List.append_nil, List.getElem?_cons_zero, List.getElem?_cons_succ, List.set_cons_zero, List.set_cons_succ, Nat.zero_add, Nat.reduceAdd, Nat.reduceSub, Nat.reduceLeDiff, true_and, and_true, decide_eq_true_eq, decide_eq_false_iff_not, ne_eq, reduceCtorEq, false_implies, true_implies, forall_const, Bool.and_self, Bool.and_true, Bool.true_and]
  refine ⟨by omega, compW_map blkD (fun b => .bl false) _ _ _ (fun b hb m K K' hK => ?_) ?_⟩
  · have := (T.2.2.1 b hb).1
    simp only [blkD, envOf, dRet, dRetN, dOp, dSl, dSlO, dVar, dC, pSome, pNo, ev_sll, ev_slt, ev_sls, dBi, dCons, dNil, ev_lenl, ev_lent, ev_lens, ev_lenr, ev_gI, TC, Pd.gSub, gLt, gLe, gGt, gGe, gMod, gFdiv, gPow, gEq, gNe, ev_oki, ev_oks, ev_okl, ev_okt, gIs, gIsNot, gIsB, gIsNotB, Pd.isNon, dCall, dSeq, dSet, dSetO, dMul, setL, bCons, bOwn, bNil, dIf, dIte, dTB, dAnd, dOr, dNot, dBV, dAndV, dOrV, dChain, dTmp, dTmpT, frzE, dFrz, OD.d, dIxO, dApp, dSetI, dNeg, dLst, dLstO, dTup, dO, dDrop, ev_abs, ev_inttoi, ev_inttob, ev_inttos, ev_strtoi, ev_listl, ev_listt, ev_lists, ev_tupl, ev_tupt, ev_addi, ev_adds, ev_addl, ev_addt, ev_muli, ev_muls, ev_mull, ev_max, ev_min, ev_all, ev_any, gRepr, dLRg, Pd.r1, Pd.r2, eqD_str, eqD_int, eqD_bl, dFld, dProp, dMeth, dAugI, dRev, dMake, dIsi, isT, isC, dNx, dBrk, dNev, dFst, putFD, gNm, gTp, gsCons, gsNil, dAsg, dStar, dYes, iniEnd, flatD, wipeE, ev_ixl, ev_ixt, ev_ixs, ev_ixr, ev_srcl, ev_srct, ev_srcs, ev_at0, ev_at1, ev_atl, ev_atn, ev_ixn, Option.some.injEq, exists_eq_left', exists_eq_left, List.foldl_cons, List.foldl_nil, List.map_cons, List.map_nil, List.replicate, List.length_append, List.length_map, List.length_cons, List.length_nil, List.cons_append, List.nil_append, List.append_nil, List.getElem?_cons_zero, List.getElem?_cons_succ, List.set_cons_zero, List.set_cons_succ, Nat.zero_add, Nat.reduceAdd, Nat.reduceSub, Nat.reduceLeDiff, true_and, and_true, decide_eq_true_eq, decide_eq_false_iff_not, ne_eq, reduceCtorEq, false_implies, true_implies, forall_const, Bool.and_self, Bool.and_true, Bool.true_and]
    rw [decide_eq_false (by omega)]
    exact hK
  · rw [List.nil_append]
    refine ⟨bs.map fun _ => false, by rw [show (bs.map fun _ => D.bl false) = (bs.map fun _ => false).map D.bl by rw [List.map_map]; rfl, map_isBls], ?_⟩
    rw [show (bs.map fun _ => false).any id = false by rw [List.any_map]; simp]
    refine ⟨fun h => (by cases h), fun _ => ?_⟩
    refine ⟨x, bs, rfl, hsrc, by omega, fun b hb => Nat.lt_trans (T.2.2.1 b hb).1 (by decide), ?_⟩
    exact ⟨bs, rfl, T, q⟩
end LW
namespace LW
open PySem L2 Pd
def b__law_blocks_part (c : Str → Addr) (s__law_heads_of : FD) : DS := (dSeq (dSetO 3 (dLstO dNil))
    (dSeq (dFor (iVal (dLZp (dVar 0) (dCall s__law_heads_of [] (dCons (dVar 0) dNil)))) (gTp 2 (gsCons (gTp 2 (gsCons (gNm 4) (gsCons (gNm 5) gsNil))) (gsCons (gNm 6) gsNil))) (dApp 3 (dTup (dCons (dVar 4) (dCons (dOp gSub (dBi gMin (dCons (dOp gAdd (dVar 6) (dVar 5)) (dCons (dVar 2) dNil))) (dBi gMax (dCons (dVar 6) (dCons (dVar 1) dNil)))) dNil)))))
    (dFrz [3] (dRet (dO (dComp (iVal (dVar 3)) (gNm 7) (dTB (dOp gGt (dOp gIx (dVar 7) (dC (.int 1))) (dC (.int 0)))) (dVar 7) [7]))))))
def b__law_great_blocks (c : Str → Addr) (s__law_take : FD) (s__law_of : FD) : DS := (dSeq (dMul [3, 4] (bCons (dOp gAdd (dVar 1) (dCall s__law_take [] (dCons (dVar 0) (dCons (dOp gAdd (dOp gSub (dVar 2) (dVar 1)) (dC (.int 1))) dNil)))) (bOwn (dLstO dNil) bNil)))
    (dSeq (dMul [5, 6] (bCons (dCall s__law_of [] (dCons (dVar 0) (dCons (dLst (dCons (dC (.int 1)) (dCons (dC (.int 7)) (dCons (dOp gPow (dC (.int 10)) (dC (.int 9))) (dCons (dOp gPow (dC (.int 10)) (dC (.int 29))) (dCons (dOp gMul (dC (.int 3)) (dOp gPow (dC (.int 10)) (dC (.int 29)))) dNil)))))) dNil))) (bCons (dCall s__law_of [] (dCons (dVar 0) (dCons (dLst (dCons (dC (.str [97, 98, 99])) (dCons (dC (.str [97, 98, 99])) (dCons (dC (.str [97, 98, 99, 120, 121])) dNil)))) dNil))) bNil)))
    (dSeq (dFor (iRg1 (dVar 3)) (gNm 7) (dSeq (dSet 8 (dCall s__law_of [] (dCons (dVar 0) (dCons (dO (dComp (iVal (dVar 6)) (gNm 9) (dOr (dTmpT 4 (dTB (dOp gEq (dVar 4) (dLst dNil)))) (dTB (dOp gNe (dVar 9) (dOp gIx (dIxO 4 (dNeg (dC (.int 1)))) (dC (.int 0)))))) (dVar 9) [9])) dNil))))
    (dApp 4 (dTup (dCons (dVar 8) (dCons (dBi gMax (dCons (dC (.int 1)) (dCons (dCall s__law_of [] (dCons (dVar 0) (dCons (dLst (dCons (dC (.int 1)) (dCons (dC (.int 2)) (dCons (dVar 5) (dCons (dVar 5) (dCons (dOp gAdd (dVar 5) (dC (.int 1))) (dCons (dOp gSub (dVar 5) (dC (.int 1))) (dCons (dOp gMul (dC (.int 2)) (dVar 5)) dNil)))))))) dNil))) dNil))) dNil))))))
    (dFrz [4] (dRet (dVar 4))))))
def b__law_heads_of (c : Str → Addr)  : DS := (dSeq (dSetO 1 (dLstO (dCons (dC (.int 0)) dNil)))
    (dSeq (dFor (iVal (dSl (dVar 0) pNo (pSome (dNeg (dC (.int 1)))))) (gTp 2 (gsCons (gNm 2) (gsCons (gNm 3) gsNil))) (dApp 1 (dOp gAdd (dIxO 1 (dNeg (dC (.int 1)))) (dVar 3))))
    (dFrz [1] (dRet (dVar 1)))))
def b__law_merged (c : Str → Addr)  : DS := (dSeq (dSetO 1 (dLstO dNil))
    (dSeq (dFor (iVal (dVar 0)) (gTp 2 (gsCons (gNm 2) (gsCons (gNm 3) gsNil))) (dIf (dAnd (dTB (dOp gGt (dVar 3) (dC (.int 0)))) (dAnd (dTmpT 1 (dTB (dOp gNe (dVar 1) (dLst dNil)))) (dTB (dOp gEq (dOp gIx (dIxO 1 (dNeg (dC (.int 1)))) (dC (.int 0))) (dVar 2))))) (dSetI 1 (dNeg (dC (.int 1))) (dTup (dCons (dVar 2) (dCons (dOp gAdd (dOp gIx (dIxO 1 (dNeg (dC (.int 1)))) (dC (.int 1))) (dVar 3)) dNil)))) (dExt 1 (dIte (dTB (dOp gGt (dVar 3) (dC (.int 0)))) (dLst (dCons (dTup (dCons (dVar 2) (dCons (dVar 3) dNil))) dNil)) (dLst dNil)))))
    (dFrz [1] (dRet (dVar 1)))))
def b__law_small_or_great (c : Str → Addr) (s__law_take : FD) (s__law_letters : FD) (s__law_blocks : FD) (s__law_great_blocks : FD) (s__law_of : FD) (s__law_merged : FD) (s__law_sum_of : FD) (s__law_blocks_part : FD) : DS := (dSeq (dSet 1 (dCall s__law_take [] (dCons (dVar 0) (dCons (dC (.int 5)) dNil))))
    (dSeq (dIf (dTB (dOp gLt (dVar 1) (dC (.int 2)))) (dRet (dCall s__law_blocks [] (dCons (dCall s__law_letters [] (dCons (dVar 0) (dCons (dC (.int 1)) (dCons (dC (.int 40)) dNil)))) dNil))) dNx)
    (dSeq (dIf (dTB (dOp gEq (dVar 1) (dC (.int 2)))) (dRet (dCall s__law_great_blocks [] (dCons (dVar 0) (dCons (dC (.int 1)) (dCons (dC (.int 12)) dNil))))) dNx)
    (dSeq (dMul [2, 3] (bCons (dCall s__law_great_blocks [] (dCons (dVar 0) (dCons (dC (.int 2)) (dCons (dC (.int 4)) dNil)))) (bCons (dCall s__law_of [] (dCons (dVar 0) (dCons (dLst (dCons (dC (.int 1)) (dCons (dOp gPow (dC (.int 10)) (dC (.int 9))) (dCons (dOp gPow (dC (.int 10)) (dC (.int 28))) dNil)))) dNil))) bNil)))
    (dSeq (dSet 2 (dO (dComp (iVal (dVar 2)) (gTp 2 (gsCons (gNm 8) (gsCons (gNm 9) gsNil))) dYes (dTup (dCons (dVar 8) (dCons (dOp gMul (dBi gMin (dCons (dVar 9) (dCons (dC (.int 9)) dNil))) (dVar 3)) dNil))) [8, 9])))
    (dSeq (dSet 4 (dOp gAdd (dC (.int 1)) (dCall s__law_take [] (dCons (dVar 0) (dCons (dBi gMax (dCons (dC (.int 1)) (dCons (dOp gFdiv (dC (.int 36)) (dBi gLen (dCons (dVar 2) dNil))) dNil))) dNil)))))
    (dSeq (dSet 5 (dCall s__law_merged [] (dCons (dOp gMul (dVar 2) (dVar 4)) dNil)))
    (dSeq (dSet 6 (dCall s__law_of [] (dCons (dVar 0) (dCons (dLst (dCons (dC (.int 0)) (dCons (dC (.int 1)) (dCons (dVar 3) (dCons (dCall s__law_take [] (dCons (dVar 0) (dCons (dOp gPow (dC (.int 10)) (dC (.int 6))) dNil))) dNil))))) dNil))))
    (dSeq (dSet 7 (dCall s__law_sum_of [] (dCons (dVar 5) dNil)))
    (dRet (dIte (dTB (dOp gEq (dVar 1) (dC (.int 3)))) (dCall s__law_blocks_part [] (dCons (dVar 5) (dCons (dBi gMin (dCons (dVar 6) (dCons (dOp gSub (dVar 7) (dC (.int 1))) dNil))) (dCons (dVar 7) dNil)))) (dCall s__law_merged [] (dCons (dOp gAdd (dVar 5) (dSl (dVar 2) pNo (pSome (dC (.int 1))))) dNil)))))))))))))
def b__law_sum_of (c : Str → Addr)  : DS := (dRet (dBi gSum (dCons (dO (dComp (iVal (dVar 0)) (gTp 2 (gsCons (gNm 1) (gsCons (gNm 2) gsNil))) dYes (dBi gInt (dCons (dVar 2) dNil)) [1, 2])) dNil)))
end LW
namespace LW
open PySem L2 Pd
def goes (w : List Nat) (c k : Nat) : Prop := ∀ i, max c k ≤ i → i < w.length → w[i]? = w[i - k]?
instance (w : List Nat) (c k : Nat) : Decidable (goes w c k) :=
  decidable_of_iff (∀ i < w.length, max c k ≤ i → w[i]? = w[i - k]?) ⟨fun h i a b => h i b a, fun h i b a => h i a b⟩
def standsAt (w t : List Nat) (p : Nat) : Prop := (t.drop p).take w.length = w
instance (w t : List Nat) (p : Nat) : Decidable (standsAt w t p) := by unfold standsAt; exact inferInstance
end LW
namespace LW
open PySem L2 Pd
def goodP (w t : List Nat) (p : Nat) : Prop := p + w.length ≤ t.length ∧ standsAt w t p
instance (w t : List Nat) (p : Nat) : Decidable (goodP w t p) := by unfold goodP; exact inferInstance
def upTo (w t : List Nat) (p : Nat) : List Nat := (List.range p).filter fun q => decide (goodP w t q)
def KnOk (w t : List Nat) (st : PS) : Prop := ∀ j, j < st.kn → w[j]? = t[st.pl + j]?
end LW
namespace LW
open PySem L2 Pd
def momF (d s : D) (t : List Nat) (x : D) : List (Str × D) := [("deed_then", d), ("search_then", s), ("text_then", .str t), ("state_then", x)]
def finF (c : Str → Addr) (bs : List Bl) (past : List D) (later : D) : List (Str × D) := [("own_word", wordD c bs), ("own_letters", .str (expand bs)), ("own_past", .tup past), ("own_later", later), ("own_block", .non)]
theorem put_ne {f g : Str} {v x : D} {r : List (Str × D)} (h : g ≠ f) : putFD f v ((g, x) :: r) = (g, x) :: putFD f v r := by
  show (if g = f then (g, v) :: r else (g, x) :: putFD f v r) = _
  rw [if_neg h]
theorem put_at {f : Str} {v x : D} {r : List (Str × D)} : putFD f v ((f, x) :: r) = (f, v) :: r := by
  show (if f = f then (f, v) :: r else (f, x) :: putFD f v r) = _
  rw [if_pos rfl]
section
variable {a b d e x v : D} {c : Str → Addr} {bs : List Bl} {p : List D} {t : List Nat}
theorem pm1 : putFD "deed_then" a ([] : List (Str × D)) = ([("deed_then", a)] : List (Str × D)) := rfl
theorem pm2 : putFD "search_then" b ([("deed_then", a)] : List (Str × D)) = ([("deed_then", a), ("search_then", b)] : List (Str × D)) := by rw [put_ne (by decide)]; rfl
theorem pm3 : putFD "text_then" d ([("deed_then", a), ("search_then", b)] : List (Str × D)) = ([("deed_then", a), ("search_then", b), ("text_then", d)] : List (Str × D)) := by rw [put_ne (by decide), put_ne (by decide)]; rfl
theorem pm4 : putFD "state_then" e ([("deed_then", a), ("search_then", b), ("text_then", d)] : List (Str × D)) = ([("deed_then", a), ("search_then", b), ("text_then", d), ("state_then", e)] : List (Str × D)) := by rw [put_ne (by decide), put_ne (by decide), put_ne (by decide)]; rfl
theorem pi1 : putFD "own_word" a ([] : List (Str × D)) = ([("own_word", a)] : List (Str × D)) := rfl
theorem pi2 : putFD "own_letters" b ([("own_word", a)] : List (Str × D)) = ([("own_word", a), ("own_letters", b)] : List (Str × D)) := by rw [put_ne (by decide)]; rfl
theorem pi3 : putFD "own_past" d ([("own_word", a), ("own_letters", b)] : List (Str × D)) = ([("own_word", a), ("own_letters", b), ("own_past", d)] : List (Str × D)) := by rw [put_ne (by decide), put_ne (by decide)]; rfl
theorem pi4 : putFD "own_later" e ([("own_word", a), ("own_letters", b), ("own_past", d)] : List (Str × D)) = ([("own_word", a), ("own_letters", b), ("own_past", d), ("own_later", e)] : List (Str × D)) := by rw [put_ne (by decide), put_ne (by decide), put_ne (by decide)]; rfl
theorem pi5 : putFD "own_block" x ([("own_word", a), ("own_letters", b), ("own_past", d), ("own_later", e)] : List (Str × D)) = ([("own_word", a), ("own_letters", b), ("own_past", d), ("own_later", e), ("own_block", x)] : List (Str × D)) := by rw [put_ne (by decide), put_ne (by decide), put_ne (by decide), put_ne (by decide)]; rfl
theorem pf_past {p' : List D} : putFD "own_past" (.tup p') (finF c bs p v) = finF c bs p' v := by
  unfold finF
  rw [put_ne (by decide), put_ne (by decide), put_at]
theorem pf_later : putFD "own_later" a (finF c bs p v) = finF c bs p a := by
  unfold finF
  rw [put_ne (by decide), put_ne (by decide), put_ne (by decide), put_at]
theorem lf_word : List.lookup ("own_word" : Str) (finF c bs p v) = some (wordD c bs : D) := rfl
theorem lf_letters : List.lookup ("own_letters" : Str) (finF c bs p v) = some (.str (expand bs) : D) := rfl
theorem lf_past : List.lookup ("own_past" : Str) (finF c bs p v) = some (.tup p : D) := rfl
theorem lm_search : List.lookup ("search_then" : Str) (momF a b t x) = some (b : D) := rfl
theorem lm_text : List.lookup ("text_then" : Str) (momF a b t x) = some (.str t : D) := rfl
theorem lm_state : List.lookup ("state_then" : Str) (momF a b t x) = some (x : D) := rfl
end
end LW
namespace LW
open PySem L2 Pd
structure RtOk (w t : List Nat) (st : PS) : Prop where
  kn : st.kn < w.length
  en : t.length < st.pl + w.length
  pl : st.pl ≤ t.length
  ln : st.fd.length ≤ st.pl
  up : ∀ v, KnOk w (t ++ v) st ∧ st.fd = upTo w (t ++ v) st.pl
section
variable {w t u : List Nat} {c s : Nat} {kp : Bool}
theorem RtOk.turn {st : PS} (r : RtOk w t st) : RtOk w t ⟨st.pl, 0, st.fd, st.lk⟩ :=
  ⟨by show 0 < _; have := r.kn; omega, r.en, r.pl, r.ln, fun v => ⟨fun j hj => absurd hj (Nat.not_lt_zero _), (r.up v).2⟩⟩
end
end LW
namespace LW
open PySem L2 Pd
def s_Word_letter (c : Str → Addr) : FD := fun ds n P => ∃ (bs : List Bl) (p a : Nat), ds = [wordD c bs, .int p] ∧ bs ≠ [] ∧ bs.length ≤ 1000 ∧ (expand bs)[p]? = some a ∧ P n (.str [a])
theorem l_Word_letter (c : Str → Addr) : ∀ ds n Q, s_Word_letter c ds n Q → dFn 2 2 (b_Word_letter c (s_Word_size c) s_is_integer (s_Word_spot c)) ds n Q := by
  rintro ds n Q ⟨bs, p, a, rfl, hne, hl, ha, q⟩
  refine ⟨rfl, ?_⟩
  have hp : p < (expand bs).length := (List.getElem?_eq_some_iff.mp ha).1
  have hsz : size bs = (expand bs).length := rfl
  obtain ⟨j, j1, j2, j3⟩ := block_of hp
  simp only [b_Word_letter, wordD, dNev, envOf, dRet, dRetN, dOp, dSl, dSlO, dVar, dC, pSome, pNo, ev_sll, ev_slt, ev_sls, dBi, dCons, dNil, ev_lenl, ev_lent, ev_lens, ev_lenr, ev_gI, TC, Pd.gSub, gLt, gLe, gGt, gGe, gMod, gFdiv, gPow, gEq, gNe, ev_oki, ev_oks, ev_okl, ev_okt, gIs, gIsNot, gIsB, gIsNotB, Pd.isNon, dCall, dSeq, dSet, dSetO, dMul, setL, bCons, bOwn, bNil, dIf, dIte, dTB, dAnd, dOr, dNot, dBV, dAndV, dOrV, dChain, dTmp, dTmpT, frzE, dFrz, OD.d, dIxO, dApp, dSetI, dNeg, dLst, dLstO, dTup, dO, dDrop, ev_abs, ev_inttoi, ev_inttob, ev_inttos, ev_strtoi, ev_listl, ev_listt, ev_lists, ev_tupl, ev_tupt, ev_addi, ev_adds, ev_addl, ev_addt, ev_muli, ev_muls, ev_mull, ev_max, ev_min, ev_all, ev_any, gRepr, dLRg, Pd.r1, Pd.r2, eqD_str, eqD_int, eqD_bl, dFld, dProp, dMeth, dAugI, dRev, dMake, dIsi, isT, isC, dNx, dBrk, dNev, dFst, gNm, gTp, gsCons, gsNil, dAsg, dStar, dYes, iniEnd, flatD, wipeE, ev_ixl, ev_ixt, ev_ixs, ev_ixr, ev_srcl, ev_srct, ev_srcs, ev_at0, ev_at1, ev_atl, ev_atn, ev_ixn, Option.some.injEq, exists_eq_left', exists_eq_left, List.foldl_cons, List.foldl_nil, List.map_cons, List.map_nil, List.replicate, List.length_append, List.length_map, List.length_cons, List.length_nil, List.cons_append, List.nil_append, List.append_nil, List.getElem?_cons_zero, List.getElem?_cons_succ, List.set_cons_zero, List.set_cons_succ, Nat.zero_add, Nat.reduceAdd, Nat.reduceSub, Nat.reduceLeDiff, true_and, and_true, decide_eq_true_eq, decide_eq_false_iff_not, ne_eq, reduceCtorEq, false_implies, true_implies, forall_const, Bool.and_self, Bool.and_true, Bool.true_and, lk_ends, lk_blocks, lk_text, lk_spot, lk_letter, Int.toNat_natCast, dFldO, dTmq, dMut, dSetQ, dParQ, qMake, D.still, D.stills, lf_past, lf_word, lf_letters, pf_past, pf_later, pm1, pm2, pm3, pm4, pi1, pi2, pi3, pi4, pi5, lm_state, lm_text, lm_search]
  refine ⟨bs, rfl, ?_⟩
  simp only [envOf, dRet, dRetN, dOp, dSl, dSlO, dVar, dC, pSome, pNo, ev_sll, ev_slt, ev_sls, dBi, dCons, dNil, ev_lenl, ev_lent, ev_lens, ev_lenr, ev_gI, TC, Pd.gSub, gLt, gLe, gGt, gGe, gMod, gFdiv, gPow, gEq, gNe, ev_oki, ev_oks, ev_okl, ev_okt, gIs, gIsNot, gIsB, gIsNotB, Pd.isNon, dCall, dSeq, dSet, dSetO, dMul, setL, bCons, bOwn, bNil, dIf, dIte, dTB, dAnd, dOr, dNot, dBV, dAndV, dOrV, dChain, dTmp, dTmpT, frzE, dFrz, OD.d, dIxO, dApp, dSetI, dNeg, dLst, dLstO, dTup, dO, dDrop, ev_abs, ev_inttoi, ev_inttob, ev_inttos, ev_strtoi, ev_listl, ev_listt, ev_lists, ev_tupl, ev_tupt, ev_addi, ev_adds, ev_addl, ev_addt, ev_muli, ev_muls, ev_mull, ev_max, ev_min, ev_all, ev_any, gRepr, dLRg, Pd.r1, Pd.r2, eqD_str, eqD_int, eqD_bl, dFld, dProp, dMeth, dAugI, dRev, dMake, dIsi, isT, isC, dNx, dBrk, dNev, dFst, gNm, gTp, gsCons, gsNil, dAsg, dStar, dYes, iniEnd, flatD, wipeE, ev_ixl, ev_ixt, ev_ixs, ev_ixr, ev_srcl, ev_srct, ev_srcs, ev_at0, ev_at1, ev_atl, ev_atn, ev_ixn, Option.some.injEq, exists_eq_left', exists_eq_left, List.foldl_cons, List.foldl_nil, List.map_cons, List.map_nil, List.replicate, List.length_append, List.length_map, List.length_cons, List.length_nil, List.cons_append, List.nil_append, List.append_nil, List.getElem?_cons_zero, List.getElem?_cons_succ, List.set_cons_zero, List.set_cons_succ, Nat.zero_add, Nat.reduceAdd, Nat.reduceSub, Nat.reduceLeDiff, true_and, and_true, decide_eq_true_eq, decide_eq_false_iff_not, ne_eq, reduceCtorEq, false_implies, true_implies, forall_const, Bool.and_self, Bool.and_true, Bool.true_and, lk_ends, lk_blocks, lk_text, lk_spot, lk_letter, Int.toNat_natCast, dFldO, dTmq, dMut, dSetQ, dParQ, qMake, D.still, D.stills, lf_past, lf_word, lf_letters, pf_past, pf_later, pm1, pm2, pm3, pm4, pi1, pi2, pi3, pi4, pi5, lm_state, lm_text, lm_search]
  refine .inl ⟨p, 0, (size bs : Nat) - 1, rfl, ?_⟩
  rw [decide_eq_true (by omega)]
  refine ⟨fun h => (by cases h), fun _ => ?_⟩
  simp only [fldsW, envOf, dRet, dRetN, dOp, dSl, dSlO, dVar, dC, pSome, pNo, ev_sll, ev_slt, ev_sls, dBi, dCons, dNil, ev_lenl, ev_lent, ev_lens, ev_lenr, ev_gI, TC, Pd.gSub, gLt, gLe, gGt, gGe, gMod, gFdiv, gPow, gEq, gNe, ev_oki, ev_oks, ev_okl, ev_okt, gIs, gIsNot, gIsB, gIsNotB, Pd.isNon, dCall, dSeq, dSet, dSetO, dMul, setL, bCons, bOwn, bNil, dIf, dIte, dTB, dAnd, dOr, dNot, dBV, dAndV, dOrV, dChain, dTmp, dTmpT, frzE, dFrz, OD.d, dIxO, dApp, dSetI, dNeg, dLst, dLstO, dTup, dO, dDrop, ev_abs, ev_inttoi, ev_inttob, ev_inttos, ev_strtoi, ev_listl, ev_listt, ev_lists, ev_tupl, ev_tupt, ev_addi, ev_adds, ev_addl, ev_addt, ev_muli, ev_muls, ev_mull, ev_max, ev_min, ev_all, ev_any, gRepr, dLRg, Pd.r1, Pd.r2, eqD_str, eqD_int, eqD_bl, dFld, dProp, dMeth, dAugI, dRev, dMake, dIsi, isT, isC, dNx, dBrk, dNev, dFst, gNm, gTp, gsCons, gsNil, dAsg, dStar, dYes, iniEnd, flatD, wipeE, ev_ixl, ev_ixt, ev_ixs, ev_ixr, ev_srcl, ev_srct, ev_srcs, ev_at0, ev_at1, ev_atl, ev_atn, ev_ixn, Option.some.injEq, exists_eq_left', exists_eq_left, List.foldl_cons, List.foldl_nil, List.map_cons, List.map_nil, List.replicate, List.length_append, List.length_map, List.length_cons, List.length_nil, List.cons_append, List.nil_append, List.append_nil, List.getElem?_cons_zero, List.getElem?_cons_succ, List.set_cons_zero, List.set_cons_succ, Nat.zero_add, Nat.reduceAdd, Nat.reduceSub, Nat.reduceLeDiff, true_and, and_true, decide_eq_true_eq, decide_eq_false_iff_not, ne_eq, reduceCtorEq, false_implies, true_implies, forall_const, Bool.and_self, Bool.and_true, Bool.true_and, lk_ends, lk_blocks, lk_text, lk_spot, lk_letter, Int.toNat_natCast, dFldO, dTmq, dMut, dSetQ, dParQ, qMake, D.still, D.stills, lf_past, lf_word, lf_letters, pf_past, pf_later, pm1, pm2, pm3, pm4, pi1, pi2, pi3, pi4, pi5, lm_state, lm_text, lm_search]
  refine ⟨bs, p, rfl, hne, hl, ?_⟩
  rw [spot_eq j1 j2 j3]
  simp only [envOf, dRet, dRetN, dOp, dSl, dSlO, dVar, dC, pSome, pNo, ev_sll, ev_slt, ev_sls, dBi, dCons, dNil, ev_lenl, ev_lent, ev_lens, ev_lenr, ev_gI, TC, Pd.gSub, gLt, gLe, gGt, gGe, gMod, gFdiv, gPow, gEq, gNe, ev_oki, ev_oks, ev_okl, ev_okt, gIs, gIsNot, gIsB, gIsNotB, Pd.isNon, dCall, dSeq, dSet, dSetO, dMul, setL, bCons, bOwn, bNil, dIf, dIte, dTB, dAnd, dOr, dNot, dBV, dAndV, dOrV, dChain, dTmp, dTmpT, frzE, dFrz, OD.d, dIxO, dApp, dSetI, dNeg, dLst, dLstO, dTup, dO, dDrop, ev_abs, ev_inttoi, ev_inttob, ev_inttos, ev_strtoi, ev_listl, ev_listt, ev_lists, ev_tupl, ev_tupt, ev_addi, ev_adds, ev_addl, ev_addt, ev_muli, ev_muls, ev_mull, ev_max, ev_min, ev_all, ev_any, gRepr, dLRg, Pd.r1, Pd.r2, eqD_str, eqD_int, eqD_bl, dFld, dProp, dMeth, dAugI, dRev, dMake, dIsi, isT, isC, dNx, dBrk, dNev, dFst, gNm, gTp, gsCons, gsNil, dAsg, dStar, dYes, iniEnd, flatD, wipeE, ev_ixl, ev_ixt, ev_ixs, ev_ixr, ev_srcl, ev_srct, ev_srcs, ev_at0, ev_at1, ev_atl, ev_atn, ev_ixn, Option.some.injEq, exists_eq_left', exists_eq_left, List.foldl_cons, List.foldl_nil, List.map_cons, List.map_nil, List.replicate, List.length_append, List.length_map, List.length_cons, List.length_nil, List.cons_append, List.nil_append, List.append_nil, List.getElem?_cons_zero, List.getElem?_cons_succ, List.set_cons_zero, List.set_cons_succ, Nat.zero_add, Nat.reduceAdd, Nat.reduceSub, Nat.reduceLeDiff, true_and, and_true, decide_eq_true_eq, decide_eq_false_iff_not, ne_eq, reduceCtorEq, false_implies, true_implies, forall_const, Bool.and_self, Bool.and_true, Bool.true_and, lk_ends, lk_blocks, lk_text, lk_spot, lk_letter, Int.toNat_natCast, dFldO, dTmq, dMut, dSetQ, dParQ, qMake, D.still, D.stills, lf_past, lf_word, lf_letters, pf_past, pf_later, pm1, pm2, pm3, pm4, pi1, pi2, pi3, pi4, pi5, lm_state, lm_text, lm_search]
  refine ⟨_, atI_blks j1, ?_⟩
  simp only [blkD, envOf, dRet, dRetN, dOp, dSl, dSlO, dVar, dC, pSome, pNo, ev_sll, ev_slt, ev_sls, dBi, dCons, dNil, ev_lenl, ev_lent, ev_lens, ev_lenr, ev_gI, TC, Pd.gSub, gLt, gLe, gGt, gGe, gMod, gFdiv, gPow, gEq, gNe, ev_oki, ev_oks, ev_okl, ev_okt, gIs, gIsNot, gIsB, gIsNotB, Pd.isNon, dCall, dSeq, dSet, dSetO, dMul, setL, bCons, bOwn, bNil, dIf, dIte, dTB, dAnd, dOr, dNot, dBV, dAndV, dOrV, dChain, dTmp, dTmpT, frzE, dFrz, OD.d, dIxO, dApp, dSetI, dNeg, dLst, dLstO, dTup, dO, dDrop, ev_abs, ev_inttoi, ev_inttob, ev_inttos, ev_strtoi, ev_listl, ev_listt, ev_lists, ev_tupl, ev_tupt, ev_addi, ev_adds, ev_addl, ev_addt, ev_muli, ev_muls, ev_mull, ev_max, ev_min, ev_all, ev_any, gRepr, dLRg, Pd.r1, Pd.r2, eqD_str, eqD_int, eqD_bl, dFld, dProp, dMeth, dAugI, dRev, dMake, dIsi, isT, isC, dNx, dBrk, dNev, dFst, gNm, gTp, gsCons, gsNil, dAsg, dStar, dYes, iniEnd, flatD, wipeE, ev_ixl, ev_ixt, ev_ixs, ev_ixr, ev_srcl, ev_srct, ev_srcs, ev_at0, ev_at1, ev_atl, ev_atn, ev_ixn, Option.some.injEq, exists_eq_left', exists_eq_left, List.foldl_cons, List.foldl_nil, List.map_cons, List.map_nil, List.replicate, List.length_append, List.length_map, List.length_cons, List.length_nil, List.cons_append, List.nil_append, List.append_nil, List.getElem?_cons_zero, List.getElem?_cons_succ, List.set_cons_zero, List.set_cons_succ, Nat.zero_add, Nat.reduceAdd, Nat.reduceSub, Nat.reduceLeDiff, true_and, and_true, decide_eq_true_eq, decide_eq_false_iff_not, ne_eq, reduceCtorEq, false_implies, true_implies, forall_const, Bool.and_self, Bool.and_true, Bool.true_and, lk_ends, lk_blocks, lk_text, lk_spot, lk_letter, Int.toNat_natCast, dFldO, dTmq, dMut, dSetQ, dParQ, qMake, D.still, D.stills, lf_past, lf_word, lf_letters, pf_past, pf_later, pm1, pm2, pm3, pm4, pi1, pi2, pi3, pi4, pi5, lm_state, lm_text, lm_search]
  rw [expand_at (List.getElem?_eq_getElem j1) j2 j3] at ha
  rw [Option.some.inj ha]
  exact q
theorem fst_mem {bs : List Bl} (hp : ∀ b ∈ bs, 1 ≤ b.2) {b : Bl} (h : b ∈ bs) : b.1 ∈ expand bs := by
  obtain ⟨j, hj⟩ := List.getElem?_of_mem h
  have hjl := (List.getElem?_eq_some_iff.mp hj).1
  have := pos_lt hp (j := j) (k := j + 1) (by omega) (by omega)
  exact List.mem_of_getElem? (expand_at hj (Nat.le_refl _) this)
theorem mem_sgn {o : List Nat} {d : D} (h : d ∈ sgn o) : ∃ c, c ∈ o ∧ d = .str [c] := by
  obtain ⟨c, hc, rfl⟩ := List.mem_map.mp h
  exact ⟨c, hc, rfl⟩
end LW
namespace LW
open PySem L2 Pd
def mst (acc : List Bl) (y : Bl) : List Bl := match acc.reverse with
  | [] => [y]
  | d :: r => if d.1 = y.1 then r.reverse ++ [(y.1, d.2 + y.2)] else acc ++ [y]
theorem mst_nil (y : Bl) : mst [] y = [y] := rfl
theorem mst_snoc (as : List Bl) (d y : Bl) : mst (as ++ [d]) y = if d.1 = y.1 then as ++ [(y.1, d.2 + y.2)] else as ++ [d] ++ [y] := by
  unfold mst
  rw [List.reverse_append, List.reverse_singleton, List.singleton_append]
  simp only [List.reverse_reverse]
def mrg (xs : List Bl) : List Bl := xs.foldl mst []
theorem mrg_snoc (xs : List Bl) (y : Bl) : mrg (xs ++ [y]) = mst (mrg xs) y := by
  unfold mrg
  rw [List.foldl_append]
  rfl
structure Mrg (xs bs : List Bl) : Prop where
  good : Good bs
  exp : expand bs = expand xs
  len : bs.length ≤ xs.length
  mem : ∀ b ∈ bs, ∃ x ∈ xs, x.1 = b.1
theorem mst_ok {xs bs : List Bl} {y : Bl} (h : Mrg xs bs) (hy : 1 ≤ y.2) : Mrg (xs ++ [y]) (mst bs y) := by
  rcases List.eq_nil_or_concat bs with rfl | ⟨as, d, rfl⟩
  · rw [mst_nil]
    refine ⟨⟨trivial, fun b hb => by rw [List.mem_singleton.mp hb]; exact hy⟩, ?_, by simp, fun b hb => ⟨y, by simp, by rw [List.mem_singleton.mp hb]⟩⟩
    rw [expand_append, ← h.exp]
    rfl
  · rw [List.concat_eq_append] at *
    obtain ⟨g, e, l, m⟩ := h
    rw [mst_snoc]
    have m2 : ∀ b ∈ as ++ [d], ∃ x ∈ xs ++ [y], x.1 = b.1 := fun b hb => by
      obtain ⟨x, hx, hx2⟩ := m b hb
      exact ⟨x, List.mem_append_left _ hx, hx2⟩
    by_cases he : d.1 = y.1
    · rw [if_pos he]
      refine ⟨⟨Adj.last g.adj he, fun b hb => ?_⟩, ?_, by rw [List.length_append, List.length_singleton] at *; rw [List.length_append, List.length_singleton]; omega, fun b hb => ?_⟩
      · rcases List.mem_append.mp hb with z | z
        · exact g.pos b (List.mem_append_left _ z)
        · rw [List.mem_singleton.mp z]
          show 1 ≤ d.2 + y.2
          omega
      · rw [expand_append, expand_append, ← e, expand_append, List.append_assoc]
        congr 1
        simp only [expand, List.append_nil]
        rw [he, List.replicate_append_replicate]
      · rcases List.mem_append.mp hb with z | z
        · exact m2 b (List.mem_append_left _ z)
        · rw [List.mem_singleton.mp z]
          exact ⟨y, by simp, rfl⟩
    · rw [if_neg he]
      refine ⟨⟨Adj.snoc g.adj he, fun b hb => ?_⟩, ?_, by rw [List.length_append, List.length_append (as := xs)]; simp only [List.length_singleton]; omega, fun b hb => ?_⟩
      · rcases List.mem_append.mp hb with z | z
        · exact g.pos b z
        · rw [List.mem_singleton.mp z]
          exact hy
      · rw [expand_append, e, expand_append]
      · rcases List.mem_append.mp hb with z | z
        · exact m2 b z
        · rw [List.mem_singleton.mp z]
          exact ⟨y, by simp, rfl⟩
theorem mrg_ok : ∀ {xs : List Bl}, (∀ b ∈ xs, 1 ≤ b.2) → Mrg xs (mrg xs) := by
  have go : ∀ (r xs : List Bl) (bs : List Bl), Mrg xs bs → (∀ b ∈ r, 1 ≤ b.2) → Mrg (xs ++ r) (r.foldl mst bs) := by
    intro r
    induction r with
    | nil => intro xs bs h _; rw [List.append_nil]; exact h
    | cons y r ih =>
      intro xs bs h hr
      rw [List.append_cons, List.foldl_cons]
      exact ih _ _ (mst_ok h (hr y (by simp))) fun b hb => hr b (List.mem_cons_of_mem _ hb)
  intro xs h
  exact go xs [] [] ⟨⟨trivial, fun b hb => by cases hb⟩, rfl, Nat.le_refl _, fun b hb => by cases hb⟩ h
def s_merged : FD := fun ds n P => ∃ xs : List Bl, ds = [.lst (xs.map blkD)] ∧ xs.length ≤ 1000 ∧ (∀ b ∈ xs, 1 ≤ b.2 ∧ b.1 < 1114112) ∧ P n (.lst ((mrg xs).map blkD))
theorem l_merged (c : Str → Addr) : ∀ ds n Q, s_merged ds n Q → dFn 4 1 (b__law_merged c) ds n Q := by
  rintro ds n Q ⟨l, rfl, h0, h1, q⟩
  refine ⟨rfl, ?_⟩
  simp only [b__law_merged, dFor, iVal, envOf, dRet, dRetN, dOp, dSl, dSlO, dVar, dC, pSome, pNo, ev_sll, ev_slt, ev_sls, dBi, dCons, dNil, ev_lenl, ev_lent, ev_lens, ev_lenr, ev_gI, TC, Pd.gSub, gLt, gLe, gGt, gGe, gMod, gFdiv, gPow, gEq, gNe, ev_oki, ev_oks, ev_okl, ev_okt, gIs, gIsNot, gIsB, gIsNotB, Pd.isNon, dCall, dSeq, dSet, dSetO, dMul, setL, bCons, bOwn, bNil, dIf, dIte, dTB, dAnd, dOr, dNot, dBV, dAndV, dOrV, dChain, dTmp, dTmpT, frzE, dFrz, OD.d, dIxO, dApp, dSetI, dNeg, dLst, dLstO, dTup, dO, dDrop, ev_abs, ev_inttoi, ev_inttob, ev_inttos, ev_strtoi, ev_listl, ev_listt, ev_lists, ev_tupl, ev_tupt, ev_addi, ev_adds, ev_addl, ev_addt, ev_muli, ev_muls, ev_mull, ev_max, ev_min, ev_all, ev_any, gRepr, dLRg, Pd.r1, Pd.r2, eqD_str, eqD_int, eqD_bl, dFld, dProp, dMeth, dAugI, dRev, dMake, dIsi, isT, isC, dNx, dBrk, dNev, dFst, gNm, gTp, gsCons, gsNil, dAsg, dStar, dYes, iniEnd, flatD, wipeE, ev_ixl, ev_ixt, ev_ixs, ev_ixr, ev_srcl, ev_srct, ev_srcs, ev_at0, ev_at1, ev_atl, ev_atn, ev_ixn, Option.some.injEq, exists_eq_left', exists_eq_left, List.foldl_cons, List.foldl_nil, List.map_cons, List.map_nil, List.replicate, List.length_append, List.length_map, List.length_cons, List.length_nil, List.cons_append, List.nil_append, List.append_nil, List.getElem?_cons_zero, List.getElem?_cons_succ, List.set_cons_zero, List.set_cons_succ, Nat.zero_add, Nat.reduceAdd, Nat.reduceSub, Nat.reduceLeDiff, true_and, and_true, decide_eq_true_eq, decide_eq_false_iff_not, ne_eq, reduceCtorEq, false_implies, true_implies, forall_const, Bool.and_self, Bool.and_true, Bool.true_and, lk_ends, lk_blocks, lk_text, lk_spot, lk_letter, Int.toNat_natCast, dFldO, dTmq, dMut, dSetQ, dParQ, qMake, D.still, D.stills, lf_past, lf_word, lf_letters, pf_past, pf_later, pm1, pm2, pm3, pm4, pi1, pi2, pi3, pi4, pi5, lm_state, lm_text, lm_search]
  refine for_map blkD (fun p r n' ε => ∃ (s2 s3 : Sl), n' = n ∧ ε = [.val (.lst (l.map blkD)), .own (.lst ((mrg p).map blkD)), s2, s3]) l ⟨.no, .no, rfl, rfl⟩ ?_ ?_
  · rintro n' ε ⟨s2, s3, rfl, rfl⟩
    simp only [envOf, dRet, dRetN, dOp, dSl, dSlO, dVar, dC, pSome, pNo, ev_sll, ev_slt, ev_sls, dBi, dCons, dNil, ev_lenl, ev_lent, ev_lens, ev_lenr, ev_gI, TC, Pd.gSub, gLt, gLe, gGt, gGe, gMod, gFdiv, gPow, gEq, gNe, ev_oki, ev_oks, ev_okl, ev_okt, gIs, gIsNot, gIsB, gIsNotB, Pd.isNon, dCall, dSeq, dSet, dSetO, dMul, setL, bCons, bOwn, bNil, dIf, dIte, dTB, dAnd, dOr, dNot, dBV, dAndV, dOrV, dChain, dTmp, dTmpT, frzE, dFrz, OD.d, dIxO, dApp, dSetI, dNeg, dLst, dLstO, dTup, dO, dDrop, ev_abs, ev_inttoi, ev_inttob, ev_inttos, ev_strtoi, ev_listl, ev_listt, ev_lists, ev_tupl, ev_tupt, ev_addi, ev_adds, ev_addl, ev_addt, ev_muli, ev_muls, ev_mull, ev_max, ev_min, ev_all, ev_any, gRepr, dLRg, Pd.r1, Pd.r2, eqD_str, eqD_int, eqD_bl, dFld, dProp, dMeth, dAugI, dRev, dMake, dIsi, isT, isC, dNx, dBrk, dNev, dFst, gNm, gTp, gsCons, gsNil, dAsg, dStar, dYes, iniEnd, flatD, wipeE, ev_ixl, ev_ixt, ev_ixs, ev_ixr, ev_srcl, ev_srct, ev_srcs, ev_at0, ev_at1, ev_atl, ev_atn, ev_ixn, Option.some.injEq, exists_eq_left', exists_eq_left, List.foldl_cons, List.foldl_nil, List.map_cons, List.map_nil, List.replicate, List.length_append, List.length_map, List.length_cons, List.length_nil, List.cons_append, List.nil_append, List.append_nil, List.getElem?_cons_zero, List.getElem?_cons_succ, List.set_cons_zero, List.set_cons_succ, Nat.zero_add, Nat.reduceAdd, Nat.reduceSub, Nat.reduceLeDiff, true_and, and_true, decide_eq_true_eq, decide_eq_false_iff_not, ne_eq, reduceCtorEq, false_implies, true_implies, forall_const, Bool.and_self, Bool.and_true, Bool.true_and, lk_ends, lk_blocks, lk_text, lk_spot, lk_letter, Int.toNat_natCast, dFldO, dTmq, dMut, dSetQ, dParQ, qMake, D.still, D.stills, lf_past, lf_word, lf_letters, pf_past, pf_later, pm1, pm2, pm3, pm4, pi1, pi2, pi3, pi4, pi5, lm_state, lm_text, lm_search]
    exact q
  · rintro p y r n' ε nxt e1 ih ⟨s2, s3, rfl, rfl⟩
    obtain ⟨y1, y2⟩ := h1 y (by rw [e1]; simp)
    have hM := mrg_ok (xs := p) fun b hb => (h1 b (by rw [e1]; simp [hb])).1
    have hpl : p.length < 1000 := by
      have := congrArg List.length e1
      rw [List.length_append, List.length_cons] at this
      omega
    have hlt : ∀ b ∈ mrg p, b.1 < 1114112 := fun b hb => by
      obtain ⟨x, hx, e⟩ := hM.mem b hb
      rw [← e]
      exact (h1 x (by rw [e1]; simp [hx])).2
    have hl := hM.len
    have ih' := fun (bs' : List Bl) (h : mst (mrg p) y = bs') => ih n' [.val (.lst (l.map blkD)), .own (.lst (bs'.map blkD)), .val (.str [y.1]), .val (.int y.2)] ⟨_, _, rfl, by rw [mrg_snoc, h]⟩
    generalize mrg p = bs at hM hlt hl ih' ⊢
    rcases List.eq_nil_or_concat bs with rfl | ⟨as, d, rfl⟩
    · simp only [blkD, dExt, envOf, dRet, dRetN, dOp, dSl, dSlO, dVar, dC, pSome, pNo, ev_sll, ev_slt, ev_sls, dBi, dCons, dNil, ev_lenl, ev_lent, ev_lens, ev_lenr, ev_gI, TC, Pd.gSub, gLt, gLe, gGt, gGe, gMod, gFdiv, gPow, gEq, gNe, ev_oki, ev_oks, ev_okl, ev_okt, gIs, gIsNot, gIsB, gIsNotB, Pd.isNon, dCall, dSeq, dSet, dSetO, dMul, setL, bCons, bOwn, bNil, dIf, dIte, dTB, dAnd, dOr, dNot, dBV, dAndV, dOrV, dChain, dTmp, dTmpT, frzE, dFrz, OD.d, dIxO, dApp, dSetI, dNeg, dLst, dLstO, dTup, dO, dDrop, ev_abs, ev_inttoi, ev_inttob, ev_inttos, ev_strtoi, ev_listl, ev_listt, ev_lists, ev_tupl, ev_tupt, ev_addi, ev_adds, ev_addl, ev_addt, ev_muli, ev_muls, ev_mull, ev_max, ev_min, ev_all, ev_any, gRepr, dLRg, Pd.r1, Pd.r2, eqD_str, eqD_int, eqD_bl, dFld, dProp, dMeth, dAugI, dRev, dMake, dIsi, isT, isC, dNx, dBrk, dNev, dFst, gNm, gTp, gsCons, gsNil, dAsg, dStar, dYes, iniEnd, flatD, wipeE, ev_ixl, ev_ixt, ev_ixs, ev_ixr, ev_srcl, ev_srct, ev_srcs, ev_at0, ev_at1, ev_atl, ev_atn, ev_ixn, Option.some.injEq, exists_eq_left', exists_eq_left, List.foldl_cons, List.foldl_nil, List.map_cons, List.map_nil, List.replicate, List.length_append, List.length_map, List.length_cons, List.length_nil, List.cons_append, List.nil_append, List.append_nil, List.getElem?_cons_zero, List.getElem?_cons_succ, List.set_cons_zero, List.set_cons_succ, Nat.zero_add, Nat.reduceAdd, Nat.reduceSub, Nat.reduceLeDiff, true_and, and_true, decide_eq_true_eq, decide_eq_false_iff_not, ne_eq, reduceCtorEq, false_implies, true_implies, forall_const, Bool.and_self, Bool.and_true, Bool.true_and, lk_ends, lk_blocks, lk_text, lk_spot, lk_letter, Int.toNat_natCast, dFldO, dTmq, dMut, dSetQ, dParQ, qMake, D.still, D.stills, lf_past, lf_word, lf_letters, pf_past, pf_later, pm1, pm2, pm3, pm4, pi1, pi2, pi3, pi4, pi5, lm_state, lm_text, lm_search, okD_nil, eqD, eqDs, Bool.not_true]
      refine ⟨fun _ => ⟨fun _ => ih' [y] rfl, fun h => (h (by omega)).elim⟩, fun h => (h (by omega)).elim⟩
    · rw [List.concat_eq_append] at *
      rw [List.map_append, List.map_cons, List.map_nil] at *
      have hok : okD (.lst (as.map blkD ++ [blkD d])) = true := by
        have := okD_blks hlt
        rwa [List.map_append] at this
      have hal : as.length + 1 ≤ p.length := by simpa using hl
      simp only [envOf, dRet, dRetN, dOp, dSl, dSlO, dVar, dC, pSome, pNo, ev_sll, ev_slt, ev_sls, dBi, dCons, dNil, ev_lenl, ev_lent, ev_lens, ev_lenr, ev_gI, TC, Pd.gSub, gLt, gLe, gGt, gGe, gMod, gFdiv, gPow, gEq, gNe, ev_oki, ev_oks, ev_okl, ev_okt, gIs, gIsNot, gIsB, gIsNotB, Pd.isNon, dCall, dSeq, dSet, dSetO, dMul, setL, bCons, bOwn, bNil, dIf, dIte, dTB, dAnd, dOr, dNot, dBV, dAndV, dOrV, dChain, dTmp, dTmpT, frzE, dFrz, OD.d, dIxO, dApp, dSetI, dNeg, dLst, dLstO, dTup, dO, dDrop, ev_abs, ev_inttoi, ev_inttob, ev_inttos, ev_strtoi, ev_listl, ev_listt, ev_lists, ev_tupl, ev_tupt, ev_addi, ev_adds, ev_addl, ev_addt, ev_muli, ev_muls, ev_mull, ev_max, ev_min, ev_all, ev_any, gRepr, dLRg, Pd.r1, Pd.r2, eqD_str, eqD_int, eqD_bl, dFld, dProp, dMeth, dAugI, dRev, dMake, dIsi, isT, isC, dNx, dBrk, dNev, dFst, gNm, gTp, gsCons, gsNil, dAsg, dStar, dYes, iniEnd, flatD, wipeE, ev_ixl, ev_ixt, ev_ixs, ev_ixr, ev_srcl, ev_srct, ev_srcs, ev_at0, ev_at1, ev_atl, ev_atn, ev_ixn, Option.some.injEq, exists_eq_left', exists_eq_left, List.foldl_cons, List.foldl_nil, List.map_cons, List.map_nil, List.replicate, List.length_append, List.length_map, List.length_cons, List.length_nil, List.cons_append, List.nil_append, List.append_nil, List.getElem?_cons_zero, List.getElem?_cons_succ, List.set_cons_zero, List.set_cons_succ, Nat.zero_add, Nat.reduceAdd, Nat.reduceSub, Nat.reduceLeDiff, true_and, and_true, decide_eq_true_eq, decide_eq_false_iff_not, ne_eq, reduceCtorEq, false_implies, true_implies, forall_const, Bool.and_self, Bool.and_true, Bool.true_and, lk_ends, lk_blocks, lk_text, lk_spot, lk_letter, Int.toNat_natCast, dFldO, dTmq, dMut, dSetQ, dParQ, qMake, D.still, D.stills, lf_past, lf_word, lf_letters, pf_past, pf_later, pm1, pm2, pm3, pm4, pi1, pi2, pi3, pi4, pi5, lm_state, lm_text, lm_search, okD_nil, hok, eqD_snoc, Bool.not_false]
      simp only [blkD, dExt, envOf, dRet, dRetN, dOp, dSl, dSlO, dVar, dC, pSome, pNo, ev_sll, ev_slt, ev_sls, dBi, dCons, dNil, ev_lenl, ev_lent, ev_lens, ev_lenr, ev_gI, TC, Pd.gSub, gLt, gLe, gGt, gGe, gMod, gFdiv, gPow, gEq, gNe, ev_oki, ev_oks, ev_okl, ev_okt, gIs, gIsNot, gIsB, gIsNotB, Pd.isNon, dCall, dSeq, dSet, dSetO, dMul, setL, bCons, bOwn, bNil, dIf, dIte, dTB, dAnd, dOr, dNot, dBV, dAndV, dOrV, dChain, dTmp, dTmpT, frzE, dFrz, OD.d, dIxO, dApp, dSetI, dNeg, dLst, dLstO, dTup, dO, dDrop, ev_abs, ev_inttoi, ev_inttob, ev_inttos, ev_strtoi, ev_listl, ev_listt, ev_lists, ev_tupl, ev_tupt, ev_addi, ev_adds, ev_addl, ev_addt, ev_muli, ev_muls, ev_mull, ev_max, ev_min, ev_all, ev_any, gRepr, dLRg, Pd.r1, Pd.r2, eqD_str, eqD_int, eqD_bl, dFld, dProp, dMeth, dAugI, dRev, dMake, dIsi, isT, isC, dNx, dBrk, dNev, dFst, gNm, gTp, gsCons, gsNil, dAsg, dStar, dYes, iniEnd, flatD, wipeE, ev_ixl, ev_ixt, ev_ixs, ev_ixr, ev_srcl, ev_srct, ev_srcs, ev_at0, ev_at1, ev_atl, ev_atn, ev_ixn, Option.some.injEq, exists_eq_left', exists_eq_left, List.foldl_cons, List.foldl_nil, List.map_cons, List.map_nil, List.replicate, List.length_append, List.length_map, List.length_cons, List.length_nil, List.cons_append, List.nil_append, List.append_nil, List.getElem?_cons_zero, List.getElem?_cons_succ, List.set_cons_zero, List.set_cons_succ, Nat.zero_add, Nat.reduceAdd, Nat.reduceSub, Nat.reduceLeDiff, true_and, and_true, decide_eq_true_eq, decide_eq_false_iff_not, ne_eq, reduceCtorEq, false_implies, true_implies, forall_const, Bool.and_self, Bool.and_true, Bool.true_and, lk_ends, lk_blocks, lk_text, lk_spot, lk_letter, Int.toNat_natCast, dFldO, dTmq, dMut, dSetQ, dParQ, qMake, D.still, D.stills, lf_past, lf_word, lf_letters, pf_past, pf_later, pm1, pm2, pm3, pm4, pi1, pi2, pi3, pi4, pi5, lm_state, lm_text, lm_search, List.cons.injEq]
      refine ⟨fun _ => ⟨fun he => ?_, fun he => ?_⟩, fun h => (h (by omega)).elim⟩
      · have e2 : ((as.map blkD ++ [D.tup [.str [d.1], .int (d.2 : Nat)]]).set as.length (.tup [.str [y.1], .int ((d.2 : Int) + (y.2 : Int))])) = (as ++ [(y.1, d.2 + y.2)]).map blkD := by
          rw [show as.length = (as.map blkD).length by rw [List.length_map], set_last, List.map_append]
          rfl
        have e3 : (List.map (fun b : Bl => D.tup [.str [b.1], .int (b.2 : Nat)]) as ++ [D.tup [.str [d.1], .int (d.2 : Nat)]]) = as.map blkD ++ [D.tup [.str [d.1], .int (d.2 : Nat)]] := rfl
        first | rw [e3, e2] | rw [e2]
        exact ih' _ (by rw [mst_snoc, if_pos he])
      · refine ⟨fun _ => ⟨by omega, ?_⟩, fun h => (h (by omega)).elim⟩
        have e3 : (List.map blkD as ++ [D.tup [.str [d.1], .int (d.2 : Nat)], D.tup [.str [y.1], .int (y.2 : Nat)]]) = (as ++ [d] ++ [y]).map blkD := by
          rw [List.map_append, List.map_append]
          simp [blkD]
        simp only [List.append_assoc, List.cons_append, List.nil_append]
        have e4 : (List.map (fun b : Bl => D.tup [.str [b.1], .int (b.2 : Nat)]) as ++ [D.tup [.str [d.1], .int (d.2 : Nat)], D.tup [.str [y.1], .int (y.2 : Nat)]]) = List.map blkD as ++ [D.tup [.str [d.1], .int (d.2 : Nat)], D.tup [.str [y.1], .int (y.2 : Nat)]] := rfl
        first | rw [e4, e3] | rw [e3]
        exact ih' _ (by rw [mst_snoc, if_neg he])
def s_heads : FD := fun ds n P => ∃ bs : List Bl, ds = [.lst (bs.map blkD)] ∧ bs ≠ [] ∧ bs.length ≤ 1000 ∧ P n (.lst ((sts 0 bs).map intD))
theorem sts_snoc : ∀ (k : Nat) (p : List Bl) (b : Bl), sts k (p ++ [b]) = sts k p ++ [tot k p]
  | k, [], b => rfl
  | k, a :: p, b => by
    rw [List.cons_append, sts, sts_snoc (k + a.2) p b]
    rfl
theorem tot_snoc : ∀ (k : Nat) (p : List Bl) (b : Bl), tot k (p ++ [b]) = tot k p + b.2
  | k, [], b => rfl
  | k, a :: p, b => by
    rw [List.cons_append, tot, tot_snoc (k + a.2) p b]
    rfl
theorem l_heads (c : Str → Addr) : ∀ ds n Q, s_heads ds n Q → dFn 4 1 (b__law_heads_of c) ds n Q := by
  rintro ds n Q ⟨bs, rfl, hne, hl, q⟩
  refine ⟨rfl, ?_⟩
  obtain ⟨l, z, rfl⟩ : ∃ l z, bs = l ++ [z] := ⟨bs.dropLast, bs.getLast hne, (List.dropLast_concat_getLast hne).symm⟩
  rw [List.length_append, List.length_singleton] at hl
  simp only [b__law_heads_of, dFor, iVal, envOf, dRet, dRetN, dOp, dSl, dSlO, dVar, dC, pSome, pNo, ev_sll, ev_slt, ev_sls, dBi, dCons, dNil, ev_lenl, ev_lent, ev_lens, ev_lenr, ev_gI, TC, Pd.gSub, gLt, gLe, gGt, gGe, gMod, gFdiv, gPow, gEq, gNe, ev_oki, ev_oks, ev_okl, ev_okt, gIs, gIsNot, gIsB, gIsNotB, Pd.isNon, dCall, dSeq, dSet, dSetO, dMul, setL, bCons, bOwn, bNil, dIf, dIte, dTB, dAnd, dOr, dNot, dBV, dAndV, dOrV, dChain, dTmp, dTmpT, frzE, dFrz, OD.d, dIxO, dApp, dSetI, dNeg, dLst, dLstO, dTup, dO, dDrop, ev_abs, ev_inttoi, ev_inttob, ev_inttos, ev_strtoi, ev_listl, ev_listt, ev_lists, ev_tupl, ev_tupt, ev_addi, ev_adds, ev_addl, ev_addt, ev_muli, ev_muls, ev_mull, ev_max, ev_min, ev_all, ev_any, gRepr, dLRg, Pd.r1, Pd.r2, eqD_str, eqD_int, eqD_bl, dFld, dProp, dMeth, dAugI, dRev, dMake, dIsi, isT, isC, dNx, dBrk, dNev, dFst, gNm, gTp, gsCons, gsNil, dAsg, dStar, dYes, iniEnd, flatD, wipeE, ev_ixl, ev_ixt, ev_ixs, ev_ixr, ev_srcl, ev_srct, ev_srcs, ev_at0, ev_at1, ev_atl, ev_atn, ev_ixn, Option.some.injEq, exists_eq_left', exists_eq_left, List.foldl_cons, List.foldl_nil, List.map_cons, List.map_nil, List.replicate, List.length_append, List.length_map, List.length_cons, List.length_nil, List.cons_append, List.nil_append, List.append_nil, List.getElem?_cons_zero, List.getElem?_cons_succ, List.set_cons_zero, List.set_cons_succ, Nat.zero_add, Nat.reduceAdd, Nat.reduceSub, Nat.reduceLeDiff, true_and, and_true, decide_eq_true_eq, decide_eq_false_iff_not, ne_eq, reduceCtorEq, false_implies, true_implies, forall_const, Bool.and_self, Bool.and_true, Bool.true_and, lk_ends, lk_blocks, lk_text, lk_spot, lk_letter, Int.toNat_natCast, dFldO, dTmq, dMut, dSetQ, dParQ, qMake, D.still, D.stills, lf_past, lf_word, lf_letters, pf_past, pf_later, pm1, pm2, pm3, pm4, pi1, pi2, pi3, pi4, pi5, lm_state, lm_text, lm_search]
  rw [cut_last, List.map_append, List.map_cons, List.map_nil, List.dropLast_concat]
  refine for_map blkD (fun p r n' ε => ∃ (s2 s3 : Sl), n' = n ∧ ε = [.val (.lst (l.map blkD ++ [blkD z])), .own (.lst ((sts 0 p ++ [tot 0 p]).map intD)), s2, s3]) l ⟨.no, .no, rfl, rfl⟩ ?_ ?_
  · rintro n' ε ⟨s2, s3, rfl, rfl⟩
    simp only [envOf, dRet, dRetN, dOp, dSl, dSlO, dVar, dC, pSome, pNo, ev_sll, ev_slt, ev_sls, dBi, dCons, dNil, ev_lenl, ev_lent, ev_lens, ev_lenr, ev_gI, TC, Pd.gSub, gLt, gLe, gGt, gGe, gMod, gFdiv, gPow, gEq, gNe, ev_oki, ev_oks, ev_okl, ev_okt, gIs, gIsNot, gIsB, gIsNotB, Pd.isNon, dCall, dSeq, dSet, dSetO, dMul, setL, bCons, bOwn, bNil, dIf, dIte, dTB, dAnd, dOr, dNot, dBV, dAndV, dOrV, dChain, dTmp, dTmpT, frzE, dFrz, OD.d, dIxO, dApp, dSetI, dNeg, dLst, dLstO, dTup, dO, dDrop, ev_abs, ev_inttoi, ev_inttob, ev_inttos, ev_strtoi, ev_listl, ev_listt, ev_lists, ev_tupl, ev_tupt, ev_addi, ev_adds, ev_addl, ev_addt, ev_muli, ev_muls, ev_mull, ev_max, ev_min, ev_all, ev_any, gRepr, dLRg, Pd.r1, Pd.r2, eqD_str, eqD_int, eqD_bl, dFld, dProp, dMeth, dAugI, dRev, dMake, dIsi, isT, isC, dNx, dBrk, dNev, dFst, gNm, gTp, gsCons, gsNil, dAsg, dStar, dYes, iniEnd, flatD, wipeE, ev_ixl, ev_ixt, ev_ixs, ev_ixr, ev_srcl, ev_srct, ev_srcs, ev_at0, ev_at1, ev_atl, ev_atn, ev_ixn, Option.some.injEq, exists_eq_left', exists_eq_left, List.foldl_cons, List.foldl_nil, List.map_cons, List.map_nil, List.replicate, List.length_append, List.length_map, List.length_cons, List.length_nil, List.cons_append, List.nil_append, List.append_nil, List.getElem?_cons_zero, List.getElem?_cons_succ, List.set_cons_zero, List.set_cons_succ, Nat.zero_add, Nat.reduceAdd, Nat.reduceSub, Nat.reduceLeDiff, true_and, and_true, decide_eq_true_eq, decide_eq_false_iff_not, ne_eq, reduceCtorEq, false_implies, true_implies, forall_const, Bool.and_self, Bool.and_true, Bool.true_and, lk_ends, lk_blocks, lk_text, lk_spot, lk_letter, Int.toNat_natCast, dFldO, dTmq, dMut, dSetQ, dParQ, qMake, D.still, D.stills, lf_past, lf_word, lf_letters, pf_past, pf_later, pm1, pm2, pm3, pm4, pi1, pi2, pi3, pi4, pi5, lm_state, lm_text, lm_search]
    rw [sts_snoc] at q
    exact q
  · rintro p y r n' ε nxt e1 ih ⟨s2, s3, rfl, rfl⟩
    have hpl : p.length < 1000 := by
      have := congrArg List.length e1
      rw [List.length_append, List.length_cons] at this
      omega
    have hsl := sts_len p 0
    have go := ih n' [.val (.lst (l.map blkD ++ [blkD z])), .own (.lst ((sts 0 (p ++ [y]) ++ [tot 0 (p ++ [y])]).map intD)), .val (.str [y.1]), .val (.int y.2)] ⟨_, _, rfl, rfl⟩
    generalize blkD z = bz at go ⊢
    simp only [blkD, envOf, dRet, dRetN, dOp, dSl, dSlO, dVar, dC, pSome, pNo, ev_sll, ev_slt, ev_sls, dBi, dCons, dNil, ev_lenl, ev_lent, ev_lens, ev_lenr, ev_gI, TC, Pd.gSub, gLt, gLe, gGt, gGe, gMod, gFdiv, gPow, gEq, gNe, ev_oki, ev_oks, ev_okl, ev_okt, gIs, gIsNot, gIsB, gIsNotB, Pd.isNon, dCall, dSeq, dSet, dSetO, dMul, setL, bCons, bOwn, bNil, dIf, dIte, dTB, dAnd, dOr, dNot, dBV, dAndV, dOrV, dChain, dTmp, dTmpT, frzE, dFrz, OD.d, dIxO, dApp, dSetI, dNeg, dLst, dLstO, dTup, dO, dDrop, ev_abs, ev_inttoi, ev_inttob, ev_inttos, ev_strtoi, ev_listl, ev_listt, ev_lists, ev_tupl, ev_tupt, ev_addi, ev_adds, ev_addl, ev_addt, ev_muli, ev_muls, ev_mull, ev_max, ev_min, ev_all, ev_any, gRepr, dLRg, Pd.r1, Pd.r2, eqD_str, eqD_int, eqD_bl, dFld, dProp, dMeth, dAugI, dRev, dMake, dIsi, isT, isC, dNx, dBrk, dNev, dFst, gNm, gTp, gsCons, gsNil, dAsg, dStar, dYes, iniEnd, flatD, wipeE, ev_ixl, ev_ixt, ev_ixs, ev_ixr, ev_srcl, ev_srct, ev_srcs, ev_at0, ev_at1, ev_atl, ev_atn, ev_ixn, Option.some.injEq, exists_eq_left', exists_eq_left, List.foldl_cons, List.foldl_nil, List.map_cons, List.map_nil, List.replicate, List.length_append, List.length_map, List.length_cons, List.length_nil, List.cons_append, List.nil_append, List.append_nil, List.getElem?_cons_zero, List.getElem?_cons_succ, List.set_cons_zero, List.set_cons_succ, Nat.zero_add, Nat.reduceAdd, Nat.reduceSub, Nat.reduceLeDiff, true_and, and_true, decide_eq_true_eq, decide_eq_false_iff_not, ne_eq, reduceCtorEq, false_implies, true_implies, forall_const, Bool.and_self, Bool.and_true, Bool.true_and, lk_ends, lk_blocks, lk_text, lk_spot, lk_letter, Int.toNat_natCast, dFldO, dTmq, dMut, dSetQ, dParQ, qMake, D.still, D.stills, lf_past, lf_word, lf_letters, pf_past, pf_later, pm1, pm2, pm3, pm4, pi1, pi2, pi3, pi4, pi5, lm_state, lm_text, lm_search]
    rw [List.map_append, List.map_cons, List.map_nil]
    refine ⟨_, L2.atI_last _ _, ?_⟩
    rw [sts_snoc, tot_snoc, List.map_append, List.map_append, List.map_cons, List.map_nil, List.map_cons, List.map_nil] at go
    simp only [intD, envOf, dRet, dRetN, dOp, dSl, dSlO, dVar, dC, pSome, pNo, ev_sll, ev_slt, ev_sls, dBi, dCons, dNil, ev_lenl, ev_lent, ev_lens, ev_lenr, ev_gI, TC, Pd.gSub, gLt, gLe, gGt, gGe, gMod, gFdiv, gPow, gEq, gNe, ev_oki, ev_oks, ev_okl, ev_okt, gIs, gIsNot, gIsB, gIsNotB, Pd.isNon, dCall, dSeq, dSet, dSetO, dMul, setL, bCons, bOwn, bNil, dIf, dIte, dTB, dAnd, dOr, dNot, dBV, dAndV, dOrV, dChain, dTmp, dTmpT, frzE, dFrz, OD.d, dIxO, dApp, dSetI, dNeg, dLst, dLstO, dTup, dO, dDrop, ev_abs, ev_inttoi, ev_inttob, ev_inttos, ev_strtoi, ev_listl, ev_listt, ev_lists, ev_tupl, ev_tupt, ev_addi, ev_adds, ev_addl, ev_addt, ev_muli, ev_muls, ev_mull, ev_max, ev_min, ev_all, ev_any, gRepr, dLRg, Pd.r1, Pd.r2, eqD_str, eqD_int, eqD_bl, dFld, dProp, dMeth, dAugI, dRev, dMake, dIsi, isT, isC, dNx, dBrk, dNev, dFst, gNm, gTp, gsCons, gsNil, dAsg, dStar, dYes, iniEnd, flatD, wipeE, ev_ixl, ev_ixt, ev_ixs, ev_ixr, ev_srcl, ev_srct, ev_srcs, ev_at0, ev_at1, ev_atl, ev_atn, ev_ixn, Option.some.injEq, exists_eq_left', exists_eq_left, List.foldl_cons, List.foldl_nil, List.map_cons, List.map_nil, List.replicate, List.length_append, List.length_map, List.length_cons, List.length_nil, List.cons_append, List.nil_append, List.append_nil, List.getElem?_cons_zero, List.getElem?_cons_succ, List.set_cons_zero, List.set_cons_succ, Nat.zero_add, Nat.reduceAdd, Nat.reduceSub, Nat.reduceLeDiff, true_and, and_true, decide_eq_true_eq, decide_eq_false_iff_not, ne_eq, reduceCtorEq, false_implies, true_implies, forall_const, Bool.and_self, Bool.and_true, Bool.true_and, lk_ends, lk_blocks, lk_text, lk_spot, lk_letter, Int.toNat_natCast, dFldO, dTmq, dMut, dSetQ, dParQ, qMake, D.still, D.stills, lf_past, lf_word, lf_letters, pf_past, pf_later, pm1, pm2, pm3, pm4, pi1, pi2, pi3, pi4, pi5, lm_state, lm_text, lm_search] at go ⊢
    rw [show ((tot 0 p : Nat) : Int) + (y.2 : Int) = ((tot 0 p + y.2 : Nat) : Int) by omega]
    exact ⟨by omega, go⟩
def partR (f l : Nat) : Nat → List Bl → List Bl
  | _, [] => []
  | k, b :: r => if 0 < min (k + b.2) l - max k f then (b.1, min (k + b.2) l - max k f) :: partR f l (k + b.2) r else partR f l (k + b.2) r
theorem part_end {f l : Nat} : ∀ (k : Nat) (bs : List Bl), l ≤ k → partR f l k bs = []
  | _, [], _ => rfl
  | k, b :: r, h => by
    rw [partR, if_neg (by omega), part_end (k + b.2) r (by omega)]
theorem part_ok {f l : Nat} : ∀ (k : Nat) (bs : List Bl), Good bs → Good (partR f l k bs) ∧ (partR f l k bs).length ≤ bs.length ∧ (∀ b ∈ partR f l k bs, ∃ x ∈ bs, x.1 = b.1 ∧ b.2 ≤ x.2)
  | _, [], g => ⟨g, Nat.le_refl _, fun b hb => by cases hb⟩
  | k, b :: r, g => by
    have gr : Good r := ⟨by
      have := g.adj
      cases r with
      | nil => trivial
      | cons x r => exact this.2, fun x hx => g.pos x (List.mem_cons_of_mem _ hx)⟩
    obtain ⟨h1, h2, h3⟩ := part_ok (f := f) (l := l) (k + b.2) r gr
    rw [partR]
    split
    · rename_i hn
      refine ⟨⟨?_, fun x hx => ?_⟩, by rw [List.length_cons, List.length_cons]; omega, fun x hx => ?_⟩
      · cases r with
        | nil => exact trivial
        | cons x r =>
          rcases Nat.lt_or_ge (k + b.2) l with z | z
          · have hx := g.pos x (by simp)
            have e : partR f l (k + b.2) (x :: r) = (x.1, min (k + b.2 + x.2) l - max (k + b.2) f) :: partR f l (k + b.2 + x.2) r := by
              rw [partR, if_pos (by omega)]
            rw [e] at h1 ⊢
            exact ⟨g.adj.1, h1.adj⟩
          · rw [part_end _ _ z]
            trivial
      · rcases List.mem_cons.mp hx with rfl | hx
        · exact hn
        · exact h1.pos x hx
      · rcases List.mem_cons.mp hx with rfl | hx
        · exact ⟨b, by simp, rfl, by show min (k + b.2) l - max k f ≤ b.2; omega⟩
        · obtain ⟨y, hy, e⟩ := h3 x hx
          exact ⟨y, List.mem_cons_of_mem _ hy, e⟩
    · refine ⟨h1, by rw [List.length_cons]; omega, fun x hx => ?_⟩
      obtain ⟨y, hy, e⟩ := h3 x hx
      exact ⟨y, List.mem_cons_of_mem _ hy, e⟩
theorem part_ne {f l : Nat} (hfl : f < l) : ∀ (k : Nat) (bs : List Bl), k ≤ f → f < tot k bs → partR f l k bs ≠ []
  | k, [], h, h2 => by
    unfold tot at h2
    omega
  | k, b :: r, h, h2 => by
    rw [partR]
    rcases Nat.lt_or_ge f (k + b.2) with z | z
    · rw [if_pos (by omega)]
      simp
    · split
      · simp
      · exact part_ne hfl (k + b.2) r z h2
def zl : Nat → List Bl → List (Bl × Nat)
  | _, [] => []
  | k, b :: r => (b, k) :: zl (k + b.2) r
theorem zl_len : ∀ (k : Nat) (bs : List Bl), (zl k bs).length = bs.length
  | _, [] => rfl
  | k, b :: r => by rw [zl, List.length_cons, List.length_cons, zl_len]
theorem zip_zl : ∀ (k : Nat) (bs : List Bl), zipD (bs.map blkD) ((sts k bs).map intD) = (zl k bs).map fun p => D.tup [blkD p.1, intD p.2]
  | _, [] => rfl
  | k, b :: r => by
    rw [sts, zl, List.map_cons, List.map_cons, List.map_cons, ← zip_zl (k + b.2) r]
    rfl
def rowI (f l : Nat) (p : Bl × Nat) : D := .tup [.str [p.1.1], .int (((min (p.2 + p.1.2) l : Nat) : Int) - ((max p.2 f : Nat) : Int))]
def isPos (d : D) : Bool := match d with
  | .tup [_, .int i] => decide (0 < i)
  | _ => false
theorem rows_part (f l : Nat) : ∀ (k : Nat) (bs : List Bl), ((zl k bs).map (rowI f l)).filter isPos = (partR f l k bs).map blkD
  | _, [] => rfl
  | k, b :: r => by
    rw [zl, partR, List.map_cons, List.filter_cons, rows_part f l (k + b.2) r]
    have e : isPos (rowI f l (b, k)) = decide (0 < min (k + b.2) l - max k f) := by
      unfold isPos rowI
      rw [decide_eq_decide]
      dsimp only
      omega
    rw [e]
    by_cases h : 0 < min (k + b.2) l - max k f
    · rw [decide_eq_true h, if_pos rfl, if_pos h, List.map_cons]
      congr 1
      unfold rowI blkD
      dsimp only
      rw [show ((min (k + b.2) l : Nat) : Int) - ((max k f : Nat) : Int) = ((min (k + b.2) l - max k f : Nat) : Int) by omega]
    · rw [decide_eq_false h, if_neg h]
      rfl
def s_part : FD := fun ds n P => ∃ (bs : List Bl) (f l : Nat), ds = [.lst (bs.map blkD), .int f, .int l] ∧ bs ≠ [] ∧ bs.length ≤ 1000 ∧ P n (.lst ((partR f l 0 bs).map blkD))
theorem l_part (c : Str → Addr) : ∀ ds n Q, s_part ds n Q → dFn 8 3 (b__law_blocks_part c s_heads) ds n Q := by
  rintro ds n Q ⟨bs, f, l, rfl, hne, hl, q⟩
  refine ⟨rfl, ?_⟩
  simp only [b__law_blocks_part, dFor, dLZp, iVal, envOf, dRet, dRetN, dOp, dSl, dSlO, dVar, dC, pSome, pNo, ev_sll, ev_slt, ev_sls, dBi, dCons, dNil, ev_lenl, ev_lent, ev_lens, ev_lenr, ev_gI, TC, Pd.gSub, gLt, gLe, gGt, gGe, gMod, gFdiv, gPow, gEq, gNe, ev_oki, ev_oks, ev_okl, ev_okt, gIs, gIsNot, gIsB, gIsNotB, Pd.isNon, dCall, dSeq, dSet, dSetO, dMul, setL, bCons, bOwn, bNil, dIf, dIte, dTB, dAnd, dOr, dNot, dBV, dAndV, dOrV, dChain, dTmp, dTmpT, frzE, dFrz, OD.d, dIxO, dApp, dSetI, dNeg, dLst, dLstO, dTup, dO, dDrop, ev_abs, ev_inttoi, ev_inttob, ev_inttos, ev_strtoi, ev_listl, ev_listt, ev_lists, ev_tupl, ev_tupt, ev_addi, ev_adds, ev_addl, ev_addt, ev_muli, ev_muls, ev_mull, ev_max, ev_min, ev_all, ev_any, gRepr, dLRg, Pd.r1, Pd.r2, eqD_str, eqD_int, eqD_bl, dFld, dProp, dMeth, dAugI, dRev, dMake, dIsi, isT, isC, dNx, dBrk, dNev, dFst, gNm, gTp, gsCons, gsNil, dAsg, dStar, dYes, iniEnd, flatD, wipeE, ev_ixl, ev_ixt, ev_ixs, ev_ixr, ev_srcl, ev_srct, ev_srcs, ev_at0, ev_at1, ev_atl, ev_atn, ev_ixn, Option.some.injEq, exists_eq_left', exists_eq_left, List.foldl_cons, List.foldl_nil, List.map_cons, List.map_nil, List.replicate, List.length_append, List.length_map, List.length_cons, List.length_nil, List.cons_append, List.nil_append, List.append_nil, List.getElem?_cons_zero, List.getElem?_cons_succ, List.set_cons_zero, List.set_cons_succ, Nat.zero_add, Nat.reduceAdd, Nat.reduceSub, Nat.reduceLeDiff, true_and, and_true, decide_eq_true_eq, decide_eq_false_iff_not, ne_eq, reduceCtorEq, false_implies, true_implies, forall_const, Bool.and_self, Bool.and_true, Bool.true_and, lk_ends, lk_blocks, lk_text, lk_spot, lk_letter, Int.toNat_natCast, dFldO, dTmq, dMut, dSetQ, dParQ, qMake, D.still, D.stills, lf_past, lf_word, lf_letters, pf_past, pf_later, pm1, pm2, pm3, pm4, pi1, pi2, pi3, pi4, pi5, lm_state, lm_text, lm_search]
  refine ⟨bs, rfl, hne, hl, _, _, rfl, rfl, ?_⟩
  rw [zip_zl]
  have hzl := zl_len 0 bs
  refine ⟨by rw [List.length_map]; omega, ?_⟩
  refine for_map (fun p => D.tup [blkD p.1, intD p.2]) (fun a r n' ε => ∃ (s4 s5 s6 : Sl), n' = n ∧ ε = [.val (.lst (bs.map blkD)), .val (.int f), .val (.int l), .own (.lst (a.map (rowI f l))), s4, s5, s6, .no]) (zl 0 bs) ⟨.no, .no, .no, rfl, rfl⟩ ?_ ?_
  · rintro n' ε ⟨s4, s5, s6, rfl, rfl⟩
    simp only [dFrz, dComp, iVal, envOf, dRet, dRetN, dOp, dSl, dSlO, dVar, dC, pSome, pNo, ev_sll, ev_slt, ev_sls, dBi, dCons, dNil, ev_lenl, ev_lent, ev_lens, ev_lenr, ev_gI, TC, Pd.gSub, gLt, gLe, gGt, gGe, gMod, gFdiv, gPow, gEq, gNe, ev_oki, ev_oks, ev_okl, ev_okt, gIs, gIsNot, gIsB, gIsNotB, Pd.isNon, dCall, dSeq, dSet, dSetO, dMul, setL, bCons, bOwn, bNil, dIf, dIte, dTB, dAnd, dOr, dNot, dBV, dAndV, dOrV, dChain, dTmp, dTmpT, frzE, dFrz, OD.d, dIxO, dApp, dSetI, dNeg, dLst, dLstO, dTup, dO, dDrop, ev_abs, ev_inttoi, ev_inttob, ev_inttos, ev_strtoi, ev_listl, ev_listt, ev_lists, ev_tupl, ev_tupt, ev_addi, ev_adds, ev_addl, ev_addt, ev_muli, ev_muls, ev_mull, ev_max, ev_min, ev_all, ev_any, gRepr, dLRg, Pd.r1, Pd.r2, eqD_str, eqD_int, eqD_bl, dFld, dProp, dMeth, dAugI, dRev, dMake, dIsi, isT, isC, dNx, dBrk, dNev, dFst, gNm, gTp, gsCons, gsNil, dAsg, dStar, dYes, iniEnd, flatD, wipeE, ev_ixl, ev_ixt, ev_ixs, ev_ixr, ev_srcl, ev_srct, ev_srcs, ev_at0, ev_at1, ev_atl, ev_atn, ev_ixn, Option.some.injEq, exists_eq_left', exists_eq_left, List.foldl_cons, List.foldl_nil, List.map_cons, List.map_nil, List.replicate, List.length_append, List.length_map, List.length_cons, List.length_nil, List.cons_append, List.nil_append, List.append_nil, List.getElem?_cons_zero, List.getElem?_cons_succ, List.set_cons_zero, List.set_cons_succ, Nat.zero_add, Nat.reduceAdd, Nat.reduceSub, Nat.reduceLeDiff, true_and, and_true, decide_eq_true_eq, decide_eq_false_iff_not, ne_eq, reduceCtorEq, false_implies, true_implies, forall_const, Bool.and_self, Bool.and_true, Bool.true_and, lk_ends, lk_blocks, lk_text, lk_spot, lk_letter, Int.toNat_natCast, dFldO, dTmq, dMut, dSetQ, dParQ, qMake, D.still, D.stills, lf_past, lf_word, lf_letters, pf_past, pf_later, pm1, pm2, pm3, pm4, pi1, pi2, pi3, pi4, pi5, lm_state, lm_text, lm_search]
    refine ⟨by omega, ?_⟩
    refine compW_pure isPos id _ _ _ (fun x hx m K K' q1 q2 => ?_) ?_
    · obtain ⟨p, hp, rfl⟩ := List.mem_map.mp hx
      simp only [isPos, rowI, envOf, dRet, dRetN, dOp, dSl, dSlO, dVar, dC, pSome, pNo, ev_sll, ev_slt, ev_sls, dBi, dCons, dNil, ev_lenl, ev_lent, ev_lens, ev_lenr, ev_gI, TC, Pd.gSub, gLt, gLe, gGt, gGe, gMod, gFdiv, gPow, gEq, gNe, ev_oki, ev_oks, ev_okl, ev_okt, gIs, gIsNot, gIsB, gIsNotB, Pd.isNon, dCall, dSeq, dSet, dSetO, dMul, setL, bCons, bOwn, bNil, dIf, dIte, dTB, dAnd, dOr, dNot, dBV, dAndV, dOrV, dChain, dTmp, dTmpT, frzE, dFrz, OD.d, dIxO, dApp, dSetI, dNeg, dLst, dLstO, dTup, dO, dDrop, ev_abs, ev_inttoi, ev_inttob, ev_inttos, ev_strtoi, ev_listl, ev_listt, ev_lists, ev_tupl, ev_tupt, ev_addi, ev_adds, ev_addl, ev_addt, ev_muli, ev_muls, ev_mull, ev_max, ev_min, ev_all, ev_any, gRepr, dLRg, Pd.r1, Pd.r2, eqD_str, eqD_int, eqD_bl, dFld, dProp, dMeth, dAugI, dRev, dMake, dIsi, isT, isC, dNx, dBrk, dNev, dFst, gNm, gTp, gsCons, gsNil, dAsg, dStar, dYes, iniEnd, flatD, wipeE, ev_ixl, ev_ixt, ev_ixs, ev_ixr, ev_srcl, ev_srct, ev_srcs, ev_at0, ev_at1, ev_atl, ev_atn, ev_ixn, Option.some.injEq, exists_eq_left', exists_eq_left, List.foldl_cons, List.foldl_nil, List.map_cons, List.map_nil, List.replicate, List.length_append, List.length_map, List.length_cons, List.length_nil, List.cons_append, List.nil_append, List.append_nil, List.getElem?_cons_zero, List.getElem?_cons_succ, List.set_cons_zero, List.set_cons_succ, Nat.zero_add, Nat.reduceAdd, Nat.reduceSub, Nat.reduceLeDiff, true_and, and_true, decide_eq_true_eq, decide_eq_false_iff_not, ne_eq, reduceCtorEq, false_implies, true_implies, forall_const, Bool.and_self, Bool.and_true, Bool.true_and, lk_ends, lk_blocks, lk_text, lk_spot, lk_letter, Int.toNat_natCast, dFldO, dTmq, dMut, dSetQ, dParQ, qMake, D.still, D.stills, lf_past, lf_word, lf_letters, pf_past, pf_later, pm1, pm2, pm3, pm4, pi1, pi2, pi3, pi4, pi5, lm_state, lm_text, lm_search, decide_eq_true_eq, decide_eq_false_iff_not] at q1 q2 ⊢
      exact ⟨q1, q2⟩
    · rw [List.nil_append, List.map_id, rows_part]
      exact q
  · rintro a p r n' ε nxt e1 ih ⟨s4, s5, s6, rfl, rfl⟩
    have hal : a.length < 1000 := by
      have := congrArg List.length e1
      rw [hzl, List.length_append, List.length_cons] at this
      omega
    have go := ih n' [.val (.lst (bs.map blkD)), .val (.int f), .val (.int l), .own (.lst ((a ++ [p]).map (rowI f l))), .val (.str [p.1.1]), .val (.int p.1.2), .val (.int p.2), .no] ⟨_, _, _, rfl, rfl⟩
    rw [List.map_append, List.map_cons, List.map_nil] at go
    generalize List.map blkD bs = B at go ⊢
    generalize hA : List.map (rowI f l) a = A at go ⊢
    have hA2 : A.length = a.length := by rw [← hA, List.length_map]
    simp only [blkD, intD, rowI, envOf, dRet, dRetN, dOp, dSl, dSlO, dVar, dC, pSome, pNo, ev_sll, ev_slt, ev_sls, dBi, dCons, dNil, ev_lenl, ev_lent, ev_lens, ev_lenr, ev_gI, TC, Pd.gSub, gLt, gLe, gGt, gGe, gMod, gFdiv, gPow, gEq, gNe, ev_oki, ev_oks, ev_okl, ev_okt, gIs, gIsNot, gIsB, gIsNotB, Pd.isNon, dCall, dSeq, dSet, dSetO, dMul, setL, bCons, bOwn, bNil, dIf, dIte, dTB, dAnd, dOr, dNot, dBV, dAndV, dOrV, dChain, dTmp, dTmpT, frzE, dFrz, OD.d, dIxO, dApp, dSetI, dNeg, dLst, dLstO, dTup, dO, dDrop, ev_abs, ev_inttoi, ev_inttob, ev_inttos, ev_strtoi, ev_listl, ev_listt, ev_lists, ev_tupl, ev_tupt, ev_addi, ev_adds, ev_addl, ev_addt, ev_muli, ev_muls, ev_mull, ev_max, ev_min, ev_all, ev_any, gRepr, dLRg, Pd.r1, Pd.r2, eqD_str, eqD_int, eqD_bl, dFld, dProp, dMeth, dAugI, dRev, dMake, dIsi, isT, isC, dNx, dBrk, dNev, dFst, gNm, gTp, gsCons, gsNil, dAsg, dStar, dYes, iniEnd, flatD, wipeE, ev_ixl, ev_ixt, ev_ixs, ev_ixr, ev_srcl, ev_srct, ev_srcs, ev_at0, ev_at1, ev_atl, ev_atn, ev_ixn, Option.some.injEq, exists_eq_left', exists_eq_left, List.foldl_cons, List.foldl_nil, List.map_cons, List.map_nil, List.replicate, List.length_append, List.length_map, List.length_cons, List.length_nil, List.cons_append, List.nil_append, List.append_nil, List.getElem?_cons_zero, List.getElem?_cons_succ, List.set_cons_zero, List.set_cons_succ, Nat.zero_add, Nat.reduceAdd, Nat.reduceSub, Nat.reduceLeDiff, true_and, and_true, decide_eq_true_eq, decide_eq_false_iff_not, ne_eq, reduceCtorEq, false_implies, true_implies, forall_const, Bool.and_self, Bool.and_true, Bool.true_and, lk_ends, lk_blocks, lk_text, lk_spot, lk_letter, Int.toNat_natCast, dFldO, dTmq, dMut, dSetQ, dParQ, qMake, D.still, D.stills, lf_past, lf_word, lf_letters, pf_past, pf_later, pm1, pm2, pm3, pm4, pi1, pi2, pi3, pi4, pi5, lm_state, lm_text, lm_search] at go ⊢
    rw [show (if (l : Int) < (p.2 : Int) + (p.1.2 : Int) then (l : Int) else (p.2 : Int) + (p.1.2 : Int)) = ((min (p.2 + p.1.2) l : Nat) : Int) by split <;> omega]
    rw [show (if (f : Int) > (p.2 : Int) then (f : Int) else (p.2 : Int)) = ((max p.2 f : Nat) : Int) by split <;> omega]
    exact ⟨by omega, go⟩
def s_sumOf : FD := fun ds n P => ∃ bs : List Bl, ds = [.lst (bs.map blkD)] ∧ bs.length ≤ 1000 ∧ P n (.int (size bs : Nat))
theorem l_sumOf (c : Str → Addr) : ∀ ds n Q, s_sumOf ds n Q → dFn 3 1 (b__law_sum_of c) ds n Q := by
  rintro ds n Q ⟨bs, rfl, hl, q⟩
  refine ⟨rfl, ?_⟩
  simp only [b__law_sum_of, dComp, iVal, envOf, dRet, dRetN, dOp, dSl, dSlO, dVar, dC, pSome, pNo, ev_sll, ev_slt, ev_sls, dBi, dCons, dNil, ev_lenl, ev_lent, ev_lens, ev_lenr, ev_gI, TC, Pd.gSub, gLt, gLe, gGt, gGe, gMod, gFdiv, gPow, gEq, gNe, ev_oki, ev_oks, ev_okl, ev_okt, gIs, gIsNot, gIsB, gIsNotB, Pd.isNon, dCall, dSeq, dSet, dSetO, dMul, setL, bCons, bOwn, bNil, dIf, dIte, dTB, dAnd, dOr, dNot, dBV, dAndV, dOrV, dChain, dTmp, dTmpT, frzE, dFrz, OD.d, dIxO, dApp, dSetI, dNeg, dLst, dLstO, dTup, dO, dDrop, ev_abs, ev_inttoi, ev_inttob, ev_inttos, ev_strtoi, ev_listl, ev_listt, ev_lists, ev_tupl, ev_tupt, ev_addi, ev_adds, ev_addl, ev_addt, ev_muli, ev_muls, ev_mull, ev_max, ev_min, ev_all, ev_any, gRepr, dLRg, Pd.r1, Pd.r2, eqD_str, eqD_int, eqD_bl, dFld, dProp, dMeth, dAugI, dRev, dMake, dIsi, isT, isC, dNx, dBrk, dNev, dFst, gNm, gTp, gsCons, gsNil, dAsg, dStar, dYes, iniEnd, flatD, wipeE, ev_ixl, ev_ixt, ev_ixs, ev_ixr, ev_srcl, ev_srct, ev_srcs, ev_at0, ev_at1, ev_atl, ev_atn, ev_ixn, Option.some.injEq, exists_eq_left', exists_eq_left, List.foldl_cons, List.foldl_nil, List.map_cons, List.map_nil, List.replicate, List.length_append, List.length_map, List.length_cons, List.length_nil, List.cons_append, List.nil_append, List.append_nil, List.getElem?_cons_zero, List.getElem?_cons_succ, List.set_cons_zero, List.set_cons_succ, Nat.zero_add, Nat.reduceAdd, Nat.reduceSub, Nat.reduceLeDiff, true_and, and_true, decide_eq_true_eq, decide_eq_false_iff_not, ne_eq, reduceCtorEq, false_implies, true_implies, forall_const, Bool.and_self, Bool.and_true, Bool.true_and, lk_ends, lk_blocks, lk_text, lk_spot, lk_letter, Int.toNat_natCast, dFldO, dTmq, dMut, dSetQ, dParQ, qMake, D.still, D.stills, lf_past, lf_word, lf_letters, pf_past, pf_later, pm1, pm2, pm3, pm4, pi1, pi2, pi3, pi4, pi5, lm_state, lm_text, lm_search]
  refine ⟨by omega, ?_⟩
  refine compW_map blkD (fun b => intD b.2) bs _ _ (fun b hb m K K' hK => ?_) ?_
  · simp only [blkD, envOf, dRet, dRetN, dOp, dSl, dSlO, dVar, dC, pSome, pNo, ev_sll, ev_slt, ev_sls, dBi, dCons, dNil, ev_lenl, ev_lent, ev_lens, ev_lenr, ev_gI, TC, Pd.gSub, gLt, gLe, gGt, gGe, gMod, gFdiv, gPow, gEq, gNe, ev_oki, ev_oks, ev_okl, ev_okt, gIs, gIsNot, gIsB, gIsNotB, Pd.isNon, dCall, dSeq, dSet, dSetO, dMul, setL, bCons, bOwn, bNil, dIf, dIte, dTB, dAnd, dOr, dNot, dBV, dAndV, dOrV, dChain, dTmp, dTmpT, frzE, dFrz, OD.d, dIxO, dApp, dSetI, dNeg, dLst, dLstO, dTup, dO, dDrop, ev_abs, ev_inttoi, ev_inttob, ev_inttos, ev_strtoi, ev_listl, ev_listt, ev_lists, ev_tupl, ev_tupt, ev_addi, ev_adds, ev_addl, ev_addt, ev_muli, ev_muls, ev_mull, ev_max, ev_min, ev_all, ev_any, gRepr, dLRg, Pd.r1, Pd.r2, eqD_str, eqD_int, eqD_bl, dFld, dProp, dMeth, dAugI, dRev, dMake, dIsi, isT, isC, dNx, dBrk, dNev, dFst, gNm, gTp, gsCons, gsNil, dAsg, dStar, dYes, iniEnd, flatD, wipeE, ev_ixl, ev_ixt, ev_ixs, ev_ixr, ev_srcl, ev_srct, ev_srcs, ev_at0, ev_at1, ev_atl, ev_atn, ev_ixn, Option.some.injEq, exists_eq_left', exists_eq_left, List.foldl_cons, List.foldl_nil, List.map_cons, List.map_nil, List.replicate, List.length_append, List.length_map, List.length_cons, List.length_nil, List.cons_append, List.nil_append, List.append_nil, List.getElem?_cons_zero, List.getElem?_cons_succ, List.set_cons_zero, List.set_cons_succ, Nat.zero_add, Nat.reduceAdd, Nat.reduceSub, Nat.reduceLeDiff, true_and, and_true, decide_eq_true_eq, decide_eq_false_iff_not, ne_eq, reduceCtorEq, false_implies, true_implies, forall_const, Bool.and_self, Bool.and_true, Bool.true_and, lk_ends, lk_blocks, lk_text, lk_spot, lk_letter, Int.toNat_natCast, dFldO, dTmq, dMut, dSetQ, dParQ, qMake, D.still, D.stills, lf_past, lf_word, lf_letters, pf_past, pf_later, pm1, pm2, pm3, pm4, pi1, pi2, pi3, pi4, pi5, lm_state, lm_text, lm_search]
    exact hK
  · rw [List.nil_append]
    refine ⟨_, by rw [show (bs.map fun b => intD b.2) = (bs.map (·.2)).map intD by rw [List.map_map]; rfl]; exact isInts_nat _, ?_⟩
    rw [sum_nat]
    have := pos_all bs
    unfold pos at this
    rw [List.take_length] at this
    rw [this]
    exact q
def G0 : Nat := 600000000000000000000000000000
theorem mulG {i j : Int} (h : i.natAbs < 2 ^ 200) (h2 : j.natAbs < 2 ^ 200) : CMulW i j := by
  unfold CMulW
  have b : ∀ x : Nat, x < 2 ^ 200 → x.log2 < 200 := fun x hx => by
    by_cases h0 : x = 0
    · subst h0
      decide
    · exact (Nat.log2_lt h0).mpr hx
  have := b _ h
  have := b _ h2
  omega
def okNext (bs : List Bl) (a : Nat) : Bool := match bs.reverse with
  | [] => true
  | d :: _ => decide (a ≠ d.1)
theorem okNext_adj {bs : List Bl} {y : Bl} (g : Good bs) (hy : 1 ≤ y.2) (h : okNext bs y.1 = true) : Good (bs ++ [y]) := by
  rcases List.eq_nil_or_concat bs with rfl | ⟨as, d, rfl⟩
  · exact ⟨trivial, fun b hb => by rw [List.mem_singleton.mp hb]; exact hy⟩
  · rw [List.concat_eq_append] at *
    unfold okNext at h
    rw [List.reverse_append, List.reverse_singleton, List.singleton_append] at h
    have h : y.1 ≠ d.1 := of_decide_eq_true h
    refine ⟨Adj.snoc g.adj fun e => h e.symm, fun b hb => ?_⟩
    rcases List.mem_append.mp hb with z | z
    · exact g.pos b z
    · rw [List.mem_singleton.mp z]
      exact hy
theorem okNext_ex {bs : List Bl} {pool : List Nat} (h : ∀ d : Nat, ∃ a ∈ pool, a ≠ d) : ∃ a ∈ pool, okNext bs a = true := by
  unfold okNext
  cases bs.reverse with
  | nil =>
    obtain ⟨a, ha, _⟩ := h 0
    exact ⟨a, ha, rfl⟩
  | cons d r =>
    obtain ⟨a, ha, hd⟩ := h d.1
    exact ⟨a, ha, decide_eq_true hd⟩
def isNext (bs : List Bl) (d : D) : Bool := match d with
  | .str [a] => okNext bs a
  | _ => false
def s_great (c : Str → Addr) : FD := fun ds n P => ∃ (lo hi : Nat), ds = [.pot, .int lo, .int hi] ∧ 1 ≤ lo ∧ lo ≤ hi ∧ hi ≤ 40 ∧ 1000 ≤ n ∧ ∀ n' bs, n' ≤ n → n ≤ n' + 100 → Good bs → (∀ b ∈ bs, b.2 ≤ G0 ∧ b.1 ∈ letters) → lo ≤ bs.length → bs.length ≤ hi → P n' (.lst (bs.map blkD))
theorem l_great (c : Str → Addr) : ∀ ds n Q, s_great c ds n Q → dFn 10 3 (b__law_great_blocks c takeF s_of) ds n Q := by
  rintro ds n Q ⟨lo, hi, rfl, h1, h2, h3, h0, q⟩
  refine ⟨rfl, ?_⟩
  simp only [b__law_great_blocks, takeF, envOf, dRet, dRetN, dOp, dSl, dSlO, dVar, dC, pSome, pNo, ev_sll, ev_slt, ev_sls, dBi, dCons, dNil, ev_lenl, ev_lent, ev_lens, ev_lenr, ev_gI, TC, Pd.gSub, gLt, gLe, gGt, gGe, gMod, gFdiv, gPow, gEq, gNe, ev_oki, ev_oks, ev_okl, ev_okt, gIs, gIsNot, gIsB, gIsNotB, Pd.isNon, dCall, dSeq, dSet, dSetO, dMul, setL, bCons, bOwn, bNil, dIf, dIte, dTB, dAnd, dOr, dNot, dBV, dAndV, dOrV, dChain, dTmp, dTmpT, frzE, dFrz, OD.d, dIxO, dApp, dSetI, dNeg, dLst, dLstO, dTup, dO, dDrop, ev_abs, ev_inttoi, ev_inttob, ev_inttos, ev_strtoi, ev_listl, ev_listt, ev_lists, ev_tupl, ev_tupt, ev_addi, ev_adds, ev_addl, ev_addt, ev_muli, ev_muls, ev_mull, ev_max, ev_min, ev_all, ev_any, gRepr, dLRg, Pd.r1, Pd.r2, eqD_str, eqD_int, eqD_bl, dFld, dProp, dMeth, dAugI, dRev, dMake, dIsi, isT, isC, dNx, dBrk, dNev, dFst, gNm, gTp, gsCons, gsNil, dAsg, dStar, dYes, iniEnd, flatD, wipeE, ev_ixl, ev_ixt, ev_ixs, ev_ixr, ev_srcl, ev_srct, ev_srcs, ev_at0, ev_at1, ev_atl, ev_atn, ev_ixn, Option.some.injEq, exists_eq_left', exists_eq_left, List.foldl_cons, List.foldl_nil, List.map_cons, List.map_nil, List.replicate, List.length_append, List.length_map, List.length_cons, List.length_nil, List.cons_append, List.nil_append, List.append_nil, List.getElem?_cons_zero, List.getElem?_cons_succ, List.set_cons_zero, List.set_cons_succ, Nat.zero_add, Nat.reduceAdd, Nat.reduceSub, Nat.reduceLeDiff, true_and, and_true, decide_eq_true_eq, decide_eq_false_iff_not, ne_eq, reduceCtorEq, false_implies, true_implies, forall_const, Bool.and_self, Bool.and_true, Bool.true_and, lk_ends, lk_blocks, lk_text, lk_spot, lk_letter, Int.toNat_natCast, dFldO, dTmq, dMut, dSetQ, dParQ, qMake, D.still, D.stills, lf_past, lf_word, lf_letters, pf_past, pf_later, pm1, pm2, pm3, pm4, pi1, pi2, pi3, pi4, pi5, lm_state, lm_text, lm_search]
  refine ⟨(hi - lo + 1 : Nat), by rw [show ((hi : Int) - (lo : Int) + 1) = ((hi - lo + 1 : Nat) : Int) by omega], by omega, by omega, n - 1, by omega, fun r r0 r1 => ?_⟩
  obtain ⟨k, rfl⟩ : ∃ d : Nat, r = d := ⟨r.toNat, by omega⟩
  refine ⟨⟨by decide, by decide, by decide +kernel⟩, ⟨by decide, by decide, by decide +kernel⟩, ⟨by decide, by decide, by decide +kernel⟩, mulG (by decide) (by decide +kernel), ?_⟩
  refine ⟨_, _, n - 2, rfl, rfl, (fun l e => by cases e), by decide, by decide, by omega, fun x hx => ?_⟩
  obtain ⟨gr, rfl, hg1, hg2⟩ : ∃ gr : Nat, x = .int gr ∧ 1 ≤ gr ∧ 2 * gr ≤ G0 := by
    simp only [srcD, List.mem_cons, List.mem_nil_iff, or_false] at hx
    rcases hx with rfl | rfl | rfl | rfl | rfl
    · exact ⟨1, rfl, by decide, by decide⟩
    · exact ⟨7, rfl, by decide, by decide⟩
    · exact ⟨1000000000, rfl, by decide, by decide⟩
    · exact ⟨100000000000000000000000000000, congrArg D.int (by decide +kernel), by decide, by decide⟩
    · exact ⟨300000000000000000000000000000, congrArg D.int (by decide +kernel), by decide, by decide⟩
  refine ⟨_, _, n - 3, rfl, rfl, (fun l e => by cases e), by decide, by decide, by omega, fun x hx => ?_⟩
  obtain ⟨pool, rfl, hp1, hp2, hp3⟩ : ∃ pool : List Nat, x = .str pool ∧ pool.length ≤ 5 ∧ AL pool ∧ (∀ d : Nat, ∃ a ∈ pool, a ≠ d) := by
    simp only [srcD, List.mem_cons, List.mem_nil_iff, or_false] at hx
    have hh : ∀ (p : List Nat), 97 ∈ p → 98 ∈ p → ∀ d : Nat, ∃ a ∈ p, a ≠ d := fun p h1 h2 d => by
      by_cases e : d = 97
      · exact ⟨98, h2, by omega⟩
      · exact ⟨97, h1, fun z => e z.symm⟩
    rcases hx with rfl | rfl | rfl
    · exact ⟨[97, 98, 99], rfl, by decide, (by decide : ∀ c ∈ _, c ∈ letters), hh _ (by decide) (by decide)⟩
    · exact ⟨[97, 98, 99], rfl, by decide, (by decide : ∀ c ∈ _, c ∈ letters), hh _ (by decide) (by decide)⟩
    · exact ⟨[97, 98, 99, 120, 121], rfl, by decide, (by decide : ∀ c ∈ _, c ∈ letters), hh _ (by decide) (by decide)⟩
  simp only [dFor, iRg1, envOf, dRet, dRetN, dOp, dSl, dSlO, dVar, dC, pSome, pNo, ev_sll, ev_slt, ev_sls, dBi, dCons, dNil, ev_lenl, ev_lent, ev_lens, ev_lenr, ev_gI, TC, Pd.gSub, gLt, gLe, gGt, gGe, gMod, gFdiv, gPow, gEq, gNe, ev_oki, ev_oks, ev_okl, ev_okt, gIs, gIsNot, gIsB, gIsNotB, Pd.isNon, dCall, dSeq, dSet, dSetO, dMul, setL, bCons, bOwn, bNil, dIf, dIte, dTB, dAnd, dOr, dNot, dBV, dAndV, dOrV, dChain, dTmp, dTmpT, frzE, dFrz, OD.d, dIxO, dApp, dSetI, dNeg, dLst, dLstO, dTup, dO, dDrop, ev_abs, ev_inttoi, ev_inttob, ev_inttos, ev_strtoi, ev_listl, ev_listt, ev_lists, ev_tupl, ev_tupt, ev_addi, ev_adds, ev_addl, ev_addt, ev_muli, ev_muls, ev_mull, ev_max, ev_min, ev_all, ev_any, gRepr, dLRg, Pd.r1, Pd.r2, eqD_str, eqD_int, eqD_bl, dFld, dProp, dMeth, dAugI, dRev, dMake, dIsi, isT, isC, dNx, dBrk, dNev, dFst, gNm, gTp, gsCons, gsNil, dAsg, dStar, dYes, iniEnd, flatD, wipeE, ev_ixl, ev_ixt, ev_ixs, ev_ixr, ev_srcl, ev_srct, ev_srcs, ev_at0, ev_at1, ev_atl, ev_atn, ev_ixn, Option.some.injEq, exists_eq_left', exists_eq_left, List.foldl_cons, List.foldl_nil, List.map_cons, List.map_nil, List.replicate, List.length_append, List.length_map, List.length_cons, List.length_nil, List.cons_append, List.nil_append, List.append_nil, List.getElem?_cons_zero, List.getElem?_cons_succ, List.set_cons_zero, List.set_cons_succ, Nat.zero_add, Nat.reduceAdd, Nat.reduceSub, Nat.reduceLeDiff, true_and, and_true, decide_eq_true_eq, decide_eq_false_iff_not, ne_eq, reduceCtorEq, false_implies, true_implies, forall_const, Bool.and_self, Bool.and_true, Bool.true_and, lk_ends, lk_blocks, lk_text, lk_spot, lk_letter, Int.toNat_natCast, dFldO, dTmq, dMut, dSetQ, dParQ, qMake, D.still, D.stills, lf_past, lf_word, lf_letters, pf_past, pf_later, pm1, pm2, pm3, pm4, pi1, pi2, pi3, pi4, pi5, lm_state, lm_text, lm_search]
  refine ⟨by omega, by omega, ?_⟩
  rw [show ((lo : Int) + (k : Int)) = ((lo + k : Nat) : Int) by omega, rngD0]
  refine for_map intD (fun a r n' ε => ∃ (bs : List Bl) (s7 s8 : Sl), ε = [.val .pot, .val (.int lo), .val (.int hi), .val (.int (lo + k : Nat)), .own (.lst (bs.map blkD)), .val (.int gr), .val (.str pool), s7, s8, .no] ∧ bs.length = a.length ∧ n' ≤ n - 3 ∧ n - 3 ≤ n' + 2 * a.length ∧ Good bs ∧ ∀ b ∈ bs, b.2 ≤ G0 ∧ b.1 ∈ letters) (List.range (lo + k)) ⟨[], .no, .no, rfl, rfl, by omega, by omega, ⟨trivial, fun b hb => by cases hb⟩, fun b hb => by cases hb⟩ ?_ ?_
  · rintro n' ε ⟨bs, s7, s8, rfl, g1, g2, g3, g4, g5⟩
    rw [List.length_range] at g1 g3
    simp only [dFrz, envOf, dRet, dRetN, dOp, dSl, dSlO, dVar, dC, pSome, pNo, ev_sll, ev_slt, ev_sls, dBi, dCons, dNil, ev_lenl, ev_lent, ev_lens, ev_lenr, ev_gI, TC, Pd.gSub, gLt, gLe, gGt, gGe, gMod, gFdiv, gPow, gEq, gNe, ev_oki, ev_oks, ev_okl, ev_okt, gIs, gIsNot, gIsB, gIsNotB, Pd.isNon, dCall, dSeq, dSet, dSetO, dMul, setL, bCons, bOwn, bNil, dIf, dIte, dTB, dAnd, dOr, dNot, dBV, dAndV, dOrV, dChain, dTmp, dTmpT, frzE, dFrz, OD.d, dIxO, dApp, dSetI, dNeg, dLst, dLstO, dTup, dO, dDrop, ev_abs, ev_inttoi, ev_inttob, ev_inttos, ev_strtoi, ev_listl, ev_listt, ev_lists, ev_tupl, ev_tupt, ev_addi, ev_adds, ev_addl, ev_addt, ev_muli, ev_muls, ev_mull, ev_max, ev_min, ev_all, ev_any, gRepr, dLRg, Pd.r1, Pd.r2, eqD_str, eqD_int, eqD_bl, dFld, dProp, dMeth, dAugI, dRev, dMake, dIsi, isT, isC, dNx, dBrk, dNev, dFst, gNm, gTp, gsCons, gsNil, dAsg, dStar, dYes, iniEnd, flatD, wipeE, ev_ixl, ev_ixt, ev_ixs, ev_ixr, ev_srcl, ev_srct, ev_srcs, ev_at0, ev_at1, ev_atl, ev_atn, ev_ixn, Option.some.injEq, exists_eq_left', exists_eq_left, List.foldl_cons, List.foldl_nil, List.map_cons, List.map_nil, List.replicate, List.length_append, List.length_map, List.length_cons, List.length_nil, List.cons_append, List.nil_append, List.append_nil, List.getElem?_cons_zero, List.getElem?_cons_succ, List.set_cons_zero, List.set_cons_succ, Nat.zero_add, Nat.reduceAdd, Nat.reduceSub, Nat.reduceLeDiff, true_and, and_true, decide_eq_true_eq, decide_eq_false_iff_not, ne_eq, reduceCtorEq, false_implies, true_implies, forall_const, Bool.and_self, Bool.and_true, Bool.true_and, lk_ends, lk_blocks, lk_text, lk_spot, lk_letter, Int.toNat_natCast, dFldO, dTmq, dMut, dSetQ, dParQ, qMake, D.still, D.stills, lf_past, lf_word, lf_letters, pf_past, pf_later, pm1, pm2, pm3, pm4, pi1, pi2, pi3, pi4, pi5, lm_state, lm_text, lm_search]
    exact q n' bs (by omega) (by omega) g4 g5 (by omega) (by omega)
  · rintro a x r n' ε nxt e1 ih ⟨bs, s7, s8, rfl, g1, g2, g3, g4, g5⟩
    have hal : a.length < lo + k := by
      have := congrArg List.length e1
      rw [List.length_range, List.length_append, List.length_cons] at this
      omega
    simp only [intD, dComp, iVal, envOf, dRet, dRetN, dOp, dSl, dSlO, dVar, dC, pSome, pNo, ev_sll, ev_slt, ev_sls, dBi, dCons, dNil, ev_lenl, ev_lent, ev_lens, ev_lenr, ev_gI, TC, Pd.gSub, gLt, gLe, gGt, gGe, gMod, gFdiv, gPow, gEq, gNe, ev_oki, ev_oks, ev_okl, ev_okt, gIs, gIsNot, gIsB, gIsNotB, Pd.isNon, dCall, dSeq, dSet, dSetO, dMul, setL, bCons, bOwn, bNil, dIf, dIte, dTB, dAnd, dOr, dNot, dBV, dAndV, dOrV, dChain, dTmp, dTmpT, frzE, dFrz, OD.d, dIxO, dApp, dSetI, dNeg, dLst, dLstO, dTup, dO, dDrop, ev_abs, ev_inttoi, ev_inttob, ev_inttos, ev_strtoi, ev_listl, ev_listt, ev_lists, ev_tupl, ev_tupt, ev_addi, ev_adds, ev_addl, ev_addt, ev_muli, ev_muls, ev_mull, ev_max, ev_min, ev_all, ev_any, gRepr, dLRg, Pd.r1, Pd.r2, eqD_str, eqD_int, eqD_bl, dFld, dProp, dMeth, dAugI, dRev, dMake, dIsi, isT, isC, dNx, dBrk, dNev, dFst, gNm, gTp, gsCons, gsNil, dAsg, dStar, dYes, iniEnd, flatD, wipeE, ev_ixl, ev_ixt, ev_ixs, ev_ixr, ev_srcl, ev_srct, ev_srcs, ev_at0, ev_at1, ev_atl, ev_atn, ev_ixn, Option.some.injEq, exists_eq_left', exists_eq_left, List.foldl_cons, List.foldl_nil, List.map_cons, List.map_nil, List.replicate, List.length_append, List.length_map, List.length_cons, List.length_nil, List.cons_append, List.nil_append, List.append_nil, List.getElem?_cons_zero, List.getElem?_cons_succ, List.set_cons_zero, List.set_cons_succ, Nat.zero_add, Nat.reduceAdd, Nat.reduceSub, Nat.reduceLeDiff, true_and, and_true, decide_eq_true_eq, decide_eq_false_iff_not, ne_eq, reduceCtorEq, false_implies, true_implies, forall_const, Bool.and_self, Bool.and_true, Bool.true_and, lk_ends, lk_blocks, lk_text, lk_spot, lk_letter, Int.toNat_natCast, dFldO, dTmq, dMut, dSetQ, dParQ, qMake, D.still, D.stills, lf_past, lf_word, lf_letters, pf_past, pf_later, pm1, pm2, pm3, pm4, pi1, pi2, pi3, pi4, pi5, lm_state, lm_text, lm_search]
    refine ⟨by rw [sgn_length]; omega, ?_⟩
    have hlt : ∀ b ∈ bs, b.1 < 1114112 := fun b hb => (by decide : ∀ c ∈ letters, c < 1114112) _ (g5 b hb).2
    refine compW_pure (isNext bs) id _ _ _ (fun y hy m K K' q1 q2 => ?_) ?_
    · obtain ⟨c0, hc0, rfl⟩ := mem_sgn hy
      have e0 : isNext bs (.str [c0]) = okNext bs c0 := rfl
      rw [e0] at q1 q2
      rcases List.eq_nil_or_concat bs with rfl | ⟨as, d, rfl⟩
      · have hnn : eqD (.lst []) (.lst []) = true := rfl
        simp only [envOf, dRet, dRetN, dOp, dSl, dSlO, dVar, dC, pSome, pNo, ev_sll, ev_slt, ev_sls, dBi, dCons, dNil, ev_lenl, ev_lent, ev_lens, ev_lenr, ev_gI, TC, Pd.gSub, gLt, gLe, gGt, gGe, gMod, gFdiv, gPow, gEq, gNe, ev_oki, ev_oks, ev_okl, ev_okt, gIs, gIsNot, gIsB, gIsNotB, Pd.isNon, dCall, dSeq, dSet, dSetO, dMul, setL, bCons, bOwn, bNil, dIf, dIte, dTB, dAnd, dOr, dNot, dBV, dAndV, dOrV, dChain, dTmp, dTmpT, frzE, dFrz, OD.d, dIxO, dApp, dSetI, dNeg, dLst, dLstO, dTup, dO, dDrop, ev_abs, ev_inttoi, ev_inttob, ev_inttos, ev_strtoi, ev_listl, ev_listt, ev_lists, ev_tupl, ev_tupt, ev_addi, ev_adds, ev_addl, ev_addt, ev_muli, ev_muls, ev_mull, ev_max, ev_min, ev_all, ev_any, gRepr, dLRg, Pd.r1, Pd.r2, eqD_str, eqD_int, eqD_bl, dFld, dProp, dMeth, dAugI, dRev, dMake, dIsi, isT, isC, dNx, dBrk, dNev, dFst, gNm, gTp, gsCons, gsNil, dAsg, dStar, dYes, iniEnd, flatD, wipeE, ev_ixl, ev_ixt, ev_ixs, ev_ixr, ev_srcl, ev_srct, ev_srcs, ev_at0, ev_at1, ev_atl, ev_atn, ev_ixn, Option.some.injEq, exists_eq_left', exists_eq_left, List.foldl_cons, List.foldl_nil, List.map_cons, List.map_nil, List.replicate, List.length_append, List.length_map, List.length_cons, List.length_nil, List.cons_append, List.nil_append, List.append_nil, List.getElem?_cons_zero, List.getElem?_cons_succ, List.set_cons_zero, List.set_cons_succ, Nat.zero_add, Nat.reduceAdd, Nat.reduceSub, Nat.reduceLeDiff, true_and, and_true, decide_eq_true_eq, decide_eq_false_iff_not, ne_eq, reduceCtorEq, false_implies, true_implies, forall_const, Bool.and_self, Bool.and_true, Bool.true_and, lk_ends, lk_blocks, lk_text, lk_spot, lk_letter, Int.toNat_natCast, dFldO, dTmq, dMut, dSetQ, dParQ, qMake, D.still, D.stills, lf_past, lf_word, lf_letters, pf_past, pf_later, pm1, pm2, pm3, pm4, pi1, pi2, pi3, pi4, pi5, lm_state, lm_text, lm_search, okD_nil, hnn, List.map_nil]
        exact q1 rfl
      · rw [List.concat_eq_append] at *
        rw [List.map_append, List.map_cons, List.map_nil] at *
        have hok : okD (.lst (as.map blkD ++ [blkD d])) = true := by
          have := okD_blks hlt
          rwa [List.map_append] at this
        have e1 : okNext (as ++ [d]) c0 = decide (c0 ≠ d.1) := by
          unfold okNext
          rw [List.reverse_append, List.reverse_singleton, List.singleton_append]
        rw [e1] at q1 q2
        simp only [envOf, dRet, dRetN, dOp, dSl, dSlO, dVar, dC, pSome, pNo, ev_sll, ev_slt, ev_sls, dBi, dCons, dNil, ev_lenl, ev_lent, ev_lens, ev_lenr, ev_gI, TC, Pd.gSub, gLt, gLe, gGt, gGe, gMod, gFdiv, gPow, gEq, gNe, ev_oki, ev_oks, ev_okl, ev_okt, gIs, gIsNot, gIsB, gIsNotB, Pd.isNon, dCall, dSeq, dSet, dSetO, dMul, setL, bCons, bOwn, bNil, dIf, dIte, dTB, dAnd, dOr, dNot, dBV, dAndV, dOrV, dChain, dTmp, dTmpT, frzE, dFrz, OD.d, dIxO, dApp, dSetI, dNeg, dLst, dLstO, dTup, dO, dDrop, ev_abs, ev_inttoi, ev_inttob, ev_inttos, ev_strtoi, ev_listl, ev_listt, ev_lists, ev_tupl, ev_tupt, ev_addi, ev_adds, ev_addl, ev_addt, ev_muli, ev_muls, ev_mull, ev_max, ev_min, ev_all, ev_any, gRepr, dLRg, Pd.r1, Pd.r2, eqD_str, eqD_int, eqD_bl, dFld, dProp, dMeth, dAugI, dRev, dMake, dIsi, isT, isC, dNx, dBrk, dNev, dFst, gNm, gTp, gsCons, gsNil, dAsg, dStar, dYes, iniEnd, flatD, wipeE, ev_ixl, ev_ixt, ev_ixs, ev_ixr, ev_srcl, ev_srct, ev_srcs, ev_at0, ev_at1, ev_atl, ev_atn, ev_ixn, Option.some.injEq, exists_eq_left', exists_eq_left, List.foldl_cons, List.foldl_nil, List.map_cons, List.map_nil, List.replicate, List.length_append, List.length_map, List.length_cons, List.length_nil, List.cons_append, List.nil_append, List.append_nil, List.getElem?_cons_zero, List.getElem?_cons_succ, List.set_cons_zero, List.set_cons_succ, Nat.zero_add, Nat.reduceAdd, Nat.reduceSub, Nat.reduceLeDiff, true_and, and_true, decide_eq_true_eq, decide_eq_false_iff_not, ne_eq, reduceCtorEq, false_implies, true_implies, forall_const, Bool.and_self, Bool.and_true, Bool.true_and, lk_ends, lk_blocks, lk_text, lk_spot, lk_letter, Int.toNat_natCast, dFldO, dTmq, dMut, dSetQ, dParQ, qMake, D.still, D.stills, lf_past, lf_word, lf_letters, pf_past, pf_later, pm1, pm2, pm3, pm4, pi1, pi2, pi3, pi4, pi5, lm_state, lm_text, lm_search, okD_nil, hok, eqD_snoc]
        simp only [blkD, envOf, dRet, dRetN, dOp, dSl, dSlO, dVar, dC, pSome, pNo, ev_sll, ev_slt, ev_sls, dBi, dCons, dNil, ev_lenl, ev_lent, ev_lens, ev_lenr, ev_gI, TC, Pd.gSub, gLt, gLe, gGt, gGe, gMod, gFdiv, gPow, gEq, gNe, ev_oki, ev_oks, ev_okl, ev_okt, gIs, gIsNot, gIsB, gIsNotB, Pd.isNon, dCall, dSeq, dSet, dSetO, dMul, setL, bCons, bOwn, bNil, dIf, dIte, dTB, dAnd, dOr, dNot, dBV, dAndV, dOrV, dChain, dTmp, dTmpT, frzE, dFrz, OD.d, dIxO, dApp, dSetI, dNeg, dLst, dLstO, dTup, dO, dDrop, ev_abs, ev_inttoi, ev_inttob, ev_inttos, ev_strtoi, ev_listl, ev_listt, ev_lists, ev_tupl, ev_tupt, ev_addi, ev_adds, ev_addl, ev_addt, ev_muli, ev_muls, ev_mull, ev_max, ev_min, ev_all, ev_any, gRepr, dLRg, Pd.r1, Pd.r2, eqD_str, eqD_int, eqD_bl, dFld, dProp, dMeth, dAugI, dRev, dMake, dIsi, isT, isC, dNx, dBrk, dNev, dFst, gNm, gTp, gsCons, gsNil, dAsg, dStar, dYes, iniEnd, flatD, wipeE, ev_ixl, ev_ixt, ev_ixs, ev_ixr, ev_srcl, ev_srct, ev_srcs, ev_at0, ev_at1, ev_atl, ev_atn, ev_ixn, Option.some.injEq, exists_eq_left', exists_eq_left, List.foldl_cons, List.foldl_nil, List.map_cons, List.map_nil, List.replicate, List.length_append, List.length_map, List.length_cons, List.length_nil, List.cons_append, List.nil_append, List.append_nil, List.getElem?_cons_zero, List.getElem?_cons_succ, List.set_cons_zero, List.set_cons_succ, Nat.zero_add, Nat.reduceAdd, Nat.reduceSub, Nat.reduceLeDiff, true_and, and_true, decide_eq_true_eq, decide_eq_false_iff_not, ne_eq, reduceCtorEq, false_implies, true_implies, forall_const, Bool.and_self, Bool.and_true, Bool.true_and, lk_ends, lk_blocks, lk_text, lk_spot, lk_letter, Int.toNat_natCast, dFldO, dTmq, dMut, dSetQ, dParQ, qMake, D.still, D.stills, lf_past, lf_word, lf_letters, pf_past, pf_later, pm1, pm2, pm3, pm4, pi1, pi2, pi3, pi4, pi5, lm_state, lm_text, lm_search, List.cons.injEq] at q1 q2 ⊢
        refine ⟨fun h => q1 (by simpa using h), fun h => q2 (by simpa using h)⟩
    · rw [List.nil_append, List.map_id]
      have hin : ∀ y ∈ (sgn pool).filter (isNext bs), ∃ c0, y = .str [c0] ∧ c0 ∈ letters ∧ okNext bs c0 = true := fun y hy => by
        obtain ⟨h1, h2⟩ := List.mem_filter.mp hy
        obtain ⟨c0, hc0, rfl⟩ := mem_sgn h1
        exact ⟨c0, rfl, hp2 c0 hc0, h2⟩
      have hpos : 0 < ((sgn pool).filter (isNext bs)).length := by
        obtain ⟨a0, ha0, hn⟩ := okNext_ex (bs := bs) hp3
        exact List.length_pos_of_mem (List.mem_filter.mpr ⟨List.mem_map_of_mem ha0, hn⟩)
      have hfl : ((sgn pool).filter (isNext bs)).length ≤ 5 := Nat.le_trans (List.length_filter_le _ _) (by rw [sgn_length]; exact hp1)
      refine ⟨_, _, n' - 1, rfl, rfl, (fun l e => by cases e), hpos, by omega, by omega, fun y hy => ?_⟩
      obtain ⟨c0, rfl, hcl, hcn⟩ := hin y hy
      have hgG : gr < 2 ^ 200 := Nat.lt_of_le_of_lt (by omega : gr ≤ G0) (by decide)
      refine ⟨mulG (by decide) (by rw [Int.natAbs_natCast]; exact hgG), ?_⟩
      refine ⟨_, _, n' - 2, rfl, rfl, (fun l e => by cases e), Nat.succ_pos _, by show 7 ≤ _; decide, by omega, fun y hy => ?_⟩
      obtain ⟨m, hm0, hm⟩ : ∃ m : Nat, (∀ P : D → Prop, P (.int (m : Nat)) → gMax [D.int 1, y] P) ∧ 1 ≤ m ∧ m ≤ G0 := by
        have key : ∀ i : Int, i ≤ (G0 : Nat) → y = .int i → ∃ m : Nat, (∀ P : D → Prop, P (.int (m : Nat)) → gMax [D.int 1, y] P) ∧ 1 ≤ m ∧ m ≤ G0 := fun i hi e => by
          subst e
          refine ⟨(max 1 i).toNat, fun P hP => ?_, by omega, by omega⟩
          show P (.int (if i > 1 then i else 1))
          rw [show (if i > 1 then i else 1) = (((max 1 i).toNat : Nat) : Int) by split <;> omega]
          exact hP
        have hG1 : (gr : Int) + 1 ≤ (G0 : Nat) := by
          have : gr + 1 ≤ G0 := by unfold G0 at *; omega
          omega
        simp only [srcD, List.mem_cons, List.mem_nil_iff, or_false] at hy
        rcases hy with rfl | rfl | rfl | rfl | rfl | rfl | rfl
        · exact key 1 (by decide) rfl
        · exact key 2 (by decide) rfl
        · exact key gr (by omega) rfl
        · exact key gr (by omega) rfl
        · exact key (gr + 1) hG1 rfl
        · exact key (gr - 1) (by omega) rfl
        · exact key (2 * gr) (by omega) rfl
      refine hm0 _ ⟨by omega, ?_⟩
      refine ih _ _ ⟨bs ++ [(c0, m)], _, _, by rw [List.map_append]; rfl, by rw [List.length_append, List.length_append, List.length_singleton, List.length_singleton]; omega, by omega, by rw [List.length_append, List.length_singleton]; omega, okNext_adj g4 hm.1 hcn, fun b hb => ?_⟩
      rcases List.mem_append.mp hb with z | z
      · exact g5 b z
      · rw [List.mem_singleton.mp z]
        exact ⟨hm.2, hcl⟩
theorem told_blocks {bs : List Bl} (g : Good bs) (hl : bs.length ≤ 40) (h : ∀ b ∈ bs, b.2 < 10 ^ 30 ∧ b.1 ∈ letters) (hne : bs ≠ []) : Told bs := ⟨g, hl, h, hne⟩
theorem mst_bound {M N : Nat} {bs : List Bl} {y : Bl} (h : ∀ b ∈ bs, b.2 ≤ N) (hl : ∀ d, bs.getLast? = some d → d.2 + y.2 ≤ N) (hy : y.2 ≤ N) : ∀ b ∈ mst bs y, b.2 ≤ N := by
  rcases List.eq_nil_or_concat bs with rfl | ⟨as, d, rfl⟩
  · rw [mst_nil]
    intro b hb
    rw [List.mem_singleton.mp hb]
    exact hy
  · rw [List.concat_eq_append] at *
    rw [mst_snoc]
    intro b hb
    split at hb
    · rcases List.mem_append.mp hb with z | z
      · exact h b (List.mem_append_left _ z)
      · rw [List.mem_singleton.mp z]
        exact hl d (by simp)
    · rcases List.mem_append.mp hb with z | z
      · exact h b z
      · rw [List.mem_singleton.mp z]
        exact hy
theorem mst_last {bs : List Bl} {y : Bl} {e : Bl} (h : (mst bs y).getLast? = some e) : e.1 = y.1 ∧ (e.2 = y.2 ∨ ∃ d, bs.getLast? = some d ∧ d.1 = y.1 ∧ e.2 = d.2 + y.2) := by
  rcases List.eq_nil_or_concat bs with rfl | ⟨as, d, rfl⟩
  · rw [mst_nil] at h
    simp at h
    subst h
    exact ⟨rfl, .inl rfl⟩
  · rw [List.concat_eq_append] at *
    rw [mst_snoc] at h
    split at h
    · rename_i hd
      simp at h
      subst h
      exact ⟨rfl, .inr ⟨d, by simp, hd, rfl⟩⟩
    · simp at h
      subst h
      exact ⟨rfl, .inl rfl⟩
theorem fold_bound {M K : Nat} : ∀ (r : List Bl) (bs : List Bl), Good r → (∀ b ∈ r, b.2 ≤ M) → (∀ b ∈ bs, b.2 ≤ K + M) → (∀ d, bs.getLast? = some d → d.2 ≤ K ∨ ∀ y, r.head? = some y → d.1 ≠ y.1) →
    ∀ b ∈ r.foldl mst bs, b.2 ≤ K + M
  | [], bs, _, _, h, _ => h
  | y :: r, bs, g, hr, h, hl => by
    rw [List.foldl_cons]
    have hy := hr y (by simp)
    have gr : Good r := ⟨by
      have := g.adj
      cases r with
      | nil => trivial
      | cons x r => exact this.2, fun x hx => g.pos x (List.mem_cons_of_mem _ hx)⟩
    have hb : ∀ b ∈ mst bs y, b.2 ≤ K + M := by
      rcases List.eq_nil_or_concat bs with rfl | ⟨as, d, rfl⟩
      · rw [mst_nil]
        intro b hb
        rw [List.mem_singleton.mp hb]
        omega
      · rw [List.concat_eq_append] at *
        rw [mst_snoc]
        intro b hb
        split at hb
        · rename_i hd
          rcases List.mem_append.mp hb with z | z
          · exact h b (List.mem_append_left _ z)
          · rw [List.mem_singleton.mp z]
            rcases hl d (by simp) with q | q
            · show d.2 + y.2 ≤ _
              omega
            · exact (q y rfl hd).elim
        · rcases List.mem_append.mp hb with z | z
          · exact h b z
          · rw [List.mem_singleton.mp z]
            omega
    refine fold_bound r _ gr (fun b hb => hr b (List.mem_cons_of_mem _ hb)) hb fun d hd => .inr fun x hx => ?_
    rw [(mst_last hd).1]
    cases r with
    | nil => cases hx
    | cons x' r =>
      have : x' = x := by simpa using hx
      rw [← this]
      exact g.adj.1
def M0 : Nat := 90000000000000000000000000000
theorem fold_last {bs r : List Bl} {x y : Bl} (h : x.1 ≠ y.1) : ((r ++ [x, y]).foldl mst bs).getLast? = some y := by
  rw [show r ++ [x, y] = r ++ [x] ++ [y] by simp, List.foldl_append, List.foldl_append]
  generalize r.foldl mst bs = b0
  show (mst (mst b0 x) y).getLast? = some y
  have h0 : ∀ (b : List Bl) (z : Bl), mst b z ≠ [] := fun b z => by
    rcases List.eq_nil_or_concat b with rfl | ⟨as, d, rfl⟩
    · rw [mst_nil]
      simp
    · rw [List.concat_eq_append, mst_snoc]
      split <;> simp
  cases e : (mst (mst b0 x) y).getLast? with
  | none => exact (h0 _ _ (List.getLast?_eq_none_iff.mp e)).elim
  | some z =>
    obtain ⟨z1, z2⟩ := mst_last e
    congr 1
    rcases z2 with q | ⟨d, hd, hd2, _⟩
    · exact Prod.ext z1 q
    · exact (h ((mst_last hd).1.symm.trans hd2)).elim
theorem piece_bound {p : List Bl} (g : Good p) (h2 : 2 ≤ p.length) (hM : ∀ b ∈ p, b.2 ≤ M0) : ∀ k : Nat, (∀ b ∈ (List.replicate k p).flatten.foldl mst [], b.2 ≤ M0 + M0) ∧ ∀ d, ((List.replicate k p).flatten.foldl mst []).getLast? = some d → d.2 ≤ M0
  | 0 => ⟨(fun b hb => by cases hb), fun d hd => by cases hd⟩
  | k + 1 => by
    obtain ⟨h1, h3⟩ := piece_bound g h2 hM k
    rw [List.replicate_succ', List.flatten_append, List.foldl_append, show ([p] : List (List Bl)).flatten = p by simp]
    refine ⟨fold_bound p _ g hM h1 fun d hd => .inl (h3 d hd), fun d hd => ?_⟩
    obtain ⟨r, x, y, e⟩ : ∃ r x y, p = r ++ [x, y] := by
      obtain ⟨l, y, rfl⟩ : ∃ l y, p = l ++ [y] := ⟨p.dropLast, p.getLast (fun e => by subst e; simp at h2), (List.dropLast_concat_getLast _).symm⟩
      obtain ⟨r, x, rfl⟩ : ∃ r x, l = r ++ [x] := ⟨l.dropLast, l.getLast (fun e => by subst e; simp at h2), (List.dropLast_concat_getLast _).symm⟩
      exact ⟨r, x, y, by simp⟩
    have hxy : x.1 ≠ y.1 := by
      have : ∀ (r : List Bl), Adj (r ++ [x, y]) → x.1 ≠ y.1 := by
        intro r
        induction r with
        | nil => intro h; exact h.1
        | cons a r ih =>
          intro h
          cases r with
          | nil => exact ih h.2
          | cons b r => exact ih h.2
      exact this r (e ▸ g.adj)
    rw [e, fold_last hxy] at hd
    rw [← Option.some.inj hd]
    exact hM y (by rw [e]; simp)
theorem len_size {bs : List Bl} (g : Good bs) : bs.length ≤ (expand bs).length := by
  have h := g.pos
  clear g
  induction bs with
  | nil => exact Nat.le_refl _
  | cons b r ih =>
    have h1 := h b (by simp)
    have h2 := ih fun x hx => h x (List.mem_cons_of_mem _ hx)
    rw [expand, List.length_append, List.length_replicate, List.length_cons]
    omega
theorem num_size {bs : List Bl} (g : Good bs) {b : Bl} (hb : b ∈ bs) : b.2 ≤ (expand bs).length := by
  clear g
  induction bs with
  | nil => cases hb
  | cons a r ih =>
    rw [expand, List.length_append, List.length_replicate]
    rcases List.mem_cons.mp hb with rfl | hb
    · omega
    · have := ih hb
      omega
theorem adj_map (f : Bl → Bl) (h : ∀ b, (f b).1 = b.1) : ∀ {bs : List Bl}, Adj bs → Adj (bs.map f)
  | [], _ => trivial
  | [_], _ => trivial
  | a :: b :: r, g => by
    rw [List.map_cons, List.map_cons]
    refine ⟨by rw [h, h]; exact g.1, ?_⟩
    exact adj_map f h (bs := b :: r) g.2
def s_sog (c : Str → Addr) : FD := fun ds n P => ds = [.pot] ∧ 2000 ≤ n ∧ ∀ n' bs, n' ≤ n → n ≤ n' + 2000 → Told bs → P n' (.lst (bs.map blkD))
theorem l_sog (c : Str → Addr) : ∀ ds n Q, s_sog c ds n Q → dFn 10 1 (b__law_small_or_great c takeF s_letters s_blocks (s_great c) s_of s_merged s_sumOf s_part) ds n Q := by
  rintro ds n Q ⟨rfl, h0, q⟩
  refine ⟨rfl, ?_⟩
  simp only [b__law_small_or_great, takeF, envOf, dRet, dRetN, dOp, dSl, dSlO, dVar, dC, pSome, pNo, ev_sll, ev_slt, ev_sls, dBi, dCons, dNil, ev_lenl, ev_lent, ev_lens, ev_lenr, ev_gI, TC, Pd.gSub, gLt, gLe, gGt, gGe, gMod, gFdiv, gPow, gEq, gNe, ev_oki, ev_oks, ev_okl, ev_okt, gIs, gIsNot, gIsB, gIsNotB, Pd.isNon, dCall, dSeq, dSet, dSetO, dMul, setL, bCons, bOwn, bNil, dIf, dIte, dTB, dAnd, dOr, dNot, dBV, dAndV, dOrV, dChain, dTmp, dTmpT, frzE, dFrz, OD.d, dIxO, dApp, dSetI, dNeg, dLst, dLstO, dTup, dO, dDrop, ev_abs, ev_inttoi, ev_inttob, ev_inttos, ev_strtoi, ev_listl, ev_listt, ev_lists, ev_tupl, ev_tupt, ev_addi, ev_adds, ev_addl, ev_addt, ev_muli, ev_muls, ev_mull, ev_max, ev_min, ev_all, ev_any, gRepr, dLRg, Pd.r1, Pd.r2, eqD_str, eqD_int, eqD_bl, dFld, dProp, dMeth, dAugI, dRev, dMake, dIsi, isT, isC, dNx, dBrk, dNev, dFst, gNm, gTp, gsCons, gsNil, dAsg, dStar, dYes, iniEnd, flatD, wipeE, ev_ixl, ev_ixt, ev_ixs, ev_ixr, ev_srcl, ev_srct, ev_srcs, ev_at0, ev_at1, ev_atl, ev_atn, ev_ixn, Option.some.injEq, exists_eq_left', exists_eq_left, List.foldl_cons, List.foldl_nil, List.map_cons, List.map_nil, List.replicate, List.length_append, List.length_map, List.length_cons, List.length_nil, List.cons_append, List.nil_append, List.append_nil, List.getElem?_cons_zero, List.getElem?_cons_succ, List.set_cons_zero, List.set_cons_succ, Nat.zero_add, Nat.reduceAdd, Nat.reduceSub, Nat.reduceLeDiff, true_and, and_true, decide_eq_true_eq, decide_eq_false_iff_not, ne_eq, reduceCtorEq, false_implies, true_implies, forall_const, Bool.and_self, Bool.and_true, Bool.true_and, lk_ends, lk_blocks, lk_text, lk_spot, lk_letter, Int.toNat_natCast, dFldO, dTmq, dMut, dSetQ, dParQ, qMake, D.still, D.stills, lf_past, lf_word, lf_letters, pf_past, pf_later, pm1, pm2, pm3, pm4, pi1, pi2, pi3, pi4, pi5, lm_state, lm_text, lm_search]
  refine ⟨5, rfl, by omega, by decide, n - 1, by omega, fun r r0 r1 => ⟨fun hr => ?_, fun hr => ⟨fun hr2 => ?_, fun hr2 => ?_⟩⟩⟩
  · refine ⟨1, 40, rfl, by decide, by decide, by decide, by omega, fun n1 bs a1 a2 g al hb f1 f2 => ?_⟩
    have hsz : (expand bs).length = size bs := rfl
    refine ⟨expand bs, rfl, by omega, fun c0 hc => (by decide : ∀ c ∈ letters, c < 1114112) _ (al c0 hc), fun bs' e g' => ?_⟩
    have hl := len_size g'
    rw [e] at hl
    refine q n1 bs' (by omega) (by omega) (told_blocks g' (by omega) (fun b hb' => ⟨?_, al b.1 (by rw [← e]; exact fst_mem g'.pos hb')⟩) fun z => ?_)
    · have := num_size g' hb'
      rw [e] at this
      exact Nat.lt_of_le_of_lt (Nat.le_trans this (by omega : (expand bs).length ≤ 40)) (by decide)
    · subst z
      have e : expand bs = [] := e.symm
      have : size bs = 0 := by rw [← hsz, e]; rfl
      omega
  · refine ⟨1, 12, rfl, by decide, by decide, by decide, by omega, fun n1 bs a1 a2 g h3 h4 h5 => ?_⟩
    refine q n1 bs (by omega) (by omega) (told_blocks g (by omega) (fun b hb => ⟨Nat.lt_of_le_of_lt (h3 b hb).1 (by decide), (h3 b hb).2⟩) fun e => by subst e; simp at h4)
  · refine ⟨2, 4, rfl, by decide, by decide, by decide, by omega, fun n1 bs a1 a2 g h3 h4 h5 => ?_⟩
    have hne : bs ≠ [] := fun e => by subst e; simp at h4
    refine ⟨⟨by decide, by decide, by decide +kernel⟩, ⟨by decide, by decide, by decide +kernel⟩, ?_⟩
    refine ⟨_, _, n1 - 1, rfl, rfl, (fun l e => by cases e), by decide, by decide, by omega, fun x hx => ?_⟩
    obtain ⟨gr, rfl, hg1, hg2⟩ : ∃ gr : Nat, x = .int gr ∧ 1 ≤ gr ∧ 9 * gr ≤ M0 := by
      simp only [srcD, List.mem_cons, List.mem_nil_iff, or_false] at hx
      rcases hx with rfl | rfl | rfl
      · exact ⟨1, rfl, by decide, by decide⟩
      · exact ⟨1000000000, rfl, by decide, by decide⟩
      · exact ⟨10000000000000000000000000000, congrArg D.int (by decide +kernel), by decide, by decide⟩
    have hgG : gr < 2 ^ 200 := Nat.lt_of_le_of_lt (by omega : gr ≤ M0) (by decide)
    obtain ⟨p, hp⟩ : ∃ p : List Bl, p = bs.map fun b => (b.1, min b.2 9 * gr) := ⟨_, rfl⟩
    have hpl : p.length = bs.length := by rw [hp, List.length_map]
    have hpM : ∀ b ∈ p, b.2 ≤ M0 ∧ 1 ≤ b.2 ∧ b.1 ∈ letters := fun b hb => by
      rw [hp] at hb
      obtain ⟨b0, hb0, rfl⟩ := List.mem_map.mp hb
      have h1 := g.pos b0 hb0
      have h9 : min b0.2 9 ≤ 9 := by omega
      have h2 : min b0.2 9 * gr ≤ 9 * gr := Nat.mul_le_mul h9 (Nat.le_refl _)
      have h3' : 1 * 1 ≤ min b0.2 9 * gr := Nat.mul_le_mul (by omega) hg1
      exact ⟨Nat.le_trans h2 hg2, h3', (h3 b0 hb0).2⟩
    have hpg : Good p := ⟨by
      rw [hp]
      exact adj_map (fun b => (b.1, min b.2 9 * gr)) (fun b => rfl) g.adj, fun b hb => (hpM b hb).2.1⟩
    simp only [dComp, iVal, envOf, dRet, dRetN, dOp, dSl, dSlO, dVar, dC, pSome, pNo, ev_sll, ev_slt, ev_sls, dBi, dCons, dNil, ev_lenl, ev_lent, ev_lens, ev_lenr, ev_gI, TC, Pd.gSub, gLt, gLe, gGt, gGe, gMod, gFdiv, gPow, gEq, gNe, ev_oki, ev_oks, ev_okl, ev_okt, gIs, gIsNot, gIsB, gIsNotB, Pd.isNon, dCall, dSeq, dSet, dSetO, dMul, setL, bCons, bOwn, bNil, dIf, dIte, dTB, dAnd, dOr, dNot, dBV, dAndV, dOrV, dChain, dTmp, dTmpT, frzE, dFrz, OD.d, dIxO, dApp, dSetI, dNeg, dLst, dLstO, dTup, dO, dDrop, ev_abs, ev_inttoi, ev_inttob, ev_inttos, ev_strtoi, ev_listl, ev_listt, ev_lists, ev_tupl, ev_tupt, ev_addi, ev_adds, ev_addl, ev_addt, ev_muli, ev_muls, ev_mull, ev_max, ev_min, ev_all, ev_any, gRepr, dLRg, Pd.r1, Pd.r2, eqD_str, eqD_int, eqD_bl, dFld, dProp, dMeth, dAugI, dRev, dMake, dIsi, isT, isC, dNx, dBrk, dNev, dFst, gNm, gTp, gsCons, gsNil, dAsg, dStar, dYes, iniEnd, flatD, wipeE, ev_ixl, ev_ixt, ev_ixs, ev_ixr, ev_srcl, ev_srct, ev_srcs, ev_at0, ev_at1, ev_atl, ev_atn, ev_ixn, Option.some.injEq, exists_eq_left', exists_eq_left, List.foldl_cons, List.foldl_nil, List.map_cons, List.map_nil, List.replicate, List.length_append, List.length_map, List.length_cons, List.length_nil, List.cons_append, List.nil_append, List.append_nil, List.getElem?_cons_zero, List.getElem?_cons_succ, List.set_cons_zero, List.set_cons_succ, Nat.zero_add, Nat.reduceAdd, Nat.reduceSub, Nat.reduceLeDiff, true_and, and_true, decide_eq_true_eq, decide_eq_false_iff_not, ne_eq, reduceCtorEq, false_implies, true_implies, forall_const, Bool.and_self, Bool.and_true, Bool.true_and, lk_ends, lk_blocks, lk_text, lk_spot, lk_letter, Int.toNat_natCast, dFldO, dTmq, dMut, dSetQ, dParQ, qMake, D.still, D.stills, lf_past, lf_word, lf_letters, pf_past, pf_later, pm1, pm2, pm3, pm4, pi1, pi2, pi3, pi4, pi5, lm_state, lm_text, lm_search]
    refine ⟨by omega, ?_⟩
    refine compW_map blkD (fun b => blkD (b.1, min b.2 9 * gr)) bs _ _ (fun b hb m K K' hK => ?_) ?_
    · simp only [blkD, envOf, dRet, dRetN, dOp, dSl, dSlO, dVar, dC, pSome, pNo, ev_sll, ev_slt, ev_sls, dBi, dCons, dNil, ev_lenl, ev_lent, ev_lens, ev_lenr, ev_gI, TC, Pd.gSub, gLt, gLe, gGt, gGe, gMod, gFdiv, gPow, gEq, gNe, ev_oki, ev_oks, ev_okl, ev_okt, gIs, gIsNot, gIsB, gIsNotB, Pd.isNon, dCall, dSeq, dSet, dSetO, dMul, setL, bCons, bOwn, bNil, dIf, dIte, dTB, dAnd, dOr, dNot, dBV, dAndV, dOrV, dChain, dTmp, dTmpT, frzE, dFrz, OD.d, dIxO, dApp, dSetI, dNeg, dLst, dLstO, dTup, dO, dDrop, ev_abs, ev_inttoi, ev_inttob, ev_inttos, ev_strtoi, ev_listl, ev_listt, ev_lists, ev_tupl, ev_tupt, ev_addi, ev_adds, ev_addl, ev_addt, ev_muli, ev_muls, ev_mull, ev_max, ev_min, ev_all, ev_any, gRepr, dLRg, Pd.r1, Pd.r2, eqD_str, eqD_int, eqD_bl, dFld, dProp, dMeth, dAugI, dRev, dMake, dIsi, isT, isC, dNx, dBrk, dNev, dFst, gNm, gTp, gsCons, gsNil, dAsg, dStar, dYes, iniEnd, flatD, wipeE, ev_ixl, ev_ixt, ev_ixs, ev_ixr, ev_srcl, ev_srct, ev_srcs, ev_at0, ev_at1, ev_atl, ev_atn, ev_ixn, Option.some.injEq, exists_eq_left', exists_eq_left, List.foldl_cons, List.foldl_nil, List.map_cons, List.map_nil, List.replicate, List.length_append, List.length_map, List.length_cons, List.length_nil, List.cons_append, List.nil_append, List.append_nil, List.getElem?_cons_zero, List.getElem?_cons_succ, List.set_cons_zero, List.set_cons_succ, Nat.zero_add, Nat.reduceAdd, Nat.reduceSub, Nat.reduceLeDiff, true_and, and_true, decide_eq_true_eq, decide_eq_false_iff_not, ne_eq, reduceCtorEq, false_implies, true_implies, forall_const, Bool.and_self, Bool.and_true, Bool.true_and, lk_ends, lk_blocks, lk_text, lk_spot, lk_letter, Int.toNat_natCast, dFldO, dTmq, dMut, dSetQ, dParQ, qMake, D.still, D.stills, lf_past, lf_word, lf_letters, pf_past, pf_later, pm1, pm2, pm3, pm4, pi1, pi2, pi3, pi4, pi5, lm_state, lm_text, lm_search] at hK ⊢
      rw [show (if (9 : Int) < (b.2 : Int) then (9 : Int) else (b.2 : Int)) = ((min b.2 9 : Nat) : Int) by split <;> omega]
      refine ⟨mulG (by rw [Int.natAbs_natCast]; exact Nat.lt_of_le_of_lt (by omega : min b.2 9 ≤ 9) (by decide)) (by rw [Int.natAbs_natCast]; exact hgG), ?_⟩
      rw [show ((min b.2 9 : Nat) : Int) * (gr : Int) = ((min b.2 9 * gr : Nat) : Int) by push_cast; rfl]
      exact hK
    rw [List.nil_append, show (bs.map fun b => blkD (b.1, min b.2 9 * gr)) = p.map blkD by rw [hp, List.map_map]; rfl]
    rw [List.length_map, hpl]
    have hb4 : (bs.length = 2 ∨ bs.length = 3) ∨ bs.length = 4 := by omega
    obtain ⟨L, hL, hL1, hL2⟩ : ∃ L : Nat, (if (36 : Int) / (bs.length : Int) > 1 then (36 : Int) / (bs.length : Int) else 1) = (L : Int) ∧ 1 ≤ L ∧ L * bs.length ≤ 36 := by
      rcases hb4 with (h | h) | h
      · exact ⟨18, by rw [h]; rfl, by decide, by rw [h]; decide⟩
      · exact ⟨12, by rw [h]; rfl, by decide, by rw [h]; decide⟩
      · exact ⟨9, by rw [h]; rfl, by decide, by rw [h]; decide⟩
    rw [hL]
    have hL36 : L ≤ 36 := Nat.le_trans (Nat.le_mul_of_pos_right L (by omega)) hL2
    refine ⟨?_, L, rfl, by omega, by rw [Int.natAbs_natCast]; exact Nat.lt_of_le_of_lt hL36 (by decide), n1 - 2, by omega, fun r1' r10 r11 => ?_⟩
    · rcases hb4 with (h | h) | h <;> rw [h] <;> exact ⟨by decide, by decide⟩
    obtain ⟨k, rfl⟩ : ∃ d : Nat, r1' = d := ⟨r1'.toNat, by omega⟩
    have hk : (k + 1) * bs.length ≤ 36 := Nat.le_trans (Nat.mul_le_mul (by omega) (Nat.le_refl _)) hL2
    rw [show (1 + (k : Int)).toNat = k + 1 by omega]
    obtain ⟨W, hW⟩ : ∃ W, (List.replicate (k + 1) p).flatten = W := ⟨_, rfl⟩
    have hWl : W.length ≤ 36 := by
      rw [← hW, List.length_flatten, List.map_replicate, List.sum_replicate_nat, hpl]
      exact hk
    have hWm : ∀ b ∈ W, b ∈ p := fun b hb => by
      rw [← hW] at hb
      obtain ⟨l, hl, hb⟩ := List.mem_flatten.mp hb
      rw [List.eq_of_mem_replicate hl] at hb
      exact hb
    have hWe : (List.replicate (k + 1) (p.map blkD)).flatten = W.map blkD := by
      rw [← hW, List.map_flatten, List.map_replicate]
    have hWlt : ∀ b ∈ W, 1 ≤ b.2 ∧ b.1 < 1114112 := fun b hb => ⟨(hpM b (hWm b hb)).2.1, (by decide : ∀ c ∈ letters, c < 1114112) _ (hpM b (hWm b hb)).2.2⟩
    rw [hWe]
    refine ⟨by omega, by omega, by rw [Nat.mul_comm]; omega, W, rfl, by omega, hWlt, ?_⟩
    have hM := mrg_ok (xs := W) fun b hb => (hWlt b hb).1
    have hpb := (piece_bound hpg (by omega) (fun b hb => (hpM b hb).1) (k + 1)).1
    rw [hW] at hpb
    have hpb : ∀ b ∈ mrg W, b.2 ≤ M0 + M0 := hpb
    have hml : ∀ b ∈ mrg W, b.1 ∈ letters := fun b hb => by
      obtain ⟨x, hx, e⟩ := hM.mem b hb
      rw [← e]
      exact (hpM x (hWm x hx)).2.2
    have hmlen := hM.len
    have hWne : W ≠ [] := by
      intro e
      have h1 := congrArg List.length e
      rw [← hW, List.length_flatten, List.map_replicate, List.sum_replicate_nat, hpl] at h1
      have : 1 * 1 ≤ (k + 1) * bs.length := Nat.mul_le_mul (by omega) (by omega)
      simp only [List.length_nil] at h1
      omega
    have hmne : mrg W ≠ [] := fun e => by
      have h1 := hM.exp
      rw [e] at h1
      obtain ⟨b, r, e2⟩ := List.exists_cons_of_ne_nil hWne
      have h2 := (hWlt b (by rw [e2]; simp)).1
      rw [e2] at h1
      have h3 := congrArg List.length h1
      simp [expand] at h3
      omega
    have hsz1 : 1 ≤ size (mrg W) := by
      have h1 := len_size hM.good
      have h2 := List.length_pos_iff.mpr hmne
      show 1 ≤ (expand (mrg W)).length
      omega
    generalize hwh : mrg W = wh at hM hpb hml hmlen hmne hsz1 ⊢
    refine ⟨⟨by decide, by decide, by decide +kernel⟩, _, rfl, by decide +kernel, by decide +kernel, n1 - 3, by omega, fun r3 r30 r31 => ?_⟩
    obtain ⟨k3, rfl⟩ : ∃ d : Nat, r3 = d := ⟨r3.toNat, by omega⟩
    refine ⟨_, _, n1 - 4, rfl, rfl, (fun l e => by cases e), Nat.succ_pos _, by show 4 ≤ _; decide, by omega, fun y hy => ?_⟩
    obtain ⟨cu, rfl⟩ : ∃ cu : Nat, y = .int cu := by
      simp only [srcD, List.mem_cons, List.mem_nil_iff, or_false] at hy
      rcases hy with rfl | rfl | rfl | rfl
      · exact ⟨0, rfl⟩
      · exact ⟨1, rfl⟩
      · exact ⟨gr, rfl⟩
      · exact ⟨k3, rfl⟩
    refine ⟨wh, rfl, by omega, fun hr3 => ?_, fun hr3 => ?_⟩
    · simp only [envOf, dRet, dRetN, dOp, dSl, dSlO, dVar, dC, pSome, pNo, ev_sll, ev_slt, ev_sls, dBi, dCons, dNil, ev_lenl, ev_lent, ev_lens, ev_lenr, ev_gI, TC, Pd.gSub, gLt, gLe, gGt, gGe, gMod, gFdiv, gPow, gEq, gNe, ev_oki, ev_oks, ev_okl, ev_okt, gIs, gIsNot, gIsB, gIsNotB, Pd.isNon, dCall, dSeq, dSet, dSetO, dMul, setL, bCons, bOwn, bNil, dIf, dIte, dTB, dAnd, dOr, dNot, dBV, dAndV, dOrV, dChain, dTmp, dTmpT, frzE, dFrz, OD.d, dIxO, dApp, dSetI, dNeg, dLst, dLstO, dTup, dO, dDrop, ev_abs, ev_inttoi, ev_inttob, ev_inttos, ev_strtoi, ev_listl, ev_listt, ev_lists, ev_tupl, ev_tupt, ev_addi, ev_adds, ev_addl, ev_addt, ev_muli, ev_muls, ev_mull, ev_max, ev_min, ev_all, ev_any, gRepr, dLRg, Pd.r1, Pd.r2, eqD_str, eqD_int, eqD_bl, dFld, dProp, dMeth, dAugI, dRev, dMake, dIsi, isT, isC, dNx, dBrk, dNev, dFst, gNm, gTp, gsCons, gsNil, dAsg, dStar, dYes, iniEnd, flatD, wipeE, ev_ixl, ev_ixt, ev_ixs, ev_ixr, ev_srcl, ev_srct, ev_srcs, ev_at0, ev_at1, ev_atl, ev_atn, ev_ixn, Option.some.injEq, exists_eq_left', exists_eq_left, List.foldl_cons, List.foldl_nil, List.map_cons, List.map_nil, List.replicate, List.length_append, List.length_map, List.length_cons, List.length_nil, List.cons_append, List.nil_append, List.append_nil, List.getElem?_cons_zero, List.getElem?_cons_succ, List.set_cons_zero, List.set_cons_succ, Nat.zero_add, Nat.reduceAdd, Nat.reduceSub, Nat.reduceLeDiff, true_and, and_true, decide_eq_true_eq, decide_eq_false_iff_not, ne_eq, reduceCtorEq, false_implies, true_implies, forall_const, Bool.and_self, Bool.and_true, Bool.true_and, lk_ends, lk_blocks, lk_text, lk_spot, lk_letter, Int.toNat_natCast, dFldO, dTmq, dMut, dSetQ, dParQ, qMake, D.still, D.stills, lf_past, lf_word, lf_letters, pf_past, pf_later, pm1, pm2, pm3, pm4, pi1, pi2, pi3, pi4, pi5, lm_state, lm_text, lm_search]
      rw [show (if ((size wh : Nat) : Int) - 1 < (cu : Int) then ((size wh : Nat) : Int) - 1 else (cu : Int)) = ((min cu (size wh - 1) : Nat) : Int) by split <;> omega]
      refine ⟨wh, min cu (size wh - 1), size wh, rfl, hmne, by omega, ?_⟩
      obtain ⟨p1, p2, p3⟩ := part_ok (f := min cu (size wh - 1)) (l := size wh) 0 wh hM.good
      have hpne := part_ne (f := min cu (size wh - 1)) (l := size wh) (by omega) 0 wh (Nat.zero_le _) (by rw [tot_pos, pos_all]; show _ < 0 + size wh; omega)
      refine q _ _ (by omega) (by omega) (told_blocks p1 (by omega) (fun b hb => ?_) hpne)
      obtain ⟨x, hx, e1, e2⟩ := p3 b hb
      exact ⟨Nat.lt_of_le_of_lt (Nat.le_trans e2 (hpb x hx)) (by decide), by rw [← e1]; exact hml x hx⟩
    · obtain ⟨p0, pr, hpe⟩ := List.exists_cons_of_ne_nil (show p ≠ [] from fun e => by rw [e] at hpl; simp at hpl; omega)
      have hp0 := hpM p0 (by rw [hpe]; simp)
      rw [show (1 : Int) = ((1 : Nat) : Int) from rfl, cut_to, hpe]
      have e2 : wh.map blkD ++ (blkD p0 :: pr.map blkD).take 1 = (wh ++ [p0]).map blkD := by
        rw [List.map_append]
        rfl
      simp only [envOf, dRet, dRetN, dOp, dSl, dSlO, dVar, dC, pSome, pNo, ev_sll, ev_slt, ev_sls, dBi, dCons, dNil, ev_lenl, ev_lent, ev_lens, ev_lenr, ev_gI, TC, Pd.gSub, gLt, gLe, gGt, gGe, gMod, gFdiv, gPow, gEq, gNe, ev_oki, ev_oks, ev_okl, ev_okt, gIs, gIsNot, gIsB, gIsNotB, Pd.isNon, dCall, dSeq, dSet, dSetO, dMul, setL, bCons, bOwn, bNil, dIf, dIte, dTB, dAnd, dOr, dNot, dBV, dAndV, dOrV, dChain, dTmp, dTmpT, frzE, dFrz, OD.d, dIxO, dApp, dSetI, dNeg, dLst, dLstO, dTup, dO, dDrop, ev_abs, ev_inttoi, ev_inttob, ev_inttos, ev_strtoi, ev_listl, ev_listt, ev_lists, ev_tupl, ev_tupt, ev_addi, ev_adds, ev_addl, ev_addt, ev_muli, ev_muls, ev_mull, ev_max, ev_min, ev_all, ev_any, gRepr, dLRg, Pd.r1, Pd.r2, eqD_str, eqD_int, eqD_bl, dFld, dProp, dMeth, dAugI, dRev, dMake, dIsi, isT, isC, dNx, dBrk, dNev, dFst, gNm, gTp, gsCons, gsNil, dAsg, dStar, dYes, iniEnd, flatD, wipeE, ev_ixl, ev_ixt, ev_ixs, ev_ixr, ev_srcl, ev_srct, ev_srcs, ev_at0, ev_at1, ev_atl, ev_atn, ev_ixn, Option.some.injEq, exists_eq_left', exists_eq_left, List.foldl_cons, List.foldl_nil, List.map_cons, List.map_nil, List.replicate, List.length_append, List.length_map, List.length_cons, List.length_nil, List.cons_append, List.nil_append, List.append_nil, List.getElem?_cons_zero, List.getElem?_cons_succ, List.set_cons_zero, List.set_cons_succ, Nat.zero_add, Nat.reduceAdd, Nat.reduceSub, Nat.reduceLeDiff, true_and, and_true, decide_eq_true_eq, decide_eq_false_iff_not, ne_eq, reduceCtorEq, false_implies, true_implies, forall_const, Bool.and_self, Bool.and_true, Bool.true_and, lk_ends, lk_blocks, lk_text, lk_spot, lk_letter, Int.toNat_natCast, dFldO, dTmq, dMut, dSetQ, dParQ, qMake, D.still, D.stills, lf_past, lf_word, lf_letters, pf_past, pf_later, pm1, pm2, pm3, pm4, pi1, pi2, pi3, pi4, pi5, lm_state, lm_text, lm_search]
      rw [e2]
      have hlt2 : ∀ b ∈ wh ++ [p0], 1 ≤ b.2 ∧ b.1 < 1114112 := fun b hb => by
        rcases List.mem_append.mp hb with z | z
        · exact ⟨hM.good.pos b z, (by decide : ∀ c ∈ letters, c < 1114112) _ (hml b z)⟩
        · rw [List.mem_singleton.mp z]
          exact ⟨hp0.2.1, (by decide : ∀ c ∈ letters, c < 1114112) _ hp0.2.2⟩
      refine ⟨by simp; omega, wh ++ [p0], rfl, by rw [List.length_append, List.length_singleton]; omega, hlt2, ?_⟩
      have hM2 := mrg_ok (xs := wh ++ [p0]) fun b hb => (hlt2 b hb).1
      have hbW : ∀ b ∈ mrg wh, b.2 ≤ 0 + (M0 + M0) := fold_bound (M := M0 + M0) (K := 0) wh [] hM.good hpb (fun b hb => by cases hb) fun d hd => by cases hd
      have hb2 : ∀ b ∈ mrg (wh ++ [p0]), b.2 ≤ M0 + M0 + M0 := by
        rw [mrg_snoc]
        refine mst_bound (M := 0) (fun b hb => by have := hbW b hb; omega) (fun d hd => ?_) (by have := hp0.1; omega)
        have := hbW d (List.mem_of_getLast? hd)
        have := hp0.1
        omega
      have hl2 := hM2.len
      rw [List.length_append, List.length_singleton] at hl2
      refine q _ _ (by omega) (by omega) (told_blocks hM2.good (by omega) (fun b hb => ⟨Nat.lt_of_le_of_lt (hb2 b hb) (by decide), ?_⟩) fun e => ?_)
      · obtain ⟨x, hx, e⟩ := hM2.mem b hb
        rw [← e]
        rcases List.mem_append.mp hx with z | z
        · exact hml x z
        · rw [List.mem_singleton.mp z]
          exact hp0.2.2
      · have h1 := hM2.exp
        rw [e] at h1
        have h2 := len_size (bs := wh) hM.good
        have h3 := congrArg List.length h1
        rw [expand_append, List.length_append] at h3
        have h4 := List.length_pos_iff.mpr hmne
        simp only [expand, List.length_nil] at h3
        omega
end LW
namespace LW
open PySem L2 Pd
def b_Word___eq__ (c : Str → Addr) (s_Word_text : FD) : DS := (dRet (dAndV (dTB (dIsi (isC (c "Word") []) (dVar 1))) (dOp gEq (dFld (c "Word") "own_text" (dVar 0)) (dProp (c "Word") s_Word_text (dVar 1)))))
end LW
namespace LW
open PySem L2 Pd
theorem mrg_good {a : List Bl} (g : Good a) : mrg a = a := good_unique (mrg_ok g.pos).good g (mrg_ok g.pos).exp
theorem mrg_app (a b : List Bl) : mrg (a ++ b) = b.foldl mst (mrg a) := List.foldl_append
theorem mrg_eq {xs bs : List Bl} (g : Good bs) (hp : ∀ b ∈ xs, 1 ≤ b.2) (e : expand bs = expand xs) : bs = mrg xs := good_unique g (mrg_ok hp).good (e.trans (mrg_ok hp).exp.symm)
theorem pos_app {a b : List Bl} (ha : ∀ x ∈ a, 1 ≤ x.2) (hb : ∀ x ∈ b, 1 ≤ x.2) : ∀ x ∈ a ++ b, 1 ≤ x.2 := fun x hx => (List.mem_append.mp hx).elim (ha x) (hb x)
structure Wds (bs : List Bl) (L M : Nat) : Prop where
  good : Good bs
  len : bs.length ≤ L
  num : ∀ b ∈ bs, b.2 ≤ M
  let_ : ∀ b ∈ bs, b.1 ∈ letters
  ne : bs ≠ []
theorem Wds.mono {bs : List Bl} {L M L' M' : Nat} (w : Wds bs L M) (h1 : L ≤ L') (h2 : M ≤ M') : Wds bs L' M' := ⟨w.good, Nat.le_trans w.len h1, fun b hb => Nat.le_trans (w.num b hb) h2, w.let_, w.ne⟩
theorem exp_pos {bs : List Bl} (g : ∀ b ∈ bs, 1 ≤ b.2) (hne : bs ≠ []) : 0 < (expand bs).length := by
  obtain ⟨b, r, rfl⟩ := List.exists_cons_of_ne_nil hne
  have := g b (by simp)
  rw [expand, List.length_append, List.length_replicate]
  omega
theorem Wds.join {a b : List Bl} {L M L' M' : Nat} (w : Wds a L M) (v : Wds b L' M') : Wds (mrg (a ++ b)) (L + L') (M + M') := by
  have hp := pos_app w.good.pos v.good.pos
  have m := mrg_ok hp
  refine ⟨m.good, ?_, ?_, fun x hx => ?_, fun e => ?_⟩
  · have := m.len
    have := w.len
    have := v.len
    rw [List.length_append] at *
    omega
  · rw [mrg_app, mrg_good w.good]
    exact fold_bound b a v.good v.num (fun x hx => by have := w.num x hx; omega) fun d hd => .inl (w.num d (List.mem_of_getLast? hd))
  · obtain ⟨y, hy, e⟩ := m.mem x hx
    rw [← e]
    exact (List.mem_append.mp hy).elim (w.let_ y) (v.let_ y)
  · have h1 := m.exp
    rw [e, expand_append] at h1
    have h2 := exp_pos w.good.pos w.ne
    have h3 := congrArg List.length h1
    rw [List.length_append] at h3
    simp [expand] at h3
    omega
theorem part_exp {f l : Nat} : ∀ (k : Nat) (bs : List Bl), expand (partR f l k bs) = ((expand bs).take (l - k)).drop (f - k)
  | k, [] => by simp [partR, expand]
  | k, b :: r => by
    have ih := part_exp (f := f) (l := l) (k + b.2) r
    rw [partR, expand, List.take_append, List.drop_append, List.length_take, List.length_replicate, List.take_replicate, List.drop_replicate]
    have e1 : l - k - b.2 = l - (k + b.2) := by omega
    rw [e1]
    split
    · rename_i h
      rw [expand, ih]
      have e2 : min (k + b.2) l - max k f = min (l - k) b.2 - (f - k) := by omega
      rw [e2]
      congr 1
      rcases Nat.le_total b.2 (l - k) with z | z
      · rw [Nat.min_eq_right z]
        congr 1
        omega
      · have : l - (k + b.2) = 0 := by omega
        rw [this, List.take_zero, List.drop_nil, List.drop_nil]
    · rename_i h
      rw [ih, show min (l - k) b.2 - (f - k) = 0 by omega, List.replicate_zero, List.nil_append]
      rcases Nat.le_total b.2 (l - k) with z | z
      · rw [Nat.min_eq_right z]
        congr 1
        omega
      · have : l - (k + b.2) = 0 := by omega
        rw [this, List.take_zero, List.drop_nil, List.drop_nil]
end LW
namespace LW
open PySem L2 Pd
def scl (m : Nat) (bs : List Bl) : List Bl := bs.map fun b => (b.1, m * b.2)
end LW
namespace LW
open PySem L2 Pd
theorem part_snoc {f l : Nat} : ∀ (k : Nat) (p : List Bl) (b : Bl), partR f l k (p ++ [b]) = partR f l k p ++ (if 0 < min (tot k p + b.2) l - max (tot k p) f then [(b.1, min (tot k p + b.2) l - max (tot k p) f)] else [])
  | k, [], b => by
    rw [List.nil_append]
    show partR f l k [b] = [] ++ (if 0 < min (k + b.2) l - max k f then [(b.1, min (k + b.2) l - max k f)] else [])
    rw [List.nil_append, partR]
    by_cases h : 0 < min (k + b.2) l - max k f
    · rw [if_pos h, if_pos h]
      rfl
    · rw [if_neg h, if_neg h]
      rfl
  | k, a :: p, b => by
    rw [List.cons_append, partR, partR, part_snoc (k + a.2) p b, tot]
    split <;> rfl
end LW
namespace LW
open PySem L2 Pd
def s_Word_text (c : Str → Addr) : FD := fun ds n P => ∃ bs : List Bl, ds = [wordD c bs] ∧ P n (.str (txt bs))
theorem l_Word_text (c : Str → Addr) : ∀ ds n Q, s_Word_text c ds n Q → dFn 1 1 (b_Word_text c) ds n Q := by
  rintro ds n Q ⟨bs, rfl, q⟩
  refine ⟨rfl, ?_⟩
  simp only [b_Word_text, wordD, envOf, dRet, dRetN, dOp, dSl, dSlO, dVar, dC, pSome, pNo, ev_sll, ev_slt, ev_sls, dBi, dCons, dNil, ev_lenl, ev_lent, ev_lens, ev_lenr, ev_gI, TC, Pd.gSub, gLt, gLe, gGt, gGe, gMod, gFdiv, gPow, gEq, gNe, ev_oki, ev_oks, ev_okl, ev_okt, gIs, gIsNot, gIsB, gIsNotB, Pd.isNon, dCall, dSeq, dSet, dSetO, dMul, setL, bCons, bOwn, bNil, dIf, dIte, dTB, dAnd, dOr, dNot, dBV, dAndV, dOrV, dChain, dTmp, dTmpT, frzE, dFrz, OD.d, dIxO, dApp, dSetI, dNeg, dLst, dLstO, dTup, dO, dDrop, ev_abs, ev_inttoi, ev_inttob, ev_inttos, ev_strtoi, ev_listl, ev_listt, ev_lists, ev_tupl, ev_tupt, ev_addi, ev_adds, ev_addl, ev_addt, ev_muli, ev_muls, ev_mull, ev_max, ev_min, ev_all, ev_any, gRepr, dLRg, Pd.r1, Pd.r2, eqD_str, eqD_int, eqD_bl, dFld, dProp, dMeth, dAugI, dRev, dMake, dIsi, isT, isC, dNx, dBrk, dNev, dFst, gNm, gTp, gsCons, gsNil, dAsg, dStar, dYes, iniEnd, flatD, wipeE, ev_ixl, ev_ixt, ev_ixs, ev_ixr, ev_srcl, ev_srct, ev_srcs, ev_at0, ev_at1, ev_atl, ev_atn, ev_ixn, Option.some.injEq, exists_eq_left', exists_eq_left, List.foldl_cons, List.foldl_nil, List.map_cons, List.map_nil, List.replicate, List.length_append, List.length_map, List.length_cons, List.length_nil, List.cons_append, List.nil_append, List.append_nil, List.getElem?_cons_zero, List.getElem?_cons_succ, List.set_cons_zero, List.set_cons_succ, Nat.zero_add, Nat.reduceAdd, Nat.reduceSub, Nat.reduceLeDiff, true_and, and_true, decide_eq_true_eq, decide_eq_false_iff_not, ne_eq, reduceCtorEq, false_implies, true_implies, forall_const, Bool.and_self, Bool.and_true, Bool.true_and, lk_ends, lk_blocks, lk_text, lk_spot, lk_letter, Int.toNat_natCast, dFldO, dTmq, dMut, dSetQ, dParQ, qMake, D.still, D.stills, lf_past, lf_word, lf_letters, pf_past, pf_later, pm1, pm2, pm3, pm4, pi1, pi2, pi3, pi4, pi5, lm_state, lm_text, lm_search]
  exact q
def s_Word_eq (c : Str → Addr) : FD := fun ds n P => ∃ a b : List Bl, ds = [wordD c a, wordD c b] ∧ P n (.bl (decide (txt a = txt b)))
theorem l_Word_eq (c : Str → Addr) : ∀ ds n Q, s_Word_eq c ds n Q → dFn 2 2 (b_Word___eq__ c (s_Word_text c)) ds n Q := by
  rintro ds n Q ⟨a, b, rfl, q⟩
  refine ⟨rfl, ?_⟩
  simp only [b_Word___eq__, wordD, envOf, dRet, dRetN, dOp, dSl, dSlO, dVar, dC, pSome, pNo, ev_sll, ev_slt, ev_sls, dBi, dCons, dNil, ev_lenl, ev_lent, ev_lens, ev_lenr, ev_gI, TC, Pd.gSub, gLt, gLe, gGt, gGe, gMod, gFdiv, gPow, gEq, gNe, ev_oki, ev_oks, ev_okl, ev_okt, gIs, gIsNot, gIsB, gIsNotB, Pd.isNon, dCall, dSeq, dSet, dSetO, dMul, setL, bCons, bOwn, bNil, dIf, dIte, dTB, dAnd, dOr, dNot, dBV, dAndV, dOrV, dChain, dTmp, dTmpT, frzE, dFrz, OD.d, dIxO, dApp, dSetI, dNeg, dLst, dLstO, dTup, dO, dDrop, ev_abs, ev_inttoi, ev_inttob, ev_inttos, ev_strtoi, ev_listl, ev_listt, ev_lists, ev_tupl, ev_tupt, ev_addi, ev_adds, ev_addl, ev_addt, ev_muli, ev_muls, ev_mull, ev_max, ev_min, ev_all, ev_any, gRepr, dLRg, Pd.r1, Pd.r2, eqD_str, eqD_int, eqD_bl, dFld, dProp, dMeth, dAugI, dRev, dMake, dIsi, isT, isC, dNx, dBrk, dNev, dFst, gNm, gTp, gsCons, gsNil, dAsg, dStar, dYes, iniEnd, flatD, wipeE, ev_ixl, ev_ixt, ev_ixs, ev_ixr, ev_srcl, ev_srct, ev_srcs, ev_at0, ev_at1, ev_atl, ev_atn, ev_ixn, Option.some.injEq, exists_eq_left', exists_eq_left, List.foldl_cons, List.foldl_nil, List.map_cons, List.map_nil, List.replicate, List.length_append, List.length_map, List.length_cons, List.length_nil, List.cons_append, List.nil_append, List.append_nil, List.getElem?_cons_zero, List.getElem?_cons_succ, List.set_cons_zero, List.set_cons_succ, Nat.zero_add, Nat.reduceAdd, Nat.reduceSub, Nat.reduceLeDiff, true_and, and_true, decide_eq_true_eq, decide_eq_false_iff_not, ne_eq, reduceCtorEq, false_implies, true_implies, forall_const, Bool.and_self, Bool.and_true, Bool.true_and, lk_ends, lk_blocks, lk_text, lk_spot, lk_letter, Int.toNat_natCast, dFldO, dTmq, dMut, dSetQ, dParQ, qMake, D.still, D.stills, lf_past, lf_word, lf_letters, pf_past, pf_later, pm1, pm2, pm3, pm4, pi1, pi2, pi3, pi4, pi5, lm_state, lm_text, lm_search]
  refine ⟨true, rfl, fun _ => ⟨b, rfl, rfl, ?_⟩, fun h => by cases h⟩
  rw [eqD_str]
  exact q
def s_Word_joined (c : Str → Addr) : FD := fun ds n P => ∃ a b : List Bl, ds = [wordD c a, wordD c b] ∧ Told a ∧ Told b ∧ Told (mrg (a ++ b)) ∧ P n (wordD c (mrg (a ++ b)))
theorem l_Word_joined (c : Str → Addr) : ∀ ds n Q, s_Word_joined c ds n Q → dFn 2 2 (b_Word_joined c (s_Word_blocks c) s_put (s_made c)) ds n Q := by
  rintro ds n Q ⟨a, b, rfl, ta, tb, tm, q⟩
  refine ⟨rfl, ?_⟩
  simp only [b_Word_joined, wordD, dStar, envOf, dRet, dRetN, dOp, dSl, dSlO, dVar, dC, pSome, pNo, ev_sll, ev_slt, ev_sls, dBi, dCons, dNil, ev_lenl, ev_lent, ev_lens, ev_lenr, ev_gI, TC, Pd.gSub, gLt, gLe, gGt, gGe, gMod, gFdiv, gPow, gEq, gNe, ev_oki, ev_oks, ev_okl, ev_okt, gIs, gIsNot, gIsB, gIsNotB, Pd.isNon, dCall, dSeq, dSet, dSetO, dMul, setL, bCons, bOwn, bNil, dIf, dIte, dTB, dAnd, dOr, dNot, dBV, dAndV, dOrV, dChain, dTmp, dTmpT, frzE, dFrz, OD.d, dIxO, dApp, dSetI, dNeg, dLst, dLstO, dTup, dO, dDrop, ev_abs, ev_inttoi, ev_inttob, ev_inttos, ev_strtoi, ev_listl, ev_listt, ev_lists, ev_tupl, ev_tupt, ev_addi, ev_adds, ev_addl, ev_addt, ev_muli, ev_muls, ev_mull, ev_max, ev_min, ev_all, ev_any, gRepr, dLRg, Pd.r1, Pd.r2, eqD_str, eqD_int, eqD_bl, dFld, dProp, dMeth, dAugI, dRev, dMake, dIsi, isT, isC, dNx, dBrk, dNev, dFst, gNm, gTp, gsCons, gsNil, dAsg, dStar, dYes, iniEnd, flatD, wipeE, ev_ixl, ev_ixt, ev_ixs, ev_ixr, ev_srcl, ev_srct, ev_srcs, ev_at0, ev_at1, ev_atl, ev_atn, ev_ixn, Option.some.injEq, exists_eq_left', exists_eq_left, List.foldl_cons, List.foldl_nil, List.map_cons, List.map_nil, List.replicate, List.length_append, List.length_map, List.length_cons, List.length_nil, List.cons_append, List.nil_append, List.append_nil, List.getElem?_cons_zero, List.getElem?_cons_succ, List.set_cons_zero, List.set_cons_succ, Nat.zero_add, Nat.reduceAdd, Nat.reduceSub, Nat.reduceLeDiff, true_and, and_true, decide_eq_true_eq, decide_eq_false_iff_not, ne_eq, reduceCtorEq, false_implies, true_implies, forall_const, Bool.and_self, Bool.and_true, Bool.true_and, lk_ends, lk_blocks, lk_text, lk_spot, lk_letter, Int.toNat_natCast, dFldO, dTmq, dMut, dSetQ, dParQ, qMake, D.still, D.stills, lf_past, lf_word, lf_letters, pf_past, pf_later, pm1, pm2, pm3, pm4, pi1, pi2, pi3, pi4, pi5, lm_state, lm_text, lm_search]
  have la := ta.2.1
  have lb := tb.2.1
  refine ⟨true, rfl, fun h => (by cases h), fun _ => ⟨b, rfl, ?_⟩⟩
  dsimp only
  refine ⟨by rw [List.length_map]; omega, ?_⟩
  rw [← List.map_append]
  have hp := pos_app ta.1.pos tb.1.pos
  refine ⟨_, a ++ b, rfl, rfl, by rw [List.length_append]; omega, fun x hx => ⟨hp x hx, letters_lt ?_⟩, fun bs gb e _ => ?_⟩
  · exact (List.mem_append.mp hx).elim (fun h => (ta.2.2.1 x h).2) fun h => (tb.2.2.1 x h).2
  rw [mrg_eq gb hp e]
  exact ⟨_, _, rfl, .inl rfl, tm, q⟩
def rowZ (p : Bl × Nat) : D := .tup [blkD p.1, intD p.2, intD (p.2 + p.1.2)]
theorem zip3_zl : ∀ (k : Nat) (bs : List Bl), zip3D (bs.map blkD) ((sts k bs ++ [tot k bs]).map intD) (((sts k bs ++ [tot k bs]).map intD).drop 1) = (zl k bs).map rowZ
  | _, [] => rfl
  | k, [b] => rfl
  | k, b :: d :: r => by
    have ih := zip3_zl (k + b.2) (d :: r)
    exact congrArg (List.cons (rowZ (b, k))) ih
theorem part_len {f l : Nat} : ∀ (k : Nat) (p : List Bl), (partR f l k p).length ≤ p.length
  | _, [] => Nat.le_refl _
  | k, a :: p => by
    have := part_len (f := f) (l := l) (k + a.2) p
    rw [partR, List.length_cons]
    split
    · rw [List.length_cons]
      omega
    · omega
theorem zl_snoc : ∀ (k : Nat) (p : List Bl) (b : Bl), zl k (p ++ [b]) = zl k p ++ [(b, tot k p)]
  | k, [], b => rfl
  | k, a :: p, b => by
    rw [List.cons_append, zl, zl, zl_snoc (k + a.2) p b, tot, List.cons_append]
theorem zl_split : ∀ (k : Nat) (p bs : List Bl) (y : Bl × Nat) (r : List (Bl × Nat)), zl k bs = zl k p ++ y :: r → y.2 = tot k p ∧ ∃ q, bs = p ++ y.1 :: q
  | k, [], [], y, r, h => by cases h
  | k, [], b :: bs, y, r, h => by
    rw [zl, zl, List.nil_append] at h
    injection h with h1 _
    rw [← h1]
    exact ⟨rfl, bs, rfl⟩
  | k, a :: p, [], y, r, h => by cases h
  | k, a :: p, b :: bs, y, r, h => by
    rw [zl, zl, List.cons_append] at h
    injection h with h1 h2
    injection h1 with h1 _
    subst h1
    obtain ⟨e1, q, e2⟩ := zl_split (k + b.2) p bs y r h2
    exact ⟨e1, q, by rw [e2]; rfl⟩
def s_Word_part (c : Str → Addr) : FD := fun ds n P => ∃ (bs : List Bl) (f l : Nat), ds = [wordD c bs, .int f, .int l] ∧ Told bs ∧ f < l ∧ l ≤ size bs ∧ P n (wordD c (partR f l 0 bs))
theorem l_Word_part (c : Str → Addr) : ∀ ds n Q, s_Word_part c ds n Q → dFn 8 3 (b_Word_part c s_is_integer (s_Word_size c) (s_made c)) ds n Q := by
  rintro ds n Q ⟨bs, f, l, rfl, T, h1, h2, q⟩
  refine ⟨rfl, ?_⟩
  simp only [b_Word_part, dFor, iZp3, wordD, envOf, dRet, dRetN, dOp, dSl, dSlO, dVar, dC, pSome, pNo, ev_sll, ev_slt, ev_sls, dBi, dCons, dNil, ev_lenl, ev_lent, ev_lens, ev_lenr, ev_gI, TC, Pd.gSub, gLt, gLe, gGt, gGe, gMod, gFdiv, gPow, gEq, gNe, ev_oki, ev_oks, ev_okl, ev_okt, gIs, gIsNot, gIsB, gIsNotB, Pd.isNon, dCall, dSeq, dSet, dSetO, dMul, setL, bCons, bOwn, bNil, dIf, dIte, dTB, dAnd, dOr, dNot, dBV, dAndV, dOrV, dChain, dTmp, dTmpT, frzE, dFrz, OD.d, dIxO, dApp, dSetI, dNeg, dLst, dLstO, dTup, dO, dDrop, ev_abs, ev_inttoi, ev_inttob, ev_inttos, ev_strtoi, ev_listl, ev_listt, ev_lists, ev_tupl, ev_tupt, ev_addi, ev_adds, ev_addl, ev_addt, ev_muli, ev_muls, ev_mull, ev_max, ev_min, ev_all, ev_any, gRepr, dLRg, Pd.r1, Pd.r2, eqD_str, eqD_int, eqD_bl, dFld, dProp, dMeth, dAugI, dRev, dMake, dIsi, isT, isC, dNx, dBrk, dNev, dFst, gNm, gTp, gsCons, gsNil, dAsg, dStar, dYes, iniEnd, flatD, wipeE, ev_ixl, ev_ixt, ev_ixs, ev_ixr, ev_srcl, ev_srct, ev_srcs, ev_at0, ev_at1, ev_atl, ev_atn, ev_ixn, Option.some.injEq, exists_eq_left', exists_eq_left, List.foldl_cons, List.foldl_nil, List.map_cons, List.map_nil, List.replicate, List.length_append, List.length_map, List.length_cons, List.length_nil, List.cons_append, List.nil_append, List.append_nil, List.getElem?_cons_zero, List.getElem?_cons_succ, List.set_cons_zero, List.set_cons_succ, Nat.zero_add, Nat.reduceAdd, Nat.reduceSub, Nat.reduceLeDiff, true_and, and_true, decide_eq_true_eq, decide_eq_false_iff_not, ne_eq, reduceCtorEq, false_implies, true_implies, forall_const, Bool.and_self, Bool.and_true, Bool.true_and, lk_ends, lk_blocks, lk_text, lk_spot, lk_letter, Int.toNat_natCast, dFldO, dTmq, dMut, dSetQ, dParQ, qMake, D.still, D.stills, lf_past, lf_word, lf_letters, pf_past, pf_later, pm1, pm2, pm3, pm4, pi1, pi2, pi3, pi4, pi5, lm_state, lm_text, lm_search]
  refine .inr ⟨f, 0, rfl, ?_⟩
  rw [decide_eq_true (by omega)]
  refine ⟨fun h => (by cases h), fun _ => ⟨bs, rfl, .inl ⟨l, (f : Int) + 1, (size bs : Nat), rfl, ?_⟩⟩⟩
  rw [decide_eq_true (by omega)]
  refine ⟨fun h => (by cases h), fun _ => ⟨_, _, _, rfl, rfl, rfl, ?_⟩⟩
  rw [← ends_eq, show (1 : Int) = ((1 : Nat) : Int) from rfl, cut_from, zip3_zl]
  have hbl := T.2.1
  refine for_map rowZ (fun a r n' ε => ∃ (p : List Bl) (s4 s5 s6 s7 : Sl), a = zl 0 p ∧ n' = n ∧ ε = [.val (.obj (c "Word") (fldsW bs)), .val (.int f), .val (.int l), .own (.lst ((partR f l 0 p).map blkD)), s4, s5, s6, s7]) (zl 0 bs) ⟨[], .no, .no, .no, .no, rfl, rfl, rfl⟩ ?_ ?_
  · rintro n' ε ⟨p, s4, s5, s6, s7, hz, rfl, rfl⟩
    have hpb : p = bs := by
      have key : ∀ (k : Nat) (x y : List Bl), zl k x = zl k y → x = y := fun k x => by
        induction x generalizing k with
        | nil =>
          intro y e
          cases y with
          | nil => rfl
          | cons b y => cases e
        | cons a x ih =>
          intro y e
          cases y with
          | nil => cases e
          | cons b y =>
            rw [zl, zl] at e
            injection e with e1 e2
            injection e1 with e1 _
            subst e1
            rw [ih _ _ e2]
      exact (key 0 bs p hz).symm
    subst hpb
    simp only [envOf, dRet, dRetN, dOp, dSl, dSlO, dVar, dC, pSome, pNo, ev_sll, ev_slt, ev_sls, dBi, dCons, dNil, ev_lenl, ev_lent, ev_lens, ev_lenr, ev_gI, TC, Pd.gSub, gLt, gLe, gGt, gGe, gMod, gFdiv, gPow, gEq, gNe, ev_oki, ev_oks, ev_okl, ev_okt, gIs, gIsNot, gIsB, gIsNotB, Pd.isNon, dCall, dSeq, dSet, dSetO, dMul, setL, bCons, bOwn, bNil, dIf, dIte, dTB, dAnd, dOr, dNot, dBV, dAndV, dOrV, dChain, dTmp, dTmpT, frzE, dFrz, OD.d, dIxO, dApp, dSetI, dNeg, dLst, dLstO, dTup, dO, dDrop, ev_abs, ev_inttoi, ev_inttob, ev_inttos, ev_strtoi, ev_listl, ev_listt, ev_lists, ev_tupl, ev_tupt, ev_addi, ev_adds, ev_addl, ev_addt, ev_muli, ev_muls, ev_mull, ev_max, ev_min, ev_all, ev_any, gRepr, dLRg, Pd.r1, Pd.r2, eqD_str, eqD_int, eqD_bl, dFld, dProp, dMeth, dAugI, dRev, dMake, dIsi, isT, isC, dNx, dBrk, dNev, dFst, gNm, gTp, gsCons, gsNil, dAsg, dStar, dYes, iniEnd, flatD, wipeE, ev_ixl, ev_ixt, ev_ixs, ev_ixr, ev_srcl, ev_srct, ev_srcs, ev_at0, ev_at1, ev_atl, ev_atn, ev_ixn, Option.some.injEq, exists_eq_left', exists_eq_left, List.foldl_cons, List.foldl_nil, List.map_cons, List.map_nil, List.replicate, List.length_append, List.length_map, List.length_cons, List.length_nil, List.cons_append, List.nil_append, List.append_nil, List.getElem?_cons_zero, List.getElem?_cons_succ, List.set_cons_zero, List.set_cons_succ, Nat.zero_add, Nat.reduceAdd, Nat.reduceSub, Nat.reduceLeDiff, true_and, and_true, decide_eq_true_eq, decide_eq_false_iff_not, ne_eq, reduceCtorEq, false_implies, true_implies, forall_const, Bool.and_self, Bool.and_true, Bool.true_and, lk_ends, lk_blocks, lk_text, lk_spot, lk_letter, Int.toNat_natCast, dFldO, dTmq, dMut, dSetQ, dParQ, qMake, D.still, D.stills, lf_past, lf_word, lf_letters, pf_past, pf_later, pm1, pm2, pm3, pm4, pi1, pi2, pi3, pi4, pi5, lm_state, lm_text, lm_search]
    obtain ⟨g1, g2, g3⟩ := part_ok (f := f) (l := l) 0 p T.1
    have hne := part_ne (f := f) (l := l) h1 0 p (Nat.zero_le _) (by rw [tot_pos, pos_all]; show f < 0 + size p; omega)
    refine ⟨_, _, rfl, .inl rfl, ⟨g1, by omega, fun b hb => ?_, hne⟩, q⟩
    obtain ⟨x, hx, e1, e2⟩ := g3 b hb
    rw [← e1]
    exact ⟨Nat.lt_of_le_of_lt e2 (T.2.2.1 x hx).1, (T.2.2.1 x hx).2⟩
  · rintro a y r n' ε nxt e1 ih ⟨p, s4, s5, s6, s7, rfl, rfl, rfl⟩
    obtain ⟨y1, q2, y2⟩ := zl_split 0 p bs y r e1
    obtain ⟨b, k⟩ := y
    have y1 : k = tot 0 p := y1
    subst y1
    have hb : b ∈ bs := by rw [y2]; simp
    have hb1 := T.1.pos b hb
    have hpl : p.length < 1000 := by
      have := congrArg List.length y2
      rw [List.length_append, List.length_cons] at this
      omega
    have hlen : ((partR f l 0 p).map blkD).length ≤ p.length := by
      rw [List.length_map]
      exact part_len 0 p
    have go := ih n' [.val (.obj (c "Word") (fldsW bs)), .val (.int f), .val (.int l), .own (.lst ((partR f l 0 (p ++ [b])).map blkD)), .val (.str [b.1]), .val (.int b.2), .val (.int (tot 0 p : Nat)), .val (.int (tot 0 p + b.2 : Nat))] ⟨p ++ [b], _, _, _, _, (zl_snoc 0 p b).symm, rfl, rfl⟩
    rw [part_snoc, List.map_append] at go
    generalize (partR f l 0 p).map blkD = A at go hlen ⊢
    simp only [rowZ, blkD, intD, envOf, dRet, dRetN, dOp, dSl, dSlO, dVar, dC, pSome, pNo, ev_sll, ev_slt, ev_sls, dBi, dCons, dNil, ev_lenl, ev_lent, ev_lens, ev_lenr, ev_gI, TC, Pd.gSub, gLt, gLe, gGt, gGe, gMod, gFdiv, gPow, gEq, gNe, ev_oki, ev_oks, ev_okl, ev_okt, gIs, gIsNot, gIsB, gIsNotB, Pd.isNon, dCall, dSeq, dSet, dSetO, dMul, setL, bCons, bOwn, bNil, dIf, dIte, dTB, dAnd, dOr, dNot, dBV, dAndV, dOrV, dChain, dTmp, dTmpT, frzE, dFrz, OD.d, dIxO, dApp, dSetI, dNeg, dLst, dLstO, dTup, dO, dDrop, ev_abs, ev_inttoi, ev_inttob, ev_inttos, ev_strtoi, ev_listl, ev_listt, ev_lists, ev_tupl, ev_tupt, ev_addi, ev_adds, ev_addl, ev_addt, ev_muli, ev_muls, ev_mull, ev_max, ev_min, ev_all, ev_any, gRepr, dLRg, Pd.r1, Pd.r2, eqD_str, eqD_int, eqD_bl, dFld, dProp, dMeth, dAugI, dRev, dMake, dIsi, isT, isC, dNx, dBrk, dNev, dFst, gNm, gTp, gsCons, gsNil, dAsg, dStar, dYes, iniEnd, flatD, wipeE, ev_ixl, ev_ixt, ev_ixs, ev_ixr, ev_srcl, ev_srct, ev_srcs, ev_at0, ev_at1, ev_atl, ev_atn, ev_ixn, Option.some.injEq, exists_eq_left', exists_eq_left, List.foldl_cons, List.foldl_nil, List.map_cons, List.map_nil, List.replicate, List.length_append, List.length_map, List.length_cons, List.length_nil, List.cons_append, List.nil_append, List.append_nil, List.getElem?_cons_zero, List.getElem?_cons_succ, List.set_cons_zero, List.set_cons_succ, Nat.zero_add, Nat.reduceAdd, Nat.reduceSub, Nat.reduceLeDiff, true_and, and_true, decide_eq_true_eq, decide_eq_false_iff_not, ne_eq, reduceCtorEq, false_implies, true_implies, forall_const, Bool.and_self, Bool.and_true, Bool.true_and, lk_ends, lk_blocks, lk_text, lk_spot, lk_letter, Int.toNat_natCast, dFldO, dTmq, dMut, dSetQ, dParQ, qMake, D.still, D.stills, lf_past, lf_word, lf_letters, pf_past, pf_later, pm1, pm2, pm3, pm4, pi1, pi2, pi3, pi4, pi5, lm_state, lm_text, lm_search]
    rw [show (if (l : Int) < ((tot 0 p + b.2 : Nat) : Int) then (l : Int) else ((tot 0 p + b.2 : Nat) : Int)) = ((min (tot 0 p + b.2) l : Nat) : Int) by split <;> omega]
    rw [show (if (f : Int) > (tot 0 p : Int) then (f : Int) else (tot 0 p : Int)) = ((max (tot 0 p) f : Nat) : Int) by split <;> omega]
    have no : ¬ 0 < min (tot 0 p + b.2) l - max (tot 0 p) f → nxt n' [.val (.obj (c "Word") (fldsW bs)), .val (.int f), .val (.int l), .own (.lst A), .val (.str [b.1]), .val (.int b.2), .val (.int (tot 0 p : Nat)), .val (.int (tot 0 p + b.2 : Nat))] := fun hp => by
      rw [if_neg hp, List.map_nil, List.append_nil] at go
      exact go
    refine ⟨fun c1 => ⟨fun c2 => ⟨by omega, ?_⟩, fun c2 => no (by omega)⟩, fun c1 => no (by omega)⟩
    have hp : 0 < min (tot 0 p + b.2) l - max (tot 0 p) f := by omega
    rw [if_pos hp] at go
    rw [show ((min (tot 0 p + b.2) l : Nat) : Int) - ((max (tot 0 p) f : Nat) : Int) = ((min (tot 0 p + b.2) l - max (tot 0 p) f : Nat) : Int) by omega]
    exact go
end LW
namespace LW
open PySem L2 Pd
def b__law_near_places_v2 (c : Str → Addr) (s__law_sum_of : FD) (s__law_heads_of : FD) (s__law_of : FD) (s__law_place : FD) : DS := (dSeq (dMul [2, 3] (bCons (dCall s__law_sum_of [] (dCons (dVar 1) dNil)) (bCons (dCall s__law_heads_of [] (dCons (dVar 1) dNil)) bNil)))
    (dSeq (dIf (dTB (dOp gLt (dVar 2) (dC (.int 13)))) (dRet (dLRg (r1 (dVar 2)))) dNx)
    (dSeq (dSetO 4 (dCatO (dO (dComp (iVal (dTup (dCons (dNeg (dC (.int 1))) (dCons (dC (.int 0)) (dCons (dC (.int 1)) dNil))))) (gNm 5) dYes (dOp gAdd (dCall s__law_of [] (dCons (dVar 0) (dCons (dVar 3) dNil))) (dVar 5)) [5])) (dLst (dCons (dC (.int 0)) (dCons (dOp gSub (dVar 2) (dC (.int 1))) dNil)))))
    (dSeq (dExt 4 (dO (dComp (iRg1 (dC (.int 4))) (gNm 6) dYes (dCall s__law_place [] (dCons (dVar 0) (dCons (dVar 2) dNil))) [6])))
    (dFrz [4] (dRet (dSrtSet (dO (dComp (iVal (dVar 4)) (gNm 7) (dTB (dChain gLe gLt (dC (.int 0)) (dVar 7) (dVar 2))) (dBi gInt (dCons (dVar 7) dNil)) [7])))))))))
def b__law_right_v142 (c : Str → Addr) (s__law_small_or_great : FD) (s__law_block_text : FD) (i_Word : FI) (s__law_sum_of : FD) (s__law_near_places : FD) (s_Word_letter : FD) (s__law_letter_at : FD) (s_Word_part : FD) (s_Word_joined : FD) (s_Word___eq__ : FD) (s_Word_text : FD) (s__law_blocks_part : FD) (s_Word_size : FD) (s__law_place : FD) : DS := (dSeq (dFor (iRg1 (dC (.int 3))) (gNm 1) (dSeq (dSet 2 (dCall s__law_small_or_great [] (dCons (dVar 0) dNil)))
    (dSeq (dMul [3, 4] (bCons (dMake (c "Word") i_Word [] (dCons (dCall s__law_block_text [] (dCons (dVar 2) dNil)) dNil)) (bCons (dCall s__law_sum_of [] (dCons (dVar 2) dNil)) bNil)))
    (dSeq (dSet 5 (dCall s__law_near_places [] (dCons (dVar 0) (dCons (dVar 2) dNil))))
    (dSeq (dFor (iVal (dVar 5)) (gNm 6) (dSeq (dIf (dTB (dOp gNe (dMeth (c "Word") "letter" s_Word_letter [] (dVar 3) (dCons (dVar 6) dNil)) (dCall s__law_letter_at [] (dCons (dVar 2) (dCons (dVar 6) dNil))))) (dRet (dC (.bl false))) dNx)
    (dSeq (dSet 7 (dIte (dTB (dOp gGt (dVar 6) (dC (.int 0)))) (dLst (dCons (dMeth (c "Word") "part" s_Word_part [] (dVar 3) (dCons (dC (.int 0)) (dCons (dVar 6) dNil))) (dCons (dMeth (c "Word") "part" s_Word_part [] (dVar 3) (dCons (dVar 6) (dCons (dVar 4) dNil))) dNil))) (dLst dNil)))
    (dIf (dAnd (dTB (dOp gNeL (dVar 7) (dLst dNil))) (dTB (dOp (gOwn (c "Word") true s_Word___eq__) (dMeth (c "Word") "joined" s_Word_joined [] (dOp gIx (dVar 7) (dC (.int 0))) (dCons (dOp gIx (dVar 7) (dC (.int 1))) dNil)) (dVar 3)))) (dRet (dC (.bl false))) dNx))))
    (dFor (iVal (dVar 5)) (gNm 8) (dFor (iVal (dO (dComp (iVal (dOp gAdd (dVar 5) (dLst (dCons (dVar 4) dNil)))) (gNm 12) (dTB (dOp gGt (dVar 12) (dVar 8))) (dVar 12) [12]))) (gNm 9) (dSeq (dSet 10 (dMeth (c "Word") "part" s_Word_part [] (dVar 3) (dCons (dVar 8) (dCons (dVar 9) dNil))))
    (dSeq (dIf (dOr (dTB (dOp gNe (dProp (c "Word") s_Word_text (dVar 10)) (dCall s__law_block_text [] (dCons (dCall s__law_blocks_part [] (dCons (dVar 2) (dCons (dVar 8) (dCons (dVar 9) dNil)))) dNil)))) (dTB (dOp gNe (dProp (c "Word") s_Word_size (dVar 10)) (dOp gSub (dVar 9) (dVar 8))))) (dRet (dC (.bl false))) dNx)
    (dSeq (dSet 11 (dCall s__law_place [] (dCons (dVar 0) (dCons (dOp gSub (dVar 9) (dVar 8)) dNil))))
    (dIf (dTB (dOp (gOwn (c "Word") true s_Word___eq__) (dMeth (c "Word") "part" s_Word_part [] (dVar 10) (dCons (dVar 11) (dCons (dOp gSub (dVar 9) (dVar 8)) dNil))) (dMeth (c "Word") "part" s_Word_part [] (dVar 3) (dCons (dOp gAdd (dVar 8) (dVar 11)) (dCons (dVar 9) dNil))))) (dRet (dC (.bl false))) dNx)))))))))))
    (dRet (dC (.bl true))))
end LW
namespace LW
open PySem L2 Pd
mutual
def rbD : D → Nat
  | .non => 4
  | .bl _ => 5
  | .int i => (numD i).length
  | .str t => 10 * t.length + 2
  | .lst xs => rbDs xs + 3
  | .tup xs => rbDs xs + 3
  | .obj _ _ => 4
  | .pot => 4
  | .scr _ => 4
  | .ref _ => 4
  | .tupK xs => rbDs xs + 3
  | .tupF _ => 4
  | .err _ _ => 4
  | .cel _ _ => 4
  | .dic ks vs => if ks.length = 0 then 2 else 0
def rbDs : List D → Nat
  | [] => 0
  | x :: xs => rbD x + 2 + rbDs xs
end
end LW
namespace LW
open PySem L2 Pd
def plD : D → Bool
  | .non => true
  | .bl _ => true
  | .int _ => true
  | .str _ => true
  | .lst _ => true
  | .tup _ => true
  | .dic _ _ => true
  | _ => false
end LW
namespace LW
open PySem L2 Pd
mutual
def anD : D → Bool
  | .non => true
  | .bl _ => true
  | .int i => decide (i.natAbs.log2 < 1920)
  | .str t => t.all (· < 1114112)
  | .lst xs => anDs xs
  | .tup xs => anDs xs
  | .obj _ _ => false
  | .pot => false
  | .scr _ => false
  | .ref _ => false
  | .tupK _ => false
  | .tupF _ => false
  | .err _ _ => false
  | .cel _ _ => false
  | .dic ks vs => decide (ks.length = 0) && decide (vs.length = 0)
def anDs : List D → Bool
  | [] => true
  | x :: xs => anD x && anDs xs
end
mutual
def dpD : D → Nat
  | .lst xs => dpDs xs + 1
  | .tup xs => dpDs xs + 1
  | .dic _ _ => 1
  | .tupK xs => dpDs xs + 1
  | _ => 0
def dpDs : List D → Nat
  | [] => 0
  | x :: xs => max (dpD x) (dpDs xs)
end
theorem numD_any {i : Int} {k : Nat} (hk : 0 < k) (h : i.natAbs < 10 ^ k) : (numD i).length ≤ k + 1 := by
  have e := int_text_length_le10 hk h
  have e2 : (numD i).length = (toString i : Str).length := by
    unfold numD
    simp [Str.length]
  rw [e2]
  exact Nat.le_trans (Nat.le_of_eq (ofString_length _)) e
theorem log_any {i : Int} (h : i.natAbs < 10 ^ 300) : i.natAbs.log2 < 1920 := by
  by_cases h0 : i.natAbs = 0
  · rw [h0]
    decide
  · rw [Nat.log2_lt h0]
    exact Nat.lt_trans h (by decide)
def Any (B : Nat) (d : D) : Prop := anD d = true ∧ dpD d ≤ 30 ∧ rbD d ≤ B
theorem Any.mono {A B : Nat} {d : D} (h : Any A d) (hAB : A ≤ B) : Any B d := ⟨h.1, h.2.1, Nat.le_trans h.2.2 hAB⟩
theorem Any.pl {B : Nat} {d : D} (h : Any B d) : plD d = true := by
  have := h.1
  cases d <;> first | rfl | simp [anD] at this
theorem Any.int {i : Int} {B : Nat} (h : i.natAbs.log2 < 1920) (hB : (numD i).length ≤ B) : Any B (.int i) := ⟨by rw [anD]; exact decide_eq_true h, by simp [dpD], by rw [rbD]; exact hB⟩
theorem Any.str {t : List Nat} {B : Nat} (h : ∀ c ∈ t, c < 1114112) (hB : 10 * t.length + 2 ≤ B) : Any B (.str t) := ⟨by rw [anD]; exact List.all_eq_true.mpr fun c hc => decide_eq_true (h c hc), by simp [dpD], by rw [rbD]; exact hB⟩
def V5 (d : D) : Prop := anD d = true ∧ dpD d ≤ 3 ∧ rbD d ≤ 1000
theorem V5.pl {d : D} (h : V5 d) : plD d = true := Any.pl (B := 1000) ⟨h.1, Nat.le_trans h.2.1 (by decide), h.2.2⟩
theorem V5.int {i : Int} (h : i.natAbs < 10 ^ 300) : V5 (.int i) := ⟨by rw [anD]; exact decide_eq_true (log_any h), by simp [dpD], by rw [rbD]; exact Nat.le_trans (numD_any (by decide) h) (by decide)⟩
end LW
namespace LW
open PySem L2 Pd
def seven : List Nat := [97, 98, 99, 113, 120, 121, 122]
theorem seven_lt {c : Nat} (h : c ∈ seven) : c < 1114112 := (by decide : ∀ c ∈ seven, c < 1114112) c h
def A7 (l : List Nat) : Prop := ∀ c ∈ l, c ∈ seven
theorem A7.app {a b : List Nat} (h : A7 a) (g : A7 b) : A7 (a ++ b) := fun c hc => (List.mem_append.mp hc).elim (h c) (g c)
theorem A7.sub {a b : List Nat} (h : A7 b) (g : ∀ c ∈ a, c ∈ b) : A7 a := fun c hc => h c (g c hc)
theorem A7.rep {a : List Nat} (h : A7 a) (k : Nat) : A7 (List.replicate k a).flatten := fun c hc => by
  obtain ⟨l, h1, h2⟩ := List.mem_flatten.mp hc
  exact h c (List.eq_of_mem_replicate h1 ▸ h2)
theorem A7.take {a : List Nat} (h : A7 a) (k : Nat) : A7 (a.take k) := h.sub fun c hc => List.mem_of_mem_take hc
theorem A7.drop {a : List Nat} (h : A7 a) (k : Nat) : A7 (a.drop k) := h.sub fun c hc => List.mem_of_mem_drop hc
theorem A7.lt {l : List Nat} (h : A7 l) : ∀ c ∈ l, c < 1114112 := fun c hc => seven_lt (h c hc)
end LW
namespace LW
open PySem L2 Pd
theorem seq_all {A B : DS} {N : DN} {n : Nat} {ε : Ev} (F : Nat → Ev → Prop) (h : ∀ nx : Nat → Ev → Prop, (∀ n ε, F n ε → nx n ε) → A { N with nx := nx } n ε) (k : ∀ n ε, F n ε → B N n ε) : dSeq A B N n ε := h _ k
theorem seq_at {A B : DS} {N : DN} {n : Nat} {ε : Ev} (n1 : Nat) (ε1 : Ev) (h : ∀ nx : Nat → Ev → Prop, nx n1 ε1 → A { N with nx := nx } n ε) (k : B N n1 ε1) : dSeq A B N n ε := h _ k
theorem if_no {t : DT} {A : DS} {N : DN} {n : Nat} {ε : Ev} (n1 : Nat) (h : ∀ P : Nat → Bool → Prop, P n1 false → t n ε P) (k : N.nx n1 ε) : dIf t A dNx N n ε := h _ ⟨fun z => (by cases z), fun _ => k⟩
end LW
namespace LW
open PySem L2 Pd
mutual
def bvD : D → Bool
  | .non => true
  | .bl _ => true
  | .int i => decide (i.natAbs < 10 ^ 300)
  | .str t => t.all (· < 128)
  | .lst xs => bvDs xs
  | .tup xs => bvDs xs
  | .obj _ _ => false
  | .pot => false
  | .scr _ => false
  | .ref _ => false
  | .tupK _ => false
  | .tupF _ => false
  | .err _ _ => false
  | .cel _ _ => false
  | .dic _ _ => false
def bvDs : List D → Bool
  | [] => true
  | x :: xs => bvD x && bvDs xs
end
theorem anDs_iff : ∀ {xs : List D}, anDs xs = true ↔ ∀ x ∈ xs, anD x = true
  | [] => by simp [anDs]
  | x :: xs => by
    rw [anDs, Bool.and_eq_true, anDs_iff (xs := xs)]
    simp
theorem dpDs_iff {k : Nat} : ∀ {xs : List D}, dpDs xs ≤ k ↔ ∀ x ∈ xs, dpD x ≤ k
  | [] => by simp [dpDs]
  | x :: xs => by
    rw [dpDs, Nat.max_le, dpDs_iff (xs := xs)]
    simp
theorem rbDs_mem {x : D} : ∀ {xs : List D}, x ∈ xs → rbD x + 2 ≤ rbDs xs
  | y :: ys, h => by
    rw [rbDs]
    rcases List.mem_cons.mp h with rfl | h
    · omega
    · have := rbDs_mem h
      omega
end LW
namespace LW
open PySem L2 Pd
def b__law_letter_at (c : Str → Addr)  : DS := (dSeq (dFor (iVal (dVar 0)) (gTp 2 (gsCons (gNm 2) (gsCons (gNm 3) gsNil))) (dSeq (dIf (dTB (dOp gLt (dVar 1) (dVar 3))) (dRet (dVar 2)) dNx)
    (dSet 1 (dOp gSub (dVar 1) (dVar 3)))))
    (dRet (dC .non)))
end LW
namespace LW
open PySem L2 Pd
theorem own_same {c : Str → Addr} {x : List Bl} {P : D → Prop} (q : P (.bl false)) : gOwn (c "Word") true (s_Word_eq c) (wordD c x) (wordD c x) P := ⟨_, _, rfl, rfl, fun n => ⟨x, x, rfl, rfl, _, rfl, by rw [decide_eq_true rfl]; exact q⟩⟩
end LW
namespace LW
open PySem L2 Pd
def b__law_place (c : Str → Addr) (s__law_take : FD) (s__law_of : FD) : DS := (dSeq (dSet 2 (dLst (dCons (dC (.int 0)) (dCons (dOp gSub (dVar 1) (dC (.int 1))) (dCons (dOp gFdiv (dVar 1) (dC (.int 2))) (dCons (dOp gFdiv (dVar 1) (dC (.int 3))) (dCons (dCall s__law_take [] (dCons (dVar 0) (dCons (dBi gMin (dCons (dVar 1) (dCons (dC (.int 50)) dNil))) dNil))) dNil)))))))
    (dRet (dCall s__law_of [] (dCons (dVar 0) (dCons (dOp gAdd (dVar 2) (dLst (dCons (dBi gInt (dCons (dOp gFdiv (dOp gMul (dCall s__law_take [] (dCons (dVar 0) (dCons (dOp gPow (dC (.int 10)) (dC (.int 9))) dNil))) (dVar 1)) (dOp gPow (dC (.int 10)) (dC (.int 9)))) dNil)) dNil))) dNil)))))
end LW
namespace LW
open PySem L2 Pd
def s_place : FD := fun ds n P => ∃ m : Nat, ds = [.pot, .int m] ∧ 1 ≤ m ∧ m < 2 ^ 150 ∧ 10 ≤ n ∧ ∀ n' k : Nat, n' ≤ n → n ≤ n' + 3 → k < m → P n' (.int k)
theorem l_place (c : Str → Addr) : ∀ ds n Q, s_place ds n Q → dFn 3 2 (b__law_place c takeF s_of) ds n Q := by
  rintro ds n Q ⟨m, rfl, h1, h2, h0, q⟩
  refine ⟨rfl, ?_⟩
  simp only [b__law_place, envOf, dRet, dRetN, dOp, dSl, dSlO, dVar, dC, pSome, pNo, ev_sll, ev_slt, ev_sls, dBi, dCons, dNil, ev_lenl, ev_lent, ev_lens, ev_lenr, ev_gI, TC, Pd.gSub, gLt, gLe, gGt, gGe, gMod, gFdiv, gPow, gEq, gNe, ev_oki, ev_oks, ev_okl, ev_okt, gIs, gIsNot, gIsB, gIsNotB, Pd.isNon, dCall, dSeq, dSet, dSetO, dMul, setL, bCons, bOwn, bNil, dIf, dIte, dTB, dAnd, dOr, dNot, dBV, dAndV, dOrV, dChain, dTmp, dTmpT, frzE, dFrz, OD.d, dIxO, dApp, dSetI, dNeg, dLst, dLstO, dTup, dO, dDrop, ev_abs, ev_inttoi, ev_inttob, ev_inttos, ev_strtoi, ev_listl, ev_listt, ev_lists, ev_tupl, ev_tupt, ev_addi, ev_adds, ev_addl, ev_addt, ev_muli, ev_muls, ev_mull, ev_max, ev_min, ev_all, ev_any, gRepr, dLRg, Pd.r1, Pd.r2, eqD_str, eqD_int, eqD_bl, dFld, dProp, dMeth, dAugI, dRev, dMake, dIsi, isT, isC, dNx, dBrk, dNev, dFst, gNm, gTp, gsCons, gsNil, dAsg, dStar, dYes, iniEnd, flatD, wipeE, ev_ixl, ev_ixt, ev_ixs, ev_ixr, ev_srcl, ev_srct, ev_srcs, ev_at0, ev_at1, ev_atl, ev_atn, ev_ixn, Option.some.injEq, exists_eq_left', exists_eq_left, List.foldl_cons, List.foldl_nil, List.map_cons, List.map_nil, List.replicate, List.length_append, List.length_map, List.length_cons, List.length_nil, List.cons_append, List.nil_append, List.append_nil, List.getElem?_cons_zero, List.getElem?_cons_succ, List.set_cons_zero, List.set_cons_succ, Nat.zero_add, Nat.reduceAdd, Nat.reduceSub, Nat.reduceLeDiff, true_and, and_true, decide_eq_true_eq, decide_eq_false_iff_not, ne_eq, reduceCtorEq, false_implies, true_implies, forall_const, Bool.and_self, Bool.and_true, Bool.true_and, lk_ends, lk_blocks, lk_text, lk_spot, lk_letter, Int.toNat_natCast, dFldO, dTmq, dMut, dSetQ, dParQ, qMake, D.still, D.stills, lf_past, lf_word, lf_letters, pf_past, pf_later, pm1, pm2, pm3, pm4, pi1, pi2, pi3, pi4, pi5, lm_state, lm_text, lm_search]
  refine ⟨⟨by decide, by decide⟩, ⟨by decide, by decide⟩, ?_⟩
  rw [show (if (50 : Int) < (m : Int) then (50 : Int) else (m : Int)) = ((min m 50 : Nat) : Int) by split <;> omega]
  refine ⟨_, rfl, by omega, by rw [Int.natAbs_natCast]; exact Nat.lt_of_le_of_lt (Nat.min_le_right m 50) (by decide), n - 1, by omega, fun r r0 r1 => ?_⟩
  refine ⟨⟨by decide, by decide, by decide +kernel⟩, ?_⟩
  have e9 : (10 : Int) ^ Int.toNat 9 = 1000000000 := by decide +kernel
  rw [e9]
  refine ⟨_, rfl, by decide, by decide, n - 2, by omega, fun r' r2 r3 => ?_⟩
  obtain ⟨k', rfl⟩ : ∃ d : Nat, r' = d := ⟨r'.toNat, by omega⟩
  have hk' : k' < 1000000000 := by omega
  simp only [envOf, dRet, dRetN, dOp, dSl, dSlO, dVar, dC, pSome, pNo, ev_sll, ev_slt, ev_sls, dBi, dCons, dNil, ev_lenl, ev_lent, ev_lens, ev_lenr, ev_gI, TC, Pd.gSub, gLt, gLe, gGt, gGe, gMod, gFdiv, gPow, gEq, gNe, ev_oki, ev_oks, ev_okl, ev_okt, gIs, gIsNot, gIsB, gIsNotB, Pd.isNon, dCall, dSeq, dSet, dSetO, dMul, setL, bCons, bOwn, bNil, dIf, dIte, dTB, dAnd, dOr, dNot, dBV, dAndV, dOrV, dChain, dTmp, dTmpT, frzE, dFrz, OD.d, dIxO, dApp, dSetI, dNeg, dLst, dLstO, dTup, dO, dDrop, ev_abs, ev_inttoi, ev_inttob, ev_inttos, ev_strtoi, ev_listl, ev_listt, ev_lists, ev_tupl, ev_tupt, ev_addi, ev_adds, ev_addl, ev_addt, ev_muli, ev_muls, ev_mull, ev_max, ev_min, ev_all, ev_any, gRepr, dLRg, Pd.r1, Pd.r2, eqD_str, eqD_int, eqD_bl, dFld, dProp, dMeth, dAugI, dRev, dMake, dIsi, isT, isC, dNx, dBrk, dNev, dFst, gNm, gTp, gsCons, gsNil, dAsg, dStar, dYes, iniEnd, flatD, wipeE, ev_ixl, ev_ixt, ev_ixs, ev_ixr, ev_srcl, ev_srct, ev_srcs, ev_at0, ev_at1, ev_atl, ev_atn, ev_ixn, Option.some.injEq, exists_eq_left', exists_eq_left, List.foldl_cons, List.foldl_nil, List.map_cons, List.map_nil, List.replicate, List.length_append, List.length_map, List.length_cons, List.length_nil, List.cons_append, List.nil_append, List.append_nil, List.getElem?_cons_zero, List.getElem?_cons_succ, List.set_cons_zero, List.set_cons_succ, Nat.zero_add, Nat.reduceAdd, Nat.reduceSub, Nat.reduceLeDiff, true_and, and_true, decide_eq_true_eq, decide_eq_false_iff_not, ne_eq, reduceCtorEq, false_implies, true_implies, forall_const, Bool.and_self, Bool.and_true, Bool.true_and, lk_ends, lk_blocks, lk_text, lk_spot, lk_letter, Int.toNat_natCast, dFldO, dTmq, dMut, dSetQ, dParQ, qMake, D.still, D.stills, lf_past, lf_word, lf_letters, pf_past, pf_later, pm1, pm2, pm3, pm4, pi1, pi2, pi3, pi4, pi5, lm_state, lm_text, lm_search]
  refine ⟨mulG (by rw [Int.natAbs_natCast]; exact Nat.lt_of_lt_of_le hk' (by decide)) (by rw [Int.natAbs_natCast]; exact Nat.lt_of_lt_of_le h2 (by decide)), ⟨by decide, by decide, by decide +kernel⟩, ?_⟩
  refine ⟨⟨by decide, by decide +kernel⟩, ?_⟩
  refine ⟨_, _, n - 3, rfl, rfl, (fun l e => by cases e), Nat.succ_pos _, by show 6 ≤ _; decide, by omega, fun x hx => ?_⟩
  have key : ∀ k : Nat, k < m → Q (n - 3) (.int (k : Nat)) := fun k hk => q (n - 3) k (by omega) (by omega) hk
  simp only [srcD, List.mem_cons, List.mem_nil_iff, or_false] at hx
  rcases hx with rfl | rfl | rfl | rfl | rfl | rfl
  · exact key 0 (by omega)
  · rw [show (m : Int) - 1 = ((m - 1 : Nat) : Int) by omega]
    exact key _ (by omega)
  · rw [show (m : Int) / 2 = ((m / 2 : Nat) : Int) by omega]
    exact key _ (by omega)
  · rw [show (m : Int) / 3 = ((m / 3 : Nat) : Int) by omega]
    exact key _ (by omega)
  · obtain ⟨k, rfl⟩ : ∃ d : Nat, r = d := ⟨r.toNat, by omega⟩
    exact key k (by omega)
  · have hlt : k' * m / 1000000000 < m := by
      rw [Nat.div_lt_iff_lt_mul (by decide), Nat.mul_comm]
      exact Nat.mul_lt_mul_of_pos_left hk' h1
    rw [show ((k' : Int) * (m : Int)) / 1000000000 = ((k' * m / 1000000000 : Nat) : Int) by rw [Int.natCast_ediv, Int.natCast_mul, show ((1000000000 : Nat) : Int) = 1000000000 by decide]]
    exact key _ hlt
end LW
namespace LW
open PySem L2 Pd
theorem size_bd05 : ∀ {bs : List Bl}, (∀ b ∈ bs, b.2 < 10 ^ 30) → size bs ≤ bs.length * 10 ^ 30
  | [], _ => Nat.zero_le _
  | b :: r, h => by
    have ih := size_bd05 (bs := r) fun x hx => h x (List.mem_cons_of_mem _ hx)
    have hb := h b (by simp)
    unfold size at ih ⊢
    rw [expand, List.length_append, List.length_replicate, List.length_cons, Nat.succ_mul]
    omega
theorem size_le05 {bs : List Bl} (T : Told bs) : size bs ≤ 40 * 10 ^ 30 := Nat.le_trans (size_bd05 fun b hb => (T.2.2.1 b hb).1) (Nat.mul_le_mul_right _ T.2.1)
end LW
namespace LW
open PySem L2 Pd
def plS (v : D) : Prop := plD v = true ∧ ∀ xs, v = .tup xs → xs.length ≤ 1000000 ∧ ∀ x ∈ xs, plD x = true
def A51 (v : D) : Prop := anD v = true ∧ dpD v ≤ 10 ∧ rbD v ≤ 5000
theorem rb_len : ∀ xs : List D, 2 * xs.length ≤ rbDs xs
  | [] => by simp [rbDs]
  | x :: xs => by
    have := rb_len xs
    rw [List.length_cons, rbDs]
    omega
theorem A51.pl {v : D} (h : A51 v) : plS v := by
  refine ⟨Any.pl (B := 5000) ⟨h.1, Nat.le_trans h.2.1 (by decide), h.2.2⟩, fun xs e => ?_⟩
  subst e
  obtain ⟨h1, h2, h3⟩ := h
  rw [rbD] at h3
  have := rb_len xs
  rw [anD] at h1
  refine ⟨by omega, fun x hx => Any.pl (B := 5000) ⟨anDs_iff.mp h1 x hx, ?_, ?_⟩⟩
  · rw [dpD] at h2
    have := dpDs_iff.mp (Nat.le_refl (dpDs xs)) x hx
    omega
  · have := rbDs_mem hx
    omega
def F51 (x : D) : Prop := anD x = true ∧ dpD x ≤ 1 ∧ rbD x ≤ 30
theorem F51.A {x : D} (h : F51 x) : A51 x := ⟨h.1, Nat.le_trans h.2.1 (by decide), Nat.le_trans h.2.2 (by decide)⟩
end LW
namespace LW
open PySem L2 Pd
def s_letter_at : FD := fun ds n P => ∃ (bs : List Bl) (p a : Nat), ds = [.lst (bs.map blkD), .int p] ∧ (expand bs)[p]? = some a ∧ P n (.str [a])
theorem l_letter_at (c : Str → Addr) : ∀ ds n Q, s_letter_at ds n Q → dFn 4 2 (b__law_letter_at c) ds n Q := by
  rintro ds n Q ⟨bs, p, a, rfl, ha, q⟩
  refine ⟨rfl, ?_⟩
  have hp : p < (expand bs).length := (List.getElem?_eq_some_iff.mp ha).1
  simp only [b__law_letter_at, dFor, iVal, envOf, dRet, dRetN, dOp, dSl, dSlO, dVar, dC, pSome, pNo, ev_sll, ev_slt, ev_sls, dBi, dCons, dNil, ev_lenl, ev_lent, ev_lens, ev_lenr, ev_gI, TC, Pd.gSub, gLt, gLe, gGt, gGe, gMod, gFdiv, gPow, gEq, gNe, ev_oki, ev_oks, ev_okl, ev_okt, gIs, gIsNot, gIsB, gIsNotB, Pd.isNon, dCall, dSeq, dSet, dSetO, dMul, setL, bCons, bOwn, bNil, dIf, dIte, dTB, dAnd, dOr, dNot, dBV, dAndV, dOrV, dChain, dTmp, dTmpT, frzE, dFrz, OD.d, dIxO, dApp, dSetI, dNeg, dLst, dLstO, dTup, dO, dDrop, ev_abs, ev_inttoi, ev_inttob, ev_inttos, ev_strtoi, ev_listl, ev_listt, ev_lists, ev_tupl, ev_tupt, ev_addi, ev_adds, ev_addl, ev_addt, ev_muli, ev_muls, ev_mull, ev_max, ev_min, ev_all, ev_any, gRepr, dLRg, Pd.r1, Pd.r2, eqD_str, eqD_int, eqD_bl, dFld, dProp, dMeth, dAugI, dRev, dMake, dIsi, isT, isC, dNx, dBrk, dNev, dFst, gNm, gTp, gsCons, gsNil, dAsg, dStar, dYes, iniEnd, flatD, wipeE, ev_ixl, ev_ixt, ev_ixs, ev_ixr, ev_srcl, ev_srct, ev_srcs, ev_at0, ev_at1, ev_atl, ev_atn, ev_ixn, Option.some.injEq, exists_eq_left', exists_eq_left, List.foldl_cons, List.foldl_nil, List.map_cons, List.map_nil, List.replicate, List.length_append, List.length_map, List.length_cons, List.length_nil, List.cons_append, List.nil_append, List.append_nil, List.getElem?_cons_zero, List.getElem?_cons_succ, List.set_cons_zero, List.set_cons_succ, Nat.zero_add, Nat.reduceAdd, Nat.reduceSub, Nat.reduceLeDiff, true_and, and_true, decide_eq_true_eq, decide_eq_false_iff_not, ne_eq, reduceCtorEq, false_implies, true_implies, forall_const, Bool.and_self, Bool.and_true, Bool.true_and, lk_ends, lk_blocks, lk_text, lk_spot, lk_letter, Int.toNat_natCast, dFldO, dTmq, dMut, dSetQ, dParQ, qMake, D.still, D.stills, lf_past, lf_word, lf_letters, pf_past, pf_later, pm1, pm2, pm3, pm4, pi1, pi2, pi3, pi4, pi5, lm_state, lm_text, lm_search]
  refine for_map blkD (fun x r n' ε => ∃ (s2 s3 : Sl), n' = n ∧ size x ≤ p ∧ ε = [.val (.lst (bs.map blkD)), .val (.int (p - size x : Nat)), s2, s3]) bs ⟨.no, .no, rfl, Nat.zero_le _, rfl⟩ ?_ ?_
  · rintro n' ε ⟨s2, s3, rfl, h, rfl⟩
    exact absurd hp (Nat.not_lt.mpr h)
  · rintro x y r n' ε nxt e1 ih ⟨s2, s3, rfl, h, rfl⟩
    have hx : (expand bs)[p]? = (if p - size x < y.2 then some y.1 else (expand bs)[p]?) := by
      split
      · rename_i h2
        rw [e1, expand_append, List.getElem?_append_right h, expand, List.getElem?_append_left (by rw [List.length_replicate]; exact h2), List.getElem?_replicate]
        exact if_pos h2
      · rfl
    have hs : size (x ++ [y]) = size x + y.2 := by
      unfold size
      rw [expand_append, List.length_append]
      simp [expand]
    have go := ih n' [.val (.lst (bs.map blkD)), .val (.int (p - size (x ++ [y]) : Nat)), .val (.str [y.1]), .val (.int y.2)]
    simp only [blkD, envOf, dRet, dRetN, dOp, dSl, dSlO, dVar, dC, pSome, pNo, ev_sll, ev_slt, ev_sls, dBi, dCons, dNil, ev_lenl, ev_lent, ev_lens, ev_lenr, ev_gI, TC, Pd.gSub, gLt, gLe, gGt, gGe, gMod, gFdiv, gPow, gEq, gNe, ev_oki, ev_oks, ev_okl, ev_okt, gIs, gIsNot, gIsB, gIsNotB, Pd.isNon, dCall, dSeq, dSet, dSetO, dMul, setL, bCons, bOwn, bNil, dIf, dIte, dTB, dAnd, dOr, dNot, dBV, dAndV, dOrV, dChain, dTmp, dTmpT, frzE, dFrz, OD.d, dIxO, dApp, dSetI, dNeg, dLst, dLstO, dTup, dO, dDrop, ev_abs, ev_inttoi, ev_inttob, ev_inttos, ev_strtoi, ev_listl, ev_listt, ev_lists, ev_tupl, ev_tupt, ev_addi, ev_adds, ev_addl, ev_addt, ev_muli, ev_muls, ev_mull, ev_max, ev_min, ev_all, ev_any, gRepr, dLRg, Pd.r1, Pd.r2, eqD_str, eqD_int, eqD_bl, dFld, dProp, dMeth, dAugI, dRev, dMake, dIsi, isT, isC, dNx, dBrk, dNev, dFst, gNm, gTp, gsCons, gsNil, dAsg, dStar, dYes, iniEnd, flatD, wipeE, ev_ixl, ev_ixt, ev_ixs, ev_ixr, ev_srcl, ev_srct, ev_srcs, ev_at0, ev_at1, ev_atl, ev_atn, ev_ixn, Option.some.injEq, exists_eq_left', exists_eq_left, List.foldl_cons, List.foldl_nil, List.map_cons, List.map_nil, List.replicate, List.length_append, List.length_map, List.length_cons, List.length_nil, List.cons_append, List.nil_append, List.append_nil, List.getElem?_cons_zero, List.getElem?_cons_succ, List.set_cons_zero, List.set_cons_succ, Nat.zero_add, Nat.reduceAdd, Nat.reduceSub, Nat.reduceLeDiff, true_and, and_true, decide_eq_true_eq, decide_eq_false_iff_not, ne_eq, reduceCtorEq, false_implies, true_implies, forall_const, Bool.and_self, Bool.and_true, Bool.true_and, lk_ends, lk_blocks, lk_text, lk_spot, lk_letter, Int.toNat_natCast, dFldO, dTmq, dMut, dSetQ, dParQ, qMake, D.still, D.stills, lf_past, lf_word, lf_letters, pf_past, pf_later, pm1, pm2, pm3, pm4, pi1, pi2, pi3, pi4, pi5, lm_state, lm_text, lm_search]
    refine ⟨fun h2 => ?_, fun h2 => ?_⟩
    · rw [if_pos (by omega)] at hx
      rw [hx] at ha
      rw [Option.some.inj ha]
      exact q
    · have hle : size (x ++ [y]) ≤ p := by omega
      have := go ⟨_, _, rfl, hle, rfl⟩
      rw [show ((p - size x : Nat) : Int) - (y.2 : Int) = ((p - size (x ++ [y]) : Nat) : Int) by omega]
      exact this
theorem nats_of (ms : List Int) (h : ∀ x ∈ ms, 0 ≤ x) : ms.map D.int = (ms.map Int.toNat).map intD := by
  rw [List.map_map]
  refine List.map_congr_left fun x hx => ?_
  have := h x hx
  show D.int x = D.int ((x.toNat : Nat) : Int)
  rw [show ((x.toNat : Nat) : Int) = x by omega]
theorem A51.mem {xs : List D} {x : D} (h : A51 (.tup xs)) (hx : x ∈ xs) : A51 x := by
  obtain ⟨h1, h2, h3⟩ := h
  rw [anD] at h1
  rw [dpD] at h2
  rw [rbD] at h3
  have := rbDs_mem hx
  have := dpDs_iff.mp (Nat.le_refl (dpDs xs)) x hx
  exact ⟨anDs_iff.mp h1 x hx, by omega, by omega⟩
theorem A51.len {xs : List D} (h : A51 (.tup xs)) : xs.length ≤ 5000 := by
  obtain ⟨h1, h2, h3⟩ := h
  rw [rbD] at h3
  have := rb_len xs
  omega
end LW
namespace LW
open PySem L2 Pd
def SV (x : D) : Prop := anD x = true ∧ dpD x ≤ 4 ∧ rbD x ≤ 100
theorem SV.A {x : D} (h : SV x) : A51 x := ⟨h.1, Nat.le_trans h.2.1 (by decide), Nat.le_trans h.2.2 (by decide)⟩
theorem SV_rb : ∀ {xs : List D}, (∀ x ∈ xs, SV x) → anDs xs = true ∧ dpDs xs ≤ 4 ∧ rbDs xs ≤ 102 * xs.length
  | [], _ => by simp [anDs, dpDs, rbDs]
  | x :: xs, h => by
    obtain ⟨h1, h2, h3⟩ := h x (by simp)
    obtain ⟨g1, g2, g3⟩ := SV_rb (xs := xs) fun y hy => h y (List.mem_cons_of_mem _ hy)
    rw [anDs, dpDs, rbDs, List.length_cons, h1, g1]
    exact ⟨rfl, by omega, by omega⟩
theorem SV_tup {xs : List D} (h : ∀ x ∈ xs, SV x) (hl : xs.length ≤ 40) : A51 (.tup xs) := by
  obtain ⟨g1, g2, g3⟩ := SV_rb h
  exact ⟨by rw [anD]; exact g1, by rw [dpD]; omega, by rw [rbD]; omega⟩
theorem SV.int {i : Int} (h : i.natAbs < 10 ^ 60) : SV (.int i) := ⟨by rw [anD]; exact decide_eq_true (log_any (Nat.lt_trans h (by decide))), by simp [dpD], by rw [rbD]; exact Nat.le_trans (numD_any (by decide) h) (by decide)⟩
def ToldA (d : D) : Prop := ∃ xs : List D, d = .tup xs ∧ 1 ≤ xs.length ∧ xs.length ≤ 2 ∧ (∀ x ∈ xs, SV x) ∧ bvD (.tup xs) = true
theorem ToldA.A {d : D} (h : ToldA d) : A51 d := by
  obtain ⟨xs, rfl, h1, h2, h3, h4⟩ := h
  exact SV_tup h3 (by omega)
end LW
namespace LW
open PySem L2 Pd
def s_near04 : FD := fun ds n P => ∃ (bs : List Bl), ds = [.pot, .lst (bs.map blkD)] ∧ Told bs ∧ 100 ≤ n ∧ ∀ n' (ms : List Nat), n' ≤ n → n ≤ n' + 20 → ms.length ≤ 12 → (∀ m ∈ ms, m < size bs) → P n' (.lst (ms.map intD))
theorem l_near04 (c : Str → Addr) : ∀ ds n Q, s_near04 ds n Q → dFn 8 2 (b__law_near_places_v2 c s_sumOf s_heads s_of s_place) ds n Q := by
  rintro ds n Q ⟨bs, rfl, T, h0, q⟩
  refine ⟨rfl, ?_⟩
  have hsz := size_le05 T
  have hbl := T.2.1
  have hs1 : 1 ≤ size bs := List.length_pos_iff.mpr (exp_ne T.1 T.2.2.2)
  have hsl := sts_len bs 0
  unfold b__law_near_places_v2
  refine seq_all (fun n1 ε => n1 = n ∧ ε = [.val .pot, .val (.lst (bs.map blkD)), .val (.int (size bs : Nat)), .val (.lst ((sts 0 bs).map intD)), .no, .no, .no, .no]) (fun nx hnx => ?_) ?_
  · simp only [envOf, dRet, dRetN, dOp, dSl, dSlO, dVar, dC, pSome, pNo, ev_sll, ev_slt, ev_sls, dBi, dCons, dNil, ev_lenl, ev_lent, ev_lens, ev_lenr, ev_gI, TC, Pd.gSub, gLt, gLe, gGt, gGe, gMod, gFdiv, gPow, gEq, gNe, ev_oki, ev_oks, ev_okl, ev_okt, gIs, gIsNot, gIsB, gIsNotB, Pd.isNon, dCall, dSeq, dSet, dSetO, dMul, setL, bCons, bOwn, bNil, dIf, dIte, dTB, dAnd, dOr, dNot, dBV, dAndV, dOrV, dChain, dTmp, dTmpT, frzE, dFrz, OD.d, dIxO, dApp, dSetI, dNeg, dLst, dLstO, dTup, dO, dDrop, ev_abs, ev_inttoi, ev_inttob, ev_inttos, ev_strtoi, ev_listl, ev_listt, ev_lists, ev_tupl, ev_tupt, ev_addi, ev_adds, ev_addl, ev_addt, ev_muli, ev_muls, ev_mull, ev_max, ev_min, ev_all, ev_any, gRepr, dLRg, Pd.r1, Pd.r2, eqD_str, eqD_int, eqD_bl, dFld, dProp, dMeth, dAugI, dRev, dMake, dIsi, isT, isC, dNx, dBrk, dNev, dFst, gNm, gTp, gsCons, gsNil, dAsg, dStar, dYes, iniEnd, flatD, wipeE, ev_ixl, ev_ixt, ev_ixs, ev_ixr, ev_srcl, ev_srct, ev_srcs, ev_at0, ev_at1, ev_atl, ev_atn, ev_ixn, Option.some.injEq, exists_eq_left', exists_eq_left, List.foldl_cons, List.foldl_nil, List.map_cons, List.map_nil, List.replicate, List.length_append, List.length_map, List.length_cons, List.length_nil, List.cons_append, List.nil_append, List.append_nil, List.getElem?_cons_zero, List.getElem?_cons_succ, List.set_cons_zero, List.set_cons_succ, Nat.zero_add, Nat.reduceAdd, Nat.reduceSub, Nat.reduceLeDiff, true_and, and_true, decide_eq_true_eq, decide_eq_false_iff_not, ne_eq, reduceCtorEq, false_implies, true_implies, forall_const, Bool.and_self, Bool.and_true, Bool.true_and, lk_ends, lk_blocks, lk_text, lk_spot, lk_letter, Int.toNat_natCast, dFldO, dTmq, dMut, dSetQ, dParQ, qMake, D.still, D.stills, lf_past, lf_word, lf_letters, pf_past, pf_later, pm1, pm2, pm3, pm4, pi1, pi2, pi3, pi4, pi5, lm_state, lm_text, lm_search]
    exact ⟨bs, rfl, by omega, bs, rfl, T.2.2.2, by omega, hnx _ _ ⟨rfl, rfl⟩⟩
  rintro n1 ε ⟨rfl, rfl⟩
  refine seq_all (fun n2 ε => n2 = n1 ∧ 13 ≤ size bs ∧ ε = [.val .pot, .val (.lst (bs.map blkD)), .val (.int (size bs : Nat)), .val (.lst ((sts 0 bs).map intD)), .no, .no, .no, .no]) (fun nx hnx => ?_) ?_
  · simp only [dLRg, envOf, dRet, dRetN, dOp, dSl, dSlO, dVar, dC, pSome, pNo, ev_sll, ev_slt, ev_sls, dBi, dCons, dNil, ev_lenl, ev_lent, ev_lens, ev_lenr, ev_gI, TC, Pd.gSub, gLt, gLe, gGt, gGe, gMod, gFdiv, gPow, gEq, gNe, ev_oki, ev_oks, ev_okl, ev_okt, gIs, gIsNot, gIsB, gIsNotB, Pd.isNon, dCall, dSeq, dSet, dSetO, dMul, setL, bCons, bOwn, bNil, dIf, dIte, dTB, dAnd, dOr, dNot, dBV, dAndV, dOrV, dChain, dTmp, dTmpT, frzE, dFrz, OD.d, dIxO, dApp, dSetI, dNeg, dLst, dLstO, dTup, dO, dDrop, ev_abs, ev_inttoi, ev_inttob, ev_inttos, ev_strtoi, ev_listl, ev_listt, ev_lists, ev_tupl, ev_tupt, ev_addi, ev_adds, ev_addl, ev_addt, ev_muli, ev_muls, ev_mull, ev_max, ev_min, ev_all, ev_any, gRepr, dLRg, Pd.r1, Pd.r2, eqD_str, eqD_int, eqD_bl, dFld, dProp, dMeth, dAugI, dRev, dMake, dIsi, isT, isC, dNx, dBrk, dNev, dFst, gNm, gTp, gsCons, gsNil, dAsg, dStar, dYes, iniEnd, flatD, wipeE, ev_ixl, ev_ixt, ev_ixs, ev_ixr, ev_srcl, ev_srct, ev_srcs, ev_at0, ev_at1, ev_atl, ev_atn, ev_ixn, Option.some.injEq, exists_eq_left', exists_eq_left, List.foldl_cons, List.foldl_nil, List.map_cons, List.map_nil, List.replicate, List.length_append, List.length_map, List.length_cons, List.length_nil, List.cons_append, List.nil_append, List.append_nil, List.getElem?_cons_zero, List.getElem?_cons_succ, List.set_cons_zero, List.set_cons_succ, Nat.zero_add, Nat.reduceAdd, Nat.reduceSub, Nat.reduceLeDiff, true_and, and_true, decide_eq_true_eq, decide_eq_false_iff_not, ne_eq, reduceCtorEq, false_implies, true_implies, forall_const, Bool.and_self, Bool.and_true, Bool.true_and, lk_ends, lk_blocks, lk_text, lk_spot, lk_letter, Int.toNat_natCast, dFldO, dTmq, dMut, dSetQ, dParQ, qMake, D.still, D.stills, lf_past, lf_word, lf_letters, pf_past, pf_later, pm1, pm2, pm3, pm4, pi1, pi2, pi3, pi4, pi5, lm_state, lm_text, lm_search]
    refine ⟨fun h => ?_, fun h => hnx _ _ ⟨rfl, by omega, rfl⟩⟩
    have e : rgD 0 (size bs : Int) = (List.range (size bs)).map intD := by
      unfold rgD
      rw [show ((size bs : Int) - 0).toNat = size bs by omega]
      exact rngD0 _
    refine ⟨?_, ?_⟩
    · unfold okRg
      omega
    rw [e]
    exact q _ _ (Nat.le_refl _) (by omega) (by rw [List.length_range]; omega) fun m hm => List.mem_range.mp hm
  rintro n2 ε ⟨rfl, h13, rfl⟩
  refine seq_all (fun n3 ε => n3 ≤ n2 ∧ n2 ≤ n3 + 3 ∧ ∃ vs : List Int, vs.length = 5 ∧ ε = [.val .pot, .val (.lst (bs.map blkD)), .val (.int (size bs : Nat)), .val (.lst ((sts 0 bs).map intD)), .own (.lst (vs.map D.int)), .no, .no, .no]) (fun nx hnx => ?_) ?_
  · simp only [dCatO, dComp, iVal, envOf, dRet, dRetN, dOp, dSl, dSlO, dVar, dC, pSome, pNo, ev_sll, ev_slt, ev_sls, dBi, dCons, dNil, ev_lenl, ev_lent, ev_lens, ev_lenr, ev_gI, TC, Pd.gSub, gLt, gLe, gGt, gGe, gMod, gFdiv, gPow, gEq, gNe, ev_oki, ev_oks, ev_okl, ev_okt, gIs, gIsNot, gIsB, gIsNotB, Pd.isNon, dCall, dSeq, dSet, dSetO, dMul, setL, bCons, bOwn, bNil, dIf, dIte, dTB, dAnd, dOr, dNot, dBV, dAndV, dOrV, dChain, dTmp, dTmpT, frzE, dFrz, OD.d, dIxO, dApp, dSetI, dNeg, dLst, dLstO, dTup, dO, dDrop, ev_abs, ev_inttoi, ev_inttob, ev_inttos, ev_strtoi, ev_listl, ev_listt, ev_lists, ev_tupl, ev_tupt, ev_addi, ev_adds, ev_addl, ev_addt, ev_muli, ev_muls, ev_mull, ev_max, ev_min, ev_all, ev_any, gRepr, dLRg, Pd.r1, Pd.r2, eqD_str, eqD_int, eqD_bl, dFld, dProp, dMeth, dAugI, dRev, dMake, dIsi, isT, isC, dNx, dBrk, dNev, dFst, gNm, gTp, gsCons, gsNil, dAsg, dStar, dYes, iniEnd, flatD, wipeE, ev_ixl, ev_ixt, ev_ixs, ev_ixr, ev_srcl, ev_srct, ev_srcs, ev_at0, ev_at1, ev_atl, ev_atn, ev_ixn, Option.some.injEq, exists_eq_left', exists_eq_left, List.foldl_cons, List.foldl_nil, List.map_cons, List.map_nil, List.replicate, List.length_append, List.length_map, List.length_cons, List.length_nil, List.cons_append, List.nil_append, List.append_nil, List.getElem?_cons_zero, List.getElem?_cons_succ, List.set_cons_zero, List.set_cons_succ, Nat.zero_add, Nat.reduceAdd, Nat.reduceSub, Nat.reduceLeDiff, true_and, and_true, decide_eq_true_eq, decide_eq_false_iff_not, ne_eq, reduceCtorEq, false_implies, true_implies, forall_const, Bool.and_self, Bool.and_true, Bool.true_and, lk_ends, lk_blocks, lk_text, lk_spot, lk_letter, Int.toNat_natCast, dFldO, dTmq, dMut, dSetQ, dParQ, qMake, D.still, D.stills, lf_past, lf_word, lf_letters, pf_past, pf_later, pm1, pm2, pm3, pm4, pi1, pi2, pi3, pi4, pi5, lm_state, lm_text, lm_search]
    refine compW_inv (Inv := fun ys acc n' => n' ≤ n2 ∧ n2 + ys.length ≤ n' + 3 ∧ (∀ y ∈ ys, ∃ i : Int, y = .int i) ∧ ∃ us : List Int, acc = us.map D.int ∧ us.length + ys.length = 3) (fun acc n' ⟨i1, i2, _, us, i3, i4⟩ => ?_) (fun y ys acc n' KK hK ⟨i1, i2, i5, us, i3, i4⟩ => ?_) _ _ _ ⟨Nat.le_refl _, Nat.le_refl _, by simp, [], rfl, rfl⟩
    · rw [List.length_nil] at i2 i4
      subst i3
      have := hnx n' _ ⟨i1, by omega, us ++ [0, (size bs : Int) - 1], by rw [List.length_append]; simp only [List.length_cons, List.length_nil]; omega, rfl⟩
      rw [List.map_append] at this
      exact ⟨by rw [List.length_map]; omega, this⟩
    · rw [List.length_cons] at i2 i4
      subst i3
      obtain ⟨i, rfl⟩ := i5 y (by simp)
      simp only [envOf, dRet, dRetN, dOp, dSl, dSlO, dVar, dC, pSome, pNo, ev_sll, ev_slt, ev_sls, dBi, dCons, dNil, ev_lenl, ev_lent, ev_lens, ev_lenr, ev_gI, TC, Pd.gSub, gLt, gLe, gGt, gGe, gMod, gFdiv, gPow, gEq, gNe, ev_oki, ev_oks, ev_okl, ev_okt, gIs, gIsNot, gIsB, gIsNotB, Pd.isNon, dCall, dSeq, dSet, dSetO, dMul, setL, bCons, bOwn, bNil, dIf, dIte, dTB, dAnd, dOr, dNot, dBV, dAndV, dOrV, dChain, dTmp, dTmpT, frzE, dFrz, OD.d, dIxO, dApp, dSetI, dNeg, dLst, dLstO, dTup, dO, dDrop, ev_abs, ev_inttoi, ev_inttob, ev_inttos, ev_strtoi, ev_listl, ev_listt, ev_lists, ev_tupl, ev_tupt, ev_addi, ev_adds, ev_addl, ev_addt, ev_muli, ev_muls, ev_mull, ev_max, ev_min, ev_all, ev_any, gRepr, dLRg, Pd.r1, Pd.r2, eqD_str, eqD_int, eqD_bl, dFld, dProp, dMeth, dAugI, dRev, dMake, dIsi, isT, isC, dNx, dBrk, dNev, dFst, gNm, gTp, gsCons, gsNil, dAsg, dStar, dYes, iniEnd, flatD, wipeE, ev_ixl, ev_ixt, ev_ixs, ev_ixr, ev_srcl, ev_srct, ev_srcs, ev_at0, ev_at1, ev_atl, ev_atn, ev_ixn, Option.some.injEq, exists_eq_left', exists_eq_left, List.foldl_cons, List.foldl_nil, List.map_cons, List.map_nil, List.replicate, List.length_append, List.length_map, List.length_cons, List.length_nil, List.cons_append, List.nil_append, List.append_nil, List.getElem?_cons_zero, List.getElem?_cons_succ, List.set_cons_zero, List.set_cons_succ, Nat.zero_add, Nat.reduceAdd, Nat.reduceSub, Nat.reduceLeDiff, true_and, and_true, decide_eq_true_eq, decide_eq_false_iff_not, ne_eq, reduceCtorEq, false_implies, true_implies, forall_const, Bool.and_self, Bool.and_true, Bool.true_and, lk_ends, lk_blocks, lk_text, lk_spot, lk_letter, Int.toNat_natCast, dFldO, dTmq, dMut, dSetQ, dParQ, qMake, D.still, D.stills, lf_past, lf_word, lf_letters, pf_past, pf_later, pm1, pm2, pm3, pm4, pi1, pi2, pi3, pi4, pi5, lm_state, lm_text, lm_search]
      refine ⟨_, _, n' - 1, rfl, rfl, (fun l e => by cases e), by rw [List.length_map, hsl]; exact List.length_pos_iff.mpr T.2.2.2, by rw [List.length_map]; omega, by omega, fun z hz => ?_⟩
      obtain ⟨s, hs, rfl⟩ := List.mem_map.mp hz
      simp only [intD, envOf, dRet, dRetN, dOp, dSl, dSlO, dVar, dC, pSome, pNo, ev_sll, ev_slt, ev_sls, dBi, dCons, dNil, ev_lenl, ev_lent, ev_lens, ev_lenr, ev_gI, TC, Pd.gSub, gLt, gLe, gGt, gGe, gMod, gFdiv, gPow, gEq, gNe, ev_oki, ev_oks, ev_okl, ev_okt, gIs, gIsNot, gIsB, gIsNotB, Pd.isNon, dCall, dSeq, dSet, dSetO, dMul, setL, bCons, bOwn, bNil, dIf, dIte, dTB, dAnd, dOr, dNot, dBV, dAndV, dOrV, dChain, dTmp, dTmpT, frzE, dFrz, OD.d, dIxO, dApp, dSetI, dNeg, dLst, dLstO, dTup, dO, dDrop, ev_abs, ev_inttoi, ev_inttob, ev_inttos, ev_strtoi, ev_listl, ev_listt, ev_lists, ev_tupl, ev_tupt, ev_addi, ev_adds, ev_addl, ev_addt, ev_muli, ev_muls, ev_mull, ev_max, ev_min, ev_all, ev_any, gRepr, dLRg, Pd.r1, Pd.r2, eqD_str, eqD_int, eqD_bl, dFld, dProp, dMeth, dAugI, dRev, dMake, dIsi, isT, isC, dNx, dBrk, dNev, dFst, gNm, gTp, gsCons, gsNil, dAsg, dStar, dYes, iniEnd, flatD, wipeE, ev_ixl, ev_ixt, ev_ixs, ev_ixr, ev_srcl, ev_srct, ev_srcs, ev_at0, ev_at1, ev_atl, ev_atn, ev_ixn, Option.some.injEq, exists_eq_left', exists_eq_left, List.foldl_cons, List.foldl_nil, List.map_cons, List.map_nil, List.replicate, List.length_append, List.length_map, List.length_cons, List.length_nil, List.cons_append, List.nil_append, List.append_nil, List.getElem?_cons_zero, List.getElem?_cons_succ, List.set_cons_zero, List.set_cons_succ, Nat.zero_add, Nat.reduceAdd, Nat.reduceSub, Nat.reduceLeDiff, true_and, and_true, decide_eq_true_eq, decide_eq_false_iff_not, ne_eq, reduceCtorEq, false_implies, true_implies, forall_const, Bool.and_self, Bool.and_true, Bool.true_and, lk_ends, lk_blocks, lk_text, lk_spot, lk_letter, Int.toNat_natCast, dFldO, dTmq, dMut, dSetQ, dParQ, qMake, D.still, D.stills, lf_past, lf_word, lf_letters, pf_past, pf_later, pm1, pm2, pm3, pm4, pi1, pi2, pi3, pi4, pi5, lm_state, lm_text, lm_search]
      exact hK _ _ ⟨by omega, by omega, fun y hy => i5 y (List.mem_cons_of_mem _ hy), us ++ [(s : Int) + i], by rw [List.map_append]; rfl, by rw [List.length_append, List.length_singleton]; omega⟩
  rintro n3 ε ⟨a1, a2, vs, hv, rfl⟩
  refine seq_all (fun n4 ε => n4 ≤ n3 ∧ n3 ≤ n4 + 12 ∧ ∃ (vs : List Int), vs.length = 9 ∧ ε = [.val .pot, .val (.lst (bs.map blkD)), .val (.int (size bs : Nat)), .val (.lst ((sts 0 bs).map intD)), .own (.lst (vs.map D.int)), .no, .no, .no]) (fun nx hnx => ?_) ?_
  · simp only [dExt, dComp, iRg1, envOf, dRet, dRetN, dOp, dSl, dSlO, dVar, dC, pSome, pNo, ev_sll, ev_slt, ev_sls, dBi, dCons, dNil, ev_lenl, ev_lent, ev_lens, ev_lenr, ev_gI, TC, Pd.gSub, gLt, gLe, gGt, gGe, gMod, gFdiv, gPow, gEq, gNe, ev_oki, ev_oks, ev_okl, ev_okt, gIs, gIsNot, gIsB, gIsNotB, Pd.isNon, dCall, dSeq, dSet, dSetO, dMul, setL, bCons, bOwn, bNil, dIf, dIte, dTB, dAnd, dOr, dNot, dBV, dAndV, dOrV, dChain, dTmp, dTmpT, frzE, dFrz, OD.d, dIxO, dApp, dSetI, dNeg, dLst, dLstO, dTup, dO, dDrop, ev_abs, ev_inttoi, ev_inttob, ev_inttos, ev_strtoi, ev_listl, ev_listt, ev_lists, ev_tupl, ev_tupt, ev_addi, ev_adds, ev_addl, ev_addt, ev_muli, ev_muls, ev_mull, ev_max, ev_min, ev_all, ev_any, gRepr, dLRg, Pd.r1, Pd.r2, eqD_str, eqD_int, eqD_bl, dFld, dProp, dMeth, dAugI, dRev, dMake, dIsi, isT, isC, dNx, dBrk, dNev, dFst, gNm, gTp, gsCons, gsNil, dAsg, dStar, dYes, iniEnd, flatD, wipeE, ev_ixl, ev_ixt, ev_ixs, ev_ixr, ev_srcl, ev_srct, ev_srcs, ev_at0, ev_at1, ev_atl, ev_atn, ev_ixn, Option.some.injEq, exists_eq_left', exists_eq_left, List.foldl_cons, List.foldl_nil, List.map_cons, List.map_nil, List.replicate, List.length_append, List.length_map, List.length_cons, List.length_nil, List.cons_append, List.nil_append, List.append_nil, List.getElem?_cons_zero, List.getElem?_cons_succ, List.set_cons_zero, List.set_cons_succ, Nat.zero_add, Nat.reduceAdd, Nat.reduceSub, Nat.reduceLeDiff, true_and, and_true, decide_eq_true_eq, decide_eq_false_iff_not, ne_eq, reduceCtorEq, false_implies, true_implies, forall_const, Bool.and_self, Bool.and_true, Bool.true_and, lk_ends, lk_blocks, lk_text, lk_spot, lk_letter, Int.toNat_natCast, dFldO, dTmq, dMut, dSetQ, dParQ, qMake, D.still, D.stills, lf_past, lf_word, lf_letters, pf_past, pf_later, pm1, pm2, pm3, pm4, pi1, pi2, pi3, pi4, pi5, lm_state, lm_text, lm_search]
    refine ⟨by decide, by decide, by rw [rngD_length]; decide, ?_⟩
    refine compW_inv (Inv := fun ys acc n' => n' ≤ n3 ∧ n3 + 3 * ys.length ≤ n' + 12 ∧ ∃ us : List Int, acc = us.map D.int ∧ us.length + ys.length = 4) (fun acc n' ⟨i1, i2, us, i3, i4⟩ => ?_) (fun y ys acc n' KK hK ⟨i1, i2, us, i3, i4⟩ => ?_) _ _ _ ⟨Nat.le_refl _, by rw [rngD_length]; exact Nat.le_refl _, [], rfl, by rw [rngD_length]; rfl⟩
    · rw [List.length_nil] at i2 i4
      subst i3
      have := hnx n' _ ⟨i1, by omega, vs ++ us, by rw [List.length_append]; omega, rfl⟩
      rw [List.map_append] at this
      exact ⟨by rw [List.length_map]; omega, this⟩
    · rw [List.length_cons] at i2 i4
      subst i3
      simp only [envOf, dRet, dRetN, dOp, dSl, dSlO, dVar, dC, pSome, pNo, ev_sll, ev_slt, ev_sls, dBi, dCons, dNil, ev_lenl, ev_lent, ev_lens, ev_lenr, ev_gI, TC, Pd.gSub, gLt, gLe, gGt, gGe, gMod, gFdiv, gPow, gEq, gNe, ev_oki, ev_oks, ev_okl, ev_okt, gIs, gIsNot, gIsB, gIsNotB, Pd.isNon, dCall, dSeq, dSet, dSetO, dMul, setL, bCons, bOwn, bNil, dIf, dIte, dTB, dAnd, dOr, dNot, dBV, dAndV, dOrV, dChain, dTmp, dTmpT, frzE, dFrz, OD.d, dIxO, dApp, dSetI, dNeg, dLst, dLstO, dTup, dO, dDrop, ev_abs, ev_inttoi, ev_inttob, ev_inttos, ev_strtoi, ev_listl, ev_listt, ev_lists, ev_tupl, ev_tupt, ev_addi, ev_adds, ev_addl, ev_addt, ev_muli, ev_muls, ev_mull, ev_max, ev_min, ev_all, ev_any, gRepr, dLRg, Pd.r1, Pd.r2, eqD_str, eqD_int, eqD_bl, dFld, dProp, dMeth, dAugI, dRev, dMake, dIsi, isT, isC, dNx, dBrk, dNev, dFst, gNm, gTp, gsCons, gsNil, dAsg, dStar, dYes, iniEnd, flatD, wipeE, ev_ixl, ev_ixt, ev_ixs, ev_ixr, ev_srcl, ev_srct, ev_srcs, ev_at0, ev_at1, ev_atl, ev_atn, ev_ixn, Option.some.injEq, exists_eq_left', exists_eq_left, List.foldl_cons, List.foldl_nil, List.map_cons, List.map_nil, List.replicate, List.length_append, List.length_map, List.length_cons, List.length_nil, List.cons_append, List.nil_append, List.append_nil, List.getElem?_cons_zero, List.getElem?_cons_succ, List.set_cons_zero, List.set_cons_succ, Nat.zero_add, Nat.reduceAdd, Nat.reduceSub, Nat.reduceLeDiff, true_and, and_true, decide_eq_true_eq, decide_eq_false_iff_not, ne_eq, reduceCtorEq, false_implies, true_implies, forall_const, Bool.and_self, Bool.and_true, Bool.true_and, lk_ends, lk_blocks, lk_text, lk_spot, lk_letter, Int.toNat_natCast, dFldO, dTmq, dMut, dSetQ, dParQ, qMake, D.still, D.stills, lf_past, lf_word, lf_letters, pf_past, pf_later, pm1, pm2, pm3, pm4, pi1, pi2, pi3, pi4, pi5, lm_state, lm_text, lm_search]
      refine ⟨size bs, rfl, hs1, Nat.lt_of_le_of_lt hsz (by decide), by omega, fun n4 p j1 j2 hp => ?_⟩
      simp only [envOf, dRet, dRetN, dOp, dSl, dSlO, dVar, dC, pSome, pNo, ev_sll, ev_slt, ev_sls, dBi, dCons, dNil, ev_lenl, ev_lent, ev_lens, ev_lenr, ev_gI, TC, Pd.gSub, gLt, gLe, gGt, gGe, gMod, gFdiv, gPow, gEq, gNe, ev_oki, ev_oks, ev_okl, ev_okt, gIs, gIsNot, gIsB, gIsNotB, Pd.isNon, dCall, dSeq, dSet, dSetO, dMul, setL, bCons, bOwn, bNil, dIf, dIte, dTB, dAnd, dOr, dNot, dBV, dAndV, dOrV, dChain, dTmp, dTmpT, frzE, dFrz, OD.d, dIxO, dApp, dSetI, dNeg, dLst, dLstO, dTup, dO, dDrop, ev_abs, ev_inttoi, ev_inttob, ev_inttos, ev_strtoi, ev_listl, ev_listt, ev_lists, ev_tupl, ev_tupt, ev_addi, ev_adds, ev_addl, ev_addt, ev_muli, ev_muls, ev_mull, ev_max, ev_min, ev_all, ev_any, gRepr, dLRg, Pd.r1, Pd.r2, eqD_str, eqD_int, eqD_bl, dFld, dProp, dMeth, dAugI, dRev, dMake, dIsi, isT, isC, dNx, dBrk, dNev, dFst, gNm, gTp, gsCons, gsNil, dAsg, dStar, dYes, iniEnd, flatD, wipeE, ev_ixl, ev_ixt, ev_ixs, ev_ixr, ev_srcl, ev_srct, ev_srcs, ev_at0, ev_at1, ev_atl, ev_atn, ev_ixn, Option.some.injEq, exists_eq_left', exists_eq_left, List.foldl_cons, List.foldl_nil, List.map_cons, List.map_nil, List.replicate, List.length_append, List.length_map, List.length_cons, List.length_nil, List.cons_append, List.nil_append, List.append_nil, List.getElem?_cons_zero, List.getElem?_cons_succ, List.set_cons_zero, List.set_cons_succ, Nat.zero_add, Nat.reduceAdd, Nat.reduceSub, Nat.reduceLeDiff, true_and, and_true, decide_eq_true_eq, decide_eq_false_iff_not, ne_eq, reduceCtorEq, false_implies, true_implies, forall_const, Bool.and_self, Bool.and_true, Bool.true_and, lk_ends, lk_blocks, lk_text, lk_spot, lk_letter, Int.toNat_natCast, dFldO, dTmq, dMut, dSetQ, dParQ, qMake, D.still, D.stills, lf_past, lf_word, lf_letters, pf_past, pf_later, pm1, pm2, pm3, pm4, pi1, pi2, pi3, pi4, pi5, lm_state, lm_text, lm_search]
      exact hK _ _ ⟨by omega, by omega, us ++ [(p : Int)], by rw [List.map_append]; rfl, by rw [List.length_append, List.length_singleton]; omega⟩
  rintro n4 ε ⟨a3, a4, vs, hv, rfl⟩
  simp only [dFrz, dComp, iVal, dSrtSet, envOf, dRet, dRetN, dOp, dSl, dSlO, dVar, dC, pSome, pNo, ev_sll, ev_slt, ev_sls, dBi, dCons, dNil, ev_lenl, ev_lent, ev_lens, ev_lenr, ev_gI, TC, Pd.gSub, gLt, gLe, gGt, gGe, gMod, gFdiv, gPow, gEq, gNe, ev_oki, ev_oks, ev_okl, ev_okt, gIs, gIsNot, gIsB, gIsNotB, Pd.isNon, dCall, dSeq, dSet, dSetO, dMul, setL, bCons, bOwn, bNil, dIf, dIte, dTB, dAnd, dOr, dNot, dBV, dAndV, dOrV, dChain, dTmp, dTmpT, frzE, dFrz, OD.d, dIxO, dApp, dSetI, dNeg, dLst, dLstO, dTup, dO, dDrop, ev_abs, ev_inttoi, ev_inttob, ev_inttos, ev_strtoi, ev_listl, ev_listt, ev_lists, ev_tupl, ev_tupt, ev_addi, ev_adds, ev_addl, ev_addt, ev_muli, ev_muls, ev_mull, ev_max, ev_min, ev_all, ev_any, gRepr, dLRg, Pd.r1, Pd.r2, eqD_str, eqD_int, eqD_bl, dFld, dProp, dMeth, dAugI, dRev, dMake, dIsi, isT, isC, dNx, dBrk, dNev, dFst, gNm, gTp, gsCons, gsNil, dAsg, dStar, dYes, iniEnd, flatD, wipeE, ev_ixl, ev_ixt, ev_ixs, ev_ixr, ev_srcl, ev_srct, ev_srcs, ev_at0, ev_at1, ev_atl, ev_atn, ev_ixn, Option.some.injEq, exists_eq_left', exists_eq_left, List.foldl_cons, List.foldl_nil, List.map_cons, List.map_nil, List.replicate, List.length_append, List.length_map, List.length_cons, List.length_nil, List.cons_append, List.nil_append, List.append_nil, List.getElem?_cons_zero, List.getElem?_cons_succ, List.set_cons_zero, List.set_cons_succ, Nat.zero_add, Nat.reduceAdd, Nat.reduceSub, Nat.reduceLeDiff, true_and, and_true, decide_eq_true_eq, decide_eq_false_iff_not, ne_eq, reduceCtorEq, false_implies, true_implies, forall_const, Bool.and_self, Bool.and_true, Bool.true_and, lk_ends, lk_blocks, lk_text, lk_spot, lk_letter, Int.toNat_natCast, dFldO, dTmq, dMut, dSetQ, dParQ, qMake, D.still, D.stills, lf_past, lf_word, lf_letters, pf_past, pf_later, pm1, pm2, pm3, pm4, pi1, pi2, pi3, pi4, pi5, lm_state, lm_text, lm_search]
  refine ⟨by omega, compW_pure (fun d => match d with
    | .int v => decide (0 ≤ v ∧ v < (size bs : Int))
    | _ => false) id _ _ _ (fun x hx n K K' q1 q2 => ?_) ?_⟩
  · obtain ⟨v, hv, rfl⟩ := List.mem_map.mp hx
    simp only [envOf, dRet, dRetN, dOp, dSl, dSlO, dVar, dC, pSome, pNo, ev_sll, ev_slt, ev_sls, dBi, dCons, dNil, ev_lenl, ev_lent, ev_lens, ev_lenr, ev_gI, TC, Pd.gSub, gLt, gLe, gGt, gGe, gMod, gFdiv, gPow, gEq, gNe, ev_oki, ev_oks, ev_okl, ev_okt, gIs, gIsNot, gIsB, gIsNotB, Pd.isNon, dCall, dSeq, dSet, dSetO, dMul, setL, bCons, bOwn, bNil, dIf, dIte, dTB, dAnd, dOr, dNot, dBV, dAndV, dOrV, dChain, dTmp, dTmpT, frzE, dFrz, OD.d, dIxO, dApp, dSetI, dNeg, dLst, dLstO, dTup, dO, dDrop, ev_abs, ev_inttoi, ev_inttob, ev_inttos, ev_strtoi, ev_listl, ev_listt, ev_lists, ev_tupl, ev_tupt, ev_addi, ev_adds, ev_addl, ev_addt, ev_muli, ev_muls, ev_mull, ev_max, ev_min, ev_all, ev_any, gRepr, dLRg, Pd.r1, Pd.r2, eqD_str, eqD_int, eqD_bl, dFld, dProp, dMeth, dAugI, dRev, dMake, dIsi, isT, isC, dNx, dBrk, dNev, dFst, gNm, gTp, gsCons, gsNil, dAsg, dStar, dYes, iniEnd, flatD, wipeE, ev_ixl, ev_ixt, ev_ixs, ev_ixr, ev_srcl, ev_srct, ev_srcs, ev_at0, ev_at1, ev_atl, ev_atn, ev_ixn, Option.some.injEq, exists_eq_left', exists_eq_left, List.foldl_cons, List.foldl_nil, List.map_cons, List.map_nil, List.replicate, List.length_append, List.length_map, List.length_cons, List.length_nil, List.cons_append, List.nil_append, List.append_nil, List.getElem?_cons_zero, List.getElem?_cons_succ, List.set_cons_zero, List.set_cons_succ, Nat.zero_add, Nat.reduceAdd, Nat.reduceSub, Nat.reduceLeDiff, true_and, and_true, decide_eq_true_eq, decide_eq_false_iff_not, ne_eq, reduceCtorEq, false_implies, true_implies, forall_const, Bool.and_self, Bool.and_true, Bool.true_and, lk_ends, lk_blocks, lk_text, lk_spot, lk_letter, Int.toNat_natCast, dFldO, dTmq, dMut, dSetQ, dParQ, qMake, D.still, D.stills, lf_past, lf_word, lf_letters, pf_past, pf_later, pm1, pm2, pm3, pm4, pi1, pi2, pi3, pi4, pi5, lm_state, lm_text, lm_search] at q1 q2 ⊢
    exact ⟨fun h1 => ⟨fun h2 => q1 ⟨h1, h2⟩, fun h2 => q2 fun h => h2 h.2⟩, fun h1 => q2 fun h => h1 h.1⟩
  · rw [List.nil_append, List.map_id, List.filter_map]
    have ef : vs.filter ((fun d => match d with
      | .int v => decide (0 ≤ v ∧ v < (size bs : Int))
      | _ => false) ∘ D.int) = vs.filter fun v => decide (0 ≤ v ∧ v < (size bs : Int)) := rfl
    rw [ef]
    have fl := List.length_filter_le (fun v => decide (0 ≤ v ∧ v < (size bs : Int))) vs
    refine ⟨_, map_isInts _, by omega, fun ms pw mem => ?_⟩
    have hm : ∀ x ∈ ms, 0 ≤ x ∧ x < (size bs : Int) := fun x hx => of_decide_eq_true (List.mem_filter.mp ((mem x).mp hx)).2
    have hml : ms.length ≤ 12 := by
      have nd : ms.Nodup := pw.imp fun h => by omega
      have := nd.length_le_of_subset (l₂ := vs.filter (fun v => decide (0 ≤ v ∧ v < (size bs : Int)))) fun x hx => (mem x).mp hx
      omega
    rw [nats_of ms fun x hx => (hm x hx).1]
    refine q _ _ (by omega) (by omega) (by rw [List.length_map]; exact hml) fun m hm' => ?_
    obtain ⟨x, hx, rfl⟩ := List.mem_map.mp hm'
    have := hm x hx
    omega
end LW
namespace LW
open PySem L2 Pd
theorem part_size04 {bs : List Bl} {f l : Nat} (h : f < l) (hl : l ≤ size bs) : size (partR f l 0 bs) = l - f := by
  unfold size
  rw [part_exp, List.length_drop, List.length_take]
  have : (expand bs).length = size bs := rfl
  omega
theorem told_part04 {bs : List Bl} (T : Told bs) {f l : Nat} (h : f < l) (hl : l ≤ size bs) : Told (partR f l 0 bs) := by
  obtain ⟨p1, p2, p3⟩ := part_ok (f := f) (l := l) 0 bs T.1
  have hbl := T.2.1
  refine ⟨p1, by omega, fun b hb => ?_, part_ne h 0 bs (Nat.zero_le _) (by rw [tot_pos, pos_all]; show f < 0 + size bs; omega)⟩
  obtain ⟨x, hx, e, h2⟩ := p3 b hb
  obtain ⟨x1, x2⟩ := T.2.2.1 x hx
  rw [← e]
  exact ⟨Nat.lt_of_le_of_lt h2 x1, x2⟩
theorem halves04 {bs : List Bl} (g : Good bs) {p : Nat} (h1 : p ≤ size bs) : mrg (partR 0 p 0 bs ++ partR p (size bs) 0 bs) = bs := by
  have m := mrg_ok (pos_app (part_ok (f := 0) (l := p) 0 bs g).1.pos (part_ok (f := p) (l := size bs) 0 bs g).1.pos)
  refine good_unique m.good g ?_
  rw [m.exp, expand_append, part_exp, part_exp, Nat.sub_zero, Nat.sub_zero, Nat.sub_zero, List.drop_zero, List.take_of_length_le (l := expand bs) (i := size bs) (Nat.le_refl _), List.take_append_drop]
theorem inner04 {bs : List Bl} (g : Good bs) {f l i : Nat} (h : f < l) (hl : l ≤ size bs) : partR i (l - f) 0 (partR f l 0 bs) = partR (f + i) l 0 bs := by
  refine good_unique (part_ok 0 _ (part_ok 0 bs g).1).1 (part_ok 0 bs g).1 ?_
  rw [part_exp, part_exp, part_exp, Nat.sub_zero, Nat.sub_zero, Nat.sub_zero, Nat.sub_zero, Nat.sub_zero, List.take_of_length_le (i := l - f) (by rw [List.length_drop, List.length_take]; omega), List.drop_drop]
def E04 (c : Str → Addr) (x : D) (bs : List Bl) (ms : List Nat) (s6 s7 s8 s9 s10 s11 : Sl) : Ev := [.val .pot, .val x, .val (.lst (bs.map blkD)), .val (wordD c bs), .val (.int (size bs : Nat)), .val (.lst (ms.map intD)), s6, s7, s8, s9, s10, s11, .no]
def s_right04 (c : Str → Addr) : FD := fun ds n P => ds = [.pot] ∧ 10000 ≤ n ∧ ∀ n', n' ≤ n → n ≤ n' + 10000 → P n' (.bl true)
theorem l_right04 (c : Str → Addr) : ∀ ds n Q, s_right04 c ds n Q → dFn 13 1 (b__law_right_v142 c (s_sog c) s_block_text i_word s_sumOf s_near04 (s_Word_letter c) s_letter_at (s_Word_part c) (s_Word_joined c) (s_Word_eq c) (s_Word_text c) s_part (s_Word_size c) s_place) ds n Q := by
  rintro ds n Q ⟨rfl, h0, q⟩
  refine ⟨rfl, ?_⟩
  unfold b__law_right_v142
  refine seq_all (fun n2 ε => n2 ≤ n ∧ n ≤ n2 + 9000) (fun nx hnx => ?_) ?_
  · simp only [dFor, iRg1, envOf, dRet, dRetN, dOp, dSl, dSlO, dVar, dC, pSome, pNo, ev_sll, ev_slt, ev_sls, dBi, dCons, dNil, ev_lenl, ev_lent, ev_lens, ev_lenr, ev_gI, TC, Pd.gSub, gLt, gLe, gGt, gGe, gMod, gFdiv, gPow, gEq, gNe, ev_oki, ev_oks, ev_okl, ev_okt, gIs, gIsNot, gIsB, gIsNotB, Pd.isNon, dCall, dSeq, dSet, dSetO, dMul, setL, bCons, bOwn, bNil, dIf, dIte, dTB, dAnd, dOr, dNot, dBV, dAndV, dOrV, dChain, dTmp, dTmpT, frzE, dFrz, OD.d, dIxO, dApp, dSetI, dNeg, dLst, dLstO, dTup, dO, dDrop, ev_abs, ev_inttoi, ev_inttob, ev_inttos, ev_strtoi, ev_listl, ev_listt, ev_lists, ev_tupl, ev_tupt, ev_addi, ev_adds, ev_addl, ev_addt, ev_muli, ev_muls, ev_mull, ev_max, ev_min, ev_all, ev_any, gRepr, dLRg, Pd.r1, Pd.r2, eqD_str, eqD_int, eqD_bl, dFld, dProp, dMeth, dAugI, dRev, dMake, dIsi, isT, isC, dNx, dBrk, dNev, dFst, gNm, gTp, gsCons, gsNil, dAsg, dStar, dYes, iniEnd, flatD, wipeE, ev_ixl, ev_ixt, ev_ixs, ev_ixr, ev_srcl, ev_srct, ev_srcs, ev_at0, ev_at1, ev_atl, ev_atn, ev_ixn, Option.some.injEq, exists_eq_left', exists_eq_left, List.foldl_cons, List.foldl_nil, List.map_cons, List.map_nil, List.replicate, List.length_append, List.length_map, List.length_cons, List.length_nil, List.cons_append, List.nil_append, List.append_nil, List.getElem?_cons_zero, List.getElem?_cons_succ, List.set_cons_zero, List.set_cons_succ, Nat.zero_add, Nat.reduceAdd, Nat.reduceSub, Nat.reduceLeDiff, true_and, and_true, decide_eq_true_eq, decide_eq_false_iff_not, ne_eq, reduceCtorEq, false_implies, true_implies, forall_const, Bool.and_self, Bool.and_true, Bool.true_and, lk_ends, lk_blocks, lk_text, lk_spot, lk_letter, Int.toNat_natCast, dFldO, dTmq, dMut, dSetQ, dParQ, qMake, D.still, D.stills, lf_past, lf_word, lf_letters, pf_past, pf_later, pm1, pm2, pm3, pm4, pi1, pi2, pi3, pi4, pi5, lm_state, lm_text, lm_search]
    refine ⟨by decide, by decide, ?_⟩
    refine for_ind (Inv := fun ys n' ε => ys.length ≤ 3 ∧ n' ≤ n ∧ n ≤ n' + 3000 * (3 - ys.length) ∧ ∃ s1 s2 s3 s4 s5 s6 s7 s8 s9 s10 s11, ε = [.val .pot, s1, s2, s3, s4, s5, s6, s7, s8, s9, s10, s11, .no]) ⟨by rw [rngD_length]; decide, Nat.le_refl _, by rw [rngD_length]; simp, _, _, _, _, _, _, _, _, _, _, _, rfl⟩ ?_ ?_
    · rintro n' ε ⟨_, i1, i2, _⟩
      simp only [List.length_nil] at i2
      exact hnx _ _ ⟨i1, by omega⟩
    rintro x ys n' ε nxt ih ⟨i0, i1, i2, s1, s2, s3, s4, s5, s6, s7, s8, s9, s10, s11, rfl⟩
    rw [List.length_cons] at i0 i2
    have ih := fun m (h1 : m ≤ n') (h2 : n' ≤ m + 3000) bs ms s6 s7 s8 s9 s10 s11 => ih m (E04 c x bs ms s6 s7 s8 s9 s10 s11) ⟨by omega, by omega, by omega, _, _, _, _, _, _, _, _, _, _, _, rfl⟩
    show dSeq _ _ _ n' [.val .pot, .val x, s2, s3, s4, s5, s6, s7, s8, s9, s10, s11, .no]
    refine seq_all (fun m ε => m ≤ n' ∧ n' ≤ m + 2000 ∧ ∃ (bs : List Bl), Told bs ∧ ε = [.val .pot, .val x, .val (.lst (bs.map blkD)), s3, s4, s5, s6, s7, s8, s9, s10, s11, .no]) (fun nx hnx => ?_) ?_
    · simp only [envOf, dRet, dRetN, dOp, dSl, dSlO, dVar, dC, pSome, pNo, ev_sll, ev_slt, ev_sls, dBi, dCons, dNil, ev_lenl, ev_lent, ev_lens, ev_lenr, ev_gI, TC, Pd.gSub, gLt, gLe, gGt, gGe, gMod, gFdiv, gPow, gEq, gNe, ev_oki, ev_oks, ev_okl, ev_okt, gIs, gIsNot, gIsB, gIsNotB, Pd.isNon, dCall, dSeq, dSet, dSetO, dMul, setL, bCons, bOwn, bNil, dIf, dIte, dTB, dAnd, dOr, dNot, dBV, dAndV, dOrV, dChain, dTmp, dTmpT, frzE, dFrz, OD.d, dIxO, dApp, dSetI, dNeg, dLst, dLstO, dTup, dO, dDrop, ev_abs, ev_inttoi, ev_inttob, ev_inttos, ev_strtoi, ev_listl, ev_listt, ev_lists, ev_tupl, ev_tupt, ev_addi, ev_adds, ev_addl, ev_addt, ev_muli, ev_muls, ev_mull, ev_max, ev_min, ev_all, ev_any, gRepr, dLRg, Pd.r1, Pd.r2, eqD_str, eqD_int, eqD_bl, dFld, dProp, dMeth, dAugI, dRev, dMake, dIsi, isT, isC, dNx, dBrk, dNev, dFst, gNm, gTp, gsCons, gsNil, dAsg, dStar, dYes, iniEnd, flatD, wipeE, ev_ixl, ev_ixt, ev_ixs, ev_ixr, ev_srcl, ev_srct, ev_srcs, ev_at0, ev_at1, ev_atl, ev_atn, ev_ixn, Option.some.injEq, exists_eq_left', exists_eq_left, List.foldl_cons, List.foldl_nil, List.map_cons, List.map_nil, List.replicate, List.length_append, List.length_map, List.length_cons, List.length_nil, List.cons_append, List.nil_append, List.append_nil, List.getElem?_cons_zero, List.getElem?_cons_succ, List.set_cons_zero, List.set_cons_succ, Nat.zero_add, Nat.reduceAdd, Nat.reduceSub, Nat.reduceLeDiff, true_and, and_true, decide_eq_true_eq, decide_eq_false_iff_not, ne_eq, reduceCtorEq, false_implies, true_implies, forall_const, Bool.and_self, Bool.and_true, Bool.true_and, lk_ends, lk_blocks, lk_text, lk_spot, lk_letter, Int.toNat_natCast, dFldO, dTmq, dMut, dSetQ, dParQ, qMake, D.still, D.stills, lf_past, lf_word, lf_letters, pf_past, pf_later, pm1, pm2, pm3, pm4, pi1, pi2, pi3, pi4, pi5, lm_state, lm_text, lm_search]
      exact ⟨rfl, by omega, fun m bs a1 a2 T => hnx _ _ ⟨by omega, by omega, bs, T, rfl⟩⟩
    rintro m ε ⟨j1, j2, bs, T, rfl⟩
    have hsz := size_le05 T
    have hbl := T.2.1
    have hs1 : 1 ≤ size bs := List.length_pos_iff.mpr (exp_ne T.1 T.2.2.2)
    refine seq_at m [.val .pot, .val x, .val (.lst (bs.map blkD)), .val (wordD c bs), .val (.int (size bs : Nat)), s5, s6, s7, s8, s9, s10, s11, .no] (fun nx hnx => ?_) ?_
    · simp only [envOf, dRet, dRetN, dOp, dSl, dSlO, dVar, dC, pSome, pNo, ev_sll, ev_slt, ev_sls, dBi, dCons, dNil, ev_lenl, ev_lent, ev_lens, ev_lenr, ev_gI, TC, Pd.gSub, gLt, gLe, gGt, gGe, gMod, gFdiv, gPow, gEq, gNe, ev_oki, ev_oks, ev_okl, ev_okt, gIs, gIsNot, gIsB, gIsNotB, Pd.isNon, dCall, dSeq, dSet, dSetO, dMul, setL, bCons, bOwn, bNil, dIf, dIte, dTB, dAnd, dOr, dNot, dBV, dAndV, dOrV, dChain, dTmp, dTmpT, frzE, dFrz, OD.d, dIxO, dApp, dSetI, dNeg, dLst, dLstO, dTup, dO, dDrop, ev_abs, ev_inttoi, ev_inttob, ev_inttos, ev_strtoi, ev_listl, ev_listt, ev_lists, ev_tupl, ev_tupt, ev_addi, ev_adds, ev_addl, ev_addt, ev_muli, ev_muls, ev_mull, ev_max, ev_min, ev_all, ev_any, gRepr, dLRg, Pd.r1, Pd.r2, eqD_str, eqD_int, eqD_bl, dFld, dProp, dMeth, dAugI, dRev, dMake, dIsi, isT, isC, dNx, dBrk, dNev, dFst, gNm, gTp, gsCons, gsNil, dAsg, dStar, dYes, iniEnd, flatD, wipeE, ev_ixl, ev_ixt, ev_ixs, ev_ixr, ev_srcl, ev_srct, ev_srcs, ev_at0, ev_at1, ev_atl, ev_atn, ev_ixn, Option.some.injEq, exists_eq_left', exists_eq_left, List.foldl_cons, List.foldl_nil, List.map_cons, List.map_nil, List.replicate, List.length_append, List.length_map, List.length_cons, List.length_nil, List.cons_append, List.nil_append, List.append_nil, List.getElem?_cons_zero, List.getElem?_cons_succ, List.set_cons_zero, List.set_cons_succ, Nat.zero_add, Nat.reduceAdd, Nat.reduceSub, Nat.reduceLeDiff, true_and, and_true, decide_eq_true_eq, decide_eq_false_iff_not, ne_eq, reduceCtorEq, false_implies, true_implies, forall_const, Bool.and_self, Bool.and_true, Bool.true_and, lk_ends, lk_blocks, lk_text, lk_spot, lk_letter, Int.toNat_natCast, dFldO, dTmq, dMut, dSetQ, dParQ, qMake, D.still, D.stills, lf_past, lf_word, lf_letters, pf_past, pf_later, pm1, pm2, pm3, pm4, pi1, pi2, pi3, pi4, pi5, lm_state, lm_text, lm_search]
      exact ⟨bs, rfl, by omega, fun b hb => Nat.lt_trans (T.2.2.1 b hb).1 (by decide), bs, rfl, T, bs, rfl, by omega, hnx⟩
    refine seq_all (fun m1 ε => m1 ≤ m ∧ m ≤ m1 + 20 ∧ ∃ ms : List Nat, ms.length ≤ 12 ∧ (∀ p ∈ ms, p < size bs) ∧ ε = E04 c x bs ms s6 s7 s8 s9 s10 s11) (fun nx hnx => ?_) ?_
    · simp only [envOf, dRet, dRetN, dOp, dSl, dSlO, dVar, dC, pSome, pNo, ev_sll, ev_slt, ev_sls, dBi, dCons, dNil, ev_lenl, ev_lent, ev_lens, ev_lenr, ev_gI, TC, Pd.gSub, gLt, gLe, gGt, gGe, gMod, gFdiv, gPow, gEq, gNe, ev_oki, ev_oks, ev_okl, ev_okt, gIs, gIsNot, gIsB, gIsNotB, Pd.isNon, dCall, dSeq, dSet, dSetO, dMul, setL, bCons, bOwn, bNil, dIf, dIte, dTB, dAnd, dOr, dNot, dBV, dAndV, dOrV, dChain, dTmp, dTmpT, frzE, dFrz, OD.d, dIxO, dApp, dSetI, dNeg, dLst, dLstO, dTup, dO, dDrop, ev_abs, ev_inttoi, ev_inttob, ev_inttos, ev_strtoi, ev_listl, ev_listt, ev_lists, ev_tupl, ev_tupt, ev_addi, ev_adds, ev_addl, ev_addt, ev_muli, ev_muls, ev_mull, ev_max, ev_min, ev_all, ev_any, gRepr, dLRg, Pd.r1, Pd.r2, eqD_str, eqD_int, eqD_bl, dFld, dProp, dMeth, dAugI, dRev, dMake, dIsi, isT, isC, dNx, dBrk, dNev, dFst, gNm, gTp, gsCons, gsNil, dAsg, dStar, dYes, iniEnd, flatD, wipeE, ev_ixl, ev_ixt, ev_ixs, ev_ixr, ev_srcl, ev_srct, ev_srcs, ev_at0, ev_at1, ev_atl, ev_atn, ev_ixn, Option.some.injEq, exists_eq_left', exists_eq_left, List.foldl_cons, List.foldl_nil, List.map_cons, List.map_nil, List.replicate, List.length_append, List.length_map, List.length_cons, List.length_nil, List.cons_append, List.nil_append, List.append_nil, List.getElem?_cons_zero, List.getElem?_cons_succ, List.set_cons_zero, List.set_cons_succ, Nat.zero_add, Nat.reduceAdd, Nat.reduceSub, Nat.reduceLeDiff, true_and, and_true, decide_eq_true_eq, decide_eq_false_iff_not, ne_eq, reduceCtorEq, false_implies, true_implies, forall_const, Bool.and_self, Bool.and_true, Bool.true_and, lk_ends, lk_blocks, lk_text, lk_spot, lk_letter, Int.toNat_natCast, dFldO, dTmq, dMut, dSetQ, dParQ, qMake, D.still, D.stills, lf_past, lf_word, lf_letters, pf_past, pf_later, pm1, pm2, pm3, pm4, pi1, pi2, pi3, pi4, pi5, lm_state, lm_text, lm_search]
      exact ⟨bs, rfl, T, by omega, fun m1 ms a1 a2 hl hm => hnx _ _ ⟨a1, a2, ms, hl, hm, rfl⟩⟩
    rintro m1 ε ⟨k1, k2, ms, hml, hms, rfl⟩
    refine seq_all (fun m2 ε => m2 = m1 ∧ ∃ s6 s7, ε = E04 c x bs ms s6 s7 s8 s9 s10 s11) (fun nx hnx => ?_) ?_
    · unfold E04
      simp only [dFor, iVal, envOf, dRet, dRetN, dOp, dSl, dSlO, dVar, dC, pSome, pNo, ev_sll, ev_slt, ev_sls, dBi, dCons, dNil, ev_lenl, ev_lent, ev_lens, ev_lenr, ev_gI, TC, Pd.gSub, gLt, gLe, gGt, gGe, gMod, gFdiv, gPow, gEq, gNe, ev_oki, ev_oks, ev_okl, ev_okt, gIs, gIsNot, gIsB, gIsNotB, Pd.isNon, dCall, dSeq, dSet, dSetO, dMul, setL, bCons, bOwn, bNil, dIf, dIte, dTB, dAnd, dOr, dNot, dBV, dAndV, dOrV, dChain, dTmp, dTmpT, frzE, dFrz, OD.d, dIxO, dApp, dSetI, dNeg, dLst, dLstO, dTup, dO, dDrop, ev_abs, ev_inttoi, ev_inttob, ev_inttos, ev_strtoi, ev_listl, ev_listt, ev_lists, ev_tupl, ev_tupt, ev_addi, ev_adds, ev_addl, ev_addt, ev_muli, ev_muls, ev_mull, ev_max, ev_min, ev_all, ev_any, gRepr, dLRg, Pd.r1, Pd.r2, eqD_str, eqD_int, eqD_bl, dFld, dProp, dMeth, dAugI, dRev, dMake, dIsi, isT, isC, dNx, dBrk, dNev, dFst, gNm, gTp, gsCons, gsNil, dAsg, dStar, dYes, iniEnd, flatD, wipeE, ev_ixl, ev_ixt, ev_ixs, ev_ixr, ev_srcl, ev_srct, ev_srcs, ev_at0, ev_at1, ev_atl, ev_atn, ev_ixn, Option.some.injEq, exists_eq_left', exists_eq_left, List.foldl_cons, List.foldl_nil, List.map_cons, List.map_nil, List.replicate, List.length_append, List.length_map, List.length_cons, List.length_nil, List.cons_append, List.nil_append, List.append_nil, List.getElem?_cons_zero, List.getElem?_cons_succ, List.set_cons_zero, List.set_cons_succ, Nat.zero_add, Nat.reduceAdd, Nat.reduceSub, Nat.reduceLeDiff, true_and, and_true, decide_eq_true_eq, decide_eq_false_iff_not, ne_eq, reduceCtorEq, false_implies, true_implies, forall_const, Bool.and_self, Bool.and_true, Bool.true_and, lk_ends, lk_blocks, lk_text, lk_spot, lk_letter, Int.toNat_natCast, dFldO, dTmq, dMut, dSetQ, dParQ, qMake, D.still, D.stills, lf_past, lf_word, lf_letters, pf_past, pf_later, pm1, pm2, pm3, pm4, pi1, pi2, pi3, pi4, pi5, lm_state, lm_text, lm_search]
      refine for_ind (Inv := fun ys n' ε => n' = m1 ∧ (∀ y ∈ ys, ∃ p, p < size bs ∧ y = intD p) ∧ ∃ s6 s7, ε = E04 c x bs ms s6 s7 s8 s9 s10 s11) ⟨rfl, fun y hy => ?_, s6, s7, rfl⟩ ?_ ?_
      · obtain ⟨p, hp, rfl⟩ := List.mem_map.mp hy
        exact ⟨p, hms p hp, rfl⟩
      · rintro n' ε ⟨rfl, _, h⟩
        exact hnx _ _ ⟨rfl, h⟩
      rintro y ys n' ε nxt ih2 ⟨rfl, hy, s6, s7, rfl⟩
      obtain ⟨p, hp, rfl⟩ := hy y (by simp)
      have ih2 := fun s6 s7 => ih2 n' _ ⟨rfl, fun y hz => hy y (List.mem_cons_of_mem _ hz), s6, s7, rfl⟩
      obtain ⟨a, ha⟩ : ∃ a, (expand bs)[p]? = some a := ⟨_, List.getElem?_eq_getElem (l := expand bs) (i := p) hp⟩
      show dSeq _ _ _ n' (E04 c x bs ms (.val (intD p)) s7 s8 s9 s10 s11)
      refine seq_at n' (E04 c x bs ms (.val (intD p)) s7 s8 s9 s10 s11) (fun nx hnx => ?_) ?_
      · refine if_no n' (fun P hP => ?_) hnx
        simp only [E04, wordD, intD, envOf, dRet, dRetN, dOp, dSl, dSlO, dVar, dC, pSome, pNo, ev_sll, ev_slt, ev_sls, dBi, dCons, dNil, ev_lenl, ev_lent, ev_lens, ev_lenr, ev_gI, TC, Pd.gSub, gLt, gLe, gGt, gGe, gMod, gFdiv, gPow, gEq, gNe, ev_oki, ev_oks, ev_okl, ev_okt, gIs, gIsNot, gIsB, gIsNotB, Pd.isNon, dCall, dSeq, dSet, dSetO, dMul, setL, bCons, bOwn, bNil, dIf, dIte, dTB, dAnd, dOr, dNot, dBV, dAndV, dOrV, dChain, dTmp, dTmpT, frzE, dFrz, OD.d, dIxO, dApp, dSetI, dNeg, dLst, dLstO, dTup, dO, dDrop, ev_abs, ev_inttoi, ev_inttob, ev_inttos, ev_strtoi, ev_listl, ev_listt, ev_lists, ev_tupl, ev_tupt, ev_addi, ev_adds, ev_addl, ev_addt, ev_muli, ev_muls, ev_mull, ev_max, ev_min, ev_all, ev_any, gRepr, dLRg, Pd.r1, Pd.r2, eqD_str, eqD_int, eqD_bl, dFld, dProp, dMeth, dAugI, dRev, dMake, dIsi, isT, isC, dNx, dBrk, dNev, dFst, gNm, gTp, gsCons, gsNil, dAsg, dStar, dYes, iniEnd, flatD, wipeE, ev_ixl, ev_ixt, ev_ixs, ev_ixr, ev_srcl, ev_srct, ev_srcs, ev_at0, ev_at1, ev_atl, ev_atn, ev_ixn, Option.some.injEq, exists_eq_left', exists_eq_left, List.foldl_cons, List.foldl_nil, List.map_cons, List.map_nil, List.replicate, List.length_append, List.length_map, List.length_cons, List.length_nil, List.cons_append, List.nil_append, List.append_nil, List.getElem?_cons_zero, List.getElem?_cons_succ, List.set_cons_zero, List.set_cons_succ, Nat.zero_add, Nat.reduceAdd, Nat.reduceSub, Nat.reduceLeDiff, true_and, and_true, decide_eq_true_eq, decide_eq_false_iff_not, ne_eq, reduceCtorEq, false_implies, true_implies, forall_const, Bool.and_self, Bool.and_true, Bool.true_and, lk_ends, lk_blocks, lk_text, lk_spot, lk_letter, Int.toNat_natCast, dFldO, dTmq, dMut, dSetQ, dParQ, qMake, D.still, D.stills, lf_past, lf_word, lf_letters, pf_past, pf_later, pm1, pm2, pm3, pm4, pi1, pi2, pi3, pi4, pi5, lm_state, lm_text, lm_search]
        refine ⟨bs, p, a, rfl, T.2.2.2, by omega, ha, bs, p, a, rfl, ha, rfl, ?_⟩
        rw [eqD_str, decide_eq_true rfl]
        exact hP
      refine seq_at n' (E04 c x bs ms (.val (intD p)) (.val (.lst (if 0 < p then [wordD c (partR 0 p 0 bs), wordD c (partR p (size bs) 0 bs)] else []))) s8 s9 s10 s11) (fun nx hnx => ?_) ?_
      · simp only [E04, wordD, intD, envOf, dRet, dRetN, dOp, dSl, dSlO, dVar, dC, pSome, pNo, ev_sll, ev_slt, ev_sls, dBi, dCons, dNil, ev_lenl, ev_lent, ev_lens, ev_lenr, ev_gI, TC, Pd.gSub, gLt, gLe, gGt, gGe, gMod, gFdiv, gPow, gEq, gNe, ev_oki, ev_oks, ev_okl, ev_okt, gIs, gIsNot, gIsB, gIsNotB, Pd.isNon, dCall, dSeq, dSet, dSetO, dMul, setL, bCons, bOwn, bNil, dIf, dIte, dTB, dAnd, dOr, dNot, dBV, dAndV, dOrV, dChain, dTmp, dTmpT, frzE, dFrz, OD.d, dIxO, dApp, dSetI, dNeg, dLst, dLstO, dTup, dO, dDrop, ev_abs, ev_inttoi, ev_inttob, ev_inttos, ev_strtoi, ev_listl, ev_listt, ev_lists, ev_tupl, ev_tupt, ev_addi, ev_adds, ev_addl, ev_addt, ev_muli, ev_muls, ev_mull, ev_max, ev_min, ev_all, ev_any, gRepr, dLRg, Pd.r1, Pd.r2, eqD_str, eqD_int, eqD_bl, dFld, dProp, dMeth, dAugI, dRev, dMake, dIsi, isT, isC, dNx, dBrk, dNev, dFst, gNm, gTp, gsCons, gsNil, dAsg, dStar, dYes, iniEnd, flatD, wipeE, ev_ixl, ev_ixt, ev_ixs, ev_ixr, ev_srcl, ev_srct, ev_srcs, ev_at0, ev_at1, ev_atl, ev_atn, ev_ixn, Option.some.injEq, exists_eq_left', exists_eq_left, List.foldl_cons, List.foldl_nil, List.map_cons, List.map_nil, List.replicate, List.length_append, List.length_map, List.length_cons, List.length_nil, List.cons_append, List.nil_append, List.append_nil, List.getElem?_cons_zero, List.getElem?_cons_succ, List.set_cons_zero, List.set_cons_succ, Nat.zero_add, Nat.reduceAdd, Nat.reduceSub, Nat.reduceLeDiff, true_and, and_true, decide_eq_true_eq, decide_eq_false_iff_not, ne_eq, reduceCtorEq, false_implies, true_implies, forall_const, Bool.and_self, Bool.and_true, Bool.true_and, lk_ends, lk_blocks, lk_text, lk_spot, lk_letter, Int.toNat_natCast, dFldO, dTmq, dMut, dSetQ, dParQ, qMake, D.still, D.stills, lf_past, lf_word, lf_letters, pf_past, pf_later, pm1, pm2, pm3, pm4, pi1, pi2, pi3, pi4, pi5, lm_state, lm_text, lm_search] at hnx ⊢
        refine ⟨fun h => ?_, fun h => ?_⟩
        · have h' : 0 < p := by omega
          rw [if_pos h'] at hnx
          exact ⟨rfl, bs, 0, p, rfl, T, h', by omega, rfl, bs, p, size bs, rfl, T, hp, Nat.le_refl _, hnx⟩
        · rw [if_neg (by omega)] at hnx
          exact hnx
      refine if_no n' (fun P hP => ?_) (ih2 _ _)
      simp only [E04, wordD, intD, envOf, dRet, dRetN, dOp, dSl, dSlO, dVar, dC, pSome, pNo, ev_sll, ev_slt, ev_sls, dBi, dCons, dNil, ev_lenl, ev_lent, ev_lens, ev_lenr, ev_gI, TC, Pd.gSub, gLt, gLe, gGt, gGe, gMod, gFdiv, gPow, gEq, gNe, ev_oki, ev_oks, ev_okl, ev_okt, gIs, gIsNot, gIsB, gIsNotB, Pd.isNon, dCall, dSeq, dSet, dSetO, dMul, setL, bCons, bOwn, bNil, dIf, dIte, dTB, dAnd, dOr, dNot, dBV, dAndV, dOrV, dChain, dTmp, dTmpT, frzE, dFrz, OD.d, dIxO, dApp, dSetI, dNeg, dLst, dLstO, dTup, dO, dDrop, ev_abs, ev_inttoi, ev_inttob, ev_inttos, ev_strtoi, ev_listl, ev_listt, ev_lists, ev_tupl, ev_tupt, ev_addi, ev_adds, ev_addl, ev_addt, ev_muli, ev_muls, ev_mull, ev_max, ev_min, ev_all, ev_any, gRepr, dLRg, Pd.r1, Pd.r2, eqD_str, eqD_int, eqD_bl, dFld, dProp, dMeth, dAugI, dRev, dMake, dIsi, isT, isC, dNx, dBrk, dNev, dFst, gNm, gTp, gsCons, gsNil, dAsg, dStar, dYes, iniEnd, flatD, wipeE, ev_ixl, ev_ixt, ev_ixs, ev_ixr, ev_srcl, ev_srct, ev_srcs, ev_at0, ev_at1, ev_atl, ev_atn, ev_ixn, Option.some.injEq, exists_eq_left', exists_eq_left, List.foldl_cons, List.foldl_nil, List.map_cons, List.map_nil, List.replicate, List.length_append, List.length_map, List.length_cons, List.length_nil, List.cons_append, List.nil_append, List.append_nil, List.getElem?_cons_zero, List.getElem?_cons_succ, List.set_cons_zero, List.set_cons_succ, Nat.zero_add, Nat.reduceAdd, Nat.reduceSub, Nat.reduceLeDiff, true_and, and_true, decide_eq_true_eq, decide_eq_false_iff_not, ne_eq, reduceCtorEq, false_implies, true_implies, forall_const, Bool.and_self, Bool.and_true, Bool.true_and, lk_ends, lk_blocks, lk_text, lk_spot, lk_letter, Int.toNat_natCast, dFldO, dTmq, dMut, dSetQ, dParQ, qMake, D.still, D.stills, lf_past, lf_word, lf_letters, pf_past, pf_later, pm1, pm2, pm3, pm4, pi1, pi2, pi3, pi4, pi5, lm_state, lm_text, lm_search]
      by_cases h : 0 < p
      · rw [if_pos h]
        refine ⟨fun _ => ⟨_, ev_at0 _ _, rfl, rfl, _, rfl, partR 0 p 0 bs, partR p (size bs) 0 bs, rfl, told_part04 T h (by omega), told_part04 T hp (Nat.le_refl _), ?_⟩, fun h => by cases h⟩
        rw [halves04 T.1 (by omega)]
        exact ⟨T, own_same hP⟩
      · rw [if_neg h]
        exact ⟨fun h => (by cases h), fun _ => hP⟩
    rintro m2 ε ⟨rfl, s6, s7, rfl⟩
    show dFor _ _ _ _ m2 (E04 c x bs ms s6 s7 s8 s9 s10 s11)
    simp only [E04, dFor, iVal, envOf, dRet, dRetN, dOp, dSl, dSlO, dVar, dC, pSome, pNo, ev_sll, ev_slt, ev_sls, dBi, dCons, dNil, ev_lenl, ev_lent, ev_lens, ev_lenr, ev_gI, TC, Pd.gSub, gLt, gLe, gGt, gGe, gMod, gFdiv, gPow, gEq, gNe, ev_oki, ev_oks, ev_okl, ev_okt, gIs, gIsNot, gIsB, gIsNotB, Pd.isNon, dCall, dSeq, dSet, dSetO, dMul, setL, bCons, bOwn, bNil, dIf, dIte, dTB, dAnd, dOr, dNot, dBV, dAndV, dOrV, dChain, dTmp, dTmpT, frzE, dFrz, OD.d, dIxO, dApp, dSetI, dNeg, dLst, dLstO, dTup, dO, dDrop, ev_abs, ev_inttoi, ev_inttob, ev_inttos, ev_strtoi, ev_listl, ev_listt, ev_lists, ev_tupl, ev_tupt, ev_addi, ev_adds, ev_addl, ev_addt, ev_muli, ev_muls, ev_mull, ev_max, ev_min, ev_all, ev_any, gRepr, dLRg, Pd.r1, Pd.r2, eqD_str, eqD_int, eqD_bl, dFld, dProp, dMeth, dAugI, dRev, dMake, dIsi, isT, isC, dNx, dBrk, dNev, dFst, gNm, gTp, gsCons, gsNil, dAsg, dStar, dYes, iniEnd, flatD, wipeE, ev_ixl, ev_ixt, ev_ixs, ev_ixr, ev_srcl, ev_srct, ev_srcs, ev_at0, ev_at1, ev_atl, ev_atn, ev_ixn, Option.some.injEq, exists_eq_left', exists_eq_left, List.foldl_cons, List.foldl_nil, List.map_cons, List.map_nil, List.replicate, List.length_append, List.length_map, List.length_cons, List.length_nil, List.cons_append, List.nil_append, List.append_nil, List.getElem?_cons_zero, List.getElem?_cons_succ, List.set_cons_zero, List.set_cons_succ, Nat.zero_add, Nat.reduceAdd, Nat.reduceSub, Nat.reduceLeDiff, true_and, and_true, decide_eq_true_eq, decide_eq_false_iff_not, ne_eq, reduceCtorEq, false_implies, true_implies, forall_const, Bool.and_self, Bool.and_true, Bool.true_and, lk_ends, lk_blocks, lk_text, lk_spot, lk_letter, Int.toNat_natCast, dFldO, dTmq, dMut, dSetQ, dParQ, qMake, D.still, D.stills, lf_past, lf_word, lf_letters, pf_past, pf_later, pm1, pm2, pm3, pm4, pi1, pi2, pi3, pi4, pi5, lm_state, lm_text, lm_search]
    refine for_ind (Inv := fun ys n' ε => ys.length ≤ 12 ∧ n' ≤ m2 ∧ m2 ≤ n' + 40 * (12 - ys.length) ∧ (∀ y ∈ ys, ∃ p, p < size bs ∧ y = intD p) ∧ ∃ s8 s9 s10 s11, ε = E04 c x bs ms s6 s7 s8 s9 s10 s11) ⟨by rw [List.length_map]; exact hml, Nat.le_refl _, by omega, fun y hy => ?_, s8, s9, s10, s11, rfl⟩ ?_ ?_
    · obtain ⟨p, hp, rfl⟩ := List.mem_map.mp hy
      exact ⟨p, hms p hp, rfl⟩
    · rintro m3 ε ⟨_, l1, l2, _, s8, s9, s10, s11, rfl⟩
      simp only [List.length_nil] at l2
      exact ih _ (by omega) (by omega) _ _ _ _ _ _ _ _
    rintro y ys m3 ε nxt ih2 ⟨l0, l1, l2, hy, s8, s9, s10, s11, rfl⟩
    rw [List.length_cons] at l0 l2
    obtain ⟨f, hf, rfl⟩ := hy y (by simp)
    have ih2 := fun m (h1 : m ≤ m3) (h2 : m3 ≤ m + 39) s9 s10 s11 => ih2 m (E04 c x bs ms s6 s7 (.val (intD f)) s9 s10 s11) ⟨by omega, by omega, by omega, fun y hz => hy y (List.mem_cons_of_mem _ hz), _, s9, s10, s11, rfl⟩
    show dFor _ _ _ _ m3 (E04 c x bs ms s6 s7 (.val (intD f)) s9 s10 s11)
    simp only [E04, dFor, dComp, iVal, intD, envOf, dRet, dRetN, dOp, dSl, dSlO, dVar, dC, pSome, pNo, ev_sll, ev_slt, ev_sls, dBi, dCons, dNil, ev_lenl, ev_lent, ev_lens, ev_lenr, ev_gI, TC, Pd.gSub, gLt, gLe, gGt, gGe, gMod, gFdiv, gPow, gEq, gNe, ev_oki, ev_oks, ev_okl, ev_okt, gIs, gIsNot, gIsB, gIsNotB, Pd.isNon, dCall, dSeq, dSet, dSetO, dMul, setL, bCons, bOwn, bNil, dIf, dIte, dTB, dAnd, dOr, dNot, dBV, dAndV, dOrV, dChain, dTmp, dTmpT, frzE, dFrz, OD.d, dIxO, dApp, dSetI, dNeg, dLst, dLstO, dTup, dO, dDrop, ev_abs, ev_inttoi, ev_inttob, ev_inttos, ev_strtoi, ev_listl, ev_listt, ev_lists, ev_tupl, ev_tupt, ev_addi, ev_adds, ev_addl, ev_addt, ev_muli, ev_muls, ev_mull, ev_max, ev_min, ev_all, ev_any, gRepr, dLRg, Pd.r1, Pd.r2, eqD_str, eqD_int, eqD_bl, dFld, dProp, dMeth, dAugI, dRev, dMake, dIsi, isT, isC, dNx, dBrk, dNev, dFst, gNm, gTp, gsCons, gsNil, dAsg, dStar, dYes, iniEnd, flatD, wipeE, ev_ixl, ev_ixt, ev_ixs, ev_ixr, ev_srcl, ev_srct, ev_srcs, ev_at0, ev_at1, ev_atl, ev_atn, ev_ixn, Option.some.injEq, exists_eq_left', exists_eq_left, List.foldl_cons, List.foldl_nil, List.map_cons, List.map_nil, List.replicate, List.length_append, List.length_map, List.length_cons, List.length_nil, List.cons_append, List.nil_append, List.append_nil, List.getElem?_cons_zero, List.getElem?_cons_succ, List.set_cons_zero, List.set_cons_succ, Nat.zero_add, Nat.reduceAdd, Nat.reduceSub, Nat.reduceLeDiff, true_and, and_true, decide_eq_true_eq, decide_eq_false_iff_not, ne_eq, reduceCtorEq, false_implies, true_implies, forall_const, Bool.and_self, Bool.and_true, Bool.true_and, lk_ends, lk_blocks, lk_text, lk_spot, lk_letter, Int.toNat_natCast, dFldO, dTmq, dMut, dSetQ, dParQ, qMake, D.still, D.stills, lf_past, lf_word, lf_letters, pf_past, pf_later, pm1, pm2, pm3, pm4, pi1, pi2, pi3, pi4, pi5, lm_state, lm_text, lm_search]
    refine ⟨by omega, by omega, ?_⟩
    have eL : List.map intD ms ++ [D.int (size bs : Nat)] = (ms ++ [size bs]).map intD := by rw [List.map_append]; rfl
    rw [eL]
    refine compW_pure (tI fun i => decide (f < i)) id _ _ _ (fun z hz n K K' q1 q2 => ?_) ?_
    · obtain ⟨v, hv, rfl⟩ := List.mem_map.mp hz
      simp only [intD, tI_int, envOf, dRet, dRetN, dOp, dSl, dSlO, dVar, dC, pSome, pNo, ev_sll, ev_slt, ev_sls, dBi, dCons, dNil, ev_lenl, ev_lent, ev_lens, ev_lenr, ev_gI, TC, Pd.gSub, gLt, gLe, gGt, gGe, gMod, gFdiv, gPow, gEq, gNe, ev_oki, ev_oks, ev_okl, ev_okt, gIs, gIsNot, gIsB, gIsNotB, Pd.isNon, dCall, dSeq, dSet, dSetO, dMul, setL, bCons, bOwn, bNil, dIf, dIte, dTB, dAnd, dOr, dNot, dBV, dAndV, dOrV, dChain, dTmp, dTmpT, frzE, dFrz, OD.d, dIxO, dApp, dSetI, dNeg, dLst, dLstO, dTup, dO, dDrop, ev_abs, ev_inttoi, ev_inttob, ev_inttos, ev_strtoi, ev_listl, ev_listt, ev_lists, ev_tupl, ev_tupt, ev_addi, ev_adds, ev_addl, ev_addt, ev_muli, ev_muls, ev_mull, ev_max, ev_min, ev_all, ev_any, gRepr, dLRg, Pd.r1, Pd.r2, eqD_str, eqD_int, eqD_bl, dFld, dProp, dMeth, dAugI, dRev, dMake, dIsi, isT, isC, dNx, dBrk, dNev, dFst, gNm, gTp, gsCons, gsNil, dAsg, dStar, dYes, iniEnd, flatD, wipeE, ev_ixl, ev_ixt, ev_ixs, ev_ixr, ev_srcl, ev_srct, ev_srcs, ev_at0, ev_at1, ev_atl, ev_atn, ev_ixn, Option.some.injEq, exists_eq_left', exists_eq_left, List.foldl_cons, List.foldl_nil, List.map_cons, List.map_nil, List.replicate, List.length_append, List.length_map, List.length_cons, List.length_nil, List.cons_append, List.nil_append, List.append_nil, List.getElem?_cons_zero, List.getElem?_cons_succ, List.set_cons_zero, List.set_cons_succ, Nat.zero_add, Nat.reduceAdd, Nat.reduceSub, Nat.reduceLeDiff, true_and, and_true, decide_eq_true_eq, decide_eq_false_iff_not, ne_eq, reduceCtorEq, false_implies, true_implies, forall_const, Bool.and_self, Bool.and_true, Bool.true_and, lk_ends, lk_blocks, lk_text, lk_spot, lk_letter, Int.toNat_natCast, dFldO, dTmq, dMut, dSetQ, dParQ, qMake, D.still, D.stills, lf_past, lf_word, lf_letters, pf_past, pf_later, pm1, pm2, pm3, pm4, pi1, pi2, pi3, pi4, pi5, lm_state, lm_text, lm_search] at q1 q2 ⊢
      exact ⟨fun h => q1 (by omega), fun h => q2 (by omega)⟩
    rw [List.nil_append, List.map_id, filter_intD]
    have fl := List.length_filter_le (fun i => decide (f < i)) (ms ++ [size bs])
    rw [List.length_append, List.length_singleton] at fl
    refine for_ind (Inv := fun zs n' ε => zs.length ≤ 13 ∧ n' ≤ m3 ∧ m3 ≤ n' + 3 * (13 - zs.length) ∧ (∀ z ∈ zs, ∃ l, f < l ∧ l ≤ size bs ∧ z = intD l) ∧ ∃ s9 s10 s11, ε = E04 c x bs ms s6 s7 (.val (intD f)) s9 s10 s11) ⟨by rw [List.length_map]; omega, Nat.le_refl _, by omega, fun z hz => ?_, s9, s10, s11, rfl⟩ ?_ ?_
    · obtain ⟨l, hl, rfl⟩ := List.mem_map.mp hz
      obtain ⟨hl1, hl2⟩ := List.mem_filter.mp hl
      refine ⟨l, of_decide_eq_true hl2, ?_, rfl⟩
      rcases List.mem_append.mp hl1 with h | h
      · exact Nat.le_of_lt (hms l h)
      · rw [List.mem_singleton.mp h]
        exact Nat.le_refl _
    · rintro m4 ε ⟨_, e1, e2, _, s9, s10, s11, rfl⟩
      simp only [List.length_nil] at e2
      exact ih2 _ (by omega) (by omega) _ _ _
    rintro z zs m4 ε nxt3 ih3 ⟨e0, e1, e2, hz, s9, s10, s11, rfl⟩
    rw [List.length_cons] at e0 e2
    obtain ⟨l, hfl, hls, rfl⟩ := hz z (by simp)
    have ih3 := fun m (h1 : m ≤ m4) (h2 : m4 ≤ m + 3) s10 s11 => ih3 m (E04 c x bs ms s6 s7 (.val (intD f)) (.val (intD l)) s10 s11) ⟨by omega, by omega, by omega, fun y hy => hz y (List.mem_cons_of_mem _ hy), _, s10, s11, rfl⟩
    have Tp := told_part04 T hfl hls
    have hps := part_size04 (bs := bs) hfl hls
    show dSeq _ _ _ m4 (E04 c x bs ms s6 s7 (.val (intD f)) (.val (intD l)) s10 s11)
    refine seq_at m4 (E04 c x bs ms s6 s7 (.val (intD f)) (.val (intD l)) (.val (wordD c (partR f l 0 bs))) s11) (fun nx hnx => ?_) ?_
    · simp only [E04, wordD, intD, envOf, dRet, dRetN, dOp, dSl, dSlO, dVar, dC, pSome, pNo, ev_sll, ev_slt, ev_sls, dBi, dCons, dNil, ev_lenl, ev_lent, ev_lens, ev_lenr, ev_gI, TC, Pd.gSub, gLt, gLe, gGt, gGe, gMod, gFdiv, gPow, gEq, gNe, ev_oki, ev_oks, ev_okl, ev_okt, gIs, gIsNot, gIsB, gIsNotB, Pd.isNon, dCall, dSeq, dSet, dSetO, dMul, setL, bCons, bOwn, bNil, dIf, dIte, dTB, dAnd, dOr, dNot, dBV, dAndV, dOrV, dChain, dTmp, dTmpT, frzE, dFrz, OD.d, dIxO, dApp, dSetI, dNeg, dLst, dLstO, dTup, dO, dDrop, ev_abs, ev_inttoi, ev_inttob, ev_inttos, ev_strtoi, ev_listl, ev_listt, ev_lists, ev_tupl, ev_tupt, ev_addi, ev_adds, ev_addl, ev_addt, ev_muli, ev_muls, ev_mull, ev_max, ev_min, ev_all, ev_any, gRepr, dLRg, Pd.r1, Pd.r2, eqD_str, eqD_int, eqD_bl, dFld, dProp, dMeth, dAugI, dRev, dMake, dIsi, isT, isC, dNx, dBrk, dNev, dFst, gNm, gTp, gsCons, gsNil, dAsg, dStar, dYes, iniEnd, flatD, wipeE, ev_ixl, ev_ixt, ev_ixs, ev_ixr, ev_srcl, ev_srct, ev_srcs, ev_at0, ev_at1, ev_atl, ev_atn, ev_ixn, Option.some.injEq, exists_eq_left', exists_eq_left, List.foldl_cons, List.foldl_nil, List.map_cons, List.map_nil, List.replicate, List.length_append, List.length_map, List.length_cons, List.length_nil, List.cons_append, List.nil_append, List.append_nil, List.getElem?_cons_zero, List.getElem?_cons_succ, List.set_cons_zero, List.set_cons_succ, Nat.zero_add, Nat.reduceAdd, Nat.reduceSub, Nat.reduceLeDiff, true_and, and_true, decide_eq_true_eq, decide_eq_false_iff_not, ne_eq, reduceCtorEq, false_implies, true_implies, forall_const, Bool.and_self, Bool.and_true, Bool.true_and, lk_ends, lk_blocks, lk_text, lk_spot, lk_letter, Int.toNat_natCast, dFldO, dTmq, dMut, dSetQ, dParQ, qMake, D.still, D.stills, lf_past, lf_word, lf_letters, pf_past, pf_later, pm1, pm2, pm3, pm4, pi1, pi2, pi3, pi4, pi5, lm_state, lm_text, lm_search] at hnx ⊢
      exact ⟨rfl, bs, f, l, rfl, T, hfl, hls, hnx⟩
    refine seq_at m4 (E04 c x bs ms s6 s7 (.val (intD f)) (.val (intD l)) (.val (wordD c (partR f l 0 bs))) s11) (fun nx hnx => ?_) ?_
    · refine if_no m4 (fun P hP => ?_) hnx
      simp only [E04, wordD, intD, envOf, dRet, dRetN, dOp, dSl, dSlO, dVar, dC, pSome, pNo, ev_sll, ev_slt, ev_sls, dBi, dCons, dNil, ev_lenl, ev_lent, ev_lens, ev_lenr, ev_gI, TC, Pd.gSub, gLt, gLe, gGt, gGe, gMod, gFdiv, gPow, gEq, gNe, ev_oki, ev_oks, ev_okl, ev_okt, gIs, gIsNot, gIsB, gIsNotB, Pd.isNon, dCall, dSeq, dSet, dSetO, dMul, setL, bCons, bOwn, bNil, dIf, dIte, dTB, dAnd, dOr, dNot, dBV, dAndV, dOrV, dChain, dTmp, dTmpT, frzE, dFrz, OD.d, dIxO, dApp, dSetI, dNeg, dLst, dLstO, dTup, dO, dDrop, ev_abs, ev_inttoi, ev_inttob, ev_inttos, ev_strtoi, ev_listl, ev_listt, ev_lists, ev_tupl, ev_tupt, ev_addi, ev_adds, ev_addl, ev_addt, ev_muli, ev_muls, ev_mull, ev_max, ev_min, ev_all, ev_any, gRepr, dLRg, Pd.r1, Pd.r2, eqD_str, eqD_int, eqD_bl, dFld, dProp, dMeth, dAugI, dRev, dMake, dIsi, isT, isC, dNx, dBrk, dNev, dFst, gNm, gTp, gsCons, gsNil, dAsg, dStar, dYes, iniEnd, flatD, wipeE, ev_ixl, ev_ixt, ev_ixs, ev_ixr, ev_srcl, ev_srct, ev_srcs, ev_at0, ev_at1, ev_atl, ev_atn, ev_ixn, Option.some.injEq, exists_eq_left', exists_eq_left, List.foldl_cons, List.foldl_nil, List.map_cons, List.map_nil, List.replicate, List.length_append, List.length_map, List.length_cons, List.length_nil, List.cons_append, List.nil_append, List.append_nil, List.getElem?_cons_zero, List.getElem?_cons_succ, List.set_cons_zero, List.set_cons_succ, Nat.zero_add, Nat.reduceAdd, Nat.reduceSub, Nat.reduceLeDiff, true_and, and_true, decide_eq_true_eq, decide_eq_false_iff_not, ne_eq, reduceCtorEq, false_implies, true_implies, forall_const, Bool.and_self, Bool.and_true, Bool.true_and, lk_ends, lk_blocks, lk_text, lk_spot, lk_letter, Int.toNat_natCast, dFldO, dTmq, dMut, dSetQ, dParQ, qMake, D.still, D.stills, lf_past, lf_word, lf_letters, pf_past, pf_later, pm1, pm2, pm3, pm4, pi1, pi2, pi3, pi4, pi5, lm_state, lm_text, lm_search]
      have hlf : ((l : Int) - (f : Int)) = ((l - f : Nat) : Int) := by omega
      refine ⟨_, rfl, bs, f, l, rfl, T.2.2.2, by omega, _, rfl, by have := Tp.2.1; omega, fun b hb => Nat.lt_trans (Tp.2.2.1 b hb).1 (by decide), rfl, fun h => ?_, fun _ => ⟨_, rfl, rfl, ?_⟩⟩
      · rw [eqD_str, decide_eq_true rfl] at h
        cases h
      · rw [hps, hlf, eqD_int, decide_eq_true rfl]
        exact hP
    refine seq_all (fun m5 ε => m5 ≤ m4 ∧ m4 ≤ m5 + 3 ∧ ∃ i : Nat, i < l - f ∧ ε = E04 c x bs ms s6 s7 (.val (intD f)) (.val (intD l)) (.val (wordD c (partR f l 0 bs))) (.val (intD i))) (fun nx hnx => ?_) ?_
    · simp only [E04, wordD, intD, envOf, dRet, dRetN, dOp, dSl, dSlO, dVar, dC, pSome, pNo, ev_sll, ev_slt, ev_sls, dBi, dCons, dNil, ev_lenl, ev_lent, ev_lens, ev_lenr, ev_gI, TC, Pd.gSub, gLt, gLe, gGt, gGe, gMod, gFdiv, gPow, gEq, gNe, ev_oki, ev_oks, ev_okl, ev_okt, gIs, gIsNot, gIsB, gIsNotB, Pd.isNon, dCall, dSeq, dSet, dSetO, dMul, setL, bCons, bOwn, bNil, dIf, dIte, dTB, dAnd, dOr, dNot, dBV, dAndV, dOrV, dChain, dTmp, dTmpT, frzE, dFrz, OD.d, dIxO, dApp, dSetI, dNeg, dLst, dLstO, dTup, dO, dDrop, ev_abs, ev_inttoi, ev_inttob, ev_inttos, ev_strtoi, ev_listl, ev_listt, ev_lists, ev_tupl, ev_tupt, ev_addi, ev_adds, ev_addl, ev_addt, ev_muli, ev_muls, ev_mull, ev_max, ev_min, ev_all, ev_any, gRepr, dLRg, Pd.r1, Pd.r2, eqD_str, eqD_int, eqD_bl, dFld, dProp, dMeth, dAugI, dRev, dMake, dIsi, isT, isC, dNx, dBrk, dNev, dFst, gNm, gTp, gsCons, gsNil, dAsg, dStar, dYes, iniEnd, flatD, wipeE, ev_ixl, ev_ixt, ev_ixs, ev_ixr, ev_srcl, ev_srct, ev_srcs, ev_at0, ev_at1, ev_atl, ev_atn, ev_ixn, Option.some.injEq, exists_eq_left', exists_eq_left, List.foldl_cons, List.foldl_nil, List.map_cons, List.map_nil, List.replicate, List.length_append, List.length_map, List.length_cons, List.length_nil, List.cons_append, List.nil_append, List.append_nil, List.getElem?_cons_zero, List.getElem?_cons_succ, List.set_cons_zero, List.set_cons_succ, Nat.zero_add, Nat.reduceAdd, Nat.reduceSub, Nat.reduceLeDiff, true_and, and_true, decide_eq_true_eq, decide_eq_false_iff_not, ne_eq, reduceCtorEq, false_implies, true_implies, forall_const, Bool.and_self, Bool.and_true, Bool.true_and, lk_ends, lk_blocks, lk_text, lk_spot, lk_letter, Int.toNat_natCast, dFldO, dTmq, dMut, dSetQ, dParQ, qMake, D.still, D.stills, lf_past, lf_word, lf_letters, pf_past, pf_later, pm1, pm2, pm3, pm4, pi1, pi2, pi3, pi4, pi5, lm_state, lm_text, lm_search] at hnx ⊢
      have hlf : ((l : Int) - (f : Int)) = ((l - f : Nat) : Int) := by omega
      rw [hlf]
      exact ⟨l - f, rfl, by omega, Nat.lt_of_le_of_lt (m := 40 * 10 ^ 30) (by omega) (by decide), by omega, fun m5 i a1 a2 hi => hnx _ _ ⟨a1, a2, i, hi, rfl⟩⟩
    rintro m5 ε ⟨g1, g2, i, hi, rfl⟩
    refine if_no m5 (fun P hP => ?_) (ih3 _ g1 g2 _ _)
    simp only [E04, wordD, intD, envOf, dRet, dRetN, dOp, dSl, dSlO, dVar, dC, pSome, pNo, ev_sll, ev_slt, ev_sls, dBi, dCons, dNil, ev_lenl, ev_lent, ev_lens, ev_lenr, ev_gI, TC, Pd.gSub, gLt, gLe, gGt, gGe, gMod, gFdiv, gPow, gEq, gNe, ev_oki, ev_oks, ev_okl, ev_okt, gIs, gIsNot, gIsB, gIsNotB, Pd.isNon, dCall, dSeq, dSet, dSetO, dMul, setL, bCons, bOwn, bNil, dIf, dIte, dTB, dAnd, dOr, dNot, dBV, dAndV, dOrV, dChain, dTmp, dTmpT, frzE, dFrz, OD.d, dIxO, dApp, dSetI, dNeg, dLst, dLstO, dTup, dO, dDrop, ev_abs, ev_inttoi, ev_inttob, ev_inttos, ev_strtoi, ev_listl, ev_listt, ev_lists, ev_tupl, ev_tupt, ev_addi, ev_adds, ev_addl, ev_addt, ev_muli, ev_muls, ev_mull, ev_max, ev_min, ev_all, ev_any, gRepr, dLRg, Pd.r1, Pd.r2, eqD_str, eqD_int, eqD_bl, dFld, dProp, dMeth, dAugI, dRev, dMake, dIsi, isT, isC, dNx, dBrk, dNev, dFst, gNm, gTp, gsCons, gsNil, dAsg, dStar, dYes, iniEnd, flatD, wipeE, ev_ixl, ev_ixt, ev_ixs, ev_ixr, ev_srcl, ev_srct, ev_srcs, ev_at0, ev_at1, ev_atl, ev_atn, ev_ixn, Option.some.injEq, exists_eq_left', exists_eq_left, List.foldl_cons, List.foldl_nil, List.map_cons, List.map_nil, List.replicate, List.length_append, List.length_map, List.length_cons, List.length_nil, List.cons_append, List.nil_append, List.append_nil, List.getElem?_cons_zero, List.getElem?_cons_succ, List.set_cons_zero, List.set_cons_succ, Nat.zero_add, Nat.reduceAdd, Nat.reduceSub, Nat.reduceLeDiff, true_and, and_true, decide_eq_true_eq, decide_eq_false_iff_not, ne_eq, reduceCtorEq, false_implies, true_implies, forall_const, Bool.and_self, Bool.and_true, Bool.true_and, lk_ends, lk_blocks, lk_text, lk_spot, lk_letter, Int.toNat_natCast, dFldO, dTmq, dMut, dSetQ, dParQ, qMake, D.still, D.stills, lf_past, lf_word, lf_letters, pf_past, pf_later, pm1, pm2, pm3, pm4, pi1, pi2, pi3, pi4, pi5, lm_state, lm_text, lm_search]
    have hlf : ((l : Int) - (f : Int)) = ((l - f : Nat) : Int) := by omega
    have hfi : ((f : Int) + (i : Int)) = ((f + i : Nat) : Int) := by omega
    rw [hlf, hfi]
    refine ⟨rfl, partR f l 0 bs, i, l - f, rfl, Tp, hi, by omega, rfl, bs, f + i, l, rfl, T, by omega, hls, ?_⟩
    rw [inner04 T.1 hfl hls]
    exact own_same hP
  rintro n2 ε ⟨i1, i2⟩
  simp only [envOf, dRet, dRetN, dOp, dSl, dSlO, dVar, dC, pSome, pNo, ev_sll, ev_slt, ev_sls, dBi, dCons, dNil, ev_lenl, ev_lent, ev_lens, ev_lenr, ev_gI, TC, Pd.gSub, gLt, gLe, gGt, gGe, gMod, gFdiv, gPow, gEq, gNe, ev_oki, ev_oks, ev_okl, ev_okt, gIs, gIsNot, gIsB, gIsNotB, Pd.isNon, dCall, dSeq, dSet, dSetO, dMul, setL, bCons, bOwn, bNil, dIf, dIte, dTB, dAnd, dOr, dNot, dBV, dAndV, dOrV, dChain, dTmp, dTmpT, frzE, dFrz, OD.d, dIxO, dApp, dSetI, dNeg, dLst, dLstO, dTup, dO, dDrop, ev_abs, ev_inttoi, ev_inttob, ev_inttos, ev_strtoi, ev_listl, ev_listt, ev_lists, ev_tupl, ev_tupt, ev_addi, ev_adds, ev_addl, ev_addt, ev_muli, ev_muls, ev_mull, ev_max, ev_min, ev_all, ev_any, gRepr, dLRg, Pd.r1, Pd.r2, eqD_str, eqD_int, eqD_bl, dFld, dProp, dMeth, dAugI, dRev, dMake, dIsi, isT, isC, dNx, dBrk, dNev, dFst, gNm, gTp, gsCons, gsNil, dAsg, dStar, dYes, iniEnd, flatD, wipeE, ev_ixl, ev_ixt, ev_ixs, ev_ixr, ev_srcl, ev_srct, ev_srcs, ev_at0, ev_at1, ev_atl, ev_atn, ev_ixn, Option.some.injEq, exists_eq_left', exists_eq_left, List.foldl_cons, List.foldl_nil, List.map_cons, List.map_nil, List.replicate, List.length_append, List.length_map, List.length_cons, List.length_nil, List.cons_append, List.nil_append, List.append_nil, List.getElem?_cons_zero, List.getElem?_cons_succ, List.set_cons_zero, List.set_cons_succ, Nat.zero_add, Nat.reduceAdd, Nat.reduceSub, Nat.reduceLeDiff, true_and, and_true, decide_eq_true_eq, decide_eq_false_iff_not, ne_eq, reduceCtorEq, false_implies, true_implies, forall_const, Bool.and_self, Bool.and_true, Bool.true_and, lk_ends, lk_blocks, lk_text, lk_spot, lk_letter, Int.toNat_natCast, dFldO, dTmq, dMut, dSetQ, dParQ, qMake, D.still, D.stills, lf_past, lf_word, lf_letters, pf_past, pf_later, pm1, pm2, pm3, pm4, pi1, pi2, pi3, pi4, pi5, lm_state, lm_text, lm_search]
  exact q _ (by omega) (by omega)
theorem r_right04 (c : Str → Addr) : RightOk (s_right04 c) 10000 := fun n Q h q => ⟨rfl, h, q⟩
end LW
namespace LW
open PySem L2 Pd
structure Fc (K : PySem.W.Frag) (mg : Str → Option Value) : Prop where
  g_Word : mg "Word" = some (.ref (He.ga K "Word"))
  g__law_any_letters : mg "_law_any_letters" = some (.ref (He.ga K "_law_any_letters"))
  g__law_block_text : mg "_law_block_text" = some (.ref (He.ga K "_law_block_text"))
  g__law_blocks : mg "_law_blocks" = some (.ref (He.ga K "_law_blocks"))
  g__law_blocks_part : mg "_law_blocks_part" = some (.ref (He.ga K "_law_blocks_part"))
  g__law_cells : mg "_law_cells" = some (.ref (He.ga K "_law_cells"))
  g__law_great_blocks : mg "_law_great_blocks" = some (.ref (He.ga K "_law_great_blocks"))
  g__law_heads_of : mg "_law_heads_of" = some (.ref (He.ga K "_law_heads_of"))
  g__law_letter_at : mg "_law_letter_at" = some (.ref (He.ga K "_law_letter_at"))
  g__law_letters : mg "_law_letters" = some (.ref (He.ga K "_law_letters"))
  g__law_merged : mg "_law_merged" = some (.ref (He.ga K "_law_merged"))
  g__law_near_places : mg "_law_near_places" = some (.ref (He.ga K "_law_near_places"))
  g__law_of : mg "_law_of" = some (.ref (He.ga K "_law_of"))
  g__law_place : mg "_law_place" = some (.ref (He.ga K "_law_place"))
  g__law_pot : mg "_law_pot" = some (.ref (He.ga K "_law_pot"))
  g__law_random : mg "_law_random" = some (.ref (He.ga K "_law_random"))
  g__law_right : mg "_law_right" = some (.ref (He.ga K "_law_right"))
  g__law_small_or_great : mg "_law_small_or_great" = some (.ref (He.ga K "_law_small_or_great"))
  g__law_sum_of : mg "_law_sum_of" = some (.ref (He.ga K "_law_sum_of"))
  g__law_take : mg "_law_take" = some (.ref (He.ga K "_law_take"))
  g_block_in : mg "block_in" = some (.ref (He.ga K "block_in"))
  g_blocks_told : mg "blocks_told" = some (.ref (He.ga K "blocks_told"))
  g_is_integer : mg "is_integer" = some (.ref (He.ga K "is_integer"))
  g_is_said : mg "is_said" = some (.ref (He.ga K "is_said"))
  g_made : mg "made" = some (.ref (He.ga K "made"))
  g_pieces_of : mg "pieces_of" = some (.ref (He.ga K "pieces_of"))
  g_put_together : mg "put_together" = some (.ref (He.ga K "put_together"))
  g_text_of : mg "text_of" = some (.ref (He.ga K "text_of"))
  g_whole_in : mg "whole_in" = some (.ref (He.ga K "whole_in"))
  g_law : mg "law" = some (.ref (He.ga K "law"))
  i_BEYOND : ∃ t, mg "BEYOND" = some (.int 1000000000000000000000000000000 t)
  i_MOST_BLOCKS : ∃ t, mg "MOST_BLOCKS" = some (.int 40 t)
  i_MOST_FIGURES_plain : ∃ t, mg "MOST_FIGURES_plain" = some (.int 40 t)
  i_MOST_FIGURES_words : ∃ t, mg "MOST_FIGURES_words" = some (.int 30 t)
  s_FIGURES : ∃ t, mg "FIGURES" = some (.str ⟨List.toArray [48, 49, 50, 51, 52, 53, 54, 55, 56, 57]⟩ t)
  s_LETTERS : ∃ t, mg "LETTERS" = some (.str ⟨List.toArray [97, 98, 99, 100, 101, 102, 103, 104, 105, 106, 107, 108, 109, 110, 111, 112, 113, 114, 115, 116, 117, 118, 119, 120, 121, 122]⟩ t)
  f_abs : mg "abs" = none
  f_all : mg "all" = none
  f_any : mg "any" = none
  f_bool : mg "bool" = none
  f_enumerate : mg "enumerate" = none
  f_int : mg "int" = none
  f_isinstance : mg "isinstance" = none
  f_len : mg "len" = none
  f_list : mg "list" = none
  f_max : mg "max" = none
  f_min : mg "min" = none
  f_range : mg "range" = none
  f_set : mg "set" = none
  f_sorted : mg "sorted" = none
  f_str : mg "str" = none
  f_sum : mg "sum" = none
  f_tuple : mg "tuple" = none
  f_zip : mg "zip" = none
  c_Word : Cls K (He.ga K "Word")
  mk_Word : Mk K (He.ga K "Word") (He.ma K (He.ga K "Word") "__init__")
  n_Word_own_blocks : NoAttr K (He.ga K "Word") "own_blocks"
  n_Word_own_ends : NoAttr K (He.ga K "Word") "own_ends"
  n_Word_own_text : NoAttr K (He.ga K "Word") "own_text"
  p_Word_text : PropOf K (He.ga K "Word") "text" (propAt K "Word" "text") (getterAt "Word" "text" K)
  p_Word_blocks : PropOf K (He.ga K "Word") "blocks" (propAt K "Word" "blocks") (getterAt "Word" "blocks" K)
  p_Word_size : PropOf K (He.ga K "Word") "size" (propAt K "Word" "size") (getterAt "Word" "size" K)
  m_Word___eq__ : Meth K (He.ga K "Word") "__eq__" (methAt "Word" "__eq__" K)
  m_Word_spot : Meth K (He.ga K "Word") "spot" (methAt "Word" "spot" K)
  m_Word_letter : Meth K (He.ga K "Word") "letter" (methAt "Word" "letter" K)
  m_Word_part : Meth K (He.ga K "Word") "part" (methAt "Word" "part" K)
  m_Word_joined : Meth K (He.ga K "Word") "joined" (methAt "Word" "joined" K)
  q_Word : EqnOk K (He.ga K "Word")
  ins_Word : InsOk K (He.ga K "Word")
  is_Word : IsT K (.ref (He.ga K "Word")) (isC (He.ga K "Word") [])
  is_bool : IsT K (.ty "bool") (isT "bool" [He.ga K "Word"])
  is_int : IsT K (.ty "int") (isT "int" [He.ga K "Word"])
  is_str : IsT K (.ty "str") (isT "str" [He.ga K "Word"])
  d_is_integer : ∃ fd, FunD K D_is_integer.name D_is_integer.qual D_is_integer.params D_is_integer.body D_is_integer.scope (D_is_integer.dvs K) [] (D_is_integer.loc K) fd
  d_is_said : ∃ fd, FunD K D_is_said.name D_is_said.qual D_is_said.params D_is_said.body D_is_said.scope [] [] (D_is_said.loc K) fd
  d_whole_in : ∃ fd, FunD K D_whole_in.name D_whole_in.qual D_whole_in.params D_whole_in.body D_whole_in.scope [] [] (D_whole_in.loc K) fd
  d_pieces_of : ∃ fd, FunD K D_pieces_of.name D_pieces_of.qual D_pieces_of.params D_pieces_of.body D_pieces_of.scope [] [] (D_pieces_of.loc K) fd
  d_block_in : ∃ fd, FunD K D_block_in.name D_block_in.qual D_block_in.params D_block_in.body D_block_in.scope [] [] (D_block_in.loc K) fd
  d_blocks_told : ∃ fd, FunD K D_blocks_told.name D_blocks_told.qual D_blocks_told.params D_blocks_told.body D_blocks_told.scope [] [] (D_blocks_told.loc K) fd
  d_text_of : ∃ fd, FunD K D_text_of.name D_text_of.qual D_text_of.params D_text_of.body D_text_of.scope [] [] (D_text_of.loc K) fd
  d_put_together : ∃ fd, FunD K D_put_together.name D_put_together.qual D_put_together.params D_put_together.body D_put_together.scope [] [] (D_put_together.loc K) fd
  d_made : ∃ fd, FunD K D_made.name D_made.qual D_made.params D_made.body D_made.scope [] [] (D_made.loc K) fd
  d__law_pot : ∃ fd, FunD K D__law_pot.name D__law_pot.qual D__law_pot.params D__law_pot.body D__law_pot.scope [] [] (D__law_pot.loc K) fd
  d__law_take : ∃ fd, FunD K D__law_take.name D__law_take.qual D__law_take.params D__law_take.body D__law_take.scope [] [] (D__law_take.loc K) fd
  d__law_of : ∃ fd, FunD K D__law_of.name D__law_of.qual D__law_of.params D__law_of.body D__law_of.scope [] [] (D__law_of.loc K) fd
  d__law_cells : ∃ fd, FunD K D__law_cells.name D__law_cells.qual D__law_cells.params D__law_cells.body D__law_cells.scope [] [] (D__law_cells.loc K) fd
  d__law_random : ∃ fd, FunD K D__law_random.name D__law_random.qual D__law_random.params D__law_random.body D__law_random.scope [] [] (D__law_random.loc K) fd
  d__law_letters : ∃ fd, FunD K D__law_letters.name D__law_letters.qual D__law_letters.params D__law_letters.body D__law_letters.scope [] [] (D__law_letters.loc K) fd
  d__law_any_letters : ∃ fd, FunD K D__law_any_letters.name D__law_any_letters.qual D__law_any_letters.params D__law_any_letters.body D__law_any_letters.scope [] [] (D__law_any_letters.loc K) fd
  d__law_blocks : ∃ fd, FunD K D__law_blocks.name D__law_blocks.qual D__law_blocks.params D__law_blocks.body D__law_blocks.scope [] [] (D__law_blocks.loc K) fd
  d__law_block_text : ∃ fd, FunD K D__law_block_text.name D__law_block_text.qual D__law_block_text.params D__law_block_text.body D__law_block_text.scope [] [] (D__law_block_text.loc K) fd
  d__law_great_blocks : ∃ fd, FunD K D__law_great_blocks.name D__law_great_blocks.qual D__law_great_blocks.params D__law_great_blocks.body D__law_great_blocks.scope [] [] (D__law_great_blocks.loc K) fd
  d__law_sum_of : ∃ fd, FunD K D__law_sum_of.name D__law_sum_of.qual D__law_sum_of.params D__law_sum_of.body D__law_sum_of.scope [] [] (D__law_sum_of.loc K) fd
  d__law_heads_of : ∃ fd, FunD K D__law_heads_of.name D__law_heads_of.qual D__law_heads_of.params D__law_heads_of.body D__law_heads_of.scope [] [] (D__law_heads_of.loc K) fd
  d__law_letter_at : ∃ fd, FunD K D__law_letter_at.name D__law_letter_at.qual D__law_letter_at.params D__law_letter_at.body D__law_letter_at.scope [] [] (D__law_letter_at.loc K) fd
  d__law_merged : ∃ fd, FunD K D__law_merged.name D__law_merged.qual D__law_merged.params D__law_merged.body D__law_merged.scope [] [] (D__law_merged.loc K) fd
  d__law_blocks_part : ∃ fd, FunD K D__law_blocks_part.name D__law_blocks_part.qual D__law_blocks_part.params D__law_blocks_part.body D__law_blocks_part.scope [] [] (D__law_blocks_part.loc K) fd
  d__law_small_or_great : ∃ fd, FunD K D__law_small_or_great.name D__law_small_or_great.qual D__law_small_or_great.params D__law_small_or_great.body D__law_small_or_great.scope [] [] (D__law_small_or_great.loc K) fd
  d__law_place : ∃ fd, FunD K D__law_place.name D__law_place.qual D__law_place.params D__law_place.body D__law_place.scope [] [] (D__law_place.loc K) fd
  d__law_near_places : ∃ fd, FunD K D__law_near_places.name D__law_near_places.qual D__law_near_places.params D__law_near_places.body D__law_near_places.scope [] [] (D__law_near_places.loc K) fd
  d__law_right : ∃ fd, FunD K D__law_right.name D__law_right.qual D__law_right.params D__law_right.body D__law_right.scope [] [] (D__law_right.loc K) fd
  d_law : ∃ fd, FunD K D_law.name D_law.qual D_law.params D_law.body D_law.scope [] [] (D_law.loc K) fd
  d_Word___init__ : ∃ fd, FunD K D_Word___init__.name D_Word___init__.qual D_Word___init__.params D_Word___init__.body D_Word___init__.scope [] [] (D_Word___init__.loc K) fd
  d_Word_text : ∃ fd, FunD K D_Word_text.name D_Word_text.qual D_Word_text.params D_Word_text.body D_Word_text.scope [] [] (D_Word_text.loc K) fd
  d_Word_blocks : ∃ fd, FunD K D_Word_blocks.name D_Word_blocks.qual D_Word_blocks.params D_Word_blocks.body D_Word_blocks.scope [] [] (D_Word_blocks.loc K) fd
  d_Word_size : ∃ fd, FunD K D_Word_size.name D_Word_size.qual D_Word_size.params D_Word_size.body D_Word_size.scope [] [] (D_Word_size.loc K) fd
  d_Word___eq__ : ∃ fd, FunD K D_Word___eq__.name D_Word___eq__.qual D_Word___eq__.params D_Word___eq__.body D_Word___eq__.scope [] [] (D_Word___eq__.loc K) fd
  d_Word_spot : ∃ fd, FunD K D_Word_spot.name D_Word_spot.qual D_Word_spot.params D_Word_spot.body D_Word_spot.scope [] [] (D_Word_spot.loc K) fd
  d_Word_letter : ∃ fd, FunD K D_Word_letter.name D_Word_letter.qual D_Word_letter.params D_Word_letter.body D_Word_letter.scope [] [] (D_Word_letter.loc K) fd
  d_Word_part : ∃ fd, FunD K D_Word_part.name D_Word_part.qual D_Word_part.params D_Word_part.body D_Word_part.scope [] [] (D_Word_part.loc K) fd
  d_Word_joined : ∃ fd, FunD K D_Word_joined.name D_Word_joined.qual D_Word_joined.params D_Word_joined.body D_Word_joined.scope [] [] (D_Word_joined.loc K) fd
theorem fc_of {K : PySem.W.Frag} {h : Heap} {mg : Str → Option Value} (X : K.In h) (G : h.Ns mainGlobals mg) (c : SaysP fx fn K) : Fc K mg :=
  ⟨He.glo_ok X G (c.fact 0 (f := .old (.glo "Word"))),
   He.glo_ok X G (c.fact 1 (f := .old (.glo "_law_any_letters"))),
   He.glo_ok X G (c.fact 2 (f := .old (.glo "_law_block_text"))),
   He.glo_ok X G (c.fact 3 (f := .old (.glo "_law_blocks"))),
   He.glo_ok X G (c.fact 4 (f := .old (.glo "_law_blocks_part"))),
   He.glo_ok X G (c.fact 5 (f := .old (.glo "_law_cells"))),
   He.glo_ok X G (c.fact 6 (f := .old (.glo "_law_great_blocks"))),
   He.glo_ok X G (c.fact 7 (f := .old (.glo "_law_heads_of"))),
   He.glo_ok X G (c.fact 8 (f := .old (.glo "_law_letter_at"))),
   He.glo_ok X G (c.fact 9 (f := .old (.glo "_law_letters"))),
   He.glo_ok X G (c.fact 10 (f := .old (.glo "_law_merged"))),
   He.glo_ok X G (c.fact 11 (f := .old (.glo "_law_near_places"))),
   He.glo_ok X G (c.fact 12 (f := .old (.glo "_law_of"))),
   He.glo_ok X G (c.fact 13 (f := .old (.glo "_law_place"))),
   He.glo_ok X G (c.fact 14 (f := .old (.glo "_law_pot"))),
   He.glo_ok X G (c.fact 15 (f := .old (.glo "_law_random"))),
   He.glo_ok X G (c.fact 16 (f := .old (.glo "_law_right"))),
   He.glo_ok X G (c.fact 17 (f := .old (.glo "_law_small_or_great"))),
   He.glo_ok X G (c.fact 18 (f := .old (.glo "_law_sum_of"))),
   He.glo_ok X G (c.fact 19 (f := .old (.glo "_law_take"))),
   He.glo_ok X G (c.fact 20 (f := .old (.glo "block_in"))),
   He.glo_ok X G (c.fact 21 (f := .old (.glo "blocks_told"))),
   He.glo_ok X G (c.fact 22 (f := .old (.glo "is_integer"))),
   He.glo_ok X G (c.fact 23 (f := .old (.glo "is_said"))),
   He.glo_ok X G (c.fact 24 (f := .old (.glo "made"))),
   He.glo_ok X G (c.fact 25 (f := .old (.glo "pieces_of"))),
   He.glo_ok X G (c.fact 26 (f := .old (.glo "put_together"))),
   He.glo_ok X G (c.fact 27 (f := .old (.glo "text_of"))),
   He.glo_ok X G (c.fact 28 (f := .old (.glo "whole_in"))),
   He.glo_ok X G (c.fact 29 (f := .old (.glo "law"))),
   He.int_ok X G (c.fact 30 (f := .old (.int "BEYOND" 1000000000000000000000000000000))),
   He.int_ok X G (c.fact 31 (f := .old (.int "MOST_BLOCKS" 40))),
   He.int_ok X G (c.fact 32 (f := .old (.int "MOST_FIGURES_plain" 40))),
   He.int_ok X G (c.fact 33 (f := .old (.int "MOST_FIGURES_words" 30))),
   He.str_ok X G (c.fact 34 (f := .old (.str "FIGURES" ⟨List.toArray [48, 49, 50, 51, 52, 53, 54, 55, 56, 57]⟩))),
   He.str_ok X G (c.fact 35 (f := .old (.str "LETTERS" ⟨List.toArray [97, 98, 99, 100, 101, 102, 103, 104, 105, 106, 107, 108, 109, 110, 111, 112, 113, 114, 115, 116, 117, 118, 119, 120, 121, 122]⟩))),
   He.free_ok X G (c.fact 36 (f := .old (.free "abs"))),
   He.free_ok X G (c.fact 37 (f := .old (.free "all"))),
   He.free_ok X G (c.fact 38 (f := .old (.free "any"))),
   He.free_ok X G (c.fact 39 (f := .old (.free "bool"))),
   He.free_ok X G (c.fact 40 (f := .old (.free "enumerate"))),
   He.free_ok X G (c.fact 41 (f := .old (.free "int"))),
   He.free_ok X G (c.fact 42 (f := .old (.free "isinstance"))),
   He.free_ok X G (c.fact 43 (f := .old (.free "len"))),
   He.free_ok X G (c.fact 44 (f := .old (.free "list"))),
   He.free_ok X G (c.fact 45 (f := .old (.free "max"))),
   He.free_ok X G (c.fact 46 (f := .old (.free "min"))),
   He.free_ok X G (c.fact 47 (f := .old (.free "range"))),
   He.free_ok X G (c.fact 48 (f := .old (.free "set"))),
   He.free_ok X G (c.fact 49 (f := .old (.free "sorted"))),
   He.free_ok X G (c.fact 50 (f := .old (.free "str"))),
   He.free_ok X G (c.fact 51 (f := .old (.free "sum"))),
   He.free_ok X G (c.fact 52 (f := .old (.free "tuple"))),
   He.free_ok X G (c.fact 53 (f := .old (.free "zip"))),
   He.cls_ok (c.fact 54 (f := .old (.cls "Word"))),
   He.mkr_ok (c.fact 55 (f := .old (.mkr "Word"))),
   He.noat_ok (c.fact 56 (f := .old (.noat "Word" "own_blocks"))),
   He.noat_ok (c.fact 57 (f := .old (.noat "Word" "own_ends"))),
   He.noat_ok (c.fact 58 (f := .old (.noat "Word" "own_text"))),
   prop_ok (c.fact 59 (f := .prop "Word" "text")),
   prop_ok (c.fact 60 (f := .prop "Word" "blocks")),
   prop_ok (c.fact 61 (f := .prop "Word" "size")),
   He.meth_ok (c.fact 62 (f := .old (.meth "Word" "__eq__"))),
   He.meth_ok (c.fact 63 (f := .old (.meth "Word" "spot"))),
   He.meth_ok (c.fact 64 (f := .old (.meth "Word" "letter"))),
   He.meth_ok (c.fact 65 (f := .old (.meth "Word" "part"))),
   He.meth_ok (c.fact 66 (f := .old (.meth "Word" "joined"))),
   eqn_ok (c.fact 67 (f := .eqn "Word")),
   ins_ok (He.cls_ok (c.fact 54 (f := .old (.cls "Word")))) (c.fact 68 (f := .ins "Word")),
   isC_ok (fun S hS => by simp only [List.mem_cons, List.mem_nil_iff, or_false] at hS; rcases hS with h | h | h | h | h | h | h <;> subst h; exact isi_ok (c.fact 69 (f := .isi (.type "NoneType") (.inl "Word") false)); exact isi_ok (c.fact 70 (f := .isi (.type "bool") (.inl "Word") false)); exact isi_ok (c.fact 71 (f := .isi (.type "int") (.inl "Word") false)); exact isi_ok (c.fact 72 (f := .isi (.type "str") (.inl "Word") false)); exact isi_ok (c.fact 73 (f := .isi (.type "list") (.inl "Word") false)); exact isi_ok (c.fact 74 (f := .isi (.type "tuple") (.inl "Word") false)); exact isi_ok (c.fact 75 (f := .isi (.type "dict") (.inl "Word") false))) ⟨ins_ok (He.cls_ok (c.fact 54 (f := .old (.cls "Word")))) (c.fact 68 (f := .ins "Word")), isiC_ok (c.fact 76 (f := .isiC "Word" (.inl "Word") true))⟩ (fun C hC => by cases hC),
   isT_ok (fun S hS => by simp only [List.mem_cons, List.mem_nil_iff, or_false] at hS; rcases hS with h | h | h | h | h | h | h <;> subst h; exact isi_ok (c.fact 77 (f := .isi (.type "NoneType") (.inr "bool") false)); exact isi_ok (c.fact 78 (f := .isi (.type "bool") (.inr "bool") true)); exact isi_ok (c.fact 79 (f := .isi (.type "int") (.inr "bool") false)); exact isi_ok (c.fact 80 (f := .isi (.type "str") (.inr "bool") false)); exact isi_ok (c.fact 81 (f := .isi (.type "list") (.inr "bool") false)); exact isi_ok (c.fact 82 (f := .isi (.type "tuple") (.inr "bool") false)); exact isi_ok (c.fact 83 (f := .isi (.type "dict") (.inr "bool") false))) (fun C hC => by simp only [List.mem_cons, List.mem_nil_iff, or_false] at hC; subst hC; exact ⟨ins_ok (He.cls_ok (c.fact 54 (f := .old (.cls "Word")))) (c.fact 68 (f := .ins "Word")), isiC_ok (c.fact 84 (f := .isiC "Word" (.inr "bool") false))⟩),
   isT_ok (fun S hS => by simp only [List.mem_cons, List.mem_nil_iff, or_false] at hS; rcases hS with h | h | h | h | h | h | h <;> subst h; exact isi_ok (c.fact 85 (f := .isi (.type "NoneType") (.inr "int") false)); exact isi_ok (c.fact 86 (f := .isi (.type "bool") (.inr "int") true)); exact isi_ok (c.fact 87 (f := .isi (.type "int") (.inr "int") true)); exact isi_ok (c.fact 88 (f := .isi (.type "str") (.inr "int") false)); exact isi_ok (c.fact 89 (f := .isi (.type "list") (.inr "int") false)); exact isi_ok (c.fact 90 (f := .isi (.type "tuple") (.inr "int") false)); exact isi_ok (c.fact 91 (f := .isi (.type "dict") (.inr "int") false))) (fun C hC => by simp only [List.mem_cons, List.mem_nil_iff, or_false] at hC; subst hC; exact ⟨ins_ok (He.cls_ok (c.fact 54 (f := .old (.cls "Word")))) (c.fact 68 (f := .ins "Word")), isiC_ok (c.fact 92 (f := .isiC "Word" (.inr "int") false))⟩),
   isT_ok (fun S hS => by simp only [List.mem_cons, List.mem_nil_iff, or_false] at hS; rcases hS with h | h | h | h | h | h | h <;> subst h; exact isi_ok (c.fact 93 (f := .isi (.type "NoneType") (.inr "str") false)); exact isi_ok (c.fact 94 (f := .isi (.type "bool") (.inr "str") false)); exact isi_ok (c.fact 95 (f := .isi (.type "int") (.inr "str") false)); exact isi_ok (c.fact 96 (f := .isi (.type "str") (.inr "str") true)); exact isi_ok (c.fact 97 (f := .isi (.type "list") (.inr "str") false)); exact isi_ok (c.fact 98 (f := .isi (.type "tuple") (.inr "str") false)); exact isi_ok (c.fact 99 (f := .isi (.type "dict") (.inr "str") false))) (fun C hC => by simp only [List.mem_cons, List.mem_nil_iff, or_false] at hC; subst hC; exact ⟨ins_ok (He.cls_ok (c.fact 54 (f := .old (.cls "Word")))) (c.fact 68 (f := .ins "Word")), isiC_ok (c.fact 100 (f := .isiC "Word" (.inr "str") false))⟩),
   c.fn 0,
   c.fn 1,
   c.fn 2,
   c.fn 3,
   c.fn 4,
   c.fn 5,
   c.fn 6,
   c.fn 7,
   c.fn 8,
   c.fn 9,
   c.fn 10,
   c.fn 11,
   c.fn 12,
   c.fn 13,
   c.fn 14,
   c.fn 15,
   c.fn 16,
   c.fn 17,
   c.fn 18,
   c.fn 19,
   c.fn 20,
   c.fn 21,
   c.fn 22,
   c.fn 23,
   c.fn 24,
   c.fn 25,
   c.fn 26,
   c.fn 27,
   c.fn 28,
   c.fn 29,
   c.fn 30,
   c.fn 31,
   c.fn 32,
   c.fn 33,
   c.fn 34,
   c.fn 35,
   c.fn 36,
   c.fn 37⟩
section
variable {P : Program} {w : World} {K : PySem.W.Frag} {mg : Str → Option Value} {base : Heap}
abbrev N__law_cells : List Str := ["_law_script", "_law_limit"]
theorem sc__law_cells : FnScope N__law_cells ["_law_script", "_law_limit"] (defScope S__law_cells) := ⟨rfl, rfl, rfl, by decide +kernel, rfl, by decide +kernel, by decide +kernel⟩
theorem ok__law_cells (F : Fc K mg)   {sp : FD} (hs : ∀ ds n Q, sp ds n Q → dFn N__law_cells.length 2 (b__law_cells (He.ga K) ) ds n Q) : HasF false P w K mg base 1 (He.ga K "_law_cells") ["_law_script", "_law_limit"] [] sp :=
  has_f F.d__law_cells sc__law_cells (fun _ _ _ _ _ _ us hl => match us, hl with | [_, _], _ => rfl) (fun fd cdv A outer s H E hr => by
    have nd := sc__law_cells.nd
    exact (dss_one (ds_ret (de_lrg rfl rfl F.f_list (dr_1 rfl F.f_range (de_bi (call_maxA rfl) so_max rfl F.f_max bt_max (da_cons de_int (da_cons (de_bi (call_minA rfl) so_min rfl F.f_min bt_min (da_cons (de_var 1) (da_cons (de_bi call_lenA so_len rfl F.f_len bt_len (da_cons (de_var 0) da_nil)) da_nil))) da_nil)))))))) hs
abbrev N__law_pot : List Str := ["_law_script", "_law_place_here", "_law_cell", "_law_own", "_law_small"]
theorem sc__law_pot : FnScope N__law_pot ["_law_script", "_law_place_here"] (defScope S__law_pot) := ⟨rfl, rfl, rfl, by decide +kernel, rfl, by decide +kernel, by decide +kernel⟩
theorem ok__law_pot (F : Fc K mg)   {sp : FD} (hs : ∀ ds n Q, sp ds n Q → dFn N__law_pot.length 2 (b__law_pot (He.ga K) ) ds n Q) : HasF false P w K mg base 1 (He.ga K "_law_pot") ["_law_script", "_law_place_here"] [] sp :=
  has_f F.d__law_pot sc__law_pot (fun _ _ _ _ _ _ us hl => match us, hl with | [_, _], _ => rfl) (fun fd cdv A outer s H E hr => by
    have nd := sc__law_pot.nd
    exact (dss_cons (ds_set (i := 2) nd rfl (Or.inl rfl) (de_ite (dt_cmp op_lt so_lt (de_var 1) (de_bi call_lenA so_len rfl F.f_len bt_len (da_cons (de_var 0) da_nil))) (de_ix (de_var 0) (de_var 1)) (de_op op_addA so_add (de_op op_mulA so_mul de_int (de_var 1)) de_int)))
      (dss_cons (ds_set (i := 3) nd rfl (Or.inl rfl) (de_op op_mulA so_mul (de_op op_mod so_mod (de_ty call_intA so_int rfl F.f_int bt_int (da_cons (de_bi call_abs so_abs rfl F.f_abs bt_abs (da_cons (de_var 2) da_nil)) da_nil)) (de_op op_powW so_pow (de_op op_powW so_pow de_int de_int) de_int)) (de_ty call_intA so_int rfl F.f_int bt_int (da_cons (de_cmp op_ge so_ge (de_bi call_abs so_abs rfl F.f_abs bt_abs (da_cons (de_var 2) da_nil)) (de_op op_powW so_pow de_int de_int)) da_nil))))
      (dss_cons (ds_set (i := 4) nd rfl (Or.inl rfl) (de_op op_mod so_mod (de_ty call_intA so_int rfl F.f_int bt_int (da_cons (de_var 2) da_nil)) de_int))
      (dss_one (ds_retPot (do_lst (da_cons (de_var 3) (da_cons (de_op op_mod so_mod (de_ty call_intA so_int rfl F.f_int bt_int (da_cons (de_op op_addA so_add (de_op op_addA so_add (de_op op_mulA so_mul (de_var 4) de_int) (de_op op_mulA so_mul (de_op op_mulA so_mul de_int (de_var 1)) (de_var 1))) de_int) da_nil)) de_int) (da_cons de_int da_nil)))))))))) hs
abbrev N__law_take : List Str := ["_law_pot_here", "_law_upto", "_law_digit", "_law_prime", "_law_mixed"]
theorem sc__law_take : FnScope N__law_take ["_law_pot_here", "_law_upto"] (defScope S__law_take) := ⟨rfl, rfl, rfl, by decide +kernel, rfl, by decide +kernel, by decide +kernel⟩
theorem ok__law_take (F : Fc K mg) : HasF false P w K mg base 1 (He.ga K "_law_take") ["_law_pot_here", "_law_upto"] [] takeF :=
  has_take F.d__law_take sc__law_take rfl rfl (fun _ _ _ _ _ _ us hl => match us, hl with | [_, _], _ => rfl) fun fd cdv A outer s H E hr => by
    have nd := sc__law_take.nd
    exact (pss_cons (ps_if (pt_cmpR op_gt (pe_ix ix_seq (pv 0) pe_int (by intro _ _; rfl)) pe_int (nomark _))
      (pss_cons (ps_set (i := 2) nd rfl (Or.inl rfl) (pe_op op_mod (pe_callTy call_int1 rfl F.f_int bt_int (pa_cons (pe_ix ix_seq (pv 0) pe_int (by intro _ _; rfl)) pa_nil)) (pv 1)))
      (pss_cons (ps_asg (pe_op op_fdivW (pe_ix ix_seq (pv 0) pe_int (by intro _ _; rfl)) (pv 1)) (pg_sub (pv 0) pe_int set_list)) (pss_one (ps_ret (pv 2))))) pss_nil)
    (pss_cons (ps_asg (pe_op op_add (pe_ix ix_seq (pv 0) pe_int (by intro _ _; rfl)) pe_int) (pg_sub (pv 0) pe_int set_list))
    (pss_cons (ps_set (i := 3) nd rfl (Or.inl rfl) (pe_ix ix_seq (pe_lst (pa_cons pe_int (pa_cons pe_int (pa_cons pe_int (pa_cons pe_int (pa_cons pe_int pa_nil)))))) (pe_op op_mod (pe_callTy call_int1 rfl F.f_int bt_int (pa_cons (pe_ix ix_seq (pv 0) pe_int (by intro _ _; rfl)) pa_nil)) pe_int) (by intro _ _; rfl)))
    (pss_cons (ps_set (i := 4) nd rfl (Or.inl rfl) (pe_op op_mod (pe_callTy call_int1 rfl F.f_int bt_int (pa_cons (pe_op op_powW (pe_callTy call_int1 rfl F.f_int bt_int (pa_cons (pe_op op_add (pe_op op_add (pe_ix ix_seq (pv 0) pe_int (by intro _ _; rfl)) (pe_op op_mulW (pe_op op_mulW pe_int (pe_ix ix_seq (pv 0) pe_int (by intro _ _; rfl))) (pe_ix ix_seq (pv 0) pe_int (by intro _ _; rfl)))) pe_int) pa_nil)) pe_int) pa_nil)) (pv 3)))
    (pss_cons (ps_set (i := 4) nd rfl (Or.inl rfl) (pe_op op_mod (pe_callTy call_int1 rfl F.f_int bt_int (pa_cons (pe_op op_mulW (pv 4) (pe_op op_add (pe_op op_mod (pe_callTy call_int1 rfl F.f_int bt_int (pa_cons (pv 4) pa_nil)) pe_int) (pe_op op_mulW pe_int (pe_ix ix_seq (pv 0) pe_int (by intro _ _; rfl))))) pa_nil)) pe_int))
    (pss_one (ps_ret (pe_op op_mod (pe_callTy call_int1 rfl F.f_int bt_int (pa_cons (pe_op op_fdivW (pv 4) pe_int) pa_nil)) (pv 1)))))))))
abbrev N__law_of : List Str := ["_law_pot_here", "_law_some"]
theorem sc__law_of : FnScope N__law_of ["_law_pot_here", "_law_some"] (defScope S__law_of) := ⟨rfl, rfl, rfl, by decide +kernel, rfl, by decide +kernel, by decide +kernel⟩
theorem ok__law_of (F : Fc K mg) {s__law_take : FD} (G__law_take : HasF false P w K mg base 1 (He.ga K "_law_take") ["_law_pot_here", "_law_upto"] [] s__law_take) {sp : FD} (hs : ∀ ds n Q, sp ds n Q → dFn N__law_of.length 2 (b__law_of (He.ga K) s__law_take) ds n Q) : HasF false P w K mg base 2 (He.ga K "_law_of") ["_law_pot_here", "_law_some"] [] sp :=
  has_f F.d__law_of sc__law_of (fun _ _ _ _ _ _ us hl => match us, hl with | [_, _], _ => rfl) (fun fd cdv A outer s H E hr => by
    have nd := sc__law_of.nd
    exact (dss_one (ds_ret (de_ix (de_var 1) (de_callF G__law_take (hr.mono (by decide)) rfl F.g__law_take (da_cons (de_var 0) (da_cons (de_bi call_lenA so_len rfl F.f_len bt_len (da_cons (de_var 1) da_nil)) da_nil))))))) hs
abbrev N__law_random : List Str := ["_law_pot_here", "_law_pool", "_law_size", "_law_lap"]
theorem sc__law_random : FnScope N__law_random ["_law_pot_here", "_law_pool", "_law_size"] (defScope S__law_random) := ⟨rfl, rfl, rfl, by decide +kernel, rfl, by decide +kernel, by decide +kernel⟩
theorem ok__law_random (F : Fc K mg) {s__law_of : FD} (G__law_of : HasF false P w K mg base 2 (He.ga K "_law_of") ["_law_pot_here", "_law_some"] [] s__law_of) {sp : FD} (hs : ∀ ds n Q, sp ds n Q → dFn N__law_random.length 3 (b__law_random (He.ga K) s__law_of) ds n Q) : HasF false P w K mg base 3 (He.ga K "_law_random") ["_law_pot_here", "_law_pool", "_law_size"] [] sp :=
  has_f F.d__law_random sc__law_random (fun _ _ _ _ _ _ us hl => match us, hl with | [_, _, _], _ => rfl) (fun fd cdv A outer s H E hr => by
    have nd := sc__law_random.nd
    exact (dss_one (ds_ret (de_join (de_str []) (de_own (do_comp rfl nd (di_rg1 rfl F.f_range (de_var 2)) (blk (N := N__law_random) (sc := defScope S__law_random) (own := [("_law_lap", 3)]) (by decide +kernel)) (by decide) (fun _ _ _ _ _ => (dg_nm (i := 3) nd rfl (Or.inl rfl))) (fun _ _ _ _ _ => dts_nil) (fun _ _ _ _ _ => (de_callF G__law_of (hr.mono (by decide)) rfl F.g__law_of (da_cons (de_var 0) (da_cons (de_var 1) da_nil)))))))))) hs
abbrev N__law_any_letters : List Str := ["_law_pot_here", "_law_few", "_law_most", "_law_size", "_law_way", "_law_pool", "_law_piece", "_law_whole", "_law_first", "_law_second", "_law_lap"]
theorem sc__law_any_letters : FnScope N__law_any_letters ["_law_pot_here", "_law_few", "_law_most"] (defScope S__law_any_letters) := ⟨rfl, rfl, rfl, by decide +kernel, rfl, by decide +kernel, by decide +kernel⟩
theorem ok__law_any_letters (F : Fc K mg) {s__law_take : FD} {s__law_of : FD} {s__law_random : FD} (G__law_take : HasF false P w K mg base 1 (He.ga K "_law_take") ["_law_pot_here", "_law_upto"] [] s__law_take) (G__law_of : HasF false P w K mg base 2 (He.ga K "_law_of") ["_law_pot_here", "_law_some"] [] s__law_of) (G__law_random : HasF false P w K mg base 3 (He.ga K "_law_random") ["_law_pot_here", "_law_pool", "_law_size"] [] s__law_random) {sp : FD} (hs : ∀ ds n Q, sp ds n Q → dFn N__law_any_letters.length 3 (b__law_any_letters (He.ga K) s__law_take s__law_of s__law_random) ds n Q) : HasF false P w K mg base 4 (He.ga K "_law_any_letters") ["_law_pot_here", "_law_few", "_law_most"] [] sp :=
  has_f F.d__law_any_letters sc__law_any_letters (fun _ _ _ _ _ _ us hl => match us, hl with | [_, _, _], _ => rfl) (fun fd cdv A outer s H E hr => by
    have nd := sc__law_any_letters.nd
    exact (dss_cons (ds_par (i := 3) (j := 4) rfl nd rfl rfl (by decide) rfl rfl (db_cons (de_op op_addA so_add (de_var 1) (de_callF G__law_take (hr.mono (by decide)) rfl F.g__law_take (da_cons (de_var 0) (da_cons (de_op op_addA so_add (de_op op_sub so_sub (de_var 2) (de_var 1)) de_int) da_nil)))) (db_cons (de_callF G__law_take (hr.mono (by decide)) rfl F.g__law_take (da_cons (de_var 0) (da_cons de_int da_nil))) db_nil)))
      (dss_cons (ds_set (i := 5) nd rfl (Or.inl rfl) (de_callF G__law_of (hr.mono (by decide)) rfl F.g__law_of (da_cons (de_var 0) (da_cons (de_lst (da_cons (de_str [97, 98]) (da_cons (de_str [97, 98]) (da_cons (de_str [97, 98, 99]) (da_cons (de_str [97]) (da_cons (de_str [120, 121, 122]) (da_cons (de_str [113, 97, 98]) (da_cons (de_str [97, 98, 99, 120, 121]) (da_cons (de_str [97, 98, 99, 113, 120, 121, 122]) da_nil))))))))) da_nil))))
      (dss_cons (ds_if (dt_cmp op_lt so_lt (de_var 4) de_int) (dss_one (ds_ret (de_callF G__law_random (hr.mono (by decide)) rfl F.g__law_random (da_cons (de_var 0) (da_cons (de_var 5) (da_cons (de_var 3) da_nil)))))) dss_nil)
      (dss_cons (ds_set (i := 6) nd rfl (Or.inl rfl) (de_callF G__law_random (hr.mono (by decide)) rfl F.g__law_random (da_cons (de_var 0) (da_cons (de_var 5) (da_cons (de_op op_addA so_add de_int (de_callF G__law_take (hr.mono (by decide)) rfl F.g__law_take (da_cons (de_var 0) (da_cons (de_bi (call_maxA rfl) so_max rfl F.f_max bt_max (da_cons de_int (da_cons (de_op op_sub so_sub (de_var 3) de_int) da_nil))) da_nil)))) da_nil)))))
      (dss_cons (ds_if (dt_cmp op_lt so_lt (de_var 4) de_int) (dss_cons (ds_set (i := 7) nd rfl (Or.inl rfl) (de_op op_addA so_add (de_callF G__law_random (hr.mono (by decide)) rfl F.g__law_random (da_cons (de_var 0) (da_cons (de_var 5) (da_cons (de_callF G__law_take (hr.mono (by decide)) rfl F.g__law_take (da_cons (de_var 0) (da_cons de_int da_nil))) da_nil)))) (de_op op_mulA so_mul (de_var 6) (de_var 3))))
      (dss_one (ds_ret (de_sl (de_var 7) dp_no (dp_some (de_var 3)))))) dss_nil)
      (dss_cons (ds_if (dt_cmp (op_eqA hr.units) so_eq (de_var 4) de_int) (dss_one (ds_ret (de_sl (de_op op_addA so_add (de_var 6) (de_op op_mulA so_mul (de_rev (de_var 6)) (de_var 3))) dp_no (dp_some (de_var 3))))) dss_nil)
      (dss_cons (ds_par (i := 8) (j := 9) rfl nd rfl rfl (by decide) rfl rfl (db_cons (de_ix (de_var 5) de_int) (db_cons (de_sl (de_var 5) dp_no (dp_some de_int)) db_nil)))
      (dss_cons (ds_for PassesOwn.never rfl (di_rg1 rfl F.f_range (de_var 3)) (dg_nm (i := 10) nd rfl (Or.inl rfl)) (dss_cons (ds_par (i := 8) (j := 9) rfl nd rfl rfl (by decide) rfl rfl (db_cons (de_var 9) (db_cons (de_op op_addA so_add (de_var 9) (de_var 8)) db_nil)))
      (dss_one (ds_if (dt_cmp op_gt so_gt (de_bi call_lenA so_len rfl F.f_len bt_len (da_cons (de_var 9) da_nil)) (de_var 3)) (dss_one ds_break) dss_nil))))
      (dss_one (ds_ret (de_sl (de_op op_addA so_add (de_var 9) (de_op op_mulA so_mul (de_var 8) (de_var 3))) dp_no (dp_some (de_var 3)))))))))))))) hs
abbrev N__law_blocks : List Str := ["_law_letters_here", "_law_found", "_law_letter"]
theorem sc__law_blocks : FnScope N__law_blocks ["_law_letters_here"] (defScope S__law_blocks) := ⟨rfl, rfl, rfl, by decide +kernel, rfl, by decide +kernel, by decide +kernel⟩
theorem ok__law_blocks (F : Fc K mg)   {sp : FD} (hs : ∀ ds n Q, sp ds n Q → dFn N__law_blocks.length 1 (b__law_blocks (He.ga K) ) ds n Q) : HasF false P w K mg base 1 (He.ga K "_law_blocks") ["_law_letters_here"] [] sp :=
  has_f F.d__law_blocks sc__law_blocks (fun _ _ _ _ _ _ us hl => match us, hl with | [_], _ => rfl) (fun fd cdv A outer s H E hr => by
    have nd := sc__law_blocks.nd
    exact (dss_cons (ds_setO (i := 1) nd rfl (Or.inl rfl) (do_lst da_nil))
      (dss_cons (ds_for PassesOwn.never rfl (di_val (de_var 0)) (dg_nm (i := 2) nd rfl (Or.inl rfl)) (dss_one (ds_if (dt_w (dw_and (dt_tmp 1 (dt_cmp (op_neA hr.units) so_ne (de_var 1) (de_lst da_nil))) (dw_and1 (dt_cmp (op_eqA hr.units) so_eq (de_ix (de_ixO (pv 1) (de_neg de_int)) de_int) (de_var 2))))) (dss_one (ds_setI (pv 1) (de_neg de_int) (de_tup (da_cons (de_var 2) (da_cons (de_op op_addA so_add (de_ix (de_ixO (pv 1) (de_neg de_int)) de_int) de_int) da_nil))))) (dss_one (ds_app (pv 1) (de_tup (da_cons (de_var 2) (da_cons de_int da_nil))))))))
      (dss_frz [1] (dss_one (ds_ret (de_var 1))))))) hs
abbrev N__law_letters : List Str := ["_law_pot_here", "_law_few", "_law_most", "_law_blocks_here", "_law_letter", "_law_number"]
theorem sc__law_letters : FnScope N__law_letters ["_law_pot_here", "_law_few", "_law_most"] (defScope S__law_letters) := ⟨rfl, rfl, rfl, by decide +kernel, rfl, by decide +kernel, by decide +kernel⟩
theorem ok__law_letters (F : Fc K mg) {s__law_any_letters : FD} {s__law_blocks : FD} (G__law_any_letters : HasF false P w K mg base 4 (He.ga K "_law_any_letters") ["_law_pot_here", "_law_few", "_law_most"] [] s__law_any_letters) (G__law_blocks : HasF false P w K mg base 1 (He.ga K "_law_blocks") ["_law_letters_here"] [] s__law_blocks) {sp : FD} (hs : ∀ ds n Q, sp ds n Q → dFn N__law_letters.length 3 (b__law_letters (He.ga K) s__law_any_letters s__law_blocks) ds n Q) : HasF false P w K mg base 5 (He.ga K "_law_letters") ["_law_pot_here", "_law_few", "_law_most"] [] sp :=
  has_f F.d__law_letters sc__law_letters (fun _ _ _ _ _ _ us hl => match us, hl with | [_, _, _], _ => rfl) (fun fd cdv A outer s H E hr => by
    have nd := sc__law_letters.nd
    exact (dss_cons (ds_set (i := 3) nd rfl (Or.inl rfl) (de_callF G__law_blocks (hr.mono (by decide)) rfl F.g__law_blocks (da_cons (de_callF G__law_any_letters (hr.mono (by decide)) rfl F.g__law_any_letters (da_cons (de_var 0) (da_cons (de_var 1) (da_cons (de_var 2) da_nil)))) da_nil)))
      (dss_one (ds_ret (de_join (de_str []) (de_own (do_comp rfl nd (di_val (de_sl (de_var 3) dp_no (dp_some de_int))) (blk (N := N__law_letters) (sc := defScope S__law_letters) (own := [("_law_letter", 4), ("_law_number", 5)]) (by decide +kernel)) (by decide) (fun _ _ _ _ _ => (dg_tup rfl (gs_cons (dg_nm (i := 4) nd rfl (Or.inl rfl)) (gs_cons (dg_nm (i := 5) nd rfl (Or.inl rfl)) gs_nil)))) (fun _ _ _ _ _ => dts_nil) (fun _ _ _ _ _ => (de_op op_mulA so_mul (de_var 4) (de_var 5)))))))))) hs
abbrev N__law_great_blocks : List Str := ["_law_pot_here", "_law_few", "_law_most", "_law_many", "_law_found", "_law_great", "_law_pool", "_law_lap", "_law_letter", "_law_sign"]
theorem sc__law_great_blocks : FnScope N__law_great_blocks ["_law_pot_here", "_law_few", "_law_most"] (defScope S__law_great_blocks) := ⟨rfl, rfl, rfl, by decide +kernel, rfl, by decide +kernel, by decide +kernel⟩
theorem ok__law_great_blocks (F : Fc K mg) {s__law_take : FD} {s__law_of : FD} (G__law_take : HasF false P w K mg base 1 (He.ga K "_law_take") ["_law_pot_here", "_law_upto"] [] s__law_take) (G__law_of : HasF false P w K mg base 2 (He.ga K "_law_of") ["_law_pot_here", "_law_some"] [] s__law_of) {sp : FD} (hs : ∀ ds n Q, sp ds n Q → dFn N__law_great_blocks.length 3 (b__law_great_blocks (He.ga K) s__law_take s__law_of) ds n Q) : HasF false P w K mg base 3 (He.ga K "_law_great_blocks") ["_law_pot_here", "_law_few", "_law_most"] [] sp :=
  has_f F.d__law_great_blocks sc__law_great_blocks (fun _ _ _ _ _ _ us hl => match us, hl with | [_, _, _], _ => rfl) (fun fd cdv A outer s H E hr => by
    have nd := sc__law_great_blocks.nd
    exact (dss_cons (ds_mul (is := [3, 4]) rfl (db_cons (de_op op_addA so_add (de_var 1) (de_callF G__law_take (hr.mono (by decide)) rfl F.g__law_take (da_cons (de_var 0) (da_cons (de_op op_addA so_add (de_op op_sub so_sub (de_var 2) (de_var 1)) de_int) da_nil)))) (db_own (do_lst da_nil) db_nil)) ⟨pg_name (i := 3) nd rfl (Or.inl rfl), rfl, ⟨pg_name (i := 4) nd rfl (Or.inr rfl), rfl, trivial⟩⟩)
      (dss_cons (ds_par (i := 5) (j := 6) rfl nd rfl rfl (by decide) rfl rfl (db_cons (de_callF G__law_of (hr.mono (by decide)) rfl F.g__law_of (da_cons (de_var 0) (da_cons (de_lst (da_cons de_int (da_cons de_int (da_cons (de_op op_powW so_pow de_int de_int) (da_cons (de_op op_powW so_pow de_int de_int) (da_cons (de_op op_mulA so_mul de_int (de_op op_powW so_pow de_int de_int)) da_nil)))))) da_nil))) (db_cons (de_callF G__law_of (hr.mono (by decide)) rfl F.g__law_of (da_cons (de_var 0) (da_cons (de_lst (da_cons (de_str [97, 98, 99]) (da_cons (de_str [97, 98, 99]) (da_cons (de_str [97, 98, 99, 120, 121]) da_nil)))) da_nil))) db_nil)))
      (dss_cons (ds_for PassesOwn.never rfl (di_rg1 rfl F.f_range (de_var 3)) (dg_nm (i := 7) nd rfl (Or.inl rfl)) (dss_cons (ds_set (i := 8) nd rfl (Or.inl rfl) (de_callF G__law_of (hr.mono (by decide)) rfl F.g__law_of (da_cons (de_var 0) (da_cons (de_own (do_comp rfl nd (di_val (de_var 6)) (blk (N := N__law_great_blocks) (sc := defScope S__law_great_blocks) (own := [("_law_sign", 9)]) (by decide +kernel)) (by decide) (fun _ _ _ _ _ => (dg_nm (i := 9) nd rfl (Or.inl rfl))) (fun _ _ _ _ _ => (dts_one (dt_w (dw_or (dt_tmp 4 (dt_cmp (op_eqA hr.units) so_eq (de_var 4) (de_lst da_nil))) (dw_or1 (dt_cmp (op_neA hr.units) so_ne (de_var 9) (de_ix (de_ixO (pv 4) (de_neg de_int)) de_int))))))) (fun _ _ _ _ _ => (de_var 9)))) da_nil))))
      (dss_one (ds_app (pv 4) (de_tup (da_cons (de_var 8) (da_cons (de_bi (call_maxA rfl) so_max rfl F.f_max bt_max (da_cons de_int (da_cons (de_callF G__law_of (hr.mono (by decide)) rfl F.g__law_of (da_cons (de_var 0) (da_cons (de_lst (da_cons de_int (da_cons de_int (da_cons (de_var 5) (da_cons (de_var 5) (da_cons (de_op op_addA so_add (de_var 5) de_int) (da_cons (de_op op_sub so_sub (de_var 5) de_int) (da_cons (de_op op_mulA so_mul de_int (de_var 5)) da_nil)))))))) da_nil))) da_nil))) da_nil)))))))
      (dss_frz [4] (dss_one (ds_ret (de_var 4)))))))) hs
abbrev N__law_merged : List Str := ["_law_blocks_here", "_law_found", "_law_letter", "_law_number"]
theorem sc__law_merged : FnScope N__law_merged ["_law_blocks_here"] (defScope S__law_merged) := ⟨rfl, rfl, rfl, by decide +kernel, rfl, by decide +kernel, by decide +kernel⟩
theorem ok__law_merged (F : Fc K mg)   {sp : FD} (hs : ∀ ds n Q, sp ds n Q → dFn N__law_merged.length 1 (b__law_merged (He.ga K) ) ds n Q) : HasF false P w K mg base 1 (He.ga K "_law_merged") ["_law_blocks_here"] [] sp :=
  has_f F.d__law_merged sc__law_merged (fun _ _ _ _ _ _ us hl => match us, hl with | [_], _ => rfl) (fun fd cdv A outer s H E hr => by
    have nd := sc__law_merged.nd
    exact (dss_cons (ds_setO (i := 1) nd rfl (Or.inl rfl) (do_lst da_nil))
      (dss_cons (ds_for PassesOwn.never rfl (di_val (de_var 0)) (dg_tup rfl (gs_cons (dg_nm (i := 2) nd rfl (Or.inl rfl)) (gs_cons (dg_nm (i := 3) nd rfl (Or.inl rfl)) gs_nil))) (dss_one (ds_if (dt_w (dw_and (dt_cmp op_gt so_gt (de_var 3) de_int) (dw_and (dt_tmp 1 (dt_cmp (op_neA hr.units) so_ne (de_var 1) (de_lst da_nil))) (dw_and1 (dt_cmp (op_eqA hr.units) so_eq (de_ix (de_ixO (pv 1) (de_neg de_int)) de_int) (de_var 2)))))) (dss_one (ds_setI (pv 1) (de_neg de_int) (de_tup (da_cons (de_var 2) (da_cons (de_op op_addA so_add (de_ix (de_ixO (pv 1) (de_neg de_int)) de_int) (de_var 3)) da_nil))))) (dss_one (ds_ext (pv 1) (de_ite (dt_cmp op_gt so_gt (de_var 3) de_int) (de_lst (da_cons (de_tup (da_cons (de_var 2) (da_cons (de_var 3) da_nil))) da_nil)) (de_lst da_nil)))))))
      (dss_frz [1] (dss_one (ds_ret (de_var 1))))))) hs
abbrev N__law_sum_of : List Str := ["_law_blocks_here", "_law_letter", "_law_number"]
theorem sc__law_sum_of : FnScope N__law_sum_of ["_law_blocks_here"] (defScope S__law_sum_of) := ⟨rfl, rfl, rfl, by decide +kernel, rfl, by decide +kernel, by decide +kernel⟩
theorem ok__law_sum_of (F : Fc K mg)   {sp : FD} (hs : ∀ ds n Q, sp ds n Q → dFn N__law_sum_of.length 1 (b__law_sum_of (He.ga K) ) ds n Q) : HasF false P w K mg base 1 (He.ga K "_law_sum_of") ["_law_blocks_here"] [] sp :=
  has_f F.d__law_sum_of sc__law_sum_of (fun _ _ _ _ _ _ us hl => match us, hl with | [_], _ => rfl) (fun fd cdv A outer s H E hr => by
    have nd := sc__law_sum_of.nd
    exact (dss_one (ds_ret (de_bi (cr_sum rfl) so_sum rfl F.f_sum bt_sum (da_cons (de_own (do_comp rfl nd (di_val (de_var 0)) (blk (N := N__law_sum_of) (sc := defScope S__law_sum_of) (own := [("_law_letter", 1), ("_law_number", 2)]) (by decide +kernel)) (by decide) (fun _ _ _ _ _ => (dg_tup rfl (gs_cons (dg_nm (i := 1) nd rfl (Or.inl rfl)) (gs_cons (dg_nm (i := 2) nd rfl (Or.inl rfl)) gs_nil)))) (fun _ _ _ _ _ => dts_nil) (fun _ _ _ _ _ => (de_ty call_intA so_int rfl F.f_int bt_int (da_cons (de_var 2) da_nil))))) da_nil))))) hs
abbrev N__law_heads_of : List Str := ["_law_blocks_here", "_law_found", "_law_letter", "_law_number"]
theorem sc__law_heads_of : FnScope N__law_heads_of ["_law_blocks_here"] (defScope S__law_heads_of) := ⟨rfl, rfl, rfl, by decide +kernel, rfl, by decide +kernel, by decide +kernel⟩
theorem ok__law_heads_of (F : Fc K mg)   {sp : FD} (hs : ∀ ds n Q, sp ds n Q → dFn N__law_heads_of.length 1 (b__law_heads_of (He.ga K) ) ds n Q) : HasF false P w K mg base 1 (He.ga K "_law_heads_of") ["_law_blocks_here"] [] sp :=
  has_f F.d__law_heads_of sc__law_heads_of (fun _ _ _ _ _ _ us hl => match us, hl with | [_], _ => rfl) (fun fd cdv A outer s H E hr => by
    have nd := sc__law_heads_of.nd
    exact (dss_cons (ds_setO (i := 1) nd rfl (Or.inl rfl) (do_lst (da_cons de_int da_nil)))
      (dss_cons (ds_for PassesOwn.never rfl (di_val (de_sl (de_var 0) dp_no (dp_some (de_neg de_int)))) (dg_tup rfl (gs_cons (dg_nm (i := 2) nd rfl (Or.inl rfl)) (gs_cons (dg_nm (i := 3) nd rfl (Or.inl rfl)) gs_nil))) (dss_one (ds_app (pv 1) (de_op op_addA so_add (de_ixO (pv 1) (de_neg de_int)) (de_var 3)))))
      (dss_frz [1] (dss_one (ds_ret (de_var 1))))))) hs
abbrev N__law_blocks_part : List Str := ["_law_blocks_here", "_law_first", "_law_last", "_law_found", "_law_letter", "_law_number", "_law_start", "_law_row"]
theorem sc__law_blocks_part : FnScope N__law_blocks_part ["_law_blocks_here", "_law_first", "_law_last"] (defScope S__law_blocks_part) := ⟨rfl, rfl, rfl, by decide +kernel, rfl, by decide +kernel, by decide +kernel⟩
theorem ok__law_blocks_part (F : Fc K mg) {s__law_heads_of : FD} (G__law_heads_of : HasF false P w K mg base 1 (He.ga K "_law_heads_of") ["_law_blocks_here"] [] s__law_heads_of) {sp : FD} (hs : ∀ ds n Q, sp ds n Q → dFn N__law_blocks_part.length 3 (b__law_blocks_part (He.ga K) s__law_heads_of) ds n Q) : HasF false P w K mg base 2 (He.ga K "_law_blocks_part") ["_law_blocks_here", "_law_first", "_law_last"] [] sp :=
  has_f F.d__law_blocks_part sc__law_blocks_part (fun _ _ _ _ _ _ us hl => match us, hl with | [_, _, _], _ => rfl) (fun fd cdv A outer s H E hr => by
    have nd := sc__law_blocks_part.nd
    exact (dss_cons (ds_setO (i := 3) nd rfl (Or.inl rfl) (do_lst da_nil))
      (dss_cons (ds_for PassesOwn.never rfl (di_val (de_lzp rfl rfl F.f_list rfl F.f_zip (de_var 0) (de_callF G__law_heads_of (hr.mono (by decide)) rfl F.g__law_heads_of (da_cons (de_var 0) da_nil)))) (dg_tup rfl (gs_cons (dg_tup rfl (gs_cons (dg_nm (i := 4) nd rfl (Or.inl rfl)) (gs_cons (dg_nm (i := 5) nd rfl (Or.inl rfl)) gs_nil))) (gs_cons (dg_nm (i := 6) nd rfl (Or.inl rfl)) gs_nil))) (dss_one (ds_app (pv 3) (de_tup (da_cons (de_var 4) (da_cons (de_op op_sub so_sub (de_bi (call_minA rfl) so_min rfl F.f_min bt_min (da_cons (de_op op_addA so_add (de_var 6) (de_var 5)) (da_cons (de_var 2) da_nil))) (de_bi (call_maxA rfl) so_max rfl F.f_max bt_max (da_cons (de_var 6) (da_cons (de_var 1) da_nil)))) da_nil))))))
      (dss_frz [3] (dss_one (ds_ret (de_own (do_comp rfl nd (di_val (de_var 3)) (blk (N := N__law_blocks_part) (sc := defScope S__law_blocks_part) (own := [("_law_row", 7)]) (by decide +kernel)) (by decide) (fun _ _ _ _ _ => (dg_nm (i := 7) nd rfl (Or.inl rfl))) (fun _ _ _ _ _ => (dts_one (dt_cmp op_gt so_gt (de_ix (de_var 7) de_int) de_int))) (fun _ _ _ _ _ => (de_var 7)))))))))) hs
abbrev N__law_small_or_great : List Str := ["_law_pot_here", "_law_way", "_law_piece", "_law_great", "_law_laps", "_law_whole", "_law_cut", "_law_size", "_law_letter", "_law_number"]
theorem sc__law_small_or_great : FnScope N__law_small_or_great ["_law_pot_here"] (defScope S__law_small_or_great) := ⟨rfl, rfl, rfl, by decide +kernel, rfl, by decide +kernel, by decide +kernel⟩
theorem ok__law_small_or_great (F : Fc K mg) {s__law_take : FD} {s__law_letters : FD} {s__law_blocks : FD} {s__law_great_blocks : FD} {s__law_of : FD} {s__law_merged : FD} {s__law_sum_of : FD} {s__law_blocks_part : FD} (G__law_take : HasF false P w K mg base 1 (He.ga K "_law_take") ["_law_pot_here", "_law_upto"] [] s__law_take) (G__law_letters : HasF false P w K mg base 5 (He.ga K "_law_letters") ["_law_pot_here", "_law_few", "_law_most"] [] s__law_letters) (G__law_blocks : HasF false P w K mg base 1 (He.ga K "_law_blocks") ["_law_letters_here"] [] s__law_blocks) (G__law_great_blocks : HasF false P w K mg base 3 (He.ga K "_law_great_blocks") ["_law_pot_here", "_law_few", "_law_most"] [] s__law_great_blocks) (G__law_of : HasF false P w K mg base 2 (He.ga K "_law_of") ["_law_pot_here", "_law_some"] [] s__law_of) (G__law_merged : HasF false P w K mg base 1 (He.ga K "_law_merged") ["_law_blocks_here"] [] s__law_merged) (G__law_sum_of : HasF false P w K mg base 1 (He.ga K "_law_sum_of") ["_law_blocks_here"] [] s__law_sum_of) (G__law_blocks_part : HasF false P w K mg base 2 (He.ga K "_law_blocks_part") ["_law_blocks_here", "_law_first", "_law_last"] [] s__law_blocks_part) {sp : FD} (hs : ∀ ds n Q, sp ds n Q → dFn N__law_small_or_great.length 1 (b__law_small_or_great (He.ga K) s__law_take s__law_letters s__law_blocks s__law_great_blocks s__law_of s__law_merged s__law_sum_of s__law_blocks_part) ds n Q) : HasF false P w K mg base 6 (He.ga K "_law_small_or_great") ["_law_pot_here"] [] sp :=
  has_f F.d__law_small_or_great sc__law_small_or_great (fun _ _ _ _ _ _ us hl => match us, hl with | [_], _ => rfl) (fun fd cdv A outer s H E hr => by
    have nd := sc__law_small_or_great.nd
    exact (dss_cons (ds_set (i := 1) nd rfl (Or.inl rfl) (de_callF G__law_take (hr.mono (by decide)) rfl F.g__law_take (da_cons (de_var 0) (da_cons de_int da_nil))))
      (dss_cons (ds_if (dt_cmp op_lt so_lt (de_var 1) de_int) (dss_one (ds_ret (de_callF G__law_blocks (hr.mono (by decide)) rfl F.g__law_blocks (da_cons (de_callF G__law_letters (hr.mono (by decide)) rfl F.g__law_letters (da_cons (de_var 0) (da_cons de_int (da_cons de_int da_nil)))) da_nil)))) dss_nil)
      (dss_cons (ds_if (dt_cmp (op_eqA hr.units) so_eq (de_var 1) de_int) (dss_one (ds_ret (de_callF G__law_great_blocks (hr.mono (by decide)) rfl F.g__law_great_blocks (da_cons (de_var 0) (da_cons de_int (da_cons de_int da_nil)))))) dss_nil)
      (dss_cons (ds_mul (is := [2, 3]) rfl (db_cons (de_callF G__law_great_blocks (hr.mono (by decide)) rfl F.g__law_great_blocks (da_cons (de_var 0) (da_cons de_int (da_cons de_int da_nil)))) (db_cons (de_callF G__law_of (hr.mono (by decide)) rfl F.g__law_of (da_cons (de_var 0) (da_cons (de_lst (da_cons de_int (da_cons (de_op op_powW so_pow de_int de_int) (da_cons (de_op op_powW so_pow de_int de_int) da_nil)))) da_nil))) db_nil)) ⟨pg_name (i := 2) nd rfl (Or.inl rfl), rfl, ⟨pg_name (i := 3) nd rfl (Or.inr rfl), rfl, trivial⟩⟩)
      (dss_cons (ds_setComp (ps_setComp (i := 2) rfl nd rfl rfl (sw_true rfl rfl rfl (by decide +kernel)) (di_val (de_var 2)) (blk (N := N__law_small_or_great) (sc := defScope S__law_small_or_great) (own := [("_law_letter", 8), ("_law_number", 9)]) (by decide +kernel)) (by decide) (fun _ _ _ _ _ => (dg_tup rfl (gs_cons (dg_nm (i := 8) nd rfl (Or.inl rfl)) (gs_cons (dg_nm (i := 9) nd rfl (Or.inl rfl)) gs_nil)))) (fun _ _ _ _ _ => dts_nil) (fun _ _ _ _ _ => (de_tup (da_cons (de_var 8) (da_cons (de_op op_mulA so_mul (de_bi (call_minA rfl) so_min rfl F.f_min bt_min (da_cons (de_var 9) (da_cons de_int da_nil))) (de_var 3)) da_nil))))))
      (dss_cons (ds_set (i := 4) nd rfl (Or.inl rfl) (de_op op_addA so_add de_int (de_callF G__law_take (hr.mono (by decide)) rfl F.g__law_take (da_cons (de_var 0) (da_cons (de_bi (call_maxA rfl) so_max rfl F.f_max bt_max (da_cons de_int (da_cons (de_op op_fdivW so_fdiv de_int (de_bi call_lenA so_len rfl F.f_len bt_len (da_cons (de_var 2) da_nil))) da_nil))) da_nil)))))
      (dss_cons (ds_set (i := 5) nd rfl (Or.inl rfl) (de_callF G__law_merged (hr.mono (by decide)) rfl F.g__law_merged (da_cons (de_op op_mulA so_mul (de_var 2) (de_var 4)) da_nil)))
      (dss_cons (ds_set (i := 6) nd rfl (Or.inl rfl) (de_callF G__law_of (hr.mono (by decide)) rfl F.g__law_of (da_cons (de_var 0) (da_cons (de_lst (da_cons de_int (da_cons de_int (da_cons (de_var 3) (da_cons (de_callF G__law_take (hr.mono (by decide)) rfl F.g__law_take (da_cons (de_var 0) (da_cons (de_op op_powW so_pow de_int de_int) da_nil))) da_nil))))) da_nil))))
      (dss_cons (ds_set (i := 7) nd rfl (Or.inl rfl) (de_callF G__law_sum_of (hr.mono (by decide)) rfl F.g__law_sum_of (da_cons (de_var 5) da_nil)))
      (dss_one (ds_ret (de_ite (dt_cmp (op_eqA hr.units) so_eq (de_var 1) de_int) (de_callF G__law_blocks_part (hr.mono (by decide)) rfl F.g__law_blocks_part (da_cons (de_var 5) (da_cons (de_bi (call_minA rfl) so_min rfl F.f_min bt_min (da_cons (de_var 6) (da_cons (de_op op_sub so_sub (de_var 7) de_int) da_nil))) (da_cons (de_var 7) da_nil)))) (de_callF G__law_merged (hr.mono (by decide)) rfl F.g__law_merged (da_cons (de_op op_addA so_add (de_var 5) (de_sl (de_var 2) dp_no (dp_some de_int))) da_nil))))))))))))))) hs
abbrev N__law_block_text : List Str := ["_law_blocks_here", "_law_letter", "_law_number"]
theorem sc__law_block_text : FnScope N__law_block_text ["_law_blocks_here"] (defScope S__law_block_text) := ⟨rfl, rfl, rfl, by decide +kernel, rfl, by decide +kernel, by decide +kernel⟩
theorem ok__law_block_text (F : Fc K mg)   {sp : FD} (hs : ∀ ds n Q, sp ds n Q → dFn N__law_block_text.length 1 (b__law_block_text (He.ga K) ) ds n Q) : HasF false P w K mg base 1 (He.ga K "_law_block_text") ["_law_blocks_here"] [] sp :=
  has_f F.d__law_block_text sc__law_block_text (fun _ _ _ _ _ _ us hl => match us, hl with | [_], _ => rfl) (fun fd cdv A outer s H E hr => by
    have nd := sc__law_block_text.nd
    exact (dss_one (ds_ret (de_join (de_str []) (de_own (do_comp rfl nd (di_val (de_var 0)) (blk (N := N__law_block_text) (sc := defScope S__law_block_text) (own := [("_law_letter", 1), ("_law_number", 2)]) (by decide +kernel)) (by decide) (fun _ _ _ _ _ => (dg_tup rfl (gs_cons (dg_nm (i := 1) nd rfl (Or.inl rfl)) (gs_cons (dg_nm (i := 2) nd rfl (Or.inl rfl)) gs_nil)))) (fun _ _ _ _ _ => dts_nil) (fun _ _ _ _ _ => (de_op op_addA so_add (de_var 1) (de_ite (dt_cmp op_gt so_gt (de_var 2) de_int) (de_ty call_strA so_str rfl F.f_str bt_str (da_cons (de_var 2) da_nil)) (de_str [])))))))))) hs
abbrev N_is_said : List Str := ["value", "some"]
theorem sc_is_said : FnScope N_is_said ["value", "some"] (defScope S_is_said) := ⟨rfl, rfl, rfl, by decide +kernel, rfl, by decide +kernel, by decide +kernel⟩
theorem ok_is_said (F : Fc K mg)   {sp : FD} (hs : ∀ ds n Q, sp ds n Q → dFn N_is_said.length 2 (b_is_said (He.ga K) ) ds n Q) : HasF false P w K mg base 1 (He.ga K "is_said") ["value", "some"] [] sp :=
  has_f F.d_is_said sc_is_said (fun _ _ _ _ _ _ us hl => match us, hl with | [_, _], _ => rfl) (fun fd cdv A outer s H E hr => by
    have nd := sc_is_said.nd
    exact (dss_one (ds_ret (de_and (de_isi F.is_str rfl F.f_isinstance (de_var 0) (pe_tyN rfl F.f_str bt_str)) (de_one (de_cmp (op_inA (ru hr)) so_in (de_var 0) (de_var 1))))))) hs
abbrev N_pieces_of : List Str := ["text", "spots", "spot", "sign", "end"]
theorem sc_pieces_of : FnScope N_pieces_of ["text"] (defScope S_pieces_of) := ⟨rfl, rfl, rfl, by decide +kernel, rfl, by decide +kernel, by decide +kernel⟩
theorem ok_pieces_of (F : Fc K mg)   {sp : FD} (hs : ∀ ds n Q, sp ds n Q → dFn N_pieces_of.length 1 (b_pieces_of (He.ga K) ) ds n Q) : HasF false P w K mg base 1 (He.ga K "pieces_of") ["text"] [] sp :=
  has_f F.d_pieces_of sc_pieces_of (fun _ _ _ _ _ _ us hl => match us, hl with | [_], _ => rfl) (fun fd cdv A outer s H E hr => by
    have nd := sc_pieces_of.nd
    exact (dss_cons (ds_setComp (ps_setComp (i := 1) rfl nd rfl rfl (sw_true rfl rfl rfl (by decide +kernel)) (di_enum rfl F.f_enumerate (de_var 0)) (blk (N := N_pieces_of) (sc := defScope S_pieces_of) (own := [("spot", 2), ("sign", 3)]) (by decide +kernel)) (by decide) (fun _ _ _ _ _ => (dg_tup rfl (gs_cons (dg_nm (i := 2) nd rfl (Or.inl rfl)) (gs_cons (dg_nm (i := 3) nd rfl (Or.inl rfl)) gs_nil)))) (fun _ _ _ _ _ => (dts_one (dt_cmp (op_inA (ru hr)) so_in (de_var 3) (de_gstr [97, 98, 99, 100, 101, 102, 103, 104, 105, 106, 107, 108, 109, 110, 111, 112, 113, 114, 115, 116, 117, 118, 119, 120, 121, 122] rfl F.s_LETTERS)))) (fun _ _ _ _ _ => (de_var 2))))
      (dss_one (ds_ret (de_own (do_comp rfl nd (di_zip rfl F.f_zip (de_var 1) (de_lst (da_star (de_sl (de_var 1) (dp_some de_int) dp_no) (da_cons (de_bi call_lenA so_len rfl F.f_len bt_len (da_cons (de_var 0) da_nil)) da_nil)))) (blk (N := N_pieces_of) (sc := defScope S_pieces_of) (own := [("spot", 2), ("end", 4)]) (by decide +kernel)) (by decide) (fun _ _ _ _ _ => (dg_tup rfl (gs_cons (dg_nm (i := 2) nd rfl (Or.inl rfl)) (gs_cons (dg_nm (i := 4) nd rfl (Or.inl rfl)) gs_nil)))) (fun _ _ _ _ _ => dts_nil) (fun _ _ _ _ _ => (de_tup (da_cons (de_ix (de_var 0) (de_var 2)) (da_cons (de_sl (de_var 0) (dp_some (de_op op_addA so_add (de_var 2) de_int)) (dp_some (de_var 4))) da_nil)))))))))) hs
abbrev N_whole_in : List Str := ["word", "figures", "sign"]
theorem sc_whole_in : FnScope N_whole_in ["word"] (defScope S_whole_in) := ⟨rfl, rfl, rfl, by decide +kernel, rfl, by decide +kernel, by decide +kernel⟩
theorem ok_whole_in (F : Fc K mg)   {sp : FD} (hs : ∀ ds n Q, sp ds n Q → dFn N_whole_in.length 1 (b_whole_in (He.ga K) ) ds n Q) : HasF false P w K mg base 1 (He.ga K "whole_in") ["word"] [] sp :=
  has_f F.d_whole_in sc_whole_in (fun _ _ _ _ _ _ us hl => match us, hl with | [_], _ => rfl) (fun fd cdv A outer s H E hr => by
    have nd := sc_whole_in.nd
    exact (dss_cons (ds_set (i := 1) nd rfl (Or.inl rfl) (de_ite (dt_cmp (op_eqA hr.units) so_eq (de_sl (de_var 0) dp_no (dp_some de_int)) (de_str [45])) (de_sl (de_var 0) (dp_some de_int) dp_no) (de_var 0)))
      (dss_cons (ds_if (dt_w (dw_or (dt_not (dt_chain op_lt op_le so_lt so_le de_int (de_bi call_lenA so_len rfl F.f_len bt_len (da_cons (de_var 1) da_nil)) (de_gint rfl F.i_MOST_FIGURES_plain))) (dw_or1 (dt_not (dt_val (de_bi (cr_all rfl) so_all rfl F.f_all bt_all (da_cons (de_own (do_comp rfl nd (di_val (de_var 1)) (blk (N := N_whole_in) (sc := defScope S_whole_in) (own := [("sign", 2)]) (by decide +kernel)) (by decide) (fun _ _ _ _ _ => (dg_nm (i := 2) nd rfl (Or.inl rfl))) (fun _ _ _ _ _ => dts_nil) (fun _ _ _ _ _ => (de_cmp (op_inA (ru hr)) so_in (de_var 2) (de_gstr [48, 49, 50, 51, 52, 53, 54, 55, 56, 57] rfl F.s_FIGURES))))) da_nil))))))) (dss_one (ds_ret de_non)) dss_nil)
      (dss_one (ds_ret (de_ite (dt_cmp (op_eqA hr.units) so_eq (de_ty call_strA so_str rfl F.f_str bt_str (da_cons (de_ty call_intA so_int rfl F.f_int bt_int (da_cons (de_var 0) da_nil)) da_nil)) (de_var 0)) (de_ty call_intA so_int rfl F.f_int bt_int (da_cons (de_var 0) da_nil)) de_non)))))) hs
abbrev N_block_in : List Str := ["piece", "letter", "behind", "often"]
theorem sc_block_in : FnScope N_block_in ["piece"] (defScope S_block_in) := ⟨rfl, rfl, rfl, by decide +kernel, rfl, by decide +kernel, by decide +kernel⟩
theorem ok_block_in (F : Fc K mg) {s_whole_in : FD} (G_whole_in : HasF false P w K mg base 1 (He.ga K "whole_in") ["word"] [] s_whole_in) {sp : FD} (hs : ∀ ds n Q, sp ds n Q → dFn N_block_in.length 1 (b_block_in (He.ga K) s_whole_in) ds n Q) : HasF false P w K mg base 2 (He.ga K "block_in") ["piece"] [] sp :=
  has_f F.d_block_in sc_block_in (fun _ _ _ _ _ _ us hl => match us, hl with | [_], _ => rfl) (fun fd cdv A outer s H E hr => by
    have nd := sc_block_in.nd
    exact (dss_cons (ds_asg (de_var 0) (dg_tup rfl (gs_cons (dg_nm (i := 1) nd rfl (Or.inl rfl)) (gs_cons (dg_nm (i := 2) nd rfl (Or.inl rfl)) gs_nil))))
      (dss_cons (ds_if (dt_cmp (op_eqA hr.units) so_eq (de_var 2) (de_str [])) (dss_one (ds_ret (de_tup (da_cons (de_var 1) (da_cons de_int da_nil))))) dss_nil)
      (dss_cons (ds_set (i := 3) nd rfl (Or.inl rfl) (de_callF G_whole_in (hr.mono (by decide)) rfl F.g_whole_in (da_cons (de_var 2) da_nil)))
      (dss_one (ds_ret (de_ite (dt_w (dw_and (dt_cmp op_notN so_isNot (de_var 3) de_non) (dw_and1 (dt_chain op_lt op_lt so_lt so_lt de_int (de_var 3) (de_gint rfl F.i_BEYOND))))) (de_tup (da_cons (de_var 1) (da_cons (de_var 3) da_nil))) de_non))))))) hs
abbrev N_blocks_told : List Str := ["text", "blocks", "piece", "one", "other"]
theorem sc_blocks_told : FnScope N_blocks_told ["text"] (defScope S_blocks_told) := ⟨rfl, rfl, rfl, by decide +kernel, rfl, by decide +kernel, by decide +kernel⟩
theorem ok_blocks_told (F : Fc K mg) {s_is_said : FD} {s_pieces_of : FD} {s_block_in : FD} (G_is_said : HasF false P w K mg base 1 (He.ga K "is_said") ["value", "some"] [] s_is_said) (G_pieces_of : HasF false P w K mg base 1 (He.ga K "pieces_of") ["text"] [] s_pieces_of) (G_block_in : HasF false P w K mg base 2 (He.ga K "block_in") ["piece"] [] s_block_in) {sp : FD} (hs : ∀ ds n Q, sp ds n Q → dFn N_blocks_told.length 1 (b_blocks_told (He.ga K) s_is_said s_pieces_of s_block_in) ds n Q) : HasF false P w K mg base 3 (He.ga K "blocks_told") ["text"] [] sp :=
  has_f F.d_blocks_told sc_blocks_told (fun _ _ _ _ _ _ us hl => match us, hl with | [_], _ => rfl) (fun fd cdv A outer s H E hr => by
    have nd := sc_blocks_told.nd
    exact (dss_cons (ds_if (dt_w (dw_or (dt_not (dt_val (de_isi F.is_str rfl F.f_isinstance (de_var 0) (pe_tyN rfl F.f_str bt_str)))) (dw_or1 (dt_not (dt_val (de_callF G_is_said (hr.mono (by decide)) rfl F.g_is_said (da_cons (de_sl (de_var 0) dp_no (dp_some de_int)) (da_cons (de_ty (call_listA rfl) so_list rfl F.f_list bt_list (da_cons (de_gstr [97, 98, 99, 100, 101, 102, 103, 104, 105, 106, 107, 108, 109, 110, 111, 112, 113, 114, 115, 116, 117, 118, 119, 120, 121, 122] rfl F.s_LETTERS) da_nil)) da_nil)))))))) (dss_one (ds_ret de_non)) dss_nil)
      (dss_cons (ds_set (i := 1) nd rfl (Or.inl rfl) (de_ty (call_tupA rfl) so_tuple rfl F.f_tuple bt_tuple (da_cons (de_own (do_comp rfl nd (di_val (de_callF G_pieces_of (hr.mono (by decide)) rfl F.g_pieces_of (da_cons (de_var 0) da_nil))) (blk (N := N_blocks_told) (sc := defScope S_blocks_told) (own := [("piece", 2)]) (by decide +kernel)) (by decide) (fun _ _ _ _ _ => (dg_nm (i := 2) nd rfl (Or.inl rfl))) (fun _ _ _ _ _ => dts_nil) (fun _ _ _ _ _ => (de_callF G_block_in (hr.mono (by decide)) rfl F.g_block_in (da_cons (de_var 2) da_nil))))) da_nil)))
      (dss_cons (ds_if (dt_w (dw_or (dt_cmp op_gt so_gt (de_bi call_lenA so_len rfl F.f_len bt_len (da_cons (de_var 1) da_nil)) (de_gint rfl F.i_MOST_BLOCKS)) (dw_or1 (dt_cmp (op_inA (ru hr)) so_in de_non (de_var 1))))) (dss_one (ds_ret de_non)) dss_nil)
      (dss_one (ds_ret (de_ite (dt_val (de_bi (cr_all rfl) so_all rfl F.f_all bt_all (da_cons (de_own (do_comp rfl nd (di_zip rfl F.f_zip (de_var 1) (de_sl (de_var 1) (dp_some de_int) dp_no)) (blk (N := N_blocks_told) (sc := defScope S_blocks_told) (own := [("one", 3), ("other", 4)]) (by decide +kernel)) (by decide) (fun _ _ _ _ _ => (dg_tup rfl (gs_cons (dg_nm (i := 3) nd rfl (Or.inl rfl)) (gs_cons (dg_nm (i := 4) nd rfl (Or.inl rfl)) gs_nil)))) (fun _ _ _ _ _ => dts_nil) (fun _ _ _ _ _ => (de_cmp (op_neA hr.units) so_ne (de_ix (de_var 3) de_int) (de_ix (de_var 4) de_int))))) da_nil))) (de_var 1) de_non))))))) hs
abbrev N_Word___init__ : List Str := ["self", "text", "blocks", "ends", "letter", "often"]
theorem sc_Word___init__ : FnScope N_Word___init__ ["self", "text"] (defScope S_Word___init__) := ⟨rfl, rfl, rfl, by decide +kernel, rfl, by decide +kernel, by decide +kernel⟩
theorem ok_Word___init__ (F : Fc K mg) {s_blocks_told : FD} (G_blocks_told : HasF false P w K mg base 3 (He.ga K "blocks_told") ["text"] [] s_blocks_told) {sp : FI} (hs : ∀ ds n Q, sp ds n Q → dIni (He.ga K "Word") N_Word___init__.length 2 (b_Word___init__ (He.ga K) s_blocks_told) ds n Q) : HasI false P w K mg base 4 (He.ga K "Word") ["self", "text"] [] sp :=
  has_init F.mk_Word F.d_Word___init__ sc_Word___init__ (fun _ _ _ _ _ _ us hl => match us, hl with | [_, _], _ => rfl) (fun fd cdv A outer s H E hr => by
    have nd := sc_Word___init__.nd
    exact (dss_cons (ds_set (i := 2) nd rfl (Or.inl rfl) (de_callF G_blocks_told (hr.mono (by decide)) rfl F.g_blocks_told (da_cons (de_var 1) da_nil)))
      (dss_cons (ds_if (dt_cmp op_isN so_is (de_var 2) de_non) (dss_one ds_never) dss_nil)
      (dss_cons (ds_fst F.c_Word F.n_Word_own_text (pv 0) (de_var 1))
      (dss_cons (ds_fst F.c_Word F.n_Word_own_blocks (pv 0) (de_var 2))
      (dss_cons (ds_setO (i := 3) nd rfl (Or.inl rfl) (do_lst (da_cons de_int da_nil)))
      (dss_cons (ds_for PassesOwn.never rfl (di_val (de_var 2)) (dg_tup rfl (gs_cons (dg_nm (i := 4) nd rfl (Or.inl rfl)) (gs_cons (dg_nm (i := 5) nd rfl (Or.inl rfl)) gs_nil))) (dss_one (ds_app (pv 3) (de_op op_addA so_add (de_ixO (pv 3) (de_neg de_int)) (de_var 5)))))
      (dss_frz [3] (dss_one (ds_fst F.c_Word F.n_Word_own_ends (pv 0) (de_ty (call_tupA rfl) so_tuple rfl F.f_tuple bt_tuple (da_cons (de_var 3) da_nil)))))))))))) hs
abbrev N__law_place : List Str := ["_law_pot_here", "_law_size", "_law_some"]
theorem sc__law_place : FnScope N__law_place ["_law_pot_here", "_law_size"] (defScope S__law_place) := ⟨rfl, rfl, rfl, by decide +kernel, rfl, by decide +kernel, by decide +kernel⟩
theorem ok__law_place (F : Fc K mg) {s__law_take : FD} {s__law_of : FD} (G__law_take : HasF false P w K mg base 1 (He.ga K "_law_take") ["_law_pot_here", "_law_upto"] [] s__law_take) (G__law_of : HasF false P w K mg base 2 (He.ga K "_law_of") ["_law_pot_here", "_law_some"] [] s__law_of) {sp : FD} (hs : ∀ ds n Q, sp ds n Q → dFn N__law_place.length 2 (b__law_place (He.ga K) s__law_take s__law_of) ds n Q) : HasF false P w K mg base 3 (He.ga K "_law_place") ["_law_pot_here", "_law_size"] [] sp :=
  has_f F.d__law_place sc__law_place (fun _ _ _ _ _ _ us hl => match us, hl with | [_, _], _ => rfl) (fun fd cdv A outer s H E hr => by
    have nd := sc__law_place.nd
    exact (dss_cons (ds_set (i := 2) nd rfl (Or.inl rfl) (de_lst (da_cons de_int (da_cons (de_op op_sub so_sub (de_var 1) de_int) (da_cons (de_op op_fdivW so_fdiv (de_var 1) de_int) (da_cons (de_op op_fdivW so_fdiv (de_var 1) de_int) (da_cons (de_callF G__law_take (hr.mono (by decide)) rfl F.g__law_take (da_cons (de_var 0) (da_cons (de_bi (call_minA rfl) so_min rfl F.f_min bt_min (da_cons (de_var 1) (da_cons de_int da_nil))) da_nil))) da_nil)))))))
      (dss_one (ds_ret (de_callF G__law_of (hr.mono (by decide)) rfl F.g__law_of (da_cons (de_var 0) (da_cons (de_op op_addA so_add (de_var 2) (de_lst (da_cons (de_ty call_intA so_int rfl F.f_int bt_int (da_cons (de_op op_fdivW so_fdiv (de_op op_mulA so_mul (de_callF G__law_take (hr.mono (by decide)) rfl F.g__law_take (da_cons (de_var 0) (da_cons (de_op op_powW so_pow de_int de_int) da_nil))) (de_var 1)) (de_op op_powW so_pow de_int de_int)) da_nil)) da_nil))) da_nil))))))) hs
abbrev N__law_near_places : List Str := ["_law_pot_here", "_law_blocks_here", "_law_size", "_law_starts", "_law_some", "_law_more", "_law_lap", "_law_place_here"]
theorem sc__law_near_places : FnScope N__law_near_places ["_law_pot_here", "_law_blocks_here"] (defScope S__law_near_places) := ⟨rfl, rfl, rfl, by decide +kernel, rfl, by decide +kernel, by decide +kernel⟩
theorem ok__law_near_places (F : Fc K mg) {s__law_sum_of : FD} {s__law_heads_of : FD} {s__law_of : FD} {s__law_place : FD} (G__law_sum_of : HasF false P w K mg base 1 (He.ga K "_law_sum_of") ["_law_blocks_here"] [] s__law_sum_of) (G__law_heads_of : HasF false P w K mg base 1 (He.ga K "_law_heads_of") ["_law_blocks_here"] [] s__law_heads_of) (G__law_of : HasF false P w K mg base 2 (He.ga K "_law_of") ["_law_pot_here", "_law_some"] [] s__law_of) (G__law_place : HasF false P w K mg base 3 (He.ga K "_law_place") ["_law_pot_here", "_law_size"] [] s__law_place) {sp : FD} (hs : ∀ ds n Q, sp ds n Q → dFn N__law_near_places.length 2 (b__law_near_places_v2 (He.ga K) s__law_sum_of s__law_heads_of s__law_of s__law_place) ds n Q) : HasF false P w K mg base 4 (He.ga K "_law_near_places") ["_law_pot_here", "_law_blocks_here"] [] sp :=
  has_f F.d__law_near_places sc__law_near_places (fun _ _ _ _ _ _ us hl => match us, hl with | [_, _], _ => rfl) (fun fd cdv A outer s H E hr => by
    have nd := sc__law_near_places.nd
    exact (dss_cons (ds_mul (is := [2, 3]) rfl (db_cons (de_callF G__law_sum_of (hr.mono (by decide)) rfl F.g__law_sum_of (da_cons (de_var 1) da_nil)) (db_cons (de_callF G__law_heads_of (hr.mono (by decide)) rfl F.g__law_heads_of (da_cons (de_var 1) da_nil)) db_nil)) ⟨pg_name (i := 2) nd rfl (Or.inr rfl), rfl, ⟨pg_name (i := 3) nd rfl (Or.inr rfl), rfl, trivial⟩⟩)
      (dss_cons (ds_if (dt_cmp op_lt so_lt (de_var 2) de_int) (dss_one (ds_ret (de_lrg rfl rfl F.f_list (dr_1 rfl F.f_range (de_var 2))))) dss_nil)
      (dss_cons (ds_setO (i := 4) nd rfl (Or.inl rfl) (do_cat (de_own (do_comp rfl nd (di_val (de_tup (da_cons (de_neg de_int) (da_cons de_int (da_cons de_int da_nil))))) (blk (N := N__law_near_places) (sc := defScope S__law_near_places) (own := [("_law_more", 5)]) (by decide +kernel)) (by decide) (fun _ _ _ _ _ => (dg_nm (i := 5) nd rfl (Or.inl rfl))) (fun _ _ _ _ _ => dts_nil) (fun _ _ _ _ _ => (de_op op_addA so_add (de_callF G__law_of (hr.mono (by decide)) rfl F.g__law_of (da_cons (de_var 0) (da_cons (de_var 3) da_nil))) (de_var 5))))) (de_lst (da_cons de_int (da_cons (de_op op_sub so_sub (de_var 2) de_int) da_nil)))))
      (dss_cons (ds_ext (pv 4) (de_own (do_comp rfl nd (di_rg1 rfl F.f_range de_int) (blk (N := N__law_near_places) (sc := defScope S__law_near_places) (own := [("_law_lap", 6)]) (by decide +kernel)) (by decide) (fun _ _ _ _ _ => (dg_nm (i := 6) nd rfl (Or.inl rfl))) (fun _ _ _ _ _ => dts_nil) (fun _ _ _ _ _ => (de_callF G__law_place (hr.mono (by decide)) rfl F.g__law_place (da_cons (de_var 0) (da_cons (de_var 2) da_nil)))))))
      (dss_frz [4] (dss_one (ds_ret (de_srtSet rfl rfl F.f_sorted rfl F.f_set (de_own (do_comp rfl nd (di_val (de_var 4)) (blk (N := N__law_near_places) (sc := defScope S__law_near_places) (own := [("_law_place_here", 7)]) (by decide +kernel)) (by decide) (fun _ _ _ _ _ => (dg_nm (i := 7) nd rfl (Or.inl rfl))) (fun _ _ _ _ _ => (dts_one (dt_chain op_le op_lt so_le so_lt de_int (de_var 7) (de_var 2)))) (fun _ _ _ _ _ => (de_ty call_intA so_int rfl F.f_int bt_int (da_cons (de_var 7) da_nil)))))))))))))) hs
abbrev N_Word_size : List Str := ["self"]
theorem sc_Word_size : FnScope N_Word_size ["self"] (defScope S_Word_size) := ⟨rfl, rfl, rfl, by decide +kernel, rfl, by decide +kernel, by decide +kernel⟩
theorem ok_Word_size (F : Fc K mg)   {sp : FD} (hs : ∀ ds n Q, sp ds n Q → dFn N_Word_size.length 1 (b_Word_size (He.ga K) ) ds n Q) : HasP false P w K mg base 1 (He.ga K "Word") "size" ["self"] sp :=
  has_p F.c_Word F.p_Word_size F.d_Word_size sc_Word_size (fun _ _ _ _ _ _ us hl => match us, hl with | [_], _ => rfl) (fun fd cdv A outer s H E hr => by
    have nd := sc_Word_size.nd
    exact (dss_one (ds_ret (de_ix (de_fld F.c_Word F.n_Word_own_ends (de_var 0)) (de_neg de_int))))) hs
abbrev N_is_integer : List Str := ["value", "low", "high"]
theorem sc_is_integer : FnScope N_is_integer ["value", "low", "high"] (defScope S_is_integer) := ⟨rfl, rfl, rfl, by decide +kernel, rfl, by decide +kernel, by decide +kernel⟩
theorem ok_is_integer (F : Fc K mg)   {sp : FD} (hs : ∀ ds n Q, sp ds n Q → dFn N_is_integer.length 3 (b_is_integer (He.ga K) ) ds n Q) : HasF false P w K mg base 1 (He.ga K "is_integer") ["value", "low", "high"] [] sp :=
  has_fD F.d_is_integer sc_is_integer 3 1 (by simp [Pd.PDef.dvs, D_is_integer]) rfl (fun _ _ _ _ _ _ _ us its hl hi => match us, its, hl, hi with | [_, _, _], [_], _, _ => ⟨_, rfl, rfl⟩) (fun _ => .nil) (fun fd cdv A outer s H E hr => by
    have nd := sc_is_integer.nd
    exact (dss_cons (ds_if (dt_w (dw_or (dt_not (dt_val (de_isi F.is_int rfl F.f_isinstance (de_var 0) (pe_tyN rfl F.f_int bt_int)))) (dw_or1 (dt_val (de_isi F.is_bool rfl F.f_isinstance (de_var 0) (pe_tyN rfl F.f_bool bt_bool)))))) (dss_one (ds_ret de_bl)) dss_nil)
      (dss_one (ds_ret (de_and (de_cmp op_le so_le (de_var 1) (de_var 0)) (de_one (de_or (de_cmp op_isN so_is (de_var 2) de_non) (de_one (de_cmp op_le so_le (de_var 0) (de_var 2)))))))))) hs
theorem ok_is_integer_2 (F : Fc K mg)   {sp : FD} (hs : ∀ ds n Q, sp ds n Q → dFn N_is_integer.length 3 (b_is_integer (He.ga K) ) ds n Q) : HasF false P w K mg base 1 (He.ga K "is_integer") ["value", "low", "high"] [D.non] sp :=
  has_fD F.d_is_integer sc_is_integer 2 0 (by simp [Pd.PDef.dvs, D_is_integer]) rfl (fun _ _ _ _ _ _ _ us its hl hi => match us, its, hl, hi with | [_, _], [_], _, _ => ⟨_, rfl, rfl⟩) (fun _ => (.cons .non .nil)) (fun fd cdv A outer s H E hr => by
    have nd := sc_is_integer.nd
    exact (dss_cons (ds_if (dt_w (dw_or (dt_not (dt_val (de_isi F.is_int rfl F.f_isinstance (de_var 0) (pe_tyN rfl F.f_int bt_int)))) (dw_or1 (dt_val (de_isi F.is_bool rfl F.f_isinstance (de_var 0) (pe_tyN rfl F.f_bool bt_bool)))))) (dss_one (ds_ret de_bl)) dss_nil)
      (dss_one (ds_ret (de_and (de_cmp op_le so_le (de_var 1) (de_var 0)) (de_one (de_or (de_cmp op_isN so_is (de_var 2) de_non) (de_one (de_cmp op_le so_le (de_var 0) (de_var 2)))))))))) hs
abbrev N_Word_spot : List Str := ["self", "place", "end"]
theorem sc_Word_spot : FnScope N_Word_spot ["self", "place"] (defScope S_Word_spot) := ⟨rfl, rfl, rfl, by decide +kernel, rfl, by decide +kernel, by decide +kernel⟩
theorem ok_Word_spot (F : Fc K mg)   {sp : FD} (hs : ∀ ds n Q, sp ds n Q → dFn N_Word_spot.length 2 (b_Word_spot (He.ga K) ) ds n Q) : HasM false P w K mg base 1 (He.ga K "Word") "spot" ["self", "place"] [] sp :=
  has_m F.c_Word F.m_Word_spot F.d_Word_spot sc_Word_spot (fun _ _ _ _ _ _ us hl => match us, hl with | [_, _], _ => rfl) (fun fd cdv A outer s H E hr => by
    have nd := sc_Word_spot.nd
    exact (dss_one (ds_ret (de_bi call_lenA so_len rfl F.f_len bt_len (da_cons (de_own (do_comp rfl nd (di_val (de_sl (de_fld F.c_Word F.n_Word_own_ends (de_var 0)) (dp_some de_int) (dp_some (de_neg de_int)))) (blk (N := N_Word_spot) (sc := defScope S_Word_spot) (own := [("end", 2)]) (by decide +kernel)) (by decide) (fun _ _ _ _ _ => (dg_nm (i := 2) nd rfl (Or.inl rfl))) (fun _ _ _ _ _ => (dts_one (dt_cmp op_le so_le (de_var 2) (de_var 1)))) (fun _ _ _ _ _ => (de_var 2)))) da_nil))))) hs
abbrev N_Word_letter : List Str := ["self", "place"]
theorem sc_Word_letter : FnScope N_Word_letter ["self", "place"] (defScope S_Word_letter) := ⟨rfl, rfl, rfl, by decide +kernel, rfl, by decide +kernel, by decide +kernel⟩
theorem ok_Word_letter (F : Fc K mg) {s_Word_size : FD} {s_is_integer : FD} {s_Word_spot : FD} (G_Word_size : HasP false P w K mg base 1 (He.ga K "Word") "size" ["self"] s_Word_size) (G_is_integer : HasF false P w K mg base 1 (He.ga K "is_integer") ["value", "low", "high"] [] s_is_integer) (G_Word_spot : HasM false P w K mg base 1 (He.ga K "Word") "spot" ["self", "place"] [] s_Word_spot) {sp : FD} (hs : ∀ ds n Q, sp ds n Q → dFn N_Word_letter.length 2 (b_Word_letter (He.ga K) s_Word_size s_is_integer s_Word_spot) ds n Q) : HasM false P w K mg base 3 (He.ga K "Word") "letter" ["self", "place"] [] sp :=
  has_m F.c_Word F.m_Word_letter F.d_Word_letter sc_Word_letter (fun _ _ _ _ _ _ us hl => match us, hl with | [_, _], _ => rfl) (fun fd cdv A outer s H E hr => by
    have nd := sc_Word_letter.nd
    exact (dss_cons (ds_if (dt_not (dt_val (de_callF G_is_integer (hr.mono (by decide)) rfl F.g_is_integer (da_cons (de_var 1) (da_cons de_int (da_cons (de_op op_sub so_sub (de_propF G_Word_size (hr.mono (by decide)) (de_var 0)) de_int) da_nil)))))) (dss_one ds_never) dss_nil)
      (dss_one (ds_ret (de_ix (de_ix (de_fld F.c_Word F.n_Word_own_blocks (de_var 0)) (de_methF G_Word_spot (hr.mono (by decide)) (de_var 0) (da_cons (de_var 1) da_nil))) de_int))))) hs
abbrev N__law_letter_at : List Str := ["_law_blocks_here", "_law_place_here", "_law_letter", "_law_number"]
theorem sc__law_letter_at : FnScope N__law_letter_at ["_law_blocks_here", "_law_place_here"] (defScope S__law_letter_at) := ⟨rfl, rfl, rfl, by decide +kernel, rfl, by decide +kernel, by decide +kernel⟩
theorem ok__law_letter_at (F : Fc K mg)   {sp : FD} (hs : ∀ ds n Q, sp ds n Q → dFn N__law_letter_at.length 2 (b__law_letter_at (He.ga K) ) ds n Q) : HasF false P w K mg base 1 (He.ga K "_law_letter_at") ["_law_blocks_here", "_law_place_here"] [] sp :=
  has_f F.d__law_letter_at sc__law_letter_at (fun _ _ _ _ _ _ us hl => match us, hl with | [_, _], _ => rfl) (fun fd cdv A outer s H E hr => by
    have nd := sc__law_letter_at.nd
    exact (dss_cons (ds_for PassesOwn.never rfl (di_val (de_var 0)) (dg_tup rfl (gs_cons (dg_nm (i := 2) nd rfl (Or.inl rfl)) (gs_cons (dg_nm (i := 3) nd rfl (Or.inl rfl)) gs_nil))) (dss_cons (ds_if (dt_cmp op_lt so_lt (de_var 1) (de_var 3)) (dss_one (ds_ret (de_var 2))) dss_nil)
      (dss_one (ds_set (i := 1) nd rfl (Or.inl rfl) (de_op op_sub so_sub (de_var 1) (de_var 3))))))
      (dss_one (ds_ret de_non)))) hs
abbrev N_text_of : List Str := ["blocks", "letter", "often"]
theorem sc_text_of : FnScope N_text_of ["blocks"] (defScope S_text_of) := ⟨rfl, rfl, rfl, by decide +kernel, rfl, by decide +kernel, by decide +kernel⟩
theorem ok_text_of (F : Fc K mg)   {sp : FD} (hs : ∀ ds n Q, sp ds n Q → dFn N_text_of.length 1 (b_text_of (He.ga K) ) ds n Q) : HasF false P w K mg base 1 (He.ga K "text_of") ["blocks"] [] sp :=
  has_f F.d_text_of sc_text_of (fun _ _ _ _ _ _ us hl => match us, hl with | [_], _ => rfl) (fun fd cdv A outer s H E hr => by
    have nd := sc_text_of.nd
    exact (dss_one (ds_ret (de_join (de_str []) (de_own (do_comp rfl nd (di_val (de_var 0)) (blk (N := N_text_of) (sc := defScope S_text_of) (own := [("letter", 1), ("often", 2)]) (by decide +kernel)) (by decide) (fun _ _ _ _ _ => (dg_tup rfl (gs_cons (dg_nm (i := 1) nd rfl (Or.inl rfl)) (gs_cons (dg_nm (i := 2) nd rfl (Or.inl rfl)) gs_nil)))) (fun _ _ _ _ _ => dts_nil) (fun _ _ _ _ _ => (de_op op_addA so_add (de_var 1) (de_ite (dt_cmp op_gt so_gt (de_var 2) de_int) (de_ty call_strA so_str rfl F.f_str bt_str (da_cons (de_var 2) da_nil)) (de_str [])))))))))) hs
abbrev N_made : List Str := ["blocks", "letter", "often"]
theorem sc_made : FnScope N_made ["blocks"] (defScope S_made) := ⟨rfl, rfl, rfl, by decide +kernel, rfl, by decide +kernel, by decide +kernel⟩
theorem ok_made (F : Fc K mg) {s_text_of : FD} {i_Word : FI} (G_text_of : HasF false P w K mg base 1 (He.ga K "text_of") ["blocks"] [] s_text_of) (G_Word : HasI false P w K mg base 4 (He.ga K "Word") ["self", "text"] [] i_Word) {sp : FD} (hs : ∀ ds n Q, sp ds n Q → dFn N_made.length 1 (b_made (He.ga K) s_text_of i_Word) ds n Q) : HasF false P w K mg base 6 (He.ga K "made") ["blocks"] [] sp :=
  has_f F.d_made sc_made (fun _ _ _ _ _ _ us hl => match us, hl with | [_], _ => rfl) (fun fd cdv A outer s H E hr => by
    have nd := sc_made.nd
    exact (dss_cons (ds_if (dt_cmp op_gt so_gt (de_bi call_lenA so_len rfl F.f_len bt_len (da_cons (de_var 0) da_nil)) (de_gint rfl F.i_MOST_BLOCKS)) (dss_one ds_never) dss_nil)
      (dss_cons (ds_if (dt_val (de_bi (cr_any rfl) so_any rfl F.f_any bt_any (da_cons (de_own (do_comp rfl nd (di_val (de_var 0)) (blk (N := N_made) (sc := defScope S_made) (own := [("letter", 1), ("often", 2)]) (by decide +kernel)) (by decide) (fun _ _ _ _ _ => (dg_tup rfl (gs_cons (dg_nm (i := 1) nd rfl (Or.inl rfl)) (gs_cons (dg_nm (i := 2) nd rfl (Or.inl rfl)) gs_nil)))) (fun _ _ _ _ _ => dts_nil) (fun _ _ _ _ _ => (de_cmp op_ge so_ge (de_var 2) (de_gint rfl F.i_BEYOND))))) da_nil))) (dss_one ds_never) dss_nil)
      (dss_one (ds_ret (de_makeF G_Word (hr.mono (by decide)) rfl F.g_Word (da_cons (de_callF G_text_of (hr.mono (by decide)) rfl F.g_text_of (da_cons (de_var 0) da_nil)) da_nil))))))) hs
abbrev N_Word_part : List Str := ["self", "first", "last", "found", "letter", "often", "begin", "end"]
theorem sc_Word_part : FnScope N_Word_part ["self", "first", "last"] (defScope S_Word_part) := ⟨rfl, rfl, rfl, by decide +kernel, rfl, by decide +kernel, by decide +kernel⟩
theorem ok_Word_part (F : Fc K mg) {s_is_integer : FD} {s_Word_size : FD} {s_made : FD} (G_is_integer_2 : HasF false P w K mg base 1 (He.ga K "is_integer") ["value", "low", "high"] [D.non] s_is_integer) (G_Word_size : HasP false P w K mg base 1 (He.ga K "Word") "size" ["self"] s_Word_size) (G_is_integer : HasF false P w K mg base 1 (He.ga K "is_integer") ["value", "low", "high"] [] s_is_integer) (G_made : HasF false P w K mg base 6 (He.ga K "made") ["blocks"] [] s_made) {sp : FD} (hs : ∀ ds n Q, sp ds n Q → dFn N_Word_part.length 3 (b_Word_part (He.ga K) s_is_integer s_Word_size s_made) ds n Q) : HasM false P w K mg base 7 (He.ga K "Word") "part" ["self", "first", "last"] [] sp :=
  has_m F.c_Word F.m_Word_part F.d_Word_part sc_Word_part (fun _ _ _ _ _ _ us hl => match us, hl with | [_, _, _], _ => rfl) (fun fd cdv A outer s H E hr => by
    have nd := sc_Word_part.nd
    exact (dss_cons (ds_if (dt_w (dw_or (dt_not (dt_val (de_callF G_is_integer_2 (hr.mono (by decide)) rfl F.g_is_integer (da_cons (de_var 1) (da_cons de_int da_nil))))) (dw_or1 (dt_not (dt_val (de_callF G_is_integer (hr.mono (by decide)) rfl F.g_is_integer (da_cons (de_var 2) (da_cons (de_op op_addA so_add (de_var 1) de_int) (da_cons (de_propF G_Word_size (hr.mono (by decide)) (de_var 0)) da_nil))))))))) (dss_one ds_never) dss_nil)
      (dss_cons (ds_setO (i := 3) nd rfl (Or.inl rfl) (do_lst da_nil))
      (dss_cons (ds_for PassesOwn.never rfl (di_zip3 rfl F.f_zip (de_fld F.c_Word F.n_Word_own_blocks (de_var 0)) (de_fld F.c_Word F.n_Word_own_ends (de_var 0)) (de_sl (de_fld F.c_Word F.n_Word_own_ends (de_var 0)) (dp_some de_int) dp_no)) (dg_tup rfl (gs_cons (dg_tup rfl (gs_cons (dg_nm (i := 4) nd rfl (Or.inl rfl)) (gs_cons (dg_nm (i := 5) nd rfl (Or.inl rfl)) gs_nil))) (gs_cons (dg_nm (i := 6) nd rfl (Or.inl rfl)) (gs_cons (dg_nm (i := 7) nd rfl (Or.inl rfl)) gs_nil)))) (dss_one (ds_if (dt_w (dw_and (dt_cmp op_lt so_lt (de_var 6) (de_var 2)) (dw_and1 (dt_cmp op_lt so_lt (de_var 1) (de_var 7))))) (dss_one (ds_app (pv 3) (de_tup (da_cons (de_var 4) (da_cons (de_op op_sub so_sub (de_bi (call_minA rfl) so_min rfl F.f_min bt_min (da_cons (de_var 7) (da_cons (de_var 2) da_nil))) (de_bi (call_maxA rfl) so_max rfl F.f_max bt_max (da_cons (de_var 6) (da_cons (de_var 1) da_nil)))) da_nil))))) dss_nil)))
      (dss_frz [3] (dss_one (ds_ret (de_callF G_made (hr.mono (by decide)) rfl F.g_made (da_cons (de_var 3) da_nil))))))))) hs
abbrev N_Word_blocks : List Str := ["self"]
theorem sc_Word_blocks : FnScope N_Word_blocks ["self"] (defScope S_Word_blocks) := ⟨rfl, rfl, rfl, by decide +kernel, rfl, by decide +kernel, by decide +kernel⟩
theorem ok_Word_blocks (F : Fc K mg)   {sp : FD} (hs : ∀ ds n Q, sp ds n Q → dFn N_Word_blocks.length 1 (b_Word_blocks (He.ga K) ) ds n Q) : HasP false P w K mg base 1 (He.ga K "Word") "blocks" ["self"] sp :=
  has_p F.c_Word F.p_Word_blocks F.d_Word_blocks sc_Word_blocks (fun _ _ _ _ _ _ us hl => match us, hl with | [_], _ => rfl) (fun fd cdv A outer s H E hr => by
    have nd := sc_Word_blocks.nd
    exact (dss_one (ds_ret (de_fld F.c_Word F.n_Word_own_blocks (de_var 0))))) hs
abbrev N_put_together : List Str := ["blocks", "found", "letter", "often"]
theorem sc_put_together : FnScope N_put_together ["blocks"] (defScope S_put_together) := ⟨rfl, rfl, rfl, by decide +kernel, rfl, by decide +kernel, by decide +kernel⟩
theorem ok_put_together (F : Fc K mg)   {sp : FD} (hs : ∀ ds n Q, sp ds n Q → dFn N_put_together.length 1 (b_put_together (He.ga K) ) ds n Q) : HasF false P w K mg base 1 (He.ga K "put_together") ["blocks"] [] sp :=
  has_f F.d_put_together sc_put_together (fun _ _ _ _ _ _ us hl => match us, hl with | [_], _ => rfl) (fun fd cdv A outer s H E hr => by
    have nd := sc_put_together.nd
    exact (dss_cons (ds_setO (i := 1) nd rfl (Or.inl rfl) (do_lst da_nil))
      (dss_cons (ds_for PassesOwn.never rfl (di_val (de_var 0)) (dg_tup rfl (gs_cons (dg_nm (i := 2) nd rfl (Or.inl rfl)) (gs_cons (dg_nm (i := 3) nd rfl (Or.inl rfl)) gs_nil))) (dss_one (ds_if (dt_w (dw_and (dt_tmp 1 (dt_cmp (op_neA hr.units) so_ne (de_var 1) (de_lst da_nil))) (dw_and1 (dt_cmp (op_eqA hr.units) so_eq (de_ix (de_ixO (pv 1) (de_neg de_int)) de_int) (de_var 2))))) (dss_one (ds_setI (pv 1) (de_neg de_int) (de_tup (da_cons (de_var 2) (da_cons (de_op op_addA so_add (de_ix (de_ixO (pv 1) (de_neg de_int)) de_int) (de_var 3)) da_nil))))) (dss_one (ds_app (pv 1) (de_tup (da_cons (de_var 2) (da_cons (de_var 3) da_nil))))))))
      (dss_frz [1] (dss_one (ds_ret (de_var 1))))))) hs
abbrev N_Word_joined : List Str := ["self", "other"]
theorem sc_Word_joined : FnScope N_Word_joined ["self", "other"] (defScope S_Word_joined) := ⟨rfl, rfl, rfl, by decide +kernel, rfl, by decide +kernel, by decide +kernel⟩
theorem ok_Word_joined (F : Fc K mg) {s_Word_blocks : FD} {s_put_together : FD} {s_made : FD} (G_Word_blocks : HasP false P w K mg base 1 (He.ga K "Word") "blocks" ["self"] s_Word_blocks) (G_put_together : HasF false P w K mg base 1 (He.ga K "put_together") ["blocks"] [] s_put_together) (G_made : HasF false P w K mg base 6 (He.ga K "made") ["blocks"] [] s_made) {sp : FD} (hs : ∀ ds n Q, sp ds n Q → dFn N_Word_joined.length 2 (b_Word_joined (He.ga K) s_Word_blocks s_put_together s_made) ds n Q) : HasM false P w K mg base 7 (He.ga K "Word") "joined" ["self", "other"] [] sp :=
  has_m F.c_Word F.m_Word_joined F.d_Word_joined sc_Word_joined (fun _ _ _ _ _ _ us hl => match us, hl with | [_, _], _ => rfl) (fun fd cdv A outer s H E hr => by
    have nd := sc_Word_joined.nd
    exact (dss_cons (ds_if (dt_not (dt_val (de_isi F.is_Word rfl F.f_isinstance (de_var 1) (pe_clN rfl F.g_Word)))) (dss_one ds_never) dss_nil)
      (dss_one (ds_ret (de_callF G_made (hr.mono (by decide)) rfl F.g_made (da_cons (de_callF G_put_together (hr.mono (by decide)) rfl F.g_put_together (da_cons (de_lst (da_star (de_fld F.c_Word F.n_Word_own_blocks (de_var 0)) (da_star (de_propF G_Word_blocks (hr.mono (by decide)) (de_var 1)) da_nil))) da_nil)) da_nil)))))) hs
abbrev N_Word_text : List Str := ["self"]
theorem sc_Word_text : FnScope N_Word_text ["self"] (defScope S_Word_text) := ⟨rfl, rfl, rfl, by decide +kernel, rfl, by decide +kernel, by decide +kernel⟩
theorem ok_Word_text (F : Fc K mg)   {sp : FD} (hs : ∀ ds n Q, sp ds n Q → dFn N_Word_text.length 1 (b_Word_text (He.ga K) ) ds n Q) : HasP false P w K mg base 1 (He.ga K "Word") "text" ["self"] sp :=
  has_p F.c_Word F.p_Word_text F.d_Word_text sc_Word_text (fun _ _ _ _ _ _ us hl => match us, hl with | [_], _ => rfl) (fun fd cdv A outer s H E hr => by
    have nd := sc_Word_text.nd
    exact (dss_one (ds_ret (de_fld F.c_Word F.n_Word_own_text (de_var 0))))) hs
abbrev N_Word___eq__ : List Str := ["self", "other"]
theorem sc_Word___eq__ : FnScope N_Word___eq__ ["self", "other"] (defScope S_Word___eq__) := ⟨rfl, rfl, rfl, by decide +kernel, rfl, by decide +kernel, by decide +kernel⟩
theorem ok_Word___eq__ (F : Fc K mg) {s_Word_text : FD} (G_Word_text : HasP false P w K mg base 1 (He.ga K "Word") "text" ["self"] s_Word_text) {sp : FD} (hs : ∀ ds n Q, sp ds n Q → dFn N_Word___eq__.length 2 (b_Word___eq__ (He.ga K) s_Word_text) ds n Q) : HasM false P w K mg base 3 (He.ga K "Word") "__eq__" ["self", "other"] [] sp :=
  has_m F.c_Word F.m_Word___eq__ F.d_Word___eq__ sc_Word___eq__ (fun _ _ _ _ _ _ us hl => match us, hl with | [_, _], _ => rfl) (fun fd cdv A outer s H E hr => by
    have nd := sc_Word___eq__.nd
    exact (dss_one (ds_ret (de_and (de_isi F.is_Word rfl F.f_isinstance (de_var 1) (pe_clN rfl F.g_Word)) (de_one (de_cmp (op_eqA hr.units) so_eq (de_fld F.c_Word F.n_Word_own_text (de_var 0)) (de_propF G_Word_text (hr.mono (by decide)) (de_var 1)))))))) hs
abbrev N__law_right : List Str := ["_law_pot_here", "_law_lap", "_law_blocks_here", "_law_word", "_law_size", "_law_spots", "_law_place_here", "_law_halves", "_law_first", "_law_last", "_law_part", "_law_inner", "_law_spot"]
theorem sc__law_right : FnScope N__law_right ["_law_pot_here"] (defScope S__law_right) := ⟨rfl, rfl, rfl, by decide +kernel, rfl, by decide +kernel, by decide +kernel⟩
theorem ok__law_right (F : Fc K mg) {s__law_small_or_great : FD} {s__law_block_text : FD} {i_Word : FI} {s__law_sum_of : FD} {s__law_near_places : FD} {s_Word_letter : FD} {s__law_letter_at : FD} {s_Word_part : FD} {s_Word_joined : FD} {s_Word___eq__ : FD} {s_Word_text : FD} {s__law_blocks_part : FD} {s_Word_size : FD} {s__law_place : FD} (G__law_small_or_great : HasF false P w K mg base 6 (He.ga K "_law_small_or_great") ["_law_pot_here"] [] s__law_small_or_great) (G__law_block_text : HasF false P w K mg base 1 (He.ga K "_law_block_text") ["_law_blocks_here"] [] s__law_block_text) (G_Word : HasI false P w K mg base 4 (He.ga K "Word") ["self", "text"] [] i_Word) (G__law_sum_of : HasF false P w K mg base 1 (He.ga K "_law_sum_of") ["_law_blocks_here"] [] s__law_sum_of) (G__law_near_places : HasF false P w K mg base 4 (He.ga K "_law_near_places") ["_law_pot_here", "_law_blocks_here"] [] s__law_near_places) (G_Word_letter : HasM false P w K mg base 3 (He.ga K "Word") "letter" ["self", "place"] [] s_Word_letter) (G__law_letter_at : HasF false P w K mg base 1 (He.ga K "_law_letter_at") ["_law_blocks_here", "_law_place_here"] [] s__law_letter_at) (G_Word_part : HasM false P w K mg base 7 (He.ga K "Word") "part" ["self", "first", "last"] [] s_Word_part) (G_Word_joined : HasM false P w K mg base 7 (He.ga K "Word") "joined" ["self", "other"] [] s_Word_joined) (G_Word___eq__ : HasM false P w K mg base 3 (He.ga K "Word") "__eq__" ["self", "other"] [] s_Word___eq__) (G_Word_text : HasP false P w K mg base 1 (He.ga K "Word") "text" ["self"] s_Word_text) (G__law_blocks_part : HasF false P w K mg base 2 (He.ga K "_law_blocks_part") ["_law_blocks_here", "_law_first", "_law_last"] [] s__law_blocks_part) (G_Word_size : HasP false P w K mg base 1 (He.ga K "Word") "size" ["self"] s_Word_size) (G__law_place : HasF false P w K mg base 3 (He.ga K "_law_place") ["_law_pot_here", "_law_size"] [] s__law_place) {sp : FD} (hs : ∀ ds n Q, sp ds n Q → dFn N__law_right.length 1 (b__law_right_v142 (He.ga K) s__law_small_or_great s__law_block_text i_Word s__law_sum_of s__law_near_places s_Word_letter s__law_letter_at s_Word_part s_Word_joined s_Word___eq__ s_Word_text s__law_blocks_part s_Word_size s__law_place) ds n Q) : HasF false P w K mg base 8 (He.ga K "_law_right") ["_law_pot_here"] [] sp :=
  has_f F.d__law_right sc__law_right (fun _ _ _ _ _ _ us hl => match us, hl with | [_], _ => rfl) (fun fd cdv A outer s H E hr => by
    have nd := sc__law_right.nd
    exact (dss_cons (ds_for PassesOwn.never rfl (di_rg1 rfl F.f_range de_int) (dg_nm (i := 1) nd rfl (Or.inl rfl)) (dss_cons (ds_set (i := 2) nd rfl (Or.inl rfl) (de_callF G__law_small_or_great (hr.mono (by decide)) rfl F.g__law_small_or_great (da_cons (de_var 0) da_nil)))
      (dss_cons (ds_par (i := 3) (j := 4) rfl nd rfl rfl (by decide) rfl rfl (db_cons (de_makeF G_Word (hr.mono (by decide)) rfl F.g_Word (da_cons (de_callF G__law_block_text (hr.mono (by decide)) rfl F.g__law_block_text (da_cons (de_var 2) da_nil)) da_nil)) (db_cons (de_callF G__law_sum_of (hr.mono (by decide)) rfl F.g__law_sum_of (da_cons (de_var 2) da_nil)) db_nil)))
      (dss_cons (ds_set (i := 5) nd rfl (Or.inl rfl) (de_callF G__law_near_places (hr.mono (by decide)) rfl F.g__law_near_places (da_cons (de_var 0) (da_cons (de_var 2) da_nil))))
      (dss_cons (ds_for PassesOwn.never rfl (di_val (de_var 5)) (dg_nm (i := 6) nd rfl (Or.inl rfl)) (dss_cons (ds_if (dt_cmp (op_neA hr.units) so_ne (de_methF G_Word_letter (hr.mono (by decide)) (de_var 3) (da_cons (de_var 6) da_nil)) (de_callF G__law_letter_at (hr.mono (by decide)) rfl F.g__law_letter_at (da_cons (de_var 2) (da_cons (de_var 6) da_nil)))) (dss_one (ds_ret de_bl)) dss_nil)
      (dss_cons (ds_set (i := 7) nd rfl (Or.inl rfl) (de_ite (dt_cmp op_gt so_gt (de_var 6) de_int) (de_lst (da_cons (de_methF G_Word_part (hr.mono (by decide)) (de_var 3) (da_cons de_int (da_cons (de_var 6) da_nil))) (da_cons (de_methF G_Word_part (hr.mono (by decide)) (de_var 3) (da_cons (de_var 6) (da_cons (de_var 4) da_nil))) da_nil))) (de_lst da_nil)))
      (dss_one (ds_if (dt_w (dw_and (dt_cmp (op_neL hr.units) so_neL (de_var 7) (de_lst da_nil)) (dw_and1 (dt_ownNe G_Word___eq__ F.q_Word (hr.mono (by decide)) (de_methF G_Word_joined (hr.mono (by decide)) (de_ix (de_var 7) de_int) (da_cons (de_ix (de_var 7) de_int) da_nil)) (de_var 3))))) (dss_one (ds_ret de_bl)) dss_nil)))))
      (dss_one (ds_for PassesOwn.never rfl (di_val (de_var 5)) (dg_nm (i := 8) nd rfl (Or.inr rfl)) (dss_one (ds_for PassesOwn.never rfl (di_val (de_own (do_comp rfl nd (di_val (de_op op_addA so_add (de_var 5) (de_lst (da_cons (de_var 4) da_nil)))) (blk (N := N__law_right) (sc := defScope S__law_right) (own := [("_law_spot", 12)]) (by decide +kernel)) (by decide) (fun _ _ _ _ _ => (dg_nm (i := 12) nd rfl (Or.inl rfl))) (fun _ _ _ _ _ => (dts_one (dt_cmp op_gt so_gt (de_var 12) (de_var 8)))) (fun _ _ _ _ _ => (de_var 12))))) (dg_nm (i := 9) nd rfl (Or.inl rfl)) (dss_cons (ds_set (i := 10) nd rfl (Or.inl rfl) (de_methF G_Word_part (hr.mono (by decide)) (de_var 3) (da_cons (de_var 8) (da_cons (de_var 9) da_nil))))
      (dss_cons (ds_if (dt_w (dw_or (dt_cmp (op_neA hr.units) so_ne (de_propF G_Word_text (hr.mono (by decide)) (de_var 10)) (de_callF G__law_block_text (hr.mono (by decide)) rfl F.g__law_block_text (da_cons (de_callF G__law_blocks_part (hr.mono (by decide)) rfl F.g__law_blocks_part (da_cons (de_var 2) (da_cons (de_var 8) (da_cons (de_var 9) da_nil)))) da_nil))) (dw_or1 (dt_cmp (op_neA hr.units) so_ne (de_propF G_Word_size (hr.mono (by decide)) (de_var 10)) (de_op op_sub so_sub (de_var 9) (de_var 8)))))) (dss_one (ds_ret de_bl)) dss_nil)
      (dss_cons (ds_set (i := 11) nd rfl (Or.inl rfl) (de_callF G__law_place (hr.mono (by decide)) rfl F.g__law_place (da_cons (de_var 0) (da_cons (de_op op_sub so_sub (de_var 9) (de_var 8)) da_nil))))
      (dss_one (ds_if (dt_ownNe G_Word___eq__ F.q_Word (hr.mono (by decide)) (de_methF G_Word_part (hr.mono (by decide)) (de_var 10) (da_cons (de_var 11) (da_cons (de_op op_sub so_sub (de_var 9) (de_var 8)) da_nil))) (de_methF G_Word_part (hr.mono (by decide)) (de_var 3) (da_cons (de_op op_addA so_add (de_var 8) (de_var 11)) (da_cons (de_var 9) da_nil)))) (dss_one (ds_ret de_bl)) dss_nil))))))))))))))
      (dss_one (ds_ret de_bl)))) hs
abbrev N_law : List Str := ["_law_script", "_law_place_here"]
theorem sc_law : FnScope N_law ["_law_script"] (defScope S_law) := ⟨rfl, rfl, rfl, by decide +kernel, rfl, by decide +kernel, by decide +kernel⟩
theorem ok_law (F : Fc K mg) {s__law_cells : FD} {s__law_pot : FD} {s__law_right : FD} (G__law_cells : HasF false P w K mg base 1 (He.ga K "_law_cells") ["_law_script", "_law_limit"] [] s__law_cells) (G__law_pot : HasF false P w K mg base 1 (He.ga K "_law_pot") ["_law_script", "_law_place_here"] [] s__law_pot) (G__law_right : HasF false P w K mg base 8 (He.ga K "_law_right") ["_law_pot_here"] [] s__law_right) {sp : FD} (hs : ∀ ds n Q, sp ds n Q → dFn N_law.length 1 (b_law_v2 (He.ga K) s__law_cells s__law_pot s__law_right) ds n Q) : HasG false P w K mg base 9 (He.ga K "law") ["_law_script"] [] sp :=
  has_g F.d_law sc_law (fun _ _ _ _ _ _ us hl => match us, hl with | [_], _ => rfl) (fun fd cdv A outer s H E hr hgd => by
    have nd := sc_law.nd
    exact (dss_one (ds_ret (de_bi (cr_all rfl) so_all rfl F.f_all bt_all (da_cons (de_own (do_comp rfl nd (di_val (de_callF G__law_cells (hr.mono (by decide)) rfl F.g__law_cells (da_cons (de_var 0) (da_cons de_int da_nil)))) (blk (N := N_law) (sc := defScope S_law) (own := [("_law_place_here", 1)]) (by decide +kernel)) (by decide) (fun _ _ _ _ _ => (dg_nm (i := 1) nd rfl (Or.inl rfl))) (fun _ _ _ _ _ => dts_nil) (fun _ _ _ _ _ => (de_callF G__law_right (hr.mono (by decide)) rfl F.g__law_right (da_cons (de_callF G__law_pot (hr.mono (by decide)) rfl F.g__law_pot (da_cons (de_var 0) (da_cons (de_var 1) da_nil))) da_nil))))) da_nil))))) hs
end
end LW
namespace LW
open PySem L2 Pd
theorem chain {P : Program} {w : World} {K : PySem.W.Frag} {mg : Str → Option Value} {base : Heap} (F : Fc K mg) : HasG false P w K mg base 9 (He.ga K "law") ["_law_script"] [] (s_law2) := by
  have G__law_cells := ok__law_cells (P := P) (w := w) (base := base) F  (l_cells (He.ga K))
  have G__law_pot := ok__law_pot (P := P) (w := w) (base := base) F  (l_pot (He.ga K))
  have G__law_take := ok__law_take (P := P) (w := w) (base := base) F
  have G__law_of := ok__law_of (P := P) (w := w) (base := base) F G__law_take (l_of (He.ga K))
  have G__law_random := ok__law_random (P := P) (w := w) (base := base) F G__law_of (l_random (He.ga K))
  have G__law_any_letters := ok__law_any_letters (P := P) (w := w) (base := base) F G__law_take G__law_of G__law_random (l_any (He.ga K))
  have G__law_blocks := ok__law_blocks (P := P) (w := w) (base := base) F  (l_blocks (He.ga K))
  have G__law_letters := ok__law_letters (P := P) (w := w) (base := base) F G__law_any_letters G__law_blocks (l_letters (He.ga K))
  have G__law_great_blocks := ok__law_great_blocks (P := P) (w := w) (base := base) F G__law_take G__law_of (l_great (He.ga K))
  have G__law_merged := ok__law_merged (P := P) (w := w) (base := base) F  (l_merged (He.ga K))
  have G__law_sum_of := ok__law_sum_of (P := P) (w := w) (base := base) F  (l_sumOf (He.ga K))
  have G__law_heads_of := ok__law_heads_of (P := P) (w := w) (base := base) F  (l_heads (He.ga K))
  have G__law_blocks_part := ok__law_blocks_part (P := P) (w := w) (base := base) F G__law_heads_of (l_part (He.ga K))
  have G__law_small_or_great := ok__law_small_or_great (P := P) (w := w) (base := base) F G__law_take G__law_letters G__law_blocks G__law_great_blocks G__law_of G__law_merged G__law_sum_of G__law_blocks_part (l_sog (He.ga K))
  have G__law_block_text := ok__law_block_text (P := P) (w := w) (base := base) F  (l_block_text (He.ga K))
  have G_is_said := ok_is_said (P := P) (w := w) (base := base) F  (l_is_said (He.ga K))
  have G_pieces_of := ok_pieces_of (P := P) (w := w) (base := base) F  (l_pieces_of (He.ga K))
  have G_whole_in := ok_whole_in (P := P) (w := w) (base := base) F  (l_whole_in (He.ga K))
  have G_block_in := ok_block_in (P := P) (w := w) (base := base) F G_whole_in (l_block_in (He.ga K))
  have G_blocks_told := ok_blocks_told (P := P) (w := w) (base := base) F G_is_said G_pieces_of G_block_in (l_blocks_told (He.ga K))
  have G_Word := ok_Word___init__ (P := P) (w := w) (base := base) F G_blocks_told (l_word_init (He.ga K))
  have G__law_place := ok__law_place (P := P) (w := w) (base := base) F G__law_take G__law_of (l_place (He.ga K))
  have G__law_near_places := ok__law_near_places (P := P) (w := w) (base := base) F G__law_sum_of G__law_heads_of G__law_of G__law_place (l_near04 (He.ga K))
  have G_Word_size := ok_Word_size (P := P) (w := w) (base := base) F  (l_Word_size (He.ga K))
  have G_is_integer := ok_is_integer (P := P) (w := w) (base := base) F  (l_is_integer (He.ga K))
  have G_is_integer_2 := ok_is_integer_2 (P := P) (w := w) (base := base) F  (l_is_integer (He.ga K))
  have G_Word_spot := ok_Word_spot (P := P) (w := w) (base := base) F  (l_Word_spot (He.ga K))
  have G_Word_letter := ok_Word_letter (P := P) (w := w) (base := base) F G_Word_size G_is_integer G_Word_spot (l_Word_letter (He.ga K))
  have G__law_letter_at := ok__law_letter_at (P := P) (w := w) (base := base) F  (l_letter_at (He.ga K))
  have G_text_of := ok_text_of (P := P) (w := w) (base := base) F  (l_text_of (He.ga K))
  have G_made := ok_made (P := P) (w := w) (base := base) F G_text_of G_Word (l_made (He.ga K))
  have G_Word_part := ok_Word_part (P := P) (w := w) (base := base) F G_is_integer_2 G_Word_size G_is_integer G_made (l_Word_part (He.ga K))
  have G_Word_blocks := ok_Word_blocks (P := P) (w := w) (base := base) F  (l_Word_blocks (He.ga K))
  have G_put_together := ok_put_together (P := P) (w := w) (base := base) F  (l_put (He.ga K))
  have G_Word_joined := ok_Word_joined (P := P) (w := w) (base := base) F G_Word_blocks G_put_together G_made (l_Word_joined (He.ga K))
  have G_Word_text := ok_Word_text (P := P) (w := w) (base := base) F  (l_Word_text (He.ga K))
  have G_Word___eq__ := ok_Word___eq__ (P := P) (w := w) (base := base) F G_Word_text (l_Word_eq (He.ga K))
  have G__law_right := ok__law_right (P := P) (w := w) (base := base) F G__law_small_or_great G__law_block_text G_Word G__law_sum_of G__law_near_places G_Word_letter G__law_letter_at G_Word_part G_Word_joined G_Word___eq__ G_Word_text G__law_blocks_part G_Word_size G__law_place (l_right04 (He.ga K))
  have G_law := ok_law (P := P) (w := w) (base := base) F G__law_cells G__law_pot G__law_right (l_law2 (He.ga K) (r_right04 (He.ga K)) (by decide))
  exact G_law
end LW
open PySem PySem.W PySem.Calls PyProof.Rows
theorem PySem.Challenge.cw_showncut_k04_whole_letters_and_parts_holds : PySem.Challenge.rw_showncut_k04_whole_letters_and_parts.Holds := by
  refine LW.early (Pd.law_walkG (n := 63) (k := 9) (x := "_law_script") rfl (by decide) rfl ⟨rfl, by decide +kernel, by decide +kernel⟩ ?_)
  intro w mg fa h hY hN hmg
  obtain ⟨K, KX, hS, TA⟩ := hY
  have F := LW.fc_of KX hN hS
  have hfa : fa = He.ga K "law" := by
    have h1 := F.g_law
    have h2 : mg "law" = some (.ref fa) := hmg
    rw [h1] at h2
    injection h2 with h2
    injection h2 with h2
    exact h2.symm
  subst hfa
  exact ⟨K, LW.s_law2, KX, TA, fun ns _ => ⟨ns, rfl, rfl, fun _ => rfl⟩, fun base hb hn TB => LW.chain F⟩
