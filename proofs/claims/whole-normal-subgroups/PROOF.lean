import PyProof.Rows.All
import Wide.All
import OpenK.AllK
import Wide.FinOn
import KE.KNest
import HandS.Codes
import HandS.HeadHook1
import HandS.HeadHook2
import HandS.Base
import HandS.Call
import KE.KStateDown
import HandS.Ends
import HandS.More
import HandS.Words
import HandS.WordsExc
import HandS.Head0
import HandS.Head1
import HandS.Head2
import HandS.Head3
import HandS.HeadEnd
import HandS.Defaults
import HandS.List
import HandS.Comp
import HandS.Dict
import HandS.Iter
import HandS.WordsList
import HandS.WordsDict
import HandS.OwnEq
import HandS.Deep
import HandS.IsInst
import HandS.Zip
import HandS.Conv
import HandS.Style
import HandS.TupAny
import HandS.DictComp
import HandS.SortKw
import KE.SortData
import KE.SortKeyHeap
import HandS.Sort
import KE.KDictCopyH
import KE.KDictSum
import KE.KDictDisplayH
import KE.GoesEnum
import HandS.Gcd
import HandS.SlotsOwn
import PyProof.FactsLen
import HandS.Nested
import KE.SortUse
import HandS.ReSub
import HandS.HeadWalk
import PySem.Challenge.RW_classtable_k38_whole_normal_subgroups
section
set_option Elab.async false
set_option linter.all false
set_option maxRecDepth 100000
set_option maxHeartbeats 4000000
namespace Ch
open PySem PySem.Spec PyProof.Rows L2
/-! ### the head's facts, with code tables -/
def funA (g : Addr → Option Obj) (a : Addr) : List Addr := match g a with
  | some ⟨_, _, .func fd, _⟩ => a :: (He.refV fd.code ++ He.refV fd.defaults)
  | _ => []
def valsA (g : Addr → Option Obj) (a : Addr) (f : Addr → List Addr) : List Addr := match g a with
  | some ⟨_, _, .dict es _, _⟩ => es.toList.flatMap fun e => (match e.val with
    | .ref b => f b
    | _ => [])
  | _ => []
def clsA (g : Addr → Option Obj) (a : Addr) : List Addr := match g a with
  | some ⟨_, _, .cls cd, _⟩ => a :: cd.ns :: valsA g cd.ns (funA g)
  | _ => []
/-- the module's names; the classes, their names, the methods with their codes; the functions with their codes -/
def asX (g : Addr → Option Obj) : List Addr := mainGlobals :: (valsA g mainGlobals (clsA g) ++ valsA g mainGlobals (funA g))
def codeAd (K : PySem.W.Frag) (x : Str) : Addr := match K.lookup (He.ga K x) with
  | some ⟨_, _, .func fd, _⟩ => (match fd.code with
    | .ref c => c
    | _ => 0)
  | _ => 0
def tabAd (K : PySem.W.Frag) (x : Str) : Addr := match K.lookup (codeAd K x) with
  | some ⟨_, _, .fields vs, _⟩ => (match vs.getD 11 .none with
    | .ref P => P
    | _ => 0)
  | _ => 0
def cB1 (K : PySem.W.Frag) (x : Str) : Bool := match K.lookup (He.ga K x) with
  | some ⟨_, _, .func fd, _⟩ => decide (fd.code = .ref (codeAd K x))
  | _ => false
def fldB (a b c d : Value) : Bool := match a, b, c, d with
  | .str _ _, .int _ _, .bool _, .int _ _ => true
  | _, _, _, _ => false
def cB2 (K : PySem.W.Frag) (x : Str) : Bool := match K.lookup (codeAd K x) with
  | some ⟨.type t, _, .fields vs, _⟩ => decide (t = "code") && (decide (vs[11]? = some (.ref (tabAd K x))) && (fldB (vs.getD 18 .none) (vs.getD 7 .none) (vs.getD 9 .none) (vs.getD 10 .none) && decide (codeAd K x ≠ tabAd K x)))
  | _ => false
def cB3 (g : Addr → Option Obj) (P : Addr) : Bool := match g P with
  | some ⟨.none, none, .fields vs, sl⟩ => decide (vs.toList = []) && decide (sl.toList.length = 0)
  | _ => false
def tabB (g : Addr → Option Obj) (K : PySem.W.Frag) (x : Str) : Bool := cB1 K x && (cB2 K x && (cB3 g (tabAd K x) && (K.lookup (tabAd K x)).isNone))
def insB (K : PySem.W.Frag) (C : Addr) : Bool := He.eqO (PySem.W.findIn K (.ref C) "__class__") (some (some (.builtin "object.__class__"))) && (He.eqO (PySem.W.specialIn K (.builtin "object.__class__") "__get__") (some (some (.builtin "getset_descriptor.__get__"))) &&
  (decide (PySem.W.takesIn K (.builtin "object.__class__") = some true) && (decide (PySem.W.mroIn K C (.type "object") = some true) && decide (PySem.W.kitOne K (.ref C) (.ref C) = some true))))
/-- what is asked beyond He's facts -/
def exB (g : Addr → Option Obj) (K : PySem.W.Frag) : Bool := He.eqO (PySem.W.nsIn K mainGlobals "lcm") (some (some (.builtin "math.lcm"))) && (insB K (He.ga K "Permutation") && (insB K (He.ga K "Cyclo") &&
  (PySem.W.selfFirst K (He.ga K "Permutation") && (PySem.W.selfFirst K (He.ga K "Group") && (PySem.W.selfFirst K (He.ga K "Cyclo") && (PySem.W.selfFirst K (He.ga K "CharacterTable") &&
  (tabB g K "normal_subgroups" && (tabB g K "character_table" && decide (tabAd K "normal_subgroups" ≠ tabAd K "character_table")))))))))
structure TabF (K : PySem.W.Frag) (h : Heap) (x : Str) (c P : Addr) : Prop where
  fn : ∃ oc od fd sl, K.lookup (He.ga K x) = some ⟨oc, od, .func fd, sl⟩ ∧ fd.code = .ref c
  hd : PySem.W.CodeHd h c P
  tab : h.get? P = some { cls := .none, data := .fields #[] }
  no : K.lookup P = none
theorem tabB_ok {K : PySem.W.Frag} {h : Heap} {x : Str} (X : K.In h) (e : tabB h.get? K x = true) : TabF K h x (codeAd K x) (tabAd K x) := by
  obtain ⟨e1, e⟩ := He.ba e
  obtain ⟨e2, e⟩ := He.ba e
  obtain ⟨e3, e4⟩ := He.ba e
  refine ⟨?_, ?_, ?_, Option.isNone_iff_eq_none.mp e4⟩
  · unfold cB1 at e1
    cases q : K.lookup (He.ga K x) with
    | none => rw [q] at e1; cases e1
    | some o =>
      obtain ⟨oc, od, dt, osl⟩ := o
      rw [q] at e1
      cases dt with
      | func fd => exact ⟨oc, od, fd, osl, rfl, of_decide_eq_true e1⟩
      | _ => cases e1
  · unfold cB2 at e2
    cases q : K.lookup (codeAd K x) with
    | none => rw [q] at e2; cases e2
    | some o =>
      obtain ⟨oc, od, dt, osl⟩ := o
      rw [q] at e2
      cases oc with
      | type t =>
        cases dt with
        | fields vs =>
          obtain ⟨k1, k⟩ := He.ba (show (decide (t = "code") && (decide (vs[11]? = some (.ref (tabAd K x))) && (fldB (vs.getD 18 .none) (vs.getD 7 .none) (vs.getD 9 .none) (vs.getD 10 .none) && decide (codeAd K x ≠ tabAd K x)))) = true from e2)
          obtain ⟨k2, k⟩ := He.ba k
          obtain ⟨k3, k4⟩ := He.ba k
          have k2 := of_decide_eq_true k2
          have f : ∃ file tf flags tg inF text tt, vs.getD 18 .none = .str file tf ∧ vs.getD 7 .none = .int flags tg ∧ vs.getD 9 .none = .bool inF ∧ vs.getD 10 .none = .int text tt := by
            generalize vs.getD 18 .none = a at k3 ⊢
            generalize vs.getD 7 .none = b at k3 ⊢
            generalize vs.getD 9 .none = c at k3 ⊢
            generalize vs.getD 10 .none = d at k3 ⊢
            cases a <;> try (exact nomatch (show false = true from k3))
            cases b <;> try (exact nomatch (show false = true from k3))
            cases c <;> try (exact nomatch (show false = true from k3))
            cases d <;> try (exact nomatch (show false = true from k3))
            exact ⟨_, _, _, _, _, _, _, rfl, rfl, rfl, rfl⟩
          obtain ⟨file, tf, flags, tg, inF, text, tt, f1, f2, f3, f4⟩ := f
          refine ⟨_, vs, file, tf, flags, tg, inF, text, tt, X _ _ q, congrArg Value.type (of_decide_eq_true k1), rfl, k2, ?_, f1, f2, f3, f4, of_decide_eq_true k4⟩
          rw [Array.getD_eq_getD_getElem?, k2]
          rfl
        | _ => cases e2
      | _ => cases dt <;> cases e2
  · unfold cB3 at e3
    cases q : h.get? (tabAd K x) with
    | none => rw [q] at e3; cases e3
    | some o =>
      obtain ⟨oc, od, dt, osl⟩ := o
      rw [q] at e3
      cases oc with
      | none =>
        cases od with
        | none =>
          cases dt with
          | fields vs =>
            obtain ⟨k1, k2⟩ := He.ba (show (decide (vs.toList = []) && decide (osl.toList.length = 0)) = true from e3)
            have k1 := of_decide_eq_true k1
            have k2 := List.length_eq_zero_iff.mp (of_decide_eq_true k2)
            have v1 : vs = #[] := Array.toList_inj.mp k1
            have v2 : osl = #[] := Array.toList_inj.mp k2
            subst v1; subst v2
            rfl
          | _ => cases e3
        | some _ => cases dt <;> cases e3
      | _ => cases od <;> cases dt <;> cases e3
theorem insB_ok {K : PySem.W.Frag} {C : Addr} (hc : Cls K C) (e : insB K C = true) : C8.InsC K C := by
  obtain ⟨e1, e⟩ := He.ba e
  obtain ⟨e2, e⟩ := He.ba e
  obtain ⟨e3, e⟩ := He.ba e
  obtain ⟨e4, e5⟩ := He.ba e
  exact ⟨hc, He.eqO_ok e1, He.eqO_ok e2, of_decide_eq_true e3, of_decide_eq_true e4, of_decide_eq_true e5⟩
/-- what the head says -/
structure Sx (fa : List He.Fa) (fn : List He.DefD) (h : Heap) (K : PySem.W.Frag) : Prop where
  X : K.In h
  says : He.SaysD fa fn K
  lcm : PySem.W.nsIn K mainGlobals "lcm" = some (some (.builtin "math.lcm"))
  i0 : insB K (He.ga K "Permutation") = true
  i2 : insB K (He.ga K "Cyclo") = true
  s0 : PySem.W.selfFirst K (He.ga K "Permutation") = true
  s1 : PySem.W.selfFirst K (He.ga K "Group") = true
  s2 : PySem.W.selfFirst K (He.ga K "Cyclo") = true
  s3 : PySem.W.selfFirst K (He.ga K "CharacterTable") = true
  t1 : TabF K h "normal_subgroups" (codeAd K "normal_subgroups") (tabAd K "normal_subgroups")
  t2 : TabF K h "character_table" (codeAd K "character_table") (tabAd K "character_table")
  ne : tabAd K "normal_subgroups" ≠ tabAd K "character_table"
theorem sx_of {fa : List He.Fa} {fn : List He.DefD} {h : Heap} {K : PySem.W.Frag} (X : K.In h) (c : He.SaysD fa fn K) (e : exB h.get? K = true) : Sx fa fn h K := by
  obtain ⟨e1, e⟩ := He.ba e
  obtain ⟨e2, e⟩ := He.ba e
  obtain ⟨e3, e⟩ := He.ba e
  obtain ⟨e4, e⟩ := He.ba e
  obtain ⟨e5, e⟩ := He.ba e
  obtain ⟨e6, e⟩ := He.ba e
  obtain ⟨e7, e⟩ := He.ba e
  obtain ⟨e8, e⟩ := He.ba e
  obtain ⟨e9, e10⟩ := He.ba e
  exact ⟨X, c, He.eqO_ok e1, e2, e3, e4, e5, e6, e7, tabB_ok X e8, tabB_ok X e9, of_decide_eq_true e10⟩
theorem Sx.keeps {fa : List He.Fa} {fn : List He.DefD} {h h' : Heap} {K : PySem.W.Frag} (q : Sx fa fn h K) (k : ∀ b o, h.get? b = some o → h'.get? b = some o) : Sx fa fn h' K :=
  ⟨PySem.W.Frag.In.keeps q.X k, q.says, q.lcm, q.i0, q.i2, q.s0, q.s1, q.s2, q.s3, ⟨q.t1.fn, q.t1.hd.keeps k, k _ _ q.t1.tab, q.t1.no⟩, ⟨q.t2.fn, q.t2.hd.keeps k, k _ _ q.t2.tab, q.t2.no⟩, q.ne⟩
def obsX (fa : List He.Fa) (fn : List He.DefD) (g : Addr → Option Obj) : He.AlD × Bool := (He.obsD fa fn (He.frG g (asX g)), exB g (He.frG g (asX g)))
def hookX (fa : List He.Fa) (fn : List He.DefD) : PySem.W.Hook where
  α := He.AlD × Bool
  obs := fun s => obsX fa fn s.heap.get?
  val := fun _ => (He.valD fn, true)
  says := fun _ h => ∃ K : PySem.W.Frag, Sx fa fn h K
  of := fun _ _ e => ⟨_, sx_of He.frG_in (congrArg Prod.fst e) (congrArg Prod.snd e)⟩
  keeps := fun _ _ _ ⟨K, q⟩ k => ⟨K, q.keeps k⟩
theorem obsX_eq {fa : List He.Fa} {fn : List He.DefD} {g : Addr → Option Obj} {s : Shared} (h : ∀ a, g a = s.heap.get? a) : obsX fa fn g = (hookX fa fn).obs s := by
  have e : g = s.heap.get? := funext h
  rw [e] <;> rfl
end Ch
end
section
set_option Elab.async false
set_option linter.all false
set_option maxRecDepth 100000
set_option maxHeartbeats 4000000
noncomputable section
namespace Ct
open PySem PySem.Spec PyProof.Rows L2
/-! ### the text's statements -/
abbrev PWl : Program := PySem.Challenge.pw_classtable_k38_whole_normal_subgroups
def top (i : Nat) : Stmt := PWl.main.body.getD i (.Pass ⟨0, 0, 0, 0⟩)
def cst (i j : Nat) : Stmt := (C8.clsBody (top i)).getD j (.Pass ⟨0, 0, 0, 0⟩)
end Ct
end
end
section
set_option Elab.async false
set_option linter.all false
set_option maxRecDepth 100000
set_option maxHeartbeats 0

namespace Ch
open PySem PySem.Spec PyProof.Rows L2 Ct
abbrev RWl : PySem.W.OpenLaw := PySem.Challenge.rw_classtable_k38_whole_normal_subgroups
def nm0 : List PySem.Str := ["_wall", "Fault", "ZeroDivisor", "Malformed", "Refused", "MOST_POINTS", "_is_integer", "Permutation", "identity", "MOST_ORDER", "_checked_rows", "_generators", "_reached", "_check", "Group", "cyclic", "direct", "_closure", "from_permutations", "classes", "class_numbers", "class_of_power", "inverse_classes", "class_sizes", "_matrix", "class_matrices", "kernel", "kernel_normal", "shared"]
def nm1 : List PySem.Str := ["normal_subgroups", "is_integer", "common", "multiple", "prime_powers", "is_prime", "divisors", "root_floor", "power_modulo", "inverse_modulo", "prime_above", "MOST", "spread", "divided", "cyclotomic", "folded", "lowered", "least_form", "head_text", "low_text", "Cyclo", "root", "of_integer", "added", "reduced", "cleared", "kernel_modular", "times", "before", "prime_of"]
def nm2 : List PySem.Str := ["root_of", "modulo", "parts", "normalised", "split", "modular_rows", "inverse_sum", "degree_of", "modular_character", "multiplicities", "lifted", "characters", "CharacterTable", "row_key", "character_table", "_law_numbers", "_law_next", "_law_images", "_law_group", "_law_closed", "_law_sets"]
def names : List PySem.Str := nm0 ++ nm1 ++ nm2
def d__is_integer : He.DefD := ⟨("_is_integer", none), "_is_integer", "_is_integer", defArgs (top 9), defBody (top 9), defScope (top 9), [], []⟩
def d_Permutation___init__ : He.DefD := ⟨("Permutation", some "__init__"), "__init__", "Permutation.__init__", defArgs (cst 10 0), defBody (cst 10 0), defScope (cst 10 0), [], []⟩
def d_Permutation___mul__ : He.DefD := ⟨("Permutation", some "__mul__"), "__mul__", "Permutation.__mul__", defArgs (cst 10 2), defBody (cst 10 2), defScope (cst 10 2), [], []⟩
def d_identity : He.DefD := ⟨("identity", none), "identity", "identity", defArgs (top 11), defBody (top 11), defScope (top 11), [], []⟩
def d__checked_rows : He.DefD := ⟨("_checked_rows", none), "_checked_rows", "_checked_rows", defArgs (top 14), defBody (top 14), defScope (top 14), [], []⟩
def d__reached : He.DefD := ⟨("_reached", none), "_reached", "_reached", defArgs (top 16), defBody (top 16), defScope (top 16), [], []⟩
def d__generators : He.DefD := ⟨("_generators", none), "_generators", "_generators", defArgs (top 15), defBody (top 15), defScope (top 15), [], []⟩
def d__check : He.DefD := ⟨("_check", none), "_check", "_check", defArgs (top 17), defBody (top 17), defScope (top 17), [], []⟩
def d_Group___init__ : He.DefD := ⟨("Group", some "__init__"), "__init__", "Group.__init__", defArgs (cst 18 0), defBody (cst 18 0), defScope (cst 18 0), [], []⟩
def d_Group___len__ : He.DefD := ⟨("Group", some "__len__"), "__len__", "Group.__len__", defArgs (cst 18 1), defBody (cst 18 1), defScope (cst 18 1), [], []⟩
def d_Group_product : He.DefD := ⟨("Group", some "product"), "product", "Group.product", defArgs (cst 18 3), defBody (cst 18 3), defScope (cst 18 3), [], []⟩
def d_Group_inverse : He.DefD := ⟨("Group", some "inverse"), "inverse", "Group.inverse", defArgs (cst 18 4), defBody (cst 18 4), defScope (cst 18 4), [], []⟩
def d_Group_order_of : He.DefD := ⟨("Group", some "order_of"), "order_of", "Group.order_of", defArgs (cst 18 6), defBody (cst 18 6), defScope (cst 18 6), [], []⟩
def d_Group_power : He.DefD := ⟨("Group", some "power"), "power", "Group.power", defArgs (cst 18 5), defBody (cst 18 5), defScope (cst 18 5), [], []⟩
def d_Group_conjugated : He.DefD := ⟨("Group", some "conjugated"), "conjugated", "Group.conjugated", defArgs (cst 18 7), defBody (cst 18 7), defScope (cst 18 7), [], []⟩
def d_Group_exponent : He.DefD := ⟨("Group", some "exponent"), "exponent", "Group.exponent", defArgs (cst 18 8), defBody (cst 18 8), defScope (cst 18 8), [], []⟩
def d_cyclic : He.DefD := ⟨("cyclic", none), "cyclic", "cyclic", defArgs (top 19), defBody (top 19), defScope (top 19), [], []⟩
def d_direct : He.DefD := ⟨("direct", none), "direct", "direct", defArgs (top 20), defBody (top 20), defScope (top 20), [], []⟩
def d__closure : He.DefD := ⟨("_closure", none), "_closure", "_closure", defArgs (top 21), defBody (top 21), defScope (top 21), [], []⟩
def d_from_permutations : He.DefD := ⟨("from_permutations", none), "from_permutations", "from_permutations", defArgs (top 22), defBody (top 22), defScope (top 22), [], []⟩
def d_classes : He.DefD := ⟨("classes", none), "classes", "classes", defArgs (top 24), defBody (top 24), defScope (top 24), [], []⟩
def d_class_numbers : He.DefD := ⟨("class_numbers", none), "class_numbers", "class_numbers", defArgs (top 25), defBody (top 25), defScope (top 25), [], []⟩
def d_class_of_power : He.DefD := ⟨("class_of_power", none), "class_of_power", "class_of_power", defArgs (top 26), defBody (top 26), defScope (top 26), [], []⟩
def d_inverse_classes : He.DefD := ⟨("inverse_classes", none), "inverse_classes", "inverse_classes", defArgs (top 27), defBody (top 27), defScope (top 27), [], []⟩
def d_class_sizes : He.DefD := ⟨("class_sizes", none), "class_sizes", "class_sizes", defArgs (top 29), defBody (top 29), defScope (top 29), [], []⟩
def d__matrix : He.DefD := ⟨("_matrix", none), "_matrix", "_matrix", defArgs (top 30), defBody (top 30), defScope (top 30), [], []⟩
def d_class_matrices : He.DefD := ⟨("class_matrices", none), "class_matrices", "class_matrices", defArgs (top 31), defBody (top 31), defScope (top 31), [], []⟩
def d_is_integer : He.DefD := ⟨("is_integer", none), "is_integer", "is_integer", defArgs (top 38), defBody (top 38), defScope (top 38), [], []⟩
def d_common : He.DefD := ⟨("common", none), "common", "common", defArgs (top 39), defBody (top 39), defScope (top 39), [], []⟩
def d_multiple : He.DefD := ⟨("multiple", none), "multiple", "multiple", defArgs (top 40), defBody (top 40), defScope (top 40), [], []⟩
def d_prime_powers : He.DefD := ⟨("prime_powers", none), "prime_powers", "prime_powers", defArgs (top 41), defBody (top 41), defScope (top 41), [], []⟩
def d_is_prime : He.DefD := ⟨("is_prime", none), "is_prime", "is_prime", defArgs (top 42), defBody (top 42), defScope (top 42), [], []⟩
def d_divisors : He.DefD := ⟨("divisors", none), "divisors", "divisors", defArgs (top 43), defBody (top 43), defScope (top 43), [], []⟩
def d_root_floor : He.DefD := ⟨("root_floor", none), "root_floor", "root_floor", defArgs (top 44), defBody (top 44), defScope (top 44), [], []⟩
def d_power_modulo : He.DefD := ⟨("power_modulo", none), "power_modulo", "power_modulo", defArgs (top 45), defBody (top 45), defScope (top 45), [], []⟩
def d_inverse_modulo : He.DefD := ⟨("inverse_modulo", none), "inverse_modulo", "inverse_modulo", defArgs (top 46), defBody (top 46), defScope (top 46), [], []⟩
def d_prime_above : He.DefD := ⟨("prime_above", none), "prime_above", "prime_above", defArgs (top 47), defBody (top 47), defScope (top 47), [], []⟩
def d_spread : He.DefD := ⟨("spread", none), "spread", "spread", defArgs (top 50), defBody (top 50), defScope (top 50), [], []⟩
def d_divided : He.DefD := ⟨("divided", none), "divided", "divided", defArgs (top 51), defBody (top 51), defScope (top 51), [], []⟩
def d_cyclotomic : He.DefD := ⟨("cyclotomic", none), "cyclotomic", "cyclotomic", defArgs (top 52), defBody (top 52), defScope (top 52), [], []⟩
def d_folded : He.DefD := ⟨("folded", none), "folded", "folded", defArgs (top 53), defBody (top 53), defScope (top 53), [], []⟩
def d_lowered : He.DefD := ⟨("lowered", none), "lowered", "lowered", defArgs (top 54), defBody (top 54), defScope (top 54), [], []⟩
def d_least_form : He.DefD := ⟨("least_form", none), "least_form", "least_form", defArgs (top 55), defBody (top 55), defScope (top 55), [], []⟩
def d_Cyclo___init__ : He.DefD := ⟨("Cyclo", some "__init__"), "__init__", "Cyclo.__init__", defArgs (cst 58 0), defBody (cst 58 0), defScope (cst 58 0), [.int 1], []⟩
def d_Cyclo_key : He.DefD := ⟨("Cyclo", some "key"), "key", "Cyclo.key", defArgs (cst 58 7), defBody (cst 58 7), defScope (cst 58 7), [], []⟩
def d_Cyclo___eq__ : He.DefD := ⟨("Cyclo", some "__eq__"), "__eq__", "Cyclo.__eq__", defArgs (cst 58 1), defBody (cst 58 1), defScope (cst 58 1), [], []⟩
def d_Cyclo___add__ : He.DefD := ⟨("Cyclo", some "__add__"), "__add__", "Cyclo.__add__", defArgs (cst 58 3), defBody (cst 58 3), defScope (cst 58 3), [], []⟩
def d_Cyclo_scaled : He.DefD := ⟨("Cyclo", some "scaled"), "scaled", "Cyclo.scaled", defArgs (cst 58 9), defBody (cst 58 9), defScope (cst 58 9), [], []⟩
def d_root : He.DefD := ⟨("root", none), "root", "root", defArgs (top 59), defBody (top 59), defScope (top 59), [.int 1], []⟩
def d_of_integer : He.DefD := ⟨("of_integer", none), "of_integer", "of_integer", defArgs (top 60), defBody (top 60), defScope (top 60), [], []⟩
def d_added : He.DefD := ⟨("added", none), "added", "added", defArgs (top 61), defBody (top 61), defScope (top 61), [], []⟩
def d_cleared : He.DefD := ⟨("cleared", none), "cleared", "cleared", defArgs (top 64), defBody (top 64), defScope (top 64), [], []⟩
def d_reduced : He.DefD := ⟨("reduced", none), "reduced", "reduced", defArgs (top 63), defBody (top 63), defScope (top 63), [], []⟩
def d_kernel_modular : He.DefD := ⟨("kernel_modular", none), "kernel", "kernel", defArgs (top 65), defBody (top 65), defScope (top 65), [], []⟩
def d_times : He.DefD := ⟨("times", none), "times", "times", defArgs (top 67), defBody (top 67), defScope (top 67), [], []⟩
def d_before : He.DefD := ⟨("before", none), "before", "before", defArgs (top 68), defBody (top 68), defScope (top 68), [], []⟩
def d_prime_of : He.DefD := ⟨("prime_of", none), "prime_of", "prime_of", defArgs (top 70), defBody (top 70), defScope (top 70), [], []⟩
def d_root_of : He.DefD := ⟨("root_of", none), "root_of", "root_of", defArgs (top 71), defBody (top 71), defScope (top 71), [], []⟩
def d_modulo : He.DefD := ⟨("modulo", none), "modulo", "modulo", defArgs (top 72), defBody (top 72), defScope (top 72), [], []⟩
def d_parts : He.DefD := ⟨("parts", none), "parts", "parts", defArgs (top 73), defBody (top 73), defScope (top 73), [], []⟩
def d_normalised : He.DefD := ⟨("normalised", none), "normalised", "normalised", defArgs (top 74), defBody (top 74), defScope (top 74), [], []⟩
def d_split : He.DefD := ⟨("split", none), "split", "split", defArgs (top 75), defBody (top 75), defScope (top 75), [], []⟩
def d_modular_rows : He.DefD := ⟨("modular_rows", none), "modular_rows", "modular_rows", defArgs (top 76), defBody (top 76), defScope (top 76), [], []⟩
def d_inverse_sum : He.DefD := ⟨("inverse_sum", none), "inverse_sum", "inverse_sum", defArgs (top 77), defBody (top 77), defScope (top 77), [], []⟩
def d_degree_of : He.DefD := ⟨("degree_of", none), "degree_of", "degree_of", defArgs (top 79), defBody (top 79), defScope (top 79), [], []⟩
def d_modular_character : He.DefD := ⟨("modular_character", none), "modular_character", "modular_character", defArgs (top 80), defBody (top 80), defScope (top 80), [], []⟩
def d_multiplicities : He.DefD := ⟨("multiplicities", none), "multiplicities", "multiplicities", defArgs (top 81), defBody (top 81), defScope (top 81), [], []⟩
def d_lifted : He.DefD := ⟨("lifted", none), "lifted", "lifted", defArgs (top 82), defBody (top 82), defScope (top 82), [], []⟩
def d_characters : He.DefD := ⟨("characters", none), "characters", "characters", defArgs (top 83), defBody (top 83), defScope (top 83), [], []⟩
def d_CharacterTable___init__ : He.DefD := ⟨("CharacterTable", some "__init__"), "__init__", "CharacterTable.__init__", defArgs (cst 85 0), defBody (cst 85 0), defScope (cst 85 0), [], []⟩
def d_CharacterTable___len__ : He.DefD := ⟨("CharacterTable", some "__len__"), "__len__", "CharacterTable.__len__", defArgs (cst 85 1), defBody (cst 85 1), defScope (cst 85 1), [], []⟩
def d_row_key : He.DefD := ⟨("row_key", none), "row_key", "row_key", defArgs (top 86), defBody (top 86), defScope (top 86), [], []⟩
def d_kernel_normal : He.DefD := ⟨("kernel_normal", none), "kernel", "kernel", defArgs (top 33), defBody (top 33), defScope (top 33), [], []⟩
def d_shared : He.DefD := ⟨("shared", none), "shared", "shared", defArgs (top 35), defBody (top 35), defScope (top 35), [], []⟩
def d__law_closed : He.DefD := ⟨("_law_closed", none), "_law_closed", "_law_closed", defArgs (top 93), defBody (top 93), defScope (top 93), [], []⟩
def d__law_sets : He.DefD := ⟨("_law_sets", none), "_law_sets", "_law_sets", defArgs (top 94), defBody (top 94), defScope (top 94), [], []⟩
def d_normal_subgroups : He.DefD := ⟨("normal_subgroups", none), "normal_subgroups", "normal_subgroups", defArgs (top 36), defBody (top 36), defScope (top 36), [], []⟩
def d_character_table : He.DefD := ⟨("character_table", none), "character_table", "character_table", defArgs (top 87), defBody (top 87), defScope (top 87), [], []⟩
def d__law_numbers : He.DefD := ⟨("_law_numbers", none), "_law_numbers", "_law_numbers", defArgs (top 89), defBody (top 89), defScope (top 89), [], []⟩
def d__law_next : He.DefD := ⟨("_law_next", none), "_law_next", "_law_next", defArgs (top 90), defBody (top 90), defScope (top 90), [], []⟩
def d__law_images : He.DefD := ⟨("_law_images", none), "_law_images", "_law_images", defArgs (top 91), defBody (top 91), defScope (top 91), [], []⟩
def d__law_group : He.DefD := ⟨("_law_group", none), "_law_group", "_law_group", defArgs (top 92), defBody (top 92), defScope (top 92), [], []⟩
def d_law : He.DefD := ⟨("law", none), "law", "law", defArgs (top 95), defBody (top 95), defScope (top 95), [], []⟩
def fnL : List He.DefD := [d__is_integer, d_Permutation___init__, d_Permutation___mul__, d_identity, d__checked_rows, d__reached, d__generators, d__check, d_Group___init__, d_Group___len__, d_Group_product, d_Group_inverse, d_Group_order_of, d_Group_power, d_Group_conjugated, d_Group_exponent, d_cyclic, d_direct, d__closure, d_from_permutations, d_classes, d_class_numbers, d_class_of_power, d_inverse_classes, d_class_sizes, d__matrix, d_class_matrices, d_is_integer, d_common, d_multiple, d_prime_powers, d_is_prime, d_divisors, d_root_floor, d_power_modulo, d_inverse_modulo, d_prime_above, d_spread, d_divided, d_cyclotomic, d_folded, d_lowered, d_least_form, d_Cyclo___init__, d_Cyclo_key, d_Cyclo___eq__, d_Cyclo___add__, d_Cyclo_scaled, d_root, d_of_integer, d_added, d_cleared, d_reduced, d_kernel_modular, d_times, d_before, d_prime_of, d_root_of, d_modulo, d_parts, d_normalised, d_split, d_modular_rows, d_inverse_sum, d_degree_of, d_modular_character, d_multiplicities, d_lifted, d_characters, d_CharacterTable___init__, d_CharacterTable___len__, d_row_key, d_kernel_normal, d_shared, d__law_closed, d__law_sets, d_normal_subgroups, d_character_table, d__law_numbers, d__law_next, d__law_images, d__law_group, d_law]
def faL : List He.Fa := [.glo "_is_integer", .glo "identity", .glo "_checked_rows", .glo "_reached", .glo "_generators", .glo "_check", .glo "cyclic", .glo "direct", .glo "_closure", .glo "from_permutations", .glo "classes", .glo "class_numbers", .glo "class_of_power", .glo "inverse_classes", .glo "class_sizes", .glo "_matrix", .glo "class_matrices", .glo "is_integer", .glo "common", .glo "multiple", .glo "prime_powers", .glo "is_prime", .glo "divisors", .glo "root_floor", .glo "power_modulo", .glo "inverse_modulo", .glo "prime_above", .glo "spread", .glo "divided", .glo "cyclotomic", .glo "folded", .glo "lowered", .glo "least_form", .glo "root", .glo "of_integer", .glo "added", .glo "cleared", .glo "reduced", .glo "kernel_modular", .glo "times", .glo "before", .glo "prime_of", .glo "root_of", .glo "modulo", .glo "parts", .glo "normalised", .glo "split", .glo "modular_rows", .glo "inverse_sum", .glo "degree_of", .glo "modular_character", .glo "multiplicities", .glo "lifted", .glo "characters", .glo "row_key", .glo "kernel_normal", .glo "shared", .glo "_law_closed", .glo "_law_sets", .glo "normal_subgroups", .glo "character_table", .glo "_law_numbers", .glo "_law_next", .glo "_law_images", .glo "_law_group", .glo "law", .glo "Permutation", .glo "Group", .glo "Cyclo", .glo "CharacterTable", .free "len", .free "range", .free "list", .free "tuple", .free "sorted", .free "zip", .free "enumerate", .free "sum", .free "abs", .free "max", .free "any", .free "int", .free "bool", .free "isinstance", .free "min", .int "MOST" 5000, .int "MOST_ORDER" 60, .int "MOST_POINTS" 12, .cls "Permutation", .mkr "Permutation", .noat "Permutation" "images", .cls "Group", .mkr "Group", .noat "Group" "table", .cls "Cyclo", .mkr "Cyclo", .noat "Cyclo" "e", .noat "Cyclo" "parts", .noat "Cyclo" "low", .cls "CharacterTable", .mkr "CharacterTable", .noat "CharacterTable" "group", .noat "CharacterTable" "rows", .meth "Permutation" "__mul__", .meth "Group" "__len__", .meth "Group" "product", .meth "Group" "inverse", .meth "Group" "order_of", .meth "Group" "power", .meth "Group" "conjugated", .meth "Group" "exponent", .meth "Cyclo" "key", .meth "Cyclo" "__eq__", .meth "Cyclo" "__add__", .meth "Cyclo" "scaled", .meth "CharacterTable" "__len__"]
abbrev Rw : PySem.W.OpenRow := PySem.W.OpenLaw.row RWl
abbrev hkL : PySem.W.Hook := hookX faL fnL
def obL (s : PySem.W.SharedT) : He.AlD × Bool := obsX faL fnL (HandSHeadRun.getT s)
theorem obL_eq (s : PySem.W.SharedT) : obL s = hkL.obs s.abs := obsX_eq (HandSHeadRun.getT_eq s)
noncomputable abbrev wh (w : World) := HandSHeadRun.wholeF (fun p => HandSHeadRun.stepQ (HandSHeadRun.denQ HandSHeadRun.tabQ) p w) HandSHeadRun.fenceQ 12000 Rw.prog
abbrev qv : Program := PySem.W.view Rw.prog [0, 95]
theorem run3 {α β γ δ : Type} {m : Option α} {f : α → β} {g : α → γ} {h : α → δ} {a : β} {b : γ} {c : δ} (hf : m.map f = some a) (hg : m.map g = some b) (hh : m.map h = some c) : m.map (fun x => (f x, g x, h x)) = some (a, b, c) := by
  cases m with
  | none => cases hf
  | some x =>
    have e1 : f x = a := Option.some.inj hf
    have e2 : g x = b := Option.some.inj hg
    have e3 : h x = c := Option.some.inj hh
    rw [Option.map_some, e1, e2, e3]
theorem runB (w : World) : (wh w).map (fun x => HandSHeadRun.looksF Rw.prog x.1.heap x.2.abs) = some true := by kernel_rfl
theorem runC (w : World) : (wh w).map (fun x => HandSHeadRun.seenQ qv names (PySem.importedModules Rw.prog.main.body) (fun s => PySem.W.xlAt qv [] s && PySem.W.recOk Rw.toRowW.records s) x.2.abs) = some (PySem.W.openGood qv names) := by kernel_rfl
theorem runD (w : World) : (wh w).map (fun x => obL x.2) = some (hkL.val w) := by kernel_rfl
theorem runL (w : World) : HandSHeadRun.RunEqI Rw qv hkL obL 12000 names w := run3 (runB w) (runC w) (runD w)
end Ch
end
section
set_option Elab.async false
set_option linter.all false
set_option maxRecDepth 100000
set_option maxHeartbeats 4000000
noncomputable section
namespace Ct
open PySem PySem.Spec PyProof.Rows L2

/-! ### mirrored values -/
inductive U where
  | no | non | bl (b : Bool) | int (i : Int)
  | tup (xs : List U) | lst (xs : List U) | ins (c : Nat) (fs : List U) | tbl (i : Nat)
  | ol (xs : List U) | dk (ks : List Int) (vs : List U) | dt (ks : List (List Int)) (vs : List U) | oi (c : Nat) (fs : List U)
abbrev M := List U → Option U
abbrev MA := List U → Option (List U)

/-- the fields of the classes: 0 Permutation, 1 Group, 2 Cyclo, 3 CharacterTable -/
def fnames : Nat → List Str
  | 0 => ["images"]
  | 1 => ["table"]
  | 2 => ["e", "parts", "low"]
  | _ => ["group", "rows"]

def U.own : U → Bool
  | .no => true
  | .ol _ => true
  | .dk _ _ => true
  | .dt _ _ => true
  | .oi _ _ => true
  | _ => false

/-- where the classes stand; an instance that is being made, its dict -/
structure Cl where
  k : Nat → Addr
  se : Addr
  sd : Addr
/-- heaps: what A says, B says -/
def Sb (A B : Hp) : Prop := ∀ a o, A a = some o → B a = some o
theorem Sb.refl (A : Hp) : Sb A A := fun _ _ h => h
theorem Sb.trans {A B C : Hp} (x : Sb A B) (y : Sb B C) : Sb A C := fun a o h => y a o (x a o h)
theorem Sb.new {A : Hp} {p : Addr} {o : HO} (h : A p = none) : Sb A (upd A p o) := fun a u e => by
  rw [upd_ne (ne_of_none e h)]; exact e
theorem Sb.upd2 {A B : Hp} {p : Addr} {o : HO} (h : Sb A B) : Sb (upd A p o) (upd B p o) := fun a u e => by
  by_cases q : a = p
  · subst q; rw [upd_same] at e ⊢; exact e
  · rw [upd_ne q] at e ⊢; exact h a u e

/-- nothing there, or a tuple -/
def Fz (H : Hp) (b : Addr) : Prop := ∀ o, H b = some o → ∃ xs, o = .tup xs
theorem fz_none {H : Hp} {b : Addr} (h : H b = none) : Fz H b := fun o q => by rw [h] at q; cases q
/-- F the frozen part of H; a step to F', H': nothing that stood has changed, what is newly frozen was not there -/
structure Stp (F H F' H' : Hp) : Prop where
  ff : Sb F F'
  fh : Sb F' H'
  hh : Sb H H'
  new : ∀ b o, F' b = some o → F b = some o ∨ Fz H b
theorem Stp.refl {F H : Hp} (h : Sb F H) : Stp F H F H := ⟨Sb.refl _, h, Sb.refl _, fun _ _ e => .inl e⟩
theorem Stp.trans {F H F1 H1 F2 H2 : Hp} (a : Stp F H F1 H1) (b : Stp F1 H1 F2 H2) : Stp F H F2 H2 where
  ff := a.ff.trans b.ff
  fh := b.fh
  hh := a.hh.trans b.hh
  new := fun c o e => by
    rcases b.new c o e with e1 | e1
    · exact a.new c o e1
    · exact .inr fun u q => e1 u (a.hh c u q)
theorem Stp.sb {F H F' H' : Hp} (s : Stp F H F' H') (h : Sb F H) : Sb F' H' := s.fh
/-- a new frozen object -/
theorem Stp.add {F H : Hp} {p : Addr} {o : HO} (h : Sb F H) (n : H p = none) : Stp F H (upd F p o) (upd H p o) := by
  have nf : F p = none := by
    cases q : F p with
    | none => rfl
    | some u => rw [h p u q] at n; cases n
  refine ⟨Sb.new nf, Sb.upd2 h, Sb.new n, fun b u e => ?_⟩
  by_cases q : b = p
  · subst q; exact .inr (fz_none n)
  · rw [upd_ne q] at e; exact .inl e
/-- a new object that is not frozen -/
theorem Stp.lay {F H : Hp} {p : Addr} {o : HO} (h : Sb F H) (n : H p = none) : Stp F H F (upd H p o) :=
  ⟨Sb.refl _, h.trans (Sb.new n), Sb.new n, fun _ _ e => .inl e⟩
theorem Sb.none {F H : Hp} {p : Addr} (h : Sb F H) (n : H p = none) : F p = none := by
  cases q : F p with
  | none => rfl
  | some u => rw [h p u q] at n; cases n

/-! ### the tables that are met: their rows -/
def rowV (r : List Nat) : List V := r.map fun n => V.int (Int.ofNat n)
def rowU (r : List Nat) : U := .tup (r.map fun n => U.int (Int.ofNat n))
def RowsR (F : Hp) : List (List Nat) → List V → Prop
  | [], [] => True
  | r :: rs, v :: vs => (∃ a, v = .ref a ∧ F a = some (.tup (rowV r))) ∧ RowsR F rs vs
  | _, _ => False
def tabsL : List (List (List Nat)) := [
  [[0]],
  [[0, 1], [1, 0]],
  [[0, 1, 2], [1, 2, 0], [2, 0, 1]],
  [[0, 1, 2, 3], [1, 0, 3, 2], [2, 3, 0, 1], [3, 2, 1, 0]],
  [[0, 1, 2, 3], [1, 0, 3, 2], [2, 3, 1, 0], [3, 2, 0, 1]],
  [[0, 1, 2, 3], [1, 2, 3, 0], [2, 3, 0, 1], [3, 0, 1, 2]],
  [[0, 1, 2, 3], [1, 3, 0, 2], [2, 0, 3, 1], [3, 2, 1, 0]],
  [[0, 1, 2, 3, 4], [1, 2, 3, 4, 0], [2, 3, 4, 0, 1], [3, 4, 0, 1, 2], [4, 0, 1, 2, 3]],
  [[0, 1, 2, 3, 4, 5], [1, 0, 4, 5, 2, 3], [2, 3, 0, 1, 5, 4], [3, 2, 5, 4, 0, 1], [4, 5, 1, 0, 3, 2], [5, 4, 3, 2, 1, 0]],
  [[0, 1, 2, 3, 4, 5], [1, 2, 0, 4, 5, 3], [2, 0, 1, 5, 3, 4], [3, 4, 5, 0, 1, 2], [4, 5, 3, 1, 2, 0], [5, 3, 4, 2, 0, 1]],
  [[0, 1, 2, 3, 4, 5], [1, 2, 3, 4, 5, 0], [2, 3, 4, 5, 0, 1], [3, 4, 5, 0, 1, 2], [4, 5, 0, 1, 2, 3], [5, 0, 1, 2, 3, 4]],
  [[0, 1, 2, 3, 4, 5, 6], [1, 2, 3, 4, 5, 6, 0], [2, 3, 4, 5, 6, 0, 1], [3, 4, 5, 6, 0, 1, 2], [4, 5, 6, 0, 1, 2, 3], [5, 6, 0, 1, 2, 3, 4], [6, 0, 1, 2, 3, 4, 5]],
  [[0, 1, 2, 3, 4, 5, 6, 7], [1, 0, 3, 2, 6, 7, 4, 5], [2, 3, 0, 1, 5, 4, 7, 6], [3, 2, 1, 0, 7, 6, 5, 4], [4, 5, 6, 7, 0, 1, 2, 3], [5, 4, 7, 6, 2, 3, 0, 1], [6, 7, 4, 5, 1, 0, 3, 2], [7, 6, 5, 4, 3, 2, 1, 0]],
  [[0, 1, 2, 3, 4, 5, 6, 7], [1, 0, 4, 5, 2, 3, 7, 6], [2, 3, 0, 1, 6, 7, 4, 5], [3, 2, 6, 7, 0, 1, 5, 4], [4, 5, 1, 0, 7, 6, 2, 3], [5, 4, 7, 6, 1, 0, 3, 2], [6, 7, 3, 2, 5, 4, 0, 1], [7, 6, 5, 4, 3, 2, 1, 0]],
  [[0, 1, 2, 3, 4, 5, 6, 7], [1, 0, 6, 7, 5, 4, 2, 3], [2, 3, 0, 1, 6, 7, 4, 5], [3, 2, 4, 5, 7, 6, 0, 1], [4, 5, 3, 2, 0, 1, 7, 6], [5, 4, 7, 6, 1, 0, 3, 2], [6, 7, 1, 0, 2, 3, 5, 4], [7, 6, 5, 4, 3, 2, 1, 0]],
  [[0, 1, 2, 3, 4, 5, 6, 7], [1, 2, 3, 0, 5, 6, 7, 4], [2, 3, 0, 1, 6, 7, 4, 5], [3, 0, 1, 2, 7, 4, 5, 6], [4, 5, 6, 7, 0, 1, 2, 3], [5, 6, 7, 4, 1, 2, 3, 0], [6, 7, 4, 5, 2, 3, 0, 1], [7, 4, 5, 6, 3, 0, 1, 2]],
  [[0, 1, 2, 3, 4, 5, 6, 7, 8, 9, 10, 11], [1, 2, 0, 6, 8, 7, 9, 11, 10, 3, 4, 5], [2, 0, 1, 9, 10, 11, 3, 5, 4, 6, 8, 7], [3, 5, 4, 0, 2, 1, 10, 9, 11, 7, 6, 8], [4, 3, 5, 7, 6, 8, 0, 1, 2, 10, 11, 9], [5, 4, 3, 10, 11, 9, 7, 8, 6, 0, 2, 1], [6, 7, 8, 1, 0, 2, 4, 3, 5, 11, 9, 10], [7, 8, 6, 4, 5, 3, 11, 10, 9, 1, 0, 2], [8, 6, 7, 11, 9, 10, 1, 2, 0, 4, 5, 3], [9, 11, 10, 2, 1, 0, 8, 6, 7, 5, 3, 4], [10, 9, 11, 5, 3, 4, 2, 0, 1, 8, 7, 6], [11, 10, 9, 8, 7, 6, 5, 4, 3, 2, 1, 0]],
  [[0, 1, 2, 3, 4, 5, 6, 7, 8, 9, 10, 11, 12, 13, 14, 15, 16, 17, 18, 19, 20, 21, 22, 23], [1, 0, 4, 5, 2, 3, 7, 6, 10, 11, 8, 9, 18, 19, 20, 21, 22, 23, 12, 13, 14, 15, 16, 17], [2, 3, 0, 1, 5, 4, 12, 13, 14, 15, 16, 17, 6, 7, 8, 9, 10, 11, 19, 18, 22, 23, 20, 21], [3, 2, 5, 4, 0, 1, 13, 12, 16, 17, 14, 15, 19, 18, 22, 23, 20, 21, 6, 7, 8, 9, 10, 11], [4, 5, 1, 0, 3, 2, 18, 19, 20, 21, 22, 23, 7, 6, 10, 11, 8, 9, 13, 12, 16, 17, 14, 15], [5, 4, 3, 2, 1, 0, 19, 18, 22, 23, 20, 21, 13, 12, 16, 17, 14, 15, 7, 6, 10, 11, 8, 9], [6, 7, 8, 9, 10, 11, 0, 1, 2, 3, 4, 5, 14, 15, 12, 13, 17, 16, 20, 21, 18, 19, 23, 22], [7, 6, 10, 11, 8, 9, 1, 0, 4, 5, 2, 3, 20, 21, 18, 19, 23, 22, 14, 15, 12, 13, 17, 16], [8, 9, 6, 7, 11, 10, 14, 15, 12, 13, 17, 16, 0, 1, 2, 3, 4, 5, 21, 20, 23, 22, 18, 19], [9, 8, 11, 10, 6, 7, 15, 14, 17, 16, 12, 13, 21, 20, 23, 22, 18, 19, 0, 1, 2, 3, 4, 5], [10, 11, 7, 6, 9, 8, 20, 21, 18, 19, 23, 22, 1, 0, 4, 5, 2, 3, 15, 14, 17, 16, 12, 13], [11, 10, 9, 8, 7, 6, 21, 20, 23, 22, 18, 19, 15, 14, 17, 16, 12, 13, 1, 0, 4, 5, 2, 3], [12, 13, 14, 15, 16, 17, 2, 3, 0, 1, 5, 4, 8, 9, 6, 7, 11, 10, 22, 23, 19, 18, 21, 20], [13, 12, 16, 17, 14, 15, 3, 2, 5, 4, 0, 1, 22, 23, 19, 18, 21, 20, 8, 9, 6, 7, 11, 10], [14, 15, 12, 13, 17, 16, 8, 9, 6, 7, 11, 10, 2, 3, 0, 1, 5, 4, 23, 22, 21, 20, 19, 18], [15, 14, 17, 16, 12, 13, 9, 8, 11, 10, 6, 7, 23, 22, 21, 20, 19, 18, 2, 3, 0, 1, 5, 4], [16, 17, 13, 12, 15, 14, 22, 23, 19, 18, 21, 20, 3, 2, 5, 4, 0, 1, 9, 8, 11, 10, 6, 7], [17, 16, 15, 14, 13, 12, 23, 22, 21, 20, 19, 18, 9, 8, 11, 10, 6, 7, 3, 2, 5, 4, 0, 1], [18, 19, 20, 21, 22, 23, 4, 5, 1, 0, 3, 2, 10, 11, 7, 6, 9, 8, 16, 17, 13, 12, 15, 14], [19, 18, 22, 23, 20, 21, 5, 4, 3, 2, 1, 0, 16, 17, 13, 12, 15, 14, 10, 11, 7, 6, 9, 8], [20, 21, 18, 19, 23, 22, 10, 11, 7, 6, 9, 8, 4, 5, 1, 0, 3, 2, 17, 16, 15, 14, 13, 12], [21, 20, 23, 22, 18, 19, 11, 10, 9, 8, 7, 6, 17, 16, 15, 14, 13, 12, 4, 5, 1, 0, 3, 2], [22, 23, 19, 18, 21, 20, 16, 17, 13, 12, 15, 14, 5, 4, 3, 2, 1, 0, 11, 10, 9, 8, 7, 6], [23, 22, 21, 20, 19, 18, 17, 16, 15, 14, 13, 12, 11, 10, 9, 8, 7, 6, 5, 4, 3, 2, 1, 0]]]
/-- the n-th item, for the kernel -/
def nth {α : Type} (xs : List α) : Nat → Option α :=
  List.rec (motive := fun _ => Nat → Option α) (fun _ => none) (fun x _ ih n => Nat.rec (motive := fun _ => Option α) (some x) (fun m _ => ih m) n) xs
theorem nth_eq {α : Type} : ∀ (xs : List α) (n : Nat), nth xs n = xs[n]?
  | [], _ => by simp [nth]
  | x :: xs, 0 => by
    show some x = _
    simp
  | x :: xs, n + 1 => by
    have := nth_eq xs n
    show nth xs n = _
    rw [this]; simp
def tabs (i : Nat) : List (List Nat) := Option.rec [] id (nth tabsL i)

mutual
/-- u is seen at v, in the frozen part F -/
def Rp (cl : Cl) (F : Hp) : U → V → Prop
  | .non, v => v = .non
  | .bl b, v => v = .bl b
  | .int i, v => v = .int i
  | .tup us, v => ∃ a vs, v = .ref a ∧ F a = some (.tup vs) ∧ RpL cl F us vs
  | .lst us, v => ∃ a vs, v = .ref a ∧ F a = some (.lst vs) ∧ RpL cl F us vs
  | .ins c us, v => ∃ a dx fs, v = .ref a ∧ F a = some (.ins (cl.k c) dx fs) ∧ fs.map (·.1) = fnames c ∧ RpL cl F us (fs.map (·.2))
  | .tbl i, v => ∃ a vs, v = .ref a ∧ F a = some (.tup vs) ∧ RowsR F (tabs i) vs
  | _, _ => False
def RpL (cl : Cl) (F : Hp) : List U → List V → Prop
  | [], [] => True
  | u :: us, v :: vs => Rp cl F u v ∧ RpL cl F us vs
  | _, _ => False
end
/-- .. also the lists, dicts, instances that a slot alone holds -/
def Rv (cl : Cl) (F H : Hp) : U → V → Prop
  | .ol us, v => ∃ a vs, v = .ref a ∧ H a = some (.lst vs) ∧ RpL cl F us vs
  | .dk ks us, v => ∃ a kvs, v = .ref a ∧ H a = some (.dK kvs) ∧ kvs.map (·.1) = ks.map Sum.inl ∧ RpL cl F us (kvs.map (·.2))
  | .dt ks us, v => ∃ a kvs, v = .ref a ∧ H a = some (.dT kvs) ∧ kvs.map (·.1) = ks.map (·.map Sum.inl) ∧ RpL cl F us (kvs.map (·.2))
  | .oi c us, v => ∃ fs, v = .ref cl.se ∧ H cl.se = some (.ins (cl.k c) cl.sd fs) ∧ fs.map (·.1) = (fnames c).take us.length ∧ RpL cl F us (fs.map (·.2))
  | u, v => Rp cl F u v
def RvL (cl : Cl) (F H : Hp) : List U → List V → Prop
  | [], [] => True
  | u :: us, v :: vs => Rv cl F H u v ∧ RvL cl F H us vs
  | _, _ => False

section
variable {cl : Cl} {F H F' H' F0 H0 : Hp}
theorem RowsR.mono (h : Sb F F') : ∀ {rs : List (List Nat)} {vs : List V}, RowsR F rs vs → RowsR F' rs vs
  | [], [], _ => trivial
  | _ :: _, _ :: _, ⟨⟨a, e, f⟩, t⟩ => ⟨⟨a, e, h _ _ f⟩, RowsR.mono h t⟩
  | [], _ :: _, z => z.elim
  | _ :: _, [], z => z.elim
mutual
theorem Rp.mono (h : Sb F F') : ∀ {u : U} {v : V}, Rp cl F u v → Rp cl F' u v
  | .non, _, e => by simp only [Rp] at e ⊢; exact e
  | .bl _, _, e => by simp only [Rp] at e ⊢; exact e
  | .int _, _, e => by simp only [Rp] at e ⊢; exact e
  | .tup _, _, e => by
    simp only [Rp] at e ⊢
    obtain ⟨a, vs, e1, e2, e3⟩ := e
    exact ⟨a, vs, e1, h _ _ e2, RpL.mono h e3⟩
  | .lst _, _, e => by
    simp only [Rp] at e ⊢
    obtain ⟨a, vs, e1, e2, e3⟩ := e
    exact ⟨a, vs, e1, h _ _ e2, RpL.mono h e3⟩
  | .ins _ _, _, e => by
    simp only [Rp] at e ⊢
    obtain ⟨a, dx, fs, e1, e2, e3, e4⟩ := e
    exact ⟨a, dx, fs, e1, h _ _ e2, e3, RpL.mono h e4⟩
  | .tbl _, _, e => by
    simp only [Rp] at e ⊢
    obtain ⟨a, vs, e1, e2, e3⟩ := e
    exact ⟨a, vs, e1, h _ _ e2, RowsR.mono h e3⟩
  | .no, _, e => by simp only [Rp] at e
  | .ol _, _, e => by simp only [Rp] at e
  | .dk _ _, _, e => by simp only [Rp] at e
  | .dt _ _, _, e => by simp only [Rp] at e
  | .oi _ _, _, e => by simp only [Rp] at e
theorem RpL.mono (h : Sb F F') : ∀ {us : List U} {vs : List V}, RpL cl F us vs → RpL cl F' us vs
  | [], [], _ => by simp only [RpL]
  | _ :: _, _ :: _, e => by
    simp only [RpL] at e ⊢
    exact ⟨Rp.mono h e.1, RpL.mono h e.2⟩
  | [], _ :: _, z => by simp only [RpL] at z
  | _ :: _, [], z => by simp only [RpL] at z
end
theorem Rv.step (st : Stp F H F' H') : ∀ {u : U} {v : V}, Rv cl F H u v → Rv cl F' H' u v
  | .non, _, e => Rp.mono st.ff e
  | .bl _, _, e => Rp.mono st.ff e
  | .int _, _, e => Rp.mono st.ff e
  | .tup _, _, e => Rp.mono st.ff (u := .tup _) e
  | .lst _, _, e => Rp.mono st.ff (u := .lst _) e
  | .ins _ _, _, e => Rp.mono st.ff (u := .ins _ _) e
  | .tbl i, v, e => Rp.mono (cl := cl) st.ff (u := .tbl i) (v := v) e
  | .no, v, e => Rp.mono (cl := cl) st.ff (u := .no) (v := v) e
  | .ol _, _, ⟨a, vs, e1, e2, e3⟩ => ⟨a, vs, e1, st.hh _ _ e2, e3.mono st.ff⟩
  | .dk _ _, _, ⟨a, vs, e1, e2, e3, e4⟩ => ⟨a, vs, e1, st.hh _ _ e2, e3, e4.mono st.ff⟩
  | .dt _ _, _, ⟨a, vs, e1, e2, e3, e4⟩ => ⟨a, vs, e1, st.hh _ _ e2, e3, e4.mono st.ff⟩
  | .oi _ _, _, ⟨vs, e1, e2, e3, e4⟩ => ⟨vs, e1, st.hh _ _ e2, e3, e4.mono st.ff⟩
theorem RvL.step (st : Stp F H F' H') : ∀ {us : List U} {vs : List V}, RvL cl F H us vs → RvL cl F' H' us vs
  | [], [], _ => trivial
  | _ :: _, _ :: _, ⟨a, b⟩ => ⟨a.step st, RvL.step st b⟩
  | [], _ :: _, z => z.elim
  | _ :: _, [], z => z.elim
theorem Rv.of : ∀ {u : U} {v : V}, Rp cl F u v → Rv cl F H u v
  | .non, _, e => e
  | .bl _, _, e => e
  | .int _, _, e => e
  | .tup _, _, e => e
  | .lst _, _, e => e
  | .ins _ _, _, e => e
  | .tbl _, _, e => e
  | .no, _, e => e
  | .ol _, _, e => by simp only [Rp] at e
  | .dk _ _, _, e => by simp only [Rp] at e
  | .dt _ _, _, e => by simp only [Rp] at e
  | .oi _ _, _, e => by simp only [Rp] at e
theorem Rv.rp : ∀ {u : U} {v : V}, u.own = false → Rv cl F H u v → Rp cl F u v
  | .non, _, _, e => e
  | .bl _, _, _, e => e
  | .int _, _, _, e => e
  | .tup _, _, _, e => e
  | .lst _, _, _, e => e
  | .ins _ _, _, _, e => e
  | .tbl _, _, _, e => e
  | .no, _, n, _ => nomatch n
  | .ol _, _, n, _ => nomatch n
  | .dk _ _, _, n, _ => nomatch n
  | .dt _ _, _, n, _ => nomatch n
  | .oi _ _, _, n, _ => nomatch n
theorem RpL.len : ∀ {us : List U} {vs : List V}, RpL cl F us vs → us.length = vs.length
  | [], [], _ => rfl
  | _ :: _, _ :: _, e => by simp only [RpL] at e; simp [RpL.len e.2]
  | [], _ :: _, z => by simp only [RpL] at z
  | _ :: _, [], z => by simp only [RpL] at z
theorem RpL.get : ∀ {us : List U} {vs : List V} {i : Nat} {u : U}, RpL cl F us vs → us[i]? = some u → ∃ v, vs[i]? = some v ∧ Rp cl F u v
  | [], [], _, _, _, h => by simp at h
  | u :: us, v :: vs, 0, w, e, h => by
    simp only [RpL] at e
    simp at h; subst h
    exact ⟨v, by simp, e.1⟩
  | u :: us, v :: vs, i + 1, w, e, h => by
    simp only [RpL] at e
    obtain ⟨x, h1, h2⟩ := RpL.get (i := i) (u := w) e.2 (by simpa using h)
    exact ⟨x, by simpa using h1, h2⟩
  | [], _ :: _, _, _, z, _ => by simp only [RpL] at z
  | _ :: _, [], _, _, z, _ => by simp only [RpL] at z
theorem RpL.app : ∀ {us ws : List U} {vs xs : List V}, RpL cl F us vs → RpL cl F ws xs → RpL cl F (us ++ ws) (vs ++ xs)
  | [], _, [], _, _, b => b
  | _ :: _, _, _ :: _, _, a, b => by
    simp only [RpL] at a
    show RpL cl F (_ :: (_ ++ _)) (_ :: (_ ++ _))
    simp only [RpL]
    exact ⟨a.1, RpL.app a.2 b⟩
  | [], _, _ :: _, _, z, _ => by simp only [RpL] at z
  | _ :: _, _, [], _, z, _ => by simp only [RpL] at z
theorem RpL.one {u : U} {v : V} (h : Rp cl F u v) : RpL cl F [u] [v] := by simp only [RpL]; exact ⟨h, trivial⟩
theorem RpL.take : ∀ (n : Nat) {us : List U} {vs : List V}, RpL cl F us vs → RpL cl F (us.take n) (vs.take n)
  | 0, _, _, _ => by simp only [List.take_zero, RpL]
  | n + 1, [], [], _ => by simp only [List.take_nil, RpL]
  | n + 1, _ :: _, _ :: _, e => by
    simp only [RpL] at e
    simp only [List.take_succ_cons, RpL]
    exact ⟨e.1, RpL.take n e.2⟩
  | _ + 1, [], _ :: _, z => by simp only [RpL] at z
  | _ + 1, _ :: _, [], z => by simp only [RpL] at z
theorem RpL.drop : ∀ (n : Nat) {us : List U} {vs : List V}, RpL cl F us vs → RpL cl F (us.drop n) (vs.drop n)
  | 0, _, _, h => by simpa using h
  | n + 1, [], [], _ => by simp only [List.drop_nil, RpL]
  | n + 1, _ :: _, _ :: _, e => by
    simp only [RpL] at e
    simp only [List.drop_succ_cons]
    exact RpL.drop n e.2
  | _ + 1, [], _ :: _, z => by simp only [RpL] at z
  | _ + 1, _ :: _, [], z => by simp only [RpL] at z
theorem RpL.set : ∀ (n : Nat) {us : List U} {vs : List V} {u : U} {v : V}, RpL cl F us vs → Rp cl F u v → RpL cl F (us.set n u) (vs.set n v)
  | _, [], [], _, _, _, _ => by simp only [List.set_nil, RpL]
  | 0, _ :: _, _ :: _, _, _, e, h => by
    simp only [RpL] at e
    simp only [List.set_cons_zero, RpL]
    exact ⟨h, e.2⟩
  | n + 1, _ :: _, _ :: _, _, _, e, h => by
    simp only [RpL] at e
    simp only [List.set_cons_succ, RpL]
    exact ⟨e.1, RpL.set n e.2 h⟩
  | _, [], _ :: _, _, _, z, _ => by simp only [RpL] at z
  | _, _ :: _, [], _, _, z, _ => by simp only [RpL] at z
theorem RvL.len : ∀ {us : List U} {vs : List V}, RvL cl F H us vs → us.length = vs.length
  | [], [], _ => rfl
  | _ :: _, _ :: _, e => by simp [RvL.len e.2]
  | [], _ :: _, z => z.elim
  | _ :: _, [], z => z.elim
theorem RvL.rp : ∀ {us : List U} {vs : List V}, us.all (fun u => !u.own) = true → RvL cl F H us vs → RpL cl F us vs
  | [], [], _, _ => by simp only [RpL]
  | u :: us, v :: vs, a, e => by
    simp only [List.all_cons, Bool.and_eq_true, Bool.not_eq_true'] at a
    simp only [RpL]
    exact ⟨e.1.rp a.1, RvL.rp (by simpa using a.2) e.2⟩
  | [], _ :: _, _, z => z.elim
  | _ :: _, [], _, z => z.elim
mutual
theorem Rp.cong {cl cl' : Cl} (hk : cl.k = cl'.k) : ∀ {u : U} {v : V}, Rp cl F u v → Rp cl' F u v
  | .non, _, e => by simp only [Rp] at e ⊢; exact e
  | .bl _, _, e => by simp only [Rp] at e ⊢; exact e
  | .int _, _, e => by simp only [Rp] at e ⊢; exact e
  | .tup _, _, e => by
    simp only [Rp] at e ⊢
    obtain ⟨a, vs, e1, e2, e3⟩ := e
    exact ⟨a, vs, e1, e2, RpL.cong hk e3⟩
  | .lst _, _, e => by
    simp only [Rp] at e ⊢
    obtain ⟨a, vs, e1, e2, e3⟩ := e
    exact ⟨a, vs, e1, e2, RpL.cong hk e3⟩
  | .ins _ _, _, e => by
    simp only [Rp] at e ⊢
    obtain ⟨a, dx, fs, e1, e2, e3, e4⟩ := e
    exact ⟨a, dx, fs, e1, by rw [← hk]; exact e2, e3, RpL.cong hk e4⟩
  | .tbl _, _, e => by simp only [Rp] at e ⊢; exact e
  | .no, _, e => by simp only [Rp] at e
  | .ol _, _, e => by simp only [Rp] at e
  | .dk _ _, _, e => by simp only [Rp] at e
  | .dt _ _, _, e => by simp only [Rp] at e
  | .oi _ _, _, e => by simp only [Rp] at e
theorem RpL.cong {cl cl' : Cl} (hk : cl.k = cl'.k) : ∀ {us : List U} {vs : List V}, RpL cl F us vs → RpL cl' F us vs
  | [], [], _ => by simp only [RpL]
  | _ :: _, _ :: _, e => by
    simp only [RpL] at e ⊢
    exact ⟨Rp.cong hk e.1, RpL.cong hk e.2⟩
  | [], _ :: _, z => by simp only [RpL] at z
  | _ :: _, [], z => by simp only [RpL] at z
end
/-- a table's rows -/
def tabU (i : Nat) : List U := (tabs i).map rowU
theorem ints_rp : ∀ (r : List Nat), RpL cl F (r.map fun n => U.int (Int.ofNat n)) (rowV r)
  | [] => by simp only [List.map_nil, rowV, RpL]
  | n :: r => by
    simp only [List.map_cons, rowV, RpL, Rp]
    exact ⟨trivial, ints_rp r⟩
theorem rows_rp : ∀ {rs : List (List Nat)} {vs : List V}, RowsR F rs vs → RpL cl F (rs.map rowU) vs
  | [], [], _ => by simp only [List.map_nil, RpL]
  | r :: rs, v :: vs, ⟨⟨a, e, f⟩, t⟩ => by
    simp only [List.map_cons, RpL]
    refine ⟨?_, rows_rp t⟩
    unfold rowU
    simp only [Rp]
    exact ⟨a, _, e, f, ints_rp r⟩
  | [], _ :: _, z => z.elim
  | _ :: _, [], z => z.elim
end
end Ct
end
end
section
set_option Elab.async false
set_option linter.all false
set_option maxRecDepth 100000
set_option maxHeartbeats 4000000
noncomputable section
namespace Ct
open PySem PySem.Spec PyProof.Rows L2
abbrev Sig := L2.St

/-! ### readings by mirrors -/
/-- bind, for the kernel -/
def ob {α β : Type} (o : Option α) (k : α → Option β) : Option β := Option.rec (motive := fun _ => Option β) none k o
theorem ob_some {α β : Type} {o : Option α} {k : α → Option β} {r : β} (h : ob o k = some r) : ∃ a, o = some a ∧ k a = some r := by
  cases o with
  | none => cases h
  | some a => exact ⟨a, rfl, h⟩
/-- what the slots hold, for an expression -/
structure ER (cl : Cl) (F H : Hp) (env : List U) (σ : Sig) : Prop where
  sb : Sb F H
  len : env.length = σ.length
  slot : ∀ (i : Nat) u, env[i]? = some u → u = .no ∨ ∃ v, σ[i]? = some (some v) ∧ Rv cl F H u v
theorem ER.step {cl : Cl} {F H F' H' : Hp} {env : List U} {σ : Sig} (e : ER cl F H env σ) (s : Stp F H F' H') : ER cl F' H' env σ :=
  ⟨s.fh, e.len, fun i u h => (e.slot i u h).imp id fun ⟨v, h1, h2⟩ => ⟨v, h1, h2.step s⟩⟩

def tM (cl : Cl) (m : M) : TE := fun σ H Q => ∃ F env u, ER cl F H env σ ∧ m env = some u ∧ ∀ F' H' v, Stp F H F' H' → Rv cl F' H' u v → Q v H'
def tA (cl : Cl) (m : MA) : TA := fun σ H Q => ∃ F env us, ER cl F H env σ ∧ m env = some us ∧ ∀ F' H' vs, Stp F H F' H' → RvL cl F' H' us vs → Q vs H'
def tT (cl : Cl) (m : List U → Option Bool) : TT := fun σ H Q => ∃ F env b, ER cl F H env σ ∧ m env = some b ∧ ∀ F' H', Stp F H F' H' → Q b H'
/-- a new list (not yet frozen) -/
def tL (cl : Cl) (m : MA) : TE := fun σ H Q => ∃ F env us, ER cl F H env σ ∧ m env = some us ∧
  ∀ F' H' p vs, Stp F H F' H' → H p = none → F' p = none → H' p = some (.lst vs) → RpL cl F' us vs → Q (.ref p) H'

section
variable {cl : Cl} {F H F' H' : Hp} {env : List U} {σ : Sig} {X : Cx}
theorem _root_.L2.PE.wk {e : Expr} {t t' : TE} (h : PE X e t) (w : ∀ σ H Q, t' σ H Q → t σ H Q) : PE X e t' := ⟨fun pins s σ H Q I q => h.run pins s σ H Q I (w σ H Q q)⟩
theorem _root_.L2.PT.wk {e : Expr} {t t' : TT} (h : PT X e t) (w : ∀ σ H Q, t' σ H Q → t σ H Q) : PT X e t' := ⟨fun pins s σ H Q I q => h.run pins s σ H Q I (w σ H Q q)⟩
theorem _root_.L2.PW.wk {e : Expr} {t t' : TT} (h : PW X e t) (w : ∀ σ H Q, t' σ H Q → t σ H Q) : PW X e t' := ⟨fun wh pins s σ H Q I q => h.run wh pins s σ H Q I (w σ H Q q)⟩
theorem _root_.L2.PA.wk {e : List Expr} {t t' : TA} (h : PA X e t) (w : ∀ σ H Q, t' σ H Q → t σ H Q) : PA X e t' := ⟨fun pos pins s σ H Q I q => h.run pos pins s σ H Q I (w σ H Q q)⟩
theorem _root_.L2.PS.wk {e : Stmt} {t t' : TS} (h : PS X e t) (w : ∀ D σ H, t' D σ H → t D σ H) : PS X e t' := ⟨fun pins s σ H D I q => h.run pins s σ H D I (w D σ H q)⟩
theorem _root_.L2.PSs.wk {e : List Stmt} {t t' : TS} (h : PSs X e t) (w : ∀ D σ H, t' D σ H → t D σ H) : PSs X e t' := ⟨fun pins s σ H D I q => h.run pins s σ H D I (w D σ H q)⟩

/-! names, constants -/
def asg (u : U) : Option U := U.casesOn (motive_1 := fun _ => Option U) u none (some u) (fun _ => some u) (fun _ => some u) (fun _ => some u) (fun _ => some u) (fun _ _ => some u) (fun _ => some u) (fun _ => some u) (fun _ _ => some u) (fun _ _ => some u) (fun _ _ => some u)
theorem asg_some {u w : U} (h : asg u = some w) : u = w ∧ u ≠ .no := by
  cases u <;> first | exact ⟨Option.some.inj h, fun q => nomatch q⟩ | exact nomatch (show (none : Option U) = some w from h)
def eV (i : Nat) : M := fun env => ob (nth env i) asg
theorem j_var {i : Nat} {x : Str} {pos : Pos} (h : PE X (.Name x pos) (tVar i)) : PE X (.Name x pos) (tM cl (eV i)) := by
  refine h.wk fun σ H Q ⟨F, env, u, er, e, k⟩ => ?_
  obtain ⟨w, e1, e2⟩ := ob_some e
  rw [nth_eq] at e1
  obtain ⟨rfl, hn⟩ := asg_some e2
  rcases er.slot i w e1 with hw | ⟨v, h1, h2⟩
  · exact absurd hw hn
  · exact ⟨v, h1, k F H v (Stp.refl er.sb) h2⟩
def eC (u : U) : M := fun _ => some u
theorem j_c {e : Expr} {v : V} (u : U) (h : PE X e (tC v)) (r : ∀ F, Rp cl F u v) : PE X e (tM cl (eC u)) := by
  refine h.wk fun σ H Q ⟨F, env, u', er, e, k⟩ => ?_
  cases e
  exact k F H v (Stp.refl er.sb) (Rv.of (r F))
theorem j_int {i : Int} {j pos} : PE X (.Constant (.int i) j pos) (tM cl (eC (.int i))) := j_c _ pe_int fun _ => by simp only [Rp]
theorem j_bl {b : Bool} {j pos} : PE X (.Constant (.bool b) j pos) (tM cl (eC (.bl b))) := j_c _ pe_bl fun _ => by simp only [Rp]
theorem j_non {j pos} : PE X (.Constant .none j pos) (tM cl (eC .non)) := j_c _ pe_non fun _ => by simp only [Rp]

/-! two expressions, one after another -/
theorem two {a b : M} {ua ub : U} {R : V → V → Hp → Prop} (er : ER cl F H env σ) (ea : a env = some ua) (eb : b env = some ub)
    (k : ∀ F' H' x y, Stp F H F' H' → Rv cl F' H' ua x → Rv cl F' H' ub y → R x y H') : tM cl a σ H fun x H1 => tM cl b σ H1 fun y H2 => R x y H2 :=
  ⟨F, env, ua, er, ea, fun F1 H1 x s1 r1 => ⟨F1, env, ub, er.step s1, eb, fun F2 H2 y s2 r2 => k F2 H2 x y (s1.trans s2) (r1.step s2) r2⟩⟩
/-- a one-place, a two-place operation by values -/
def OpM (cl : Cl) (f : U → U → Option U) (r : R2) : Prop := ∀ (F H : Hp) (ua ub u : U) (x y : V) (Q : VK), Sb F H → f ua ub = some u → Rv cl F H ua x → Rv cl F H ub y →
  (∀ F' H' z, Stp F H F' H' → Rv cl F' H' u z → Q z H') → r x y H Q
def UnM (cl : Cl) (f : U → Option U) (r : V → Hp → VK → Prop) : Prop := ∀ (F H : Hp) (ua u : U) (x : V) (Q : VK), Sb F H → f ua = some u → Rv cl F H ua x →
  (∀ F' H' z, Stp F H F' H' → Rv cl F' H' u z → Q z H') → r x H Q
def CaM (cl : Cl) (f : List U → Option U) (r : List V → Hp → VK → Prop) : Prop := ∀ (F H : Hp) (us : List U) (u : U) (xs : List V) (Q : VK), Sb F H → f us = some u → RvL cl F H us xs →
  (∀ F' H' z, Stp F H F' H' → Rv cl F' H' u z → Q z H') → r xs H Q
def e1 (f : U → Option U) (a : M) : M := fun env => ob (a env) f
def e2 (f : U → U → Option U) (a b : M) : M := fun env => ob (a env) fun x => ob (b env) fun y => f x y
theorem tOp_of {f : U → U → Option U} {r : R2} (hf : OpM cl f r) {a b : M} (σ : Sig) (H : Hp) (Q : VK) (h : tM cl (e2 f a b) σ H Q) : tOp r (tM cl a) (tM cl b) σ H Q := by
  obtain ⟨F, env, u, er, e, k⟩ := h
  obtain ⟨ua, ea, e⟩ := ob_some e
  obtain ⟨ub, eb, e⟩ := ob_some e
  exact two er ea eb fun F' H' x y s rx ry => hf F' H' ua ub u x y Q s.fh e rx ry fun F2 H2 z s2 rz => k F2 H2 z (s.trans s2) rz
theorem j_op {a b : Expr} {ma mb : M} {op : Operator} {pos : Pos} {f : U → U → Option U} {r : R2} (ho : OpR X (binaryOp op) r) (hf : OpM cl f r) (ha : PE X a (tM cl ma)) (hb : PE X b (tM cl mb)) :
    PE X (.BinOp a op b pos) (tM cl (e2 f ma mb)) := (pe_op ho ha hb).wk (tOp_of hf)
theorem j_cmp {a b : Expr} {ma mb : M} {op : CmpOp} {pos : Pos} {f : U → U → Option U} {r : R2} (ho : OpR X (compareOp op) r) (hf : OpM cl f r) (ha : PE X a (tM cl ma)) (hb : PE X b (tM cl mb)) (hm : behindInMarks op b = false) :
    PE X (.Compare a [op] [b] pos) (tM cl (e2 f ma mb)) := (pe_cmpR ho ha hb hm).wk (tOp_of hf)
def asB (u : U) : Option Bool := U.casesOn (motive_1 := fun _ => Option Bool) u none none (fun b => some b) (fun _ => none) (fun _ => none) (fun _ => none) (fun _ _ => none) (fun _ => none) (fun _ => none) (fun _ _ => none) (fun _ _ => none) (fun _ _ => none)
theorem asB_some {u : U} {b : Bool} (h : asB u = some b) : u = .bl b := by
  cases u <;> cases h
  rfl
def tB1 (m : M) : List U → Option Bool := fun env => ob (m env) asB
theorem tTest_of {m : M} {t : TE} (ht : ∀ σ H Q, tM cl m σ H Q → t σ H Q) (σ : Sig) (H : Hp) (Q : Bool → Hp → Prop) (h : tT cl (tB1 m) σ H Q) : tTest t σ H Q := by
  obtain ⟨F, env, b, er, e, k⟩ := h
  obtain ⟨u, eu, e⟩ := ob_some e
  cases asB_some e
  refine ht σ H _ ⟨F, env, _, er, eu, fun F' H' v s r => ?_⟩
  have hv : v = .bl b := by simpa only [Rv, Rp] using r
  exact ⟨b, hv, k F' H' s⟩
theorem jt_cmp {a b : Expr} {ma mb : M} {op : CmpOp} {pos : Pos} {f : U → U → Option U} {r : R2} (ho : OpR X (compareOp op) r) (hf : OpM cl f r) (ha : PE X a (tM cl ma)) (hb : PE X b (tM cl mb)) (hm : behindInMarks op b = false) :
    PT X (.Compare a [op] [b] pos) (tT cl (tB1 (e2 f ma mb))) := (pt_cmpR ho ha hb hm).wk (tTest_of (tOp_of hf))
theorem jt_val {e : Expr} {m : M} (h : PE X e (tM cl m)) (he : ∀ whole, isTrue e X.env whole = (do let v ← whole; standAt e.pos; holding [v] (truthy v)) := by intro _; rfl) : PT X e (tT cl (tB1 m)) :=
  (pt_val h he).wk fun σ H Q q => tTest_of (t := tM cl m) (fun _ _ _ z => z) σ H Q q
def tNt (m : List U → Option Bool) : List U → Option Bool := fun env => ob (m env) fun b => some (Bool.rec true false b)
theorem jt_not {a : Expr} {m : List U → Option Bool} {pos : Pos} (h : PT X a (tT cl m)) : PT X (.UnaryOp .Not a pos) (tT cl (tNt m)) :=
  (pt_not h).wk fun σ H Q ⟨F, env, b, er, e, k⟩ => by
    obtain ⟨c, ec, e⟩ := ob_some e
    refine ⟨F, env, c, er, ec, fun F' H' s => ?_⟩
    have hb : b = !c := by cases c <;> (cases e; rfl)
    show Q (!c) H'
    rw [← hb]
    exact k F' H' s
def tAn (m n : List U → Option Bool) : List U → Option Bool := fun env => ob (m env) fun b => Bool.rec (some false) (n env) b
def tOrr (m n : List U → Option Bool) : List U → Option Bool := fun env => ob (m env) fun b => Bool.rec (n env) (some true) b
theorem jw_and1 {a : Expr} {m : List U → Option Bool} {pos : Pos} (h : PT X a (tT cl m)) : PW X (.BoolOp .And [a] pos) (tT cl m) := pw_and1 h
theorem jw_or1 {a : Expr} {m : List U → Option Bool} {pos : Pos} (h : PT X a (tT cl m)) : PW X (.BoolOp .Or [a] pos) (tT cl m) := pw_or1 h
theorem jw_and {a b : Expr} {rest : List Expr} {m n : List U → Option Bool} {pos : Pos} (h : PT X a (tT cl m)) (h' : PW X (.BoolOp .And (b :: rest) pos) (tT cl n)) : PW X (.BoolOp .And (a :: b :: rest) pos) (tT cl (tAn m n)) :=
  (pw_and h h').wk fun σ H Q ⟨F, env, b, er, e, k⟩ => by
    obtain ⟨c, ec, e⟩ := ob_some e
    refine ⟨F, env, c, er, ec, fun F' H' s => ?_⟩
    cases c with
    | true => exact ⟨F', env, b, er.step s, e, fun F2 H2 s2 => k F2 H2 (s.trans s2)⟩
    | false =>
      cases e
      exact k F' H' s
theorem jw_or {a b : Expr} {rest : List Expr} {m n : List U → Option Bool} {pos : Pos} (h : PT X a (tT cl m)) (h' : PW X (.BoolOp .Or (b :: rest) pos) (tT cl n)) : PW X (.BoolOp .Or (a :: b :: rest) pos) (tT cl (tOrr m n)) :=
  (pw_or h h').wk fun σ H Q ⟨F, env, b, er, e, k⟩ => by
    obtain ⟨c, ec, e⟩ := ob_some e
    refine ⟨F, env, c, er, ec, fun F' H' s => ?_⟩
    cases c with
    | false => exact ⟨F', env, b, er.step s, e, fun F2 H2 s2 => k F2 H2 (s.trans s2)⟩
    | true =>
      cases e
      exact k F' H' s
theorem jt_pw {a : Expr} {m : List U → Option Bool} (h : PW X a (tT cl m)) : PT X a (tT cl m) := h.pt
/-- the same as values -/
def eAn (m n : M) : M := fun env => ob (m env) fun u => ob (asB u) fun b => Bool.rec (some (.bl false)) (n env) b
def eOr (m n : M) : M := fun env => ob (m env) fun u => ob (asB u) fun b => Bool.rec (n env) (some (.bl true)) b
def eNot (m : M) : M := fun env => ob (m env) fun u => ob (asB u) fun b => some (.bl (Bool.rec true false b))
theorem j_and1 {a : Expr} {op} {m : M} {pos : Pos} (h : PE X a (tM cl m)) : PE X (.BoolOp op [a] pos) (tM cl m) := pe_one h
theorem j_and {a b : Expr} {rest : List Expr} {m n : M} {pos : Pos} (h : PE X a (tM cl m)) (h' : PE X (.BoolOp .And (b :: rest) pos) (tM cl n)) : PE X (.BoolOp .And (a :: b :: rest) pos) (tM cl (eAn m n)) :=
  (pe_and h h').wk fun σ H Q ⟨F, env, u, er, e, k⟩ => by
    obtain ⟨w, ew, e⟩ := ob_some e
    obtain ⟨c, ec, e⟩ := ob_some e
    cases asB_some ec
    refine ⟨F, env, _, er, ew, fun F' H' v s r => ?_⟩
    have hv : v = .bl c := by simpa only [Rv, Rp] using r
    refine ⟨c, hv, ?_⟩
    cases c with
    | true => exact ⟨F', env, u, er.step s, e, fun F2 H2 z s2 => k F2 H2 z (s.trans s2)⟩
    | false =>
      cases e
      exact k F' H' _ s (by simp only [Rv, Rp])
theorem j_or {a b : Expr} {rest : List Expr} {m n : M} {pos : Pos} (h : PE X a (tM cl m)) (h' : PE X (.BoolOp .Or (b :: rest) pos) (tM cl n)) : PE X (.BoolOp .Or (a :: b :: rest) pos) (tM cl (eOr m n)) :=
  (pe_or h h').wk fun σ H Q ⟨F, env, u, er, e, k⟩ => by
    obtain ⟨w, ew, e⟩ := ob_some e
    obtain ⟨c, ec, e⟩ := ob_some e
    cases asB_some ec
    refine ⟨F, env, _, er, ew, fun F' H' v s r => ?_⟩
    have hv : v = .bl c := by simpa only [Rv, Rp] using r
    refine ⟨c, hv, ?_⟩
    cases c with
    | false => exact ⟨F', env, u, er.step s, e, fun F2 H2 z s2 => k F2 H2 z (s.trans s2)⟩
    | true =>
      cases e
      exact k F' H' _ s (by simp only [Rv, Rp])
theorem j_not {a : Expr} {m : M} {pos : Pos} (h : PE X a (tM cl m)) : PE X (.UnaryOp .Not a pos) (tM cl (eNot m)) :=
  (pe_not h).wk fun σ H Q ⟨F, env, u, er, e, k⟩ => by
    obtain ⟨w, ew, e⟩ := ob_some e
    obtain ⟨c, ec, e⟩ := ob_some e
    cases asB_some ec
    refine ⟨F, env, _, er, ew, fun F' H' v s r => ?_⟩
    have hv : v = .bl c := by simpa only [Rv, Rp] using r
    refine ⟨c, hv, ?_⟩
    cases e
    refine k F' H' _ s ?_
    cases c <;> simp only [Rv, Rp, Bool.not_true, Bool.not_false]
def eIf (c : List U → Option Bool) (m n : M) : M := fun env => ob (c env) fun b => Bool.rec (n env) (m env) b
theorem j_if {c a b : Expr} {mc : List U → Option Bool} {ma mb : M} {pos : Pos} (hc : PT X c (tT cl mc)) (ha : PE X a (tM cl ma)) (hb : PE X b (tM cl mb)) : PE X (.IfExp c a b pos) (tM cl (eIf mc ma mb)) :=
  (pe_ifExp hc ha hb).wk fun σ H Q ⟨F, env, u, er, e, k⟩ => by
    obtain ⟨w, ew, e⟩ := ob_some e
    refine ⟨F, env, w, er, ew, fun F' H' s => ?_⟩
    cases w with
    | true => exact ⟨F', env, u, er.step s, e, fun F2 H2 z s2 => k F2 H2 z (s.trans s2)⟩
    | false => exact ⟨F', env, u, er.step s, e, fun F2 H2 z s2 => k F2 H2 z (s.trans s2)⟩
def eU (f : U → Option U) (m : M) : M := e1 f m
theorem j_un {a : Expr} {op : UnaryOp} {ma : M} {pos : Pos} {f : U → Option U} {r : V → Hp → VK → Prop} (ho : UnR X (unaryOp op) r) (hf : UnM cl f r) (ha : PE X a (tM cl ma)) : PE X (.UnaryOp op a pos) (tM cl (e1 f ma)) :=
  (pe_un ho ha).wk fun σ H Q ⟨F, env, u, er, e, k⟩ => by
    obtain ⟨w, ew, e⟩ := ob_some e
    exact ⟨F, env, w, er, ew, fun F' H' v s rv => hf F' H' w u v Q s.fh e rv fun F2 H2 z s2 rz => k F2 H2 z (s.trans s2) rz⟩

/-! arguments -/
def aN : MA := fun _ => some []
def aC (m : M) (ms : MA) : MA := fun env => ob (m env) fun u => ob (ms env) fun us => some (u :: us)
theorem ja_nil : PA X [] (tA cl aN) := pa_nil.wk fun σ H Q ⟨F, env, us, er, e, k⟩ => by
  cases e
  exact k F H [] (Stp.refl er.sb) trivial
theorem ja_cons {e : Expr} {es : List Expr} {m : M} {ms : MA} (h : PE X e (tM cl m)) (hs : PA X es (tA cl ms)) (hse : starEach (e :: es) X.env = (false, eval e X.env) :: starEach es X.env := by rfl) : PA X (e :: es) (tA cl (aC m ms)) :=
  (pa_cons h hs hse).wk fun σ H Q ⟨F, env, us, er, e, k⟩ => by
    obtain ⟨u, eu, e⟩ := ob_some e
    obtain ⟨ws, ews, e⟩ := ob_some e
    cases e
    exact ⟨F, env, u, er, eu, fun F1 H1 x s1 r1 => ⟨F1, env, ws, er.step s1, ews, fun F2 H2 xs s2 r2 => k F2 H2 (x :: xs) (s1.trans s2) ⟨r1.step s2, r2⟩⟩⟩
def eCa (f : List U → Option U) (ms : MA) : M := fun env => ob (ms env) f
theorem tCB_of {f : List U → Option U} {ms : MA} {r : List V → Hp → VK → Prop} (hf : CaM cl f r) (σ : Sig) (H : Hp) (Q : VK) (h : tM cl (eCa f ms) σ H Q) : tCB r (tA cl ms) σ H Q := by
  obtain ⟨F, env, u, er, e, k⟩ := h
  obtain ⟨us, eus, e⟩ := ob_some e
  exact ⟨F, env, us, er, eus, fun F' H' vs s rv => hf F' H' us u vs Q s.fh e rv fun F2 H2 z s2 rz => k F2 H2 z (s.trans s2) rz⟩
theorem j_callB {x : Str} {p pos : Pos} {e : Expr} {es : List Expr} {ms : MA} {id : String} {f : List U → Option U} {r : List V → Hp → VK → Prop} (hc : CallR X (.builtin id) r) (hf : CaM cl f r) (hg : Gl X x) (hm : X.mg x = none) (hv : bootBuiltins x = some (.builtin id))
    (ha : PA X (e :: es) (tA cl ms)) (hn : x ≠ "__name__" := by decide) (hdb : (x == ("__debug__" : Str)) = false := by decide) (he : starEach (e :: es) X.env = (false, eval e X.env) :: starEach es X.env := by rfl) (hpl : (backTo pos (starEach es X.env)).any (·.1) = false := by rfl) :
    PE X (.Call (.Name x p) (e :: es) [] pos) (tM cl (eCa f ms)) := (pe_callB hc hg hm hv ha hn hdb he hpl).wk (tCB_of hf)
theorem j_callTy {x : Str} {p pos : Pos} {e : Expr} {es : List Expr} {ms : MA} {T : String} {f : List U → Option U} {r : List V → Hp → VK → Prop} (hc : CallR X (.type T) r) (hf : CaM cl f r) (hg : Gl X x) (hm : X.mg x = none) (hv : bootBuiltins x = some (.type T))
    (ha : PA X (e :: es) (tA cl ms)) (hn : x ≠ "__name__" := by decide) (hdb : (x == ("__debug__" : Str)) = false := by decide) (he : starEach (e :: es) X.env = (false, eval e X.env) :: starEach es X.env := by rfl) (hpl : (backTo pos (starEach es X.env)).any (·.1) = false := by rfl) :
    PE X (.Call (.Name x p) (e :: es) [] pos) (tM cl (eCa f ms)) := (pe_callTy hc hg hm hv ha hn hdb he hpl).wk (tCB_of hf)
end
end Ct
end
end
section
set_option Elab.async false
set_option linter.all false
set_option maxRecDepth 100000
set_option maxHeartbeats 4000000
noncomputable section
namespace Ct
open PySem PySem.Spec PyProof.Rows L2

/-! ### lists for the kernel -/
def llen {α : Type} (xs : List α) : Nat := List.rec (motive := fun _ => Nat) 0 (fun _ _ n => Nat.succ n) xs
def lapp {α : Type} (xs ys : List α) : List α := List.rec (motive := fun _ => List α) ys (fun x _ r => x :: r) xs
def lset {α : Type} (xs : List α) (n : Nat) (v : α) : List α :=
  List.rec (motive := fun _ => Nat → List α) (fun _ => []) (fun x r ih n => Nat.rec (motive := fun _ => List α) (v :: r) (fun m _ => x :: ih m) n) xs n
def ltake {α : Type} (n : Nat) (xs : List α) : List α :=
  List.rec (motive := fun _ => Nat → List α) (fun _ => []) (fun x _ ih n => Nat.rec (motive := fun _ => List α) [] (fun m _ => x :: ih m) n) xs n
def ldrop {α : Type} (n : Nat) (xs : List α) : List α :=
  List.rec (motive := fun _ => Nat → List α) (fun _ => []) (fun x r ih n => Nat.rec (motive := fun _ => List α) (x :: r) (fun m _ => ih m) n) xs n
def lmap {α β : Type} (f : α → β) (xs : List α) : List β := List.rec (motive := fun _ => List β) [] (fun x _ r => f x :: r) xs
theorem llen_eq {α : Type} : ∀ xs : List α, llen xs = xs.length
  | [] => rfl
  | _ :: xs => congrArg Nat.succ (llen_eq xs)
theorem lapp_eq {α : Type} : ∀ xs ys : List α, lapp xs ys = xs ++ ys
  | [], _ => rfl
  | x :: xs, ys => congrArg (List.cons x) (lapp_eq xs ys)
theorem lset_eq {α : Type} : ∀ (xs : List α) (n : Nat) (v : α), lset xs n v = xs.set n v
  | [], _, _ => rfl
  | _ :: _, 0, _ => rfl
  | x :: xs, n + 1, v => congrArg (List.cons x) (lset_eq xs n v)
theorem ltake_eq {α : Type} : ∀ (n : Nat) (xs : List α), ltake n xs = xs.take n
  | 0, [] => rfl
  | _ + 1, [] => rfl
  | 0, _ :: _ => rfl
  | n + 1, x :: xs => congrArg (List.cons x) (ltake_eq n xs)
theorem ldrop_eq {α : Type} : ∀ (n : Nat) (xs : List α), ldrop n xs = xs.drop n
  | 0, [] => rfl
  | _ + 1, [] => rfl
  | 0, _ :: _ => rfl
  | n + 1, _ :: xs => ldrop_eq n xs
theorem lmap_eq {α β : Type} (f : α → β) : ∀ xs : List α, lmap f xs = xs.map f
  | [] => rfl
  | x :: xs => congrArg (List.cons (f x)) (lmap_eq f xs)
/-! ints for the kernel -/
def ilt (i j : Int) : Bool := Int.rec (motive := fun _ => Bool) (fun a => Int.rec (motive := fun _ => Bool) (fun b => Nat.ble (Nat.succ a) b) (fun _ => false) j) (fun a => Int.rec (motive := fun _ => Bool) (fun _ => true) (fun b => Nat.ble (Nat.succ b) a) j) i
def ieq (i j : Int) : Bool := Int.rec (motive := fun _ => Bool) (fun a => Int.rec (motive := fun _ => Bool) (fun b => Nat.beq a b) (fun _ => false) j) (fun a => Int.rec (motive := fun _ => Bool) (fun _ => false) (fun b => Nat.beq a b) j) i
def bnot (b : Bool) : Bool := Bool.rec true false b
theorem bnot_eq (b : Bool) : bnot b = !b := by cases b <;> rfl
theorem ilt_eq (i j : Int) : ilt i j = decide (i < j) := by
  cases i with
  | ofNat a =>
    cases j with
    | ofNat b =>
      show Nat.ble (Nat.succ a) b = _
      rw [Bool.eq_iff_iff, Nat.ble_eq, decide_eq_true_eq]
      exact ⟨fun h => by simp only [Int.ofNat_eq_natCast]; omega, fun h => by simp only [Int.ofNat_eq_natCast] at h; omega⟩
    | negSucc b =>
      show false = _
      exact (decide_eq_false (by simp only [Int.ofNat_eq_natCast]; omega)).symm
  | negSucc a =>
    cases j with
    | ofNat b =>
      show true = _
      exact (decide_eq_true (by simp only [Int.ofNat_eq_natCast]; omega)).symm
    | negSucc b =>
      show Nat.ble (Nat.succ b) a = _
      rw [Bool.eq_iff_iff, Nat.ble_eq, decide_eq_true_eq]
      constructor <;> intro h <;> omega
theorem ieq_eq (i j : Int) : ieq i j = decide (i = j) := by
  cases i with
  | ofNat a =>
    cases j with
    | ofNat b =>
      show Nat.beq a b = _
      rw [Bool.eq_iff_iff, Nat.beq_eq, decide_eq_true_eq]
      exact ⟨fun h => by rw [h], fun h => by injection h⟩
    | negSucc b => exact (decide_eq_false (fun h => nomatch h)).symm
  | negSucc a =>
    cases j with
    | ofNat b => exact (decide_eq_false (fun h => nomatch h)).symm
    | negSucc b =>
      show Nat.beq a b = _
      rw [Bool.eq_iff_iff, Nat.beq_eq, decide_eq_true_eq]
      exact ⟨fun h => by rw [h], fun h => by injection h⟩

/-! ### what a mirrored value is -/
abbrev uc {α : Type} (u : U) (d : Option α) (bl : Bool → Option α) (int : Int → Option α) (tup lst : List U → Option α) (ins : Nat → List U → Option α) (tbl : Nat → Option α) (ol : List U → Option α)
    (dk : List Int → List U → Option α) (dt : List (List Int) → List U → Option α) (oi : Nat → List U → Option α) : Option α :=
  U.casesOn (motive_1 := fun _ => Option α) u none d bl int tup lst ins tbl ol dk dt oi
def asI (u : U) : Option Int := U.casesOn (motive_1 := fun _ => Option Int) u none none (fun _ => none) (fun i => some i) (fun _ => none) (fun _ => none) (fun _ _ => none) (fun _ => none) (fun _ => none) (fun _ _ => none) (fun _ _ => none) (fun _ _ => none)
/-- a list or a tuple -/
def asS (u : U) : Option (List U) := U.casesOn (motive_1 := fun _ => Option (List U)) u none none (fun _ => none) (fun _ => none) (fun x => some x) (fun x => some x) (fun _ _ => none) (fun i => some (lmap rowU (tabs i))) (fun x => some x) (fun _ _ => none) (fun _ _ => none) (fun _ _ => none)
def asL (u : U) : Option (List U) := U.casesOn (motive_1 := fun _ => Option (List U)) u none none (fun _ => none) (fun _ => none) (fun _ => none) (fun x => some x) (fun _ _ => none) (fun _ => none) (fun x => some x) (fun _ _ => none) (fun _ _ => none) (fun _ _ => none)
def asT (u : U) : Option (List U) := U.casesOn (motive_1 := fun _ => Option (List U)) u none none (fun _ => none) (fun _ => none) (fun x => some x) (fun _ => none) (fun _ _ => none) (fun i => some (lmap rowU (tabs i))) (fun _ => none) (fun _ _ => none) (fun _ _ => none) (fun _ _ => none)
section
variable {cl : Cl} {F H F' H' : Hp} {env : List U} {σ : Sig} {X : Cx} {K : PySem.W.Frag}
theorem asI_rv {u : U} {i : Int} {v : V} (h : asI u = some i) (r : Rv cl F H u v) : v = .int i := by
  cases u <;> cases h
  simpa only [Rv, Rp] using r
theorem asL_rv {u : U} {us : List U} {v : V} (h : asL u = some us) (s : Sb F H) (r : Rv cl F H u v) : ∃ a vs, v = .ref a ∧ H a = some (.lst vs) ∧ RpL cl F us vs := by
  cases u <;> cases h
  · simp only [Rv, Rp] at r
    obtain ⟨a, vs, h1, h2, h3⟩ := r
    exact ⟨a, vs, h1, s _ _ h2, h3⟩
  · exact r
theorem asT_rv {u : U} {us : List U} {v : V} (h : asT u = some us) (s : Sb F H) (r : Rv cl F H u v) : ∃ a vs, v = .ref a ∧ F a = some (.tup vs) ∧ H a = some (.tup vs) ∧ RpL cl F us vs := by
  cases u <;> cases h
  · simp only [Rv, Rp] at r
    obtain ⟨a, vs, h1, h2, h3⟩ := r
    exact ⟨a, vs, h1, h2, s _ _ h2, h3⟩
  · simp only [Rv, Rp] at r
    obtain ⟨a, vs, h1, h2, h3⟩ := r
    rw [lmap_eq]
    exact ⟨a, vs, h1, h2, s _ _ h2, rows_rp h3⟩
theorem asS_rv {u : U} {us : List U} {v : V} (h : asS u = some us) (s : Sb F H) (r : Rv cl F H u v) : ∃ a vs, v = .ref a ∧ (H a = some (.lst vs) ∨ H a = some (.tup vs)) ∧ RpL cl F us vs := by
  cases u <;> cases h
  · simp only [Rv, Rp] at r
    obtain ⟨a, vs, h1, h2, h3⟩ := r
    exact ⟨a, vs, h1, .inr (s _ _ h2), h3⟩
  · simp only [Rv, Rp] at r
    obtain ⟨a, vs, h1, h2, h3⟩ := r
    exact ⟨a, vs, h1, .inl (s _ _ h2), h3⟩
  · simp only [Rv, Rp] at r
    obtain ⟨a, vs, h1, h2, h3⟩ := r
    rw [lmap_eq]
    exact ⟨a, vs, h1, .inr (s _ _ h2), rows_rp h3⟩
  · obtain ⟨a, vs, h1, h2, h3⟩ := r
    exact ⟨a, vs, h1, .inl h2, h3⟩
theorem rv_int (i : Int) : Rv cl F H (.int i) (.int i) := by simp only [Rv, Rp]
theorem rv_bl (b : Bool) : Rv cl F H (.bl b) (.bl b) := by simp only [Rv, Rp]
theorem rv_non : Rv cl F H .non .non := by simp only [Rv, Rp]

/-! ### ints -/
def fI (g : Int → Int → Int) (x y : U) : Option U := ob (asI x) fun i => ob (asI y) fun j => some (.int (g i j))
def fB (g : Int → Int → Bool) (x y : U) : Option U := ob (asI x) fun i => ob (asI y) fun j => some (.bl (g i j))
def fG (c : Int → Int → Bool) (g : Int → Int → Int) (x y : U) : Option U := ob (asI x) fun i => ob (asI y) fun j => Bool.rec none (some (.int (g i j))) (c i j)
theorem om_I {g : Int → Int → Int} : OpM cl (fI g) (rI0 fun i j => .int (g i j)) := fun F H ua ub u x y Q s e rx ry k => by
  obtain ⟨i, ei, e⟩ := ob_some e
  obtain ⟨j, ej, e⟩ := ob_some e
  cases e
  exact ⟨i, j, asI_rv ei rx, asI_rv ej ry, k F H _ (Stp.refl s) (rv_int _)⟩
theorem om_B {g g' : Int → Int → Bool} (h : ∀ i j, g' i j = g i j) : OpM cl (fB g') (rI0 fun i j => .bl (g i j)) := fun F H ua ub u x y Q s e rx ry k => by
  obtain ⟨i, ei, e⟩ := ob_some e
  obtain ⟨j, ej, e⟩ := ob_some e
  cases e
  exact ⟨i, j, asI_rv ei rx, asI_rv ej ry, by
    show Q (V.bl (g i j)) H
    rw [← h]
    exact k F H _ (Stp.refl s) (rv_bl _)⟩
theorem om_G {c : Int → Int → Bool} {C : Int → Int → Prop} {g g' : Int → Int → Int} (hc : ∀ i j, c i j = true → C i j) (h : ∀ i j, g' i j = g i j) : OpM cl (fG c g') (rI C fun i j => .int (g i j)) := fun F H ua ub u x y Q s e rx ry k => by
  obtain ⟨i, ei, e⟩ := ob_some e
  obtain ⟨j, ej, e⟩ := ob_some e
  cases hb : c i j with
  | false => rw [hb] at e; cases e
  | true =>
    rw [hb] at e
    cases e
    exact ⟨i, j, asI_rv ei rx, asI_rv ej ry, hc i j hb, by
      show Q (V.int (g i j)) H
      rw [← h]
      exact k F H _ (Stp.refl s) (rv_int _)⟩
def fAdd : U → U → Option U := fI Int.add
def fSub : U → U → Option U := fI Int.sub
theorem om_add : OpM cl fAdd (rI0 fun i j => .int (i + j)) := om_I
theorem om_sub : OpM cl fSub (rI0 fun i j => .int (i - j)) := om_I
def fMul : U → U → Option U := fG (fun i _ => Nat.ble (Int.natAbs i) 18446744073709551615) Int.mul
theorem om_mul : OpM cl fMul (rI CMul fun i j => .int (i * j)) := om_G (fun i j h => by
  have := Nat.le_of_ble_eq_true h
  exact .inl ⟨by omega, by omega⟩) fun _ _ => rfl
/-- a divisor above 0 -/
def dOk (j : Int) : Bool := Int.rec (motive := fun _ => Bool) (fun n => Bool.rec false (Nat.ble n 1073741823) (Nat.ble 1 n)) (fun _ => false) j
theorem dOk_ok {j : Int} (h : dOk j = true) : 0 < j ∧ j.natAbs < 1073741824 := by
  cases j with
  | ofNat n =>
    have h' : (Bool.rec false (Nat.ble n 1073741823) (Nat.ble 1 n) : Bool) = true := h
    cases hb : Nat.ble 1 n with
    | false => rw [hb] at h'; cases h'
    | true =>
      rw [hb] at h'
      have h1 := Nat.le_of_ble_eq_true hb
      have h2 : n ≤ 1073741823 := Nat.le_of_ble_eq_true h'
      simp only [Int.ofNat_eq_natCast]
      exact ⟨by omega, by omega⟩
  | negSucc n => cases h
def fDiv : U → U → Option U := fG (fun _ j => dOk j) Int.ediv
def fMod : U → U → Option U := fG (fun _ j => dOk j) Int.emod
theorem om_div : OpM cl fDiv (rI CDiv fun i j => .int (i / j)) := om_G (fun i j h => ⟨(dOk_ok h).1, by have := dOk_ok h; omega⟩) fun _ _ => rfl
theorem om_mod : OpM cl fMod (rI (fun _ j => 0 < j) fun i j => .int (i % j)) := om_G (fun i j h => (dOk_ok h).1) fun _ _ => rfl
def fLt : U → U → Option U := fB ilt
def fLe : U → U → Option U := fB fun i j => bnot (ilt j i)
def fGt : U → U → Option U := fB fun i j => ilt j i
def fGe : U → U → Option U := fB fun i j => bnot (ilt i j)
def fEq : U → U → Option U := fB ieq
def fNe : U → U → Option U := fB fun i j => bnot (ieq i j)
theorem om_lt : OpM cl fLt (rI0 fun i j => .bl (decide (i < j))) := om_B ilt_eq
theorem om_gt : OpM cl fGt (rI0 fun i j => .bl (decide (j < i))) := om_B fun i j => ilt_eq j i
theorem om_le : OpM cl fLe (rI0 fun i j => .bl (decide (i ≤ j))) := om_B fun i j => by
  rw [bnot_eq, ilt_eq, ← decide_not]
  exact decide_eq_decide.mpr Int.not_lt
theorem om_ge : OpM cl fGe (rI0 fun i j => .bl (decide (j ≤ i))) := om_B fun i j => by
  rw [bnot_eq, ilt_eq, ← decide_not]
  exact decide_eq_decide.mpr Int.not_lt
theorem om_eq : OpM cl fEq rEq := fun F H ua ub u x y Q s e rx ry k => by
  obtain ⟨i, ei, e⟩ := ob_some e
  obtain ⟨j, ej, e⟩ := ob_some e
  cases e
  rw [asI_rv ei rx, asI_rv ej ry]
  refine ⟨rfl, ?_⟩
  rw [dec_int, Bool.beq_eq_decide_eq, ← ieq_eq]
  exact k F H _ (Stp.refl s) (rv_bl _)
theorem om_ne : OpM cl fNe rNe := fun F H ua ub u x y Q s e rx ry k => by
  obtain ⟨i, ei, e⟩ := ob_some e
  obtain ⟨j, ej, e⟩ := ob_some e
  cases e
  rw [asI_rv ei rx, asI_rv ej ry]
  refine ⟨rfl, ?_⟩
  rw [dec_int, Bool.beq_eq_decide_eq, ← ieq_eq, ← bnot_eq]
  exact k F H _ (Stp.refl s) (rv_bl _)
def fNeg (x : U) : Option U := ob (asI x) fun i => some (.int (Int.neg i))
theorem um_neg : UnM cl fNeg (rU fun i => .int (-i)) := fun F H ua u x Q s e rx k => by
  obtain ⟨i, ei, e⟩ := ob_some e
  cases e
  exact ⟨i, asI_rv ei rx, k F H _ (Stp.refl s) (rv_int _)⟩
def isNo (u : U) : Bool := U.casesOn (motive_1 := fun _ => Bool) u false true (fun _ => false) (fun _ => false) (fun _ => false) (fun _ => false) (fun _ _ => false) (fun _ => false) (fun _ => false) (fun _ _ => false) (fun _ _ => false) (fun _ _ => false)
def fIsN (x y : U) : Option U := Bool.rec none (some (.bl (isNo x))) (isNo y)
def fNotN (x y : U) : Option U := Bool.rec none (some (.bl (bnot (isNo x)))) (isNo y)
theorem isNo_rv {u : U} {v : V} (r : Rv cl F H u v) : decide (v = .non) = isNo u := by
  cases u with
  | no => simp only [Rv, Rp] at r
  | non => simp only [Rv, Rp] at r; subst r; rfl
  | bl b => simp only [Rv, Rp] at r; subst r; rfl
  | int i => simp only [Rv, Rp] at r; subst r; rfl
  | tup x => simp only [Rv, Rp] at r; obtain ⟨a, vs, h, _⟩ := r; subst h; rfl
  | lst x => simp only [Rv, Rp] at r; obtain ⟨a, vs, h, _⟩ := r; subst h; rfl
  | ins c x => simp only [Rv, Rp] at r; obtain ⟨a, d, vs, h, _⟩ := r; subst h; rfl
  | tbl i => simp only [Rv, Rp] at r; obtain ⟨a, vs, h, _⟩ := r; subst h; rfl
  | ol x => obtain ⟨a, vs, h, _⟩ := r; subst h; rfl
  | dk k x => obtain ⟨a, vs, h, _⟩ := r; subst h; rfl
  | dt k x => obtain ⟨a, vs, h, _⟩ := r; subst h; rfl
  | oi c x => obtain ⟨vs, h, _⟩ := r; subst h; rfl
theorem isNo_non {u : U} {v : V} (h : isNo u = true) (r : Rv cl F H u v) : v = .non := of_decide_eq_true ((isNo_rv r).trans h)
theorem om_isN : OpM cl fIsN (fun x y H Q => y = .non ∧ Q (.bl (decide (x = .non))) H) := fun F H ua ub u x y Q s e rx ry k => by
  unfold fIsN at e
  cases hb : isNo ub with
  | false => rw [hb] at e; cases e
  | true =>
    rw [hb] at e
    cases e
    refine ⟨isNo_non hb ry, ?_⟩
    rw [isNo_rv rx]
    exact k F H _ (Stp.refl s) (rv_bl _)
theorem om_notN : OpM cl fNotN (fun x y H Q => y = .non ∧ Q (.bl (!decide (x = .non))) H) := fun F H ua ub u x y Q s e rx ry k => by
  unfold fNotN at e
  cases hb : isNo ub with
  | false => rw [hb] at e; cases e
  | true =>
    rw [hb] at e
    cases e
    refine ⟨isNo_non hb ry, ?_⟩
    rw [isNo_rv rx, ← bnot_eq]
    exact k F H _ (Stp.refl s) (rv_bl _)

/-! ### subscripts, slices, len, in -/
def asN (u : U) : Option Nat := ob (asI u) fun i => Int.rec (motive := fun _ => Option Nat) (fun n => some n) (fun _ => none) i
theorem asN_rv {u : U} {n : Nat} {v : V} (h : asN u = some n) (r : Rv cl F H u v) : v = .int (n : Int) := by
  obtain ⟨i, e, h⟩ := ob_some h
  cases i with
  | ofNat m => cases h; exact asI_rv e r
  | negSucc m => cases h
theorem atI_of {vs : List V} {n : Nat} {v : V} (h : vs[n]? = some v) : atI vs (n : Int) = some v := atI_nat h
def fIx (x y : U) : Option U := ob (asS x) fun xs => ob (asN y) fun n => nth xs n
theorem om_ix : OpM cl fIx (fun x y H Q => rIxL K x y H Q ∨ rIxT K x y H Q) := fun F H ua ub u x y Q s e rx ry k => by
  obtain ⟨us, es, e⟩ := ob_some e
  obtain ⟨n, en, e⟩ := ob_some e
  rw [nth_eq] at e
  obtain ⟨a, vs, rfl, ha, hr⟩ := asS_rv es s rx
  cases asN_rv en ry
  obtain ⟨v, hv, rv⟩ := hr.get e
  rcases ha with ha | ha
  · exact .inl ⟨a, vs, _, v, rfl, rfl, SqL.of ha, atI_of hv, k F H v (Stp.refl s) (Rv.of rv)⟩
  · exact .inr ⟨a, vs, _, v, rfl, rfl, SqT.of ha, atI_of hv, k F H v (Stp.refl s) (Rv.of rv)⟩
theorem j_ix {a b : Expr} {ma mb : M} {pos : Pos} (ha : PE X a (tM cl ma)) (hb : PE X b (tM cl mb)) (hs : PlainIx b := by exact fun _ _ => rfl) : PE X (.Subscript a b pos) (tM cl (e2 fIx ma mb)) :=
  (pe_ix (ix_list.or ix_tup) ha hb hs).wk (tOp_of om_ix)
/-- one argument, two arguments -/
def fA1 {α : Type} (f : U → Option α) (us : List U) : Option α := List.casesOn (motive := fun _ => Option α) us none fun x r => List.casesOn (motive := fun _ => Option α) r (f x) fun _ _ => none
def fA2 {α : Type} (f : U → U → Option α) (us : List U) : Option α := List.casesOn (motive := fun _ => Option α) us none fun x r => List.casesOn (motive := fun _ => Option α) r none fun y r => List.casesOn (motive := fun _ => Option α) r (f x y) fun _ _ => none
theorem fA1_some {α : Type} {f : U → Option α} {us : List U} {a : α} {xs : List V} (h : fA1 f us = some a) (r : RvL cl F H us xs) : ∃ u v, us = [u] ∧ xs = [v] ∧ f u = some a ∧ Rv cl F H u v := by
  rcases us with _ | ⟨u, _ | ⟨w, us⟩⟩
  · cases h
  · rcases xs with _ | ⟨v, _ | ⟨w, xs⟩⟩
    · exact r.elim
    · exact ⟨u, v, rfl, rfl, h, r.1⟩
    · exact r.2.elim
  · cases h
theorem fA2_some {α : Type} {f : U → U → Option α} {us : List U} {a : α} {xs : List V} (h : fA2 f us = some a) (r : RvL cl F H us xs) : ∃ u w v x, us = [u, w] ∧ xs = [v, x] ∧ f u w = some a ∧ Rv cl F H u v ∧ Rv cl F H w x := by
  rcases us with _ | ⟨u, _ | ⟨w, _ | ⟨z, us⟩⟩⟩
  · cases h
  · cases h
  · rcases xs with _ | ⟨v, _ | ⟨x, _ | ⟨z, xs⟩⟩⟩
    · exact r.elim
    · exact r.2.elim
    · exact ⟨u, w, v, x, rfl, rfl, h, r.1, r.2.1⟩
    · exact r.2.2.elim
  · cases h
def fLen1 (x : U) : Option U := ob (asS x) fun xs => some (.int (Int.ofNat (llen xs)))
def fLen : List U → Option U := fA1 fLen1
theorem cm_len : CaM cl fLen (fun xs H Q => ∃ p ys, xs = [.ref p] ∧ (SqL K H p ys ∨ SqT K H p ys) ∧ Q (.int ys.length) H) := fun F H us u xs Q s e r k => by
  obtain ⟨w, v, rfl, rfl, e, rv⟩ := fA1_some e r
  obtain ⟨ws, es, e⟩ := ob_some e
  cases e
  obtain ⟨a, vs, rfl, ha, hr⟩ := asS_rv es s rv
  refine ⟨a, vs, rfl, ha.imp SqL.of SqT.of, ?_⟩
  have := k F H _ (Stp.refl s) (rv_int _)
  rw [llen_eq, hr.len] at this
  exact this
def fAbs : List U → Option U := fA1 fun x => ob (asI x) fun i => some (.int (Int.ofNat (Int.natAbs i)))
theorem cm_abs : CaM cl fAbs (fun xs H Q => ∃ i, xs = [.int i] ∧ Q (.int (if i < 0 then -i else i)) H) := fun F H us u xs Q s e r k => by
  obtain ⟨w, v, rfl, rfl, e, rv⟩ := fA1_some e r
  obtain ⟨i, ei, e⟩ := ob_some e
  cases e
  refine ⟨i, by rw [asI_rv ei rv], ?_⟩
  have h : (if i < 0 then -i else i) = Int.ofNat i.natAbs := by
    simp only [Int.ofNat_eq_natCast]
    split <;> omega
  rw [h]
  exact k F H _ (Stp.refl s) (rv_int _)
def fMax : List U → Option U := fA2 fun x y => ob (asI x) fun i => ob (asI y) fun j => some (.int (Bool.rec i j (ilt i j)))
theorem cm_max : CaM cl fMax (fun xs H Q => ∃ i j, xs = [.int i, .int j] ∧ Q (.int (if j > i then j else i)) H) := fun F H us u xs Q s e r k => by
  obtain ⟨w, w2, v, v2, rfl, rfl, e, rv, rv2⟩ := fA2_some e r
  obtain ⟨i, ei, e⟩ := ob_some e
  obtain ⟨j, ej, e⟩ := ob_some e
  cases e
  refine ⟨i, j, by rw [asI_rv ei rv, asI_rv ej rv2], ?_⟩
  have h : (if j > i then j else i) = Bool.rec i j (ilt i j) := by
    rw [ilt_eq]
    by_cases q : i < j
    · rw [if_pos q, decide_eq_true q]
    · rw [if_neg q, decide_eq_false q]
  rw [h]
  exact k F H _ (Stp.refl s) (rv_int _)
def fInt : List U → Option U := fA1 fun x => U.casesOn (motive_1 := fun _ => Option U) x none none (fun b => some (.int (Bool.rec (.ofNat 0) (.ofNat 1) b))) (fun i => some (.int i)) (fun _ => none) (fun _ => none) (fun _ _ => none) (fun _ => none) (fun _ => none) (fun _ _ => none) (fun _ _ => none) (fun _ _ => none)
theorem cm_int : CaM cl fInt (fun xs H Q => (∃ i, xs = [.int i] ∧ Q (.int i) H) ∨ ∃ k, xs = [.bl k] ∧ Q (.int (if k then 1 else 0)) H) := fun F H us u xs Q s e r k => by
  obtain ⟨w, v, rfl, rfl, e, rv⟩ := fA1_some e r
  cases w <;> cases e
  · rename_i b
    have hv : v = .bl b := by simpa only [Rv, Rp] using rv
    refine .inr ⟨b, by rw [hv], ?_⟩
    have := k F H _ (Stp.refl s) (rv_int _)
    cases b <;> exact this
  · rename_i i
    have hv : v = .int i := by simpa only [Rv, Rp] using rv
    exact .inl ⟨i, by rw [hv], k F H _ (Stp.refl s) (rv_int _)⟩
/-- the ints, the bools of a list -/
def lints (us : List U) : Option (List Int) := List.rec (motive := fun _ => Option (List Int)) (some []) (fun u _ r => ob (asI u) fun i => ob r fun is => some (i :: is)) us
def lbools (us : List U) : Option (List Bool) := List.rec (motive := fun _ => Option (List Bool)) (some []) (fun u _ r => ob (asB u) fun i => ob r fun is => some (i :: is)) us
theorem lints_rv : ∀ {us : List U} {is : List Int} {vs : List V}, lints us = some is → RpL cl F us vs → vs = is.map V.int
  | [], is, [], h, _ => by cases h; rfl
  | u :: us, is, v :: vs, h, r => by
    obtain ⟨i, ei, h⟩ := ob_some (show ob (asI u) (fun i => ob (lints us) fun is => some (i :: is)) = some is from h)
    obtain ⟨js, ej, h⟩ := ob_some h
    cases h
    simp only [RpL] at r
    rw [lints_rv ej r.2, asI_rv ei (Rv.of (H := F) r.1)]
    rfl
  | [], _, _ :: _, _, z => by simp only [RpL] at z
  | _ :: _, _, [], _, z => by simp only [RpL] at z
theorem lbools_rv : ∀ {us : List U} {is : List Bool} {vs : List V}, lbools us = some is → RpL cl F us vs → vs = is.map V.bl
  | [], is, [], h, _ => by cases h; rfl
  | u :: us, is, v :: vs, h, r => by
    obtain ⟨i, ei, h⟩ := ob_some (show ob (asB u) (fun i => ob (lbools us) fun is => some (i :: is)) = some is from h)
    obtain ⟨js, ej, h⟩ := ob_some h
    cases h
    simp only [RpL] at r
    have hv : v = .bl i := by
      have := asB_some ei
      subst this
      simpa only [Rp] using r.1
    rw [lbools_rv ej r.2, hv]
    rfl
  | [], _, _ :: _, _, z => by simp only [RpL] at z
  | _ :: _, _, [], _, z => by simp only [RpL] at z
def isum (is : List Int) : Int := List.rec (motive := fun _ => Int) (.ofNat 0) (fun i _ r => Int.add i r) is
theorem isum_eq : ∀ is : List Int, isum is = is.sum
  | [] => rfl
  | i :: is => by
    rw [List.sum_cons, ← isum_eq is]
    rfl
def bany (bs : List Bool) : Bool := List.rec (motive := fun _ => Bool) false (fun b _ r => Bool.rec r true b) bs
theorem bany_eq : ∀ bs : List Bool, bany bs = bs.any id
  | [] => rfl
  | b :: bs => by
    have := bany_eq bs
    cases b with
    | true => rfl
    | false => exact this
def fSum : List U → Option U := fA1 fun x => ob (asL x) fun us => ob (lints us) fun is => some (.int (isum is))
theorem cm_sum : CaM cl fSum (rSum K) := fun F H us u xs Q s e r k => by
  obtain ⟨w, v, rfl, rfl, e, rv⟩ := fA1_some e r
  obtain ⟨ws, es, e⟩ := ob_some e
  obtain ⟨is, ei, e⟩ := ob_some e
  cases e
  obtain ⟨a, vs, rfl, ha, hr⟩ := asL_rv es s rv
  rw [lints_rv ei hr] at ha
  refine ⟨a, is, rfl, SqL.of ha, ?_⟩
  rw [← isum_eq]
  exact k F H _ (Stp.refl s) (rv_int _)
def fAny : List U → Option U := fA1 fun x => ob (asL x) fun us => ob (lbools us) fun is => some (.bl (bany is))
theorem cm_any : CaM cl fAny (rAny K) := fun F H us u xs Q s e r k => by
  obtain ⟨w, v, rfl, rfl, e, rv⟩ := fA1_some e r
  obtain ⟨ws, es, e⟩ := ob_some e
  obtain ⟨is, ei, e⟩ := ob_some e
  cases e
  obtain ⟨a, vs, rfl, ha, hr⟩ := asL_rv es s rv
  rw [lbools_rv ei hr] at ha
  refine ⟨a, is, rfl, SqL.of ha, ?_⟩
  rw [← bany_eq]
  exact k F H _ (Stp.refl s) (rv_bl _)
/-- in, not in: ints in a list or tuple of ints -/
def imem (i : Int) (is : List Int) : Bool := List.rec (motive := fun _ => Bool) false (fun j _ r => Bool.rec r true (ieq j i)) is
theorem imem_eq (i : Int) : ∀ is : List Int, imem i is = inV (.int i) (is.map V.int)
  | [] => rfl
  | j :: is => by
    have ih := imem_eq i is
    show (Bool.rec (imem i is) true (ieq j i) : Bool) = _
    rw [ih]
    unfold inV
    rw [List.map_cons, List.any_cons]
    have : eqV (.int j) (.int i) = ieq j i := by
      rw [ieq_eq]
      show (j == i) = _
      exact Bool.beq_eq_decide_eq ..
    rw [this]
    cases ieq j i <;> rfl
def fIn (x y : U) : Option U := ob (asI x) fun i => ob (asS y) fun us => ob (lints us) fun is => some (.bl (imem i is))
def fNotIn (x y : U) : Option U := ob (asI x) fun i => ob (asS y) fun us => ob (lints us) fun is => some (.bl (bnot (imem i is)))
theorem flat_ints : ∀ is : List Int, (is.map V.int).all flatV = true
  | [] => rfl
  | _ :: is => by
    rw [List.map_cons, List.all_cons, flat_ints is]
    rfl
theorem om_in : OpM cl fIn (rIn K false) := fun F H ua ub u x y Q s e rx ry k => by
  obtain ⟨i, ei, e⟩ := ob_some e
  obtain ⟨us, es, e⟩ := ob_some e
  obtain ⟨is, eis, e⟩ := ob_some e
  cases e
  obtain ⟨a, vs, rfl, ha, hr⟩ := asS_rv es s ry
  rw [lints_rv eis hr] at ha
  refine ⟨a, _, rfl, ha.imp SqL.of SqT.of, by rw [asI_rv ei rx]; rfl, flat_ints is, ?_⟩
  rw [if_neg Bool.false_ne_true, asI_rv ei rx, ← imem_eq]
  exact k F H _ (Stp.refl s) (rv_bl _)
theorem om_notIn : OpM cl fNotIn (rIn K true) := fun F H ua ub u x y Q s e rx ry k => by
  obtain ⟨i, ei, e⟩ := ob_some e
  obtain ⟨us, es, e⟩ := ob_some e
  obtain ⟨is, eis, e⟩ := ob_some e
  cases e
  obtain ⟨a, vs, rfl, ha, hr⟩ := asS_rv es s ry
  rw [lints_rv eis hr] at ha
  refine ⟨a, _, rfl, ha.imp SqL.of SqT.of, by rw [asI_rv ei rx]; rfl, flat_ints is, ?_⟩
  rw [if_pos rfl, asI_rv ei rx, ← imem_eq, ← bnot_eq]
  exact k F H _ (Stp.refl s) (rv_bl _)
end
end Ct
end
end
section
set_option Elab.async false
set_option linter.all false
set_option maxRecDepth 100000
set_option maxHeartbeats 4000000
noncomputable section
namespace Ct
open PySem PySem.Spec PyProof.Rows L2
section
variable {cl : Cl} {F H F' H' : Hp} {env : List U} {σ : Sig} {X : Cx} {K : PySem.W.Frag}

/-! ### new lists -/
def NewL (cl : Cl) (F H : Hp) (us : List U) (Q : VK) : Prop := ∀ F' H' p vs, Stp F H F' H' → H p = none → F' p = none → H' p = some (.lst vs) → RpL cl F' us vs → Q (.ref p) H'
/-- laid now -/
theorem NewL.lay {us : List U} {vs : List V} {Q : VK} (h : NewL cl F H us Q) (s : Stp F H F' H') (r : RpL cl F' us vs) (p : Addr) (n : H' p = none) : Q (.ref p) (upd H' p (.lst vs)) := by
  have n0 : H p = none := by
    cases q : H p with
    | none => rfl
    | some o => rw [s.hh p o q] at n; cases n
  exact h F' (upd H' p (.lst vs)) p vs (s.trans (Stp.lay s.fh n)) n0 (s.fh.none n) upd_same r
theorem NewL.step {us : List U} {Q : VK} (h : NewL cl F H us Q) (s : Stp F H F' H') : NewL cl F' H' us Q := fun F2 H2 p vs s2 n n2 h2 r => by
  refine h F2 H2 p vs (s.trans s2) ?_ n2 h2 r
  cases q : H p with
  | none => rfl
  | some o => rw [s.hh p o q] at n; cases n
/-- frozen at once -/
def eFz (m : MA) : M := fun env => ob (m env) fun us => some (.lst us)
theorem tL_fz {m : MA} (σ : Sig) (H : Hp) (Q : VK) (h : tM cl (eFz m) σ H Q) : tL cl m σ H Q := by
  obtain ⟨F, env, u, er, e, k⟩ := h
  obtain ⟨us, eu, e⟩ := ob_some e
  cases e
  refine ⟨F, env, us, er, eu, fun F' H' p vs s n n' hp r => ?_⟩
  refine k (upd F' p (.lst vs)) H' (.ref p) ⟨s.ff.trans (Sb.new n'), ?_, s.hh, fun b o q => ?_⟩ ?_
  · intro a o q
    by_cases z : a = p
    · subst z; rw [upd_same] at q; cases q; exact hp
    · rw [upd_ne z] at q; exact s.fh a o q
  · by_cases z : b = p
    · subst z; exact .inr (fz_none n)
    · rw [upd_ne z] at q; exact s.new b o q
  · simp only [Rv, Rp]
    exact ⟨p, vs, rfl, upd_same, r.mono (Sb.new n')⟩
theorem j_fz {e : Expr} {m : MA} (h : PE X e (tL cl m)) : PE X e (tM cl (eFz m)) := h.wk tL_fz
/-- operations that hand back a new list -/
def OpL (cl : Cl) (f : U → U → Option (List U)) (r : R2) : Prop := ∀ (F H : Hp) (ua ub : U) (us : List U) (x y : V) (Q : VK), Sb F H → f ua ub = some us → Rv cl F H ua x → Rv cl F H ub y → NewL cl F H us Q → r x y H Q
def CaL (cl : Cl) (f : List U → Option (List U)) (r : List V → Hp → VK → Prop) : Prop := ∀ (F H : Hp) (us ws : List U) (xs : List V) (Q : VK), Sb F H → f us = some ws → RvL cl F H us xs → NewL cl F H ws Q → r xs H Q
def l2 (f : U → U → Option (List U)) (a b : M) : MA := fun env => ob (a env) fun x => ob (b env) fun y => f x y
def lCa (f : List U → Option (List U)) (ms : MA) : MA := fun env => ob (ms env) f
theorem jl_op {a b : Expr} {ma mb : M} {op : Operator} {pos : Pos} {f : U → U → Option (List U)} {r : R2} (ho : OpR X (binaryOp op) r) (hf : OpL cl f r) (ha : PE X a (tM cl ma)) (hb : PE X b (tM cl mb)) :
    PE X (.BinOp a op b pos) (tL cl (l2 f ma mb)) := (pe_op ho ha hb).wk fun σ H Q ⟨F, env, us, er, e, k⟩ => by
  obtain ⟨ua, ea, e⟩ := ob_some e
  obtain ⟨ub, eb, e⟩ := ob_some e
  exact two er ea eb fun F' H' x y s rx ry => hf F' H' ua ub us x y Q s.fh e rx ry (NewL.step k s)
theorem jl_callTy {x : Str} {p pos : Pos} {e : Expr} {es : List Expr} {ms : MA} {T : String} {f : List U → Option (List U)} {r : List V → Hp → VK → Prop} (hc : CallR X (.type T) r) (hf : CaL cl f r) (hg : Gl X x) (hm : X.mg x = none) (hv : bootBuiltins x = some (.type T))
    (ha : PA X (e :: es) (tA cl ms)) (hn : x ≠ "__name__" := by decide) (hdb : (x == ("__debug__" : Str)) = false := by decide) (he : starEach (e :: es) X.env = (false, eval e X.env) :: starEach es X.env := by rfl) (hpl : (backTo pos (starEach es X.env)).any (·.1) = false := by rfl) :
    PE X (.Call (.Name x p) (e :: es) [] pos) (tL cl (lCa f ms)) := (pe_callTy hc hg hm hv ha hn hdb he hpl).wk fun σ H Q ⟨F, env, ws, er, e, k⟩ => by
  obtain ⟨us, eu, e⟩ := ob_some e
  exact ⟨F, env, us, er, eu, fun F' H' xs s r => hf F' H' us ws xs Q s.fh e r (NewL.step k s)⟩
theorem jl_callB {x : Str} {p pos : Pos} {e : Expr} {es : List Expr} {ms : MA} {id : String} {f : List U → Option (List U)} {r : List V → Hp → VK → Prop} (hc : CallR X (.builtin id) r) (hf : CaL cl f r) (hg : Gl X x) (hm : X.mg x = none) (hv : bootBuiltins x = some (.builtin id))
    (ha : PA X (e :: es) (tA cl ms)) (hn : x ≠ "__name__" := by decide) (hdb : (x == ("__debug__" : Str)) = false := by decide) (he : starEach (e :: es) X.env = (false, eval e X.env) :: starEach es X.env := by rfl) (hpl : (backTo pos (starEach es X.env)).any (·.1) = false := by rfl) :
    PE X (.Call (.Name x p) (e :: es) [] pos) (tL cl (lCa f ms)) := (pe_callB hc hg hm hv ha hn hdb he hpl).wk fun σ H Q ⟨F, env, ws, er, e, k⟩ => by
  obtain ⟨us, eu, e⟩ := ob_some e
  exact ⟨F, env, us, er, eu, fun F' H' xs s r => hf F' H' us ws xs Q s.fh e r (NewL.step k s)⟩
/-- no item is a slot's own object, and there are not too many -/
def frz (us : List U) : Bool := List.rec (motive := fun _ => Bool) true (fun u _ r => Bool.rec r false (U.own u)) us
theorem frz_eq : ∀ us : List U, frz us = us.all fun u => !u.own
  | [] => rfl
  | u :: us => by
    rw [List.all_cons, ← frz_eq us]
    show (Bool.rec (frz us) false (U.own u) : Bool) = _
    cases u.own <;> rfl
def okL (us : List U) : Option (List U) := Bool.rec none (Bool.rec none (some us) (Nat.ble (llen us) 100000)) (frz us)
theorem okL_some {us ws : List U} (h : okL us = some ws) : us = ws ∧ us.length ≤ sizeLine ∧ us.all (fun u => !u.own) = true := by
  unfold okL at h
  cases h1 : frz us with
  | false => rw [h1] at h; cases h
  | true =>
    rw [h1] at h
    cases h2 : Nat.ble (llen us) 100000 with
    | false => rw [h2] at h; cases h
    | true =>
      rw [h2] at h
      have h3 := Nat.le_of_ble_eq_true h2
      rw [llen_eq] at h3
      rw [frz_eq] at h1
      exact ⟨Option.some.inj h, by rw [sizeLine_eq]; omega, h1⟩
def lDis (ms : MA) : MA := fun env => ob (ms env) okL
theorem jl_lst {es : List Expr} {ms : MA} {pos : Pos} (h : PA X es (tA cl ms)) : PE X (.List es pos) (tL cl (lDis ms)) := (pe_lst h).wk fun σ H Q ⟨F, env, us, er, e, k⟩ => by
  obtain ⟨ws, ew, e⟩ := ob_some e
  obtain ⟨rfl, h1, h2⟩ := okL_some e
  refine ⟨F, env, ws, er, ew, fun F' H' vs s r => ⟨by rw [← r.len]; exact h1, fun p hp => ?_⟩⟩
  exact NewL.lay k s (r.rp h2) p hp
def eTup (ms : MA) : M := fun env => ob (ms env) fun us => ob (okL us) fun us => some (.tup us)
theorem j_tup {es : List Expr} {ms : MA} {x1} {pos : Pos} (h : PA X es (tA cl ms)) : PE X (.Tuple es x1 pos) (tM cl (eTup ms)) := (pe_tup h).wk fun σ H Q ⟨F, env, u, er, e, k⟩ => by
  obtain ⟨ws, ew, e⟩ := ob_some e
  obtain ⟨us, eo, e⟩ := ob_some e
  cases e
  obtain ⟨rfl, h1, h2⟩ := okL_some eo
  refine ⟨F, env, ws, er, ew, fun F' H' vs s r => ⟨by rw [← r.len]; exact h1, fun p hp => ?_⟩⟩
  refine k _ _ _ (s.trans (Stp.add s.fh hp)) ?_
  simp only [Rv, Rp]
  exact ⟨p, vs, rfl, upd_same, (r.rp h2).mono (Sb.new (s.fh.none hp))⟩
/-! list(x), tuple(x) -/
def fList : List U → Option (List U) := fA1 asS
theorem cl_list : CaL cl fList (fun xs H Q => ∃ p ys, xs = [.ref p] ∧ (SqL K H p ys ∨ SqT K H p ys) ∧ ∀ l, H l = none → Q (.ref l) (upd H l (.lst ys))) := fun F H us ws xs Q s e r k => by
  obtain ⟨w, v, rfl, rfl, e, rv⟩ := fA1_some e r
  obtain ⟨a, vs, rfl, ha, hr⟩ := asS_rv e s rv
  exact ⟨a, vs, rfl, ha.imp SqL.of SqT.of, fun l hl => NewL.lay k (Stp.refl s) hr l hl⟩
def fTuple : List U → Option U := fA1 fun x => U.casesOn (motive_1 := fun _ => Option U) x none none (fun _ => none) (fun _ => none) (fun xs => some (.tup xs)) (fun xs => some (.tup xs)) (fun _ _ => none) (fun i => some (.tbl i)) (fun xs => some (.tup xs)) (fun _ _ => none) (fun _ _ => none) (fun _ _ => none)
theorem cm_tuple : CaM cl fTuple (fun xs H Q => ∃ p ys, xs = [.ref p] ∧ ((SqL K H p ys ∧ ∀ l, H l = none → Q (.ref l) (upd H l (.tup ys))) ∨ (SqT K H p ys ∧ Q (.ref p) H))) := fun F H us u xs Q s e r k => by
  obtain ⟨w, v, rfl, rfl, e, rv⟩ := fA1_some e r
  have lay : ∀ {zs : List U} {vs : List V} {a : Addr}, H a = some (.lst vs) → RpL cl F zs vs → (∀ F' H' z, Stp F H F' H' → Rv cl F' H' (.tup zs) z → Q z H') → ∃ p ys, [V.ref a] = [.ref p] ∧ ((SqL K H p ys ∧ ∀ l, H l = none → Q (.ref l) (upd H l (.tup ys))) ∨ (SqT K H p ys ∧ Q (.ref p) H)) := fun {zs vs a} ha hr k => by
    refine ⟨a, vs, rfl, .inl ⟨SqL.of ha, fun l hl => k _ _ _ (Stp.add s hl) ?_⟩⟩
    simp only [Rv, Rp]
    exact ⟨l, vs, rfl, upd_same, hr.mono (Sb.new (s.none hl))⟩
  cases w <;> cases e
  · obtain ⟨a, vs, rfl, _, ha, hr⟩ := asT_rv (u := .tup _) rfl s rv
    exact ⟨a, vs, rfl, .inr ⟨SqT.of ha, k F H _ (Stp.refl s) rv⟩⟩
  · obtain ⟨a, vs, rfl, ha, hr⟩ := asL_rv (u := .lst _) rfl s rv
    exact lay ha hr k
  · obtain ⟨a, vs, rfl, _, ha, hr⟩ := asT_rv (u := .tbl _) rfl s rv
    exact ⟨a, vs, rfl, .inr ⟨SqT.of ha, k F H _ (Stp.refl s) rv⟩⟩
  · obtain ⟨a, vs, rfl, ha, hr⟩ := asL_rv (u := .ol _) rfl s rv
    exact lay ha hr k
/-! +, * of lists, + of tuples -/
def szL (us : List U) : Option (List U) := Bool.rec none (some us) (Nat.ble (llen us) 100000)
theorem szL_some {us ws : List U} (h : szL us = some ws) : us = ws ∧ us.length ≤ 100000 := by
  unfold szL at h
  cases h2 : Nat.ble (llen us) 100000 with
  | false => rw [h2] at h; cases h
  | true =>
    rw [h2] at h
    have h3 := Nat.le_of_ble_eq_true h2
    rw [llen_eq] at h3
    exact ⟨Option.some.inj h, h3⟩
def fCat (x y : U) : Option (List U) := ob (asL x) fun us => ob (asL y) fun ws => szL (lapp us ws)
theorem ol_cat : OpL cl fCat rCat := fun F H ua ub us x y Q s e rx ry k => by
  obtain ⟨us1, e1, e⟩ := ob_some e
  obtain ⟨us2, e2, e⟩ := ob_some e
  obtain ⟨rfl, hz⟩ := szL_some e
  rw [lapp_eq] at k hz
  obtain ⟨a, vs, rfl, ha, ra⟩ := asL_rv e1 s rx
  obtain ⟨b, ws, rfl, hb, rb⟩ := asL_rv e2 s ry
  refine ⟨a, b, vs, ws, rfl, rfl, ha, hb, ?_, fun p hp => NewL.lay k (Stp.refl s) (ra.app rb) p hp⟩
  rw [List.length_append] at hz
  rw [← ra.len, ← rb.len, sizeLine_eq]
  omega
def lrep (n : Nat) (us : List U) : List U := Nat.rec (motive := fun _ => List U) [] (fun _ r => lapp us r) n
theorem lrep_rp {us : List U} {vs : List V} (h : RpL cl F us vs) : ∀ n : Nat, RpL cl F (lrep n us) (List.replicate n vs).flatten
  | 0 => by
    show RpL cl F [] _
    simp only [List.replicate_zero, List.flatten_nil, RpL]
  | n + 1 => by
    show RpL cl F (lapp us (lrep n us)) _
    rw [lapp_eq, List.replicate_succ, List.flatten_cons]
    exact h.app (lrep_rp h n)
def fRep (x y : U) : Option (List U) := ob (asL x) fun us => ob (asN y) fun n => Bool.rec none (szL (lrep n us)) (Nat.ble n 100000)
theorem ol_rep : OpL cl fRep rRep := fun F H ua ub us x y Q s e rx ry k => by
  obtain ⟨us1, e1, e⟩ := ob_some e
  obtain ⟨n, e2, e⟩ := ob_some e
  cases hb : Nat.ble n 100000 with
  | false => rw [hb] at e; cases e
  | true =>
    rw [hb] at e
    have hn := Nat.le_of_ble_eq_true hb
    obtain ⟨rfl, hz⟩ := szL_some e
    obtain ⟨a, vs, rfl, ha, ra⟩ := asL_rv e1 s rx
    cases asN_rv e2 ry
    have hl := lrep_rp ra n
    refine ⟨a, _, vs, rfl, rfl, ha, by omega, by omega, ?_, fun p hp => NewL.lay k (Stp.refl s) hl p hp⟩
    have e3 := hl.len
    rw [List.length_flatten, List.map_replicate, List.sum_replicate_nat] at e3
    rw [Int.toNat_natCast, Nat.mul_comm, sizeLine_eq]
    omega
def fCatT (x y : U) : Option U := ob (asT x) fun us => ob (asT y) fun ws => ob (szL (lapp us ws)) fun zs => some (.tup zs)
theorem om_catT : OpM cl fCatT (rCatA K) := fun F H ua ub u x y Q s e rx ry k => by
  obtain ⟨us1, e1, e⟩ := ob_some e
  obtain ⟨us2, e2, e⟩ := ob_some e
  obtain ⟨zs, ez, e⟩ := ob_some e
  obtain ⟨hq, hz⟩ := szL_some ez
  subst hq
  cases e
  rw [lapp_eq] at k hz
  obtain ⟨a, vs, rfl, fa, ha, ra⟩ := asT_rv e1 s rx
  obtain ⟨b, ws, rfl, fb, hb, rb⟩ := asT_rv e2 s ry
  have hl := ra.app rb
  have h1 := ra.len
  have h2 := rb.len
  rw [List.length_append] at hz
  refine ⟨a, b, vs, ws, rfl, rfl, SqT.of ha, SqT.of hb, by rw [sizeLine_eq]; omega, fun q => ?_, fun _ q => ?_, fun _ _ p hp => ?_⟩
  · subst q
    refine k F H _ (Stp.refl s) ?_
    simp only [Rv, Rp]
    exact ⟨b, ws, rfl, fb, hl⟩
  · subst q
    refine k F H _ (Stp.refl s) ?_
    rw [List.append_nil] at hl
    simp only [Rv, Rp]
    exact ⟨a, vs, rfl, fa, hl⟩
  · refine k _ _ _ (Stp.add s hp) ?_
    simp only [Rv, Rp]
    exact ⟨p, _, rfl, upd_same, hl.mono (Sb.new (s.none hp))⟩
end
end Ct
end
end
section
set_option Elab.async false
set_option linter.all false
set_option maxRecDepth 100000
set_option maxHeartbeats 4000000
noncomputable section
namespace Ct
open PySem PySem.Spec PyProof.Rows L2
section
variable {cl : Cl} {F H F' H' : Hp} {env : List U} {σ : Sig} {X : Cx} {K : PySem.W.Frag}

/-! ### slices -/
abbrev MO := List U → Option (Option Nat)
def tO (cl : Cl) (m : MO) : TO := fun σ H Q => ∃ F env o, ER cl F H env σ ∧ m env = some o ∧ ∀ F' H', Stp F H F' H' → Q (o.map fun n : Nat => (n : Int)) H'
theorem _root_.L2.PO.wk {e : Option Expr} {t t' : TO} (h : PO X e t) (w : ∀ σ H Q, t' σ H Q → t σ H Q) : PO X e t' := ⟨fun pins s σ H Q I q => h.run pins s σ H Q I (w σ H Q q)⟩
def oN : MO := fun _ => some none
def oS (m : M) : MO := fun env => ob (m env) fun u => ob (asN u) fun n => some (some n)
theorem jo_none : PO X none (tO cl oN) := po_none.wk fun σ H Q ⟨F, env, o, er, e, k⟩ => by
  cases e
  exact k F H (Stp.refl er.sb)
theorem jo_some {e : Expr} {m : M} (h : PE X e (tM cl m)) : PO X (some e) (tO cl (oS m)) := (po_some h).wk fun σ H Q ⟨F, env, o, er, e, k⟩ => by
  obtain ⟨u, eu, e⟩ := ob_some e
  obtain ⟨n, en, e⟩ := ob_some e
  cases e
  refine ⟨F, env, u, er, eu, fun F' H' v s r => ⟨(n : Int), asN_rv en r, k F' H' s⟩⟩
def nmin (a b : Nat) : Nat := Bool.rec b a (Nat.ble a b)
theorem nmin_eq (a b : Nat) : nmin a b = min a b := by
  unfold nmin
  cases h : Nat.ble a b with
  | true =>
    have := Nat.le_of_ble_eq_true h
    show a = _
    omega
  | false =>
    have : ¬ a ≤ b := fun q => by rw [Nat.ble_eq_true_of_le q] at h; cases h
    show b = _
    omega
/-- the items of xs[lo:hi], the bounds not negative -/
def lcut (us : List U) (lo hi : Option Nat) : List U :=
  ltake (Nat.sub (Option.rec (llen us) (fun h => nmin h (llen us)) hi) (Option.rec 0 (fun l => nmin l (llen us)) lo)) (ldrop (Option.rec 0 (fun l => nmin l (llen us)) lo) us)
theorem lcut_rp {us : List U} {vs : List V} (lo hi : Option Nat) (r : RpL cl F us vs) : RpL cl F (lcut us lo hi) (cutV vs (lo.map fun n : Nat => (n : Int)) (hi.map fun n : Nat => (n : Int))) := by
  have e1 : HT.sIx vs.length 0 (lo.map fun n : Nat => (n : Int)) = (Option.rec 0 (fun l => nmin l (llen us)) lo : Nat) := by
    cases lo with
    | none => rfl
    | some l =>
      show HT.sIx vs.length 0 (some (l : Int)) = nmin l (llen us)
      rw [HT.sIx_nat, nmin_eq, llen_eq, r.len]
  have e2 : HT.sIx vs.length vs.length (hi.map fun n : Nat => (n : Int)) = (Option.rec (llen us) (fun h => nmin h (llen us)) hi : Nat) := by
    cases hi with
    | none =>
      show vs.length = llen us
      rw [llen_eq, r.len]
    | some l =>
      show HT.sIx vs.length vs.length (some (l : Int)) = nmin l (llen us)
      rw [HT.sIx_nat, nmin_eq, llen_eq, r.len]
  unfold lcut cutV
  rw [e1, e2, ltake_eq, ldrop_eq]
  exact (r.drop _).take _
def lSl (m : M) (lo hi : MO) : MA := fun env => ob (m env) fun u => ob (lo env) fun l => ob (hi env) fun h => ob (asL u) fun us => some (lcut us l h)
theorem jl_slice {e : Expr} {lo hi : Option Expr} {p2 pos : Pos} {m : M} {ml mh : MO} (h : PE X e (tM cl m)) (hl : PO X lo (tO cl ml)) (hh : PO X hi (tO cl mh)) : PE X (.Subscript e (.Slice lo hi none p2) pos) (tL cl (lSl m ml mh)) :=
  (pe_slice sl_list h hl hh).wk fun σ H Q ⟨F, env, us, er, e, k⟩ => by
    obtain ⟨u, eu, e⟩ := ob_some e
    obtain ⟨l, el, e⟩ := ob_some e
    obtain ⟨h, eh, e⟩ := ob_some e
    obtain ⟨ws, ew, e⟩ := ob_some e
    cases e
    refine ⟨F, env, u, er, eu, fun F1 H1 x s1 r1 => ⟨F1, env, l, er.step s1, el, fun F2 H2 s2 => ⟨F2, env, h, (er.step s1).step s2, eh, fun F3 H3 s3 => ?_⟩⟩⟩
    have s := (s1.trans s2).trans s3
    obtain ⟨a, vs, rfl, ha, hr⟩ := asL_rv ew s3.fh ((r1.step s2).step s3)
    exact ⟨a, vs, rfl, SqL.of ha, fun p hp => NewL.lay k s (lcut_rp l h hr) p hp⟩
def eSlT (m : M) (lo hi : MO) : M := fun env => ob (m env) fun u => ob (lo env) fun l => ob (hi env) fun h => ob (asT u) fun us => some (.tup (lcut us l h))
theorem j_sliceT {e : Expr} {lo hi : Option Expr} {p2 pos : Pos} {m : M} {ml mh : MO} (h : PE X e (tM cl m)) (hl : PO X lo (tO cl ml)) (hh : PO X hi (tO cl mh)) : PE X (.Subscript e (.Slice lo hi none p2) pos) (tM cl (eSlT m ml mh)) :=
  (pe_slice sl_tupA h hl hh).wk fun σ H Q ⟨F, env, us, er, e, k⟩ => by
    obtain ⟨u, eu, e⟩ := ob_some e
    obtain ⟨l, el, e⟩ := ob_some e
    obtain ⟨h, eh, e⟩ := ob_some e
    obtain ⟨ws, ew, e⟩ := ob_some e
    cases e
    refine ⟨F, env, u, er, eu, fun F1 H1 x s1 r1 => ⟨F1, env, l, er.step s1, el, fun F2 H2 s2 => ⟨F2, env, h, (er.step s1).step s2, eh, fun F3 H3 s3 => ?_⟩⟩⟩
    have s := (s1.trans s2).trans s3
    obtain ⟨a, vs, rfl, fa, ha, hr⟩ := asT_rv ew s3.fh ((r1.step s2).step s3)
    have hc := lcut_rp l h hr
    refine ⟨a, vs, rfl, SqT.of ha, fun ⟨q1, q2⟩ => ?_, fun _ p hp => ?_⟩
    · have e0 : cutV vs (l.map fun n : Nat => (n : Int)) (h.map fun n : Nat => (n : Int)) = vs := by
        unfold cutV
        rw [q1, q2, List.drop_zero, Nat.sub_zero, List.take_length]
      rw [e0] at hc
      refine k F3 H3 _ s ?_
      simp only [Rv, Rp]
      exact ⟨a, vs, rfl, fa, hc⟩
    · refine k _ _ _ (s.trans (Stp.add s3.fh hp)) ?_
      simp only [Rv, Rp]
      exact ⟨p, _, rfl, upd_same, hc.mono (Sb.new (s3.fh.none hp))⟩

/-! ### xs.index(i) of ints -/
def iidx (i : Int) (is : List Int) : Nat → Option Nat := List.rec (motive := fun _ => Nat → Option Nat) (fun _ => none) (fun j _ r n => Bool.rec (r (Nat.succ n)) (some n) (ieq j i)) is
theorem iidx_some {i : Int} : ∀ {is : List Int} {n m : Nat}, iidx i is n = some m → n ≤ m ∧ is[m - n]? = some i ∧ ∀ k, k < m - n → ∀ z, is[k]? = some z → z ≠ i
  | [], _, _, h => nomatch h
  | j :: is, n, m, h => by
    have h' : (Bool.rec (iidx i is (Nat.succ n)) (some n) (ieq j i) : Option Nat) = some m := h
    cases hj : ieq j i with
    | true =>
      rw [hj] at h'
      cases h'
      rw [ieq_eq] at hj
      have := of_decide_eq_true hj
      subst this
      exact ⟨Nat.le_refl _, by simp, fun k hk => by omega⟩
    | false =>
      rw [hj] at h'
      rw [ieq_eq] at hj
      have hj := of_decide_eq_false hj
      obtain ⟨h1, h2, h3⟩ := iidx_some (n := n + 1) h'
      have e : m - n = (m - (n + 1)) + 1 := by omega
      refine ⟨by omega, by rw [e, List.getElem?_cons_succ]; exact h2, fun k hk z hz => ?_⟩
      cases k with
      | zero => simp at hz; subst hz; exact hj
      | succ k =>
        rw [List.getElem?_cons_succ] at hz
        exact h3 k (by omega) z hz
/-- [e].index: a method of a list by values -/
def fIdx (x y : U) : Option U := ob (asL x) fun us => ob (asI y) fun i => ob (lints us) fun is => ob (iidx i is 0) fun n => some (.int (Int.ofNat n))
def eIdx (m n : M) : M := e2 fIdx m n
theorem j_index {o e : Expr} {apos cpos : Pos} {mo me : M} (h : ∀ to t, PE X o to → PA X [e] t → PE X (.Call (.Attribute o "index" apos) [e] [] cpos) (tBM X.K "list" (rIndex X.K) to t)) (ho : PE X o (tM cl mo)) (he : PA X [e] (tA cl (aC me aN))) :
    PE X (.Call (.Attribute o "index" apos) [e] [] cpos) (tM cl (eIdx mo me)) := (h _ _ ho he).wk fun σ H Q ⟨F, env, u, er, e, k⟩ => by
  obtain ⟨uo, eo, e⟩ := ob_some e
  obtain ⟨ui, ei, e⟩ := ob_some e
  obtain ⟨us, es, e⟩ := ob_some e
  obtain ⟨i, ei', e⟩ := ob_some e
  obtain ⟨is, eis, e⟩ := ob_some e
  obtain ⟨n, en, e⟩ := ob_some e
  cases e
  refine ⟨F, env, uo, er, eo, fun F1 H1 x s1 r1 => ?_⟩
  obtain ⟨a, vs, rfl, ha, hr⟩ := asL_rv es s1.fh r1
  refine ⟨.inl ⟨rfl, _, SqL.of ha⟩, F1, env, [ui], er.step s1, ?_, fun F2 H2 xs s2 r2 => ?_⟩
  · show ob (me env) _ = _
    rw [ei]
    rfl
  · rcases xs with _ | ⟨y, _ | ⟨z, xs⟩⟩
    · exact r2.elim
    · have hy := asI_rv ei' r2.1
      subst hy
      rw [lints_rv eis hr] at ha
      obtain ⟨_, h2, h3⟩ := iidx_some en
      rw [Nat.sub_zero] at h2 h3
      refine ⟨a, _, .int i, n, .int i, rfl, rfl, SqL.of (s2.hh _ _ ha), rfl, flat_ints is, ?_, ?_, fun m z hm hz => ?_, ?_⟩
      · rw [List.getElem?_map, h2]; rfl
      · show (i == i) = true
        simp
      · rw [List.getElem?_map] at hz
        cases q : is[m]? with
        | none => rw [q] at hz; cases hz
        | some w =>
          rw [q] at hz
          have hz : V.int w = z := Option.some.inj hz
          subst hz
          show (w == i) = false
          simpa using h3 m hm w q
      · exact k F2 H2 _ (s1.trans s2) (rv_int _)
    · exact r2.2.elim

/-! ### isinstance -/
/-- isinstance(x, (list, tuple)) of a list or tuple; isinstance(i, int), isinstance(i, bool) of an int; isinstance(o, C) of an instance of C -/
def eIsS (m : M) : M := fun env => ob (m env) fun u => ob (asS u) fun _ => some (.bl true)
def eIsI (b : Bool) (m : M) : M := fun env => ob (m env) fun u => ob (asI u) fun _ => some (.bl b)
def asC (u : U) : Option Nat := U.casesOn (motive_1 := fun _ => Option Nat) u none none (fun _ => none) (fun _ => none) (fun _ => none) (fun _ => none) (fun c _ => some c) (fun _ => none) (fun _ => none) (fun _ _ => none) (fun _ _ => none) (fun _ _ => none)
def eIsC (c : Nat) (m : M) : M := fun env => ob (m env) fun u => ob (asC u) fun d => Bool.rec none (some (.bl true)) (Nat.beq c d)
theorem j_isS {e : Expr} {k : Nat} {p tpos pos p1 p2 : Pos} {m : M} (hg : Gl X "isinstance") (hm : X.mg "isinstance" = none) (h1 : PE X (.Name "list" p1) (tC (.ty "list"))) (h2 : PE X (.Name "tuple" p2) (tC (.ty "tuple"))) (h : PE X e (tM cl m))
    (ha1 : starEach [.Name "list" p1, .Name "tuple" p2] X.env = (false, eval (.Name "list" p1) X.env) :: starEach [.Name "tuple" p2] X.env := by rfl) (ha2 : starEach [.Name "tuple" p2] X.env = (false, eval (.Name "tuple" p2) X.env) :: starEach [] X.env := by rfl)
    (he : starEach [e, .Tuple [.Name "list" p1, .Name "tuple" p2] k tpos] X.env = (false, eval e X.env) :: starEach [.Tuple [.Name "list" p1, .Name "tuple" p2] k tpos] X.env := by rfl)
    (he2 : starEach [.Tuple [.Name "list" p1, .Name "tuple" p2] k tpos] X.env = (false, eval (.Tuple [.Name "list" p1, .Name "tuple" p2] k tpos) X.env) :: starEach [] X.env := by rfl)
    (hpl : (backTo pos (starEach [.Tuple [.Name "list" p1, .Name "tuple" p2] k tpos] X.env)).any (·.1) = false := by rfl) :
    PE X (.Call (.Name "isinstance" p) [e, .Tuple [.Name "list" p1, .Name "tuple" p2] k tpos] [] pos) (tM cl (eIsS m)) := by
  have hv : bootBuiltins "isinstance" = some (.builtin "isinstance") := by decide +kernel
  have kk : ∀ {T : String}, T = "list" ∨ T = "tuple" → PySem.W.kitAny X.K (.type T) [.type "list", .type "tuple"] = some true := fun {T} q => by
    rcases q with rfl | rfl
    · exact kitAny_cons (b := true) (kit_ty (by decide +kernel)) (fun z => nomatch z) fun _ => rfl
    · exact kitAny_cons (b := false) (kit_ty (by decide +kernel)) (fun _ => kitAny_cons (b := true) (kit_ty (by decide +kernel)) (fun z => nomatch z) fun _ => rfl) fun z => nomatch z
  refine (pe_callB call_isiT hg hm hv (pa_cons h (pa_cons (pe_tup (pa_cons h1 (pa_cons h2 pa_nil ha2) ha1)) pa_nil he2) he) (by decide) (by decide) he hpl).wk fun σ H Q ⟨F, env, u, er, e, k⟩ => ?_
  obtain ⟨w, ew, e⟩ := ob_some e
  obtain ⟨us, es, e⟩ := ob_some e
  cases e
  refine ⟨F, env, w, er, ew, fun F1 H1 x s1 r1 => ?_⟩
  obtain ⟨a, vs, rfl, ha, hr⟩ := asS_rv es s1.fh r1
  refine ⟨by show 2 ≤ sizeLine; decide, fun T hT => ?_⟩
  have g : ∀ o, H1 a = some o → upd H1 T (.tup [.ty "list", .ty "tuple"]) a = some o := fun o z => Sb.new hT a o z
  have fin : Q (.bl true) (upd H1 T (.tup [.ty "list", .ty "tuple"])) := k _ _ _ (s1.trans (Stp.lay s1.fh hT)) (rv_bl _)
  rcases ha with ha | ha
  · exact ⟨.ref a, T, _, .type "list", _, true, rfl, upd_same, .cons (.ty _) (.cons (.ty _) .nil), .base (.lst (g _ ha)), kk (.inl rfl), fin⟩
  · exact ⟨.ref a, T, _, .type "tuple", _, true, rfl, upd_same, .cons (.ty _) (.cons (.ty _) .nil), .base (.tup (g _ ha)), kk (.inr rfl), fin⟩
theorem j_isI {e : Expr} {p pos p1 : Pos} {m : M} {T : String} {t : Str} {b : Bool} (hT : kitB "int" T = some b) (hg : Gl X "isinstance") (hm : X.mg "isinstance" = none) (h1 : PE X (.Name t p1) (tC (.ty T))) (h : PE X e (tM cl m))
    (he : starEach [e, .Name t p1] X.env = (false, eval e X.env) :: starEach [.Name t p1] X.env := by rfl) (he2 : starEach [.Name t p1] X.env = (false, eval (.Name t p1) X.env) :: starEach [] X.env := by rfl) (hpl : (backTo pos (starEach [.Name t p1] X.env)).any (·.1) = false := by rfl) :
    PE X (.Call (.Name "isinstance" p) [e, .Name t p1] [] pos) (tM cl (eIsI b m)) := by
  have hv : bootBuiltins "isinstance" = some (.builtin "isinstance") := by decide +kernel
  refine (pe_callB call_isi hg hm hv (pa_cons h (pa_cons h1 pa_nil he2) he) (by decide) (by decide) he hpl).wk fun σ H Q ⟨F, env, u, er, e, k⟩ => ?_
  obtain ⟨w, ew, e⟩ := ob_some e
  obtain ⟨i, ei, e⟩ := ob_some e
  cases e
  refine ⟨F, env, w, er, ew, fun F1 H1 x s1 r1 => ?_⟩
  exact ⟨x, .ty T, .type "int", .type T, b, rfl, .ty T, by rw [asI_rv ei r1]; exact .base (.int i), kit_ty hT, k F1 H1 _ s1 (rv_bl _)⟩
theorem j_isC {e : Expr} {p pos p1 : Pos} {m : M} {t : Str} {c : Nat} (ic : C8.InsC X.K (cl.k c)) (hg : Gl X "isinstance") (hm : X.mg "isinstance" = none) (h1 : PE X (.Name t p1) (tC (.ref (cl.k c)))) (h : PE X e (tM cl m))
    (he : starEach [e, .Name t p1] X.env = (false, eval e X.env) :: starEach [.Name t p1] X.env := by rfl) (he2 : starEach [.Name t p1] X.env = (false, eval (.Name t p1) X.env) :: starEach [] X.env := by rfl) (hpl : (backTo pos (starEach [.Name t p1] X.env)).any (·.1) = false := by rfl) :
    PE X (.Call (.Name "isinstance" p) [e, .Name t p1] [] pos) (tM cl (eIsC c m)) := by
  have hv : bootBuiltins "isinstance" = some (.builtin "isinstance") := by decide +kernel
  refine (pe_callB (C8.call_isC ic) hg hm hv (pa_cons h (pa_cons h1 pa_nil he2) he) (by decide) (by decide) he hpl).wk fun σ H Q ⟨F, env, u, er, e, k⟩ => ?_
  obtain ⟨w, ew, e⟩ := ob_some e
  obtain ⟨d, ed, e⟩ := ob_some e
  cases hb : Nat.beq c d with
  | false => rw [hb] at e; cases e
  | true =>
    rw [hb] at e
    cases e
    have hcd := Nat.eq_of_beq_eq_true hb
    subst hcd
    refine ⟨F, env, w, er, ew, fun F1 H1 x s1 r1 => ?_⟩
    cases w <;> cases ed
    simp only [Rv, Rp] at r1
    obtain ⟨a, dx, fs, rfl, ha, _, _⟩ := r1
    exact ⟨a, dx, fs, rfl, s1.fh _ _ ha, k F1 H1 _ s1 (rv_bl _)⟩
end
end Ct
end
end
section
set_option Elab.async false
set_option linter.all false
set_option maxRecDepth 100000
set_option maxHeartbeats 4000000
noncomputable section
namespace Ct
open PySem PySem.Spec PyProof.Rows L2
section
variable {cl : Cl} {F H F' H' : Hp} {env : List U} {σ : Sig} {X : Cx} {K : PySem.W.Frag} {tg : Expr}

/-! ### what a loop walks -/
def Wk (cl : Cl) (F1 : Hp) (J : It) (us : List U) : Prop := ∀ F H, Sb F1 F → Sb F H →
  J.stop us.length H ∧ ∀ (i : Nat) u, us[i]? = some u → J.go i H ∧ ∀ x H', J.yld i H x H' → ∃ F', Stp F H F' H' ∧ Rp cl F' u x
def tW (cl : Cl) (w : MA) : TI := fun σ H R => ∃ F env us, ER cl F H env σ ∧ w env = some us ∧ ∀ F' H' J, Stp F H F' H' → Wk cl F' J us → R J H'
theorem _root_.L2.PI.wk {tg iter : Expr} {t t' : TI} (h : PI X tg iter t) (w : ∀ σ H R, t' σ H R → t σ H R) : PI X tg iter t' := ⟨fun pins s σ H R I q => h.run pins s σ H R I (w σ H R q)⟩
theorem wk_list {F1 : Hp} {a : Addr} {us : List U} {vs : List V} (h : F1 a = some (.lst vs)) (r : RpL cl F1 us vs) : Wk cl F1 (Itl K a) us := fun F H s1 s2 => by
  have hq : SqL K H a vs := SqL.of (s2 _ _ (s1 _ _ h))
  refine ⟨⟨vs, hq, by rw [r.len]; exact Nat.le_refl _⟩, fun i u hu => ?_⟩
  obtain ⟨v, hv, rv⟩ := r.get hu
  refine ⟨⟨vs, v, hq, hv⟩, fun x H' ⟨e, y⟩ => ?_⟩
  subst e
  have hx := y vs hq
  rw [hv] at hx
  cases hx
  exact ⟨F, Stp.refl s2, rv.mono s1⟩
theorem wk_tup {F1 : Hp} {a : Addr} {us : List U} {vs : List V} (h : F1 a = some (.tup vs)) (r : RpL cl F1 us vs) : Wk cl F1 (Itt K a) us := fun F H s1 s2 => by
  have hq : SqT K H a vs := SqT.of (s2 _ _ (s1 _ _ h))
  refine ⟨⟨vs, hq, by rw [r.len]; exact Nat.le_refl _⟩, fun i u hu => ?_⟩
  obtain ⟨v, hv, rv⟩ := r.get hu
  refine ⟨⟨vs, v, hq, hv⟩, fun x H' ⟨e, y⟩ => ?_⟩
  subst e
  have hx := y vs hq
  rw [hv] at hx
  cases hx
  exact ⟨F, Stp.refl s2, rv.mono s1⟩
/-- lo, lo + c, .. -/
def rngL (c : Int) (n : Nat) : Int → List U := Nat.rec (motive := fun _ => Int → List U) (fun _ => []) (fun _ r lo => U.int lo :: r (Int.add lo c)) n
theorem rngL_len (c : Int) : ∀ (n : Nat) (lo : Int), (rngL c n lo).length = n
  | 0, _ => rfl
  | n + 1, lo => congrArg Nat.succ (rngL_len c n (Int.add lo c))
theorem rngL_get (c : Int) : ∀ (n : Nat) (lo : Int) (i : Nat) (u : U), (rngL c n lo)[i]? = some u → i < n ∧ u = .int (lo + i * c)
  | 0, _, _, _, h => by
    have h' : ([] : List U)[_]? = some _ := h
    simp at h'
  | n + 1, lo, 0, u, h => by
    have h' : (U.int lo :: rngL c n (Int.add lo c))[0]? = some u := h
    simp at h'
    subst h'
    exact ⟨Nat.succ_pos _, by simp⟩
  | n + 1, lo, i + 1, u, h => by
    have h' : (U.int lo :: rngL c n (Int.add lo c))[i + 1]? = some u := h
    rw [List.getElem?_cons_succ] at h'
    obtain ⟨h1, h2⟩ := rngL_get c n _ i u h'
    refine ⟨Nat.succ_lt_succ h1, ?_⟩
    rw [h2]
    have e : Int.add lo c = lo + c := rfl
    rw [e]
    have : ((i + 1 : Nat) : Int) = (i : Int) + 1 := by omega
    rw [this, Int.add_mul, Int.one_mul]
    congr 1
    omega
theorem wk_range {F1 : Hp} (lo : Int) (n : Nat) : Wk cl F1 (Itr lo n) (rngL (.ofNat 1) n lo) := fun F H s1 s2 => by
  refine ⟨by show n ≤ _; rw [rngL_len]; exact Nat.le_refl _, fun i u hu => ?_⟩
  obtain ⟨h1, h2⟩ := rngL_get _ n lo i u hu
  refine ⟨h1, fun x H' ⟨e, y⟩ => ?_⟩
  subst e
  refine ⟨F, Stp.refl s2, ?_⟩
  subst h2
  simp only [Rp]
  rw [y]
  congr 1
  show lo + (i : Int) = lo + (i : Int) * 1
  rw [Int.mul_one]
theorem wk_rangeC {F1 : Hp} (lo c : Int) (n : Nat) : Wk cl F1 (Itc lo c n) (rngL c n lo) := fun F H s1 s2 => by
  refine ⟨by show n ≤ _; rw [rngL_len]; exact Nat.le_refl _, fun i u hu => ?_⟩
  obtain ⟨h1, h2⟩ := rngL_get _ n lo i u hu
  refine ⟨h1, fun x H' ⟨e, y⟩ => ?_⟩
  subst e
  refine ⟨F, Stp.refl s2, ?_⟩
  subst h2
  simp only [Rp]
  exact y
/-- over a list or a tuple: the value is asked which -/
def iSeq (K : PySem.W.Frag) (tl : TE) : TI := fun σ H R => tl σ H fun x H1 => ∃ a, x = .ref a ∧ ((∃ xs, SqL K H1 a xs ∧ R (Itl K a) H1) ∨ (∃ xs, SqT K H1 a xs ∧ R (Itt K a) H1))
theorem pi_seq {l : Expr} {tl : TE} (hl : PE X l tl) : PI X tg l (iSeq X.K tl) := by
  refine ⟨fun pins s σ H R I h => thn (hl.run pins s σ H _ I h) fun v s1 ⟨x, H1, I1, r1, a, e, q⟩ => ?_⟩
  subst e
  cases r1
  have fp : ∀ b ∈ [s1.heap.objs.size], FpOk X pins H1 b := fun b hb => by
    cases List.mem_singleton.mp hb
    exact I1.fpOk (Nat.le_refl _) (I1.hok.fresh (Nat.le_refl _))
  rcases q with ⟨xs, hq, q⟩ | ⟨xs, hq, q⟩
  · obtain ⟨its, rv, p, hz⟩ := I1.list hq
    exact wpAny_pyIter_list p.isList ⟨_, [_], _, _, H1, rfl, I1.kept (t' := s1.toks) fun b o e => Heap.get?_push_of_some _ e, turn_list a _, ⟨_, Heap.get?_push_size _ rfl, rfl, rfl⟩, fp, q⟩
  · obtain ⟨its, rv, p, hz⟩ := I1.tuple hq
    exact wpAny_pyIter_tuple (show s1.heap.IsTuple a its.toArray from p) ⟨_, [_], _, _, H1, rfl, I1.kept (t' := s1.toks) fun b o e => Heap.get?_push_of_some _ e, turn_tuple a _, ⟨_, Heap.get?_push_size _ rfl, rfl, rfl⟩, fp, q⟩
/-- a frozen list, a tuple -/
def asF (u : U) : Option (List U) := U.casesOn (motive_1 := fun _ => Option (List U)) u none none (fun _ => none) (fun _ => none) (fun x => some x) (fun x => some x) (fun _ _ => none) (fun i => some (lmap rowU (tabs i))) (fun _ => none) (fun _ _ => none) (fun _ _ => none) (fun _ _ => none)
theorem asF_rv {u : U} {us : List U} {v : V} (h : asF u = some us) (r : Rv cl F H u v) : ∃ a vs, v = .ref a ∧ (F a = some (.lst vs) ∨ F a = some (.tup vs)) ∧ RpL cl F us vs := by
  cases u <;> cases h
  · simp only [Rv, Rp] at r
    obtain ⟨a, vs, h1, h2, h3⟩ := r
    exact ⟨a, vs, h1, .inr h2, h3⟩
  · simp only [Rv, Rp] at r
    obtain ⟨a, vs, h1, h2, h3⟩ := r
    exact ⟨a, vs, h1, .inl h2, h3⟩
  · simp only [Rv, Rp] at r
    obtain ⟨a, vs, h1, h2, h3⟩ := r
    rw [lmap_eq]
    exact ⟨a, vs, h1, .inr h2, rows_rp h3⟩
def wS (m : M) : MA := fun env => ob (m env) asF
theorem ji_seq {l : Expr} {m : M} (h : PE X l (tM cl m)) : PI X tg l (tW cl (wS m)) := (pi_seq h).wk fun σ H R ⟨F, env, us, er, e, k⟩ => by
  obtain ⟨u, eu, e⟩ := ob_some e
  refine ⟨F, env, u, er, eu, fun F1 H1 v s r => ?_⟩
  obtain ⟨a, vs, rfl, ha, hr⟩ := asF_rv e r
  refine ⟨a, rfl, ?_⟩
  rcases ha with ha | ha
  · exact .inl ⟨vs, SqL.of (s.fh _ _ ha), k F1 H1 _ s (wk_list ha hr)⟩
  · exact .inr ⟨vs, SqT.of (s.fh _ _ ha), k F1 H1 _ s (wk_tup ha hr)⟩
def bnd (i : Int) : Bool := Nat.ble (Int.natAbs i) 1000000000
theorem bnd_ok {i : Int} (h : bnd i = true) : -(2 ^ 62) ≤ i ∧ i < 2 ^ 62 := by
  have := Nat.le_of_ble_eq_true h
  exact ⟨by omega, by omega⟩
def wR1 (ms : MA) : MA := fun env => ob (ms env) (fA1 fun u => ob (asI u) fun i => Bool.rec none (some (rngL (.ofNat 1) (Int.toNat i) (.ofNat 0))) (bnd i))
def wR2 (ms : MA) : MA := fun env => ob (ms env) (fA2 fun u w => ob (asI u) fun i => ob (asI w) fun j => Bool.rec none (Bool.rec none (some (rngL (.ofNat 1) (Int.toNat (Int.sub j i)) i)) (bnd j)) (bnd i))
theorem ji_range1 {a : Expr} {ms : MA} {p pos : Pos} (hg : Gl X "range") (hm : X.mg "range" = none) (ha : PA X [a] (tA cl ms)) (hs : starEach [a] X.env = [(false, eval a X.env)] := by rfl) : PI X tg (.Call (.Name "range" p) [a] [] pos) (tW cl (wR1 ms)) :=
  (pi_range1 hg hm ha hs).wk fun σ H R ⟨F, env, us, er, e, k⟩ => by
    obtain ⟨ws, ew, e⟩ := ob_some e
    refine ⟨F, env, ws, er, ew, fun F1 H1 vs s r => ?_⟩
    obtain ⟨u, v, rfl, rfl, e, rv⟩ := fA1_some e r
    obtain ⟨i, ei, e⟩ := ob_some e
    cases hb : bnd i with
    | false => rw [hb] at e; cases e
    | true =>
      rw [hb] at e
      cases e
      obtain ⟨b1, b2⟩ := bnd_ok hb
      exact ⟨i, by rw [asI_rv ei rv], b1, b2, k F1 H1 _ s (wk_range 0 i.toNat)⟩
theorem ji_range2 {a b : Expr} {ms : MA} {p pos : Pos} (hg : Gl X "range") (hm : X.mg "range" = none) (ha : PA X [a, b] (tA cl ms)) (hs : starEach [a, b] X.env = [(false, eval a X.env), (false, eval b X.env)] := by rfl) (hs2 : starEach [b] X.env = [(false, eval b X.env)] := by rfl) :
    PI X tg (.Call (.Name "range" p) [a, b] [] pos) (tW cl (wR2 ms)) :=
  (pi_range2 hg hm ha hs hs2).wk fun σ H R ⟨F, env, us, er, e, k⟩ => by
    obtain ⟨ws, ew, e⟩ := ob_some e
    refine ⟨F, env, ws, er, ew, fun F1 H1 vs s r => ?_⟩
    obtain ⟨u, w, v, x, rfl, rfl, e, rv, rw'⟩ := fA2_some e r
    obtain ⟨i, ei, e⟩ := ob_some e
    obtain ⟨j, ej, e⟩ := ob_some e
    cases hb : bnd i with
    | false => rw [hb] at e; cases e
    | true =>
      rw [hb] at e
      cases hb2 : bnd j with
      | false => rw [hb2] at e; cases e
      | true =>
        rw [hb2] at e
        cases e
        obtain ⟨b1, b2⟩ := bnd_ok hb
        obtain ⟨b3, b4⟩ := bnd_ok hb2
        exact ⟨i, j, by rw [asI_rv ei rv, asI_rv ej rw'], ⟨b1, b2, b3, b4⟩, k F1 H1 _ s (wk_range i (j - i).toNat)⟩
/-- range(i, j, c) -/
def rg3 (i j c : Int) : Option (List U) := Bool.rec (Bool.rec none (Bool.rec none (Int.rec (motive := fun _ => Option (List U)) (fun n => some (rngL c n i)) (fun _ => none) (Builtin.Range.rangeSize i j c)) (Builtin.Range.small i j c)) (Nat.ble (Int.natAbs c) 1073741823)) none (ieq c (.ofNat 0))
theorem rg3_some {i j c : Int} {us : List U} (h : rg3 i j c = some us) : ∃ n, RgC i j c n ∧ us = rngL c n i := by
  unfold rg3 at h
  cases h1 : ieq c (.ofNat 0) with
  | true => rw [h1] at h; cases h
  | false =>
    rw [h1] at h
    cases h2 : Nat.ble (Int.natAbs c) 1073741823 with
    | false => rw [h2] at h; cases h
    | true =>
      rw [h2] at h
      cases h3 : Builtin.Range.small i j c with
      | false => rw [h3] at h; cases h
      | true =>
        rw [h3] at h
        cases h4 : Builtin.Range.rangeSize i j c with
        | negSucc n => rw [h4] at h; cases h
        | ofNat n =>
          rw [h4] at h
          cases h
          rw [ieq_eq] at h1
          have h5 := Nat.le_of_ble_eq_true h2
          exact ⟨n, ⟨of_decide_eq_false h1, by omega, h3, h4⟩, rfl⟩
def fA3 {α : Type} (f : U → U → U → Option α) (us : List U) : Option α := List.casesOn (motive := fun _ => Option α) us none fun x r => fA2 (f x) r
theorem fA3_some {α : Type} {f : U → U → U → Option α} {us : List U} {a : α} {xs : List V} (h : fA3 f us = some a) (r : RvL cl F H us xs) : ∃ u w z v x y, us = [u, w, z] ∧ xs = [v, x, y] ∧ f u w z = some a ∧ Rv cl F H u v ∧ Rv cl F H w x ∧ Rv cl F H z y := by
  rcases us with _ | ⟨u, us⟩
  · cases h
  · rcases xs with _ | ⟨v, xs⟩
    · exact r.elim
    · obtain ⟨w, z, x, y, rfl, rfl, e, r1, r2⟩ := fA2_some (f := f u) h r.2
      exact ⟨u, w, z, v, x, y, rfl, rfl, e, r.1, r1, r2⟩
def wR3 (ms : MA) : MA := fun env => ob (ms env) (fA3 fun u w z => ob (asI u) fun i => ob (asI w) fun j => ob (asI z) fun c => rg3 i j c)
theorem ji_range3 {a b c : Expr} {ms : MA} {p pos : Pos} (hg : Gl X "range") (hm : X.mg "range" = none) (ha : PA X [a, b, c] (tA cl ms)) (hs : starEach [a, b, c] X.env = (false, eval a X.env) :: starEach [b, c] X.env := by rfl)
    (hpl : (backTo pos (starEach [b, c] X.env)).any (·.1) = false := by rfl) : PI X tg (.Call (.Name "range" p) [a, b, c] [] pos) (tW cl (wR3 ms)) :=
  (pi_range3 hg hm ha hs hpl).wk fun σ H R ⟨F, env, us, er, e, k⟩ => by
    obtain ⟨ws, ew, e⟩ := ob_some e
    refine ⟨F, env, ws, er, ew, fun F1 H1 vs s r => ?_⟩
    obtain ⟨u, w, z, v, x, y, rfl, rfl, e, r1, r2, r3⟩ := fA3_some e r
    obtain ⟨i, ei, e⟩ := ob_some e
    obtain ⟨j, ej, e⟩ := ob_some e
    obtain ⟨c', ec, e⟩ := ob_some e
    obtain ⟨n, hn, rfl⟩ := rg3_some e
    exact ⟨i, j, c', n, by rw [asI_rv ei r1, asI_rv ej r2, asI_rv ec r3], hn, k F1 H1 _ s (wk_rangeC i c' n)⟩

/-! ### comprehensions -/
def wipeU (env : List U) (vs : List Nat) : List U := List.rec (motive := fun _ => List U) env (fun v _ r => lset r v .no) vs
theorem wipe_er {F H : Hp} {env : List U} {σ : Sig} (er : ER cl F H env σ) : ∀ vs : List Nat, ER cl F H (wipeU env vs) (wipe σ vs)
  | [] => er
  | v :: vs => by
    have ih := wipe_er er vs
    refine ⟨ih.sb, ?_, fun i u h => ?_⟩
    · show (lset (wipeU env vs) v .no).length = ((wipe σ vs).set v none).length
      rw [lset_eq, List.length_set, List.length_set, ih.len]
    have h' : (lset (wipeU env vs) v .no)[i]? = some u := h
    rw [lset_eq] at h'
    by_cases q : v = i
    · subst q
      rw [List.getElem?_set] at h'
      simp only [if_true] at h'
      split at h'
      · exact .inl (Option.some.inj h').symm
      · cases h'
    · rw [List.getElem?_set_ne q] at h'
      refine (ih.slot i u h').imp id fun ⟨w, h1, h2⟩ => ⟨w, ?_, h2⟩
      show ((wipe σ vs).set v none)[i]? = _
      rw [List.getElem?_set_ne q]
      exact h1
/-- targets of a loop: one name, two names -/
inductive Tg where
  | one (i : Nat) | two (i j : Nat)
def Tg.put (t : Tg) (u : U) (env : List U) : Option (List U) := Tg.rec (motive := fun _ => Option (List U)) (fun i => some (lset env i u)) (fun i j => ob (asT u) (fA2 fun a b => some (lset (lset env i a) j b))) t
/-- a slot set to a frozen value -/
theorem ER.set {F H : Hp} {env : List U} {σ : Sig} (er : ER cl F H env σ) (i : Nat) {u : U} {v : V} (r : Rp cl F u v) : ER cl F H (lset env i u) (σ.set i (some v)) := by
  refine ⟨er.sb, by rw [lset_eq, List.length_set, List.length_set, er.len], fun j w h => ?_⟩
  rw [lset_eq] at h
  by_cases q : i = j
  · subst q
    rw [List.getElem?_set] at h
    simp only [if_true] at h
    split at h
    · rename_i hlt
      cases h
      refine .inr ⟨v, ?_, Rv.of r⟩
      rw [List.getElem?_set]
      simp only [if_true]
      rw [if_pos (by rw [← er.len]; exact hlt)]
    · cases h
  · rw [List.getElem?_set_ne q] at h
    refine (er.slot j w h).imp id fun ⟨x, h1, h2⟩ => ⟨x, ?_, h2⟩
    rw [List.getElem?_set_ne q]
    exact h1
def PutR (cl : Cl) (t : Tg) (F : Hp) (u : U) (env env' : List U) (σ σ' : Sig) : Prop := match t with
  | .one i => env' = lset env i u ∧ ∃ v, Rp cl F u v ∧ σ' = σ.set i (some v)
  | .two i j => ∃ a b v w, Rp cl F a v ∧ Rp cl F b w ∧ env' = lset (lset env i a) j b ∧ σ' = (σ.set i (some v)).set j (some w)
def Tg.slots : Tg → List Nat
  | .one i => [i]
  | .two i j => [i, j]
def tG (cl : Cl) (t : Tg) : TG := fun v σ H Q => ∃ F u env env', Sb F H ∧ Rp cl F u v ∧ t.put u env = some env' ∧ ∀ σ', PutR cl t F u env env' σ σ' → Q σ' H
theorem ER.put {F H : Hp} {env env' : List U} {σ σ' : Sig} {t : Tg} {u : U} (er : ER cl F H env σ) (p : PutR cl t F u env env' σ σ') : ER cl F H env' σ' := by
  cases t with
  | one i =>
    obtain ⟨rfl, v, r, rfl⟩ := p
    exact er.set i r
  | two i j =>
    obtain ⟨a, b, v, w, r1, r2, rfl, rfl⟩ := p
    exact (er.set i r1).set j r2
theorem jg_one {i : Nat} {x : Str} {pos : Pos} (h : PG X (.Name x pos) (gName i)) : PG X (.Name x pos) (tG cl (.one i)) :=
  ⟨fun pins s σ H v u Q I r ⟨F, w, env, env', sb, rp, e, k⟩ => h.run pins s σ H v u Q I r (by
    cases e
    exact k _ ⟨rfl, v, rp, rfl⟩)⟩
theorem jg_two {i j : Nat} {x y : Expr} {kk : Nat} {pos : Pos} (h : PG X (.Tuple [x, y] kk pos) (gTup X.K 2 (gCons (gName i) (gCons (gName j) gNil)))) : PG X (.Tuple [x, y] kk pos) (tG cl (.two i j)) :=
  ⟨fun pins s σ H v u Q I r ⟨F, w, env, env', sb, rp, e, k⟩ => h.run pins s σ H v u Q I r (by
    obtain ⟨us, eu, e⟩ := ob_some (show ob (asT w) (fA2 fun a b => some (lset (lset env i a) j b)) = some env' from e)
    obtain ⟨a, vs, rfl, fa, ha, hr⟩ := asT_rv (H := H) eu sb (Rv.of rp)
    rcases us with _ | ⟨ua, _ | ⟨ub, _ | ⟨uc, us⟩⟩⟩
    · cases e
    · cases e
    · cases e
      rcases vs with _ | ⟨va, _ | ⟨vb, _ | ⟨vc, vs⟩⟩⟩
      · simp only [RpL] at hr
      · simp only [RpL, and_false] at hr
      · simp only [RpL] at hr
        exact ⟨a, [va, vb], rfl, SqT.of ha, rfl, va, [vb], rfl, vb, [], rfl, rfl, k _ ⟨ua, ub, va, vb, hr.1, hr.2.1, rfl, rfl⟩⟩
      · simp only [RpL, and_false] at hr
    · cases e)⟩
theorem wipe_in {σ : Sig} {i : Nat} : ∀ {vs : List Nat}, i ∈ vs → i < σ.length → (wipe σ vs)[i]? = some none
  | v :: vs, h, hl => by
    show ((wipe σ vs).set v none)[i]? = _
    by_cases q : v = i
    · subst q
      rw [List.getElem?_set]
      simp only [if_true]
      rw [if_pos (by rw [wipe_length]; exact hl)]
    · rw [List.getElem?_set_ne q]
      exact wipe_in ((List.mem_cons.mp h).resolve_left fun z => q z.symm) hl
theorem wipe_ext {σ τ : Sig} {vs : List Nat} (hl : σ.length = τ.length) (h : ∀ i, i ∉ vs → σ[i]? = τ[i]?) : wipe σ vs = wipe τ vs := by
  apply List.ext_getElem?
  intro i
  by_cases q : i ∈ vs
  · by_cases z : i < σ.length
    · rw [wipe_in q z, wipe_in q (by omega)]
    · rw [List.getElem?_eq_none (by rw [wipe_length]; omega), List.getElem?_eq_none (by rw [wipe_length]; omega)]
  · rw [wipe_out q, wipe_out q, h i q]
theorem wipe_put {t : Tg} {F : Hp} {u : U} {env env' : List U} {σ σ' : Sig} {vs : List Nat} (hs : ∀ i ∈ t.slots, i ∈ vs) (p : PutR cl t F u env env' (wipe σ vs) σ') : wipe σ' vs = wipe σ vs := by
  have key : ∀ i, i ∉ vs → σ'[i]? = σ[i]? := fun i hi => by
    cases t with
    | one a =>
      obtain ⟨_, v, _, rfl⟩ := p
      rw [List.getElem?_set_ne (fun z => hi (by rw [← z]; exact hs a (by simp [Tg.slots]))), wipe_out hi]
    | two a b =>
      obtain ⟨_, _, v, w, _, _, _, rfl⟩ := p
      rw [List.getElem?_set_ne (fun z => hi (by rw [← z]; exact hs b (by simp [Tg.slots]))), List.getElem?_set_ne (fun z => hi (by rw [← z]; exact hs a (by simp [Tg.slots]))), wipe_out hi]
  refine wipe_ext ?_ key
  cases t with
  | one a =>
    obtain ⟨_, v, _, rfl⟩ := p
    rw [List.length_set, wipe_length]
  | two a b =>
    obtain ⟨_, _, v, w, _, _, _, rfl⟩ := p
    rw [List.length_set, List.length_set, wipe_length]
/-- a new object changes -/
theorem Stp.mut {F H F1 H1 : Hp} {D : Addr} {o : HO} (s : Stp F H F1 H1) (n : H D = none) (nf : F1 D = none) : Stp F H F1 (upd H1 D o) := by
  refine ⟨s.ff, fun a u e => ?_, fun a u e => ?_, s.new⟩
  · rw [upd_ne (ne_of_none e nf)]
    exact s.fh a u e
  · rw [upd_ne (ne_of_none e n)]
    exact s.hh a u e
abbrev MT := List U → Option Bool
def tYs : MT := fun _ => some true
def chk (u : U) : Option U := Bool.rec (some u) none (U.own u)
theorem chk_some {u w : U} (h : chk u = some w) : u = w ∧ u.own = false := by
  unfold chk at h
  cases q : U.own u with
  | true => rw [q] at h; cases h
  | false => rw [q] at h; exact ⟨Option.some.inj h, rfl⟩
def lcG (t : Tg) (mt : MT) (me : M) (env : List U) (us : List U) : Option (List U) :=
  List.rec (motive := fun _ => Option (List U)) (some []) (fun u _ r => ob (t.put u env) fun e1 => ob (mt e1) fun b => Bool.rec r (ob (me e1) fun y => ob (chk y) fun y => ob r fun ys => some (y :: ys)) b) us
def lLc (w : MA) (t : Tg) (mt : MT) (me : M) (vs : List Nat) : MA := fun env => ob (w env) fun us => ob (lcG t mt me (wipeU env vs) us) szL
theorem tLc_of {w : MA} {t : Tg} {mt : MT} {me : M} {vs : List Nat} (hs : ∀ i ∈ t.slots, i ∈ vs) (σ : Sig) (H : Hp) (Q : VK) (h : tL cl (lLc w t mt me vs) σ H Q) : tLc (tW cl w) (tG cl t) (tT cl mt) (tM cl me) vs σ H Q := by
  obtain ⟨F, env, ws, er, e, k⟩ := h
  obtain ⟨us, ew, e⟩ := ob_some e
  obtain ⟨ws', el, e⟩ := ob_some e
  obtain ⟨rfl, hz⟩ := szL_some e
  refine ⟨F, env, us, er, ew, fun F1 H1 J s1 wk D hD => ?_⟩
  have nF : F1 D = none := s1.fh.none hD
  have n0 : H D = none := by
    cases q : H D with
    | none => rfl
    | some o => rw [s1.hh D o q] at hD; cases hD
  refine ⟨fun i m H2 => m = us.length - i ∧ i ≤ us.length ∧ ∃ (F2 : Hp) (ua : List U) (acc : List V) (rest : List U), Stp F1 H1 F2 H2 ∧ F2 D = none ∧ H2 D = some (.lst acc) ∧ RpL cl F2 ua acc ∧ lcG t mt me (wipeU env vs) (us.drop i) = some rest ∧ ua ++ rest = ws',
    ⟨us.length, rfl, Nat.zero_le _, F1, [], [], ws', Stp.lay s1.fh hD, nF, upd_same, by simp only [RpL], el, rfl⟩, ?_⟩
  rintro i m H2 ⟨rfl, hi, F2, ua, acc, rest, s2, nF2, hD2, ra, er2, eq⟩
  obtain ⟨stop, go⟩ := wk F2 H2 s2.ff s2.fh
  by_cases hlt : i < us.length
  · right
    obtain ⟨g1, g2⟩ := go i us[i] (List.getElem?_eq_getElem hlt)
    rw [List.drop_eq_getElem_cons hlt] at er2
    obtain ⟨env1, ep, er3⟩ := ob_some (show ob (t.put us[i] (wipeU env vs)) (fun e1 => ob (mt e1) fun b => Bool.rec (lcG t mt me (wipeU env vs) (us.drop (i + 1))) (ob (me e1) fun y => ob (chk y) fun y => ob (lcG t mt me (wipeU env vs) (us.drop (i + 1))) fun ys => some (y :: ys)) b) = some rest from er2)
    obtain ⟨b, eb, er3⟩ := ob_some er3
    refine ⟨g1, fun H' => i + 1 ≤ us.length ∧ ∃ (F2 : Hp) (ua : List U) (acc : List V) (rest : List U), Stp F1 H1 F2 H' ∧ F2 D = none ∧ H' D = some (.lst acc) ∧ RpL cl F2 ua acc ∧ lcG t mt me (wipeU env vs) (us.drop (i + 1)) = some rest ∧ ua ++ rest = ws',
      fun H' ⟨q1, q2⟩ => ⟨us.length - (i + 1), by omega, rfl, q1, q2⟩, fun x H3 y => ?_⟩
    obtain ⟨F3, s3, rx⟩ := g2 x H3 y
    refine ⟨F3, us[i], wipeU env vs, env1, s3.fh, rx, ep, fun σ' p => ⟨wipe_put hs p, ?_⟩⟩
    have s13 := s2.trans s3
    have nF3 : F3 D = none := by
      cases q : F3 D with
      | none => rfl
      | some o =>
        rcases s3.new D o q with z | z
        · rw [nF2] at z; cases z
        · obtain ⟨_, z⟩ := z _ (hD2); cases z
    have er1 : ER cl F3 H3 env1 σ' := ((wipe_er (er.step s1) vs).step s13).put p
    refine ⟨F3, env1, b, er1, eb, fun F4 H4 s4 => ?_⟩
    have s14 := s13.trans s4
    have hD4 : H4 D = some (.lst acc) := s4.hh _ _ (s3.hh _ _ hD2)
    have nF4 : F4 D = none := by
      cases q : F4 D with
      | none => rfl
      | some o =>
        rcases s4.new D o q with z | z
        · rw [nF3] at z; cases z
        · obtain ⟨_, z⟩ := z _ (s3.hh _ _ hD2); cases z
    have ra4 : RpL cl F4 ua acc := ra.mono (s3.ff.trans s4.ff)
    cases b with
    | false =>
      exact ⟨hlt, F4, ua, acc, rest, s14, nF4, hD4, ra4, er3, eq⟩
    | true =>
      obtain ⟨y0, ey, er3⟩ := ob_some er3
      obtain ⟨y1, ey1, er3⟩ := ob_some er3
      obtain ⟨ys, eys, er3⟩ := ob_some er3
      obtain ⟨rfl, ho⟩ := chk_some ey1
      cases er3
      refine ⟨F4, env1, y0, er1.step s4, ey, fun F5 H5 z s5 rz => ?_⟩
      have hD5 : H5 D = some (.lst acc) := s5.hh _ _ hD4
      have nF5 : F5 D = none := by
        cases q : F5 D with
        | none => rfl
        | some o =>
          rcases s5.new D o q with z | z
          · rw [nF4] at z; cases z
          · obtain ⟨_, z⟩ := z _ (hD4); cases z
      have hl : acc.length ≤ 100000 := by
        rw [← ra.len]
        have := congrArg List.length eq
        rw [List.length_append] at this
        omega
      refine ⟨acc, hD5, ?_, hlt, F5, ua ++ [y0], acc ++ [z], ys, (s14.trans s5).mut hD nF5, nF5, upd_same, (ra4.mono s5.ff).app (RpL.one (rz.rp ho)), eys, by rw [List.append_assoc]; exact eq⟩
      rw [sizeLine_eq]
      omega
  · left
    have hi' : i = us.length := by omega
    subst hi'
    rw [List.drop_length] at er2
    have e0 : (some [] : Option (List U)) = some rest := er2
    cases e0
    rw [List.append_nil] at eq
    subst eq
    exact ⟨stop, k F2 H2 D acc (s1.trans s2) n0 nF2 hD2 ra⟩
theorem jts_nil : PTs X [] (tT cl tYs) := ⟨fun pins s σ H Q I ⟨F, env, b, er, e, k⟩ => by
  cases e
  exact pts_nil.run pins s σ H Q I (k F H (Stp.refl er.sb))⟩
theorem jts_one {c : Expr} {m : MT} (h : PT X c (tT cl m)) : PTs X [c] (tT cl m) := pts_one h
theorem jl_lc {elt tg iter : Expr} {ifs : List Expr} {scope : Scope} {own : List (Str × Nat)} {pos : Pos} {w : MA} {t : Tg} {mt : MT} {me : M} (hc : X.calm = true) (hN : X.N.Nodup) (hi : PI X tg iter (tW cl w)) (ok : blkC X.N X.env.scope scope own = true)
    (hg : ∀ (s : Shared) (H : Hp) (C : Addr) (cs : List (Str × Addr)) (fp : List Addr), PG (X.blk s H scope (compEnvC scope cs C X.env) fp) tg (tG cl t)) (ht : ∀ (s : Shared) (H : Hp) (C : Addr) (cs : List (Str × Addr)) (fp : List Addr), PTs (X.blk s H scope (compEnvC scope cs C X.env) fp) ifs (tT cl mt))
    (he : ∀ (s : Shared) (H : Hp) (C : Addr) (cs : List (Str × Addr)) (fp : List Addr), PE (X.blk s H scope (compEnvC scope cs C X.env) fp) elt (tM cl me)) (hs : ∀ x, foldedSetIterable iter X.env x = pure x := by intro _; rfl) (hsl : ∀ i ∈ t.slots, i ∈ own.map (·.2) := by decide) :
    PE X (.ListComp elt [⟨tg, iter, ifs, 0⟩] scope pos) (tL cl (lLc w t mt me (own.map (·.2)))) := (pe_lc hc hN hi (blkOk_by ok) hg ht he hs).wk (tLc_of hsl)
end
end Ct
end
end
section
set_option Elab.async false
set_option linter.all false
set_option maxRecDepth 100000
set_option maxHeartbeats 4000000
noncomputable section
namespace Ct
open PySem PySem.Spec PyProof.Rows L2

/-! ### statements -/
inductive Out where
  | nx (env : List U) | rt (u : U) | br (env : List U) | ct (env : List U)
abbrev MS := List U → Option Out
/-- a slot's own object -/
def U.mut : U → Bool
  | .ol _ => true
  | .dk _ _ => true
  | .dt _ _ => true
  | .oi _ _ => true
  | _ => false
structure SR (cl : Cl) (F0 H0 F H : Hp) (env : List U) (σ : Sig) : Prop where
  er : ER cl F H env σ
  stp : Stp F0 H0 F H
  own : ∀ (i : Nat) u a, env[i]? = some u → u.mut = true → σ[i]? = some (some (.ref a)) → F a = none ∧ H0 a = none
  sep : ∀ (i j : Nat) u w a, i ≠ j → env[i]? = some u → env[j]? = some w → u.mut = true → w.mut = true → σ[i]? = some (some (.ref a)) → σ[j]? = some (some (.ref a)) → False
def Kt (cl : Cl) (F0 H0 : Hp) (D : Ends) : Out → Prop
  | .nx env => ∀ F H σ, SR cl F0 H0 F H env σ → D.nx σ H
  | .br env => ∀ F H σ, SR cl F0 H0 F H env σ → D.bk σ H
  | .ct env => ∀ F H σ, SR cl F0 H0 F H env σ → D.ct σ H
  | .rt u => ∀ F H v, Stp F0 H0 F H → Rp cl F u v → D.rt v H
def tS (cl : Cl) (m : MS) : TS := fun D σ H => ∃ F0 H0 F env o, SR cl F0 H0 F H env σ ∧ m env = some o ∧ Kt cl F0 H0 D o

section
variable {cl : Cl} {F0 H0 F H F' H' : Hp} {env : List U} {σ : Sig} {X : Cx} {K : PySem.W.Frag}
theorem mut_rv {u : U} {v : V} (m : u.mut = true) (r : Rv cl F H u v) : ∃ a o, v = .ref a ∧ H a = some o ∧ ∀ xs, o ≠ .tup xs := by
  cases u <;> first | exact absurd m Bool.false_ne_true | skip
  · obtain ⟨a, vs, h1, h2, _⟩ := r; exact ⟨a, _, h1, h2, fun _ z => nomatch z⟩
  · obtain ⟨a, vs, h1, h2, _⟩ := r; exact ⟨a, _, h1, h2, fun _ z => nomatch z⟩
  · obtain ⟨a, vs, h1, h2, _⟩ := r; exact ⟨a, _, h1, h2, fun _ z => nomatch z⟩
  · obtain ⟨vs, h1, h2, _⟩ := r; exact ⟨_, _, h1, h2, fun _ z => nomatch z⟩
theorem mut_own {u : U} (h : u.own = false) : u.mut = false := by cases u <;> first | rfl | cases h
theorem SR.there (s : SR cl F0 H0 F H env σ) {i : Nat} {u : U} {a : Addr} (h : env[i]? = some u) (m : u.mut = true) (q : σ[i]? = some (some (.ref a))) : ∃ o, H a = some o ∧ ∀ xs, o ≠ .tup xs := by
  rcases s.er.slot i u h with z | ⟨v, h1, h2⟩
  · subst z; cases m
  · obtain ⟨b, o, rfl, ho, hn⟩ := mut_rv m h2
    rw [q] at h1
    cases h1
    exact ⟨o, ho, hn⟩
theorem SR.step (s : SR cl F0 H0 F H env σ) (t : Stp F H F' H') : SR cl F0 H0 F' H' env σ := by
  refine ⟨s.er.step t, s.stp.trans t, fun i u a h m q => ?_, s.sep⟩
  obtain ⟨o, ho, hnt⟩ := s.there h m q
  obtain ⟨n1, n2⟩ := s.own i u a h m q
  refine ⟨?_, n2⟩
  cases z : F' a with
  | none => rfl
  | some w =>
    rcases t.new a w z with y | y
    · rw [n1] at y; cases y
    · obtain ⟨xs, y⟩ := y _ ho; exact absurd y (hnt xs)
theorem get_lset {α : Type} {xs : List α} {i j : Nat} {v w : α} (h : (lset xs i v)[j]? = some w) : (j = i ∧ w = v) ∨ (j ≠ i ∧ xs[j]? = some w) := by
  rw [lset_eq] at h
  by_cases q : i = j
  · subst q
    rw [List.getElem?_set] at h
    simp only [if_true] at h
    split at h
    · exact .inl ⟨rfl, (Option.some.inj h).symm⟩
    · cases h
  · rw [List.getElem?_set_ne q] at h
    exact .inr ⟨fun z => q z.symm, h⟩
/-- a slot is set to a frozen value -/
theorem SR.set (s : SR cl F0 H0 F H env σ) (i : Nat) {u : U} {v : V} (r : Rp cl F u v) (n : u.own = false) : SR cl F0 H0 F H (lset env i u) (σ.set i (some v)) := by
  refine ⟨s.er.set i r, s.stp, fun j w a h m q => ?_, fun j k w z a jk h1 h2 m1 m2 q1 q2 => ?_⟩
  · rcases get_lset h with ⟨rfl, rfl⟩ | ⟨hj, h⟩
    · rw [mut_own n] at m; cases m
    · rw [List.getElem?_set_ne (Ne.symm hj)] at q
      exact s.own j w a h m q
  · rcases get_lset h1 with ⟨rfl, rfl⟩ | ⟨hj, h1⟩
    · rw [mut_own n] at m1; cases m1
    · rcases get_lset h2 with ⟨rfl, rfl⟩ | ⟨hk, h2⟩
      · rw [mut_own n] at m2; cases m2
      · rw [List.getElem?_set_ne (Ne.symm hj)] at q1
        rw [List.getElem?_set_ne (Ne.symm hk)] at q2
        exact s.sep j k w z a jk h1 h2 m1 m2 q1 q2
/-- a slot is set to a new object of its own -/
theorem SR.setOwn (s : SR cl F0 H0 F H env σ) (t : Stp F H F' H') (i : Nat) {u : U} {p : Addr} (n : H p = none) (nf : F' p = none) (r : Rv cl F' H' u (.ref p)) : SR cl F0 H0 F' H' (lset env i u) (σ.set i (some (.ref p))) := by
  have s' := s.step t
  have n0 : H0 p = none := by
    cases q : H0 p with
    | none => rfl
    | some o => rw [s.stp.hh p o q] at n; cases n
  refine ⟨⟨t.fh, by rw [lset_eq, List.length_set, List.length_set, s.er.len], fun j w h => ?_⟩, s'.stp, fun j w a h m q => ?_, fun j k w z a jk h1 h2 m1 m2 q1 q2 => ?_⟩
  · rcases get_lset h with ⟨rfl, rfl⟩ | ⟨hj, h⟩
    · refine .inr ⟨_, ?_, r⟩
      rw [List.getElem?_set]
      simp only [if_true]
      have hl : j < (lset env j w).length := (List.getElem?_eq_some_iff.mp h).1
      rw [lset_eq, List.length_set, s.er.len] at hl
      rw [if_pos hl]
    · refine (s'.er.slot j w h).imp id fun ⟨x, h1, h2⟩ => ⟨x, ?_, h2⟩
      rw [List.getElem?_set_ne (Ne.symm hj)]
      exact h1
  · rcases get_lset h with ⟨rfl, rfl⟩ | ⟨hj, h⟩
    · rw [List.getElem?_set] at q
      simp only [if_true] at q
      split at q
      · cases q; exact ⟨nf, n0⟩
      · cases q
    · rw [List.getElem?_set_ne (Ne.symm hj)] at q
      exact s'.own j w a h m q
  · have ne : ∀ {j : Nat} {w : U} {a : Addr}, env[j]? = some w → w.mut = true → σ[j]? = some (some (.ref a)) → a ≠ p := fun {j w a} h m q z => by
      subst z
      obtain ⟨o, ho, _⟩ := s.there h m q
      rw [ho] at n
      cases n
    have at_ : ∀ {a : Addr}, (σ.set i (some (.ref p)))[i]? = some (some (.ref a)) → a = p := fun {a} q => by
      rw [List.getElem?_set] at q
      simp only [if_true] at q
      split at q
      · cases q; rfl
      · cases q
    rcases get_lset h1 with ⟨rfl, rfl⟩ | ⟨hj, g1⟩
    · rcases get_lset h2 with ⟨rfl, rfl⟩ | ⟨hk, h2⟩
      · exact jk rfl
      · rw [List.getElem?_set_ne (Ne.symm hk)] at q2
        exact ne h2 m2 q2 (at_ q1)
    · rw [List.getElem?_set_ne (Ne.symm hj)] at q1
      rcases get_lset h2 with ⟨rfl, rfl⟩ | ⟨hk, h2⟩
      · exact ne g1 m1 q1 (at_ q2)
      · rw [List.getElem?_set_ne (Ne.symm hk)] at q2
        exact s.sep j k w z a jk g1 h2 m1 m2 q1 q2
/-- a slot's own object is changed -/
theorem SR.change (s : SR cl F0 H0 F H env σ) {i : Nat} {u w : U} {a : Addr} {o : HO} (h : env[i]? = some u) (m : u.mut = true) (q : σ[i]? = some (some (.ref a))) (r : Rv cl F (upd H a o) w (.ref a)) : SR cl F0 H0 F (upd H a o) (lset env i w) σ := by
  obtain ⟨nf, n0⟩ := s.own i u a h m q
  have far : ∀ {j : Nat} {x : U} {v : V}, j ≠ i → env[j]? = some x → σ[j]? = some (some v) → Rv cl F H x v → Rv cl F (upd H a o) x v := fun {j x v} hj hx hv rv => by
    by_cases mx : x.mut = true
    · have nb : ∀ b, v = .ref b → b ≠ a := fun b e z => by
        subst z; subst e
        exact s.sep i j u x b (Ne.symm hj) h hx m mx q hv
      cases x <;> first | exact absurd mx Bool.false_ne_true | skip
      · obtain ⟨b, vs, h1, h2, h3⟩ := rv; exact ⟨b, vs, h1, by rw [upd_ne (nb b h1)]; exact h2, h3⟩
      · obtain ⟨b, vs, h1, h2, h3⟩ := rv; exact ⟨b, vs, h1, by rw [upd_ne (nb b h1)]; exact h2, h3⟩
      · obtain ⟨b, vs, h1, h2, h3⟩ := rv; exact ⟨b, vs, h1, by rw [upd_ne (nb b h1)]; exact h2, h3⟩
      · obtain ⟨vs, h1, h2, h3⟩ := rv; exact ⟨vs, h1, by rw [upd_ne (nb _ h1)]; exact h2, h3⟩
    · cases x <;> first | exact absurd rfl mx | exact rv
  refine ⟨⟨fun b x e => ?_, by rw [lset_eq, List.length_set, s.er.len], fun j x hx => ?_⟩, ⟨s.stp.ff, fun b x e => ?_, fun b x e => ?_, s.stp.new⟩, fun j x b hx mx hb => ?_, fun j k x y b jk hx hy mx my hb hc => ?_⟩
  · rw [upd_ne (ne_of_none e nf)]; exact s.er.sb b x e
  · rcases get_lset hx with ⟨rfl, rfl⟩ | ⟨hj, hx⟩
    · exact .inr ⟨_, q, r⟩
    · exact (s.er.slot j x hx).imp id fun ⟨v, h1, h2⟩ => ⟨v, h1, far hj hx h1 h2⟩
  · rw [upd_ne (ne_of_none e nf)]; exact s.er.sb b x e
  · rw [upd_ne (ne_of_none e n0)]; exact s.stp.hh b x e
  · rcases get_lset hx with ⟨rfl, rfl⟩ | ⟨hj, hx⟩
    · rw [q] at hb; cases hb; exact ⟨nf, n0⟩
    · exact s.own j x b hx mx hb
  · rcases get_lset hx with ⟨rfl, rfl⟩ | ⟨hj, gx⟩
    · rcases get_lset hy with ⟨rfl, rfl⟩ | ⟨hk, hy⟩
      · exact jk rfl
      · exact s.sep j k u y b jk h hy m my hb hc
    · rcases get_lset hy with ⟨rfl, rfl⟩ | ⟨hk, hy⟩
      · exact s.sep j k x u b jk gx h mx m hb hc
      · exact s.sep j k x y b jk gx hy mx my hb hc
/-- a slot's own list is frozen -/
theorem SR.freeze (s : SR cl F0 H0 F H env σ) {i : Nat} {us : List U} (h : env[i]? = some (.ol us)) : ∃ F', SR cl F0 H0 F' H (lset env i (.lst us)) σ := by
  rcases s.er.slot i _ h with z | ⟨v, hv, a, vs, rfl, ha, r⟩
  · cases z
  obtain ⟨nf, n0⟩ := s.own i _ a h rfl hv
  have t : Sb F (upd F a (.lst vs)) := Sb.new nf
  have sb : Sb (upd F a (.lst vs)) H := fun b x e => by
    by_cases q : b = a
    · subst q; rw [upd_same] at e; cases e; exact ha
    · rw [upd_ne q] at e; exact s.er.sb b x e
  have mono : ∀ {x : U} {w : V}, Rv cl F H x w → Rv cl (upd F a (.lst vs)) H x w := fun {x w} rw' => by
    cases x
    case ol => obtain ⟨b, z, h1, h2, h3⟩ := rw'; exact ⟨b, z, h1, h2, h3.mono t⟩
    case dk => obtain ⟨b, z, h1, h2, h3, h4⟩ := rw'; exact ⟨b, z, h1, h2, h3, h4.mono t⟩
    case dt => obtain ⟨b, z, h1, h2, h3, h4⟩ := rw'; exact ⟨b, z, h1, h2, h3, h4.mono t⟩
    case oi => obtain ⟨z, h1, h2, h3, h4⟩ := rw'; exact ⟨z, h1, h2, h3, h4.mono t⟩
    all_goals exact Rp.mono (cl := cl) t rw'
  refine ⟨upd F a (.lst vs), ⟨sb, by rw [lset_eq, List.length_set, s.er.len], fun j x hx => ?_⟩, ⟨s.stp.ff.trans t, sb, s.stp.hh, fun b x e => ?_⟩, fun j x b hx mx hb => ?_, fun j k x y b jk hx hy mx my hb hc => ?_⟩
  · rcases get_lset hx with ⟨rfl, rfl⟩ | ⟨hj, hx⟩
    · refine .inr ⟨_, hv, ?_⟩
      simp only [Rv, Rp]
      exact ⟨a, vs, rfl, upd_same, r.mono t⟩
    · exact (s.er.slot j x hx).imp id fun ⟨w, h1, h2⟩ => ⟨w, h1, mono h2⟩
  · by_cases q : b = a
    · subst q; exact .inr (fz_none n0)
    · rw [upd_ne q] at e; exact s.stp.new b x e
  · rcases get_lset hx with ⟨rfl, rfl⟩ | ⟨hj, hx⟩
    · cases mx
    · obtain ⟨n1, n2⟩ := s.own j x b hx mx hb
      refine ⟨?_, n2⟩
      rw [upd_ne (fun z => s.sep i j _ x a (Ne.symm hj) h hx rfl mx hv (by rw [← z]; exact hb))]
      exact n1
  · rcases get_lset hx with ⟨rfl, rfl⟩ | ⟨hj, hx⟩
    · cases mx
    · rcases get_lset hy with ⟨rfl, rfl⟩ | ⟨hk, hy⟩
      · cases my
      · exact s.sep j k x y b jk hx hy mx my hb hc

/-! assignments, ends -/
def sSet (i : Nat) (m : M) : MS := fun env => ob (m env) fun u => ob (chk u) fun u => some (.nx (lset env i u))
theorem js_set {i : Nat} {x : Str} {e : Expr} {m : M} {pos pos' : Pos} (h : ∀ te, PE X e te → PS X (.Assign [.Name x pos'] e pos) (tAsg te (gName i))) (he : PE X e (tM cl m)) : PS X (.Assign [.Name x pos'] e pos) (tS cl (sSet i m)) :=
  (h _ he).wk fun D σ H ⟨F0, H0, F, env, o, sr, e, k⟩ => by
    obtain ⟨u, eu, e⟩ := ob_some e
    obtain ⟨w, ew, e⟩ := ob_some e
    obtain ⟨rfl, hn⟩ := chk_some ew
    cases e
    exact ⟨F, env, u, sr.er, eu, fun F1 H1 v s r => k F1 H1 _ ((sr.step s).set i (r.rp hn) hn)⟩
def sOwn (i : Nat) (m : MA) : MS := fun env => ob (m env) fun us => some (.nx (lset env i (.ol us)))
theorem js_own {i : Nat} {x : Str} {e : Expr} {m : MA} {pos pos' : Pos} (h : ∀ te, PE X e te → PS X (.Assign [.Name x pos'] e pos) (tAsg te (gName i))) (he : PE X e (tL cl m)) : PS X (.Assign [.Name x pos'] e pos) (tS cl (sOwn i m)) :=
  (h _ he).wk fun D σ H ⟨F0, H0, F, env, o, sr, e, k⟩ => by
    obtain ⟨us, eu, e⟩ := ob_some e
    cases e
    exact ⟨F, env, us, sr.er, eu, fun F1 H1 p vs s n nf hp r => k F1 H1 _ (sr.setOwn s i n nf ⟨p, vs, rfl, hp, r⟩)⟩
/-- by a reading that is not a PE (a comprehension given to a name) -/
theorem js_own' {i : Nat} {st : Stmt} {te : TE} {m : MA} (h : PS X st (tAsg te (gName i))) (w : ∀ σ H Q, tL cl m σ H Q → te σ H Q) : PS X st (tS cl (sOwn i m)) :=
  h.wk fun D σ H ⟨F0, H0, F, env, o, sr, e, k⟩ => by
    obtain ⟨us, eu, e⟩ := ob_some e
    cases e
    exact w σ H _ ⟨F, env, us, sr.er, eu, fun F1 H1 p vs s n nf hp r => k F1 H1 _ (sr.setOwn s i n nf ⟨p, vs, rfl, hp, r⟩)⟩
theorem js_set' {i : Nat} {st : Stmt} {te : TE} {m : M} (h : PS X st (tAsg te (gName i))) (w : ∀ σ H Q, tM cl m σ H Q → te σ H Q) : PS X st (tS cl (sSet i m)) :=
  h.wk fun D σ H ⟨F0, H0, F, env, o, sr, e, k⟩ => by
    obtain ⟨u, eu, e⟩ := ob_some e
    obtain ⟨u', ew, e⟩ := ob_some e
    obtain ⟨rfl, hn⟩ := chk_some ew
    cases e
    exact w σ H _ ⟨F, env, u, sr.er, eu, fun F1 H1 v s r => k F1 H1 _ ((sr.step s).set i (r.rp hn) hn)⟩
def sRet (m : M) : MS := fun env => ob (m env) fun u => ob (chk u) fun u => some (.rt u)
theorem js_ret {e : Expr} {m : M} {pos : Pos} (he : PE X e (tM cl m)) : PS X (.Return (some e) pos) (tS cl (sRet m)) := (ps_ret he).wk fun D σ H ⟨F0, H0, F, env, o, sr, e, k⟩ => by
  obtain ⟨u, eu, e⟩ := ob_some e
  obtain ⟨w, ew, e⟩ := ob_some e
  obtain ⟨rfl, hn⟩ := chk_some ew
  cases e
  exact ⟨F, env, u, sr.er, eu, fun F1 H1 v s r => k F1 H1 v (sr.stp.trans s) (r.rp hn)⟩
def sRetN : MS := fun _ => some (.rt .non)
theorem js_retN {pos : Pos} : PS X (.Return none pos) (tS cl sRetN) := ps_retN.wk fun D σ H ⟨F0, H0, F, env, o, sr, e, k⟩ => by
  cases e
  exact k F H .non sr.stp (by simp only [Rp])
def sNo : MS := fun _ => none
theorem js_never {st : Stmt} : PS X st (tS cl sNo) := ps_never.wk fun D σ H ⟨F0, H0, F, env, o, sr, e, k⟩ => nomatch e
def sPass : MS := fun env => some (.nx env)
theorem js_pass {pos : Pos} : PS X (.Pass pos) (tS cl sPass) := ps_pass.wk fun D σ H ⟨F0, H0, F, env, o, sr, e, k⟩ => by
  cases e
  exact k F H σ sr
theorem jss_nil : PSs X [] (tS cl sPass) := pss_nil.wk fun D σ H ⟨F0, H0, F, env, o, sr, e, k⟩ => by
  cases e
  exact k F H σ sr
def sSeq (m n : MS) : MS := fun env => ob (m env) fun o => Out.casesOn (motive := fun _ => Option Out) o n (fun u => some (.rt u)) (fun e => some (.br e)) (fun e => some (.ct e))
theorem jss_cons {st : Stmt} {rest : List Stmt} {m n : MS} (h : PS X st (tS cl m)) (h' : PSs X rest (tS cl n)) : PSs X (st :: rest) (tS cl (sSeq m n)) := (pss_cons h h').wk fun D σ H ⟨F0, H0, F, env, o, sr, e, k⟩ => by
  obtain ⟨p, ep, e⟩ := ob_some e
  refine ⟨F0, H0, F, env, p, sr, ep, ?_⟩
  cases p with
  | nx env1 => exact fun F1 H1 σ1 s1 => ⟨F0, H0, F1, env1, o, s1, e, k⟩
  | rt u => cases e; exact k
  | br env1 => cases e; exact k
  | ct env1 => cases e; exact k
theorem jss_one {st : Stmt} {m : MS} (h : PS X st (tS cl m)) : PSs X [st] (tS cl m) := pss_one h
/-- a slot's list is frozen from here on -/
def asOl (u : U) : Option (List U) := U.casesOn (motive_1 := fun _ => Option (List U)) u none none (fun _ => none) (fun _ => none) (fun _ => none) (fun _ => none) (fun _ _ => none) (fun _ => none) (fun x => some x) (fun _ _ => none) (fun _ _ => none) (fun _ _ => none)
theorem asOl_some {u : U} {us : List U} (h : asOl u = some us) : u = .ol us := by cases u <;> cases h; rfl
def sFrz (i : Nat) (m : MS) : MS := fun env => ob (nth env i) fun u => ob (asOl u) fun us => m (lset env i (.lst us))
theorem jss_frz {sts : List Stmt} {m : MS} (i : Nat) (h : PSs X sts (tS cl m)) : PSs X sts (tS cl (sFrz i m)) := h.wk fun D σ H ⟨F0, H0, F, env, o, sr, e, k⟩ => by
  obtain ⟨u, eu, e⟩ := ob_some e
  obtain ⟨us, es, e⟩ := ob_some e
  cases asOl_some es
  rw [nth_eq] at eu
  obtain ⟨F', s'⟩ := sr.freeze eu
  exact ⟨F0, H0, F', _, o, s', e, k⟩
def sIf (c : MT) (m n : MS) : MS := fun env => ob (c env) fun b => Bool.rec (n env) (m env) b
theorem js_if {c : Expr} {a b : List Stmt} {mc : MT} {m n : MS} {pos : Pos} (hc : PT X c (tT cl mc)) (ha : PSs X a (tS cl m)) (hb : PSs X b (tS cl n)) : PS X (.If c a b pos) (tS cl (sIf mc m n)) := (ps_if hc ha hb).wk fun D σ H ⟨F0, H0, F, env, o, sr, e, k⟩ => by
  obtain ⟨b, eb, e⟩ := ob_some e
  refine ⟨F, env, b, sr.er, eb, fun F1 H1 s => ?_⟩
  cases b with
  | true => exact ⟨F0, H0, F1, env, o, sr.step s, e, k⟩
  | false => exact ⟨F0, H0, F1, env, o, sr.step s, e, k⟩
/-- an expression statement -/
def sExp (m : M) : MS := fun env => ob (m env) fun _ => some (.nx env)
theorem js_expr {e : Expr} {m : M} {pos : Pos} (he : PE X e (tM cl m)) (hs : swapsWith e none pos.line X.env = pure false := by rfl) : PS X (.Expr e pos) (tS cl (sExp m)) := (ps_expr he hs).wk fun D σ H ⟨F0, H0, F, env, o, sr, e, k⟩ => by
  obtain ⟨u, eu, e⟩ := ob_some e
  cases e
  exact ⟨F, env, u, sr.er, eu, fun F1 H1 v s r => k F1 H1 σ (sr.step s)⟩
end
end Ct
end
end
section
set_option Elab.async false
set_option linter.all false
set_option maxRecDepth 100000
set_option maxHeartbeats 4000000
noncomputable section
namespace Ct
open PySem PySem.Spec PyProof.Rows L2
section
variable {cl : Cl} {F0 H0 F H F' H' : Hp} {env : List U} {σ : Sig} {X : Cx} {K : PySem.W.Frag}

/-- only where b is true -/
def gd {α : Type} (b : Bool) (x : Option α) : Option α := Bool.rec (motive := fun _ => Option α) none x b
theorem gd_some {α : Type} {b : Bool} {x : Option α} {r : α} (h : gd b x = some r) : b = true ∧ x = some r := by
  cases b with
  | true => exact ⟨rfl, h⟩
  | false => cases h
/-! several targets -/
theorem SR.put (s : SR cl F0 H0 F H env σ) {t : Tg} {u : U} {env' : List U} {σ' : Sig} (p : PutR cl t F u env env' σ σ') (n : ∀ u v, Rp cl F u v → u.own = false) : SR cl F0 H0 F H env' σ' := by
  cases t with
  | one i =>
    obtain ⟨rfl, v, r, rfl⟩ := p
    exact s.set i r (n _ _ r)
  | two i j =>
    obtain ⟨a, b, v, w, r1, r2, rfl, rfl⟩ := p
    exact (s.set i r1 (n _ _ r1)).set j r2 (n _ _ r2)
theorem rp_own {u : U} {v : V} (r : Rp cl F u v) : u.own = false := by
  cases u <;> first | rfl | (simp only [Rp] at r)
/-- a, b = e -/
def sUnp (i j : Nat) (m : M) : MS := fun env => ob (m env) fun u => ob ((Tg.two i j).put u env) fun e => some (.nx e)
theorem js_unp {i j : Nat} {tg e : Expr} {m : M} {pos : Pos} (h : ∀ te g, PE X e te → PG X tg g → PS X (.Assign [tg] e pos) (tAsg te g)) (he : PE X e (tM cl m)) (hg : PG X tg (tG cl (.two i j))) : PS X (.Assign [tg] e pos) (tS cl (sUnp i j m)) :=
  (h _ _ he hg).wk fun D σ H ⟨F0, H0, F, env, o, sr, e, k⟩ => by
    obtain ⟨u, eu, e⟩ := ob_some e
    obtain ⟨e1, ep, e⟩ := ob_some e
    cases e
    refine ⟨F, env, u, sr.er, eu, fun F1 H1 v s r => ?_⟩
    have ho : u.own = false := by
      obtain ⟨us, eus, _⟩ := ob_some (show ob (asT u) _ = some e1 from ep)
      cases u <;> first | rfl | cases eus
    exact ⟨F1, u, env, e1, s.fh, r.rp ho, ep, fun σ' p => k F1 H1 σ' ((sr.step s).put p fun _ _ => rp_own)⟩
/-- a, b = x, y; a, b, c = x, y, z -/
def sPar (i j : Nat) (ms : MA) : MS := fun env => ob (ms env) (fA2 fun u w => ob (chk u) fun u => ob (chk w) fun w => some (.nx (lset (lset env i u) j w)))
theorem js_par {i j : Nat} {st : Stmt} {es : List Expr} {ms : MA} (h : ∀ ta, PA X es ta → PS X st (tPar i j ta)) (ha : PA X es (tA cl ms)) : PS X st (tS cl (sPar i j ms)) :=
  (h _ ha).wk fun D σ H ⟨F0, H0, F, env, o, sr, e, k⟩ => by
    obtain ⟨us, eu, e⟩ := ob_some e
    refine ⟨F, env, us, sr.er, eu, fun F1 H1 vs s r => ?_⟩
    obtain ⟨u, w, v, x, rfl, rfl, e, r1, r2⟩ := fA2_some e r
    obtain ⟨u', e1, e⟩ := ob_some e
    obtain ⟨w', e2, e⟩ := ob_some e
    obtain ⟨rfl, n1⟩ := chk_some e1
    obtain ⟨rfl, n2⟩ := chk_some e2
    cases e
    exact ⟨v, x, rfl, k F1 H1 _ (((sr.step s).set i (r1.rp n1) n1).set j (r2.rp n2) n2)⟩
def sPar3 (i j l : Nat) (ms : MA) : MS := fun env => ob (ms env) (fA3 fun u w z => ob (chk u) fun u => ob (chk w) fun w => ob (chk z) fun z => some (.nx (lset (lset (lset env i u) j w) l z)))
theorem js_par3 {i j l : Nat} {st : Stmt} {es : List Expr} {ms : MA} (h : ∀ ta, PA X es ta → PS X st (tPar3 i j l ta)) (ha : PA X es (tA cl ms)) : PS X st (tS cl (sPar3 i j l ms)) :=
  (h _ ha).wk fun D σ H ⟨F0, H0, F, env, o, sr, e, k⟩ => by
    obtain ⟨us, eu, e⟩ := ob_some e
    refine ⟨F, env, us, sr.er, eu, fun F1 H1 vs s r => ?_⟩
    obtain ⟨u, w, z, v, x, y, rfl, rfl, e, r1, r2, r3⟩ := fA3_some e r
    obtain ⟨u', e1, e⟩ := ob_some e
    obtain ⟨w', e2, e⟩ := ob_some e
    obtain ⟨z', e3, e⟩ := ob_some e
    obtain ⟨rfl, n1⟩ := chk_some e1
    obtain ⟨rfl, n2⟩ := chk_some e2
    obtain ⟨rfl, n3⟩ := chk_some e3
    cases e
    exact ⟨v, x, y, rfl, k F1 H1 _ ((((sr.step s).set i (r1.rp n1) n1).set j (r2.rp n2) n2).set l (r3.rp n3) n3)⟩
/-- x += e of ints -/
def sAug (i : Nat) (m : M) : MS := fun env => ob (nth env i) fun x => ob (asI x) fun a => ob (m env) fun y => ob (asI y) fun b => some (.nx (lset env i (.int (Int.add a b))))
theorem js_aug {i : Nat} {st : Stmt} {e : Expr} {m : M} (h : ∀ te, PE X e te → PS X st (tAug i te (ipI fun i j => i + j))) (he : PE X e (tM cl m)) : PS X st (tS cl (sAug i m)) :=
  (h _ he).wk fun D σ H ⟨F0, H0, F, env, o, sr, e, k⟩ => by
    obtain ⟨x, ex, e⟩ := ob_some e
    obtain ⟨a, ea, e⟩ := ob_some e
    obtain ⟨y, ey, e⟩ := ob_some e
    obtain ⟨b, eb, e⟩ := ob_some e
    cases e
    rw [nth_eq] at ex
    rcases sr.er.slot i x ex with z | ⟨v, hv, rv⟩
    · subst z; cases ea
    · have := asI_rv ea rv
      subst this
      refine ⟨.int a, hv, F, env, y, sr.er, ey, fun F1 H1 w s r => ?_⟩
      exact ⟨a, b, rfl, asI_rv eb r, k F1 H1 _ ((sr.step s).set i (u := .int (Int.add a b)) (by simp only [Rp]; rfl) rfl)⟩

/-! a slot's own list -/
def asX {α : Type} (i : Nat) (f : U → Option α) (env : List U) : Option α := ob (nth env i) f
def sApp (i : Nat) (m : M) : MS := fun env => ob (m env) fun y => ob (chk y) fun y => ob (nth env i) fun x => ob (asOl x) fun us => ob (szL (lapp us [y])) fun ws => some (.nx (lset env i (.ol ws)))
theorem SR.ol (s : SR cl F0 H0 F H env σ) {i : Nat} {us : List U} (h : env[i]? = some (.ol us)) : ∃ a vs, σ[i]? = some (some (.ref a)) ∧ H a = some (.lst vs) ∧ RpL cl F us vs := by
  rcases s.er.slot i _ h with z | ⟨v, hv, a, vs, rfl, ha, r⟩
  · cases z
  · exact ⟨a, vs, hv, ha, r⟩
theorem small_line {n : Nat} (h : n ≤ 100000) : n ≤ sizeLine := by rw [sizeLine_eq]; omega
theorem js_app {i : Nat} {st : Stmt} {e : Expr} {m : M} (h : ∀ te, PE X e te → PS X st (tDrop (tBM X.K "list" rAppend (tVar i) (tCons te tNil)))) (he : PE X e (tM cl m)) : PS X st (tS cl (sApp i m)) :=
  (h _ he).wk fun D σ H ⟨F0, H0, F, env, o, sr, e, k⟩ => by
    obtain ⟨y, ey, e⟩ := ob_some e
    obtain ⟨y', ec, e⟩ := ob_some e
    obtain ⟨rfl, hn⟩ := chk_some ec
    obtain ⟨x, ex, e⟩ := ob_some e
    obtain ⟨us, eo, e⟩ := ob_some e
    obtain ⟨ws, ez, e⟩ := ob_some e
    cases asOl_some eo
    obtain ⟨q, hz⟩ := szL_some ez
    subst q
    cases e
    rw [nth_eq] at ex
    rw [lapp_eq] at k hz
    obtain ⟨a, vs, hv, ha, r⟩ := sr.ol ex
    refine ⟨.ref a, hv, .inl ⟨rfl, _, SqL.of ha⟩, F, env, y, sr.er, ey, fun F1 H1 w s rw' => ?_⟩
    have s1 := sr.step s
    obtain ⟨a', vs', hv', ha', r'⟩ := s1.ol ex
    rw [hv] at hv'
    cases hv'
    rw [s.hh _ _ ha] at ha'
    cases ha'
    refine ⟨a, vs, w, rfl, rfl, s.hh _ _ ha, ?_, k F1 _ _ (s1.change ex rfl hv ⟨a, vs ++ [w], rfl, upd_same, r'.app (RpL.one (rw'.rp hn))⟩)⟩
    rw [List.length_append, r.len] at hz
    rw [sizeLine_eq]
    simp only [List.length_cons, List.length_nil] at hz
    omega
/-- xs.extend(a new list) -/
def sExt (i : Nat) (m : MA) : MS := fun env => ob (m env) fun ys => ob (nth env i) fun x => ob (asOl x) fun us => ob (szL (lapp us ys)) fun ws => some (.nx (lset env i (.ol ws)))
theorem js_ext {i : Nat} {st : Stmt} {e : Expr} {m : MA} (h : ∀ te, PE X e te → PS X st (tDrop (tBM X.K "list" rExtend (tVar i) (tCons te tNil)))) (he : PE X e (tL cl m)) : PS X st (tS cl (sExt i m)) :=
  (h _ he).wk fun D σ H ⟨F0, H0, F, env, o, sr, e, k⟩ => by
    obtain ⟨ys, ey, e⟩ := ob_some e
    obtain ⟨x, ex, e⟩ := ob_some e
    obtain ⟨us, eo, e⟩ := ob_some e
    obtain ⟨ws, ez, e⟩ := ob_some e
    cases asOl_some eo
    obtain ⟨q, hz⟩ := szL_some ez
    subst q
    cases e
    rw [nth_eq] at ex
    rw [lapp_eq] at k hz
    obtain ⟨a, vs, hv, ha, r⟩ := sr.ol ex
    refine ⟨.ref a, hv, .inl ⟨rfl, _, SqL.of ha⟩, F, env, ys, sr.er, ey, fun F1 H1 p zs s n nf hp rz => ?_⟩
    have s1 := sr.step s
    obtain ⟨a', vs', hv', ha', r'⟩ := s1.ol ex
    rw [hv] at hv'
    cases hv'
    rw [s.hh _ _ ha] at ha'
    cases ha'
    refine ⟨a, p, vs, zs, rfl, rfl, s.hh _ _ ha, hp, ?_, k F1 _ _ (s1.change ex rfl hv ⟨a, vs ++ zs, rfl, upd_same, r'.app rz⟩)⟩
    rw [List.length_append, r.len, rz.len] at hz
    rw [sizeLine_eq]
    omega
/-- xs[i] = e -/
def sPut (i : Nat) (mi me : M) : MS := fun env => ob (me env) fun y => ob (chk y) fun y => ob (mi env) fun n => ob (asN n) fun n => ob (nth env i) fun x => ob (asOl x) fun us => gd (Nat.ble (Nat.succ n) (llen us)) (some (.nx (lset env i (.ol (lset us n y)))))
theorem js_put {i : Nat} {st : Stmt} {ei e : Expr} {mi me : M} (h : ∀ ti te, PE X ei ti → PE X e te → PS X st (tAsg te (gSub (tVar i) ti rSetL))) (hi : PE X ei (tM cl mi)) (he : PE X e (tM cl me)) : PS X st (tS cl (sPut i mi me)) :=
  (h _ _ hi he).wk fun D σ H ⟨F0, H0, F, env, o, sr, e, k⟩ => by
    obtain ⟨y, ey, e⟩ := ob_some e
    obtain ⟨y', ec, e⟩ := ob_some e
    obtain ⟨rfl, hn⟩ := chk_some ec
    obtain ⟨ni, eni, e⟩ := ob_some e
    obtain ⟨n, en, e⟩ := ob_some e
    obtain ⟨x, ex, e⟩ := ob_some e
    obtain ⟨us, eo, e⟩ := ob_some e
    cases asOl_some eo
    rw [nth_eq] at ex
    obtain ⟨hb, e⟩ := gd_some e
    cases e
    have hlt := Nat.le_of_ble_eq_true hb
    rw [llen_eq] at hlt
    obtain ⟨a, vs, hv, ha, r⟩ := sr.ol ex
    refine ⟨F, env, y, sr.er, ey, fun F1 H1 w s rw' => ⟨.ref a, hv, F1, env, ni, (sr.step s).er, eni, fun F2 H2 z s2 rz => ?_⟩⟩
    have st := s.trans s2
    have s1 := sr.step st
    obtain ⟨a', vs', hv', ha', r'⟩ := s1.ol ex
    rw [hv] at hv'
    cases hv'
    rw [st.hh _ _ ha] at ha'
    cases ha'
    refine ⟨a, vs, n, n, rfl, asN_rv en rz, st.hh _ _ ha, ?_, k F2 _ _ (s1.change ex rfl hv ⟨a, vs.set n w, rfl, upd_same, ?_⟩)⟩
    · unfold ixN
      rw [if_pos (by omega), if_pos (by rw [← r.len]; omega), Int.toNat_natCast]
    · rw [lset_eq]
      exact r'.set n ((rw'.step s2).rp hn)

/-! loops -/
theorem Stp.back {F0 H0 F1 H1 F2 H2 : Hp} (a : Stp F0 H0 F1 H1) (b : Stp F1 H0 F2 H2) : Stp F0 H0 F2 H2 :=
  ⟨a.ff.trans b.ff, b.fh, b.hh, fun c o e => (b.new c o e).elim (a.new c o) .inr⟩
theorem SR.rebase (s : SR cl F0 H0 F H env σ) : SR cl F H0 F H env σ := ⟨s.er, ⟨Sb.refl _, s.er.sb, s.stp.hh, fun _ _ e => .inl e⟩, s.own, s.sep⟩
theorem SR.back {env' : List U} {σ' : Sig} {H1 : Hp} (s : SR cl F0 H0 F H1 env σ) (t : SR cl F H0 F' H' env' σ') : SR cl F0 H0 F' H' env' σ' := ⟨t.er, s.stp.back t.stp, t.own, t.sep⟩
def forL (t : Tg) (body : MS) (us : List U) : MS := List.rec (motive := fun _ => MS) (fun env => some (.nx env)) (fun u _ r env => ob (t.put u env) fun e1 => ob (body e1) fun o => Out.casesOn (motive := fun _ => Option Out) o r (fun u => some (.rt u)) (fun e => some (.nx e)) r) us
def sFor (w : MA) (t : Tg) (body : MS) : MS := fun env => ob (w env) fun us => forL t body us env
theorem js_for {tg iter : Expr} {body : List Stmt} {pos : Pos} {w : MA} {t : Tg} {m : MS} (hp : PassesOwn (model X.prog X.w) X.A X.env X.xe) (hc : X.calm = true) (hi : PI X tg iter (tW cl w)) (hg : PG X tg (tG cl t)) (hb : PSs X body (tS cl m))
    (hs : ∀ x, foldedSetIterable iter X.env x = pure x := by intro _; rfl) : PS X (.For tg iter body [] pos) (tS cl (sFor w t m)) :=
  (ps_for hp hc hi hg hb hs).wk fun D σ H ⟨F0, H0, F, env, o, sr, e, k⟩ => by
    obtain ⟨us, ew, e⟩ := ob_some e
    refine ⟨F, env, us, sr.er, ew, fun F1 H1 J s1 wk => ?_⟩
    refine ⟨fun i m' σ' H' => m' = us.length - i ∧ i ≤ us.length ∧ ∃ F' env', SR cl F0 H0 F' H' env' σ' ∧ Sb F1 F' ∧ forL t m (us.drop i) env' = some o, ⟨us.length, rfl, Nat.zero_le _, F1, env, sr.step s1, Sb.refl _, e⟩, ?_⟩
    rintro i m' σ2 H2 ⟨rfl, hi', F2, env2, sr2, sb, e2⟩
    obtain ⟨stop, go⟩ := wk F2 H2 sb sr2.er.sb
    by_cases hlt : i < us.length
    · right
      obtain ⟨g1, g2⟩ := go i us[i] (List.getElem?_eq_getElem hlt)
      rw [List.drop_eq_getElem_cons hlt] at e2
      obtain ⟨env3, ep, e3⟩ := ob_some (show ob (t.put us[i] env2) (fun e1 => ob (m e1) fun o => Out.casesOn (motive := fun _ => Option Out) o (forL t m (us.drop (i + 1))) (fun u => some (.rt u)) (fun e => some (.nx e)) (forL t m (us.drop (i + 1)))) = some o from e2)
      obtain ⟨p, eb, e3⟩ := ob_some e3
      refine ⟨g1, fun σ' H' => i + 1 ≤ us.length ∧ ∃ F' env', SR cl F0 H0 F' H' env' σ' ∧ Sb F1 F' ∧ forL t m (us.drop (i + 1)) env' = some o, fun σ' H' ⟨q1, q2⟩ => ⟨us.length - (i + 1), by omega, rfl, q1, q2⟩, fun x H3 y => ?_⟩
      obtain ⟨F3, s3, rx⟩ := g2 x H3 y
      refine ⟨F3, us[i], env2, env3, s3.fh, rx, ep, fun σ' pr => ?_⟩
      have sr3 := (sr2.step s3).put pr fun _ _ => rp_own
      refine ⟨F3, H0, F3, env3, p, sr3.rebase, eb, ?_⟩
      have again : ∀ {env' : List U}, forL t m (us.drop (i + 1)) env' = some o → ∀ F H σ, SR cl F3 H0 F H env' σ → i + 1 ≤ us.length ∧ ∃ F' env', SR cl F0 H0 F' H env' σ ∧ Sb F1 F' ∧ forL t m (us.drop (i + 1)) env' = some o :=
        fun {env'} e F H σ z => ⟨hlt, F, env', sr3.back z, (sb.trans s3.ff).trans z.stp.ff, e⟩
      cases p with
      | nx env4 => exact again e3
      | ct env4 => exact again e3
      | br env4 =>
        cases e3
        exact fun F H σ z => k F H σ (sr3.back z)
      | rt u =>
        cases e3
        exact fun F H v z r => k F H v (sr3.stp.back z) r
    · left
      have hi2 : i = us.length := by omega
      subst hi2
      rw [List.drop_length] at e2
      cases e2
      exact ⟨stop, k F2 H2 σ2 sr2⟩
def whL (c : MT) (body : MS) (n : Nat) : MS := Nat.rec (motive := fun _ => MS) (fun _ => none) (fun _ r env => ob (c env) fun b => Bool.rec (motive := fun _ => Option Out) (some (.nx env)) (ob (body env) fun o => Out.casesOn (motive := fun _ => Option Out) o r (fun u => some (.rt u)) (fun e => some (.nx e)) r) b) n
theorem js_while {c : Expr} {body : List Stmt} {pos : Pos} {mc : MT} {m : MS} (n : Nat) (hp : PassesOwn (model X.prog X.w) X.A X.env X.xe) (hc : PT X c (tT cl mc)) (hb : PSs X body (tS cl m)) : PS X (.While c body [] pos) (tS cl (whL mc m n)) :=
  (ps_while hp hc hb).wk fun D σ H ⟨F0, H0, F, env, o, sr, e, k⟩ => by
    refine ⟨fun n' σ' H' => ∃ F' env', SR cl F0 H0 F' H' env' σ' ∧ whL mc m n' env' = some o, ⟨n, F, env, sr, e⟩, ?_⟩
    rintro n' σ2 H2 ⟨F2, env2, sr2, e2⟩
    cases n' with
    | zero => cases e2
    | succ n' =>
      obtain ⟨b, eb, e2⟩ := ob_some (show ob (mc env2) (fun b => Bool.rec (motive := fun _ => Option Out) (some (.nx env2)) (ob (m env2) fun o => Out.casesOn (motive := fun _ => Option Out) o (whL mc m n') (fun u => some (.rt u)) (fun e => some (.nx e)) (whL mc m n')) b) = some o from e2)
      refine ⟨F2, env2, b, sr2.er, eb, fun F3 H3 s3 => ?_⟩
      cases b with
      | false =>
        cases e2
        exact k F3 H3 σ2 (sr2.step s3)
      | true =>
        obtain ⟨p, ep, e2⟩ := ob_some e2
        refine ⟨fun σ' H' => ∃ F' env', SR cl F0 H0 F' H' env' σ' ∧ whL mc m n' env' = some o, fun σ' H' q => ⟨n', Nat.lt_succ_self _, q⟩, F0, H0, F3, env2, p, sr2.step s3, ep, ?_⟩
        cases p with
        | nx env4 => exact fun F H σ z => ⟨F, env4, z, e2⟩
        | ct env4 => exact fun F H σ z => ⟨F, env4, z, e2⟩
        | br env4 =>
          cases e2
          exact k
        | rt u =>
          cases e2
          exact k
end
end Ct
end
end
section
set_option Elab.async false
set_option linter.all false
set_option maxRecDepth 100000
set_option maxHeartbeats 4000000
noncomputable section
namespace Ct
open PySem PySem.Spec PyProof.Rows L2

/-! ### defs, their promises -/
def spF (cl : Cl) (n : Nat) (f : List U → Option U) : Sp := fun vs H Q _ => vs.length = n ∧ ∃ F us u, Sb F H ∧ RpL cl F us vs ∧ f us = some u ∧ ∀ F' H' v, Stp F H F' H' → Rp cl F' u v → Q v H'
def spI (cl : Cl) (c n : Nat) (f : List U → Option (List U)) : Sp := fun vs H Q _ => vs.length = n ∧ ∃ x dx vs' H1 F us ws, vs = .ref x :: vs' ∧ H1 x = none ∧ H1 dx = none ∧ dx ≠ x ∧ H = upd (upd H1 dx (.own x)) x (.ins (cl.k c) dx []) ∧
  Sb F H1 ∧ RpL cl F us vs' ∧ f us = some ws ∧ ∀ F' H' fs, Stp F H1 F' H' → F' x = none → H' x = some (.ins (cl.k c) dx fs) → fs.map (·.1) = fnames c → RpL cl F' ws (fs.map (·.2)) → Q .non H'
def nos (n : Nat) : List U := Nat.rec (motive := fun _ => List U) [] (fun _ r => U.no :: r) n
def runF (m : MS) (n : Nat) (us : List U) : Option U := ob (m (lapp us (nos n))) fun o => Out.casesOn (motive := fun _ => Option U) o (fun _ => some .non) (fun u => some u) (fun _ => none) (fun _ => none)
def asOi (c : Nat) (u : U) : Option (List U) := U.casesOn (motive_1 := fun _ => Option (List U)) u none none (fun _ => none) (fun _ => none) (fun _ => none) (fun _ => none) (fun _ _ => none) (fun _ => none) (fun _ => none) (fun _ _ => none) (fun _ _ => none) (fun d x => gd (Nat.beq c d) (some x))
theorem asOi_some {c : Nat} {u : U} {us : List U} (h : asOi c u = some us) : u = .oi c us := by
  cases u <;> first | exact nomatch (show (none : Option (List U)) = some us from h) | skip
  rename_i d x
  obtain ⟨h1, h2⟩ := gd_some (show gd (Nat.beq c d) (some x) = some us from h)
  cases h2
  rw [Nat.eq_of_beq_eq_true h1]
def nFld : Nat → Nat
  | 0 => 1
  | 1 => 1
  | 2 => 3
  | _ => 2
theorem nFld_eq : ∀ c : Nat, nFld c = (fnames c).length
  | 0 => rfl
  | 1 => rfl
  | 2 => rfl
  | _ + 3 => rfl
def runI (c : Nat) (m : MS) (n : Nat) (us : List U) : Option (List U) := ob (m (U.oi c [] :: lapp us (nos n))) fun o => Out.casesOn (motive := fun _ => Option (List U)) o (fun e => ob (nth e 0) fun u => ob (asOi c u) fun ws => gd (Nat.beq (llen ws) (nFld c)) (some ws)) (fun _ => none) (fun _ => none) (fun _ => none)

section
variable {cl : Cl} {F0 H0 F H F' H' : Hp} {env : List U} {σ : Sig} {X : Cx}
theorem nos_len : ∀ n : Nat, (nos n).length = n
  | 0 => rfl
  | n + 1 => congrArg Nat.succ (nos_len n)
theorem nos_get : ∀ (n i : Nat) (u : U), (nos n)[i]? = some u → u = .no
  | 0, _, _, h => by
    have h' : ([] : List U)[_]? = some _ := h
    simp at h'
  | n + 1, 0, u, h => by
    have h' : (U.no :: nos n)[0]? = some u := h
    simp at h'
    exact h'.symm
  | n + 1, i + 1, u, h => by
    have h' : (U.no :: nos n)[i + 1]? = some u := h
    rw [List.getElem?_cons_succ] at h'
    exact nos_get n i u h'
/-- the slots at a def's start -/
theorem start_slot {us : List U} {vs : List V} (r : RpL cl F us vs) (n : Nat) (i : Nat) (u : U) (h : (us ++ nos n)[i]? = some u) : u = .no ∨ ∃ v, (vs.map some ++ List.replicate n none)[i]? = some (some v) ∧ Rp cl F u v := by
  by_cases q : i < us.length
  · rw [List.getElem?_append_left q] at h
    obtain ⟨v, hv, rv⟩ := r.get h
    refine .inr ⟨v, ?_, rv⟩
    rw [List.getElem?_append_left (by rw [List.length_map, ← r.len]; exact q), List.getElem?_map, hv]
    rfl
  · rw [List.getElem?_append_right (by omega)] at h
    exact .inl (nos_get _ _ _ h)
section
variable {P : Program} {w : World} {K : PySem.W.Frag} {mg : Str → Option Value} {base : Heap} {x qual : Str} {params : Arguments} {body : List Stmt} {scope : Scope} {dvs : List V} {kws : List (Str × V)} {fa : Addr} {fd : FuncData}
theorem ok_of {N ps : List Str} {k : Nat} {m : MS} (F : FunD K x qual params body scope dvs kws fa fd) (S : FnScope N ps scope) (hN : ps.length ≤ N.length)
    (hb : ∀ (cdv : Value) (A : Around) (outer : List Env) (s : Shared) (H : Hp) (E : XK), Room k (A.deeper (envOfC qual scope s.heap.objs.size fa cdv)) → PSs (cxOf CX0 P w K mg base N qual scope fa cdv A outer s H E).nox body (tS cl m)) :
    FnOk P w K mg base CX0 (k + 1) fa fd ps (spF cl ps.length (runF m (N.length - ps.length))) := by
  refine F.ok S (fun vs H Q E h => h.1) fun cdv A outer s H vs Q E hr h => ?_
  obtain ⟨hl, F1, us, u, sb, r, e, q⟩ := h
  obtain ⟨o, eo, e⟩ := ob_some e
  refine ⟨tS cl m, (hb cdv A outer s H E hr).nox, F1, H, F1, lapp us (nos (N.length - ps.length)), o, ?_, eo, ?_⟩
  · rw [lapp_eq]
    have hle := r.len
    have mm : ∀ (i : Nat) w, (us ++ nos (N.length - ps.length))[i]? = some w → w.mut = true → False := fun i w hw mw => by
      rcases start_slot r _ i w hw with z | ⟨v, _, rv⟩
      · subst z; cases mw
      · rw [mut_own (rp_own rv)] at mw; cases mw
    refine ⟨⟨sb, ?_, fun i w hw => ?_⟩, Stp.refl sb, fun i w a hw mw => (mm i w hw mw).elim, fun i j w z a _ hw _ mw => (mm i w hw mw).elim⟩
    · unfold L2.start
      rw [List.length_append, List.length_append, List.length_map, List.length_replicate, nos_len]
      omega
    · unfold L2.start
      rw [hl]
      rcases start_slot r (N.length - ps.length) i w hw with z | ⟨v, hv, rv⟩
      · exact .inl z
      · exact .inr ⟨v, hv, Rv.of rv⟩
  · cases o with
    | nx env =>
      cases e
      exact fun F H σ z => q F H .non z.stp (by simp only [Rp])
    | rt u =>
      cases e
      exact fun F H v z r => q F H v z r
    | br env => cases e
    | ct env => cases e
theorem ok_init {N ps : List Str} {k c : Nat} {m : MS} (F : FunD K x qual params body scope dvs kws fa fd) (S : FnScope N ps scope) (hN : ps.length ≤ N.length)
    (hb : ∀ (cl' : Cl), cl'.k = cl.k → ∀ (cdv : Value) (A : Around) (outer : List Env) (s : Shared) (H : Hp) (E : XK), Room k (A.deeper (envOfC qual scope s.heap.objs.size fa cdv)) → PSs (cxOf CX0 P w K mg base N qual scope fa cdv A outer s H E).nox body (tS cl' m)) :
    FnOk P w K mg base CX0 (k + 1) fa fd ps (spI cl c ps.length (runI c m (N.length - ps.length))) := by
  refine F.ok S (fun vs H Q E h => h.1) fun cdv A outer s H vs Q E hr h => ?_
  obtain ⟨hl, a, dx, vs', H1, F1, us, ws, rfl, na, nd, ne, rfl, sb, r, e, q⟩ := h
  obtain ⟨o, eo, e⟩ := ob_some e
  have sH : Sb H1 (upd (upd H1 dx (.own a)) a (.ins (cl.k c) dx [])) := fun b o e => by
    rw [upd_ne (ne_of_none e na), upd_ne (ne_of_none e nd)]
    exact e
  have nF : F1 a = none := sb.none na
  refine ⟨tS ⟨cl.k, a, dx⟩ m, (hb ⟨cl.k, a, dx⟩ rfl cdv A outer s _ E hr).nox, F1, H1, F1, U.oi c [] :: lapp us (nos (N.length - ps.length)), o, ?_, eo, ?_⟩
  · rw [lapp_eq]
    have hle := r.len
    have r' : RpL ⟨cl.k, a, dx⟩ F1 us vs' := RpL.cong (cl := cl) (cl' := ⟨cl.k, a, dx⟩) rfl r
    have mm : ∀ (i : Nat) w, (us ++ nos (N.length - ps.length))[i]? = some w → w.mut = true → False := fun i w hw mw => by
      rcases start_slot r _ i w hw with z | ⟨v, _, rv⟩
      · subst z; cases mw
      · rw [mut_own (rp_own rv)] at mw; cases mw
    have st0 : L2.start N (V.ref a :: vs') = some (V.ref a) :: (vs'.map some ++ List.replicate (N.length - ps.length) none) := by
      unfold L2.start
      rw [hl]
      rfl
    refine ⟨⟨sb.trans sH, ?_, fun i w hw => ?_⟩, ⟨Sb.refl _, sb.trans sH, sH, fun b o e => .inl e⟩, fun i w b hw mw hb => ?_, fun i j w z b ij hw hz mw mz _ _ => ?_⟩
    · rw [st0, List.length_cons, List.length_cons, List.length_append, List.length_append, List.length_map, List.length_replicate, nos_len, hle]
    · rw [st0]
      cases i with
      | zero =>
        simp at hw
        subst hw
        refine .inr ⟨.ref a, by simp, [], rfl, upd_same, rfl, ?_⟩
        simp only [List.map_nil, RpL]
      | succ i =>
        rw [List.getElem?_cons_succ] at hw
        rw [List.getElem?_cons_succ]
        rcases start_slot r' (N.length - ps.length) i w hw with z | ⟨v, hv, rv⟩
        · exact .inl z
        · exact .inr ⟨v, hv, Rv.of rv⟩
    · cases i with
      | zero =>
        rw [st0] at hb
        simp at hb
        subst hb
        exact ⟨nF, na⟩
      | succ i =>
        rw [List.getElem?_cons_succ] at hw
        exact (mm i w hw mw).elim
    · cases i with
      | zero =>
        cases j with
        | zero => exact ij rfl
        | succ j =>
          rw [List.getElem?_cons_succ] at hz
          exact mm j z hz mz
      | succ i =>
        rw [List.getElem?_cons_succ] at hw
        exact mm i w hw mw
  · cases o with
    | nx env =>
      obtain ⟨u, eu, g⟩ := ob_some e
      obtain ⟨ws', ew, g2⟩ := ob_some g
      obtain ⟨hn, g3⟩ := gd_some g2
      have hq := Option.some.inj g3
      subst hq
      have hu := asOi_some ew
      rw [hu, nth_eq] at eu
      intro F H2 σ z
      rcases z.er.slot 0 _ eu with y | ⟨v, hv, fs, rfl, hh, hf, hr⟩
      · cases y
      · obtain ⟨nf, _⟩ := z.own 0 _ a eu rfl hv
        have hl2 := Nat.eq_of_beq_eq_true hn
        rw [llen_eq, nFld_eq] at hl2
        rw [hl2, List.take_length] at hf
        exact q F H2 fs z.stp nf hh hf (RpL.cong (cl := ⟨cl.k, a, dx⟩) (cl' := cl) rfl hr)
    | rt u => cases e
    | br env => cases e
    | ct env => cases e
end
theorem spF_cong {cl cl' : Cl} (hk : cl.k = cl'.k) {n : Nat} {f : List U → Option U} (vs : List V) (H : Hp) (Q : VK) (E : XK) (h : spF cl' n f vs H Q E) : spF cl n f vs H Q E := by
  obtain ⟨hl, F, us, u, sb, r, e, q⟩ := h
  exact ⟨hl, F, us, u, sb, r.cong hk.symm, e, fun F' H' v s rv => q F' H' v s (rv.cong hk)⟩
theorem spI_cong {cl cl' : Cl} (hk : cl.k = cl'.k) {c n : Nat} {f : List U → Option (List U)} (vs : List V) (H : Hp) (Q : VK) (E : XK) (h : spI cl' c n f vs H Q E) : spI cl c n f vs H Q E := by
  obtain ⟨hl, x, dx, vs', H1, F, us, ws, e1, n1, n2, n3, e2, sb, r, e, q⟩ := h
  rw [← hk] at e2 q
  exact ⟨hl, x, dx, vs', H1, F, us, ws, e1, n1, n2, n3, e2, sb, r.cong hk.symm, e, fun F' H' fs s nf hx hn rv => q F' H' fs s nf hx hn (rv.cong hk)⟩
end
end Ct
end
end
section
set_option Elab.async false
set_option linter.all false
set_option maxRecDepth 100000
set_option maxHeartbeats 4000000
noncomputable section
namespace Ct
open PySem PySem.Spec PyProof.Rows L2

/-- a def that is called by its name; ds: the defaults that fill up -/
structure Cal (P : Program) (w : World) (K : PySem.W.Frag) (mg : Str → Option Value) (base : Heap) (cl : Cl) (k : Nat) (x : Str) (n : Nat) (ds : List U) (f : List U → Option U) : Prop where
  ex : ∃ (fa : Addr) (fd : FuncData) (ps : List Str) (dss : List Value) (dvs : List V), FnOk P w K mg base CX0 k fa fd ps (spF cl n f) ∧ mg x = some (.ref fa) ∧ PySem.W.keepIn K (.ref fa) = true ∧ Binds K fd ps dss ∧ Vals dvs dss ∧ ∀ F, RpL cl F ds dvs
/-- a method of the class c -/
structure Met (P : Program) (w : World) (K : PySem.W.Frag) (mg : Str → Option Value) (base : Heap) (cl : Cl) (k c : Nat) (m : Str) (n : Nat) (f : List U → Option U) : Prop where
  ex : ∃ (fa : Addr) (fd : FuncData) (ps : List Str), Cls K (cl.k c) ∧ Meth K (cl.k c) m fa ∧ FnOk P w K mg base CX0 k fa fd ps (spF cl n f) ∧ Binds K fd ps []
/-- a class that is made by its name -/
structure Mak (P : Program) (w : World) (K : PySem.W.Frag) (mg : Str → Option Value) (base : Heap) (cl : Cl) (k c : Nat) (x : Str) (n : Nat) (ds : List U) (f : List U → Option (List U)) : Prop where
  ex : ∃ (fa : Addr) (fd : FuncData) (ps : List Str) (dss : List Value) (dvs : List V), Mk K (cl.k c) fa ∧ FnOk P w K mg base CX0 k fa fd ps (spI cl c n f) ∧ mg x = some (.ref (cl.k c)) ∧ Binds K fd ps dss ∧ Vals dvs dss ∧ ∀ F, RpL cl F ds dvs
section
variable {P : Program} {w : World} {K : PySem.W.Frag} {mg : Str → Option Value} {base : Heap} {cl cl' : Cl} {k j c n : Nat} {x m : Str} {ds : List U} {f g : List U → Option U} {h : List U → Option (List U)}
theorem Cal.cong (hk : cl.k = cl'.k) (q : Cal P w K mg base cl k x n ds f) : Cal P w K mg base cl' k x n ds f := by
  obtain ⟨fa, fd, ps, dss, dvs, F, a1, a2, a3, a4, a5⟩ := q.ex
  exact ⟨fa, fd, ps, dss, dvs, F.imp (spF_cong hk), a1, a2, a3, a4, fun F => (a5 F).cong hk⟩
theorem Met.cong (hk : cl.k = cl'.k) (q : Met P w K mg base cl k c m n f) : Met P w K mg base cl' k c m n f := by
  obtain ⟨fa, fd, ps, c1, c2, F, a1⟩ := q.ex
  rw [hk] at c1 c2
  exact ⟨fa, fd, ps, c1, c2, F.imp (spF_cong hk), a1⟩
theorem Mak.cong (hk : cl.k = cl'.k) (q : Mak P w K mg base cl k c x n ds h) : Mak P w K mg base cl' k c x n ds h := by
  obtain ⟨fa, fd, ps, dss, dvs, M, F, a1, a2, a3, a4⟩ := q.ex
  rw [hk] at M a1
  exact ⟨fa, fd, ps, dss, dvs, M, F.imp (spI_cong hk), a1, a2, a3, fun F => (a4 F).cong hk⟩
/-- a mirror that says no more than f does -/
def Les {α : Type} (g f : List U → Option α) : Prop := ∀ us u, g us = some u → f us = some u
theorem spF_les (l : Les g f) (vs : List V) (H : Hp) (Q : VK) (E : XK) (q : spF cl n g vs H Q E) : spF cl n f vs H Q E := by
  obtain ⟨hl, F, us, u, sb, r, e, q⟩ := q
  exact ⟨hl, F, us, u, sb, r, l us u e, q⟩
theorem Cal.les (l : Les g f) (q : Cal P w K mg base cl k x n ds f) : Cal P w K mg base cl k x n ds g := by
  obtain ⟨fa, fd, ps, dss, dvs, F, a⟩ := q.ex
  exact ⟨fa, fd, ps, dss, dvs, F.imp (spF_les l), a⟩
theorem Met.les (l : Les g f) (q : Met P w K mg base cl k c m n f) : Met P w K mg base cl k c m n g := by
  obtain ⟨fa, fd, ps, c1, c2, F, a1⟩ := q.ex
  exact ⟨fa, fd, ps, c1, c2, F.imp (spF_les l), a1⟩
end
section
variable {cl : Cl} {F0 H0 F H F' H' : Hp} {env : List U} {σ : Sig} {X : Cx} {k j c n : Nat} {x m : Str} {f : List U → Option U}
theorem RvL.split {us ds : List U} {vs dvs : List V} (r : RpL cl F us vs) (d : RpL cl F ds dvs) : RpL cl F (us ++ ds) (vs ++ dvs) := r.app d
/-- f(e, ..) -/
def eCall (f : List U → Option U) (ms : MA) : M := fun env => ob (ms env) fun us => gd (frz us) (f us)
def eCallD (f : List U → Option U) (ds : List U) (ms : MA) : M := fun env => ob (ms env) fun us => gd (frz us) (f (lapp us ds))
theorem frz_rp {us : List U} {vs : List V} (h : frz us = true) (r : RvL cl F H us vs) : RpL cl F us vs := r.rp (by rw [← frz_eq]; exact h)
theorem tCall_of {ds : List U} {dvs : List V} (hd : ∀ F, RpL cl F ds dvs) {ms : MA} {E : XK} {N : Nat} (hN : ∀ us : List U, us.length + ds.length = N ∨ True) (σ : Sig) (H : Hp) (Q : VK) (hlen : ∀ vs H Q E, spF cl N f vs H Q E → vs.length = N)
    (h : tM cl (eCallD f ds ms) σ H Q) (len : ∀ us env, ms env = some us → us.length + ds.length = N) : tCall (spF cl N f) dvs E (tA cl ms) σ H Q := by
  obtain ⟨F, env, u, er, e, q⟩ := h
  obtain ⟨us, eu, e⟩ := ob_some e
  obtain ⟨hf, e⟩ := gd_some e
  refine ⟨F, env, us, er, eu, fun F' H' vs s r => ?_⟩
  have rp := frz_rp hf r
  rw [lapp_eq] at e
  have hall := rp.app (hd F')
  have := len us env eu
  refine ⟨by rw [← hall.len, List.length_append]; exact this, F', us ++ ds, u, s.fh, hall, e, fun F2 H2 v s2 rv => q F2 H2 v (s.trans s2) (Rv.of rv)⟩
/-- how many arguments -/
structure Len (ms : MA) (n : Nat) : Prop where
  eq : ∀ us env, ms env = some us → us.length = n
theorem len_nil : Len aN 0 := ⟨fun us env h => by cases h; rfl⟩
theorem len_cons {m : M} {ms : MA} {n : Nat} (h : Len ms n) : Len (aC m ms) (n + 1) := ⟨fun us env e => by
  obtain ⟨u, _, e⟩ := ob_some e
  obtain ⟨ws, ew, e⟩ := ob_some e
  cases e
  exact congrArg Nat.succ (h.eq ws env ew)⟩
theorem j_callD {ds : List U} {p pos : Pos} {e : Expr} {es : List Expr} {ms : MA} {i : Nat} (q : Cal X.prog X.w X.K X.mg X.base cl k x n ds f) (hr : Room j X.A) (hk : k ≤ j) (hg : Gl X x) (ha : PA X (e :: es) (tA cl ms)) (hl : Len ms i) (hi : i + ds.length = n := by rfl)
    (hdb : (x == ("__debug__" : Str)) = false := by decide) (he : starEach (e :: es) X.env = (false, eval e X.env) :: starEach es X.env := by rfl) (hpl : (backTo pos (starEach es X.env)).any (·.1) = false := by rfl) :
    PE X (.Call (.Name x p) (e :: es) [] pos) (tM cl (eCallD f ds ms)) := by
  obtain ⟨fa, fd, ps, dss, dvs, F, a1, a2, a3, a4, a5⟩ := q.ex
  exact (pe_call F (hr.mono hk) hg a1 a2 a3 a4 pass0 ha hdb he hpl).wk fun σ H Q z => tCall_of (N := n) a5 (fun _ => .inr trivial) σ H Q (fun vs H Q E z => z.1) z fun us env eu => by rw [hl.eq us env eu]; exact hi
theorem j_call {p pos : Pos} {e : Expr} {es : List Expr} {ms : MA} (q : Cal X.prog X.w X.K X.mg X.base cl k x n [] f) (hr : Room j X.A) (hk : k ≤ j) (hg : Gl X x) (ha : PA X (e :: es) (tA cl ms)) (hl : Len ms n)
    (hdb : (x == ("__debug__" : Str)) = false := by decide) (he : starEach (e :: es) X.env = (false, eval e X.env) :: starEach es X.env := by rfl) (hpl : (backTo pos (starEach es X.env)).any (·.1) = false := by rfl) :
    PE X (.Call (.Name x p) (e :: es) [] pos) (tM cl (eCall f ms)) := (j_callD q hr hk hg ha hl rfl hdb he hpl).wk fun σ H Q ⟨F, env, u, er, e, z⟩ => by
  obtain ⟨us, eu, e⟩ := ob_some e
  obtain ⟨hf, e⟩ := gd_some e
  refine ⟨F, env, u, er, ?_, z⟩
  show ob (ms env) _ = _
  rw [eu]
  show gd (frz us) (f (lapp us [])) = _
  rw [lapp_eq, List.append_nil, hf]
  exact e
/-- o.m(e, ..) -/
def isC (c : Nat) (u : U) : Bool := U.casesOn (motive_1 := fun _ => Bool) u false false (fun _ => false) (fun _ => false) (fun _ => false) (fun _ => false) (fun d _ => Nat.beq c d) (fun _ => false) (fun _ => false) (fun _ _ => false) (fun _ _ => false) (fun _ _ => false)
theorem isC_rv {u : U} {v : V} (h : isC c u = true) (r : Rv cl F H u v) : ∃ a dx fs us, u = .ins c us ∧ v = .ref a ∧ F a = some (.ins (cl.k c) dx fs) ∧ fs.map (·.1) = fnames c ∧ RpL cl F us (fs.map (·.2)) ∧ Rp cl F u v := by
  cases u <;> first | exact absurd h Bool.false_ne_true | skip
  have hc := Nat.eq_of_beq_eq_true (show Nat.beq c _ = true from h)
  subst hc
  have rp : Rp cl F _ v := Rv.rp (u := .ins c _) rfl r
  simp only [Rv, Rp] at r
  obtain ⟨a, dx, fs, h1, h2, h3, h4⟩ := r
  exact ⟨a, dx, fs, _, rfl, h1, h2, h3, h4, rp⟩
theorem no_field {ns : List Str} {fs : List (Str × V)} {m : Str} (h : fs.map (·.1) = ns) (hm : m ∉ ns) : fs.lookup m = none := by
  induction fs generalizing ns with
  | nil => rfl
  | cons p fs ih =>
    subst h
    rw [List.map_cons, List.mem_cons] at hm
    have h1 : (m == p.1) = false := by
      cases q : (m == p.1) with
      | false => rfl
      | true => exact absurd (.inl (eq_of_beq q)) hm
    obtain ⟨a, b⟩ := p
    rw [List.lookup_cons, h1]
    exact ih rfl fun z => hm (.inr z)
def eMeth (c : Nat) (f : List U → Option U) (o : M) (ms : MA) : M := fun env => ob (o env) fun u => gd (isC c u) (ob (ms env) fun us => gd (frz us) (f (u :: us)))
theorem tMeth_of {o : M} {ms : MA} {E : XK} {i : Nat} (hm : m ∉ fnames c) (hl : Len ms i) (hi : i + 1 = n) (σ : Sig) (H : Hp) (Q : VK) (h : tM cl (eMeth c f o ms) σ H Q) : tMeth (cl.k c) m (spF cl n f) [] E (tM cl o) (tA cl ms) σ H Q := by
  obtain ⟨F, env, u, er, e, q⟩ := h
  obtain ⟨w, ew, e⟩ := ob_some e
  obtain ⟨hc, e⟩ := gd_some e
  obtain ⟨us, eu, e⟩ := ob_some e
  obtain ⟨hf, e⟩ := gd_some e
  refine ⟨F, env, w, er, ew, fun F1 H1 v s r => ?_⟩
  obtain ⟨a, dx, fs, ws, rfl, rfl, ha, hn, _, rp⟩ := isC_rv hc r
  refine ⟨a, dx, fs, rfl, s.fh _ _ ha, no_field hn hm, F1, env, us, er.step s, eu, fun F2 H2 vs s2 r2 => ?_⟩
  have rp2 := frz_rp hf r2
  have hl' := hl.eq us env eu
  refine ⟨by rw [List.append_nil, List.length_cons, ← rp2.len]; omega, F2, _ :: us, u, s2.fh, ?_, e, fun F3 H3 z s3 rz => q F3 H3 z ((s.trans s2).trans s3) (Rv.of rz)⟩
  rw [List.append_nil]
  rw [RpL]
  exact ⟨rp.mono s2.ff, rp2⟩
theorem j_meth {pl : Sem Bool} {o e : Expr} {es : List Expr} {apos pos : Pos} {mo : M} {ms : MA} {i : Nat} (q : Met X.prog X.w X.K X.mg X.base cl k c m n f) (hr : Room j X.A) (hk : k ≤ j) (hm : m ∉ fnames c) (ho : PE X o (tM cl mo)) (ha : PA X (e :: es) (tA cl ms)) (hl : Len ms i) (hi : i + 1 = n := by rfl)
    (hst : starEach (e :: es) X.env = (false, eval e X.env) :: starEach es X.env := by rfl) (hpl : (backTo pos (starEach es X.env)).any (·.1) = false := by rfl)
    (ht : eval (.Call (.Attribute o m apos) (e :: es) [] pos) X.env = (do
      let ov ← eval o X.env
      standAt apos.atName
      let (g, first) ← holding [ov] (getMethod ov m pl)
      callWith pos g first (backTo pos (starEach (e :: es) X.env)) (backToKw pos (keywordEach [] X.env))) := by rfl) :
    PE X (.Call (.Attribute o m apos) (e :: es) [] pos) (tM cl (eMeth c f mo ms)) := by
  obtain ⟨fa, fd, ps, c1, c2, F, b⟩ := q.ex
  exact (pe_meth (pl := pl) ho c1 c2 F (hr.mono hk) b .nil pass0 ha hst hpl ht).wk (tMeth_of hm hl hi)
theorem j_meth0 {pl : Sem Bool} {o : Expr} {apos pos : Pos} {mo : M} (q : Met X.prog X.w X.K X.mg X.base cl k c m 1 f) (hr : Room j X.A) (hk : k ≤ j) (hm : m ∉ fnames c) (ho : PE X o (tM cl mo))
    (ht : eval (.Call (.Attribute o m apos) [] [] pos) X.env = (do
      let ov ← eval o X.env
      standAt apos.atName
      let (g, first) ← holding [ov] (getMethod ov m pl)
      callWith pos g first (backTo pos (starEach [] X.env)) (backToKw pos (keywordEach [] X.env))) := by rfl) :
    PE X (.Call (.Attribute o m apos) [] [] pos) (tM cl (eMeth c f mo aN)) := by
  obtain ⟨fa, fd, ps, c1, c2, F, b⟩ := q.ex
  refine (pe_meth0 (pl := pl) ho c1 c2 F (hr.mono hk) b .nil pass0 ht).wk fun σ H Q h => ?_
  obtain ⟨F1, env, w, er, ew, z⟩ := tMeth_of (E := E0) hm len_nil rfl σ H Q h
  refine ⟨F1, env, w, er, ew, fun F2 H2 v s r => ?_⟩
  obtain ⟨a, dx, fs, h1, h2, h3, F3, env3, us, er3, e3, z3⟩ := z F2 H2 v s r
  cases e3
  exact ⟨a, dx, fs, h1, h2, h3, z3 F3 H2 [] (Stp.refl er3.sb) trivial⟩
/-- C(e, ..) -/
def eMake (c : Nat) (f : List U → Option (List U)) (ds : List U) (ms : MA) : M := fun env => ob (ms env) fun us => gd (frz us) (ob (f (lapp us ds)) fun ws => some (.ins c ws))
theorem j_make {ds : List U} {p pos : Pos} {e : Expr} {es : List Expr} {ms : MA} {i : Nat} {f : List U → Option (List U)} (q : Mak X.prog X.w X.K X.mg X.base cl k c x n ds f) (hr : Room j X.A) (hk : k + 1 ≤ j) (hg : Gl X x) (ha : PA X (e :: es) (tA cl ms)) (hl : Len ms i) (hi : i + ds.length + 1 = n := by rfl)
    (hdb : (x == ("__debug__" : Str)) = false := by decide) (he : starEach (e :: es) X.env = (false, eval e X.env) :: starEach es X.env := by rfl) (hpl : (backTo pos (starEach es X.env)).any (·.1) = false := by rfl) :
    PE X (.Call (.Name x p) (e :: es) [] pos) (tM cl (eMake c f ds ms)) := by
  obtain ⟨fa, fd, ps, dss, dvs, M, F, a1, a2, a3, a4⟩ := q.ex
  refine (pe_make M F (hr.mono hk) hg a1 a2 a3 pass0 ha hdb he hpl).wk fun σ H Q ⟨F, env, u, er, e, z⟩ => ?_
  obtain ⟨us, eu, e⟩ := ob_some e
  obtain ⟨hf, e⟩ := gd_some e
  obtain ⟨ws, ew, e⟩ := ob_some e
  cases e
  refine ⟨F, env, us, er, eu, fun F1 H1 vs s r a dx na nd ne => ?_⟩
  have rp := frz_rp hf r
  rw [lapp_eq] at ew
  have hall := rp.app (a4 F1)
  have hl' := hl.eq us env eu
  have hl2 := hall.len
  rw [List.length_append] at hl2
  refine ⟨by rw [List.length_cons, ← hl2]; omega, a, dx, vs ++ dvs, H1, F1, us ++ ds, ws, rfl, na, nd, ne, rfl, s.fh, hall, ew, fun F2 H2 fs s2 nf hx hn rw' => ⟨rfl, ?_⟩⟩
  have st := s.trans s2
  refine z (upd F2 a (.ins (cl.k c) dx fs)) H2 (.ref a) ⟨st.ff.trans (Sb.new nf), ?_, st.hh, fun b o g => ?_⟩ ?_
  · intro b o g
    by_cases y : b = a
    · subst y; rw [upd_same] at g; cases g; exact hx
    · rw [upd_ne y] at g; exact st.fh b o g
  · by_cases y : b = a
    · subst y
      right
      refine fz_none ?_
      cases q : H b with
      | none => rfl
      | some o' => rw [s.hh b o' q] at na; cases na
    · rw [upd_ne y] at g; exact st.new b o g
  · simp only [Rv, Rp]
    exact ⟨a, dx, fs, rfl, upd_same, hn, rw'.mono (Sb.new nf)⟩
/-- o.f -/
def fFld (c i : Nat) (u : U) : Option U := U.casesOn (motive_1 := fun _ => Option U) u none none (fun _ => none) (fun _ => none) (fun _ => none) (fun _ => none) (fun d x => gd (Nat.beq c d) (nth x i)) (fun _ => none) (fun _ => none) (fun _ _ => none) (fun _ _ => none) (fun _ _ => none)
theorem field_at {ns : List Str} {fs : List (Str × V)} {i : Nat} {f : Str} {v : V} (hn : ns.Nodup) (h : fs.map (·.1) = ns) (hi : ns[i]? = some f) (hv : (fs.map (·.2))[i]? = some v) : fs.lookup f = some v := by
  induction fs generalizing ns i with
  | nil => simp at hv
  | cons p fs ih =>
    subst h
    obtain ⟨a, b⟩ := p
    cases i with
    | zero =>
      simp at hi hv
      subst hi; subst hv
      rw [List.lookup_cons]
      simp
    | succ i =>
      rw [List.map_cons, List.getElem?_cons_succ] at hi hv
      rw [List.map_cons, List.nodup_cons] at hn
      have h1 : (f == a) = false := by
        cases q : (f == a) with
        | false => rfl
        | true =>
          have e := eq_of_beq q
          subst e
          exact absurd (List.mem_of_getElem? hi) hn.1
      rw [List.lookup_cons, h1]
      exact ih hn.2 rfl hi hv
theorem fn_nodup : ∀ c : Nat, (fnames c).Nodup
  | 0 => by decide
  | 1 => by decide
  | 2 => by decide
  | _ + 3 => by show (["group","rows"] : List Str).Nodup; decide
theorem j_fld {e : Expr} {pos : Pos} {i : Nat} {mo : M} {f : Str} (hc : Cls X.K (cl.k c)) (hn : NoAttr X.K (cl.k c) f) (hf : (fnames c)[i]? = some f) (ho : PE X e (tM cl mo)) (hb : attributeBase e f X.env (eval e X.env) = eval e X.env := by rfl) :
    PE X (.Attribute e f pos) (tM cl (e1 (fFld c i) mo)) := (pe_fld ho hb).wk fun σ H Q ⟨F, env, u, er, e, z⟩ => by
  obtain ⟨w, ew, e⟩ := ob_some e
  refine ⟨F, env, w, er, ew, fun F1 H1 v s r => ?_⟩
  cases w <;> first | exact nomatch (show (none : Option U) = some u from e) | skip
  obtain ⟨h1, h2⟩ := gd_some (show gd (Nat.beq c _) (nth _ i) = some u from e)
  have hq := Nat.eq_of_beq_eq_true h1
  subst hq
  rw [nth_eq] at h2
  simp only [Rv, Rp] at r
  obtain ⟨a, dx, fs, rfl, ha, hns, hr⟩ := r
  obtain ⟨v, hv, rv⟩ := hr.get h2
  exact ⟨a, cl.k c, dx, fs, v, rfl, s.fh _ _ ha, hc, hn, field_at (fn_nodup c) hns hf hv, z F1 H1 v s (Rv.of rv)⟩
/-- self.f = e, in an __init__: the next field -/
def sFl (c i : Nat) (m : M) : MS := fun env => ob (m env) fun y => ob (chk y) fun y => ob (nth env 0) fun u => ob (asOi c u) fun ws => gd (Nat.beq (llen ws) i) (some (.nx (lset env 0 (.oi c (lapp ws [y])))))
theorem putF_new {f : Str} {v : V} : ∀ {fs : List (Str × V)}, f ∉ fs.map (·.1) → putF f v fs = fs ++ [(f, v)]
  | [], _ => rfl
  | (g, u) :: fs, h => by
    rw [List.map_cons, List.mem_cons] at h
    have ih := putF_new (f := f) (v := v) (fs := fs) fun z => h (.inr z)
    have hg : ¬ g = f := fun z => h (.inl z.symm)
    unfold putF
    first
      | (rw [if_neg hg, ih]; rfl)
      | (rw [if_neg (fun z => hg z.symm), ih]; rfl)
      | (simp [hg, Ne.symm hg, ih])
theorem js_fld {i : Nat} {st : Stmt} {e : Expr} {f : Str} {mm : M} (hs : ∀ te, PE X e te → PS X st (sFld X.K (tVar 0) te f)) (hc : Cls X.K (cl.k c)) (hn : NoAttr X.K (cl.k c) f) (hf : (fnames c)[i]? = some f) (he : PE X e (tM cl mm)) : PS X st (tS cl (sFl c i mm)) :=
  (hs _ he).wk fun D σ H ⟨F0, H0, F, env, o, sr, e, k⟩ => by
    obtain ⟨y, ey, e2⟩ := ob_some e
    obtain ⟨y', ec, e3⟩ := ob_some e2
    obtain ⟨rfl, ho⟩ := chk_some ec
    obtain ⟨u, eu, e4⟩ := ob_some e3
    obtain ⟨ws, ew, e5⟩ := ob_some e4
    obtain ⟨hb, e6⟩ := gd_some e5
    have hu := asOi_some ew
    rw [hu, nth_eq] at eu
    cases e6
    have hl := Nat.eq_of_beq_eq_true hb
    rw [llen_eq] at hl
    refine ⟨F, env, y, sr.er, ey, fun F1 H1 v s r => ?_⟩
    have s1 := sr.step s
    rcases s1.er.slot 0 _ eu with z | ⟨v0, hv, fs, rfl, hh, hfs, hr⟩
    · cases z
    · have hlen : fs.length ≤ 3 := by
        have h1 := hr.len
        rw [List.length_map] at h1
        have h2 : ws.length ≤ (fnames c).length := by
          have h3 := congrArg List.length hfs
          rw [List.length_map, List.length_take] at h3
          omega
        have h4 : (fnames c).length ≤ 3 := by
          rw [← nFld_eq]
          unfold nFld
          split <;> omega
        omega
      have hnew : f ∉ fs.map (·.1) := by
        rw [hfs, hl]
        intro z
        obtain ⟨q, hq⟩ := List.mem_iff_getElem?.mp z
        rw [List.getElem?_take] at hq
        split at hq
        · rename_i hlt
          have := (fn_nodup c)
          exact absurd (nodup_ix this hq hf) (by omega)
        · cases hq
      refine ⟨_, hv, cl.se, cl.k c, cl.sd, fs, rfl, hh, hc, hn, by omega, ?_⟩
      rw [putF_new hnew]
      refine k F1 _ _ (s1.change eu rfl hv ⟨fs ++ [(f, v)], rfl, upd_same, ?_, ?_⟩)
      · rw [lapp_eq, List.map_append, hfs, List.length_append, hl]
        show (fnames c).take i ++ [f] = (fnames c).take (i + 1)
        rw [List.take_add_one, hf]
        rfl
      · rw [lapp_eq, List.map_append]
        exact hr.app (RpL.one (r.rp ho))
end
end Ct
end
end
section
set_option Elab.async false
set_option linter.all false
set_option maxRecDepth 100000
set_option maxHeartbeats 4000000
noncomputable section
namespace Ct
open PySem PySem.Spec PyProof.Rows L2
open PySem.W (keyToks keyToksAll alike alikeAll dataLt dataLe AllAlike Sortable EachIs)

/-! ### data of a known shape: ints, tuples and lists of these -/
inductive Sch where | i | a (s : Sch) | l (s : Sch) | t2 (x y : Sch) | t3 (x y z : Sch)
mutual
def dU : U → PyData
  | .non => .none | .bl b => .bool b | .int i => .int i | .tup xs => .tuple (dUs xs) | .lst xs => .list (dUs xs) | .ol xs => .list (dUs xs) | _ => .none
def dUs : List U → List PyData
  | [] => []
  | u :: us => dU u :: dUs us
end
inductive Conf : Sch → PyData → Prop
  | i (n : Int) : Conf .i (.int n)
  | a {s : Sch} {ds : List PyData} (h : ∀ e ∈ ds, Conf s e) : Conf (.a s) (.tuple ds)
  | l {s : Sch} {ds : List PyData} (h : ∀ e ∈ ds, Conf s e) : Conf (.l s) (.list ds)
  | t2 {x y : Sch} {p q : PyData} (h1 : Conf x p) (h2 : Conf y q) : Conf (.t2 x y) (.tuple [p, q])
  | t3 {x y z : Sch} {p q r : PyData} (h1 : Conf x p) (h2 : Conf y q) (h3 : Conf z r) : Conf (.t3 x y z) (.tuple [p, q, r])
def Sch.dep : Sch → Nat
  | .i => 0 | .a s => s.dep + 1 | .l s => s.dep + 1 | .t2 x y => max x.dep y.dep + 1 | .t3 x y z => max x.dep (max y.dep z.dep) + 1
theorem conf_all : ∀ (s : Sch) (n : Nat), (∀ d, Conf s d → d.canLay0 = true ∧ d.depth ≤ n) → ∀ ds : List PyData, (∀ e ∈ ds, Conf s e) → PyData.canLayAll0 ds = true ∧ PyData.depthAll ds ≤ n
  | _, _, _, [], _ => ⟨by simp only [PyData.canLayAll0], by simp only [PyData.depthAll]; omega⟩
  | s, n, ih, d :: ds, h => by
    obtain ⟨h1, h2⟩ := ih d (h d (List.mem_cons_self ..))
    obtain ⟨h3, h4⟩ := conf_all s n ih ds fun e m => h e (List.mem_cons_of_mem _ m)
    refine ⟨by simp only [PyData.canLayAll0, h1, h3, Bool.and_self], ?_⟩
    simp only [PyData.depthAll]
    omega
theorem conf_lay : ∀ (s : Sch) (d : PyData), Conf s d → d.canLay0 = true ∧ d.depth ≤ s.dep
  | .i, _, .i n => ⟨by simp only [PyData.canLay0], by simp only [PyData.depth]; omega⟩
  | .a s, _, .a h => by
    obtain ⟨h1, h2⟩ := conf_all s _ (conf_lay s) _ h
    refine ⟨by simp only [PyData.canLay0, h1], ?_⟩
    simp only [PyData.depth, Sch.dep]
    omega
  | .l s, _, .l h => by
    obtain ⟨h1, h2⟩ := conf_all s _ (conf_lay s) _ h
    refine ⟨by simp only [PyData.canLay0, h1], ?_⟩
    simp only [PyData.depth, Sch.dep]
    omega
  | .t2 x y, _, .t2 h1 h2 => by
    obtain ⟨a1, a2⟩ := conf_lay x _ h1
    obtain ⟨b1, b2⟩ := conf_lay y _ h2
    refine ⟨by simp only [PyData.canLay0, PyData.canLayAll0, a1, b1, Bool.and_self], ?_⟩
    simp only [PyData.depth, PyData.depthAll, Sch.dep]
    omega
  | .t3 x y z, _, .t3 h1 h2 h3 => by
    obtain ⟨a1, a2⟩ := conf_lay x _ h1
    obtain ⟨b1, b2⟩ := conf_lay y _ h2
    obtain ⟨c1, c2⟩ := conf_lay z _ h3
    refine ⟨by simp only [PyData.canLay0, PyData.canLayAll0, a1, b1, c1, Bool.and_self], ?_⟩
    simp only [PyData.depth, PyData.depthAll, Sch.dep]
    omega
theorem conf_shaped {s : Sch} {d : PyData} (hs : s.dep ≤ 64) (h : Conf s d) : SeqAt.shaped d = true := by
  obtain ⟨h1, h2⟩ := conf_lay s d h
  show (d.canLay0 && decide (d.depth ≤ 64)) = true
  rw [h1, decide_eq_true (by omega)]
  rfl
theorem alike_all : ∀ (s : Sch), (∀ d e, Conf s d → Conf s e → alike d e = true) → ∀ ds es : List PyData, (∀ e ∈ ds, Conf s e) → (∀ e ∈ es, Conf s e) → alikeAll ds es = true
  | _, _, [], _, _, _ => by simp only [alikeAll]
  | _, _, _ :: _, [], _, _ => by simp only [alikeAll]
  | s, ih, d :: ds, e :: es, h1, h2 => by
    simp only [alikeAll, ih d e (h1 d (List.mem_cons_self ..)) (h2 e (List.mem_cons_self ..)), Bool.true_and]
    exact alike_all s ih ds es (fun x m => h1 x (List.mem_cons_of_mem _ m)) fun x m => h2 x (List.mem_cons_of_mem _ m)
theorem conf_alike : ∀ (s : Sch) (d e : PyData), Conf s d → Conf s e → alike d e = true
  | .i, _, _, .i n, .i m => by simp only [alike]
  | .a s, _, _, .a h, .a h' => by simp only [alike]; exact alike_all s (conf_alike s) _ _ h h'
  | .l s, _, _, .l h, .l h' => by simp only [alike]; exact alike_all s (conf_alike s) _ _ h h'
  | .t2 x y, _, _, .t2 h1 h2, .t2 k1 k2 => by simp only [alike, alikeAll, conf_alike x _ _ h1 k1, conf_alike y _ _ h2 k2, Bool.and_self]
  | .t3 x y z, _, _, .t3 h1 h2 h3, .t3 k1 k2 k3 => by simp only [alike, alikeAll, conf_alike x _ _ h1 k1, conf_alike y _ _ h2 k2, conf_alike z _ _ h3 k3, Bool.and_self]
/-- the signs say which data it is -/
theorem toks_all_inj (s : Sch) (ih : ∀ d e, Conf s d → Conf s e → ∀ l m, keyToks d ++ l = keyToks e ++ m ↔ PyData.eqv d e = true ∧ l = m) : ∀ ds es : List PyData, (∀ e ∈ ds, Conf s e) → (∀ e ∈ es, Conf s e) → ∀ l m, keyToksAll ds ++ l = keyToksAll es ++ m ↔ PyData.eqvAll ds es = true ∧ l = m
  | [], [], _, _, l, m => by simp only [keyToksAll, PyData.eqvAll, List.cons_append, List.nil_append, List.cons.injEq, true_and]
  | [], e :: es, _, _, l, m => by simp [keyToksAll, PyData.eqvAll]
  | d :: ds, [], _, _, l, m => by simp [keyToksAll, PyData.eqvAll]
  | d :: ds, e :: es, h1, h2, l, m => by
    simp only [keyToksAll, PyData.eqvAll, List.cons_append, List.cons.injEq, true_and, List.append_assoc, Bool.and_eq_true]
    rw [ih d e (h1 d (List.mem_cons_self ..)) (h2 e (List.mem_cons_self ..)), toks_all_inj s ih ds es (fun x q => h1 x (List.mem_cons_of_mem _ q)) (fun x q => h2 x (List.mem_cons_of_mem _ q))]
    exact (and_assoc).symm
theorem toks_inj : ∀ (s : Sch) (d e : PyData), Conf s d → Conf s e → ∀ l m, keyToks d ++ l = keyToks e ++ m ↔ PyData.eqv d e = true ∧ l = m
  | .i, _, _, .i n, .i k, l, m => by simp [keyToks, PyData.eqv]
  | .a s, _, _, .a h, .a h', l, m => by simp only [keyToks, PyData.eqv]; exact toks_all_inj s (toks_inj s) _ _ h h' l m
  | .l s, _, _, .l h, .l h', l, m => by simp only [keyToks, PyData.eqv]; exact toks_all_inj s (toks_inj s) _ _ h h' l m
  | .t2 x y, _, _, .t2 h1 h2, .t2 k1 k2, l, m => by
    simp only [keyToks, keyToksAll, PyData.eqv, PyData.eqvAll, List.cons_append, List.cons.injEq, true_and, List.append_assoc, Bool.and_eq_true, List.nil_append, Bool.and_true]
    rw [toks_inj x _ _ h1 k1]
    simp only [List.cons.injEq, true_and]
    rw [toks_inj y _ _ h2 k2]
    simp only [List.cons.injEq, true_and]
    exact (and_assoc).symm
  | .t3 x y z, _, _, .t3 h1 h2 h3, .t3 k1 k2 k3, l, m => by
    simp only [keyToks, keyToksAll, PyData.eqv, PyData.eqvAll, List.cons_append, List.cons.injEq, true_and, List.append_assoc, Bool.and_eq_true, List.nil_append, Bool.and_true]
    rw [toks_inj x _ _ h1 k1]
    simp only [List.cons.injEq, true_and]
    rw [toks_inj y _ _ h2 k2]
    simp only [List.cons.injEq, true_and]
    rw [toks_inj z _ _ h3 k3]
    simp only [List.cons.injEq, true_and]
    constructor
    · rintro ⟨a, b, c, d⟩; exact ⟨⟨a, b, c⟩, d⟩
    · rintro ⟨⟨a, b, c⟩, d⟩; exact ⟨a, b, c, d⟩
theorem toks_eq {s : Sch} {d e : PyData} (h1 : Conf s d) (h2 : Conf s e) : keyToks d = keyToks e ↔ PyData.eqv d e = true := by
  have := toks_inj s d e h1 h2 [] []
  simpa using this

/-! the signs, by the mirror -/
def iapp (xs ys : List Int) : List Int := List.rec (motive := fun _ => List Int) ys (fun x _ r => x :: r) xs
theorem iapp_eq (ys : List Int) : ∀ xs : List Int, iapp xs ys = xs ++ ys
  | [] => rfl
  | x :: xs => congrArg (List.cons x) (iapp_eq ys xs)
def asP (u : U) : Option (List U) := U.casesOn (motive_1 := fun _ => Option (List U)) u none none (fun _ => none) (fun _ => none) (fun x => some x) (fun _ => none) (fun _ _ => none) (fun _ => none) (fun _ => none) (fun _ _ => none) (fun _ _ => none) (fun _ _ => none)
def tokL (f : U → Option (List Int)) (us : List U) : Option (List Int) := List.rec (motive := fun _ => Option (List Int)) (some [.ofNat 0]) (fun u _ r => ob (f u) fun p => ob r fun q => some (.ofNat 1 :: iapp p q)) us
def tok (s : Sch) : U → Option (List Int) := Sch.rec (motive := fun _ => U → Option (List Int))
  (fun u => ob (asI u) fun i => some [i]) (fun _ f u => ob (asP u) (tokL f)) (fun _ f u => ob (asL u) (tokL f))
  (fun _ _ f g u => ob (asP u) (fA2 fun a b => ob (f a) fun p => ob (g b) fun q => some (.ofNat 1 :: iapp p (.ofNat 1 :: iapp q [.ofNat 0]))))
  (fun _ _ _ f g h u => ob (asP u) (fA3 fun a b c => ob (f a) fun p => ob (g b) fun q => ob (h c) fun r => some (.ofNat 1 :: iapp p (.ofNat 1 :: iapp q (.ofNat 1 :: iapp r [.ofNat 0]))))) s
def inl (t : List Int) : List (Int ⊕ List Nat) := t.map Sum.inl
theorem inl_app (a b : List Int) : inl (iapp a b) = inl a ++ inl b := by rw [iapp_eq]; exact List.map_append
theorem inl_inj {a b : List Int} (h : inl a = inl b) : a = b := by
  induction a generalizing b with
  | nil => cases b with
    | nil => rfl
    | cons _ _ => exact nomatch h
  | cons x a ih => cases b with
    | nil => exact nomatch h
    | cons y b =>
      have h' : Sum.inl x :: inl a = Sum.inl y :: inl b := h
      injection h' with h1 h2
      injection h1 with h1
      rw [h1, ih h2]
theorem asP_some {u : U} {us : List U} (h : asP u = some us) : u = .tup us := by
  cases u <;> cases h
  rfl
theorem asI_some {u : U} {i : Int} (h : asI u = some i) : u = .int i := by
  cases u <;> cases h
  rfl
theorem asL_dU {u : U} {us : List U} (h : asL u = some us) : dU u = .list (dUs us) := by
  cases u <;> cases h <;> simp only [dU]
theorem fA2_eq {α : Type} {f : U → U → Option α} {us : List U} {a : α} (h : fA2 f us = some a) : ∃ u w, us = [u, w] ∧ f u w = some a := by
  rcases us with _ | ⟨u, _ | ⟨w, _ | ⟨z, us⟩⟩⟩
  · cases h
  · cases h
  · exact ⟨u, w, rfl, h⟩
  · cases h
theorem fA3_eq {α : Type} {f : U → U → U → Option α} {us : List U} {a : α} (h : fA3 f us = some a) : ∃ u w z, us = [u, w, z] ∧ f u w z = some a := by
  rcases us with _ | ⟨u, us⟩
  · cases h
  · obtain ⟨w, z, rfl, e⟩ := fA2_eq (f := f u) h
    exact ⟨u, w, z, rfl, e⟩
theorem tokL_ok (s : Sch) (f : U → Option (List Int)) (ih : ∀ u t, f u = some t → Conf s (dU u) ∧ keyToks (dU u) = inl t) : ∀ (us : List U) (t : List Int), tokL f us = some t → (∀ e ∈ dUs us, Conf s e) ∧ keyToksAll (dUs us) = inl t
  | [], t, h => by
    cases h
    refine ⟨fun e m => ?_, by simp only [dUs, keyToksAll]; rfl⟩
    simp only [dUs] at m
    cases m
  | u :: us, t, h => by
    obtain ⟨p, ep, h⟩ := ob_some (show ob (f u) (fun p => ob (tokL f us) fun q => some (.ofNat 1 :: iapp p q)) = some t from h)
    obtain ⟨q, eq, h⟩ := ob_some h
    cases h
    obtain ⟨h1, h2⟩ := ih u p ep
    obtain ⟨h3, h4⟩ := tokL_ok s f ih us q eq
    refine ⟨fun e m => ?_, ?_⟩
    · simp only [dUs] at m
      rcases List.mem_cons.mp m with rfl | m
      · exact h1
      · exact h3 e m
    · simp only [dUs, keyToksAll, h2, h4]
      rw [← inl_app]
      rfl
theorem tok_ok : ∀ (s : Sch) (u : U) (t : List Int), tok s u = some t → Conf s (dU u) ∧ keyToks (dU u) = inl t
  | .i, u, t, h => by
    obtain ⟨i, ei, h⟩ := ob_some (show ob (asI u) (fun i => some [i]) = some t from h)
    cases h
    cases asI_some ei
    simp only [dU, keyToks]
    exact ⟨.i i, rfl⟩
  | .a s, u, t, h => by
    obtain ⟨us, eu, h⟩ := ob_some (show ob (asP u) (tokL (tok s)) = some t from h)
    cases asP_some eu
    obtain ⟨h1, h2⟩ := tokL_ok s (tok s) (tok_ok s) us t h
    simp only [dU, keyToks]
    exact ⟨.a h1, h2⟩
  | .l s, u, t, h => by
    obtain ⟨us, eu, h⟩ := ob_some (show ob (asL u) (tokL (tok s)) = some t from h)
    obtain ⟨h1, h2⟩ := tokL_ok s (tok s) (tok_ok s) us t h
    rw [asL_dU eu]
    simp only [keyToks]
    exact ⟨.l h1, h2⟩
  | .t2 x y, u, t, h => by
    obtain ⟨us, eu, h⟩ := ob_some (show ob (asP u) (fA2 fun a b => ob (tok x a) fun p => ob (tok y b) fun q => some (.ofNat 1 :: iapp p (.ofNat 1 :: iapp q [.ofNat 0]))) = some t from h)
    cases asP_some eu
    obtain ⟨a, b, rfl, h⟩ := fA2_eq h
    obtain ⟨p, ep, h⟩ := ob_some h
    obtain ⟨q, eq, h⟩ := ob_some h
    cases h
    obtain ⟨h1, h2⟩ := tok_ok x a p ep
    obtain ⟨h3, h4⟩ := tok_ok y b q eq
    simp only [dU, dUs, keyToks, keyToksAll, h2, h4]
    refine ⟨.t2 h1 h3, ?_⟩
    show _ = Sum.inl 1 :: inl (iapp p _)
    rw [inl_app]
    show _ = Sum.inl 1 :: (inl p ++ (Sum.inl 1 :: inl (iapp q _)))
    rw [inl_app]
    rfl
  | .t3 x y z, u, t, h => by
    obtain ⟨us, eu, h⟩ := ob_some (show ob (asP u) (fA3 fun a b c => ob (tok x a) fun p => ob (tok y b) fun q => ob (tok z c) fun r => some (.ofNat 1 :: iapp p (.ofNat 1 :: iapp q (.ofNat 1 :: iapp r [.ofNat 0])))) = some t from h)
    cases asP_some eu
    obtain ⟨a, b, c, rfl, h⟩ := fA3_eq h
    obtain ⟨p, ep, h⟩ := ob_some h
    obtain ⟨q, eq, h⟩ := ob_some h
    obtain ⟨r, er, h⟩ := ob_some h
    cases h
    obtain ⟨h1, h2⟩ := tok_ok x a p ep
    obtain ⟨h3, h4⟩ := tok_ok y b q eq
    obtain ⟨h5, h6⟩ := tok_ok z c r er
    simp only [dU, dUs, keyToks, keyToksAll, h2, h4, h6]
    refine ⟨.t3 h1 h3 h5, ?_⟩
    show _ = Sum.inl 1 :: inl (iapp p _)
    rw [inl_app]
    show _ = Sum.inl 1 :: (inl p ++ (Sum.inl 1 :: inl (iapp q _)))
    rw [inl_app]
    show _ = Sum.inl 1 :: (inl p ++ (Sum.inl 1 :: (inl q ++ (Sum.inl 1 :: inl (iapp r _)))))
    rw [inl_app]
    rfl
section
variable {cl : Cl} {F H : Hp} {K : PySem.W.Frag}
theorem tokL_dp (f : U → Option (List Int)) (ih : ∀ u t v, f u = some t → Rp cl F u v → Dp K H v (dU u)) : ∀ (us : List U) (t : List Int) (vs : List V), tokL f us = some t → RpL cl F us vs → DpAll K H vs (dUs us)
  | [], _, [], _, _ => by simp only [dUs]; exact .nil
  | u :: us, t, v :: vs, h, r => by
    obtain ⟨p, ep, h⟩ := ob_some (show ob (f u) (fun p => ob (tokL f us) fun q => some (.ofNat 1 :: iapp p q)) = some t from h)
    obtain ⟨q, eq, h⟩ := ob_some h
    simp only [RpL] at r
    simp only [dUs]
    exact .cons (ih u p v ep r.1) (tokL_dp f ih us q vs eq r.2)
  | [], _, _ :: _, _, z => by simp only [RpL] at z
  | _ :: _, _, [], _, z => by simp only [RpL] at z
theorem dp_of (hs : Sb F H) : ∀ (s : Sch) (u : U) (t : List Int) (v : V), tok s u = some t → Rv cl F H u v → Dp K H v (dU u)
  | .i, u, t, v, h, r => by
    obtain ⟨i, ei, h⟩ := ob_some (show ob (asI u) (fun i => some [i]) = some t from h)
    rw [asI_rv ei r]
    cases asI_some ei
    simp only [dU]
    exact .int i
  | .a s, u, t, v, h, r => by
    obtain ⟨us, eu, h⟩ := ob_some (show ob (asP u) (tokL (tok s)) = some t from h)
    cases asP_some eu
    simp only [Rv, Rp] at r
    obtain ⟨a, vs, rfl, ha, hr⟩ := r
    simp only [dU]
    exact .tup (SqT.of (hs _ _ ha)) (tokL_dp _ (fun u t v e q => dp_of hs s u t v e (Rv.of q)) us t vs h hr)
  | .l s, u, t, v, h, r => by
    obtain ⟨us, eu, h⟩ := ob_some (show ob (asL u) (tokL (tok s)) = some t from h)
    rw [asL_dU eu]
    obtain ⟨a, vs, rfl, ha, hr⟩ := asL_rv eu hs r
    exact .lst (SqL.of ha) (tokL_dp _ (fun u t v e q => dp_of hs s u t v e (Rv.of q)) us t vs h hr)
  | .t2 x y, u, t, v, h, r => by
    obtain ⟨us, eu, h⟩ := ob_some (show ob (asP u) (fA2 fun a b => ob (tok x a) fun p => ob (tok y b) fun q => some (.ofNat 1 :: iapp p (.ofNat 1 :: iapp q [.ofNat 0]))) = some t from h)
    cases asP_some eu
    obtain ⟨a, b, rfl, h⟩ := fA2_eq h
    obtain ⟨p, ep, h⟩ := ob_some h
    obtain ⟨q, eq, h⟩ := ob_some h
    simp only [Rv, Rp] at r
    obtain ⟨ad, vs, rfl, ha, hr⟩ := r
    rcases vs with _ | ⟨v1, _ | ⟨v2, _ | ⟨v3, vs⟩⟩⟩ <;> simp only [RpL, and_false] at hr
    simp only [dU, dUs]
    exact .tup (SqT.of (hs _ _ ha)) (.cons (dp_of hs x a p v1 ep (Rv.of hr.1)) (.cons (dp_of hs y b q v2 eq (Rv.of hr.2.1)) .nil))
  | .t3 x y z, u, t, v, h, r => by
    obtain ⟨us, eu, h⟩ := ob_some (show ob (asP u) (fA3 fun a b c => ob (tok x a) fun p => ob (tok y b) fun q => ob (tok z c) fun r => some (.ofNat 1 :: iapp p (.ofNat 1 :: iapp q (.ofNat 1 :: iapp r [.ofNat 0])))) = some t from h)
    cases asP_some eu
    obtain ⟨a, b, c, rfl, h⟩ := fA3_eq h
    obtain ⟨p, ep, h⟩ := ob_some h
    obtain ⟨q, eq, h⟩ := ob_some h
    obtain ⟨r', er, h⟩ := ob_some h
    simp only [Rv, Rp] at r
    obtain ⟨ad, vs, rfl, ha, hr⟩ := r
    rcases vs with _ | ⟨v1, _ | ⟨v2, _ | ⟨v3, _ | ⟨v4, vs⟩⟩⟩⟩ <;> simp only [RpL, and_false] at hr
    simp only [dU, dUs]
    exact .tup (SqT.of (hs _ _ ha)) (.cons (dp_of hs x a p v1 ep (Rv.of hr.1)) (.cons (dp_of hs y b q v2 eq (Rv.of hr.2.1)) (.cons (dp_of hs z c r' v3 er (Rv.of hr.2.2.1)) .nil)))
end
/-- two rows of signs -/
def ilEq (xs : List Int) : List Int → Bool := List.rec (motive := fun _ => List Int → Bool) (fun ys => List.casesOn (motive := fun _ => Bool) ys true fun _ _ => false) (fun x _ r ys => List.casesOn (motive := fun _ => Bool) ys false fun y ys => Bool.rec false (r ys) (ieq x y)) xs
theorem ilEq_eq : ∀ xs ys : List Int, ilEq xs ys = decide (xs = ys)
  | [], [] => by simp [ilEq]
  | [], _ :: _ => by simp [ilEq]
  | _ :: _, [] => by simp [ilEq]
  | x :: xs, y :: ys => by
    have ih := ilEq_eq xs ys
    show (Bool.rec false (ilEq xs ys) (ieq x y) : Bool) = _
    rw [ih, ieq_eq]
    by_cases h : x = y
    · subst h; simp
    · simp [h]
def ilLt (xs : List Int) : List Int → Bool := List.rec (motive := fun _ => List Int → Bool) (fun ys => List.casesOn (motive := fun _ => Bool) ys false fun _ _ => true) (fun x _ r ys => List.casesOn (motive := fun _ => Bool) ys false fun y ys => Bool.rec (ilt x y) (r ys) (ieq x y)) xs
def fEqD (s : Sch) (x y : U) : Option U := ob (tok s x) fun a => ob (tok s y) fun b => some (.bl (ilEq a b))
def fNeD (s : Sch) (x y : U) : Option U := ob (tok s x) fun a => ob (tok s y) fun b => some (.bl (bnot (ilEq a b)))
theorem tok_eqv {s : Sch} {x y : U} {a b : List Int} (ha : tok s x = some a) (hb : tok s y = some b) : PyData.eqv (dU x) (dU y) = ilEq a b := by
  obtain ⟨c1, t1⟩ := tok_ok s x a ha
  obtain ⟨c2, t2⟩ := tok_ok s y b hb
  have h := toks_eq c1 c2
  rw [t1, t2] at h
  rw [ilEq_eq]
  by_cases q : a = b
  · rw [decide_eq_true q, h.mp (congrArg inl q)]
  · rw [decide_eq_false q]
    cases e : PyData.eqv (dU x) (dU y) with
    | false => rfl
    | true => exact absurd (inl_inj (h.mpr e)) q
section
variable {cl : Cl} {K : PySem.W.Frag}
theorem om_eqD {s : Sch} (hs : s.dep ≤ 64 := by decide) : OpM cl (fEqD s) (rEqD K) := fun F H ua ub u x y Q sb e rx ry k => by
  obtain ⟨a, ea, e⟩ := ob_some e
  obtain ⟨b, eb, e⟩ := ob_some e
  cases e
  refine ⟨dU ua, dU ub, dp_of sb s _ _ _ ea rx, dp_of sb s _ _ _ eb ry, conf_shaped hs (tok_ok s _ _ ea).1, conf_shaped hs (tok_ok s _ _ eb).1, ?_⟩
  rw [tok_eqv ea eb]
  exact k F H _ (Stp.refl sb) (rv_bl _)
theorem om_neD {s : Sch} (hs : s.dep ≤ 64 := by decide) : OpM cl (fNeD s) (rNeD K) := fun F H ua ub u x y Q sb e rx ry k => by
  obtain ⟨a, ea, e⟩ := ob_some e
  obtain ⟨b, eb, e⟩ := ob_some e
  cases e
  refine ⟨dU ua, dU ub, dp_of sb s _ _ _ ea rx, dp_of sb s _ _ _ eb ry, conf_shaped hs (tok_ok s _ _ ea).1, conf_shaped hs (tok_ok s _ _ eb).1, ?_⟩
  rw [tok_eqv ea eb, ← bnot_eq]
  exact k F H _ (Stp.refl sb) (rv_bl _)
/-- x not in l -/
def tmem (f : U → Option (List Int)) (a : List Int) (us : List U) : Option Bool := List.rec (motive := fun _ => Option Bool) (some false) (fun u _ r => ob (f u) fun b => ob r fun q => some (Bool.rec q true (ilEq b a))) us
def fNotInD (s : Sch) (x y : U) : Option U := ob (tok s x) fun a => ob (asL y) fun us => ob (tmem (tok s) a us) fun b => some (.bl (bnot b))
theorem tmem_ok {s : Sch} {x : U} {a : List Int} (ha : tok s x = some a) : ∀ (us : List U) (b : Bool), tmem (tok s) a us = some b → (∃ t, tokL (tok s) us = some t) ∧ (dUs us).any (fun z => PyData.eqv z (dU x)) = b
  | [], b, h => by
    cases h
    refine ⟨⟨_, rfl⟩, ?_⟩
    simp only [dUs]
    rfl
  | u :: us, b, h => by
    obtain ⟨p, ep, h⟩ := ob_some (show ob (tok s u) (fun b => ob (tmem (tok s) a us) fun q => some (Bool.rec q true (ilEq b a))) = some b from h)
    obtain ⟨q, eq, h⟩ := ob_some h
    cases h
    obtain ⟨⟨t, ht⟩, h2⟩ := tmem_ok ha us q eq
    refine ⟨⟨.ofNat 1 :: iapp p t, ?_⟩, ?_⟩
    · show ob (tok s u) (fun p => ob (tokL (tok s) us) fun q => some (.ofNat 1 :: iapp p q)) = _
      rw [ep, ht]
      rfl
    · simp only [dUs, List.any_cons]
      rw [tok_eqv ep ha, h2]
      cases ilEq p a <;> rfl
theorem om_notInD {s : Sch} (hs : s.dep ≤ 63 := by decide) : OpM cl (fNotInD s) (rNotInD K) := fun F H ua ub u x y Q sb e rx ry k => by
  obtain ⟨a, ea, e⟩ := ob_some e
  obtain ⟨us, eu, e⟩ := ob_some e
  obtain ⟨b, eb, e⟩ := ob_some e
  cases e
  obtain ⟨⟨t, ht⟩, h2⟩ := tmem_ok ea us b eb
  have hl : tok (.l s) ub = some t := by
    show ob (asL ub) (tokL (tok s)) = some t
    rw [eu]
    exact ht
  have hd : dU ub = .list (dUs us) := asL_dU eu
  refine ⟨dU ua, dUs us, dp_of sb s _ _ _ ea rx, by rw [← hd]; exact dp_of sb (.l s) _ _ _ hl ry, conf_shaped (by omega) (tok_ok s _ _ ea).1, by rw [← hd]; exact conf_shaped (by simp only [Sch.dep]; omega) (tok_ok (.l s) _ _ hl).1, ?_⟩
  rw [h2, ← bnot_eq]
  exact k F H _ (Stp.refl sb) (rv_bl _)
end
end Ct
end
end
section
set_option Elab.async false
set_option linter.all false
set_option maxRecDepth 100000
set_option maxHeartbeats 4000000
noncomputable section
namespace Ct
open PySem PySem.Spec PyProof.Rows L2
open PySem.W (keyToks keyToksAll alike alikeAll dataLt dataLe AllAlike Sortable EachIs SortsAt sortVals sortingHeap)

/-! ### sorted(x): x collected, then sorted -/
section
variable {prog : Program} {w : World} {A : Around} {E : Value → Shared → Prop} {s : Shared} {β : Type} {enc : β → PyData} {R : Value → β → Prop}
theorem sorted_coll {x : Value} {vs : List Value} {bs : List β} {Q : Value → Shared → Prop}
    (hcol : ∀ (E' : Value → Shared → Prop) (Q' : List Value → Shared → Prop), (∀ h' tk, (∀ b o, s.heap.get? b = some o → h'.get? b = some o) → Q' vs { s with heap := h', toks := tk }) → wpAny (model prog w) A.in1 (collect x) Q' E' s)
    (e : EachIs R vs bs) (er : EachIs (fun v b => ∃ as, Reads s.heap v (enc b) as) vs bs) (hal : AllAlike (bs.map enc)) (hk : Sortable (bs.map enc)) (hL : bs.length ≤ sizeLine) (hu : ∀ b, b ∈ bs → A.units + 2 + (enc b).depth < cLine)
    (h : ∀ (h1 h' : Heap) tk out c, (∀ b o, s.heap.get? b = some o → h1.get? b = some o) → (∀ b o, h1.get? b = some o → h'.get? b = some o) → h'.get? h1.objs.size = some (seqObj "list" (List.toArray out) c) → EachIs R out (bs.mergeSort (dataLe false enc)) → Q (.ref h1.objs.size) { s with heap := h', toks := tk }) :
    wpAny (model prog w) A (call (.builtin "sorted") [x]) Q E s := by
  have hlv : vs.length ≤ sizeLine := by rw [e.length]; exact hL
  refine Calls.call_function_entry kind_sorted plain_sorted entry_sorted (args_sorted1 _) ?_
  unfold Builtin.«sorted»
  refine wpAny_bind (m := checkCount "sorted" 1 1 _) (wpAny_pure ?_)
  refine wpAny_bind (hcol _ _ fun h1 tk hk1 => ?_)
  refine wpAny_bind (wpAny_newList ?_ hlv)
  have hoL : (h1.push (seqObj "list" vs.toArray 0)).get? h1.objs.size = some (seqObj "list" vs.toArray 0) := Heap.get?_push_size _ rfl
  show wpAny _ _ _ _ _ { s with heap := h1.push (seqObj "list" vs.toArray 0), toks := tk }
  have lt : ∀ b o, s.heap.get? b = some o → b < h1.objs.size := fun b o q => Heap.lt_size (hk1 b o q)
  have keep : ∀ b o, s.heap.get? b = some o → (sortingHeap (h1.push (seqObj "list" vs.toArray 0)) h1.objs.size vs).get? b = some o := fun b o q =>
    PySem.W.sortingHeap_old (Nat.ne_of_lt (lt b o q)) (Heap.get?_push_of_some _ (hk1 b o q))
  have er' : EachIs (fun v b => ∃ as, Reads (sortingHeap (h1.push (seqObj "list" vs.toArray 0)) h1.objs.size vs) v (enc b) as) vs bs := er.mono fun _ _ ⟨as, r⟩ => ⟨as, PyProof.Rows.Reads.keeps keep r⟩
  have S : SortsAt prog w A.in1.in1 { s with heap := sortingHeap (h1.push (seqObj "list" vs.toArray 0)) h1.objs.size vs, toks := tk } (PySem.W.dataKind (sortingHeap (h1.push (seqObj "list" vs.toArray 0)) h1.objs.size vs) (bs.map enc)) vs :=
    SortsAt.data (s := { s with heap := sortingHeap (h1.push (seqObj "list" vs.toArray 0)) h1.objs.size vs, toks := tk }) (PySem.W.each_map (R := fun v d => ∃ as, Reads (sortingHeap (h1.push (seqObj "list" vs.toArray 0)) h1.objs.size vs) v d as) enc er') hal hk (PySem.W.bound_map (A := A.in1.in1) hu)
  refine wpAny_bind (wpAny_holding (wpAny_call_entry slot_list_sort ⟨_, hoL, rfl⟩ entry_list_sort
    (PySem.W.list_sort_vals (s := { s with heap := h1.push (seqObj "list" vs.toArray 0), toks := tk }) hoL S hlv ⟨_, rfl, ?_⟩) (args_list_sort _)))
  obtain ⟨c, hc⟩ := sortedHeap_at (vs := vs) (out := (sortVals (PySem.W.dataKind (sortingHeap (h1.push (seqObj "list" vs.toArray 0)) h1.objs.size vs) (bs.map enc)) false vs vs).toArray) hoL
  refine wpAny_pure ⟨_, rfl, h h1 _ tk _ c hk1 (fun b o q => ?_) hc (PySem.W.sortVals_data false e er' hal)⟩
  have hb := Heap.lt_size q
  show (sortedHeap (h1.push (seqObj "list" vs.toArray 0)) h1.objs.size vs _).get? b = some o
  rw [sortedHeap_old (Nat.ne_of_lt hb) (by rw [size_push']; exact Nat.lt_succ_of_lt hb)]
  exact Heap.get?_push_of_some _ q
theorem collect_tup {l : Addr} {vs : List Value} {Q : List Value → Shared → Prop} (hl : s.heap.IsTuple l vs.toArray)
    (h : Q vs { s with heap := (s.heap.push (seqObj "list" #[] 0)).update s.heap.objs.size (Obj.mapSeq (· ++ vs.toArray)) }) (hsz : vs.length ≤ sizeLine) :
    wpAny (model prog w) A (collect (.ref l)) Q E s := by
  obtain ⟨o, ho, hc, n, hd⟩ := id hl
  unfold collect
  refine wpAny_bind (wpAny_runValue (codeAny_builtin entry_proto_collect' ?_))
  show wpAny _ _ (do again (.builtin "list.__iadd__" ⟨[← newList [], .ref l], []⟩)) _ _ s
  refine wpAny_bind (wpAny_newList (wpAny_pure ⟨Code.quiet_builtin _ (by decide +kernel), codeAny_builtin entry_list_iadd' ?_⟩))
  show wpAny _ _ (Builtin.List.listExtendWith (.ref s.heap.objs.size) (.ref l) (.ref s.heap.objs.size)) _ _ { s with heap := s.heap.push (seqObj "list" #[] 0) }
  unfold Builtin.List.listExtendWith
  have ho' : (s.heap.push (seqObj "list" #[] 0)).get? l = some o := Heap.get?_push_of_some _ ho
  refine wpAny_bind (wpAny_typeOf (T := "tuple") ⟨o, ho', hc⟩ ?_)
  have ht : (Value.type "tuple" == Value.type "tuple") = true := by rfl
  rw [if_pos (by rw [ht]; simp)]
  refine wpAny_bind (listItems_at ho' hd ?_)
  refine wpAny_bind (listItems_at (xs := #[]) (n := 0) (Heap.get?_push_size _ rfl) rfl ?_)
  rw [if_neg (by simp)]
  refine wpAny_bind (listUpdate_at (xs := #[]) (n := 0) (Heap.get?_push_size _ rfl) rfl ?_ (Nat.zero_le _) (by show (#[] ++ vs.toArray).size ≤ sizeLine + 1; simp only [Array.size_append, List.size_toArray, List.length_nil]; omega))
  refine wpAny_pure ?_
  show wpAny (model prog w) A (do
      let o ← load s.heap.objs.size
      match o.data with
      | .seq xs _ => pure xs.toList
      | _ => unsupported "internal:collect") Q E { s with heap := (s.heap.push (seqObj "list" #[] 0)).update s.heap.objs.size (Obj.mapSeq (· ++ vs.toArray)) }
  refine wpAny_bind (wpAny_load (get?_update_seq (Heap.get?_push_size _ rfl) _) ?_)
  show wpAny _ _ (pure ((#[] : Array Value) ++ vs.toArray).toList) Q E _
  rw [show ((#[] : Array Value) ++ vs.toArray).toList = vs by simp]
  exact wpAny_pure h
end

/-! ### sorted(x), x of data -/
abbrev srtP1 (K : PySem.W.Frag) (H : Hp) (Q : VK) (xs : List V) : Prop := ∃ bs : List PyData, DpAll K H xs bs ∧ AllAlike bs ∧ Sortable bs ∧ xs.length ≤ 100000 ∧ (∀ d ∈ bs, d.depth ≤ 60) ∧ ∀ p, H p = none → Q (.ref p) (upd H p (.lst (((xs.zip bs).mergeSort (dataLe false Prod.snd)).map Prod.fst)))
def rSrt (K : PySem.W.Frag) : List V → Hp → VK → Prop := fun vs H Q => ∃ v, vs = [v] ∧
  ((∃ a xs, v = .ref a ∧ SqL K H a xs ∧ srtP1 K H Q xs) ∨ (∃ a xs, v = .ref a ∧ SqT K H a xs ∧ srtP1 K H Q xs) ∨ (∃ a kvs, v = .ref a ∧ H a = some (.dK kvs) ∧ srtP1 K H Q (kvs.map (kV ∘ fun kv => kv.1))) ∨
    ∃ a kvs, v = .ref a ∧ H a = some (.dT kvs) ∧ ∀ bs : List Addr, Paired (fun (kv : List Key × V) b => H b = some (.tup (kv.1.map kV))) kvs bs → srtP1 K H Q (bs.map V.ref))
theorem sr_len {K : PySem.W.Frag} {H : Hp} : ∀ {xs : List V} {bs : List PyData}, DpAll K H xs bs → xs.length = bs.length
  | _, _, .nil => rfl
  | _, _, .cons _ t => congrArg Nat.succ (sr_len t)
theorem sr_fst : ∀ {xs : List V} {bs : List PyData} {us : List Value}, xs.length = bs.length → Vals xs us → EachIs (fun (v : Value) (b : V × PyData) => RelV b.1 v) us (xs.zip bs)
  | [], _, _, _, r => by cases r; exact .nil
  | x :: xs, [], _, hl, _ => by simp at hl
  | x :: xs, d :: bs, _, hl, r => by
    cases r with
    | cons r1 r2 => exact .cons r1 (sr_fst (by simpa using hl) r2)
theorem sr_reads {X : Cx} {pins : List (Addr × Obj)} {σ : L2.St} {H : Hp} {s : Shared} (I : Inv X pins σ H s) : ∀ {zs : List V} {ds : List PyData} {us : List Value}, DpAll X.K H zs ds → Vals zs us → EachIs (fun (v : Value) (d : V × PyData) => ∃ as, Reads s.heap v d.2 as) us (zs.zip ds)
  | _, _, _, .nil, r => by cases r; exact .nil
  | _, _, _, .cons h t, r => by
    cases r with
    | cons r1 r2 => exact .cons (Dp.reads I _ _ _ h r1) (sr_reads I t r2)
theorem sr_back : ∀ {out : List Value} {L : List (V × PyData)}, EachIs (fun (v : Value) (b : V × PyData) => RelV b.1 v) out L → Vals (L.map Prod.fst) out
  | _, _, .nil => .nil
  | _, _, .cons h t => .cons h (sr_back t)
theorem dpAll_at {K : PySem.W.Frag} {H : Hp} {xs : List V} {bs : List PyData} (h : DpAll K H xs bs) : xs.length = bs.length ∧ True := ⟨sr_len h, trivial⟩
theorem zip_snd {α β : Type} {xs : List α} {ys : List β} (h : xs.length = ys.length) : (xs.zip ys).map Prod.snd = ys := by
  rw [List.map_snd_zip]
  omega
theorem vals_of_each {out : List Value} {L : List (V × PyData)} (h : EachIs (fun (v : Value) (b : V × PyData) => RelV b.1 v) out L) : Vals (L.map Prod.fst) out := sr_back h
section
variable {X : Cx}
theorem srt_end {pins : List (Addr × Obj)} {σ : L2.St} {H : Hp} {s : Shared} {Q : VK} {xs : List V} {us : List Value} {x : Value} (hu : X.A.units + 64 < cLine) (I : Inv X pins σ H s) (rv : Vals xs us)
    (hcol : ∀ (E' : Value → Shared → Prop) (Q' : List Value → Shared → Prop), (∀ h' tk, (∀ b o, s.heap.get? b = some o → h'.get? b = some o) → Q' us { s with heap := h', toks := tk }) → wpAny (model X.prog X.w) X.A.in1 (collect x) Q' E' s)
    (h : srtP1 X.K H Q xs) : wpAny (model X.prog X.w) X.A (call (.builtin "sorted") [x]) (EP X pins σ Q) X.xe s := by
  obtain ⟨bs, hd, hal, hso, hz, hdep, q⟩ := h
  have hl := sr_len hd
  have em : (xs.zip bs).map Prod.snd = bs := by
    rw [List.map_snd_zip]
    omega
  have hmem : ∀ b ∈ xs.zip bs, b.2 ∈ bs := fun b m => (List.of_mem_zip (show (b.1, b.2) ∈ xs.zip bs from m)).2
  have hzl : (xs.zip bs).length ≤ 100000 := by
    rw [List.length_zip]
    omega
  refine sorted_coll (β := V × PyData) (enc := Prod.snd) (R := fun v b => RelV b.1 v) (bs := xs.zip bs) hcol (sr_fst hl rv) (sr_reads I hd rv) (by rw [em]; exact hal) (by rw [em]; exact hso) (Nat.le_trans hzl (by rw [sizeLine_eq]; omega)) (fun b m => ?_) fun h1 h' tk out c k1 k2 hg eo => ?_
  · have := hdep b.2 (hmem b m)
    show X.A.units + 2 + b.2.depth < cLine
    omega
  · have I1 : Inv X pins σ H { s with heap := h1, toks := tk } := I.kept k1
    refine ⟨.ref h1.objs.size, upd H h1.objs.size (.lst (((xs.zip bs).mergeSort (dataLe false Prod.snd)).map Prod.fst)), I1.laid (t' := tk) k2 (Nat.le_refl _) ⟨?_, out, c, sr_back eo, hg⟩, rfl, q _ (I1.hok.fresh (Nat.le_refl _))⟩
    rw [List.length_map, List.length_mergeSort, sizeLine_eq]
    omega
theorem sr_lkeep {s : Shared} {f : Obj → Obj} {o : Obj} : ∀ b u, s.heap.get? b = some u → ((s.heap.push o).update s.heap.objs.size f).get? b = some u := fun b u e => by
  rw [PySem.Heap.get?_update_ne _ _ _ _ (Nat.ne_of_lt (Heap.lt_size e))]
  exact Heap.get?_push_of_some _ e
theorem acc_keys {es : Array DictEntry} {acc : Array Value} (it : ItemsOf (fun i v => ∃ en : DictEntry, es[i]? = some en ∧ v = en.key) acc es.size) : acc.toList = es.toList.map (·.key) := by
  have hl : acc.toList.length = es.toList.length := by rw [Array.length_toList, it.1, Array.length_toList]
  apply List.ext_getElem?
  intro j
  rw [List.getElem?_map]
  cases hj : acc.toList[j]? with
  | none =>
    have h1 := List.getElem?_eq_none_iff.mp hj
    rw [List.getElem?_eq_none (by omega)]
    rfl
  | some v =>
    obtain ⟨en, hen, hv⟩ := it.2 j v (by rw [← Array.getElem?_toList]; exact hj)
    rw [Array.getElem?_toList, hen, hv]
    rfl
theorem cr_srt (hc : X.calm = true) (hu : X.A.units + 64 < cLine) : CallR X (.builtin "sorted") (rSrt X.K) := by
  intro pins s σ H vs us Q I r h
  obtain ⟨v, rfl, h⟩ := h
  obtain ⟨u, rfl, ru⟩ := r.one
  rcases h with ⟨a, xs, rfl, hs, h⟩ | ⟨a, xs, rfl, hs, h⟩ | ⟨a, kvs, rfl, hd, h⟩ | ⟨a, kvs, rfl, hd, h⟩
  · obtain rfl : u = Value.ref a := ru
    obtain ⟨its, rv, hl, hz⟩ := I.list hs
    exact srt_end hu I rv (fun E' Q' k => collect_list hl.isList (k _ s.toks sr_lkeep) (by rw [← rv.length]; exact hz)) h
  · obtain rfl : u = Value.ref a := ru
    obtain ⟨its, rv, ⟨o, ho, hcl, n, hdt⟩, hz⟩ := I.tuple hs
    exact srt_end hu I rv (fun E' Q' k => collect_tup ⟨o, ho, hcl, n, hdt⟩ (k _ s.toks sr_lkeep) (by rw [← rv.length]; exact hz)) h
  · obtain rfl : u = Value.ref a := ru
    obtain ⟨z, lo, ws, rel, o, es, ep, ho, hx, hdt, _, hp, _⟩ := dk_of I.hok hd
    have ek : (kvs.map (kV ∘ fun kv => kv.1)) = ws.map fun p => kV p.1 := by
      have e := congrArg (List.map kV) rel.keys
      rw [List.map_map, List.map_map] at e
      exact e
    have rv : ∀ {l : List DictEntry} {m : List (Key × Value)}, Pairs (mixKind X.prog X.w) l m → Vals (m.map fun p => kV p.1) (l.map (·.key)) ∧ l.length = m.length := by
      intro l m q
      induction q with
      | nil => exact ⟨.nil, rfl⟩
      | @cons en kv l m h _ _ ih =>
        obtain ⟨i1, i2⟩ := ih
        refine ⟨.cons ?_ i1, congrArg Nat.succ i2⟩
        rcases keyIs_shape (show keyIs kv.1 en.key = true from h) with ⟨i, t, ek, ev⟩ | ⟨z, t, ek, ev⟩
        · show RelV (kV kv.1) en.key
          rw [ek, ev]
          exact ⟨t, rfl⟩
        · show RelV (kV kv.1) en.key
          rw [ek, ev]
          exact ⟨t, rfl⟩
    obtain ⟨rv, hle⟩ := rv hp
    have zw : es.size ≤ sizeLine := by
      rw [← Array.length_toList, hle, ← rel.length]
      exact z
    refine srt_end hu I (ek ▸ rv) (fun E' Q' k => PySem.W.kdu_collect (A := X.A.in1) (kdl_raw lo hx hdt) (I.ok.hd hc) ho zw fun h' tk acc hk hacc => ?_) h
    rw [acc_keys hacc]
    exact k h' tk hk
  · obtain rfl : u = Value.ref a := ru
    obtain ⟨z, lo, xs, pr, o, es, ep, ho, hx, hdt, he, hn⟩ := (show ObjOk X.prog X.w H s.heap a (.dT kvs) from I.hok a _ hd)
    have hle : es.size = xs.length := size_of_entries he
    have zw : es.size ≤ sizeLine := by rw [hle, ← Paired.length pr]; exact z
    have ek : es.toList.map (·.key) = (xs.map fun x => x.2.1).map Value.ref := by
      rw [he, List.map_map, List.map_map]
      rfl
    refine srt_end hu I (xs := (xs.map fun x => x.2.1).map V.ref) (us := es.toList.map (·.key)) (by rw [ek]; exact vals_refs _) (fun E' Q' k => PySem.W.kdu_collect (A := X.A.in1) (kdl_raw lo hx hdt) (I.ok.hd hc) ho zw fun h' tk acc hk hacc => ?_) (h _ (show Paired (fun (kv : List Key × V) (b : Addr) => H b = some (HO.tup (List.map kV kv.fst))) kvs (xs.map fun x => x.2.1) from isKeys_of pr))
    rw [acc_keys hacc]
    exact k h' tk hk
end
end Ct
end
end
section
set_option Elab.async false
set_option linter.all false
set_option maxRecDepth 100000
set_option maxHeartbeats 4000000
noncomputable section
namespace Ct
open PySem PySem.Spec PyProof.Rows L2
open PySem.W (keyToks keyToksAll alike alikeAll dataLt dataLe AllAlike Sortable EachIs sortLe TotalLe)

/-! ### sorted, by the mirror -/
theorem ilLt_eq : ∀ a b : List Int, lexLt itemOrd (inl a) (inl b) = ilLt a b
  | [], [] => lex_irrefl _
  | [], _ :: _ => by first | rfl | simp [inl, lexLt]; rfl
  | _ :: _, [] => by first | rfl | simp [inl, lexLt]; rfl
  | x :: a, y :: b => by
    have ih := ilLt_eq a b
    show lexLt itemOrd (Sum.inl x :: inl a) (Sum.inl y :: inl b) = Bool.rec (ilt x y) (ilLt a b) (ieq x y)
    rw [lex_cons, ih, ieq_eq, ilt_eq]
    show (decide (x < y) || (!decide (y < x) && ilLt a b)) = _
    by_cases h : x = y
    · subst h
      simp
    · by_cases h2 : x < y
      · rw [decide_eq_true h2, decide_eq_false h]
        rfl
      · have h3 : y < x := by omega
        rw [decide_eq_false h2, decide_eq_false h, decide_eq_true h3]
        rfl
abbrev TU := List Int × U
def tuLe (a b : TU) : Bool := sortLe (listOrd itemOrd) false (fun p : TU => inl p.1) a b
theorem tuLe_eq (a b : TU) : tuLe a b = !ilLt b.1 a.1 := by
  show (!lexLt itemOrd (inl b.1) (inl a.1)) = _
  rw [ilLt_eq]
theorem tu_total : TotalLe tuLe := PySem.W.sortLe_total (listOrd itemOrd) false fun p : TU => inl p.1
def pairT (f : U → Option (List Int)) (us : List U) : Option (List TU) := List.rec (motive := fun _ => Option (List TU)) (some []) (fun u _ r => ob (f u) fun t => ob r fun ps => some ((t, u) :: ps)) us
def ins1 (p : TU) (ps : List TU) : List TU := List.rec (motive := fun _ => List TU) [p] (fun q qs r => Bool.rec (q :: r) (p :: q :: qs) (ilLt p.1 q.1)) ps
def isrt (ps : List TU) : List TU := List.rec (motive := fun _ => List TU) [] (fun p _ r => ins1 p r) ps
def ltAll (p : TU) (ps : List TU) : Bool := List.rec (motive := fun _ => Bool) true (fun q _ r => Bool.rec false r (ilLt p.1 q.1)) ps
def allLt (ps : List TU) : Bool := List.rec (motive := fun _ => Bool) true (fun p ps r => Bool.rec false r (ltAll p ps)) ps
theorem ins1_perm (p : TU) : ∀ ps : List TU, (ins1 p ps).Perm (p :: ps)
  | [] => List.Perm.refl _
  | q :: qs => by
    show (Bool.rec (q :: ins1 p qs) (p :: q :: qs) (ilLt p.1 q.1) : List TU).Perm _
    cases ilLt p.1 q.1 with
    | true => exact List.Perm.refl _
    | false => exact ((ins1_perm p qs).cons q).trans (List.Perm.swap _ _ _)
theorem isrt_perm : ∀ ps : List TU, (isrt ps).Perm ps
  | [] => List.Perm.refl _
  | p :: ps => (ins1_perm p (isrt ps)).trans ((isrt_perm ps).cons p)
theorem ltAll_mem {p : TU} : ∀ {ps : List TU}, ltAll p ps = true → ∀ q ∈ ps, ilLt p.1 q.1 = true
  | [], _, _, m => by cases m
  | q :: qs, h, r, m => by
    have h' : (Bool.rec false (ltAll p qs) (ilLt p.1 q.1) : Bool) = true := h
    cases e : ilLt p.1 q.1 with
    | false => rw [e] at h'; cases h'
    | true =>
      rw [e] at h'
      rcases List.mem_cons.mp m with rfl | m
      · exact e
      · exact ltAll_mem h' r m
theorem allLt_pair : ∀ {ps : List TU}, allLt ps = true → ps.Pairwise fun a b => ilLt a.1 b.1 = true
  | [], _ => List.Pairwise.nil
  | p :: ps, h => by
    have h' : (Bool.rec false (allLt ps) (ltAll p ps) : Bool) = true := h
    cases e : ltAll p ps with
    | false => rw [e] at h'; cases h'
    | true =>
      rw [e] at h'
      exact List.Pairwise.cons (ltAll_mem e) (allLt_pair h')
theorem pair_mem {α : Type} {R : α → α → Prop} : ∀ {l : List α}, l.Pairwise R → ∀ a ∈ l, ∀ b ∈ l, a = b ∨ R a b ∨ R b a
  | [], _, _, m, _, _ => by cases m
  | x :: l, h, a, ma, b, mb => by
    obtain ⟨h1, h2⟩ := List.pairwise_cons.mp h
    rcases List.mem_cons.mp ma with rfl | ma
    · rcases List.mem_cons.mp mb with rfl | mb
      · exact .inl rfl
      · exact .inr (.inl (h1 b mb))
    · rcases List.mem_cons.mp mb with e | mb
      · exact .inr (.inr (by rw [e]; exact h1 a ma))
      · exact pair_mem h2 a ma b mb
theorem isrt_merge {ps : List TU} (h : allLt (isrt ps) = true) : ps.mergeSort tuLe = isrt ps := by
  have hp := allLt_pair h
  have hs : (ps.mergeSort tuLe).Pairwise fun a b => tuLe a b = true := PySem.W.sort_pairwise tu_total ps
  have hperm : (ps.mergeSort tuLe).Perm (isrt ps) := (List.mergeSort_perm ps tuLe).trans (isrt_perm ps).symm
  have asym : ∀ a b : TU, ilLt a.1 b.1 = true → tuLe a b = true := fun a b q => by
    rw [tuLe_eq, ← ilLt_eq]
    rw [← ilLt_eq] at q
    cases e : lexLt itemOrd (inl b.1) (inl a.1) with
    | false => rfl
    | true =>
      have := lex_trans _ _ _ q e
      rw [lex_irrefl] at this
      cases this
  refine List.Perm.eq_of_pairwise (le := fun a b => tuLe a b = true) (fun a b ma mb h1 h2 => ?_) hs (hp.imp fun {a b} q => asym a b q) hperm
  rcases pair_mem hp a (hperm.mem_iff.mp ma) b mb with e | e | e
  · exact e
  · rw [tuLe_eq, e] at h2; cases h2
  · rw [tuLe_eq, e] at h1; cases h1
def lsnd (ps : List TU) : List U := List.rec (motive := fun _ => List U) [] (fun p _ r => p.2 :: r) ps
theorem lsnd_eq : ∀ ps : List TU, lsnd ps = ps.map Prod.snd
  | [] => rfl
  | p :: ps => congrArg (List.cons p.2) (lsnd_eq ps)
def hd1 (t : List Int) : Bool := List.casesOn (motive := fun _ => Bool) t false fun i _ => ieq i (.ofNat 1)
def hds (ps : List TU) : Bool := List.rec (motive := fun _ => Bool) true (fun p _ r => Bool.rec false r (hd1 p.1)) ps
/-- all have an item, or none is a tuple -/
def sOk (s : Sch) (ps : List TU) : Bool := Sch.casesOn (motive := fun _ => Bool) s true (fun _ => hds ps) (fun _ => true) (fun _ _ => hds ps) (fun _ _ _ => hds ps)
theorem hds_mem : ∀ {ps : List TU}, hds ps = true → ∀ p ∈ ps, hd1 p.1 = true
  | [], _, _, m => by cases m
  | q :: qs, h, r, m => by
    have h' : (Bool.rec false (hds qs) (hd1 q.1) : Bool) = true := h
    cases e : hd1 q.1 with
    | false => rw [e] at h'; cases h'
    | true =>
      rw [e] at h'
      rcases List.mem_cons.mp m with rfl | m
      · exact e
      · exact hds_mem h' r m
theorem pairT_ok {f : U → Option (List Int)} : ∀ {us : List U} {ps : List TU}, pairT f us = some ps → lsnd ps = us ∧ ∀ p ∈ ps, f p.2 = some p.1
  | [], ps, h => by
    cases h
    exact ⟨rfl, fun _ m => by cases m⟩
  | u :: us, ps, h => by
    obtain ⟨t, et, h⟩ := ob_some (show ob (f u) (fun t => ob (pairT f us) fun ps => some ((t, u) :: ps)) = some ps from h)
    obtain ⟨qs, eq, h⟩ := ob_some h
    cases h
    obtain ⟨h1, h2⟩ := pairT_ok eq
    refine ⟨congrArg (List.cons u) h1, fun p m => ?_⟩
    rcases List.mem_cons.mp m with rfl | m
    · exact et
    · exact h2 p m
theorem conf_tup : ∀ {s : Sch} {d : PyData} {t : List Int}, Conf s d → keyToks d = inl t → hd1 t = true → (∀ {s' : Sch}, s ≠ .l s') → s ≠ .i → ∃ x r, d = .tuple (x :: r)
  | _, _, _, .i _, _, _, _, h => absurd rfl h
  | _, _, _, .l _, _, _, h, _ => absurd rfl h
  | _, _, _, .t2 _ _, _, _, _, _ => ⟨_, _, rfl⟩
  | _, _, _, .t3 _ _ _, _, _, _, _ => ⟨_, _, rfl⟩
  | _, _, t, .a (ds := ds) _, e, h, _, _ => by
    cases ds with
    | cons x r => exact ⟨x, r, rfl⟩
    | nil =>
      simp only [keyToks, keyToksAll] at e
      cases t with
      | nil => cases h
      | cons i t =>
        have e' : Sum.inl 0 :: [] = Sum.inl i :: inl t := e
        injection e' with e1 e2
        injection e1 with e1
        subst e1
        cases h
theorem sOk_sortable {s : Sch} {ps : List TU} (h : sOk s ps = true) (ht : ∀ p ∈ ps, tok s p.2 = some p.1) : Sortable (ps.map fun p => dU p.2) := by
  have conf : ∀ p ∈ ps, Conf s (dU p.2) ∧ keyToks (dU p.2) = inl p.1 := fun p m => tok_ok s p.2 p.1 (ht p m)
  have tup : hds ps = true → (∀ {s' : Sch}, s ≠ .l s') → s ≠ .i → Sortable (ps.map fun p => dU p.2) := fun hh n1 n2 => .inl fun d hd => by
    obtain ⟨p, m, rfl⟩ := List.mem_map.mp hd
    exact conf_tup (conf p m).1 (conf p m).2 (hds_mem hh p m) n1 n2
  cases s with
  | i =>
    refine .inr fun d hd => ?_
    obtain ⟨p, m, rfl⟩ := List.mem_map.mp hd
    have := (conf p m).1
    revert this
    generalize dU p.2 = d
    intro this
    cases this
    exact ⟨fun z => (nomatch z), fun _ z => (nomatch z)⟩
  | l s =>
    refine .inr fun d hd => ?_
    obtain ⟨p, m, rfl⟩ := List.mem_map.mp hd
    have := (conf p m).1
    revert this
    generalize dU p.2 = d
    intro this
    cases this
    exact ⟨fun z => (nomatch z), fun _ z => (nomatch z)⟩
  | a s => exact tup h (fun z => nomatch z) (fun z => nomatch z)
  | t2 x y => exact tup h (fun z => nomatch z) (fun z => nomatch z)
  | t3 x y z => exact tup h (fun z => nomatch z) (fun z => nomatch z)
def intU (ks : List Int) : List U := List.rec (motive := fun _ => List U) [] (fun i _ r => .int i :: r) ks
def tupU (ks : List (List Int)) : List U := List.rec (motive := fun _ => List U) [] (fun i _ r => .tup (intU i) :: r) ks
/-- what a sort is handed: items -/
def srcU (u : U) : Option (List U) := U.casesOn (motive_1 := fun _ => Option (List U)) u none none (fun _ => none) (fun _ => none) (fun x => some x) (fun x => some x) (fun _ _ => none) (fun _ => none) (fun x => some x) (fun ks _ => some (intU ks)) (fun ks _ => some (tupU ks)) (fun _ _ => none)
def srtP (s : Sch) (us : List U) : Option (List U) := ob (pairT (tok s) us) fun ps => gd (sOk s ps) (gd (allLt (isrt ps)) (szL (lsnd (isrt ps))))
def fSort (s : Sch) : List U → Option (List U) := fA1 fun x => ob (srcU x) (srtP s)
section
variable {cl : Cl} {F H F' H' : Hp} {K : PySem.W.Frag}
theorem rpL_of {γ : Type} {f : γ → U} {g : γ → V} : ∀ {ws : List γ}, (∀ w ∈ ws, Rp cl F (f w) (g w)) → RpL cl F (ws.map f) (ws.map g)
  | [], _ => by simp only [List.map_nil, RpL]
  | w :: ws, h => by
    simp only [List.map_cons, RpL]
    exact ⟨h w (List.mem_cons_self ..), rpL_of fun w' m => h w' (List.mem_cons_of_mem _ m)⟩
theorem rpL_zip : ∀ {us : List U} {vs : List V}, RpL cl F us vs → ∀ w ∈ us.zip vs, Rp cl F w.1 w.2
  | [], _, _, w, m => by simp at m
  | u :: us, v :: vs, h, w, m => by
    simp only [RpL] at h
    rcases List.mem_cons.mp (show w ∈ (u, v) :: us.zip vs from m) with rfl | m
    · exact h.1
    · exact rpL_zip h.2 w m
  | _ :: _, [], h, _, _ => by simp only [RpL] at h
theorem dpAll_of {s : Sch} (hs : Sb F H) : ∀ {us : List U} {vs : List V}, (∀ u ∈ us, ∃ t, tok s u = some t) → RpL cl F us vs → DpAll K H vs (us.map dU)
  | [], [], _, _ => .nil
  | u :: us, v :: vs, h, r => by
    simp only [RpL] at r
    obtain ⟨t, ht⟩ := h u (List.mem_cons_self ..)
    exact .cons (dp_of hs s u t v ht (Rv.of r.1)) (dpAll_of hs (fun u m => h u (List.mem_cons_of_mem _ m)) r.2)
  | [], _ :: _, _, z => by simp only [RpL] at z
  | _ :: _, [], _, z => by simp only [RpL] at z
theorem zip3 {γ δ : Type} (f : TU → δ) : ∀ {ps : List TU} {xs : List γ}, ps.length = xs.length → xs.zip (ps.map f) = (ps.zip xs).map fun w => (w.2, f w.1)
  | [], [], _ => rfl
  | p :: ps, x :: xs, h => congrArg (List.cons (x, f p)) (zip3 f (by simpa using h))
  | [], _ :: _, h => by simp at h
  | _ :: _, [], h => by simp at h
theorem srt_main {s : Sch} {us ws : List U} {xs : List V} (hd : s.dep ≤ 60) (sb : Sb F H) (e : srtP s us = some ws) (r : RpL cl F us xs) : ∃ bs : List PyData, DpAll K H xs bs ∧ AllAlike bs ∧ Sortable bs ∧ xs.length ≤ 100000 ∧ (∀ d ∈ bs, d.depth ≤ 60) ∧
    RpL cl F ws (((xs.zip bs).mergeSort (dataLe false Prod.snd)).map Prod.fst) := by
  obtain ⟨ps, ep, e⟩ := ob_some e
  obtain ⟨h1, e⟩ := gd_some e
  obtain ⟨h2, e⟩ := gd_some e
  obtain ⟨rfl, hz⟩ := szL_some e
  obtain ⟨eu, ht⟩ := pairT_ok ep
  rw [lsnd_eq] at eu
  have hus : us.map dU = ps.map fun p => dU p.2 := by rw [← eu, List.map_map]; rfl
  have hlen : ps.length = xs.length := by
    have := r.len
    rw [← eu, List.length_map] at this
    exact this
  have hconf : ∀ u ∈ us, ∃ t, tok s u = some t := fun u m => by
    rw [← eu] at m
    obtain ⟨p, mp, rfl⟩ := List.mem_map.mp m
    exact ⟨_, ht p mp⟩
  have hcd : ∀ d ∈ us.map dU, Conf s d := fun d m => by
    obtain ⟨u, mu, rfl⟩ := List.mem_map.mp m
    obtain ⟨t, h⟩ := hconf u mu
    exact (tok_ok s u t h).1
  refine ⟨us.map dU, dpAll_of sb hconf r, fun d m d' m' => conf_alike s d d' (hcd d m) (hcd d' m'), by rw [hus]; exact sOk_sortable h1 ht, ?_, fun d m => Nat.le_trans (conf_lay s d (hcd d m)).2 hd, ?_⟩
  · rw [lsnd_eq, List.length_map, (isrt_perm ps).length_eq, hlen] at hz
    exact hz
  · -- the three lists at once
    let W : List (TU × V) := ps.zip xs
    have eW : xs.zip (us.map dU) = W.map fun w => (w.2, dU w.1.2) := by
      rw [hus]
      show _ = (ps.zip xs).map _
      exact zip3 (fun p => dU p.2) hlen
    have eP : W.map Prod.fst = ps := by
      show (ps.zip xs).map Prod.fst = ps
      rw [List.map_fst_zip]
      omega
    have hW : ∀ w ∈ W, Rp cl F w.1.2 w.2 ∧ w.1 ∈ ps := fun w m => by
      refine ⟨?_, (List.of_mem_zip (show (w.1, w.2) ∈ ps.zip xs from m)).1⟩
      refine rpL_zip r (w.1.2, w.2) ?_
      rw [← eu, List.zip_map_left]
      exact List.mem_map.mpr ⟨w, m, rfl⟩
    have hm : (W.mergeSort fun a b => tuLe a.1 b.1).map (fun w => (w.2, dU w.1.2)) = (W.map fun w => (w.2, dU w.1.2)).mergeSort (dataLe false Prod.snd) := by
      refine PySem.W.sort_maps _ fun a ma b mb => ?_
      show _ = !dataLt (dU b.1.2) (dU a.1.2)
      rw [tuLe_eq, ← ilLt_eq]
      have ea := (tok_ok s _ _ (ht _ (hW a ma).2)).2
      have eb := (tok_ok s _ _ (ht _ (hW b mb).2)).2
      show _ = !lexLt itemOrd (keyToks (dU b.1.2)) (keyToks (dU a.1.2))
      rw [ea, eb]
    have hp : (W.mergeSort fun a b => tuLe a.1 b.1).map Prod.fst = isrt ps := by
      rw [← isrt_merge h2]
      have := PySem.W.sort_maps (r := fun a b : TU × V => tuLe a.1 b.1) (s := tuLe) (l := W) Prod.fst fun a _ b _ => rfl
      rw [this, eP]
    rw [eW, ← hm, lsnd_eq, ← hp, List.map_map, List.map_map]
    refine rpL_of (f := Prod.snd ∘ Prod.fst) (g := Prod.fst ∘ fun w : TU × V => (w.2, dU w.1.2)) fun w m => ?_
    exact (hW w ((List.mergeSort_perm _ _).mem_iff.mp m)).1
end
end Ct
end
end
section
set_option Elab.async false
set_option linter.all false
set_option maxRecDepth 100000
set_option maxHeartbeats 4000000
noncomputable section
namespace Ct
open PySem PySem.Spec PyProof.Rows L2

/-! ### dicts that a slot holds: tables of keys, of values -/
section
variable {κ : Type} {κ' : Type} [DecidableEq κ'] {enc : κ → κ'} {eqb : κ → κ → Bool} {cl : Cl} {F : Hp}
def gFind (eqb : κ → κ → Bool) (k : κ) (ks : List κ) : List U → Option U := List.rec (motive := fun _ => List U → Option U) (fun _ => none) (fun k' _ r us => List.casesOn (motive := fun _ => Option U) us none fun u us => Bool.rec (r us) (some u) (eqb k' k)) ks
def gHas (eqb : κ → κ → Bool) (k : κ) (ks : List κ) : Bool := List.rec (motive := fun _ => Bool) false (fun k' _ r => Bool.rec r true (eqb k' k)) ks
def gRepl (eqb : κ → κ → Bool) (k : κ) (y : U) (ks : List κ) : List U → List U := List.rec (motive := fun _ => List U → List U) (fun us => us) (fun k' _ r us => List.casesOn (motive := fun _ => List U) us [] fun u us => (Bool.rec u y (eqb k' k) : U) :: r us) ks
def gCat {α : Type} (xs : List α) (y : α) : List α := List.rec (motive := fun _ => List α) [y] (fun x _ r => x :: r) xs
theorem gCat_eq {α : Type} (y : α) : ∀ xs : List α, gCat xs y = xs ++ [y]
  | [] => rfl
  | x :: xs => congrArg (List.cons x) (gCat_eq y xs)
def gPut {β : Type} (eqb : κ → κ → Bool) (k : κ) (y : U) (ks : List κ) (us : List U) (f : List κ → List U → β) : β := Bool.rec (f (gCat ks k) (gCat us y)) (f ks (gRepl eqb k y ks us)) (gHas eqb k ks)
/-- a table as its rows say -/
def TabR (cl : Cl) (F : Hp) (enc : κ → κ') (ks : List κ) (us : List U) (kvs : List (κ' × V)) : Prop := kvs.map (·.1) = ks.map enc ∧ RpL cl F us (kvs.map (·.2))
theorem gFind_ok (he : ∀ a b, eqb a b = decide (enc a = enc b)) (k : κ) : ∀ {ks : List κ} {us : List U} {kvs : List (κ' × V)}, TabR cl F enc ks us kvs → match gFind eqb k ks us with
    | some u => ∃ v, valV kvs (enc k) = some v ∧ Rp cl F u v
    | none => valV kvs (enc k) = none
  | [], us, kvs, ⟨h, r⟩ => by
    cases kvs with
    | nil => exact valV_nil
    | cons _ _ => simp at h
  | k' :: ks, us, kvs, ⟨h, r⟩ => by
    cases kvs with
    | nil => simp at h
    | cons p kvs =>
      rw [List.map_cons, List.map_cons] at h
      injection h with h1 h2
      cases us with
      | nil => simp only [List.map_cons, RpL] at r
      | cons u us =>
        simp only [List.map_cons, RpL] at r
        have ih := gFind_ok he k (ks := ks) (us := us) ⟨h2, r.2⟩
        show match (Bool.rec (gFind eqb k ks us) (some u) (eqb k' k) : Option U) with
          | some u => ∃ v, valV (p :: kvs) (enc k) = some v ∧ Rp cl F u v
          | none => valV (p :: kvs) (enc k) = none
        rw [he]
        by_cases q : enc k' = enc k
        · rw [decide_eq_true q]
          exact ⟨p.2, valV_pos (h1.trans q), r.1⟩
        · rw [decide_eq_false q, valV_neg (fun z => q (h1.symm.trans z))]
          exact ih
theorem gHas_ok (he : ∀ a b, eqb a b = decide (enc a = enc b)) (k : κ) : ∀ {ks : List κ} {kvs : List (κ' × V)}, kvs.map (·.1) = ks.map enc → (kvs.any fun kv => decide (kv.1 = enc k)) = gHas eqb k ks
  | [], kvs, h => by
    cases kvs with
    | nil => rfl
    | cons _ _ => simp at h
  | k' :: ks, kvs, h => by
    cases kvs with
    | nil => simp at h
    | cons p kvs =>
      rw [List.map_cons, List.map_cons] at h
      injection h with h1 h2
      have ih := gHas_ok he k (ks := ks) h2
      rw [List.any_cons, ih, h1]
      show _ = (Bool.rec (gHas eqb k ks) true (eqb k' k) : Bool)
      rw [he]
      by_cases q : enc k' = enc k
      · rw [decide_eq_true q]; rfl
      · rw [decide_eq_false q]; rfl
theorem gRepl_ok (he : ∀ a b, eqb a b = decide (enc a = enc b)) (k : κ) {y : U} {v : V} (hy : Rp cl F y v) : ∀ {ks : List κ} {us : List U} {kvs : List (κ' × V)}, TabR cl F enc ks us kvs → TabR cl F enc ks (gRepl eqb k y ks us) (kvs.map fun kv => if kv.1 = enc k then (kv.1, v) else kv)
  | [], us, kvs, ⟨h, r⟩ => by
    cases kvs with
    | nil => exact ⟨h, r⟩
    | cons _ _ => simp at h
  | k' :: ks, us, kvs, ⟨h, r⟩ => by
    cases kvs with
    | nil => simp at h
    | cons p kvs =>
      rw [List.map_cons, List.map_cons] at h
      injection h with h1 h2
      cases us with
      | nil => simp only [List.map_cons, RpL] at r
      | cons u us =>
        simp only [List.map_cons, RpL] at r
        obtain ⟨i1, i2⟩ := gRepl_ok he k hy (ks := ks) (us := us) ⟨h2, r.2⟩
        have e : gRepl eqb k y (k' :: ks) (u :: us) = (Bool.rec u y (eqb k' k) : U) :: gRepl eqb k y ks us := rfl
        rw [e, he]
        by_cases q : enc k' = enc k
        · rw [decide_eq_true q, List.map_cons, if_pos (h1.trans q)]
          refine ⟨by rw [List.map_cons, List.map_cons, i1, ← h1], ?_⟩
          simp only [List.map_cons, RpL]
          exact ⟨hy, i2⟩
        · rw [decide_eq_false q, List.map_cons, if_neg (fun z => q (h1.symm.trans z))]
          refine ⟨by rw [List.map_cons, List.map_cons, i1, ← h1], ?_⟩
          simp only [List.map_cons, RpL]
          exact ⟨r.1, i2⟩
theorem gPut_ok {β : Type} (he : ∀ a b, eqb a b = decide (enc a = enc b)) (k : κ) {y : U} {v : V} (hy : Rp cl F y v) {ks : List κ} {us : List U} {kvs : List (κ' × V)} (t : TabR cl F enc ks us kvs) (f : List κ → List U → β) :
    ∃ ks' us', gPut eqb k y ks us f = f ks' us' ∧ TabR cl F enc ks' us' (putK kvs (enc k) v) := by
  unfold gPut putK
  rw [gHas_ok he k t.1]
  cases gHas eqb k ks with
  | true => exact ⟨_, _, rfl, by rw [if_pos rfl]; exact gRepl_ok he k hy t⟩
  | false =>
    refine ⟨_, _, rfl, ?_⟩
    rw [if_neg Bool.false_ne_true, gCat_eq, gCat_eq]
    refine ⟨by rw [List.map_append, List.map_append, t.1]; rfl, ?_⟩
    rw [List.map_append]
    exact t.2.app (RpL.one hy)
end
theorem ieq_inl (a b : Int) : ieq a b = decide ((Sum.inl a : Key) = Sum.inl b) := by
  rw [ieq_eq]
  by_cases h : a = b
  · subst h; simp
  · rw [decide_eq_false h, decide_eq_false (fun z => h (Sum.inl.inj z))]
theorem ilEq_inl (a b : List Int) : ilEq a b = decide (a.map (Sum.inl : Int → Key) = b.map Sum.inl) := by
  rw [ilEq_eq]
  by_cases h : a = b
  · subst h; simp
  · rw [decide_eq_false h, decide_eq_false]
    intro z
    refine h ?_
    have : ∀ {a b : List Int}, a.map (Sum.inl : Int → Key) = b.map Sum.inl → a = b := by
      intro a
      induction a with
      | nil => intro b z; cases b with
        | nil => rfl
        | cons _ _ => simp at z
      | cons x a ih => intro b z; cases b with
        | nil => simp at z
        | cons y b =>
          rw [List.map_cons, List.map_cons] at z
          injection z with z1 z2
          rw [Sum.inl.inj z1, ih z2]
    exact this z
def asDk (u : U) : Option (List Int × List U) := U.casesOn (motive_1 := fun _ => Option (List Int × List U)) u none none (fun _ => none) (fun _ => none) (fun _ => none) (fun _ => none) (fun _ _ => none) (fun _ => none) (fun _ => none) (fun ks us => some (ks, us)) (fun _ _ => none) (fun _ _ => none)
def asDt (u : U) : Option (List (List Int) × List U) := U.casesOn (motive_1 := fun _ => Option (List (List Int) × List U)) u none none (fun _ => none) (fun _ => none) (fun _ => none) (fun _ => none) (fun _ _ => none) (fun _ => none) (fun _ => none) (fun _ _ => none) (fun ks us => some (ks, us)) (fun _ _ => none)
theorem asDk_some {u : U} {p : List Int × List U} (h : asDk u = some p) : u = .dk p.1 p.2 := by
  cases u <;> cases h
  rfl
theorem asDt_some {u : U} {p : List (List Int) × List U} (h : asDt u = some p) : u = .dt p.1 p.2 := by
  cases u <;> cases h
  rfl
/-- a key that is a tuple of ints -/
def asTk (u : U) : Option (List Int) := ob (asP u) lints
section
variable {cl : Cl} {F0 H0 F H F' H' : Hp} {env : List U} {σ : Sig} {X : Cx} {K : PySem.W.Frag}
theorem asTk_rv {u : U} {k : List Int} {v : V} (h : asTk u = some k) (s : Sb F H) (r : Rv cl F H u v) : ∃ a, v = .ref a ∧ F a = some (.tup (k.map V.int)) ∧ H a = some (.tup ((k.map (Sum.inl : Int → Key)).map kV)) := by
  obtain ⟨us, eu, h⟩ := ob_some h
  cases asP_some eu
  simp only [Rv, Rp] at r
  obtain ⟨a, vs, rfl, ha, hr⟩ := r
  rw [lints_rv h hr] at ha
  refine ⟨a, rfl, ha, ?_⟩
  rw [List.map_map]
  exact s _ _ ha
def keyI (d k : U) : Option (Option U) := ob (asDk d) fun p => ob (asI k) fun i => some (gFind ieq i p.1 p.2)
def keyT (d k : U) : Option (Option U) := ob (asDt d) fun p => ob (asTk k) fun i => some (gFind ilEq i p.1 p.2)
/-- a look into a dict -/
def LookM (cl : Cl) (f : U → U → Option (Option U)) : Prop := ∀ (F H : Hp) (d k : U) (o : Option U) (x y : V), Sb F H → f d k = some o → Rv cl F H d x → Rv cl F H k y →
  ∃ a ov, x = .ref a ∧ DGet H a y ov ∧ match o with
    | some u => ∃ v, ov = some v ∧ Rp cl F u v
    | none => ov = none
theorem look_i : LookM cl keyI := fun F H d k o x y s e rx ry => by
  obtain ⟨p, ep, e⟩ := ob_some e
  obtain ⟨i, ei, e⟩ := ob_some e
  cases e
  cases asDk_some ep
  obtain ⟨a, kvs, rfl, ha, hk, hr⟩ := rx
  have hy : y = kV (Sum.inl i) := asI_rv ei ry
  have g := gFind_ok (enc := (Sum.inl : Int → Key)) ieq_inl i ⟨hk, hr⟩
  refine ⟨a, valV kvs (Sum.inl i), rfl, by rw [hy]; exact DGet.k ha, ?_⟩
  revert g
  cases gFind ieq i p.1 p.2 with
  | none => exact fun g => g
  | some u => exact fun g => g
theorem look_t : LookM cl keyT := fun F H d k o x y s e rx ry => by
  obtain ⟨p, ep, e⟩ := ob_some e
  obtain ⟨i, ei, e⟩ := ob_some e
  cases e
  cases asDt_some ep
  obtain ⟨a, kvs, rfl, ha, hk, hr⟩ := rx
  obtain ⟨b, rfl, hF, hb⟩ := asTk_rv ei s ry
  have g := gFind_ok (enc := fun l : List Int => l.map (Sum.inl : Int → Key)) ilEq_inl i ⟨hk, hr⟩
  refine ⟨a, valV kvs (i.map Sum.inl), rfl, DGet.t ha hb, ?_⟩
  revert g
  cases gFind ilEq i p.1 p.2 with
  | none => exact fun g => g
  | some u => exact fun g => g
def isSm (o : Option U) : Bool := Option.rec (motive := fun _ => Bool) false (fun _ => true) o
def eDGet (f : U → U → Option (Option U)) (md mk : M) : M := fun env => ob (md env) fun d => ob (mk env) fun k => ob (f d k) fun o => o
def eDIn (f : U → U → Option (Option U)) (mk md : M) : M := fun env => ob (mk env) fun k => ob (md env) fun d => ob (f d k) fun o => some (.bl (isSm o))
def eDNotIn (f : U → U → Option (Option U)) (mk md : M) : M := fun env => ob (mk env) fun k => ob (md env) fun d => ob (f d k) fun o => some (.bl (bnot (isSm o)))
theorem j_dget {f : U → U → Option (Option U)} {o i : Expr} {md mk : M} {pos : Pos} (hf : LookM cl f) (hu : X.A.units + 1 < cLine) (ho : PE X o (tM cl md)) (hi : PE X i (tM cl mk)) (hs : NoSl i := by exact fun _ _ => rfl) : PE X (.Subscript o i pos) (tM cl (eDGet f md mk)) :=
  (pe_dget hu ho hi hs).wk fun σ H Q ⟨F, env, u, er, e, k⟩ => by
    obtain ⟨d, ed, e⟩ := ob_some e
    obtain ⟨y, ey, e⟩ := ob_some e
    obtain ⟨o', eo, e⟩ := ob_some e
    subst e
    exact two er ed ey fun F' H' x y s rx ry => by
      obtain ⟨a, ov, rfl, g, h⟩ := hf F' H' _ _ _ _ _ s.fh eo rx ry
      obtain ⟨v, rfl, rv⟩ := h
      exact ⟨a, v, rfl, g, k F' H' v s (Rv.of rv)⟩
theorem isSm_eq {o : Option U} {ov : Option V} (h : match o with
    | some u => ∃ v, ov = some v ∧ Rp cl F u v
    | none => ov = none) : ov.isSome = isSm o := by
  cases o with
  | none => rw [h]; rfl
  | some u => obtain ⟨v, rfl, _⟩ := h; rfl
theorem j_dnotin {f : U → U → Option (Option U)} {o i : Expr} {md mk : M} {pos : Pos} (hf : LookM cl f) (hu : X.A.units + 1 < cLine) (hi : PE X i (tM cl mk)) (ho : PE X o (tM cl md)) (hm : behindInMarks .NotIn o = false) : PE X (.Compare i [.NotIn] [o] pos) (tM cl (eDNotIn f mk md)) :=
  (pe_cmp (pc_dnotin hu hi ho) hm).wk fun σ H Q ⟨F, env, u, er, e, k⟩ => by
    obtain ⟨y, ey, e⟩ := ob_some e
    obtain ⟨d, ed, e⟩ := ob_some e
    obtain ⟨o', eo, e⟩ := ob_some e
    cases e
    exact two er ey ed fun F' H' y x s ry rx => by
      obtain ⟨a, ov, rfl, g, h⟩ := hf F' H' _ _ _ _ _ s.fh eo rx ry
      refine ⟨a, ov, rfl, g, ?_⟩
      rw [isSm_eq h, ← bnot_eq]
      exact k F' H' _ s (rv_bl _)
/-- put into a dict -/
def putI {β : Type} (d k y : U) (f : U → Option β) : Option β := ob (asDk d) fun p => ob (asI k) fun i => gd (Nat.ble (llen p.1) 100000) (gPut ieq i y p.1 p.2 fun ks us => f (.dk ks us))
def putT {β : Type} (d k y : U) (f : U → Option β) : Option β := ob (asDt d) fun p => ob (asTk k) fun i => gd (Nat.ble (llen p.1) 100000) (gPut ilEq i y p.1 p.2 fun ks us => f (.dt ks us))
def PutM (cl : Cl) (f : {β : Type} → U → U → U → (U → Option β) → Option β) : Prop := ∀ {β : Type} (d k y : U) (g : U → Option β) (r : β), f d k y g = some r → ∃ d', g d' = some r ∧ d.mut = true ∧ d'.mut = true ∧ ∀ (F H : Hp) (x z v : V), Sb F H → Rv cl F H d x → Rv cl F H k z → Rp cl F y v →
  ∃ a o, x = .ref a ∧ DPut H a z v (upd H a o) ∧ Rv cl F (upd H a o) d' x
theorem put_i : PutM cl putI := fun d k y g r e => by
  obtain ⟨p, ep, e⟩ := ob_some e
  obtain ⟨i, ei, e⟩ := ob_some e
  obtain ⟨hb, ep2⟩ := gd_some e
  have hl := Nat.le_of_ble_eq_true hb
  rw [llen_eq] at hl
  cases asDk_some ep
  have tabs : ∃ ks' us', g (.dk ks' us') = some r ∧ gPut ieq i y p.1 p.2 (fun ks us => (ks, us)) = (ks', us') := by
    have e9 : gPut ieq i y p.1 p.2 (fun ks us => g (.dk ks us)) = some r := ep2
    unfold gPut at e9 ⊢
    cases q : gHas ieq i p.1 with
    | true => rw [q] at e9; exact ⟨_, _, e9, rfl⟩
    | false => rw [q] at e9; exact ⟨_, _, e9, rfl⟩
  obtain ⟨ks', us', hg, hp⟩ := tabs
  refine ⟨.dk ks' us', hg, rfl, rfl, fun F H x z v s rx rz ry => ?_⟩
  obtain ⟨a, kvs, rfl, ha, hk, hr⟩ := rx
  obtain ⟨k2, u2, h1, h2⟩ := gPut_ok (enc := (Sum.inl : Int → Key)) ieq_inl i ry ⟨hk, hr⟩ fun ks us => (ks, us)
  rw [hp] at h1
  cases h1
  have hz : z = kV (Sum.inl i) := asI_rv ei rz
  have hlen : kvs.length < sizeLine := by
    have := congrArg List.length hk
    rw [List.length_map, List.length_map] at this
    rw [sizeLine_eq]; omega
  exact ⟨a, _, rfl, by rw [hz]; exact DPut.k ha hlen, a, _, rfl, upd_same, h2.1, h2.2⟩
theorem put_t : PutM cl putT := fun d k y g r e => by
  obtain ⟨p, ep, e⟩ := ob_some e
  obtain ⟨i, ei, e⟩ := ob_some e
  obtain ⟨hb, ep2⟩ := gd_some e
  have hl := Nat.le_of_ble_eq_true hb
  rw [llen_eq] at hl
  cases asDt_some ep
  have tabs : ∃ ks' us', g (.dt ks' us') = some r ∧ gPut ilEq i y p.1 p.2 (fun ks us => (ks, us)) = (ks', us') := by
    have e9 : gPut ilEq i y p.1 p.2 (fun ks us => g (.dt ks us)) = some r := ep2
    unfold gPut at e9 ⊢
    cases q : gHas ilEq i p.1 with
    | true => rw [q] at e9; exact ⟨_, _, e9, rfl⟩
    | false => rw [q] at e9; exact ⟨_, _, e9, rfl⟩
  obtain ⟨ks', us', hg, hp⟩ := tabs
  refine ⟨.dt ks' us', hg, rfl, rfl, fun F H x z v s rx rz ry => ?_⟩
  obtain ⟨a, kvs, rfl, ha, hk, hr⟩ := rx
  obtain ⟨k2, u2, h1, h2⟩ := gPut_ok (enc := fun l : List Int => l.map (Sum.inl : Int → Key)) ilEq_inl i ry ⟨hk, hr⟩ fun ks us => (ks, us)
  rw [hp] at h1
  cases h1
  obtain ⟨b, rfl, hF, hb⟩ := asTk_rv ei s rz
  have hlen : kvs.length < sizeLine := by
    have := congrArg List.length hk
    rw [List.length_map, List.length_map] at this
    rw [sizeLine_eq]; omega
  exact ⟨a, _, rfl, DPut.t ha hb hlen, a, _, rfl, upd_same, h2.1, h2.2⟩
def sDPutM (f : {β : Type} → U → U → U → (U → Option β) → Option β) (i : Nat) (mk me : M) : MS := fun env => ob (me env) fun y => ob (chk y) fun y => ob (mk env) fun kk => ob (nth env i) fun d => f d kk y fun d' => some (.nx (lset env i d'))
theorem js_dput {f : {β : Type} → U → U → U → (U → Option β) → Option β} (hf : PutM cl f) {i : Nat} {o ei e : Expr} {pos pos' : Pos} {mk me : M} (hu : X.A.units + 1 < cLine) (ho : PE X o (tVar i)) (hi : PE X ei (tM cl mk)) (he : PE X e (tM cl me)) (hs : swapsWith e (some (.Subscript o ei pos')) pos.line X.env = pure false := by rfl) :
    PS X (.Assign [.Subscript o ei pos'] e pos) (tS cl (sDPutM f i mk me)) :=
  (ps_dput hu ho hi he hs).wk fun D σ H ⟨F0, H0, F, env, o, sr, e, k⟩ => by
    obtain ⟨y, ey, e⟩ := ob_some e
    obtain ⟨y', ec, e⟩ := ob_some e
    obtain ⟨rfl, hn⟩ := chk_some ec
    obtain ⟨kk, ek, e⟩ := ob_some e
    obtain ⟨d, ed, e⟩ := ob_some e
    obtain ⟨d', e, md, md', put⟩ := hf _ _ _ _ _ e
    cases e
    rw [nth_eq] at ed
    refine ⟨F, env, y, sr.er, ey, fun F1 H1 v s rv => ?_⟩
    have sr1 := sr.step s
    rcases sr1.er.slot i d ed with z | ⟨x, hx, rx⟩
    · subst z; cases md
    · refine ⟨x, hx, F1, env, kk, sr1.er, ek, fun F2 H2 z s2 rz => ?_⟩
      obtain ⟨a, ob', rfl, hp, rd⟩ := put F2 H2 x z v s2.fh (rx.step s2) rz ((rv.rp hn).mono s2.ff)
      exact ⟨a, _, rfl, hp, k F2 _ _ ((sr1.step s2).change ed md hx rd)⟩
end
end Ct
end
end
section
set_option Elab.async false
set_option linter.all false
set_option maxRecDepth 100000
set_option maxHeartbeats 4000000
noncomputable section
namespace Ct
open PySem PySem.Spec PyProof.Rows L2

/-! ### new dicts -/
/-- a new dict, not frozen -/
def tDN (cl : Cl) (m : M) : TE := fun σ H Q => ∃ F env u, ER cl F H env σ ∧ m env = some u ∧ ∀ F' H' p, Stp F H F' H' → H p = none → F' p = none → Rv cl F' H' u (.ref p) → Q (.ref p) H'
section
variable {cl : Cl} {F0 H0 F H F' H' : Hp} {env : List U} {σ : Sig} {X : Cx} {K : PySem.W.Frag}
theorem j_dn {e : Expr} {m : M} (h : PE X e (tDN cl m)) : PE X e (tM cl m) := h.wk fun σ H Q ⟨F, env, u, er, e, k⟩ => ⟨F, env, u, er, e, fun F' H' p s n nf r => k F' H' _ s r⟩
def sOwnD (i : Nat) (m : M) : MS := fun env => ob (m env) fun u => some (.nx (lset env i u))
theorem js_ownD {i : Nat} {x : Str} {e : Expr} {m : M} {pos pos' : Pos} (h : ∀ te, PE X e te → PS X (.Assign [.Name x pos'] e pos) (tAsg te (gName i))) (he : PE X e (tDN cl m)) : PS X (.Assign [.Name x pos'] e pos) (tS cl (sOwnD i m)) :=
  (h _ he).wk fun D σ H ⟨F0, H0, F, env, o, sr, e, k⟩ => by
    obtain ⟨u, eu, e⟩ := ob_some e
    cases e
    exact ⟨F, env, u, sr.er, eu, fun F1 H1 p s n nf r => k F1 H1 _ (sr.setOwn s i n nf r)⟩
theorem j_dnewK {pos : Pos} : PE X (.Dict [] [] pos) (tDN cl (eC (.dk [] []))) := pe_dnewK.wk fun σ H Q ⟨F, env, u, er, e, k⟩ p hp => by
  cases e
  exact k F _ p (Stp.lay er.sb hp) hp (er.sb.none hp) ⟨p, [], rfl, upd_same, rfl, by simp only [List.map_nil, RpL]⟩
theorem j_dnewT {pos : Pos} : PE X (.Dict [] [] pos) (tDN cl (eC (.dt [] []))) := pe_dnewT.wk fun σ H Q ⟨F, env, u, er, e, k⟩ p hp => by
  cases e
  exact k F _ p (Stp.lay er.sb hp) hp (er.sb.none hp) ⟨p, [], rfl, upd_same, rfl, by simp only [List.map_nil, RpL]⟩
/-- what a step does not freeze -/
theorem Stp.nof {p : Addr} {o : HO} (s : Stp F H F' H') (nf : F p = none) (h : H p = some o) (ho : ∀ xs, o ≠ .tup xs) : F' p = none := by
  cases q : F' p with
  | none => rfl
  | some u =>
    rcases s.new p u q with z | z
    · rw [nf] at z; cases z
    · obtain ⟨xs, z⟩ := z _ h; exact absurd z (ho xs)
theorem Stp.non0 {p : Addr} (s : Stp F H F' H') (n : H' p = none) : H p = none := by
  cases q : H p with
  | none => rfl
  | some o => rw [s.hh p o q] at n; cases n
def eDisp1 (mk mv : M) : M := fun env => ob (mk env) fun k => ob (mv env) fun y => ob (chk y) fun y => ob (asI k) fun i => some (.dk [i] [y])
theorem j_disp1 {k v : Expr} {mk mv : M} {pos : Pos} (hk : PE X k (tM cl mk)) (hv : PE X v (tM cl mv)) : PE X (.Dict [some k] [v] pos) (tDN cl (eDisp1 mk mv)) :=
  (pe_disp (pps_cons hk hv pps_nil) rfl rfl (by simp) (by simp)).wk fun σ H Q ⟨F, env, u, er, e, kk⟩ p hp => by
    obtain ⟨x, ex, e⟩ := ob_some e
    obtain ⟨y, ey, e⟩ := ob_some e
    obtain ⟨y', ec, e⟩ := ob_some e
    obtain ⟨rfl, hn⟩ := chk_some ec
    obtain ⟨i, ei, e⟩ := ob_some e
    cases e
    have s0 : Stp F H F (upd H p (.dK [])) := Stp.lay er.sb hp
    have nf0 := er.sb.none hp
    refine two (er.step s0) ex ey fun F1 H1 vx vy s1 rx ry => ?_
    have hD : H1 p = some (.dK []) := s1.hh _ _ upd_same
    have nf1 : F1 p = none := s1.nof nf0 upd_same fun _ z => nomatch z
    refine ⟨hD, [(Sum.inl i, vy)], ?_, by simp, ?_⟩
    · rw [asI_rv ei rx]; rfl
    · refine kk F1 _ p ((s0.trans s1).mut hp nf1) hp nf1 ⟨p, _, rfl, upd_same, rfl, ?_⟩
      exact RpL.one (ry.rp hn)
/-- {k: v}, k a tuple of ints and texts -/
def tDispT (tk tv : TE) : TE := fun σ H Q => ∀ p, H p = none → tk σ (upd H p (.dT [])) fun x H1 => tv σ H1 fun y H2 => H2 p = some (.dT []) ∧ ∃ (b : Addr) (ks : List Key), x = .ref b ∧ H2 b = some (.tup (ks.map kV)) ∧ Q (.ref p) (upd H2 p (.dT [(ks, y)]))
theorem pe_dispT {pos : Pos} {k v : Expr} {tk tv : TE} (hu : X.A.units < cLine) (hk : PE X k tk) (hv : PE X v tv) : PE X (.Dict [some k] [v] pos) (tDispT tk tv) := by
  refine ⟨fun pins s σ H Q I q => ?_⟩
  have hn := I.hok.fresh (Nat.le_refl s.heap.objs.size)
  have I1 := I.laid (a := s.heap.objs.size) (o := .dT []) (h' := s.heap.push { cls := .type "dict", data := .dict #[] }) (t' := s.toks) (fun _ _ q => Heap.get?_push_of_some _ q) (Nat.le_refl _) (dt_empty s.heap I.big)
  rw [arm_eval_Dict, zip_pairTrees [some k] [v] X.env pos rfl rfl, dictDisplay_pairs _ (by simp [pairTrees]) (by simp [pairTrees])]
  refine wpAny_bind (wpAny_standAt (wpAny_bind (wpAny_subDictH (knd := tupleKind (mixKind X.prog X.w)) (Q := fun d s' => wpAny (model X.prog X.w) X.A (pure (Value.ref d)) _ _ s') hu (by simp [pairTrees]) ?_)))
  refine pairTrees_cons_walk (thn (hk.run pins _ σ _ _ I1 (q _ hn)) fun u s1 ⟨x, H1, I2, rx, q1⟩ => thn (hv.run pins s1 σ H1 _ I2 q1) fun y' s2 ⟨y, H2, I3, ry, hD, b, ks, ex, hb, q2⟩ => pairTrees_nil_walk ?_)
  subst ex
  obtain rfl : u = Value.ref b := rx
  obtain ⟨z, hd, xs, rel, dd⟩ := dt_of I3.hok hD
  cases rel
  refine ⟨[(ks, b, y')], ⟨rfl, rfl, key_of I3.hok hb, trivial⟩, dd, fun h' tk dd' hs => wpAny_pure ⟨.ref s.heap.objs.size, upd H2 s.heap.objs.size (.dT [(ks, y)]), ?_, rfl, q2⟩⟩
  obtain ⟨ob, es, ep, hq, h2, h3, h4, _, h5⟩ := dd'
  refine I3.write (t' := tk) (e := s.heap.objs.size) (by rw [hD]; exact True.intro) (.inl rfl) (fun b' u hb' hu' => (hs.2 b' hb').trans hu') ⟨ob, hq⟩ ⟨by rw [List.length_singleton, sizeLine_eq]; omega, hd, [(ks, b, y')], .cons ⟨rfl, ?_, ry⟩ .nil, ob, es, ep, hq, h2, h3, h4, h5⟩
  rw [upd_ne (ne_of hb hD (fun z => nomatch z))]
  exact hb
def eDispT (mk mv : M) : M := fun env => ob (mk env) fun k => ob (mv env) fun y => ob (chk y) fun y => ob (asTk k) fun i => some (.dt [i] [y])
theorem j_dispT {k v : Expr} {mk mv : M} {pos : Pos} (hu : X.A.units < cLine) (hk : PE X k (tM cl mk)) (hv : PE X v (tM cl mv)) : PE X (.Dict [some k] [v] pos) (tDN cl (eDispT mk mv)) :=
  (pe_dispT hu hk hv).wk fun σ H Q ⟨F, env, u, er, e, kk⟩ p hp => by
    obtain ⟨x, ex, e⟩ := ob_some e
    obtain ⟨y, ey, e⟩ := ob_some e
    obtain ⟨y', ec, e⟩ := ob_some e
    obtain ⟨rfl, hn⟩ := chk_some ec
    obtain ⟨i, ei, e⟩ := ob_some e
    cases e
    have s0 : Stp F H F (upd H p (.dT [])) := Stp.lay er.sb hp
    have nf0 := er.sb.none hp
    refine two (er.step s0) ex ey fun F1 H1 vx vy s1 rx ry => ?_
    have hD : H1 p = some (.dT []) := s1.hh _ _ upd_same
    have nf1 : F1 p = none := s1.nof nf0 upd_same fun _ z => nomatch z
    obtain ⟨b, rfl, hF, hb⟩ := asTk_rv ei s1.fh rx
    refine ⟨hD, b, _, rfl, hb, ?_⟩
    refine kk F1 _ p ((s0.trans s1).mut hp nf1) hp nf1 ⟨p, _, rfl, upd_same, rfl, ?_⟩
    exact RpL.one (ry.rp hn)

/-! sorted -/
theorem rp_intU : ∀ (ks : List Int) {vs : List V}, vs = ks.map V.int → RpL cl F (intU ks) vs
  | [], _, h => by subst h; show RpL cl F [] []; simp only [RpL]
  | i :: ks, _, h => by
    subst h
    show RpL cl F (.int i :: intU ks) (.int i :: ks.map V.int)
    simp only [RpL, Rp]
    exact ⟨trivial, rp_intU ks rfl⟩
theorem cl_sort {s : Sch} (hd : s.dep ≤ 60 := by decide) : CaL cl (fSort s) (rSrt K) := fun F H us ws xs Q sb e r k => by
  obtain ⟨u, v, rfl, rfl, e, rv⟩ := fA1_some e r
  obtain ⟨us, eu, e⟩ := ob_some e
  refine ⟨v, rfl, ?_⟩
  have seq : ∀ {xs : List V}, RpL cl F us xs → ∃ bs : List PyData, DpAll K H xs bs ∧ PySem.W.AllAlike bs ∧ PySem.W.Sortable bs ∧ xs.length ≤ 100000 ∧ (∀ d ∈ bs, d.depth ≤ 60) ∧ ∀ p, H p = none → Q (.ref p) (upd H p (.lst (((xs.zip bs).mergeSort (PySem.W.dataLe false Prod.snd)).map Prod.fst))) := fun {xs} hr => by
    obtain ⟨bs, h1, h2, h3, h4, h5, h6⟩ := srt_main (K := K) hd sb e hr
    exact ⟨bs, h1, h2, h3, h4, h5, fun p hp => k.lay (Stp.refl sb) h6 p hp⟩
  cases u <;> first | exact nomatch (show (none : Option (List U)) = some us from eu) | skip
  · have eu' := Option.some.inj (show some _ = some us from eu)
    subst eu'
    obtain ⟨a, vs, rfl, _, ha, hr⟩ := asT_rv (u := .tup _) rfl sb rv
    exact .inr (.inl ⟨a, vs, rfl, SqT.of ha, seq hr⟩)
  · have eu' := Option.some.inj (show some _ = some us from eu)
    subst eu'
    obtain ⟨a, vs, rfl, ha, hr⟩ := asL_rv (u := .lst _) rfl sb rv
    exact .inl ⟨a, vs, rfl, SqL.of ha, seq hr⟩
  · have eu' := Option.some.inj (show some _ = some us from eu)
    subst eu'
    obtain ⟨a, vs, rfl, ha, hr⟩ := asL_rv (u := .ol _) rfl sb rv
    exact .inl ⟨a, vs, rfl, SqL.of ha, seq hr⟩
  · have eu' := Option.some.inj (show some _ = some us from eu)
    subst eu'
    obtain ⟨a, kvs, rfl, ha, hk, hr⟩ := rv
    refine .inr (.inr (.inl ⟨a, kvs, rfl, ha, seq (rp_intU _ ?_)⟩))
    have := congrArg (List.map kV) hk
    rw [List.map_map, List.map_map] at this
    exact this
  · have eu' := Option.some.inj (show some _ = some us from eu)
    subst eu'
    obtain ⟨a, kvs, rfl, ha, hk, hr⟩ := rv
    refine .inr (.inr (.inr ⟨a, kvs, rfl, ha, fun bs hb => ?_⟩))
    -- the keys' tuples are frozen now
    have hall : ∀ b ∈ bs, ∃ xs, H b = some (.tup xs) := fun b hm => by
      clear hk hr ha e
      induction hb with
      | nil => cases hm
      | cons h t ih =>
        rcases List.mem_cons.mp hm with rfl | hm
        · exact ⟨_, h⟩
        · exact ih hm
    let F' : Hp := fun b => if b ∈ bs then H b else F b
    have hF' : ∀ b, b ∈ bs → F' b = H b := fun b hm => if_pos hm
    have st : Stp F H F' H := by
      refine ⟨fun b o q => ?_, fun b o q => ?_, Sb.refl _, fun b o q => ?_⟩
      · show (if b ∈ bs then H b else F b) = some o
        split
        · exact sb _ _ q
        · exact q
      · have q' : (if b ∈ bs then H b else F b) = some o := q
        split at q'
        · exact q'
        · exact sb _ _ q'
      · have q' : (if b ∈ bs then H b else F b) = some o := q
        split at q'
        · rename_i hm
          obtain ⟨xs, hx⟩ := hall b hm
          exact .inr fun o' z => by rw [hx] at z; cases z; exact ⟨xs, rfl⟩
        · exact .inl q'
    have hr' := by
      have key : ∀ {ks : List (List Int)} {kvs : List (List Key × V)} {cs : List Addr}, kvs.map (·.1) = ks.map (·.map Sum.inl) → Paired (fun (kv : List Key × V) b => H b = some (.tup (kv.1.map kV))) kvs cs → (∀ b ∈ cs, b ∈ bs) → RpL cl F' (tupU ks) (cs.map V.ref) := by
        intro ks kvs cs hk hb
        induction hb generalizing ks with
        | nil =>
          intro _
          cases ks with
          | nil => show RpL cl F' [] []; simp only [RpL]
          | cons _ _ => simp at hk
        | @cons p b ps cs h t ih =>
          intro hm
          cases ks with
          | nil => simp at hk
          | cons k ks =>
            rw [List.map_cons, List.map_cons] at hk
            injection hk with hk1 hk2
            show RpL cl F' (.tup (intU k) :: tupU ks) (V.ref b :: cs.map V.ref)
            simp only [RpL, Rp]
            refine ⟨⟨b, _, rfl, (hF' b (hm b (List.mem_cons_self ..))).trans h, rp_intU k ?_⟩, ih hk2 fun c q => hm c (List.mem_cons_of_mem _ q)⟩
            rw [hk1, List.map_map]
            rfl
      exact key hk hb fun b m => m
    obtain ⟨ds, h1, h2, h3, h4, h5, h6⟩ := srt_main (K := K) hd st.fh e hr'
    exact ⟨ds, h1, h2, h3, h4, h5, fun p hp => k.lay st h6 p hp⟩
end
end Ct
end
end
section
set_option Elab.async false
set_option linter.all false
set_option maxRecDepth 100000
set_option maxHeartbeats 4000000
noncomputable section
namespace Ct
open PySem PySem.Spec PyProof.Rows L2

/-! ### {k: v for ..}: the keys ints, texts or tuples of these -/
/-- an empty dict of the wanted kind -/
def Emp (o : HO) : Prop := o = .dK [] ∨ o = .dT []
theorem emp_ok {P : Program} {w : World} {H : Hp} {o : HO} (h : Heap) (hb : sysModules < h.objs.size) (e : Emp o) : ObjOk P w H (h.push { cls := .type "dict", data := .dict #[] }) h.objs.size o := by
  rcases e with rfl | rfl
  · exact dk_empty h hb
  · exact dt_empty h hb
/-- d[k] = v as the comprehension stores it -/
theorem d_set {X : Cx} {pins : List (Addr × Obj)} {σ : L2.St} {H H' : Hp} {s : Shared} {E : Value → Shared → Prop} {D : Addr} {y v : V} {u r : Value} {Q : Unit → Shared → Prop} (hu : X.A.units < cLine) (I : Inv X pins σ H s) (g : DPut H D y v H') (ry : RelV y u) (rv : RelV v r)
    (h : ∀ s', Inv X pins σ H' s' → Q () s') : wpAny (model X.prog X.w) X.A (dictSet D u r) Q E s := by
  rcases g with ⟨kvs, k, e, ey, l, eH⟩ | ⟨kvs, k, b, e, ey, eb, l, eH⟩
  · subst ey eH
    exact d_dictSet I e l ry rv h
  · subst ey eH
    cases (show u = Value.ref b from ry)
    obtain ⟨z, hd, xs, rel, dd⟩ := dt_of I.hok e
    have hl : (putK kvs k v).length ≤ sizeLine := by have := length_putK kvs k v; omega
    refine wpAny_dictSet_heap (hsz := by rw [← Paired.length rel]; exact z) hu (key_of I.hok eb) dd fun h' dd' hs => h _ ?_
    obtain ⟨q, es, ep, hq, h2, h3, h4, _, h5⟩ := dd'
    refine d_write I (by rw [e]; exact True.intro) hs ⟨q, hq⟩ ⟨hl, hd, _, (rel.put k eb rv).keeps fun c ys ec => ?_, q, es, ep, hq, h2, h3, h4, h5⟩
    rw [upd_ne (ne_of ec e (fun z => nomatch z))]
    exact ec
section
variable {X : Cx}
def tDcP (o0 : HO) (wi : TI) (g : TG) (tt : TT) (tk tv : TE) (vs : List Nat) : TE := fun σ H Q => wi σ H fun J H1 => ∀ D, H1 D = none → ∃ W : Nat → Nat → Hp → Prop, (∃ m, W 0 m (upd H1 D o0)) ∧ ∀ i m H, W i m H →
  (J.stop i H ∧ Q (.ref D) H) ∨ (J.go i H ∧ ∃ Nx : Hp → Prop, (∀ H', Nx H' → ∃ m', m' < m ∧ W (i + 1) m' H') ∧ ∀ x H', J.yld i H x H' → g x (wipe σ vs) H' fun σ2 H2 => wipe σ2 vs = wipe σ vs ∧ tt σ2 H2 fun b H3 =>
    if b = true then tk σ2 H3 fun y H4 => tv σ2 H4 fun z H5 => ∃ H6, DPut H5 D y z H6 ∧ Nx H6 else Nx H3)
theorem pe_dcP {o0 : HO} {kx vx tg iter : Expr} {ifs : List Expr} {scope : Scope} {own : List (Str × Nat)} {pos : Pos} {wi : TI} {g : TG} {tt : TT} {tk tv : TE} (ho0 : Emp o0) (hu : X.A.units < cLine) (hc : X.calm = true) (hN : X.N.Nodup) (hi : PI X tg iter wi) (ok : BlkOk X.N X.env.scope scope own)
    (hg : ∀ (s : Shared) (H : Hp) (C : Addr) (cl : List (Str × Addr)) (fp : List Addr), PG (X.blk s H scope (compEnvC scope cl C X.env) fp) tg g) (ht : ∀ (s : Shared) (H : Hp) (C : Addr) (cl : List (Str × Addr)) (fp : List Addr), PTs (X.blk s H scope (compEnvC scope cl C X.env) fp) ifs tt)
    (hk : ∀ (s : Shared) (H : Hp) (C : Addr) (cl : List (Str × Addr)) (fp : List Addr), PE (X.blk s H scope (compEnvC scope cl C X.env) fp) kx tk)
    (he : ∀ (s : Shared) (H : Hp) (C : Addr) (cl : List (Str × Addr)) (fp : List Addr), PE (X.blk s H scope (compEnvC scope cl C X.env) fp) vx tv) (hs : ∀ x, foldedSetIterable iter X.env x = pure x := by intro _; rfl) :
    PE X (.DictComp kx vx [⟨tg, iter, ifs, 0⟩] scope pos) (tDcP o0 wi g tt tk tv (own.map (·.2))) := by
  refine ⟨fun pins s σ H Q I h => ?_⟩
  rw [arm_eval_DictComp]
  have hfree : ∀ y ∈ scope.names, y.2 = .free → ∃ c, X.env.cells.lookup y.1 = some c := fun y hy e => (ok.free y hy e).elim (fun k => I.ok.has _ (.inl k)) fun k => I.ok.has _ (.inr k)
  refine wpAny_comprehension_free (use := none) rfl hs (closure_ok hfree) ok.kind (fun y hy e => by rw [ok.uniq y hy, e]) (thn (hi.run pins s σ H _ I h) fun xv s1 hx => thn hx fun itv s2 h2 => ?_)
  obtain ⟨it, fp, tn, J, H2, e, I2, T, st2, f2, q⟩ := h2
  subst e
  refine wpAny_newObj_type (newEnv_comp ?_)
  -- D: the new dict
  obtain ⟨D, hD⟩ : ∃ D, D = s2.heap.objs.size := ⟨_, rfl⟩
  have nD : H2 D = none := I2.hok.fresh (Nat.le_of_eq hD.symm)
  obtain ⟨W, ⟨m0, w0⟩, turn⟩ := q D nD
  obtain ⟨s3, hs3⟩ : ∃ s3 : Shared, s3 = { s2 with heap := s2.heap.push { cls := .type "dict", data := .dict #[] } } := ⟨_, rfl⟩
  have h3 : s3.heap = s2.heap.push { cls := .type "dict", data := .dict #[] } := by rw [hs3]
  have I3 : Inv X pins σ (upd H2 D o0) s3 := by
    rw [hs3, hD]
    exact I2.laid (t' := s2.toks) (fun b o e => Heap.get?_push_of_some _ e) (Nat.le_refl _) (emp_ok s2.heap I2.big ho0)
  have lt2 : ∀ b ∈ fp, b < s2.heap.objs.size := fun b hb => let ⟨o, e, _⟩ := T.obj _ _ st2 b hb; Heap.lt_size e
  have f3 : ∀ b ∈ fp, FpOk X pins (upd H2 D o0) b ∧ b < s3.heap.objs.size := fun b hb => by
    have hlt := lt2 b hb
    refine ⟨⟨?_, (f2 b hb).2⟩, by rw [h3, Heap.size_push]; exact Nat.lt_succ_of_lt hlt⟩
    rw [upd_ne (by rw [hD]; exact Nat.ne_of_lt hlt)]
    exact (f2 b hb).1
  have st3 : tn 0 s3.heap := T.keep _ _ _ st2 fun b _ o e => by rw [h3]; exact Heap.get?_push_of_some _ e
  have I4 := block_start I3 ok hN f3
  have pg := hg s3 (upd H2 D o0) s3.heap.objs.size (cellsFrom (s3.heap.objs.size + 1) scope.names (cloFrom X.env.cells scope.names [])) fp
  have pt := ht s3 (upd H2 D o0) s3.heap.objs.size (cellsFrom (s3.heap.objs.size + 1) scope.names (cloFrom X.env.cells scope.names [])) fp
  have pk := hk s3 (upd H2 D o0) s3.heap.objs.size (cellsFrom (s3.heap.objs.size + 1) scope.names (cloFrom X.env.cells scope.names [])) fp
  have pe := he s3 (upd H2 D o0) s3.heap.objs.size (cellsFrom (s3.heap.objs.size + 1) scope.names (cloFrom X.env.cells scope.names [])) fp
  have nfp : ∀ b ∈ fp, (upd H2 D o0) b = none := fun b hb => (f3 b hb).1.1
  generalize hce : compEnvC scope (cellsFrom (s3.heap.objs.size + 1) scope.names (cloFrom X.env.cells scope.names [])) s3.heap.objs.size X.env = ce at I4 pg pt pk pe
  have cL : ce.locals = s3.heap.objs.size := by subst hce; rfl
  generalize hH3 : upd H2 D o0 = H3 at I3 I4 pg pt pk pe w0 nfp f3
  obtain ⟨s4, hs4⟩ : ∃ s4 : Shared, s4 = { s3 with heap := pushCells (s3.heap.push { cls := .type "dict", data := .dict #[] }) scope.names } := ⟨_, rfl⟩
  rw [← hs4] at I4
  have st4 : tn 0 s4.heap := T.keep _ _ _ st3 fun b _ o e => by rw [hs4]; exact pushCells_keeps _ _ _ _ (Heap.get?_push_of_some _ e)
  have back : ∀ {σ' : L2.St} {H' : Hp} {s' : Shared}, Inv (X.blk s3 H3 scope ce fp) [] σ' H' s' → (∀ b ∈ fp, H' b = none) → ∀ b ∈ fp, FpOk (X.blk s3 H3 scope ce fp) [] H' b := fun {σ' H' s'} I' hn b hb =>
    ⟨hn b hb, (I'.ok.exf b hb).1, I'.ok.exfs b hb, .inl hb, fun x c e => (I'.ok.exf b hb).2 x c e, fun p hp => absurd (show p ∈ ([] : List (Addr × Obj)) ++ [] from hp) (by simp)⟩
  have loop : codeAny (model X.prog X.w) X.A (.compLoop (.DictComp kx vx [⟨tg, iter, ifs, 0⟩] scope pos) 0 (.ref it) (.ref D) ce) (compPost (model X.prog X.w) X.A X.xe none (EP X pins σ Q) (.ref D) s3.heap.objs.size) s4 := by
    refine compLoop_anyD (fun n s' => ∃ i H', Inv (X.blk s3 H3 scope ce fp) [] (wipe σ (own.map (·.2))) H' s' ∧ tn i s'.heap ∧ (∀ b ∈ fp, H' b = none) ∧ W i n H') ?_ m0 ⟨0, H3, I4, st4, nfp, w0⟩
    rintro n s5 ⟨i, H5, I5, st5, n5, w5⟩
    rcases turn i n H5 w5 with ⟨stop, qq⟩ | ⟨go, Nx, hNx, step⟩
    · refine thnF (T.done (X.blk s3 H3 scope ce fp) rfl rfl rfl hc i [] s5 _ H5 (fun _ _ => False) I5 (back I5 n5) st5 stop) fun r s6 ⟨hr, I6⟩ => ?_
      subst hr
      have I7 : Inv X pins σ H5 s6 := I3.call' (ch := fp) I6.os I6.base I6.hok I6.bare fun b hb => ⟨(f3 b hb).1.2.2.2.1, (f3 b hb).1.2.1, (f3 b hb).1.2.2.2.2.1, (f3 b hb).1.2.2.2.2.2⟩
      have nC : H5 s3.heap.objs.size = none := by
        have z : H5 ce.locals = none := I6.free
        rw [cL] at z
        exact z
      obtain ⟨m, hn, _⟩ := I6.loc
      have hn : s6.heap.Ns ce.locals m := hn
      rw [cL] at hn
      refine ⟨m, hn, fun h'' sb => ?_⟩
      obtain ⟨f0, f1, f2', f3', f4, f5⟩ := I3.fpOk (Nat.le_refl _) nC
      exact ⟨.ref D, H5, I7.turned (t' := s6.toks) (fun b o hb e => (sb.2 b hb).trans e) f0 f1 f3' f4 f5, rfl, qq⟩
    · refine thnF (T.item (X.blk s3 H3 scope ce fp) rfl rfl rfl hc i [] s5 _ H5 (fun _ _ => False) I5 (back I5 n5) st5 go) fun r s6 ⟨u, hr, h6⟩ => ?_
      subst hr
      refine thnF h6 fun _ s7 ⟨x, H7, I7, r7, y7, st7, n7⟩ => ?_
      have I7' := I7.pinned (back I7 n7) (T.obj _ _ st7)
      refine thnF (pg.run _ s7 _ H7 x u _ I7' r7 (step x H7 y7)) fun _ s8 ⟨σ8, H8, I8, hw8, q8⟩ => ?_
      refine thnF (pt.run _ s8 σ8 H8 _ I8 q8) fun b s9 ⟨H9, I9, q9⟩ => ?_
      have fin : ∀ {s' : Shared} {H' : Hp}, Inv (X.blk s3 H3 scope ce fp) ([] ++ pinsAt fp s7.heap) σ8 H' s' → Nx H' → ∃ m, m < n ∧ ∃ i H', Inv (X.blk s3 H3 scope ce fp) [] (wipe σ (own.map (·.2))) H' s' ∧ tn i s'.heap ∧ (∀ b ∈ fp, H' b = none) ∧ W i m H' := fun {s' H'} I' nx => by
        obtain ⟨m', hm, w'⟩ := hNx H' nx
        have pin' : ∀ b ∈ fp, ∀ o, s7.heap.get? b = some o → s'.heap.get? b = some o ∧ H' b = none := fun b hb o e =>
          let z := I'.pin (b, o) (List.mem_append_right _ (List.mem_append_right _ (mem_pinsAt hb e)))
          ⟨z.1, z.2.1⟩
        have hl : (wipe σ (own.map (·.2))).length = σ8.length := by rw [← hw8, wipe_length]
        refine ⟨m', hm, i + 1, H', (I'.unpinned (pins := [])).weak hl (fun j v e => ?_), T.keep _ _ _ st7 fun b hb o e => (pin' b hb o e).1, fun b hb => ?_, w'⟩
        · rw [← hw8] at e
          exact (wipe_some e).1
        · obtain ⟨o, e, _⟩ := T.obj _ _ st7 b hb
          exact (pin' b hb o e).2
      cases b with
      | false =>
        simp only [Bool.false_eq_true, if_false] at q9 ⊢
        exact fin I9 q9
      | true =>
        simp only [if_true] at q9 ⊢
        refine thnF (pk.run _ s9 σ8 H9 _ I9 q9) fun z s10 ⟨yk, H10, I10, r10, q10⟩ => ?_
        refine thnF (pe.run _ s10 σ8 H10 _ I10 q10) fun z2 s11 ⟨yv, H11, I11, r11, H12, gp, nx⟩ => ?_
        exact d_set (X := X.blk s3 H3 scope ce fp) hu I11 gp r10 r11 fun s12 I12 => fin I12 nx
  have start := codeAny_compStart_dict loop (T.self X.A 0 _ _ _ st4 loop)
  rw [hs4, hs3] at start
  rw [hs3] at hce
  rw [← hce, hD] at start
  exact start
end
end Ct
end
end
section
set_option Elab.async false
set_option linter.all false
set_option maxRecDepth 100000
set_option maxHeartbeats 4000000
noncomputable section
namespace Ct
open PySem PySem.Spec PyProof.Rows L2

/-! ### enumerate and zip over lists and tuples alike (b: a tuple) -/
def SqB (b : Bool) (K : PySem.W.Frag) (H : Hp) (a : Addr) (xs : List V) : Prop := match b with
  | true => SqT K H a xs
  | false => SqL K H a xs
def RawB (b : Bool) (h : Heap) (a : Addr) (its : Array Value) : Prop := match b with
  | true => h.IsTuple a its
  | false => h.IsList a its
def IterB (b : Bool) (h : Heap) (it a : Addr) (i : Nat) : Prop := match b with
  | true => h.IsTupleIter it a i
  | false => h.IsListIter it a i
def itO (b : Bool) (a : Addr) : Obj := match b with
  | true => { cls := .type "tuple_iterator", data := .fields #[.ref a, .int 0 0] }
  | false => { cls := .type "list_iterator", data := .fields #[.ref a, .int 0 0] }
theorem drawsB {prog : Program} {w : World} {A : Around} (b : Bool) (hh : A.handled = none) (it a : Addr) (hne : a ≠ it) (items : Array Value) :
    Draws prog w A it [it, a] items.size (fun i v => items[i]? = some v) (fun i h => IterB b h it a i ∧ RawB b h a items) := match b with
  | true => Draws.tuple hh it a hne items
  | false => Draws.list hh it a hne items
theorem beginsB (b : Bool) (a : Addr) (items : Array Value) : Begins (.ref a) (itO b a) fun h => RawB b h a items := match b with
  | true => begins_tuple a items
  | false => begins_list a items
theorem iterB_new (b : Bool) {h : Heap} {it a : Addr} (e : h.get? it = some (itO b a)) : IterB b h it a 0 := match b, e with
  | true, e => ⟨_, e, rfl, rfl⟩
  | false, e => ⟨_, e, rfl, rfl⟩
theorem iterB_obj {b : Bool} {h : Heap} {it a : Addr} {i : Nat} (x : IterB b h it a i) : ∃ o, h.get? it = some o ∧ ∀ v, o.data ≠ .cell v := match b, x with
  | true, ⟨o, e, _, d⟩ => ⟨o, e, fun v q => by rw [d] at q; cases q⟩
  | false, ⟨o, e, _, d⟩ => ⟨o, e, fun v q => by rw [d] at q; cases q⟩
theorem iterB_at {b : Bool} {h h' : Heap} {it a : Addr} {i : Nat} (x : IterB b h it a i) (k : ∀ o, h.get? it = some o → h'.get? it = some o) : IterB b h' it a i := match b, x with
  | true, x => Heap.IsTupleIter.at x fun o e => k o e
  | false, x => Heap.IsListIter.at x fun o e => k o e
section
variable {X : Cx} {pins : List (Addr × Obj)} {σ : L2.St} {H : Hp} {s : Shared}
theorem sqB_raw {b : Bool} {a : Addr} {xs : List V} (I : Inv X pins σ H s) (h : SqB b X.K H a xs) : ∃ its, Vals xs its ∧ RawB b s.heap a its.toArray ∧ a < s.heap.objs.size := match b, h with
  | true, h => by
    obtain ⟨its, rv, p, _⟩ := I.tuple h
    obtain ⟨o, ho, _⟩ := id p
    exact ⟨its, rv, p, Heap.lt_size ho⟩
  | false, h => by
    obtain ⟨its, rv, p, _⟩ := I.list h
    exact ⟨its, rv, p.isList, p.lt⟩
theorem sqB_inj {b : Bool} {a : Addr} {xs ys : List V} (I : Inv X pins σ H s) (h : SqB b X.K H a xs) (h' : SqB b X.K H a ys) : xs = ys := match b, h, h' with
  | true, h, h' => I.tuple_inj h h'
  | false, h, h' => I.list_inj h h'
end
def IteB (K : PySem.W.Frag) (b : Bool) (a : Addr) : It :=
  ⟨fun i H => ∃ (xs : List V) (x : V), SqB b K H a xs ∧ xs[i]? = some x, fun i H v H' => ∃ T x, v = .ref T ∧ H T = none ∧ H' = upd H T (.tup [.int (i : Nat), x]) ∧ ∀ xs, SqB b K H a xs → xs[i]? = some x, fun i H => ∃ xs : List V, SqB b K H a xs ∧ xs.length = i⟩
theorem turn_enumB {P : Program} {w : World} {K : PySem.W.Frag} {elts : List Expr} {kk : Nat} {tpos : Pos} (b : Bool) (a e it : Addr) (h1 : e ≠ it) (h2 : e ≠ a) (h3 : a ≠ it) :
    Turn P w K (.Tuple elts kk tpos) (IteB K b a) [e, it] e (fun i h => (∃ old, IsEnum h e it ((i : Nat) : Int) old) ∧ IterB b h it a i) where
  mem := by simp
  obj := fun i h st c hc => by
    obtain ⟨⟨old, he⟩, hi⟩ := st
    rcases (show c = e ∨ c = it by simpa using hc) with q | q
    · rw [q]; exact ⟨_, he, fun v z => nomatch z⟩
    · rw [q]; exact iterB_obj hi
  keep := fun i h h' st k => let ⟨⟨old, he⟩, hi⟩ := st; ⟨⟨old, k e (by simp) _ he⟩, iterB_at hi fun o q => k it (by simp) o q⟩
  item := by
    intro X hP hw hK hc i pins s σ H E I hf st hg
    subst hP hw hK
    obtain ⟨⟨old, he⟩, hi⟩ := st
    obtain ⟨xs, x, hq, hx⟩ := hg
    obtain ⟨its, rv, raw, _⟩ := sqB_raw I hq
    obtain ⟨u, hu, ru⟩ := rv.get hx
    have hel := Heap.lt_size he
    have hil : it < s.heap.objs.size := let ⟨_, q, _⟩ := iterB_obj hi; Heap.lt_size q
    have hlt : i < its.toArray.size := by
      have := (List.getElem?_eq_some_iff.mp hu).1
      simpa using this
    refine wpAny_pyNext_enum_itemD (drawsB (prog := X.prog) (w := X.w) (A := X.A.in1) b (show X.A.in1.handled = none from I.ok.hd hc) it a h3 its.toArray) he ⟨hi, raw⟩ hlt h1 (by simp [h1, h2]) fun y h' tk py ho st' hT hsz hk => ?_
    have hy : y = u := by
      have : its.toArray[i]? = some u := by simpa using hu
      rw [py] at this
      exact Option.some.inj this
    subst hy
    refine ⟨_, rfl, wpAny_letOwnedTupleGo_enum (s := { s with heap := h', toks := tk + 1 }) ho fun h'' he' sb => ?_⟩
    have new : ObjOk X.prog X.w (upd H s.heap.objs.size (.tup [.int (i : Nat), x])) h'' s.heap.objs.size (.tup [.int (i : Nat), x]) :=
      ⟨by show 2 ≤ sizeLine; decide, [.int i tk, y], .cons ⟨_, rfl⟩ (.cons ru .nil), ⟨_, (sb.2 _ (Nat.ne_of_gt hel)).trans hT, rfl, _, rfl⟩⟩
    have I1 : Inv X pins σ (upd H s.heap.objs.size (.tup [.int (i : Nat), x])) { s with heap := h'', toks := tk + 1 } :=
      I.turnedNew (ch := [e, it]) (fun c o hb q => (sb.2 c (fun z => hb (by simp [z]))).trans (hk c o (fun z => hb (by simp [z])) (fun z => hb (by simp [z])) q)) hf (Nat.le_refl _) new
    refine ⟨.ref s.heap.objs.size, _, I1, rfl, ⟨_, x, rfl, I.hok.fresh (Nat.le_refl _), rfl, fun ys hy => by rw [sqB_inj I hy hq]; exact hx⟩, ⟨⟨y, ?_⟩, iterB_at st'.1 fun o q => (sb.2 it (Ne.symm h1)).trans q⟩, fun c hcm => ?_⟩
    · have e1 : ((i + 1 : Nat) : Int) = (i : Int) + 1 := by omega
      rw [e1]; exact he'
    · have hlt' : c < s.heap.objs.size := by
        rcases (show c = e ∨ c = it by simpa using hcm) with q | q
        · rw [q]; exact hel
        · rw [q]; exact hil
      rw [upd_ne (Nat.ne_of_lt hlt')]
      exact (hf c hcm).1
  done := by
    intro X hP hw hK hc i pins s σ H E I hf st hg
    subst hP hw hK
    obtain ⟨⟨old, he⟩, hi⟩ := st
    obtain ⟨xs, hq, hx⟩ := hg
    obtain ⟨its, rv, raw, _⟩ := sqB_raw I hq
    obtain ⟨f0, f1, f2, f3, f4, f5⟩ := hf it (by simp)
    have hl : its.toArray.size = i := by rw [List.size_toArray, ← rv.length]; exact hx
    exact wpAny_pyNext_enum_endD (drawsB (prog := X.prog) (w := X.w) (A := X.A.in1) b (show X.A.in1.handled = none from I.ok.hd hc) it a h3 its.toArray) he ⟨by rw [hl]; exact hi, raw⟩ fun h' eb => ⟨rfl, I.turned (t' := s.toks) (fun c o hb q => eb c o hb q) f0 f1 f3 f4 f5⟩
  self := fun A i s Q E st h => let ⟨⟨_, he⟩, _⟩ := st; wpAny_pyIter_enum he h
set_option maxHeartbeats 1000000 in
theorem meets_enum1 {v : Value} {o : Obj} {H : Heap → Prop} (B : Begins v o H) :
    Meets (Builtin.«enumerate.__new__» ⟨[.type "enumerate", v], []⟩) (fun _ R s => H s.heap ∧
      R (.ok (.ret (.ref (s.heap.push o).objs.size))) { s with heap := (s.heap.push o).push { cls := .type "enumerate", data := .fields #[.none, .bool false, .ref s.heap.objs.size, rawInt 0, .none, .none] } }) :=
  .of_wp fun prog w A R s h => by
    obtain ⟨hp, g, d, tk, os⟩ := s
    obtain ⟨h1, h⟩ := h
    have hsub := sub_enumerate
    have q1 : ∀ {A' : Around} {E : Value → Shared → Prop} {Q : Value → Shared → Prop}, Q (.ref hp.objs.size) ⟨hp.push o, g, d, tk, os⟩ → wpAny (model prog w) A' (pyIter v) Q E ⟨hp, g, d, tk, os⟩ :=
      fun q => B.iter prog w _ _ ⟨hp, g, d, tk, os⟩ _ h1 q
    wp_walk using q1
    refine wpAny_stack_any fun st => wpAny_pure ?_
    split
    · rename_i c _ _ _ _ _
      cases (c == Value.type "enumerate")
      · wp_walk using q1
        exact ⟨_, rfl, h⟩
      · wp_walk using q1
        exact ⟨_, rfl, h⟩
    · wp_walk using q1
      exact ⟨_, rfl, h⟩
theorem call_enum1 {prog : Program} {w : World} {A : Around} {E : Value → Shared → Prop} {s : Shared} {v : Value} {o : Obj} {H : Heap → Prop} {Q : Value → Shared → Prop} (B : Begins v o H) (h1 : H s.heap)
    (h : ∀ h', IsEnum h' (s.heap.objs.size + 1) s.heap.objs.size 0 .none → h'.get? s.heap.objs.size = some o → (∀ b o, s.heap.get? b = some o → h'.get? b = some o) → Q (.ref (s.heap.objs.size + 1)) { s with heap := h' }) :
    wpAny (model prog w) A (call (.type "enumerate") [v]) Q E s := by
  refine callType_new F.called_enumerate (by decide) (F.typeCall_enumerate_1 _) (F.newCall_enumerate_1 _) (fun obj => F.args_object_init_2 obj _) F.entry_enumerate_new (meets_enum1 B) ⟨h1, ?_⟩
  have hz : (s.heap.push o).objs.size = s.heap.objs.size + 1 := Heap.size_push ..
  show _ ∧ _
  rw [hz]
  have he := Heap.get?_push_size (s.heap.push o) (o := { cls := .type "enumerate", data := .fields #[.none, .bool false, .ref s.heap.objs.size, rawInt 0, .none, .none] }) rfl
  rw [hz] at he
  exact ⟨⟨_, he, rfl⟩, h _ he (Heap.get?_push_of_some _ (Heap.get?_push_size _ B.free)) fun b o x => Heap.get?_push_of_some _ (Heap.get?_push_of_some _ x)⟩
def iEnumB (K : PySem.W.Frag) (ta : TA) : TI := fun σ H R => ta σ H fun vs H1 => ∃ a b xs, vs = [.ref a] ∧ SqB b K H1 a xs ∧ R (IteB K b a) H1
theorem pi_enumB {X : Cx} {e : Expr} {ta : TA} {p pos tpos : Pos} {elts : List Expr} {kk : Nat} (hg : Gl X "enumerate") (hm : X.mg "enumerate" = none) (ha : PA X [e] ta) (hs : starEach [e] X.env = [(false, eval e X.env)] := by rfl) :
    PI X (.Tuple elts kk tpos) (.Call (.Name "enumerate" p) [e] [] pos) (iEnumB X.K ta) := by
  refine ⟨fun pins s σ H R I h => ?_⟩
  refine Call_ (ld_blt I hg hm boot_enumerate (PyProof.Rows.callWith_type1 (thn (ha.run pos pins s σ H _ I h) fun us s1 ⟨vs, H1, I1, r1, q1⟩ => ?_) hs rfl))
  obtain ⟨a, b, xs, ex, hq, q⟩ := q1
  subst ex
  obtain ⟨u, rfl, ru⟩ := vals1 r1
  cases ru
  obtain ⟨its, rv, raw, hlt⟩ := sqB_raw I1 hq
  refine call_enum1 (beginsB b a its.toArray) raw fun h' he hit hk => wpAny_pyIter_enum he ?_
  have h1 : s1.heap.objs.size + 1 ≠ s1.heap.objs.size := Nat.succ_ne_self _
  have h2 : s1.heap.objs.size + 1 ≠ a := Nat.ne_of_gt (Nat.lt_succ_of_lt hlt)
  refine ⟨s1.heap.objs.size + 1, [s1.heap.objs.size + 1, s1.heap.objs.size], _, _, H1, rfl, I1.kept (t' := s1.toks) hk, turn_enumB b a (s1.heap.objs.size + 1) s1.heap.objs.size h1 h2 (Nat.ne_of_lt hlt), ⟨⟨.none, he⟩, iterB_new b hit⟩, fun c hc => ?_, q⟩
  have hle : s1.heap.objs.size ≤ c := by
    rcases (show c = s1.heap.objs.size + 1 ∨ c = s1.heap.objs.size by simpa using hc) with z | z
    · rw [z]; exact Nat.le_add_right _ _
    · rw [z]; exact Nat.le_refl _
  exact I1.fpOk hle (I1.hok.fresh hle)
/-- zip -/
def ItzB (K : PySem.W.Frag) (b d : Bool) (a c : Addr) : It :=
  ⟨fun i H => ∃ (xs ys : List V) (x y : V), SqB b K H a xs ∧ SqB d K H c ys ∧ xs[i]? = some x ∧ ys[i]? = some y,
    fun i H v H' => ∃ T x y, v = .ref T ∧ H T = none ∧ H' = upd H T (.tup [x, y]) ∧ (∀ xs, SqB b K H a xs → xs[i]? = some x) ∧ ∀ ys, SqB d K H c ys → ys[i]? = some y,
    fun i H => ∃ xs ys : List V, SqB b K H a xs ∧ SqB d K H c ys ∧ i = min xs.length ys.length⟩
theorem turn_zipB {P : Program} {w : World} {K : PySem.W.Frag} {elts : List Expr} {kk : Nat} {tpos : Pos} (b d : Bool) {a c z TI TO i1 i2 : Addr} (S : ZipSep2 z TI TO i1 i2 [i1, a] [i2, c]) (n1 : a ≠ i1) (n2 : c ≠ i2) :
    Turn P w K (.Tuple elts kk tpos) (ItzB K b d a c) [z, TI, TO, i1, i2] z (fun i h => IsZip h z TI TO .none ∧ IsTupOf2 h TI (.ref i1) (.ref i2) ∧ (∃ x y, IsTupOf2 h TO x y) ∧ IterB b h i1 a i ∧ IterB d h i2 c i) where
  mem := by simp
  obj := fun i h st e he => by
    obtain ⟨hz, hTI, ⟨x, y, hTO⟩, h1, h2⟩ := st
    rcases (show e = z ∨ e = TI ∨ e = TO ∨ e = i1 ∨ e = i2 by simpa using he) with q | q | q | q | q
    · rw [q]; exact ⟨_, hz, fun v q => nomatch q⟩
    · rw [q]; exact ⟨_, hTI, fun v q => nomatch q⟩
    · rw [q]; exact ⟨_, hTO, fun v q => nomatch q⟩
    · rw [q]; exact iterB_obj h1
    · rw [q]; exact iterB_obj h2
  keep := fun i h h' st k => by
    obtain ⟨hz, hTI, ⟨x, y, hTO⟩, h1, h2⟩ := st
    exact ⟨k z (by simp) _ hz, k TI (by simp) _ hTI, ⟨x, y, k TO (by simp) _ hTO⟩, iterB_at h1 fun o q => k i1 (by simp) o q, iterB_at h2 fun o q => k i2 (by simp) o q⟩
  item := by
    intro X hP hw hK hc i pins s σ H E I hf st hg
    subst hP hw hK
    obtain ⟨hz, hTI, ⟨x0, y0, hTO⟩, h1, h2⟩ := st
    obtain ⟨xs, ys, x, y, hqx, hqy, hx, hy⟩ := hg
    obtain ⟨its, rv, p, _⟩ := sqB_raw I hqx
    obtain ⟨its2, rv2, p2, _⟩ := sqB_raw I hqy
    obtain ⟨u, hu, ru⟩ := rv.get hx
    obtain ⟨u2, hu2, ru2⟩ := rv2.get hy
    have hzl : z < s.heap.objs.size := Heap.lt_size hz
    have l1 : i < its.toArray.size := by simpa using (List.getElem?_eq_some_iff.mp hu).1
    have l2 : i < its2.toArray.size := by simpa using (List.getElem?_eq_some_iff.mp hu2).1
    refine wpAny_pyNext_zipD2_item S (drawsB (prog := X.prog) (w := X.w) (A := X.A.in1) b (show X.A.in1.handled = none from I.ok.hd hc) i1 a n1 its.toArray) (drawsB (prog := X.prog) (w := X.w) (A := X.A.in1) d (show X.A.in1.handled = none from I.ok.hd hc) i2 c n2 its2.toArray) hz hTI hTO ⟨h1, p⟩ ⟨h2, p2⟩ l1 l2 fun v1 v2 h' tk e1 e2 z' TO' s1' s2' hT hsz hk => ?_
    have g1 : v1 = u := by
      have : its.toArray[i]? = some u := by simpa using hu
      rw [e1] at this
      exact Option.some.inj this
    have g2 : v2 = u2 := by
      have : its2.toArray[i]? = some u2 := by simpa using hu2
      rw [e2] at this
      exact Option.some.inj this
    subst g1; subst g2
    refine ⟨_, rfl, wpAny_letOwnedTupleGo_zip (s := { s with heap := h', toks := tk }) z' fun h'' z'' sb => ?_⟩
    have new : ObjOk X.prog X.w (upd H s.heap.objs.size (.tup [x, y])) h'' s.heap.objs.size (.tup [x, y]) :=
      ⟨by show 2 ≤ sizeLine; decide, [v1, v2], .cons ru (.cons ru2 .nil), ⟨_, (sb.2 _ (Nat.ne_of_gt hzl)).trans hT, rfl, _, rfl⟩⟩
    have I1 : Inv X pins σ (upd H s.heap.objs.size (.tup [x, y])) { s with heap := h'', toks := tk } :=
      I.turnedNew (ch := [z, TI, TO, i1, i2]) (fun e o hb q => (sb.2 e (fun q' => hb (by simp [q']))).trans (hk e o (fun q' => hb (by simp [q'])) (fun q' => hb (by simp [q'])) (fun q' => hb (by simp [q'])) (fun q' => hb (by simp [q'])) q)) hf (Nat.le_refl _) new
    refine ⟨.ref s.heap.objs.size, _, I1, rfl, ⟨_, x, y, rfl, I.hok.fresh (Nat.le_refl _), rfl, fun l hl => by rw [sqB_inj I hl hqx]; exact hx, fun l hl => by rw [sqB_inj I hl hqy]; exact hy⟩, ⟨z'', ?_, ⟨v1, v2, ?_⟩, ?_, ?_⟩, fun e hcm => ?_⟩
    · exact (sb.2 _ S.TIz).trans (hk _ _ S.TIz S.TITO S.TIi1 S.TIi2 hTI)
    · exact (sb.2 _ S.TOz).trans TO'
    · exact iterB_at s1'.1 fun o q => (sb.2 _ (Ne.symm S.zi1)).trans q
    · exact iterB_at s2'.1 fun o q => (sb.2 _ (Ne.symm S.zi2)).trans q
    · have hlt : e < s.heap.objs.size := by
        rcases (show e = z ∨ e = TI ∨ e = TO ∨ e = i1 ∨ e = i2 by simpa using hcm) with q | q | q | q | q
        · rw [q]; exact hzl
        · rw [q]; exact Heap.lt_size hTI
        · rw [q]; exact Heap.lt_size hTO
        · rw [q]; obtain ⟨_, e1, _⟩ := iterB_obj h1; exact Heap.lt_size e1
        · rw [q]; obtain ⟨_, e2, _⟩ := iterB_obj h2; exact Heap.lt_size e2
      rw [upd_ne (Nat.ne_of_lt hlt)]
      exact (hf e hcm).1
  done := by
    intro X hP hw hK hc i pins s σ H E I hf st hg
    subst hP hw hK
    obtain ⟨hz, hTI, ⟨x0, y0, hTO⟩, h1, h2⟩ := st
    obtain ⟨xs, ys, hqx, hqy, hend⟩ := hg
    obtain ⟨its, rv, p, _⟩ := sqB_raw I hqx
    obtain ⟨its2, rv2, p2, _⟩ := sqB_raw I hqy
    have m1 : its.toArray.size = xs.length := by rw [List.size_toArray, ← rv.length]
    have m2 : its2.toArray.size = ys.length := by rw [List.size_toArray, ← rv2.length]
    exact wpAny_pyNext_zipD2_end S (drawsB (prog := X.prog) (w := X.w) (A := X.A.in1) b (show X.A.in1.handled = none from I.ok.hd hc) i1 a n1 its.toArray) (drawsB (prog := X.prog) (w := X.w) (A := X.A.in1) d (show X.A.in1.handled = none from I.ok.hd hc) i2 c n2 its2.toArray) hz hTI hTO ⟨h1, p⟩ ⟨h2, p2⟩ (by omega) (by omega) (by omega) fun h' tk hk =>
      ⟨rfl, I.turnedL (t' := tk) (ch := [z, TI, TO, i1, i2]) (fun e o hb q => hk e o (fun q' => hb (by simp [q'])) (fun q' => hb (by simp [q'])) (fun q' => hb (by simp [q'])) (fun q' => hb (by simp [q'])) q) hf⟩
  self := fun A i s Q E st h => wpAny_pyIter_zip st.1 h
def iZipB (K : PySem.W.Frag) (ta : TA) : TI := fun σ H R => ta σ H fun vs H1 => ∃ a c b d xs ys, vs = [.ref a, .ref c] ∧ SqB b K H1 a xs ∧ SqB d K H1 c ys ∧ R (ItzB K b d a c) H1
theorem pi_zipB {X : Cx} {e e2 : Expr} {ta : TA} {p pos tpos : Pos} {elts : List Expr} {kk : Nat} (hg : Gl X "zip") (hm : X.mg "zip" = none) (ha : PA X [e, e2] ta)
    (hs : starEach [e, e2] X.env = (false, eval e X.env) :: starEach [e2] X.env := by rfl) (hpl : (backTo pos (starEach [e2] X.env)).any (·.1) = false := by rfl) :
    PI X (.Tuple elts kk tpos) (.Call (.Name "zip" p) [e, e2] [] pos) (iZipB X.K ta) := by
  refine ⟨fun pins s σ H R I h => ?_⟩
  refine Call_ (ld_blt I hg hm PyProof.Rows.boot_zip (PyProof.Rows.callWith_type1 (thn (ha.run pos pins s σ H _ I h) fun us s1 ⟨vs, H1, I1, r1, q1⟩ => ?_) hs hpl))
  obtain ⟨a, c, b, d, xs, ys, ex, hqx, hqy, q⟩ := q1
  subst ex
  obtain ⟨u1, u2, rfl, ru1, ru2⟩ := vals2 r1
  cases ru1
  cases ru2
  obtain ⟨its, rv, p1, la⟩ := sqB_raw I1 hqx
  obtain ⟨its2, rv2, p2, lc⟩ := sqB_raw I1 hqy
  refine zip_begins2 (beginsB b a its.toArray) (beginsB d c its2.toArray) p1 p2 fun h' hz hTI hTO g1 g2 hsz hk => wpAny_pyIter_zip hz ?_
  have S : ZipSep2 (s1.heap.objs.size + 4) (s1.heap.objs.size + 2) (s1.heap.objs.size + 3) s1.heap.objs.size (s1.heap.objs.size + 1) [s1.heap.objs.size, a] [s1.heap.objs.size + 1, c] := zip_sep2 (fun e he => by rw [List.mem_singleton.mp he]; exact la) fun e he => by rw [List.mem_singleton.mp he]; exact lc
  refine ⟨s1.heap.objs.size + 4, [s1.heap.objs.size + 4, s1.heap.objs.size + 2, s1.heap.objs.size + 3, s1.heap.objs.size, s1.heap.objs.size + 1], _, _, H1, rfl, I1.kept (t' := s1.toks) hk, turn_zipB b d S (Nat.ne_of_lt la) (Nat.ne_of_lt (Nat.lt_succ_of_lt lc)), ⟨hz, hTI, ⟨_, _, hTO⟩, iterB_new b g1, iterB_new d g2⟩, fun e he => ?_, q⟩
  have hle : s1.heap.objs.size ≤ e := by
    rcases (show e = s1.heap.objs.size + 4 ∨ e = s1.heap.objs.size + 2 ∨ e = s1.heap.objs.size + 3 ∨ e = s1.heap.objs.size ∨ e = s1.heap.objs.size + 1 by simpa using he) with z | z | z | z | z
    · rw [z]; exact Nat.le_add_right _ _
    · rw [z]; exact Nat.le_add_right _ _
    · rw [z]; exact Nat.le_add_right _ _
    · rw [z]; exact Nat.le_refl _
    · rw [z]; exact Nat.le_add_right _ _
  exact I1.fpOk hle (I1.hok.fresh hle)
end Ct
end
end
section
set_option Elab.async false
set_option linter.all false
set_option maxRecDepth 100000
set_option maxHeartbeats 4000000
noncomputable section
namespace Ct
open PySem PySem.Spec PyProof.Rows L2
section
variable {cl : Cl} {F0 H0 F H F' H' : Hp} {env : List U} {σ : Sig} {X : Cx} {K : PySem.W.Frag} {tg : Expr}
/-! ### enumerate, zip -/
/-- a list or a tuple: which one, its items -/
theorem asS_sqB {u : U} {us : List U} {v : V} (h : asS u = some us) (s : Sb F H) (r : Rv cl F H u v) : ∃ a b vs, v = .ref a ∧ SqB b K H a vs ∧ RpL cl F us vs := by
  obtain ⟨a, vs, rfl, ha, hr⟩ := asS_rv h s r
  rcases ha with ha | ha
  · exact ⟨a, false, vs, rfl, SqL.of ha, hr⟩
  · exact ⟨a, true, vs, rfl, SqT.of ha, hr⟩
theorem asF_sqB {u : U} {us : List U} {v : V} (h : asF u = some us) (r : Rv cl F H u v) : ∃ a b vs, v = .ref a ∧ (∀ H', Sb F H' → SqB b K H' a vs) ∧ (∀ H' ys, Sb F H' → SqB b K H' a ys → ys = vs ∨ True) ∧ RpL cl F us vs ∧ ((b = false ∧ F a = some (.lst vs)) ∨ (b = true ∧ F a = some (.tup vs))) := by
  obtain ⟨a, vs, rfl, ha, hr⟩ := asF_rv h r
  rcases ha with ha | ha
  · exact ⟨a, false, vs, rfl, fun H' s => SqL.of (s _ _ ha), fun _ _ _ _ => .inr trivial, hr, .inl ⟨rfl, ha⟩⟩
  · exact ⟨a, true, vs, rfl, fun H' s => SqT.of (s _ _ ha), fun _ _ _ _ => .inr trivial, hr, .inr ⟨rfl, ha⟩⟩
def enumU (us : List U) : Nat → List U := List.rec (motive := fun _ => Nat → List U) (fun _ => []) (fun u _ r n => .tup [.int (Int.ofNat n), u] :: r (Nat.succ n)) us
theorem enumU_get : ∀ (us : List U) (n i : Nat) (w : U), (enumU us n)[i]? = some w → ∃ u, us[i]? = some u ∧ w = .tup [.int (Int.ofNat (n + i)), u]
  | [], _, _, _, h => by
    have h' : ([] : List U)[_]? = some _ := h
    simp at h'
  | u :: us, n, 0, w, h => by
    have h' : (U.tup [.int (Int.ofNat n), u] :: enumU us (Nat.succ n))[0]? = some w := h
    simp at h'
    exact ⟨u, by simp, h'.symm⟩
  | u :: us, n, i + 1, w, h => by
    have h' : (U.tup [.int (Int.ofNat n), u] :: enumU us (Nat.succ n))[i + 1]? = some w := h
    rw [List.getElem?_cons_succ] at h'
    obtain ⟨u', h1, h2⟩ := enumU_get us _ i w h'
    refine ⟨u', by simpa using h1, ?_⟩
    rw [h2]
    have : Nat.succ n + i = n + (i + 1) := by omega
    rw [this]
theorem enumU_len : ∀ (us : List U) (n : Nat), (enumU us n).length = us.length
  | [], _ => rfl
  | _ :: us, n => congrArg Nat.succ (enumU_len us (Nat.succ n))
theorem wk_enum {F1 : Hp} {a : Addr} {b : Bool} {us : List U} {vs : List V} (h : ∀ H', Sb F1 H' → SqB b K H' a vs) (r : RpL cl F1 us vs) : Wk cl F1 (IteB K b a) (enumU us 0) := fun F H s1 s2 => by
  have hq := h H (s1.trans s2)
  refine ⟨⟨vs, hq, by rw [enumU_len, r.len]⟩, fun i w hw => ?_⟩
  obtain ⟨u, hu, rfl⟩ := enumU_get us 0 i w hw
  obtain ⟨v, hv, rv⟩ := r.get hu
  refine ⟨⟨vs, v, hq, hv⟩, fun x H' ⟨T, y, e, n, e2, f⟩ => ?_⟩
  subst e; subst e2
  have hy := f vs hq
  rw [hv] at hy
  cases hy
  refine ⟨upd F T _, Stp.add s2 n, ?_⟩
  simp only [Rp, RpL]
  refine ⟨T, _, rfl, upd_same, ?_⟩
  simp only [RpL, Rp]
  refine ⟨?_, rv.mono (s1.trans (Sb.new (s2.none n))), trivial⟩
  rw [Nat.zero_add]
  rfl
def wEnum (ms : MA) : MA := fun env => ob (ms env) (fA1 fun u => ob (asF u) fun us => some (enumU us 0))
theorem ji_enum {e : Expr} {ms : MA} {p pos tpos : Pos} {elts : List Expr} {kk : Nat} (hg : Gl X "enumerate") (hm : X.mg "enumerate" = none) (ha : PA X [e] (tA cl ms)) (hs : starEach [e] X.env = [(false, eval e X.env)] := by rfl) :
    PI X (.Tuple elts kk tpos) (.Call (.Name "enumerate" p) [e] [] pos) (tW cl (wEnum ms)) := (pi_enumB hg hm ha hs).wk fun σ H R ⟨F, env, us, er, e, k⟩ => by
  obtain ⟨ws, ew, e⟩ := ob_some e
  refine ⟨F, env, ws, er, ew, fun F1 H1 vs s r => ?_⟩
  obtain ⟨u, v, rfl, rfl, e, rv⟩ := fA1_some e r
  obtain ⟨xs, ex, e⟩ := ob_some e
  cases e
  obtain ⟨a, b, ys, rfl, h1, _, h3, _⟩ := asF_sqB (K := X.K) ex rv
  exact ⟨a, b, ys, rfl, h1 H1 s.fh, k F1 H1 _ s (wk_enum h1 h3)⟩
def zipU (us : List U) : List U → List U := List.rec (motive := fun _ => List U → List U) (fun _ => []) (fun u _ r ws => List.casesOn (motive := fun _ => List U) ws [] fun w ws => .tup [u, w] :: r ws) us
theorem zipU_eq : ∀ us ws : List U, zipU us ws = (us.zip ws).map fun p => U.tup [p.1, p.2]
  | [], _ => by simp [zipU]
  | _ :: _, [] => by simp [zipU]
  | u :: us, w :: ws => by
    have ih := zipU_eq us ws
    show U.tup [u, w] :: zipU us ws = _
    rw [ih]
    rfl
theorem wk_zip {F1 : Hp} {a c : Addr} {b d : Bool} {us ws : List U} {xs ys : List V} (h1 : ∀ H', Sb F1 H' → SqB b K H' a xs) (h2 : ∀ H', Sb F1 H' → SqB d K H' c ys) (r1 : RpL cl F1 us xs) (r2 : RpL cl F1 ws ys) : Wk cl F1 (ItzB K b d a c) (zipU us ws) := fun F H s1 s2 => by
  have q1 := h1 H (s1.trans s2)
  have q2 := h2 H (s1.trans s2)
  rw [zipU_eq]
  refine ⟨⟨xs, ys, q1, q2, by rw [List.length_map, List.length_zip, r1.len, r2.len]⟩, fun i w hw => ?_⟩
  rw [List.getElem?_map] at hw
  cases hz : (us.zip ws)[i]? with
  | none => rw [hz] at hw; cases hw
  | some p =>
    rw [hz] at hw
    have hw' : U.tup [p.1, p.2] = w := Option.some.inj hw
    subst hw'
    obtain ⟨z1, z2⟩ := List.getElem?_zip_eq_some.mp hz
    obtain ⟨v1, hv1, rv1⟩ := r1.get z1
    obtain ⟨v2, hv2, rv2⟩ := r2.get z2
    refine ⟨⟨xs, ys, v1, v2, q1, q2, hv1, hv2⟩, fun x H' ⟨T, y, y2, e, n, e2, f, g⟩ => ?_⟩
    subst e; subst e2
    have g1 := f xs q1
    have g2 := g ys q2
    rw [hv1] at g1
    rw [hv2] at g2
    cases g1
    cases g2
    have sn : ∀ o, Sb F1 (upd F T o) := fun o => s1.trans (Sb.new (s2.none n))
    refine ⟨upd F T _, Stp.add s2 n, ?_⟩
    simp only [Rp]
    refine ⟨T, _, rfl, upd_same, ?_⟩
    simp only [RpL]
    exact ⟨rv1.mono (sn _), rv2.mono (sn _), trivial⟩
def wZip (ms : MA) : MA := fun env => ob (ms env) (fA2 fun u w => ob (asF u) fun us => ob (asF w) fun ws => some (zipU us ws))
theorem ji_zip {e e2 : Expr} {ms : MA} {p pos tpos : Pos} {elts : List Expr} {kk : Nat} (hg : Gl X "zip") (hm : X.mg "zip" = none) (ha : PA X [e, e2] (tA cl ms))
    (hs : starEach [e, e2] X.env = (false, eval e X.env) :: starEach [e2] X.env := by rfl) (hpl : (backTo pos (starEach [e2] X.env)).any (·.1) = false := by rfl) :
    PI X (.Tuple elts kk tpos) (.Call (.Name "zip" p) [e, e2] [] pos) (tW cl (wZip ms)) := (pi_zipB hg hm ha hs hpl).wk fun σ H R ⟨F, env, us, er, e, k⟩ => by
  obtain ⟨zs, ez, e⟩ := ob_some e
  refine ⟨F, env, zs, er, ez, fun F1 H1 vs s r => ?_⟩
  obtain ⟨u, w, v, x, rfl, rfl, e, rv, rw'⟩ := fA2_some e r
  obtain ⟨us, eu, e⟩ := ob_some e
  obtain ⟨ws, ew, e⟩ := ob_some e
  cases e
  obtain ⟨a, b, ys, rfl, h1, _, h3, _⟩ := asF_sqB (K := X.K) eu rv
  obtain ⟨c, d, zs, rfl, g1, _, g3, _⟩ := asF_sqB (K := X.K) ew rw'
  exact ⟨a, c, b, d, ys, zs, rfl, h1 H1 s.fh, g1 H1 s.fh, k F1 H1 _ s (wk_zip h1 g1 h3 g3)⟩

/-! ### dict comprehensions -/
def dcG (f : {β : Type} → U → U → U → (U → Option β) → Option β) (t : Tg) (mt : MT) (mk mv : M) (env : List U) (us : List U) : U → Option U :=
  List.rec (motive := fun _ => U → Option U) (fun d => some d) (fun u _ r d => ob (t.put u env) fun e1 => ob (mt e1) fun b => Bool.rec (r d) (ob (mk e1) fun kk => ob (mv e1) fun y => ob (chk y) fun y => f d kk y r) b) us
def eDc (f : {β : Type} → U → U → U → (U → Option β) → Option β) (u0 : U) (w : MA) (t : Tg) (mt : MT) (mk mv : M) (vs : List Nat) : M := fun env => ob (w env) fun us => dcG f t mt mk mv (wipeU env vs) us u0
theorem tDc_of {f : {β : Type} → U → U → U → (U → Option β) → Option β} {u0 : U} {o0 : HO} {w : MA} {t : Tg} {mt : MT} {mk mv : M} {vs : List Nat} (hf : PutM cl f) (hm0 : u0.mut = true) (ho : Emp o0) (h0 : ∀ F H D, H D = some o0 → Rv cl F H u0 (.ref D)) (hs : ∀ i ∈ t.slots, i ∈ vs)
    (σ : Sig) (H : Hp) (Q : VK) (h : tDN cl (eDc f u0 w t mt mk mv vs) σ H Q) : tDcP o0 (tW cl w) (tG cl t) (tT cl mt) (tM cl mk) (tM cl mv) vs σ H Q := by
  obtain ⟨F, env, uf, er, e, k⟩ := h
  obtain ⟨us, ew, el⟩ := ob_some e
  refine ⟨F, env, us, er, ew, fun F1 H1 J s1 wk D hD => ?_⟩
  have nF : F1 D = none := s1.fh.none hD
  have n0 : H D = none := s1.non0 hD
  have hnt : ∀ xs, o0 ≠ .tup xs := fun xs z => by rcases ho with rfl | rfl <;> cases z
  refine ⟨fun i m H2 => m = us.length - i ∧ i ≤ us.length ∧ ∃ (F2 : Hp) (d : U), Stp F1 H1 F2 H2 ∧ F2 D = none ∧ d.mut = true ∧ Rv cl F2 H2 d (.ref D) ∧ dcG f t mt mk mv (wipeU env vs) (us.drop i) d = some uf,
    ⟨us.length, rfl, Nat.zero_le _, F1, u0, Stp.lay s1.fh hD, nF, hm0, h0 _ _ _ upd_same, el⟩, ?_⟩
  rintro i m H2 ⟨rfl, hi, F2, d, s2, nF2, md, rd, er2⟩
  obtain ⟨stop, go⟩ := wk F2 H2 s2.ff s2.fh
  by_cases hlt : i < us.length
  · right
    obtain ⟨g1, g2⟩ := go i us[i] (List.getElem?_eq_getElem hlt)
    rw [List.drop_eq_getElem_cons hlt] at er2
    obtain ⟨env1, ep, er3⟩ := ob_some (show ob (t.put us[i] (wipeU env vs)) (fun e1 => ob (mt e1) fun b => Bool.rec (dcG f t mt mk mv (wipeU env vs) (us.drop (i + 1)) d) (ob (mk e1) fun kk => ob (mv e1) fun y => ob (chk y) fun y => f d kk y (dcG f t mt mk mv (wipeU env vs) (us.drop (i + 1)))) b) = some uf from er2)
    obtain ⟨b, eb, er3⟩ := ob_some er3
    refine ⟨g1, fun H' => i + 1 ≤ us.length ∧ ∃ (F2 : Hp) (d : U), Stp F1 H1 F2 H' ∧ F2 D = none ∧ d.mut = true ∧ Rv cl F2 H' d (.ref D) ∧ dcG f t mt mk mv (wipeU env vs) (us.drop (i + 1)) d = some uf,
      fun H' ⟨q1, q2⟩ => ⟨us.length - (i + 1), by omega, rfl, q1, q2⟩, fun x H3 y => ?_⟩
    obtain ⟨F3, s3, rx⟩ := g2 x H3 y
    refine ⟨F3, us[i], wipeU env vs, env1, s3.fh, rx, ep, fun σ' p => ⟨wipe_put hs p, ?_⟩⟩
    -- what a step does not freeze
    have stay : ∀ {Fa Ha Fb Hb : Hp}, Stp Fa Ha Fb Hb → Fa D = none → Rv cl Fa Ha d (.ref D) → Fb D = none := fun {Fa Ha Fb Hb} st nf r => by
      obtain ⟨a, o, e, h1, h2⟩ := mut_rv md r
      cases e
      exact st.nof nf h1 h2
    have s13 := s2.trans s3
    have nF3 := stay s3 nF2 rd
    have rd3 := rd.step s3
    have er1 : ER cl F3 H3 env1 σ' := ((wipe_er (er.step s1) vs).step s13).put p
    refine ⟨F3, env1, b, er1, eb, fun F4 H4 s4 => ?_⟩
    have nF4 := stay s4 nF3 rd3
    have rd4 := rd3.step s4
    cases b with
    | false => exact ⟨hlt, F4, d, s13.trans s4, nF4, md, rd4, er3⟩
    | true =>
      obtain ⟨kk, ek, er3⟩ := ob_some er3
      obtain ⟨y0, ey, er3⟩ := ob_some er3
      obtain ⟨y1, ey1, er3⟩ := ob_some er3
      obtain ⟨rfl, hn⟩ := chk_some ey1
      obtain ⟨d', e9, _, md', put⟩ := hf _ _ _ _ _ er3
      show tM cl mk σ' H4 _
      refine two (er1.step s4) ek ey fun F5 H5 vk vy s5 rk ry => ?_
      have nF5 := stay s5 nF4 rd4
      obtain ⟨a, o, ea, hp, rd'⟩ := put F5 H5 (.ref D) vk vy s5.fh (rd4.step s5) rk (ry.rp hn)
      cases ea
      exact ⟨_, hp, hlt, F5, d', ((s13.trans s4).trans s5).mut hD nF5, nF5, md', rd', e9⟩
  · left
    have hi' : i = us.length := by omega
    subst hi'
    rw [List.drop_length] at er2
    have e0 : some d = some uf := er2
    cases e0
    exact ⟨stop, k F2 H2 D (s1.trans s2) n0 nF2 rd⟩
theorem j_dc {f : {β : Type} → U → U → U → (U → Option β) → Option β} {u0 : U} {o0 : HO} {kx vx tg iter : Expr} {ifs : List Expr} {scope : Scope} {own : List (Str × Nat)} {pos : Pos} {w : MA} {t : Tg} {mt : MT} {mk mv : M} (hf : PutM cl f) (hm0 : u0.mut = true) (ho : Emp o0) (h0 : ∀ F H D, H D = some o0 → Rv cl F H u0 (.ref D))
    (hu : X.A.units < cLine) (hc : X.calm = true) (hN : X.N.Nodup) (hi : PI X tg iter (tW cl w)) (ok : blkC X.N X.env.scope scope own = true)
    (hg : ∀ (s : Shared) (H : Hp) (C : Addr) (cs : List (Str × Addr)) (fp : List Addr), PG (X.blk s H scope (compEnvC scope cs C X.env) fp) tg (tG cl t)) (ht : ∀ (s : Shared) (H : Hp) (C : Addr) (cs : List (Str × Addr)) (fp : List Addr), PTs (X.blk s H scope (compEnvC scope cs C X.env) fp) ifs (tT cl mt))
    (hk : ∀ (s : Shared) (H : Hp) (C : Addr) (cs : List (Str × Addr)) (fp : List Addr), PE (X.blk s H scope (compEnvC scope cs C X.env) fp) kx (tM cl mk)) (hv : ∀ (s : Shared) (H : Hp) (C : Addr) (cs : List (Str × Addr)) (fp : List Addr), PE (X.blk s H scope (compEnvC scope cs C X.env) fp) vx (tM cl mv))
    (hs : ∀ x, foldedSetIterable iter X.env x = pure x := by intro _; rfl) (hsl : ∀ i ∈ t.slots, i ∈ own.map (·.2) := by decide) :
    PE X (.DictComp kx vx [⟨tg, iter, ifs, 0⟩] scope pos) (tDN cl (eDc f u0 w t mt mk mv (own.map (·.2)))) := (pe_dcP ho hu hc hN hi (blkOk_by ok) hg ht hk hv hs).wk (tDc_of hf hm0 ho h0 hsl)
theorem emp_k : Emp (.dK []) := .inl rfl
theorem emp_t : Emp (.dT []) := .inr rfl
theorem rv_k0 (F H : Hp) (D : Addr) (h : H D = some (.dK [])) : Rv cl F H (.dk [] []) (.ref D) := ⟨D, [], rfl, h, rfl, by simp only [List.map_nil, RpL]⟩
theorem rv_t0 (F H : Hp) (D : Addr) (h : H D = some (.dT [])) : Rv cl F H (.dt [] []) (.ref D) := ⟨D, [], rfl, h, rfl, by simp only [List.map_nil, RpL]⟩
end
end Ct
end
end
section
set_option Elab.async false
set_option linter.all false
set_option maxRecDepth 100000
set_option maxHeartbeats 4000000
noncomputable section
namespace Ct
open PySem PySem.Spec PyProof.Rows L2
section
variable {cl : Cl} {F0 H0 F H F' H' : Hp} {env : List U} {σ : Sig} {X : Cx} {K : PySem.W.Frag} {tg : Expr}
/-! ### list(range(n)), tuple(range(n)) -/
theorem rg_rp (n : Nat) : ∀ lo : Int, RpL cl F (rngL (.ofNat 1) n lo) ((List.range n).map fun i => V.int (lo + (i : Nat))) := by
  induction n with
  | zero => intro lo; show RpL cl F [] []; simp only [RpL]
  | succ n ih =>
    intro lo
    rw [List.range_succ_eq_map, List.map_cons, List.map_map]
    show RpL cl F (.int lo :: rngL (.ofNat 1) n (Int.add lo (.ofNat 1))) _
    simp only [RpL, Rp]
    refine ⟨by simp, ?_⟩
    have := ih (Int.add lo (.ofNat 1))
    have e : ((fun i : Nat => V.int (lo + (i : Nat))) ∘ Nat.succ) = fun i : Nat => V.int (Int.add lo (.ofNat 1) + (i : Nat)) := by
      funext i
      show V.int (lo + ((i + 1 : Nat) : Int)) = V.int ((lo + 1) + (i : Int))
      congr 1
      omega
    rw [e]
    exact this
def lRg1 (m : M) : MA := fun env => ob (m env) fun u => ob (asN u) fun n => gd (Nat.ble n 100000) (some (rngL (.ofNat 1) n (.ofNat 0)))
def eTRg1 (m : M) : M := fun env => ob (m env) fun u => ob (asN u) fun n => gd (Nat.ble n 100000) (some (.tup (rngL (.ofNat 1) n (.ofNat 0))))
theorem rgOk_of {n : Nat} (h : n ≤ 100000) : RgOk 0 (n : Int) := RgOk.of_le (by omega) (by omega) (by omega) (by omega)
theorem rgV_of (n : Nat) : rgV 0 (n : Int) = (List.range n).map fun i => V.int ((0 : Int) + (i : Nat)) := by
  unfold rgV
  simp
theorem jl_listRg {a : Expr} {m : M} {p pos p2 pos2 : Pos} (hc : X.calm = true) (hg : Gl X "list") (hm : X.mg "list" = none) (hg2 : Gl X "range") (hm2 : X.mg "range" = none) (ha : PE X a (tM cl m)) (na : starEach [a] X.env = (false, eval a X.env) :: starEach [] X.env := by rfl)
    (na2 : starEach [.Call (.Name "range" p2) [a] [] pos2] X.env = (false, eval (.Call (.Name "range" p2) [a] [] pos2) X.env) :: starEach [] X.env := by rfl) :
    PE X (.Call (.Name "list" p) [.Call (.Name "range" p2) [a] [] pos2] [] pos) (tL cl (lRg1 m)) := (pe_listRg hc hg hm (prg_1 hg2 hm2 ha na) na2).wk fun σ H Q ⟨F, env, us, er, e, k⟩ => by
  obtain ⟨u, eu, e⟩ := ob_some e
  obtain ⟨n, en, e⟩ := ob_some e
  obtain ⟨hb, e⟩ := gd_some e
  cases e
  refine ⟨F, env, u, er, eu, fun F1 H1 v s r => ⟨(n : Int), asN_rv en r, rgOk_of (Nat.le_of_ble_eq_true hb), fun q hq => ?_⟩⟩
  rw [rgV_of]
  exact NewL.lay k s (rg_rp n 0) q hq
theorem j_tupRg {a : Expr} {m : M} {p pos p2 pos2 : Pos} (hc : X.calm = true) (hg : Gl X "tuple") (hm : X.mg "tuple" = none) (hg2 : Gl X "range") (hm2 : X.mg "range" = none) (ha : PE X a (tM cl m)) (na : starEach [a] X.env = (false, eval a X.env) :: starEach [] X.env := by rfl)
    (na2 : starEach [.Call (.Name "range" p2) [a] [] pos2] X.env = (false, eval (.Call (.Name "range" p2) [a] [] pos2) X.env) :: starEach [] X.env := by rfl) :
    PE X (.Call (.Name "tuple" p) [.Call (.Name "range" p2) [a] [] pos2] [] pos) (tM cl (eTRg1 m)) := (pe_tupRg hc hg hm (prg_1 hg2 hm2 ha na) na2).wk fun σ H Q ⟨F, env, us, er, e, k⟩ => by
  obtain ⟨u, eu, e⟩ := ob_some e
  obtain ⟨n, en, e⟩ := ob_some e
  obtain ⟨hb, e⟩ := gd_some e
  cases e
  refine ⟨F, env, u, er, eu, fun F1 H1 v s r => ⟨(n : Int), asN_rv en r, rgOk_of (Nat.le_of_ble_eq_true hb), fun q hq => ?_⟩⟩
  rw [rgV_of]
  refine k (upd F1 q _) _ _ (s.trans (Stp.add s.fh hq)) ?_
  simp only [Rv, Rp]
  exact ⟨q, _, rfl, upd_same, rg_rp n 0⟩

/-! ### math.lcm -/
def rLcm : List V → Hp → VK → Prop := fun vs H Q => ∃ a b : Int, vs = [.int a, .int b] ∧ a.natAbs < 2 ^ 64 ∧ b.natAbs < 2 ^ 64 ∧ (Nat.lcm 1 a.natAbs).lcm b.natAbs ≤ 10 ^ 18 ∧ Q (.int (((Nat.lcm 1 a.natAbs).lcm b.natAbs : Nat) : Int)) H
theorem log_small {n : Nat} (h : n ≤ 10 ^ 18) : n.log2 < bitsLine := by
  by_cases z : n = 0
  · subst z; decide
  · have : n.log2 < 64 := (Nat.log2_lt z).mpr (by omega)
    have : (64 : Nat) ≤ bitsLine := by decide
    omega
theorem cr_lcm : CallR X (.builtin "math.lcm") rLcm := by
  intro pins s σ H vs us Q I r h
  obtain ⟨a, b, rfl, ha, hb, hz, q⟩ := h
  obtain ⟨t, u, rfl⟩ := Vals.int2 r
  exact PySem.W.mg_lcm ha hb (by rw [Int.natAbs_natCast]; exact log_small hz) ⟨.int _, H, I.tok _, ⟨_, rfl⟩, q⟩
def fLcm : List U → Option U := fA2 fun x y => ob (asI x) fun i => ob (asI y) fun j => gd (Nat.ble (Int.natAbs i) 1000000000) (gd (Nat.ble (Int.natAbs j) 1000000000) (gd (Nat.ble (Nat.lcm (Nat.lcm 1 (Int.natAbs i)) (Int.natAbs j)) (10 ^ 18)) (some (.int (Int.ofNat (Nat.lcm (Nat.lcm 1 (Int.natAbs i)) (Int.natAbs j)))))))
theorem cm_lcm : CaM cl fLcm rLcm := fun F H us u xs Q s e r k => by
  obtain ⟨w, w2, v, v2, rfl, rfl, e, rv, rv2⟩ := fA2_some e r
  obtain ⟨i, ei, e⟩ := ob_some e
  obtain ⟨j, ej, e⟩ := ob_some e
  obtain ⟨h1, e⟩ := gd_some e
  obtain ⟨h2, e⟩ := gd_some e
  obtain ⟨h3, e⟩ := gd_some e
  cases e
  have h1 := Nat.le_of_ble_eq_true h1
  have h2 := Nat.le_of_ble_eq_true h2
  exact ⟨i, j, by rw [asI_rv ei rv, asI_rv ej rv2], by omega, by omega, Nat.le_of_ble_eq_true h3, k F H _ (Stp.refl s) (rv_int _)⟩
theorem j_callBf {x : Str} {p pos : Pos} {e : Expr} {es : List Expr} {ms : MA} {id : String} {f : List U → Option U} {r : List V → Hp → VK → Prop} (hc : CallR X (.builtin id) r) (hf : CaM cl f r) (hg : Gl X x) (hm : X.mg x = some (.builtin id)) (ha : PA X (e :: es) (tA cl ms))
    (hdb : (x == ("__debug__" : Str)) = false := by decide) (he : starEach (e :: es) X.env = (false, eval e X.env) :: starEach es X.env := by rfl) (hpl : (backTo pos (starEach es X.env)).any (·.1) = false := by rfl) :
    PE X (.Call (.Name x p) (e :: es) [] pos) (tM cl (eCa f ms)) := (pe_callBfun hc hg hm ha hdb he hpl).wk (tCB_of hf)
end

/-! ### own operators: len, ==, +, * -/
/-- the def at fa, run below the running body -/
theorem run_below {X : Cx} {A : Around} {pins : List (Addr × Obj)} {σ : L2.St} {H : Hp} {s : Shared} {k : Nat} {fa : Addr} {fd : FuncData} {ps : List Str} {sp : Sp} {us : List Value} {vs : List V} {Q : VK} (F : FnOk X.prog X.w X.K X.mg X.base CX0 k fa fd ps sp) (hr : Room k A)
    (e0 : Env0 X.prog X.w X.K X.mg X.base A X.stack s H) (hb : Binds X.K fd ps []) (I : Inv X pins σ H s) (r : Vals vs us) (h : sp vs H Q E0) : wpAny (model X.prog X.w) A (call (.ref fa) us) (EP X pins σ Q) X.xe s := by
  have hl : us.length = ps.length := by rw [← r.length]; exact F.len _ _ _ _ h
  have hb' := hb s us I.kIn (by rw [List.append_nil]; exact hl)
  rw [List.append_nil] at hb'
  refine wpAny_call (codeAny_mono (F.run A X.stack s H ⟨us, []⟩ us vs Q E0 hr e0 hb' r h) fun r s' hq => ?_)
  cases r with
  | error e => exact hq.elim
  | ok fl =>
    cases fl with
    | ret u => exact I.after hq
    | next => exact False.elim hq
    | brk => exact False.elim hq
    | cont => exact False.elim hq
/-- the class c has the def m of its own (a double-underscore name) -/
structure Dnd (P : Program) (w : World) (K : PySem.W.Frag) (mg : Str → Option Value) (base : Heap) (cl : Cl) (k c : Nat) (m : Str) (n : Nat) (f : List U → Option U) : Prop where
  ex : ∃ (fa : Addr) (fd : FuncData) (ps : List Str), PySem.W.selfFirst K (cl.k c) = true ∧ PySem.W.findIn K (.ref (cl.k c)) m = some (some (.ref fa)) ∧ PySem.W.isFn K (.ref fa) = true ∧ FnOk P w K mg base CX0 k fa fd ps (spF cl n f) ∧ Binds K fd ps []
theorem Dnd.cong {P : Program} {w : World} {K : PySem.W.Frag} {mg : Str → Option Value} {base : Heap} {cl cl' : Cl} {k c n : Nat} {m : Str} {f : List U → Option U} (hk : cl.k = cl'.k) (q : Dnd P w K mg base cl k c m n f) : Dnd P w K mg base cl' k c m n f := by
  obtain ⟨fa, fd, ps, c0, c1, c2, F, a1⟩ := q.ex
  rw [hk] at c0 c1
  exact ⟨fa, fd, ps, c0, c1, c2, F.imp (spF_cong hk), a1⟩
theorem Dnd.les {P : Program} {w : World} {K : PySem.W.Frag} {mg : Str → Option Value} {base : Heap} {cl : Cl} {k c n : Nat} {m : Str} {f g : List U → Option U} (l : Les g f) (q : Dnd P w K mg base cl k c m n f) : Dnd P w K mg base cl k c m n g := by
  obtain ⟨fa, fd, ps, c0, c1, c2, F, a1⟩ := q.ex
  exact ⟨fa, fd, ps, c0, c1, c2, F.imp (spF_les l), a1⟩
section
variable {cl : Cl} {F0 H0 F H F' H' : Hp} {env : List U} {σ : Sig} {X : Cx} {k j c n : Nat} {m : Str} {f : List U → Option U}
/-- x op y of two instances of the class at C -/
def rDun (C : Addr) (sp : Sp) : R2 := fun x y H Q => ∃ a dx fs b dy gs, x = .ref a ∧ y = .ref b ∧ H a = some (.ins C dx fs) ∧ H b = some (.ins C dy gs) ∧ sp [x, y] H Q E0
theorem op_bin {op : Operator} {C fa : Addr} {fd : FuncData} {ps : List Str} {sp : Sp} (hc : PySem.W.selfFirst X.K C = true) (hs : PySem.W.findIn X.K (.ref C) (PySem.dunder op.info.2) = some (some (.ref fa))) (hf : PySem.W.isFn X.K (.ref fa) = true) (F : FnOk X.prog X.w X.K X.mg X.base CX0 k fa fd ps sp) (hb : Binds X.K fd ps []) (hr : Room k X.A) :
    OpR X (binaryOp op) (rDun C sp) := by
  intro pins s σ H x y v u Q I rx ry h
  obtain ⟨a, dx, fs, b, dy, gs, rfl, rfl, ha, hb', q⟩ := h
  cases rx
  cases ry
  obtain ⟨mA, J, _⟩ := ins_get I.hok ha
  obtain ⟨mB, J', _⟩ := ins_get I.hok hb'
  obtain ⟨od, J, _⟩ := J.look
  obtain ⟨od', J', _⟩ := J'.look
  obtain ⟨m, hF⟩ := I.fr
  refine PySem.W.binop_K hF I.ok.mod.kin J J'.type hc hs hf (wpAny_mono (run_below (us := [.ref a, .ref b]) (vs := [.ref a, .ref b]) F hr I.env0 hb I (.cons rfl (.cons rfl .nil)) q) (fun w s' z => ?_) fun _ _ x => x)
  obtain ⟨z', H', I', rz, qz⟩ := z
  exact SlX.cmpback rz ⟨z', H', I', rz, qz⟩
theorem op_eqO {C fa : Addr} {fd : FuncData} {ps : List Str} {sp : Sp} (hs : PySem.W.findIn X.K (.ref C) "__eq__" = some (some (.ref fa))) (hf : PySem.W.isFn X.K (.ref fa) = true) (F : FnOk X.prog X.w X.K X.mg X.base CX0 k fa fd ps sp) (hb : Binds X.K fd ps []) (hr : Room k X.A) :
    OpR X (compareOp .Eq) (rDun C sp) := by
  intro pins s σ H x y v u Q I rx ry h
  obtain ⟨a, dx, fs, b, dy, gs, rfl, rfl, ha, hb', q⟩ := h
  cases rx
  cases ry
  obtain ⟨mA, J, _⟩ := ins_get I.hok ha
  obtain ⟨mB, J', _⟩ := ins_get I.hok hb'
  obtain ⟨od, J, _⟩ := J.look
  obtain ⟨od', J', _⟩ := J'.look
  obtain ⟨m, hF⟩ := I.fr
  show wpAny _ _ (richCompare .Eq _ _) _ _ _
  refine PySem.W.cmp_K (op := .Eq) (tb := .ref C) hr.units0 hF I.ok.mod.kin J J'.type (by simp [PySem.W.notFirst]) hs hf (wpAny_mono (run_below (us := [.ref a, .ref b]) (vs := [.ref a, .ref b]) F hr I.env0 hb I (.cons rfl (.cons rfl .nil)) q) (fun w s' z => ?_) fun _ _ x => x)
  obtain ⟨z', H', I', rz, qz⟩ := z
  exact SlX.cmpback rz ⟨z', H', I', rz, qz⟩
def fDun (c : Nat) (f : List U → Option U) (x y : U) : Option U := gd (isC c x) (gd (isC c y) (f [x, y]))
theorem om_dun : OpM cl (fDun c f) (rDun (cl.k c) (spF cl 2 f)) := fun F H ua ub u x y Q s e rx ry k => by
  obtain ⟨h1, e⟩ := gd_some e
  obtain ⟨h2, e⟩ := gd_some e
  obtain ⟨a, dx, fs, us, rfl, rfl, ha, _, _, r1⟩ := isC_rv h1 rx
  obtain ⟨b, dy, gs, ws, rfl, rfl, hb, _, _, r2⟩ := isC_rv h2 ry
  refine ⟨a, dx, fs, b, dy, gs, rfl, rfl, s _ _ ha, s _ _ hb, rfl, F, _, u, s, ?_, e, fun F2 H2 v s2 rv => k F2 H2 v s2 (Rv.of rv)⟩
  simp only [RpL]
  exact ⟨r1, r2, trivial⟩
theorem j_bin {op : Operator} {a b : Expr} {ma mb : M} {pos : Pos} (q : Dnd X.prog X.w X.K X.mg X.base cl k c (PySem.dunder op.info.2) 2 f) (hr : Room j X.A) (hk : k ≤ j) (ha : PE X a (tM cl ma)) (hb : PE X b (tM cl mb)) : PE X (.BinOp a op b pos) (tM cl (e2 (fDun c f) ma mb)) := by
  obtain ⟨fa, fd, ps, c0, c1, c2, F, bb⟩ := q.ex
  exact j_op (op_bin c0 c1 c2 F bb (hr.mono hk)) om_dun ha hb
theorem j_eqO {a b : Expr} {ma mb : M} {pos : Pos} (q : Dnd X.prog X.w X.K X.mg X.base cl k c "__eq__" 2 f) (hr : Room j X.A) (hk : k ≤ j) (ha : PE X a (tM cl ma)) (hb : PE X b (tM cl mb)) (hm : behindInMarks .Eq b = false) : PE X (.Compare a [.Eq] [b] pos) (tM cl (e2 (fDun c f) ma mb)) := by
  obtain ⟨fa, fd, ps, c0, c1, c2, F, bb⟩ := q.ex
  exact j_cmp (op_eqO c1 c2 F bb (hr.mono hk)) om_dun ha hb hm
theorem jt_eqO {a b : Expr} {ma mb : M} {pos : Pos} (q : Dnd X.prog X.w X.K X.mg X.base cl k c "__eq__" 2 f) (hr : Room j X.A) (hk : k ≤ j) (ha : PE X a (tM cl ma)) (hb : PE X b (tM cl mb)) (hm : behindInMarks .Eq b = false) : PT X (.Compare a [.Eq] [b] pos) (tT cl (tB1 (e2 (fDun c f) ma mb))) := by
  obtain ⟨fa, fd, ps, c0, c1, c2, F, bb⟩ := q.ex
  exact jt_cmp (op_eqO c1 c2 F bb (hr.mono hk)) om_dun ha hb hm
/-- len(x) -/
def rLenO (C : Addr) (sp : Sp) : List V → Hp → VK → Prop := fun xs H Q => ∃ a dx fs, xs = [.ref a] ∧ H a = some (.ins C dx fs) ∧ sp [.ref a] H (fun z H' => ∃ n : Nat, z = .int n ∧ n < 2 ^ 62 ∧ Q (.int n) H') E0
theorem cr_lenO {C fa : Addr} {fd : FuncData} {ps : List Str} {sp : Sp} (hs : PySem.W.findIn X.K (.ref C) "__len__" = some (some (.ref fa))) (hf : PySem.W.isFn X.K (.ref fa) = true) (F : FnOk X.prog X.w X.K X.mg X.base CX0 k fa fd ps sp) (hb : Binds X.K fd ps []) (hr : Room (k + 1) X.A) :
    CallR X (.builtin "len") (rLenO C sp) := by
  intro pins s σ H xs us Q I r h
  obtain ⟨a, dx, fs, rfl, ha, q⟩ := h
  obtain ⟨u, rfl, ru⟩ := vals1 r
  cases ru
  obtain ⟨mA, J, _⟩ := ins_get I.hok ha
  obtain ⟨od, J, _⟩ := J.look
  obtain ⟨m, hF⟩ := I.fr
  refine PySem.W.len_K hF I.ok.mod.kin J hs hf (wpAny_mono (run_below (A := X.A.in1) (us := [.ref a]) (vs := [.ref a]) F hr.in1 I.env0.in1 hb I (.cons rfl .nil) q) (fun w s' z => ?_) fun _ _ x => x)
  obtain ⟨z', H', I', rz, n, rfl, hn, qz⟩ := z
  obtain ⟨t, rfl⟩ := rz
  exact ⟨⟨by omega, by omega⟩, .int n, H', I'.tok _, ⟨_, rfl⟩, qz⟩
def fLenO (c : Nat) (f : List U → Option U) : List U → Option U := fA1 fun x => gd (isC c x) (ob (f [x]) fun r => ob (asN r) fun n => gd (Nat.ble n 1000000000) (some (.int (Int.ofNat n))))
theorem cm_lenO : CaM cl (fLenO c f) (rLenO (cl.k c) (spF cl 1 f)) := fun F H us u xs Q s e r k => by
  obtain ⟨w, v, rfl, rfl, e, rv⟩ := fA1_some e r
  obtain ⟨h1, e⟩ := gd_some e
  obtain ⟨z, ez, e⟩ := ob_some e
  obtain ⟨n, en, e⟩ := ob_some e
  obtain ⟨hb, e⟩ := gd_some e
  cases e
  obtain ⟨a, dx, fs, us, rfl, rfl, ha, _, _, r1⟩ := isC_rv h1 rv
  have hb := Nat.le_of_ble_eq_true hb
  refine ⟨a, dx, fs, rfl, s _ _ ha, rfl, F, _, z, s, ?_, ez, fun F2 H2 v s2 rv => ⟨n, asN_rv en (Rv.of (H := H2) rv), by omega, k F2 H2 _ s2 (rv_int _)⟩⟩
  simp only [RpL]
  exact ⟨r1, trivial⟩
theorem len_cr (q : Dnd X.prog X.w X.K X.mg X.base cl k c "__len__" 1 f) (hr : Room j X.A) (hk : k + 1 ≤ j) : CallR X (.builtin "len") (rLenO (cl.k c) (spF cl 1 f)) := by
  obtain ⟨fa, fd, ps, c0, c1, c2, F, bb⟩ := q.ex
  exact cr_lenO c1 c2 F bb (hr.mono hk)
end
end Ct
end
end
section
set_option Elab.async false
set_option linter.all false
set_option maxRecDepth 100000
set_option maxHeartbeats 4000000
noncomputable section
namespace Ct
open PySem PySem.Spec PyProof.Rows L2
/-! ### short forms -/
/-- the names of the module: what is built in, what is a number -/
structure Gs (K : PySem.W.Frag) (mg : Str → Option Value) (cl : Cl) : Prop where
  len : mg "len" = none
  range : mg "range" = none
  list : mg "list" = none
  tuple : mg "tuple" = none
  sorted : mg "sorted" = none
  zip : mg "zip" = none
  enum : mg "enumerate" = none
  sum : mg "sum" = none
  abs : mg "abs" = none
  max : mg "max" = none
  any : mg "any" = none
  int : mg "int" = none
  bool : mg "bool" = none
  isi : mg "isinstance" = none
  most : ∃ t, mg "MOST" = some (.int 5000 t)
  mostO : ∃ t, mg "MOST_ORDER" = some (.int 60 t)
  mostP : ∃ t, mg "MOST_POINTS" = some (.int 12 t)
  perm : mg "Permutation" = some (.ref (cl.k 0))
  cyc : mg "Cyclo" = some (.ref (cl.k 2))
  lcm : mg "lcm" = some (.builtin "math.lcm")
  insP : C8.InsC K (cl.k 0)
  insC : C8.InsC K (cl.k 2)
  cls : ∀ c, c < 4 → Cls K (cl.k c)
  noat : ∀ c f, f ∈ fnames c → NoAttr K (cl.k c) f
theorem Gs.cong {K : PySem.W.Frag} {mg : Str → Option Value} {cl cl' : Cl} (g : Gs K mg cl) (h : cl.k = cl'.k) : Gs K mg cl' := by
  obtain ⟨a1, a2, a3, a4, a5, a6, a7, a8, a9, b1, b2, b3, b4, b5, b6, b7, b8, b9, c1, c2, c3, c4, c5, c6⟩ := g
  rw [h] at b9 c1 c3 c4 c5 c6
  exact ⟨a1, a2, a3, a4, a5, a6, a7, a8, a9, b1, b2, b3, b4, b5, b6, b7, b8, b9, c1, c2, c3, c4, c5, c6⟩
section
variable {X : Cx} {cl : Cl} {a b c e : Expr} {pos p : Pos} {m m1 m2 m3 : M} {ms : MA} {mt : MT} {es : List Expr}
theorem xv (i : Nat) {x : Str} (hN : X.N[i]? = some x := by rfl) (hv : Vis X.env.scope x := by first | exact Or.inl rfl | exact Or.inr (Or.inl rfl) | exact Or.inr (Or.inr rfl)) (hd : (x == ("__debug__" : Str)) = false := by decide)
    (hcd : (x == ("__classdict__" : Str)) = false := by decide) : PE X (.Name x p) (tM cl (eV i)) := j_var (pe_var hN hv hd hcd)
/-- a module's number -/
theorem xg {x : Str} {i : Int} (h : ∃ t, X.mg x = some (.int i t)) (hg : Gl X x := by rfl) (hdb : (x == ("__debug__" : Str)) = false := by decide) : PE X (.Name x p) (tM cl (eC (.int i))) := by
  obtain ⟨t, h⟩ := h
  refine j_c (v := .int i) _ ⟨fun pins s σ H Q I q => ?_⟩ fun _ => by simp only [Rp]
  exact ld_glob I hg h ⟨.int i, H, I, ⟨t, rfl⟩, q⟩ hdb
theorem xadd (ha : PE X a (tM cl m1)) (hb : PE X b (tM cl m2)) : PE X (.BinOp a .Add b pos) (tM cl (e2 fAdd m1 m2)) := j_op op_add om_add ha hb
theorem xsub (ha : PE X a (tM cl m1)) (hb : PE X b (tM cl m2)) : PE X (.BinOp a .Sub b pos) (tM cl (e2 fSub m1 m2)) := j_op op_sub om_sub ha hb
theorem xmul (ha : PE X a (tM cl m1)) (hb : PE X b (tM cl m2)) : PE X (.BinOp a .Mult b pos) (tM cl (e2 fMul m1 m2)) := j_op op_mul om_mul ha hb
theorem xdiv (ha : PE X a (tM cl m1)) (hb : PE X b (tM cl m2)) : PE X (.BinOp a .FloorDiv b pos) (tM cl (e2 fDiv m1 m2)) := j_op op_fdiv om_div ha hb
theorem xmod (ha : PE X a (tM cl m1)) (hb : PE X b (tM cl m2)) : PE X (.BinOp a .Mod b pos) (tM cl (e2 fMod m1 m2)) := j_op op_mod om_mod ha hb
theorem xneg (ha : PE X a (tM cl m1)) : PE X (.UnaryOp .USub a pos) (tM cl (e1 fNeg m1)) := j_un un_neg um_neg ha
theorem xlt (ha : PE X a (tM cl m1)) (hb : PE X b (tM cl m2)) : PE X (.Compare a [.Lt] [b] pos) (tM cl (e2 fLt m1 m2)) := j_cmp op_lt om_lt ha hb (nomark _)
theorem xle (ha : PE X a (tM cl m1)) (hb : PE X b (tM cl m2)) : PE X (.Compare a [.LtE] [b] pos) (tM cl (e2 fLe m1 m2)) := j_cmp op_le om_le ha hb (nomark _)
theorem xgt (ha : PE X a (tM cl m1)) (hb : PE X b (tM cl m2)) : PE X (.Compare a [.Gt] [b] pos) (tM cl (e2 fGt m1 m2)) := j_cmp op_gt om_gt ha hb (nomark _)
theorem xge (ha : PE X a (tM cl m1)) (hb : PE X b (tM cl m2)) : PE X (.Compare a [.GtE] [b] pos) (tM cl (e2 fGe m1 m2)) := j_cmp op_ge om_ge ha hb (nomark _)
theorem xeq (ha : PE X a (tM cl m1)) (hb : PE X b (tM cl m2)) : PE X (.Compare a [.Eq] [b] pos) (tM cl (e2 fEq m1 m2)) := j_cmp op_eq om_eq ha hb (nomark _)
theorem xne (ha : PE X a (tM cl m1)) (hb : PE X b (tM cl m2)) : PE X (.Compare a [.NotEq] [b] pos) (tM cl (e2 fNe m1 m2)) := j_cmp op_ne om_ne ha hb (nomark _)
theorem xisN (ha : PE X a (tM cl m1)) (hb : PE X b (tM cl m2)) : PE X (.Compare a [.Is] [b] pos) (tM cl (e2 fIsN m1 m2)) := j_cmp op_isN om_isN ha hb (nomark _)
theorem xnotN (ha : PE X a (tM cl m1)) (hb : PE X b (tM cl m2)) : PE X (.Compare a [.IsNot] [b] pos) (tM cl (e2 fNotN m1 m2)) := j_cmp op_notN om_notN ha hb (nomark _)
theorem xin (ha : PE X a (tM cl m1)) (hb : PE X b (tM cl m2)) (hm : behindInMarks .In b = false := by with_unfolding_all rfl) : PE X (.Compare a [.In] [b] pos) (tM cl (e2 fIn m1 m2)) := j_cmp op_in_seq om_in ha hb hm
theorem xnotin (ha : PE X a (tM cl m1)) (hb : PE X b (tM cl m2)) (hm : behindInMarks .NotIn b = false := by with_unfolding_all rfl) : PE X (.Compare a [.NotIn] [b] pos) (tM cl (e2 fNotIn m1 m2)) := j_cmp op_notIn_seq om_notIn ha hb hm
/-- data compared -/
theorem xeqD {j : Nat} (s : Sch) (hr : Room j X.A) (ha : PE X a (tM cl m1)) (hb : PE X b (tM cl m2)) (hs : s.dep ≤ 64 := by decide) : PE X (.Compare a [.Eq] [b] pos) (tM cl (e2 (fEqD s) m1 m2)) := j_cmp (op_eqD hr.units) (om_eqD hs) ha hb (nomark _)
theorem xneD {j : Nat} (s : Sch) (hr : Room j X.A) (ha : PE X a (tM cl m1)) (hb : PE X b (tM cl m2)) (hs : s.dep ≤ 64 := by decide) : PE X (.Compare a [.NotEq] [b] pos) (tM cl (e2 (fNeD s) m1 m2)) := j_cmp (op_neD hr.units) (om_neD hs) ha hb (nomark _)
theorem xnotinD {j : Nat} (s : Sch) (hr : Room (j + 1) X.A) (ha : PE X a (tM cl m1)) (hb : PE X b (tM cl m2)) (hs : s.dep ≤ 63 := by decide) (hm : behindInMarks .NotIn b = false := by with_unfolding_all rfl) : PE X (.Compare a [.NotIn] [b] pos) (tM cl (e2 (fNotInD s) m1 m2)) :=
  j_cmp (op_notInD (by have := hr.in1.units; exact this)) (om_notInD hs) ha hb hm
/-- a test that is a comparison, a call, a name .. -/
theorem tt (h : PE X e (tM cl m)) (he : ∀ whole, isTrue e X.env whole = (do let v ← whole; standAt e.pos; holding [v] (truthy v)) := by intro _; rfl) : PT X e (tT cl (tB1 m)) := jt_val h he
theorem tlt (ha : PE X a (tM cl m1)) (hb : PE X b (tM cl m2)) : PT X (.Compare a [.Lt] [b] pos) (tT cl (tB1 (e2 fLt m1 m2))) := jt_cmp op_lt om_lt ha hb (nomark _)
theorem tle (ha : PE X a (tM cl m1)) (hb : PE X b (tM cl m2)) : PT X (.Compare a [.LtE] [b] pos) (tT cl (tB1 (e2 fLe m1 m2))) := jt_cmp op_le om_le ha hb (nomark _)
theorem tgt (ha : PE X a (tM cl m1)) (hb : PE X b (tM cl m2)) : PT X (.Compare a [.Gt] [b] pos) (tT cl (tB1 (e2 fGt m1 m2))) := jt_cmp op_gt om_gt ha hb (nomark _)
theorem tge (ha : PE X a (tM cl m1)) (hb : PE X b (tM cl m2)) : PT X (.Compare a [.GtE] [b] pos) (tT cl (tB1 (e2 fGe m1 m2))) := jt_cmp op_ge om_ge ha hb (nomark _)
theorem teq (ha : PE X a (tM cl m1)) (hb : PE X b (tM cl m2)) : PT X (.Compare a [.Eq] [b] pos) (tT cl (tB1 (e2 fEq m1 m2))) := jt_cmp op_eq om_eq ha hb (nomark _)
theorem tne (ha : PE X a (tM cl m1)) (hb : PE X b (tM cl m2)) : PT X (.Compare a [.NotEq] [b] pos) (tT cl (tB1 (e2 fNe m1 m2))) := jt_cmp op_ne om_ne ha hb (nomark _)
theorem tisN (ha : PE X a (tM cl m1)) (hb : PE X b (tM cl m2)) : PT X (.Compare a [.Is] [b] pos) (tT cl (tB1 (e2 fIsN m1 m2))) := jt_cmp op_isN om_isN ha hb (nomark _)
theorem tnotN (ha : PE X a (tM cl m1)) (hb : PE X b (tM cl m2)) : PT X (.Compare a [.IsNot] [b] pos) (tT cl (tB1 (e2 fNotN m1 m2))) := jt_cmp op_notN om_notN ha hb (nomark _)
theorem tin (ha : PE X a (tM cl m1)) (hb : PE X b (tM cl m2)) (hm : behindInMarks .In b = false := by with_unfolding_all rfl) : PT X (.Compare a [.In] [b] pos) (tT cl (tB1 (e2 fIn m1 m2))) := jt_cmp op_in_seq om_in ha hb hm
theorem tnotin (ha : PE X a (tM cl m1)) (hb : PE X b (tM cl m2)) (hm : behindInMarks .NotIn b = false := by with_unfolding_all rfl) : PT X (.Compare a [.NotIn] [b] pos) (tT cl (tB1 (e2 fNotIn m1 m2))) := jt_cmp op_notIn_seq om_notIn ha hb hm
theorem teqD {j : Nat} (s : Sch) (hr : Room j X.A) (ha : PE X a (tM cl m1)) (hb : PE X b (tM cl m2)) (hs : s.dep ≤ 64 := by decide) : PT X (.Compare a [.Eq] [b] pos) (tT cl (tB1 (e2 (fEqD s) m1 m2))) := jt_cmp (op_eqD hr.units) (om_eqD hs) ha hb (nomark _)
theorem tneD {j : Nat} (s : Sch) (hr : Room j X.A) (ha : PE X a (tM cl m1)) (hb : PE X b (tM cl m2)) (hs : s.dep ≤ 64 := by decide) : PT X (.Compare a [.NotEq] [b] pos) (tT cl (tB1 (e2 (fNeD s) m1 m2))) := jt_cmp (op_neD hr.units) (om_neD hs) ha hb (nomark _)
theorem tnotinD {j : Nat} (s : Sch) (hr : Room (j + 1) X.A) (ha : PE X a (tM cl m1)) (hb : PE X b (tM cl m2)) (hs : s.dep ≤ 63 := by decide) (hm : behindInMarks .NotIn b = false := by with_unfolding_all rfl) : PT X (.Compare a [.NotIn] [b] pos) (tT cl (tB1 (e2 (fNotInD s) m1 m2))) :=
  jt_cmp (op_notInD (by have := hr.in1.units; exact this)) (om_notInD hs) ha hb hm
/-- built-in calls -/
theorem xlen (hm : X.mg "len" = none) (h : PE X e (tM cl m)) (hg : Gl X "len" := by rfl) (h1 : starEach [e] X.env = (false, eval e X.env) :: starEach [] X.env := by rfl) : PE X (.Call (.Name "len" p) [e] [] pos) (tM cl (eCa fLen (aC m aN))) :=
  j_callB call_len_seq cm_len hg hm boot_len (ja_cons h ja_nil h1) (he := h1) (hpl := rfl)
theorem xabs (hm : X.mg "abs" = none) (h : PE X e (tM cl m)) (hg : Gl X "abs" := by rfl) (h1 : starEach [e] X.env = (false, eval e X.env) :: starEach [] X.env := by rfl) : PE X (.Call (.Name "abs" p) [e] [] pos) (tM cl (eCa fAbs (aC m aN))) :=
  j_callB call_abs cm_abs hg hm PyProof.Rows.boot_abs (ja_cons h ja_nil h1) (he := h1) (hpl := rfl)
theorem xsum (hm : X.mg "sum" = none) (hc : X.calm = true) (h : PE X e (tM cl m)) (hg : Gl X "sum" := by rfl) (h1 : starEach [e] X.env = (false, eval e X.env) :: starEach [] X.env := by rfl) : PE X (.Call (.Name "sum" p) [e] [] pos) (tM cl (eCa fSum (aC m aN))) :=
  j_callB (cr_sum hc) cm_sum hg hm boot_sum (ja_cons h ja_nil h1) (he := h1) (hpl := rfl)
theorem xany (hm : X.mg "any" = none) (hc : X.calm = true) (h : PE X e (tM cl m)) (hg : Gl X "any" := by rfl) (h1 : starEach [e] X.env = (false, eval e X.env) :: starEach [] X.env := by rfl) : PE X (.Call (.Name "any" p) [e] [] pos) (tM cl (eCa fAny (aC m aN))) :=
  j_callB (cr_any hc) cm_any hg hm boot_any (ja_cons h ja_nil h1) (he := h1) (hpl := rfl)
theorem xint (hm : X.mg "int" = none) (h : PE X e (tM cl m)) (hg : Gl X "int" := by rfl) (h1 : starEach [e] X.env = (false, eval e X.env) :: starEach [] X.env := by rfl) : PE X (.Call (.Name "int" p) [e] [] pos) (tM cl (eCa fInt (aC m aN))) :=
  j_callTy call_int1 cm_int hg hm PyProof.Rows.boot_int (ja_cons h ja_nil h1) (he := h1) (hpl := rfl)
theorem xmax (hm : X.mg "max" = none) (hc : X.calm = true) (ha : PE X a (tM cl m1)) (hb : PE X b (tM cl m2)) (hg : Gl X "max" := by rfl) (h1 : starEach [a, b] X.env = (false, eval a X.env) :: starEach [b] X.env := by rfl) (h2 : starEach [b] X.env = (false, eval b X.env) :: starEach [] X.env := by rfl)
    (hpl : (backTo pos (starEach [b] X.env)).any (·.1) = false := by rfl) : PE X (.Call (.Name "max" p) [a, b] [] pos) (tM cl (eCa fMax (aC m1 (aC m2 aN)))) :=
  j_callB (call_max2 hc) cm_max hg hm PyProof.Rows.boot_max (ja_cons ha (ja_cons hb ja_nil h2) h1) (he := h1) (hpl := hpl)
theorem xtup (hm : X.mg "tuple" = none) (h : PE X e (tM cl m)) (hg : Gl X "tuple" := by rfl) (h1 : starEach [e] X.env = (false, eval e X.env) :: starEach [] X.env := by rfl) : PE X (.Call (.Name "tuple" p) [e] [] pos) (tM cl (eCa fTuple (aC m aN))) :=
  j_callTy call_tuple_of cm_tuple hg hm PyProof.Rows.boot_tuple (ja_cons h ja_nil h1) (he := h1) (hpl := rfl)
theorem xlist (hm : X.mg "list" = none) (h : PE X e (tM cl m)) (hg : Gl X "list" := by rfl) (h1 : starEach [e] X.env = (false, eval e X.env) :: starEach [] X.env := by rfl) : PE X (.Call (.Name "list" p) [e] [] pos) (tL cl (lCa fList (aC m aN))) :=
  jl_callTy call_list_of cl_list hg hm PyProof.Rows.boot_list (ja_cons h ja_nil h1) (he := h1) (hpl := rfl)
theorem xsort {j : Nat} (s : Sch) (hm : X.mg "sorted" = none) (hc : X.calm = true) (hr : Room j X.A) (h : PE X e (tM cl m)) (hd : s.dep ≤ 60 := by decide) (hg : Gl X "sorted" := by rfl) (h1 : starEach [e] X.env = (false, eval e X.env) :: starEach [] X.env := by rfl) :
    PE X (.Call (.Name "sorted" p) [e] [] pos) (tL cl (lCa (fSort s) (aC m aN))) := jl_callB (cr_srt hc hr.units) (cl_sort hd) hg hm PyProof.Rows.boot_sorted (ja_cons h ja_nil h1) (he := h1) (hpl := rfl)
theorem xlcm (hm : X.mg "lcm" = some (.builtin "math.lcm")) (ha : PE X a (tM cl m1)) (hb : PE X b (tM cl m2)) (hg : Gl X "lcm" := by rfl) (h1 : starEach [a, b] X.env = (false, eval a X.env) :: starEach [b] X.env := by rfl) (h2 : starEach [b] X.env = (false, eval b X.env) :: starEach [] X.env := by rfl)
    (hpl : (backTo pos (starEach [b] X.env)).any (·.1) = false := by rfl) : PE X (.Call (.Name "lcm" p) [a, b] [] pos) (tM cl (eCa fLcm (aC m1 (aC m2 aN)))) :=
  j_callBf cr_lcm cm_lcm hg hm (ja_cons ha (ja_cons hb ja_nil h2) h1) (he := h1) (hpl := hpl)
theorem xlenO {k j c : Nat} {f : List U → Option U} (q : Dnd X.prog X.w X.K X.mg X.base cl k c "__len__" 1 f) (hr : Room j X.A) (hk : k + 1 ≤ j) (hm : X.mg "len" = none) (h : PE X e (tM cl m)) (hg : Gl X "len" := by rfl) (h1 : starEach [e] X.env = (false, eval e X.env) :: starEach [] X.env := by rfl) :
    PE X (.Call (.Name "len" p) [e] [] pos) (tM cl (eCa (fLenO c f) (aC m aN))) := j_callB (len_cr q hr hk) cm_lenO hg hm boot_len (ja_cons h ja_nil h1) (he := h1) (hpl := rfl)
/-- lists -/
theorem xcat (ha : PE X a (tM cl m1)) (hb : PE X b (tM cl m2)) : PE X (.BinOp a .Add b pos) (tL cl (l2 fCat m1 m2)) := jl_op op_cat ol_cat ha hb
theorem xrep (ha : PE X a (tM cl m1)) (hb : PE X b (tM cl m2)) : PE X (.BinOp a .Mult b pos) (tL cl (l2 fRep m1 m2)) := jl_op op_rep ol_rep ha hb
theorem xcatT (ha : PE X a (tM cl m1)) (hb : PE X b (tM cl m2)) : PE X (.BinOp a .Add b pos) (tM cl (e2 fCatT m1 m2)) := j_op op_catA om_catT ha hb
end
section
variable {X : Cx} {cl : Cl} {e ei : Expr} {pos p ap cp p2 p3 : Pos} {m mi : M} {ms : MA} {x : Str}
/-- statements -/
theorem yset (i : Nat) (hN : X.N.Nodup) (he : PE X e (tM cl m)) (hi : X.N[i]? = some x := by rfl) (hx : Loc X.env.scope x := by first | exact Or.inl rfl | exact Or.inr rfl) (hs : swapsWith e (some (.Name x p)) pos.line X.env = pure false := by rfl)
    (hf : X.fn x = true ∨ X.env.scope.names.lookup x = some .local := by first | exact .inl rfl | exact .inr rfl) : PS X (.Assign [.Name x p] e pos) (tS cl (sSet i m)) := js_set (fun _ h => ps_set hN hi hx h hs hf) he
theorem yown (i : Nat) (hN : X.N.Nodup) (he : PE X e (tL cl ms)) (hi : X.N[i]? = some x := by rfl) (hx : Loc X.env.scope x := by first | exact Or.inl rfl | exact Or.inr rfl) (hs : swapsWith e (some (.Name x p)) pos.line X.env = pure false := by rfl)
    (hf : X.fn x = true ∨ X.env.scope.names.lookup x = some .local := by first | exact .inl rfl | exact .inr rfl) : PS X (.Assign [.Name x p] e pos) (tS cl (sOwn i ms)) := js_own (fun _ h => ps_set hN hi hx h hs hf) he
theorem yownD (i : Nat) (hN : X.N.Nodup) (he : PE X e (tDN cl m)) (hi : X.N[i]? = some x := by rfl) (hx : Loc X.env.scope x := by first | exact Or.inl rfl | exact Or.inr rfl) (hs : swapsWith e (some (.Name x p)) pos.line X.env = pure false := by rfl)
    (hf : X.fn x = true ∨ X.env.scope.names.lookup x = some .local := by first | exact .inl rfl | exact .inr rfl) : PS X (.Assign [.Name x p] e pos) (tS cl (sOwnD i m)) := js_ownD (fun _ h => ps_set hN hi hx h hs hf) he
theorem yapp (i : Nat) (he : PE X e (tM cl m)) (hv : PE X (.Name x p2) (tVar i)) (hbase : attributeBase (.Name x p2) "append" X.env (eval (.Name x p2) X.env) = eval (.Name x p2) X.env := by rfl)
    (hfew : ((backTo cp (starEach [e] X.env)).all (fun x => !x.1) && (backToKw cp (keywordEach [] X.env)).all (fun x => x.1.isSome) && decide ([e].length + ([] : List Keyword).length + (if ([] : List Keyword).isEmpty then 0 else 1) < 30)) = true := by rfl)
    (hline : (ap.endLine == cp.line) = true := by rfl) (hs : starEach [e] X.env = (false, eval e X.env) :: starEach [] X.env := by rfl) (hpl : (backTo cp (starEach [] X.env)).any (·.1) = false := by rfl) (hw : swapsWith (.Call (.Attribute (.Name x p2) "append" ap) [e] [] cp) none pos.line X.env = pure false := by rfl) :
    PS X (.Expr (.Call (.Attribute (.Name x p2) "append" ap) [e] [] cp) pos) (tS cl (sApp i m)) :=
  js_app (fun _ h => ps_expr (pe_bm F.plainAttrs_list F.slot_list_append F.type_list_append mt_append hv (pa_cons h pa_nil hs) hbase hfew hline hs hpl) hw) he
theorem yput (i : Nat) (hi : PE X ei (tM cl mi)) (he : PE X e (tM cl m)) (hN : X.N[i]? = some x := by rfl) (hv : Vis X.env.scope x := by first | exact Or.inl rfl | exact Or.inr (Or.inl rfl) | exact Or.inr (Or.inr rfl)) (hd : (x == ("__debug__" : Str)) = false := by decide) (hcd : (x == ("__classdict__" : Str)) = false := by decide)
    (ha : ∀ v, assign (.Subscript (.Name x p) ei p2) X.env v = (do
      let ov ← holding [v] (eval (.Name x p) X.env)
      let iv ← holding [v, ov] (eval ei X.env)
      standAt p2
      holding [v, ov, iv] (setItem ov iv v)
      release [v, ov, iv] []) := by intro _; rfl)
    (hs : swapsWithSole [.Subscript (.Name x p) ei p2] e pos.line X.env = pure false := by rfl) (hw : swappedStores [.Subscript (.Name x p) ei p2] e X.env = pure none := by rfl) (h1 : (assignEach [.Subscript (.Name x p) ei p2] X.env).map (·.2) = [assign (.Subscript (.Name x p) ei p2) X.env] := by rfl) :
    PS X (.Assign [.Subscript (.Name x p) ei p2] e pos) (tS cl (sPut i mi m)) := js_put (fun _ _ a b => ps_asg b (pg_sub (pe_var hN hv hd hcd) a set_list ha) hs hw h1) hi he
theorem yext (i : Nat) (he : PE X e (tL cl ms)) (hv : PE X (.Name x p2) (tVar i)) (hbase : attributeBase (.Name x p2) "extend" X.env (eval (.Name x p2) X.env) = eval (.Name x p2) X.env := by rfl)
    (hfew : ((backTo cp (starEach [e] X.env)).all (fun x => !x.1) && (backToKw cp (keywordEach [] X.env)).all (fun x => x.1.isSome) && decide ([e].length + ([] : List Keyword).length + (if ([] : List Keyword).isEmpty then 0 else 1) < 30)) = true := by rfl)
    (hline : (ap.endLine == cp.line) = true := by rfl) (hs : starEach [e] X.env = (false, eval e X.env) :: starEach [] X.env := by rfl) (hpl : (backTo cp (starEach [] X.env)).any (·.1) = false := by rfl) (hw : swapsWith (.Call (.Attribute (.Name x p2) "extend" ap) [e] [] cp) none pos.line X.env = pure false := by rfl) :
    PS X (.Expr (.Call (.Attribute (.Name x p2) "extend" ap) [e] [] cp) pos) (tS cl (sExt i ms)) :=
  js_ext (fun _ h => ps_expr (pe_bm F.plainAttrs_list F.slot_list_extend F.type_list_extend mt_extend hv (pa_cons h pa_nil hs) hbase hfew hline hs hpl) hw) he
theorem yaug (i : Nat) (hN : X.N.Nodup) (he : PE X e (tM cl m)) (hi : X.N[i]? = some x := by rfl) (hx : Loc X.env.scope x := by first | exact Or.inl rfl | exact Or.inr rfl) (hf : X.fn x = true ∨ X.env.scope.names.lookup x = some .local := by first | exact .inl rfl | exact .inr rfl) :
    PS X (.AugAssign (.Name x p) .Add e pos) (tS cl (sAug i m)) := js_aug (fun _ h => ps_aug hN hi hx h ip_add hf) he
theorem yunp {t1 t2 : Expr} {k : Nat} (i j : Nat) (he : PE X e (tM cl m)) (hg : PG X (.Tuple [t1, t2] k p) (tG cl (.two i j))) (hs : swapsWithSole [.Tuple [t1, t2] k p] e pos.line X.env = pure false := by rfl) (hw : swappedStores [.Tuple [t1, t2] k p] e X.env = pure none := by rfl)
    (h1 : (assignEach [.Tuple [t1, t2] k p] X.env).map (·.2) = [assign (.Tuple [t1, t2] k p) X.env] := by rfl) : PS X (.Assign [.Tuple [t1, t2] k p] e pos) (tS cl (sUnp i j m)) := js_unp (fun _ _ a b => ps_asg a b hs hw h1) he hg
theorem g1 (i : Nat) (hN : X.N.Nodup) (hi : X.N[i]? = some x := by rfl) (hx : Loc X.env.scope x := by first | exact Or.inl rfl | exact Or.inr rfl) (hf : X.fn x = true ∨ X.env.scope.names.lookup x = some .local := by first | exact .inl rfl | exact .inr rfl) : PG X (.Name x p) (tG cl (.one i)) := jg_one (pg_name hN hi hx hf)
theorem g2 {y : Str} {k : Nat} (i j : Nat) (hN : X.N.Nodup) (hc : X.calm = true) (hi : X.N[i]? = some x := by rfl) (hx : Loc X.env.scope x := by first | exact Or.inl rfl | exact Or.inr rfl) (hf : X.fn x = true ∨ X.env.scope.names.lookup x = some .local := by first | exact .inl rfl | exact .inr rfl)
    (hj : X.N[j]? = some y := by rfl) (hy : Loc X.env.scope y := by first | exact Or.inl rfl | exact Or.inr rfl) (hf2 : X.fn y = true ∨ X.env.scope.names.lookup y = some .local := by first | exact .inl rfl | exact .inr rfl)
    (hn : (assignEach [.Name x p2, .Name y p3] X.env).length = 2 := by rfl) (hst : (assignEach [.Name x p2, .Name y p3] X.env).findIdx? (·.1) = none := by rfl)
    (h1 : (assignEach [.Name x p2, .Name y p3] X.env).map (·.2) = assign (.Name x p2) X.env :: (assignEach [.Name y p3] X.env).map (·.2) := by rfl) (h2 : (assignEach [.Name y p3] X.env).map (·.2) = assign (.Name y p3) X.env :: (assignEach [] X.env).map (·.2) := by rfl) :
    PG X (.Tuple [.Name x p2, .Name y p3] k p) (tG cl (.two i j)) := jg_two (pg_tup hc (pgs_cons (pg_name hN hi hx hf) (pgs_cons (pg_name hN hj hy hf2) pgs_nil h2) h1) hn hst)
theorem yfld (c i : Nat) {f : Str} {cl' : Cl} (g : Gs X.K X.mg cl') (hk : cl'.k = cl.k) (hc : c < 4) (hf : (fnames c)[i]? = some f) (he : PE X e (tM cl m)) (hv : PE X (.Name x p) (tVar 0)) (hs : swapsWith e (some (.Attribute (.Name x p) f p2)) pos.line X.env = pure false := by rfl) :
    PS X (.Assign [.Attribute (.Name x p) f p2] e pos) (tS cl (sFl c i m)) := js_fld (fun _ h => ps_fld hv h hs) (by rw [← hk]; exact g.cls c hc) (by rw [← hk]; exact g.noat c f (List.mem_of_getElem? hf)) hf he
theorem xfld (c i : Nat) {f : Str} (g : Gs X.K X.mg cl) (hc : c < 4) (hf : (fnames c)[i]? = some f) (he : PE X e (tM cl m)) (hb : attributeBase e f X.env (eval e X.env) = eval e X.env := by rfl) : PE X (.Attribute e f pos) (tM cl (e1 (fFld c i) m)) := j_fld (g.cls c hc) (g.noat c f (List.mem_of_getElem? hf)) hf he hb
theorem tdnotin {f : U → U → Option (Option U)} {o i : Expr} {md mk : M} {j : Nat} (hf : LookM cl f) (hr : Room j X.A) (hi : PE X i (tM cl mk)) (ho : PE X o (tM cl md)) (hm : behindInMarks .NotIn o = false := by with_unfolding_all rfl) : PT X (.Compare i [.NotIn] [o] pos) (tT cl (tB1 (eDNotIn f mk md))) :=
  (pt_cmp (pc_dnotin (hu_of hr) hi ho) hm).wk fun σ H Q ⟨F, env, b, er, e, k⟩ => by
    obtain ⟨u, eu, e⟩ := ob_some e
    cases asB_some e
    obtain ⟨y, ey, eu⟩ := ob_some eu
    obtain ⟨d, ed, eu⟩ := ob_some eu
    obtain ⟨o', eo, eu⟩ := ob_some eu
    cases eu
    refine two er ey ed fun F' H' y x s ry rx => ?_
    obtain ⟨a, ov, rfl, g, h⟩ := hf F' H' _ _ _ _ _ s.fh eo rx ry
    refine ⟨a, ov, rfl, g, ?_⟩
    rw [isSm_eq h, ← bnot_eq]
    exact ⟨_, rfl, k F' H' s⟩
theorem xdget {f : U → U → Option (Option U)} {o i : Expr} {md mk : M} {j : Nat} (hf : LookM cl f) (hr : Room j X.A) (ho : PE X o (tM cl md)) (hi : PE X i (tM cl mk)) (hs : NoSl i := by exact fun _ _ => rfl) : PE X (.Subscript o i pos) (tM cl (eDGet f md mk)) := j_dget hf (hu_of hr) ho hi hs
theorem ydput {f : {β : Type} → U → U → U → (U → Option β) → Option β} {j : Nat} (i : Nat) (hf : PutM cl f) (hr : Room j X.A) (ho : PE X (.Name x p) (tVar i)) (hi : PE X ei (tM cl mi)) (he : PE X e (tM cl m)) (hs : swapsWith e (some (.Subscript (.Name x p) ei p2)) pos.line X.env = pure false := by rfl) :
    PS X (.Assign [.Subscript (.Name x p) ei p2] e pos) (tS cl (sDPutM f i mi m)) := js_dput hf (hu_of hr) ho hi he hs
theorem xidx {o : Expr} {mo : M} (ho : PE X o (tM cl mo)) (he : PE X e (tM cl m)) (hbase : attributeBase o "index" X.env (eval o X.env) = eval o X.env := by rfl)
    (hfew : ((backTo cp (starEach [e] X.env)).all (fun x => !x.1) && (backToKw cp (keywordEach [] X.env)).all (fun x => x.1.isSome) && decide ([e].length + ([] : List Keyword).length + (if ([] : List Keyword).isEmpty then 0 else 1) < 30)) = true := by rfl)
    (hline : (ap.endLine == cp.line) = true := by rfl) (hs : starEach [e] X.env = (false, eval e X.env) :: starEach [] X.env := by rfl) (hpl : (backTo cp (starEach [] X.env)).any (·.1) = false := by rfl) : PE X (.Call (.Attribute o "index" ap) [e] [] cp) (tM cl (eIdx mo m)) :=
  j_index (fun _ _ h1 h2 => pe_bm F.plainAttrs_list F.slot_list_index F.type_list_index mt_index h1 h2 hbase hfew hline hs hpl) ho (ja_cons he ja_nil hs)
theorem xty {t : Str} {T : String} (hm : X.mg t = none) (hv : bootBuiltins t = some (.type T)) (hg : Gl X t := by rfl) (hn : t ≠ "__name__" := by decide) (hdb : (t == ("__debug__" : Str)) = false := by decide) : PE X (.Name t p) (tC (.ty T)) :=
  ⟨fun pins s σ H Q I q => ld_blt I hg hm hv ⟨.ty T, H, I, rfl, q⟩ hn hdb⟩
theorem xcl {t : Str} {C : Addr} (hm : X.mg t = some (.ref C)) (hg : Gl X t := by rfl) (hdb : (t == ("__debug__" : Str)) = false := by decide) : PE X (.Name t p) (tC (.ref C)) := ⟨fun pins s σ H Q I q => ld_glob I hg hm ⟨.ref C, H, I, rfl, q⟩ hdb⟩
theorem ylcO {y : Str} {py pos spos : Pos} {elt tg iter : Expr} {ifs : List Expr} {scope : Scope} {w : MA} {t : Tg} {mt : MT} {me : M} (i : Nat) {own : List (Str × Nat)} (hc : X.calm = true) (hN : X.N.Nodup) (hi : PI X tg iter (tW cl w)) (ok : blkC X.N X.env.scope scope own = true)
    (hg : ∀ (s : Shared) (H : Hp) (C : Addr) (cs : List (Str × Addr)) (fp : List Addr), PG (X.blk s H scope (compEnvC scope cs C X.env) fp) tg (tG cl t)) (ht : ∀ (s : Shared) (H : Hp) (C : Addr) (cs : List (Str × Addr)) (fp : List Addr), PTs (X.blk s H scope (compEnvC scope cs C X.env) fp) ifs (tT cl mt))
    (he : ∀ (s : Shared) (H : Hp) (C : Addr) (cs : List (Str × Addr)) (fp : List Addr), PE (X.blk s H scope (compEnvC scope cs C X.env) fp) elt (tM cl me)) (hy : X.N[i]? = some y := by rfl) (hyl : X.env.scope.names.lookup y = some .local := by rfl) (hk : X.env.scope.kind = .function := by rfl) (hl : (py.line == pos.line) = true := by rfl)
    (ha : (scope.names.any fun (n, k) => n == y && (k == .local || k == .cell)) = false := by kernel_rfl) (hs : ∀ x, foldedSetIterable iter X.env x = pure x := by intro _; rfl) (hsl : ∀ i ∈ t.slots, i ∈ own.map (·.2) := by decide) :
    PS X (.Assign [.Name y py] (.ListComp elt [⟨tg, iter, ifs, 0⟩] scope pos) spos) (tS cl (sOwn i (lLc w t mt me (own.map (·.2))))) := js_own' (ps_setLc hc hN hy hyl (sw_true hk hyl hl ha) hi (blkOk_by ok) hg ht he hs) (tLc_of hsl)
theorem ylcF {y : Str} {py pos spos : Pos} {elt tg iter : Expr} {ifs : List Expr} {scope : Scope} {w : MA} {t : Tg} {mt : MT} {me : M} (i : Nat) {own : List (Str × Nat)} (hc : X.calm = true) (hN : X.N.Nodup) (hi : PI X tg iter (tW cl w)) (ok : blkC X.N X.env.scope scope own = true)
    (hg : ∀ (s : Shared) (H : Hp) (C : Addr) (cs : List (Str × Addr)) (fp : List Addr), PG (X.blk s H scope (compEnvC scope cs C X.env) fp) tg (tG cl t)) (ht : ∀ (s : Shared) (H : Hp) (C : Addr) (cs : List (Str × Addr)) (fp : List Addr), PTs (X.blk s H scope (compEnvC scope cs C X.env) fp) ifs (tT cl mt))
    (he : ∀ (s : Shared) (H : Hp) (C : Addr) (cs : List (Str × Addr)) (fp : List Addr), PE (X.blk s H scope (compEnvC scope cs C X.env) fp) elt (tM cl me)) (hy : X.N[i]? = some y := by rfl) (hyl : X.env.scope.names.lookup y = some .local := by rfl) (hk : X.env.scope.kind = .function := by rfl) (hl : (py.line == pos.line) = true := by rfl)
    (ha : (scope.names.any fun (n, k) => n == y && (k == .local || k == .cell)) = false := by kernel_rfl) (hs : ∀ x, foldedSetIterable iter X.env x = pure x := by intro _; rfl) (hsl : ∀ i ∈ t.slots, i ∈ own.map (·.2) := by decide) :
    PS X (.Assign [.Name y py] (.ListComp elt [⟨tg, iter, ifs, 0⟩] scope pos) spos) (tS cl (sSet i (eFz (lLc w t mt me (own.map (·.2)))))) := js_set' (ps_setLc hc hN hy hyl (sw_true hk hyl hl ha) hi (blkOk_by ok) hg ht he hs) (fun σ H Q h => tLc_of hsl σ H Q (tL_fz σ H Q h))
end
end Ct
end
end
section
set_option Elab.async false
set_option linter.all false
set_option maxRecDepth 100000
set_option maxHeartbeats 4000000
noncomputable section
namespace Ct
open PySem PySem.Spec PyProof.Rows L2
section
variable {cl : Cl} {F0 H0 F H F' H' : Hp} {env : List U} {σ : Sig} {X : Cx} {K : PySem.W.Frag} {tg : Expr}
/-! ### a slot's own thing put out of sight for a while -/
theorem SR.forget (s : SR cl F0 H0 F H env σ) (i : Nat) : SR cl F0 H0 F H (lset env i .no) σ := by
  refine ⟨⟨s.er.sb, by rw [lset_eq, List.length_set, s.er.len], fun j w h => ?_⟩, s.stp, fun j w a h m q => ?_, fun j k w z a jk h1 h2 m1 m2 q1 q2 => ?_⟩
  · rcases get_lset h with ⟨rfl, rfl⟩ | ⟨hj, h⟩
    · exact .inl rfl
    · exact s.er.slot j w h
  · rcases get_lset h with ⟨rfl, rfl⟩ | ⟨hj, h⟩
    · cases m
    · exact s.own j w a h m q
  · rcases get_lset h1 with ⟨rfl, rfl⟩ | ⟨hj, h1⟩
    · cases m1
    · rcases get_lset h2 with ⟨rfl, rfl⟩ | ⟨hk, h2⟩
      · cases m2
      · exact s.sep j k w z a jk h1 h2 m1 m2 q1 q2
/-- no slot's own thing is at a -/
def Apart (env : List U) (σ : Sig) (a : Addr) : Prop := ∀ (j : Nat) w, env[j]? = some w → w.mut = true → σ[j]? ≠ some (some (.ref a))
theorem SR.swap (s : SR cl F0 H0 F H env σ) {a : Addr} {o : HO} (nf : F a = none) (n0 : H0 a = none) (ap : Apart env σ a) : SR cl F0 H0 F (upd H a o) env σ := by
  have sb : ∀ {A : Hp}, A a = none → Sb A H → Sb A (upd H a o) := fun {A} n h b x e => by
    rw [upd_ne (ne_of_none e n)]
    exact h b x e
  refine ⟨⟨sb nf s.er.sb, s.er.len, fun j w h => ?_⟩, ⟨s.stp.ff, sb nf s.er.sb, sb n0 s.stp.hh, s.stp.new⟩, s.own, s.sep⟩
  refine (s.er.slot j w h).imp id fun ⟨v, h1, h2⟩ => ⟨v, h1, ?_⟩
  by_cases mx : w.mut = true
  · have nb : ∀ b, v = .ref b → b ≠ a := fun b e z => by
      subst z; subst e
      exact ap j w h mx h1
    cases w <;> first | exact absurd mx Bool.false_ne_true | skip
    · obtain ⟨b, vs, g1, g2, g3⟩ := h2; exact ⟨b, vs, g1, by rw [upd_ne (nb b g1)]; exact g2, g3⟩
    · obtain ⟨b, vs, g1, g2, g3⟩ := h2; exact ⟨b, vs, g1, by rw [upd_ne (nb b g1)]; exact g2, g3⟩
    · obtain ⟨b, vs, g1, g2, g3⟩ := h2; exact ⟨b, vs, g1, by rw [upd_ne (nb b g1)]; exact g2, g3⟩
    · obtain ⟨vs, g1, g2, g3⟩ := h2; exact ⟨vs, g1, by rw [upd_ne (nb _ g1)]; exact g2, g3⟩
  · cases w <;> first | exact absurd rfl mx | exact h2
theorem SR.adopt (s : SR cl F0 H0 F H env σ) {i : Nat} {u : U} {a : Addr} (h : env[i]? = some .no) (q : σ[i]? = some (some (.ref a))) (r : Rv cl F H u (.ref a)) (nf : F a = none) (n0 : H0 a = none) (ap : Apart env σ a) : SR cl F0 H0 F H (lset env i u) σ := by
  refine ⟨⟨s.er.sb, by rw [lset_eq, List.length_set, s.er.len], fun j w h => ?_⟩, s.stp, fun j w b h m q' => ?_, fun j k w z b jk h1' h2' m1 m2 q1 q2 => ?_⟩
  · rcases get_lset h with ⟨rfl, rfl⟩ | ⟨hj, h⟩
    · exact .inr ⟨_, q, r⟩
    · exact s.er.slot j w h
  · rcases get_lset h with ⟨rfl, rfl⟩ | ⟨hj, h⟩
    · rw [q] at q'; cases q'; exact ⟨nf, n0⟩
    · exact s.own j w b h m q'
  · rcases get_lset h1' with ⟨e1, _⟩ | ⟨hj, h1⟩
    · rcases get_lset h2' with ⟨e2, _⟩ | ⟨hk, h2⟩
      · exact jk (e1.trans e2.symm)
      · rw [e1, q] at q1; cases q1; exact ap k z h2 m2 q2
    · rcases get_lset h2' with ⟨e2, _⟩ | ⟨hk, h2⟩
      · rw [e2, q] at q2; cases q2; exact ap j w h1 m1 q1
      · exact s.sep j k w z b jk h1 h2 m1 m2 q1 q2
/-! ### for y in d: if e not in d: return False -/
def dwG (j : Nat) (me : M) (all : List Int) (ks : List Int) : List U → Option Out := List.rec (motive := fun _ => List U → Option Out) (fun env => some (.nx env)) (fun k _ r env => ob (me (lset env j (.int k))) fun z => ob (asI z) fun zi => Bool.rec (some (.rt (.bl false))) (r (lset env j (.int k))) (gHas ieq zi all)) ks
def sDW (i j : Nat) (me : M) : MS := fun env => ob (nth env i) fun d => ob (asDk d) fun p => ob (dwG j me p.1 p.1 (lset env i .no)) fun o => Out.casesOn (motive := fun _ => Option Out) o (fun e => some (.nx (lset e i (.dk p.1 p.2)))) (fun u => some (.rt u)) (fun _ => none) (fun _ => none)
theorem lset_back : ∀ {xs : List U} {i : Nat} {u : U}, xs[i]? = some u → lset xs i u = xs := fun {xs i u} h => by
  rw [lset_eq]
  apply List.ext_getElem?
  intro k
  rw [List.getElem?_set]
  by_cases q : i = k
  · subst q
    rw [if_pos rfl, h]
    have := (List.getElem?_eq_some_iff.mp h).1
    rw [if_pos this]
  · rw [if_neg q]
theorem js_dwalk {y d : Str} {py pd pd2 pc pr pi pj pos : Pos} {e : Expr} {me : M} {j k : Nat} {cj} (i : Nat) (hij : i ≠ j) (hp : PassesOwn (model X.prog X.w) X.A X.env X.xe) (hr : Room k X.A) (hc : X.calm = true) (hv : PE X (.Name d pd) (tVar i)) (hv2 : PE X (.Name d pd2) (tVar i)) (hg : PG X (.Name y py) (gName j)) (he : PE X e (tM cl me)) (hm : behindInMarks .NotIn (.Name d pd2) = false)
    (hs : ∀ x, foldedSetIterable (.Name d pd) X.env x = pure x := by intro _; rfl) :
    PS X (.For (.Name y py) (.Name d pd) [.If (.Compare e [.NotIn] [.Name d pd2] pc) [.Return (some (.Constant (.bool false) cj pr)) pi] [] pj] [] pos) (tS cl (sDW i j me)) :=
  (ps_lock (ps_for hp hc (pi_keys hv) hg (pss_one (ps_if (pt_cmp (pc_dnotin (hu_of hr) he hv2) hm) (pss_one (ps_ret pe_bl)) pss_nil)) hs)).wk fun D σ H ⟨F0, H0, F, env, o, sr, e, kt⟩ => by
    obtain ⟨dU, ed, e⟩ := ob_some e
    obtain ⟨p, ep, e⟩ := ob_some e
    obtain ⟨o1, eo, e⟩ := ob_some e
    cases asDk_some ep
    rw [nth_eq] at ed
    rcases sr.er.slot i _ ed with z | ⟨v, hσ, a, kvs, rfl, ha, hk, hr'⟩
    · cases z
    obtain ⟨nf, n0⟩ := sr.own i _ a ed rfl hσ
    have hlen : kvs.length = p.1.length := by
      have := congrArg List.length hk
      rw [List.length_map, List.length_map] at this
      exact this
    have hi : i < env.length := (List.getElem?_eq_some_iff.mp ed).1
    have ap0 : Apart (lset env i .no) σ a := fun l w h m q => by
      rcases get_lset h with ⟨rfl, rfl⟩ | ⟨hl, h⟩
      · cases m
      · exact sr.sep i l _ w a (Ne.symm hl) ed h rfl m hσ q
    refine ⟨a, .dK kvs, ha, trivial, fun od => ?_⟩
    have s0 : SR cl F0 H0 F (upd H a (.frz od (.dK kvs))) (lset env i .no) σ := (sr.forget i).swap nf n0 ap0
    refine ⟨.ref a, hσ, a, od, rfl, .inl ⟨kvs, upd_same, ?_⟩⟩
    have has : ∀ zi : Int, (valV kvs (Sum.inl zi)).isSome = gHas ieq zi p.1 := fun zi => by rw [← valV_any]; exact gHas_ok (enc := (Sum.inl : Int → Key)) ieq_inl zi hk
    refine ⟨fun n m σ' H' => m = kvs.length - n ∧ n ≤ kvs.length ∧ ∃ F' env', SR cl F0 H0 F' H' env' σ' ∧ H' a = some (.frz od (.dK kvs)) ∧ F' a = none ∧ Sb F F' ∧ σ'[i]? = some (some (.ref a)) ∧ env'[i]? = some .no ∧ Apart env' σ' a ∧ dwG j me p.1 (p.1.drop n) env' = some o1,
      ⟨kvs.length, rfl, Nat.zero_le _, F, _, s0, upd_same, nf, Sb.refl _, hσ, by rw [lset_eq, List.getElem?_set_self hi], ap0, eo⟩, ?_⟩
    rintro n m σ' H' ⟨rfl, hn, F', env', sr', hf, nf', sb, hσ', he', ap, ew⟩
    by_cases hlt : n < kvs.length
    · right
      refine ⟨⟨hf, hlt⟩, fun σ' H' => n + 1 ≤ kvs.length ∧ ∃ F' env', SR cl F0 H0 F' H' env' σ' ∧ H' a = some (.frz od (.dK kvs)) ∧ F' a = none ∧ Sb F F' ∧ σ'[i]? = some (some (.ref a)) ∧ env'[i]? = some .no ∧ Apart env' σ' a ∧ dwG j me p.1 (p.1.drop (n + 1)) env' = some o1,
        fun σ' H' ⟨q1, q2⟩ => ⟨kvs.length - (n + 1), by omega, rfl, q1, q2⟩, fun x H'' y => ?_⟩
      obtain ⟨rfl, ky, vy, hky, rfl⟩ := y
      have hlt2 : n < p.1.length := by omega
      have hkn : ky = Sum.inl p.1[n] := by
        have h1 : (kvs.map (·.1))[n]? = some ky := by rw [List.getElem?_map, hky]; rfl
        rw [hk, List.getElem?_map, List.getElem?_eq_getElem hlt2] at h1
        exact (Option.some.inj h1).symm
      subst hkn
      rw [List.drop_eq_getElem_cons hlt2] at ew
      obtain ⟨z, ez, ew⟩ := ob_some (show ob (me (lset env' j (.int p.1[n]))) (fun z => ob (asI z) fun zi => Bool.rec (motive := fun _ => Option Out) (some (.rt (.bl false))) (dwG j me p.1 (p.1.drop (n + 1)) (lset env' j (.int p.1[n]))) (gHas ieq zi p.1)) = some o1 from ew)
      obtain ⟨zi, ezi, ew⟩ := ob_some ew
      have s1 : SR cl F0 H0 F' H'' (lset env' j (.int p.1[n])) (σ'.set j (some (.int p.1[n]))) := sr'.set j (by simp only [Rp]) rfl
      have hσ1 : (σ'.set j (some (V.int p.1[n])))[i]? = some (some (.ref a)) := by rw [List.getElem?_set_ne (Ne.symm hij)]; exact hσ'
      have he1 : (lset env' j (U.int p.1[n]))[i]? = some .no := by rw [lset_eq, List.getElem?_set_ne (Ne.symm hij)]; exact he'
      have ap1 : Apart (lset env' j (.int p.1[n])) (σ'.set j (some (.int p.1[n]))) a := fun l w h mw q => by
        rcases get_lset h with ⟨rfl, rfl⟩ | ⟨hl, h⟩
        · cases mw
        · rw [List.getElem?_set_ne (Ne.symm hl)] at q; exact ap l w h mw q
      show tIfS _ _ _ _ (σ'.set j (some (.int p.1[n]))) H''
      refine ⟨F', _, z, s1.er, ez, fun F2 H2 v st rv => ⟨.ref a, hσ1, a, valV kvs (Sum.inl zi), rfl, .inl ⟨kvs, Sum.inl zi, .inr ⟨od, st.hh _ _ hf⟩, asI_rv ezi rv, rfl⟩, ?_⟩⟩
      refine ⟨_, rfl, ?_⟩
      rw [has]
      have nf2 : F2 a = none := st.nof nf' hf fun _ q => nomatch q
      cases hb : gHas ieq zi p.1 with
      | true =>
        rw [hb] at ew
        exact ⟨hlt, F2, _, s1.step st, st.hh _ _ hf, nf2, sb.trans st.ff, hσ1, he1, ap1, ew⟩
      | false =>
        rw [hb] at ew
        cases ew
        cases e
        exact ⟨st.hh _ _ hf, kt F2 _ _ ((s1.step st).swap nf2 n0 ap1).stp (by simp only [Rp])⟩
    · left
      have hn' : n = kvs.length := by omega
      subst hn'
      refine ⟨⟨hf, Nat.le_refl _⟩, hf, ?_⟩
      rw [hlen, List.drop_length] at ew
      cases ew
      cases e
      exact kt F' _ _ ((sr'.swap nf' n0 ap).adopt he' hσ' ⟨a, kvs, rfl, upd_same, hk, hr'.mono sb⟩ nf' n0 ap)
end
end Ct
end
end
section
set_option Elab.async false
set_option linter.all false
set_option maxRecDepth 100000
set_option maxHeartbeats 4000000
noncomputable section
namespace Ct
open PySem PySem.Spec PyProof.Rows L2
section
variable {cl : Cl} {F0 H0 F H F' H' : Hp} {env : List U} {σ : Sig} {X : Cx} {K : PySem.W.Frag} {tg : Expr}
/-! ### a call that looks at a list of a slot's own, and hands back another list of ints -/
theorem lints_eq : ∀ {us : List U} {is : List Int}, lints us = some is → us = intU is
  | [], is, h => by cases h; rfl
  | u :: us, is, h => by
    obtain ⟨i, ei, h⟩ := ob_some (show ob (asI u) (fun i => ob (lints us) fun is => some (i :: is)) = some is from h)
    obtain ⟨js, ej, h⟩ := ob_some h
    cases h
    rw [asI_some ei, lints_eq ej]
    rfl
def asLf (u : U) : Option (List U) := U.casesOn (motive_1 := fun _ => Option (List U)) u none none (fun _ => none) (fun _ => none) (fun _ => none) (fun x => some x) (fun _ _ => none) (fun _ => none) (fun _ => none) (fun _ _ => none) (fun _ _ => none) (fun _ _ => none)
theorem asLf_some {u : U} {us : List U} (h : asLf u = some us) : u = .lst us := by
  cases u <;> cases h
  rfl
def eBor (f : List U → Option U) (ms : MA) : M := fun env => ob (ms env) (fA2 fun u w => ob (chk u) fun u => ob (asOl w) fun ks => ob (lints ks) fun ki => ob (f [u, .lst ks]) fun r => ob (asLf r) fun rs => ob (lints rs) fun ri => gd (bnot (ilEq ri ki)) (some r))
theorem j_bor {k j : Nat} {x : Str} {f : List U → Option U} {p pos : Pos} {e e' : Expr} {ms : MA} (q : Cal X.prog X.w X.K X.mg X.base cl k x 2 [] f) (hr : Room j X.A) (hk : k ≤ j) (hg : Gl X x) (ha : PA X [e, e'] (tA cl ms))
    (hdb : (x == ("__debug__" : Str)) = false := by decide) (he : starEach [e, e'] X.env = (false, eval e X.env) :: starEach [e'] X.env := by rfl) (hpl : (backTo pos (starEach [e'] X.env)).any (·.1) = false := by rfl) :
    PE X (.Call (.Name x p) [e, e'] [] pos) (tM cl (eBor f ms)) := by
  obtain ⟨fa, fd, ps, dss, dvs, FF, a1, a2, a3, a4, a5⟩ := q.ex
  refine (pe_call FF (hr.mono hk) hg a1 a2 a3 a4 pass0 ha hdb he hpl).wk fun σ H Q ⟨F, env, u, er, e, kk⟩ => ?_
  obtain ⟨us, eu, e⟩ := ob_some e
  refine ⟨F, env, us, er, eu, fun F1 H1 vs s r => ?_⟩
  obtain ⟨u1, w1, v1, x1, rfl, rfl, e, r1, r2⟩ := fA2_some e r
  obtain ⟨u1', ec, e⟩ := ob_some e
  obtain ⟨rfl, hn⟩ := chk_some ec
  obtain ⟨ks, eo, e9⟩ := ob_some e
  obtain ⟨ki, eki, e9⟩ := ob_some e9
  obtain ⟨r0, er0, e9⟩ := ob_some e9
  obtain ⟨rs, ers, e9⟩ := ob_some e9
  obtain ⟨ri, eri, e9⟩ := ob_some e9
  obtain ⟨hne, e9⟩ := gd_some e9
  cases asOl_some eo
  cases e9
  cases asLf_some ers
  obtain ⟨a, zs, rfl, ha', hr'⟩ := r2
  have hz := lints_rv eki hr'
  subst hz
  have hd : dvs = [] := by
    have := a5 F1
    cases dvs with
    | nil => rfl
    | cons _ _ => simp only [RpL] at this
  subst hd
  have sb1 : Sb (upd F1 a (.lst (ki.map V.int))) H1 := fun b o q => by
    by_cases z : b = a
    · subst z; rw [upd_same] at q; cases q; exact ha'
    · rw [upd_ne z] at q; exact s.fh b o q
  have sb0 : Sb F1 (upd F1 a (.lst (ki.map V.int))) := fun b o q => by
    by_cases z : b = a
    · subst z; rw [upd_same, ← ha']; exact s.fh b o q
    · rw [upd_ne z]; exact q
  refine ⟨rfl, upd F1 a (.lst (ki.map V.int)), [u1, .lst ks], .lst rs, sb1, ?_, er0, fun F2 H2 v st rv => ?_⟩
  · simp only [List.append_nil, RpL, Rp]
    exact ⟨(r1.rp hn).mono sb0, ⟨a, _, rfl, upd_same, hr'.mono sb0⟩, trivial⟩
  · simp only [Rp] at rv
    obtain ⟨b, ys, rfl, hb, hy⟩ := rv
    have hy' := lints_rv eri hy
    subst hy'
    have hba : b ≠ a := fun z => by
      subst z
      have h1 := st.ff _ _ (upd_same (H := F1) (a := b) (o := .lst (ki.map V.int)))
      rw [hb] at h1
      have h2 : ri.map V.int = ki.map V.int := by injection h1 with h1; injection h1
      have h3 : ri = ki := by
        have inj : ∀ {a b : List Int}, a.map V.int = b.map V.int → a = b := by
          intro a
          induction a with
          | nil => intro b z; cases b with
            | nil => rfl
            | cons _ _ => simp at z
          | cons x a ih => intro b z; cases b with
            | nil => simp at z
            | cons y b =>
              rw [List.map_cons, List.map_cons] at z
              injection z with z1 z2
              injection z1 with z1
              rw [z1, ih z2]
        exact inj h2
      rw [bnot_eq, ilEq_eq, decide_eq_true h3] at hne
      cases hne
    let F3 : Hp := fun c => if c = a then F1 c else F2 c
    have f3 : ∀ c, c ≠ a → F3 c = F2 c := fun c z => if_neg z
    have st3 : Stp F1 H1 F3 H2 := by
      refine ⟨fun c o q => ?_, fun c o q => ?_, st.hh, fun c o q => ?_⟩
      · show (if c = a then F1 c else F2 c) = some o
        split
        · exact q
        · exact st.ff _ _ (sb0 _ _ q)
      · have q' : (if c = a then F1 c else F2 c) = some o := q
        split at q'
        · exact st.hh _ _ (s.fh _ _ q')
        · exact st.fh _ _ q'
      · have q' : (if c = a then F1 c else F2 c) = some o := q
        split at q'
        · exact .inl q'
        · rename_i hc
          rcases st.new c o q' with z | z
          · rw [upd_ne hc] at z; exact .inl z
          · exact .inr z
    refine kk F3 H2 (.ref b) (s.trans st3) ?_
    simp only [Rv, Rp]
    refine ⟨b, _, rfl, (f3 b hba).trans hb, ?_⟩
    rw [lints_eq eri]
    exact rp_intU ri rfl
end

/-! ### tuples of instances, != by the own == -/
theorem tuple_neG {prog : Program} {w : World} {A : Around} {R : Result → Shared → Prop} (l b : Addr) (items items2 : Array Value) (n n2 : Nat) (dd dd2 : Option Addr) (sl sl2 : Array (Option Value)) (hsz : items.size = items2.size) (e : Nat → Bool) (I : Shared → Prop)
    (turn : ∀ i (h1 : i < items.size) (h2 : i < items2.size) s, I s → wpAny (model prog w) A.in1 (eqBool items[i] items2[i]) (fun r s' => r = e i ∧ I s') (fun e s' => R (.error e) s') s)
    (fin : ∀ s, I s → R (.ok (.ret (.bool (!(List.range items.size).all e)))) s) {s : Shared} (hl1 : s.heap.get? l = some { cls := .type "tuple", dict := dd, data := .seq items n, slots := sl }) (hb1 : s.heap.get? b = some { cls := .type "tuple", dict := dd2, data := .seq items2 n2, slots := sl2 }) (h : I s) :
    wpAny (model prog w) A.in1 (Builtin.«tuple.__ne__» ⟨[.ref l, .ref b], []⟩) (GQ.FinOf prog w A R) (fun e s' => R (.error e) s') s := by
  have f2 := AutoSeq1.sub_tuple_tuple
  have hZ : (items.toList.zip items2.toList).length = items.size := by simp [hsz]
  have h0 := h
  have no : ∀ i, i < items.size → e i = false → (!(List.range items.size).all e) = true := fun i hi he => by
    rw [Bool.not_eq_true', List.all_eq_false]
    exact ⟨i, by simpa using hi, by rw [he]; exact Bool.false_ne_true⟩
  obtain ⟨hp, g, d, tk, os⟩ := s
  wp_walk using AutoSeq1.wpAny_loadPart' hl1, AutoSeq1.wpAny_loadPart' hb1, wpAny_forIn_list _ (fun rest b s' => b.1 = none ∧ ∃ i, rest = (items.toList.zip items2.toList).drop i ∧ i ≤ items.size ∧ (∀ j, j < i → e j = true) ∧ I s') _
  case turn =>
    rintro ⟨y, x⟩ rest b s' ⟨hb', i, hz, hi, hj, hI⟩
    have hlt : i < (items.toList.zip items2.toList).length := by
      rcases Nat.lt_or_ge i (items.toList.zip items2.toList).length with h' | h'
      · exact h'
      · rw [List.drop_of_length_le h'] at hz; cases hz
    have h1 : i < items.size := hZ ▸ hlt
    have h2 : i < items2.size := hsz ▸ h1
    rw [List.drop_eq_getElem_cons hlt] at hz
    injection hz with hyx hrest
    have hy : y = items[i] := by have := congrArg Prod.fst hyx; simpa using this
    have hx : x = items2[i] := by have := congrArg Prod.snd hyx; simpa using this
    subst hy hx
    refine wpAny_bind (wpAny_mono (turn i h1 h2 s' hI) (fun r s2 q2 => ?_) fun _ _ x => x)
    obtain ⟨hr, q2⟩ := q2
    subst hr
    have hR := fin s2 q2
    cases he : e i with
    | true =>
      wp_walk
      exact ⟨rfl, i + 1, hrest, h1, fun j hj' => by
        by_cases z : j = i
        · rw [z]; exact he
        · exact hj j (by omega), q2⟩
    | false =>
      rw [no i h1 he] at hR
      wp_walk
      first
        | exact hR
        | exact ⟨_, rfl, hR⟩
        | exact ⟨_, rfl, by simpa using hR⟩
  case fin =>
    rintro ⟨b1, b2⟩ s' ⟨hb', i, hz, hi, hj, hI⟩
    simp only at hb'
    subst hb'
    have hge : items.size ≤ i := by
      rcases Nat.lt_or_ge i (items.toList.zip items2.toList).length with h' | h'
      · rw [List.drop_eq_getElem_cons h'] at hz; cases hz
      · exact hZ ▸ h'
    have hR := fin s' hI
    have hall : (List.range items.size).all e = true := by
      rw [List.all_eq_true]
      intro j hjm
      exact hj j (by have := List.mem_range.mp hjm; omega)
    rw [hall] at hR
    wp_walk
    first
      | simpa [Builtin.Tuple.tupleCompareSizes, hsz, bne] using hR
      | exact ⟨_, rfl, by simpa [Builtin.Tuple.tupleCompareSizes, hsz, bne] using hR⟩
  case h =>
    exact ⟨rfl, 0, rfl, Nat.zero_le _, fun j hj => absurd hj (by omega), h0⟩
end Ct
end
end
section
set_option Elab.async false
set_option linter.all false
set_option maxRecDepth 100000
set_option maxHeartbeats 4000000
noncomputable section
namespace Ct
open PySem PySem.Spec PyProof.Rows L2
section
variable {cl : Cl} {F0 H0 F H F' H' : Hp} {env : List U} {σ : Sig} {X : Cx} {K : PySem.W.Frag} {k j c : Nat} {f : List U → Option U}
def rTNe (K : PySem.W.Frag) (C : Addr) (sp : Sp) : R2 := fun x y H Q => ∃ (a b : Addr) (xs ys : List V) (e : Nat → Bool), x = .ref a ∧ y = .ref b ∧ SqT K H a xs ∧ SqT K H b ys ∧ xs.length = ys.length ∧
  (∀ (i : Nat) u v, xs[i]? = some u → ys[i]? = some v → ∃ p q dx dy fs gs, u = .ref p ∧ v = .ref q ∧ H p = some (.ins C dx fs) ∧ H q = some (.ins C dy gs) ∧ (p = q → e i = true) ∧ ∀ H', Ext H H' → sp [u, v] H' (fun z H2 => z = .bl (e i) ∧ Ext H' H2) E0) ∧
  ∀ H', Ext H H' → Q (.bl (!(List.range xs.length).all e)) H'
theorem op_neT {C fa : Addr} {fd : FuncData} {ps : List Str} {sp : Sp} (hs : PySem.W.findIn X.K (.ref C) "__eq__" = some (some (.ref fa))) (hf : PySem.W.isFn X.K (.ref fa) = true) (FF : FnOk X.prog X.w X.K X.mg X.base CX0 k fa fd ps sp) (hb : Binds X.K fd ps []) (hr : Room (k + 1) X.A) :
    OpR X (compareOp .NotEq) (rTNe X.K C sp) := by
  intro pins s σ H x y v u Q I rx ry h
  obtain ⟨a, b, xs, ys, e, rfl, rfl, ha, hb', hl, each, q⟩ := h
  cases rx
  cases ry
  obtain ⟨its, rv, ht, _⟩ := I.tuple ha
  obtain ⟨its2, rv2, ht2, _⟩ := I.tuple hb'
  obtain ⟨⟨cls, dd, data, sl⟩, ho, hc, n, hd⟩ := id ht
  obtain ⟨⟨cls2, dd2, data2, sl2⟩, ho2, hc2, n2, hd2⟩ := id ht2
  simp only at hc hd hc2 hd2
  subst hc hd hc2 hd2
  have hsz : its.toArray.size = its2.toArray.size := by rw [List.size_toArray, List.size_toArray, ← rv.length, ← rv2.length]; exact hl
  show wpAny _ _ (richCompare .NotEq _ _) _ _ _
  refine wpAny_richCompare_same_room (op := .NotEq) ⟨_, ho, rfl⟩ ⟨_, ho2, rfl⟩ PySem.F.slot_tuple_ne (GQ.call_here PySem.F.slot_tuple_ne ⟨_, ho, rfl⟩ PySem.F.entry_tuple_ne (PySem.F.args_tuple_ne_2 _ _) ?_) hr.units0
  refine tuple_neG (R := wants (fun v s' => v ≠ .notImplemented ∧ EP X pins σ Q v s') X.xe) a b its.toArray its2.toArray n n2 dd dd2 sl sl2 hsz e (fun s' => ∃ H', Inv X pins σ H' s' ∧ Ext H H') (fun i h1 h2 s' ⟨H1, I1, x1⟩ => ?_) (fun s' ⟨H1, I1, x1⟩ => ?_) ho ho2 ⟨H, I, Ext.rfl'⟩
  · have g1 : its[i]? = some its.toArray[i] := by
      have h1' : i < its.length := by simpa using h1
      rw [List.getElem?_eq_getElem h1'] <;> simp
    have g2 : its2[i]? = some its2.toArray[i] := by
      have h2' : i < its2.length := by simpa using h2
      rw [List.getElem?_eq_getElem h2'] <;> simp
    have k1 : i < xs.length := by rw [rv.length]; simpa using h1
    have k2 : i < ys.length := by rw [rv2.length]; simpa using h2
    obtain ⟨u, hu, ru⟩ := rv.get (List.getElem?_eq_getElem k1)
    obtain ⟨v, hv, rw2⟩ := rv2.get (List.getElem?_eq_getElem k2)
    rw [g1] at hu
    rw [g2] at hv
    rw [Option.some.inj hu, Option.some.inj hv]
    obtain ⟨p, q', dx, dy, fs, gs, e1, e2, hp, hq, same, prom⟩ := each i _ _ (List.getElem?_eq_getElem k1) (List.getElem?_eq_getElem k2)
    rw [e1] at ru prom
    rw [e2] at rw2 prom
    cases ru
    cases rw2
    by_cases hpq : p = q'
    · subst hpq
      exact SeqAt.EqAt.same (A := X.A.in1) (s := s') (.ref p) X.prog X.w X.xe _ ⟨(same rfl).symm, H1, I1, x1⟩
    · refine GQ.eqBool_refG hpq ?_
      obtain ⟨mA, J, _⟩ := ins_get I1.hok (x1 _ _ hp)
      obtain ⟨mB, J', _⟩ := ins_get I1.hok (x1 _ _ hq)
      obtain ⟨od, J, _⟩ := J.look
      obtain ⟨od', J', _⟩ := J'.look
      obtain ⟨m, hF⟩ := I1.fr
      refine PySem.W.cmp_K (op := .Eq) (tb := .ref C) hr.in1.units0 hF I1.ok.mod.kin J J'.type (by simp [PySem.W.notFirst]) hs hf (wpAny_mono (run_below (A := X.A.in1) (us := [.ref p, .ref q']) (vs := [.ref p, .ref q']) FF hr.in1 I1.env0.in1 hb I1 (.cons rfl (.cons rfl .nil)) (prom H1 x1)) (fun w s2 z => ?_) fun _ _ x => x)
      obtain ⟨z', H2, I2, rz, ez, x2⟩ := z
      subst ez
      cases (show w = Value.bool (e i) from rz)
      exact ⟨e i, rfl, rfl, H2, I2, x1.trans x2⟩
  · have hx : its.toArray.size = xs.length := by rw [List.size_toArray, ← rv.length]
    rw [hx]
    exact ⟨(fun z => nomatch z), .bl _, H1, I1, rfl, q H1 x1⟩
/-- the signs of a number's fields -/
abbrev scF : Sch := .t3 .i (.a .i) .i
def tokF (c : Nat) (u : U) : Option (List Int) := U.casesOn (motive_1 := fun _ => Option (List Int)) u none none (fun _ => none) (fun _ => none) (fun _ => none) (fun _ => none) (fun d fs => gd (Nat.beq c d) (tok scF (.tup fs))) (fun _ => none) (fun _ => none) (fun _ _ => none) (fun _ _ => none) (fun _ _ => none)
def neL (c : Nat) (f : List U → Option U) (xs : List U) : List U → Option Bool := List.rec (motive := fun _ => List U → Option Bool) (fun ys => List.casesOn (motive := fun _ => Option Bool) ys (some true) fun _ _ => none)
  (fun x _ r ys => List.casesOn (motive := fun _ => Option Bool) ys none fun y ys => ob (tokF c x) fun a => ob (tokF c y) fun b => ob (f [x, y]) fun z => ob (asB z) fun d => Bool.rec (motive := fun _ => Option Bool) none (ob (r ys) fun q => some (Bool.rec false q d)) (Bool.rec (bnot (ilEq a b)) (ilEq a b) d)) xs
def fTNe (f : List U → Option U) (x y : U) : Option U := ob (asP x) fun xs => ob (asP y) fun ys => ob (neL 2 f xs ys) fun b => some (.bl (bnot b))
theorem dp_uniq (s : Sch) {u w : U} {a b : List Int} (ha : tok s u = some a) (hb : tok s w = some b) {F : Hp} {v : V} (ru : Rp cl F u v) (rw' : Rp cl F w v) : a = b := by
  have key : ∀ (s : Sch) (u w : U) (a b : List Int) (v : V), tok s u = some a → tok s w = some b → Rp cl F u v → Rp cl F w v → a = b := by
    intro s
    induction s with
    | i =>
      intro u w a b v ha hb ru rw'
      obtain ⟨i, ei, ha⟩ := ob_some (show ob (asI u) (fun i => some [i]) = some a from ha)
      obtain ⟨j, ej, hb⟩ := ob_some (show ob (asI w) (fun i => some [i]) = some b from hb)
      cases ha
      cases hb
      have e := (asI_rv ei (Rv.of (H := F) ru)).symm.trans (asI_rv ej (Rv.of (H := F) rw'))
      injection e with e
      rw [e]
    | a s ih =>
      intro u w a b v ha hb ru rw'
      obtain ⟨us, eu, ha⟩ := ob_some (show ob (asP u) (tokL (tok s)) = some a from ha)
      obtain ⟨ws, ew, hb⟩ := ob_some (show ob (asP w) (tokL (tok s)) = some b from hb)
      cases asP_some eu
      cases asP_some ew
      simp only [Rp] at ru rw'
      obtain ⟨p, vs, rfl, hp, hr⟩ := ru
      obtain ⟨q, xs, e, hq, hr'⟩ := rw'
      cases e
      rw [hp] at hq
      cases hq
      have all : ∀ (us ws : List U) (vs : List V) (a b : List Int), tokL (tok s) us = some a → tokL (tok s) ws = some b → RpL cl F us vs → RpL cl F ws vs → a = b := by
        intro us
        induction us with
        | nil =>
          intro ws vs a b h1 h2 r1 r2
          cases vs with
          | nil => cases ws with
            | nil => cases h1; cases h2; rfl
            | cons _ _ => simp only [RpL] at r2
          | cons _ _ => simp only [RpL] at r1
        | cons u us ih2 =>
          intro ws vs a b h1 h2 r1 r2
          cases vs with
          | nil => simp only [RpL] at r1
          | cons v vs => cases ws with
            | nil => simp only [RpL] at r2
            | cons w ws =>
              obtain ⟨p1, e1, h1⟩ := ob_some (show ob (tok s u) (fun p => ob (tokL (tok s) us) fun q => some (.ofNat 1 :: iapp p q)) = some a from h1)
              obtain ⟨p2, e2, h1⟩ := ob_some h1
              obtain ⟨q1, f1, h2⟩ := ob_some (show ob (tok s w) (fun p => ob (tokL (tok s) ws) fun q => some (.ofNat 1 :: iapp p q)) = some b from h2)
              obtain ⟨q2, f2, h2⟩ := ob_some h2
              cases h1
              cases h2
              simp only [RpL] at r1 r2
              rw [ih u w p1 q1 v e1 f1 r1.1 r2.1, ih2 ws vs p2 q2 e2 f2 r1.2 r2.2]
      exact all us ws vs a b ha hb hr hr'
    | l s ih =>
      intro u w a b v ha hb ru rw'
      obtain ⟨us, eu, ha⟩ := ob_some (show ob (asL u) (tokL (tok s)) = some a from ha)
      obtain ⟨ws, ew, hb⟩ := ob_some (show ob (asL w) (tokL (tok s)) = some b from hb)
      obtain ⟨p, vs, rfl, hp, hr⟩ := asL_rv (H := F) eu (Sb.refl _) (Rv.of ru)
      obtain ⟨q, xs, e, hq, hr'⟩ := asL_rv (H := F) ew (Sb.refl _) (Rv.of rw')
      cases e
      rw [hp] at hq
      cases hq
      have all : ∀ (us ws : List U) (vs : List V) (a b : List Int), tokL (tok s) us = some a → tokL (tok s) ws = some b → RpL cl F us vs → RpL cl F ws vs → a = b := by
        intro us
        induction us with
        | nil =>
          intro ws vs a b h1 h2 r1 r2
          cases vs with
          | nil => cases ws with
            | nil => cases h1; cases h2; rfl
            | cons _ _ => simp only [RpL] at r2
          | cons _ _ => simp only [RpL] at r1
        | cons u us ih2 =>
          intro ws vs a b h1 h2 r1 r2
          cases vs with
          | nil => simp only [RpL] at r1
          | cons v vs => cases ws with
            | nil => simp only [RpL] at r2
            | cons w ws =>
              obtain ⟨p1, e1, h1⟩ := ob_some (show ob (tok s u) (fun p => ob (tokL (tok s) us) fun q => some (.ofNat 1 :: iapp p q)) = some a from h1)
              obtain ⟨p2, e2, h1⟩ := ob_some h1
              obtain ⟨q1, f1, h2⟩ := ob_some (show ob (tok s w) (fun p => ob (tokL (tok s) ws) fun q => some (.ofNat 1 :: iapp p q)) = some b from h2)
              obtain ⟨q2, f2, h2⟩ := ob_some h2
              cases h1
              cases h2
              simp only [RpL] at r1 r2
              rw [ih u w p1 q1 v e1 f1 r1.1 r2.1, ih2 ws vs p2 q2 e2 f2 r1.2 r2.2]
      exact all us ws vs a b ha hb hr hr'
    | t2 x y ih1 ih2 =>
      intro u w a b v ha hb ru rw'
      obtain ⟨us, eu, ha⟩ := ob_some (show ob (asP u) (fA2 fun a b => ob (tok x a) fun p => ob (tok y b) fun q => some (.ofNat 1 :: iapp p (.ofNat 1 :: iapp q [.ofNat 0]))) = some a from ha)
      obtain ⟨ws, ew, hb⟩ := ob_some (show ob (asP w) (fA2 fun a b => ob (tok x a) fun p => ob (tok y b) fun q => some (.ofNat 1 :: iapp p (.ofNat 1 :: iapp q [.ofNat 0]))) = some b from hb)
      cases asP_some eu
      cases asP_some ew
      obtain ⟨a1, a2, rfl, ha⟩ := fA2_eq ha
      obtain ⟨b1, b2, rfl, hb⟩ := fA2_eq hb
      obtain ⟨p1, e1, ha⟩ := ob_some ha
      obtain ⟨p2, e2, ha⟩ := ob_some ha
      obtain ⟨q1, f1, hb⟩ := ob_some hb
      obtain ⟨q2, f2, hb⟩ := ob_some hb
      cases ha
      cases hb
      simp only [Rp] at ru rw'
      obtain ⟨p, vs, rfl, hp, hr⟩ := ru
      obtain ⟨q, xs, e, hq, hr'⟩ := rw'
      cases e
      rw [hp] at hq
      cases hq
      rcases vs with _ | ⟨v1, _ | ⟨v2, _ | ⟨v3, vs⟩⟩⟩ <;> simp only [RpL, and_false] at hr
      simp only [RpL] at hr'
      rw [ih1 _ _ _ _ _ e1 f1 hr.1 hr'.1, ih2 _ _ _ _ _ e2 f2 hr.2.1 hr'.2.1]
    | t3 x y z ih1 ih2 ih3 =>
      intro u w a b v ha hb ru rw'
      obtain ⟨us, eu, ha⟩ := ob_some (show ob (asP u) (fA3 fun a b c => ob (tok x a) fun p => ob (tok y b) fun q => ob (tok z c) fun r => some (.ofNat 1 :: iapp p (.ofNat 1 :: iapp q (.ofNat 1 :: iapp r [.ofNat 0])))) = some a from ha)
      obtain ⟨ws, ew, hb⟩ := ob_some (show ob (asP w) (fA3 fun a b c => ob (tok x a) fun p => ob (tok y b) fun q => ob (tok z c) fun r => some (.ofNat 1 :: iapp p (.ofNat 1 :: iapp q (.ofNat 1 :: iapp r [.ofNat 0])))) = some b from hb)
      cases asP_some eu
      cases asP_some ew
      obtain ⟨a1, a2, a3, rfl, ha⟩ := fA3_eq ha
      obtain ⟨b1, b2, b3, rfl, hb⟩ := fA3_eq hb
      obtain ⟨p1, e1, ha⟩ := ob_some ha
      obtain ⟨p2, e2, ha⟩ := ob_some ha
      obtain ⟨p3, e3, ha⟩ := ob_some ha
      obtain ⟨q1, f1, hb⟩ := ob_some hb
      obtain ⟨q2, f2, hb⟩ := ob_some hb
      obtain ⟨q3, f3, hb⟩ := ob_some hb
      cases ha
      cases hb
      simp only [Rp] at ru rw'
      obtain ⟨p, vs, rfl, hp, hr⟩ := ru
      obtain ⟨q, xs, e, hq, hr'⟩ := rw'
      cases e
      rw [hp] at hq
      cases hq
      rcases vs with _ | ⟨v1, _ | ⟨v2, _ | ⟨v3, _ | ⟨v4, vs⟩⟩⟩⟩ <;> simp only [RpL, and_false] at hr
      simp only [RpL] at hr'
      rw [ih1 _ _ _ _ _ e1 f1 hr.1 hr'.1, ih2 _ _ _ _ _ e2 f2 hr.2.1 hr'.2.1, ih3 _ _ _ _ _ e3 f3 hr.2.2.1 hr'.2.2.1]
  exact key s u w a b v ha hb ru rw'
end
end Ct
end
end
section
set_option Elab.async false
set_option linter.all false
set_option maxRecDepth 100000
set_option maxHeartbeats 4000000
noncomputable section
namespace Ct
open PySem PySem.Spec PyProof.Rows L2
section
variable {cl : Cl} {F0 H0 F H F' H' : Hp} {env : List U} {σ : Sig} {X : Cx} {K : PySem.W.Frag} {k j c : Nat} {f : List U → Option U}
theorem tokF_some {u : U} {a : List Int} (h : tokF c u = some a) : ∃ fs, u = .ins c fs ∧ tok scF (.tup fs) = some a := by
  cases u <;> first | exact nomatch (show (none : Option (List Int)) = some a from h) | skip
  obtain ⟨h1, h2⟩ := gd_some (show gd (Nat.beq c _) (tok scF (.tup _)) = some a from h)
  have e := Nat.eq_of_beq_eq_true h1
  subst e
  exact ⟨_, rfl, h2⟩
def eI (c : Nat) : List U → List U → Nat → Bool
  | u :: _, w :: _, 0 => match tokF c u, tokF c w with
    | some a, some b => ilEq a b
    | _, _ => true
  | _ :: us, _ :: ws, i + 1 => eI c us ws i
  | _, _, _ => true
theorem neL_ok : ∀ {us ws : List U} {q : Bool}, neL c f us ws = some q → us.length = ws.length ∧
    (∀ (i : Nat) u w, us[i]? = some u → ws[i]? = some w → ∃ a b, tokF c u = some a ∧ tokF c w = some b ∧ f [u, w] = some (.bl (eI c us ws i)) ∧ eI c us ws i = ilEq a b) ∧ q = (List.range us.length).all (eI c us ws)
  | [], ws, q, h => by
    cases ws with
    | nil =>
      have h' : (some true : Option Bool) = some q := h
      cases h'
      exact ⟨rfl, fun i u w h _ => by simp at h, rfl⟩
    | cons w ws => exact nomatch (show (none : Option Bool) = some q from h)
  | u :: us, ws, q, h => by
    cases ws with
    | nil => exact nomatch (show (none : Option Bool) = some q from h)
    | cons w ws =>
      obtain ⟨a, ea, h⟩ := ob_some (show ob (tokF c u) (fun a => ob (tokF c w) fun b => ob (f [u, w]) fun z => ob (asB z) fun d => Bool.rec (motive := fun _ => Option Bool) none (ob (neL c f us ws) fun q => some (Bool.rec false q d)) (Bool.rec (bnot (ilEq a b)) (ilEq a b) d)) = some q from h)
      obtain ⟨b, eb, h⟩ := ob_some h
      obtain ⟨z, ez, h⟩ := ob_some h
      obtain ⟨d, ed, h⟩ := ob_some h
      cases asB_some ed
      have hd : d = ilEq a b ∧ ∃ q', neL c f us ws = some q' ∧ q = Bool.rec false q' d := by
        cases d with
        | true =>
          have h2 : (Bool.rec (motive := fun _ => Option Bool) none (ob (neL c f us ws) fun q => some (Bool.rec false q true)) (ilEq a b) : Option Bool) = some q := h
          cases hb : ilEq a b with
          | false => rw [hb] at h2; cases h2
          | true =>
            rw [hb] at h2
            obtain ⟨q', eq', h3⟩ := ob_some (show ob (neL c f us ws) (fun q => some (Bool.rec false q true)) = some q from h2)
            exact ⟨rfl, q', eq', (Option.some.inj h3).symm⟩
        | false =>
          have h2 : (Bool.rec (motive := fun _ => Option Bool) none (ob (neL c f us ws) fun q => some (Bool.rec false q false)) (bnot (ilEq a b)) : Option Bool) = some q := h
          cases hb : ilEq a b with
          | true => rw [hb] at h2; cases h2
          | false =>
            rw [hb] at h2
            obtain ⟨q', eq', h3⟩ := ob_some (show ob (neL c f us ws) (fun q => some (Bool.rec false q false)) = some q from h2)
            exact ⟨rfl, q', eq', (Option.some.inj h3).symm⟩
      obtain ⟨hd, q', eq', hq⟩ := hd
      obtain ⟨i1, i2, i3⟩ := neL_ok eq'
      have e0 : eI c (u :: us) (w :: ws) 0 = ilEq a b := by
        show (match tokF c u, tokF c w with
          | some a, some b => ilEq a b
          | _, _ => true) = _
        rw [ea, eb]
      refine ⟨congrArg Nat.succ i1, fun i u' w' hu hw => ?_, ?_⟩
      · cases i with
        | zero =>
          simp at hu hw
          subst hu; subst hw
          exact ⟨a, b, ea, eb, by rw [ez, e0, hd], e0⟩
        | succ i => exact i2 i u' w' (by simpa using hu) (by simpa using hw)
      · rw [List.length_cons, List.range_succ_eq_map, List.all_cons, List.all_map, e0, ← hd, hq]
        have e1 : (eI c (u :: us) (w :: ws) ∘ Nat.succ) = eI c us ws := by funext i; rfl
        rw [e1, ← i3]
        cases d <;> rfl
theorem dp_fields {fs gs : List U} {vs : List V} {ta tb : List Int} (hr : RpL cl F fs vs) (hr' : RpL cl F gs vs) (tf : tok scF (.tup fs) = some ta) (tg : tok scF (.tup gs) = some tb) : ta = tb := by
  obtain ⟨us, eu, ha⟩ := ob_some (show ob (asP (.tup fs)) (fA3 fun a b c => ob (tok .i a) fun p => ob (tok (.a .i) b) fun q => ob (tok .i c) fun r => some (.ofNat 1 :: iapp p (.ofNat 1 :: iapp q (.ofNat 1 :: iapp r [.ofNat 0])))) = some ta from tf)
  obtain ⟨ws, ew, hb⟩ := ob_some (show ob (asP (.tup gs)) (fA3 fun a b c => ob (tok .i a) fun p => ob (tok (.a .i) b) fun q => ob (tok .i c) fun r => some (.ofNat 1 :: iapp p (.ofNat 1 :: iapp q (.ofNat 1 :: iapp r [.ofNat 0])))) = some tb from tg)
  have e1 : fs = us := Option.some.inj eu
  have e2 : gs = ws := Option.some.inj ew
  subst e1; subst e2
  obtain ⟨a1, a2, a3, rfl, ha⟩ := fA3_eq ha
  obtain ⟨b1, b2, b3, rfl, hb⟩ := fA3_eq hb
  obtain ⟨p1, e1, ha⟩ := ob_some ha
  obtain ⟨p2, e2, ha⟩ := ob_some ha
  obtain ⟨p3, e3, ha⟩ := ob_some ha
  obtain ⟨q1, f1, hb⟩ := ob_some hb
  obtain ⟨q2, f2, hb⟩ := ob_some hb
  obtain ⟨q3, f3, hb⟩ := ob_some hb
  cases ha
  cases hb
  rcases vs with _ | ⟨v1, _ | ⟨v2, _ | ⟨v3, _ | ⟨v4, vs⟩⟩⟩⟩ <;> simp only [RpL, and_false] at hr
  simp only [RpL] at hr'
  rw [dp_uniq _ e1 f1 hr.1 hr'.1, dp_uniq _ e2 f2 hr.2.1 hr'.2.1, dp_uniq _ e3 f3 hr.2.2.1 hr'.2.2.1]
theorem om_neT : OpM cl (fTNe f) (rTNe K (cl.k 2) (spF cl 2 f)) := fun F H ua ub u x y Q s e rx ry kk => by
  obtain ⟨us, eu, e⟩ := ob_some e
  obtain ⟨ws, ew, e⟩ := ob_some e
  obtain ⟨q, eq, e⟩ := ob_some e
  cases e
  cases asP_some eu
  cases asP_some ew
  simp only [Rv, Rp] at rx ry
  obtain ⟨a, vs, rfl, ha, hr⟩ := rx
  obtain ⟨b, ys, rfl, hb, hr'⟩ := ry
  obtain ⟨h1, h2, h3⟩ := neL_ok eq
  refine ⟨a, b, vs, ys, eI 2 us ws, rfl, rfl, SqT.of (s _ _ ha), SqT.of (s _ _ hb), by rw [← hr.len, ← hr'.len]; exact h1, fun i v1 v2 hv1 hv2 => ?_, fun H' ext => ?_⟩
  · have l1 : i < us.length := by rw [hr.len]; exact (List.getElem?_eq_some_iff.mp hv1).1
    have l2 : i < ws.length := by omega
    obtain ⟨ta, tb, e1, e2, ef, ee⟩ := h2 i _ _ (List.getElem?_eq_getElem l1) (List.getElem?_eq_getElem l2)
    obtain ⟨fs, hfs, tf⟩ := tokF_some e1
    obtain ⟨gs, hgs, tg⟩ := tokF_some e2
    obtain ⟨w1, hw1, r1⟩ := hr.get (List.getElem?_eq_getElem l1)
    obtain ⟨w2, hw2, r2⟩ := hr'.get (List.getElem?_eq_getElem l2)
    rw [hv1] at hw1
    rw [hv2] at hw2
    cases hw1
    cases hw2
    have r1' := r1
    have r2' := r2
    rw [hfs] at r1'
    rw [hgs] at r2'
    simp only [Rp] at r1' r2'
    obtain ⟨p, dx, fl, rfl, hp, hn, hrp⟩ := r1'
    obtain ⟨p2, dy, gl, rfl, hp2, hn2, hrp2⟩ := r2'
    refine ⟨p, p2, dx, dy, fl, gl, rfl, rfl, s _ _ hp, s _ _ hp2, fun z => ?_, fun H' ext => ?_⟩
    · subst z
      rw [hp] at hp2
      cases hp2
      have key : ta = tb := dp_fields hrp hrp2 tf tg
      rw [ee, key, ilEq_eq, decide_eq_true rfl]
    · refine ⟨rfl, F, _, .bl (eI 2 us ws i), s.trans ext, ?_, ef, fun F2 H2 v st rv => ⟨by simpa only [Rp] using rv, st.hh⟩⟩
      simp only [RpL]
      exact ⟨r1, r2, trivial⟩
  · rw [← hr.len, ← h3, ← bnot_eq]
    exact kk F H' _ ⟨Sb.refl _, s.trans ext, ext, fun _ _ z => .inl z⟩ (rv_bl _)
theorem xneT {a b : Expr} {ma mb : M} {pos : Pos} (q : Dnd X.prog X.w X.K X.mg X.base cl k 2 "__eq__" 2 f) (hr : Room j X.A) (hk : k + 1 ≤ j) (ha : PE X a (tM cl ma)) (hb : PE X b (tM cl mb)) : PE X (.Compare a [.NotEq] [b] pos) (tM cl (e2 (fTNe f) ma mb)) := by
  obtain ⟨fa, fd, ps, c0, c1, c2, FF, bb⟩ := q.ex
  exact j_cmp (op_neT c1 c2 FF bb (hr.mono hk)) om_neT ha hb (nomark _)
theorem tneT {a b : Expr} {ma mb : M} {pos : Pos} (q : Dnd X.prog X.w X.K X.mg X.base cl k 2 "__eq__" 2 f) (hr : Room j X.A) (hk : k + 1 ≤ j) (ha : PE X a (tM cl ma)) (hb : PE X b (tM cl mb)) : PT X (.Compare a [.NotEq] [b] pos) (tT cl (tB1 (e2 (fTNe f) ma mb))) := by
  obtain ⟨fa, fd, ps, c0, c1, c2, FF, bb⟩ := q.ex
  exact jt_cmp (op_neT c1 c2 FF bb (hr.mono hk)) om_neT ha hb (nomark _)
end
end Ct
end
end
section
set_option Elab.async false
set_option linter.all false
set_option maxRecDepth 100000
set_option maxHeartbeats 4000000
noncomputable section
namespace Ct
open PySem PySem.Spec PyProof.Rows L2
/-! ### a list of lists that are changed in place (slot i), all other slots frozen -/
/-- no slot holds a thing of its own -/
def Nm (env : List U) : Prop := ∀ (j : Nat) w, env[j]? = some w → w.mut = false
structure GR (F H0 H : Hp) (σ : Sig) (i : Nat) (a : Addr) (bs : List Addr) (M : List (List Int)) : Prop where
  slot : σ[i]? = some (some (.ref a))
  ha : H a = some (.lst (bs.map V.ref))
  na : F a = none ∧ H0 a = none
  nd : (a :: bs).Nodup
  nb : ∀ b ∈ bs, F b = none ∧ H0 b = none
  len : M.length = bs.length
  row : ∀ (j : Nat) b, bs[j]? = some b → ∃ r, M[j]? = some r ∧ H b = some (.lst (r.map V.int))
structure G2 (cl : Cl) (F0 H0 F H : Hp) (env : List U) (σ : Sig) (i : Nat) (M : List (List Int)) : Prop where
  sr : SR cl F0 H0 F H env σ
  nm : Nm env
  no : env[i]? = some .no
  gr : ∃ a bs, GR F H0 H σ i a bs M
abbrev MG := List (List Int) → List U → Option (List (List Int) × List U)
def tG2 (cl : Cl) (i : Nat) (m : MG) : TS := fun D σ H => ∃ F0 H0 F env M r, G2 cl F0 H0 F H env σ i M ∧ m M env = some r ∧ ∀ F' H' σ', G2 cl F0 H0 F' H' r.2 σ' i r.1 → D.nx σ' H'
section
variable {cl : Cl} {F0 H0 F H F' H' : Hp} {env : List U} {σ : Sig} {X : Cx} {K : PySem.W.Frag} {i j : Nat} {M : List (List Int)} {tg : Expr}
theorem Nm.set {u : U} (h : Nm env) (n : u.mut = false) (j : Nat) : Nm (lset env j u) := fun k w e => by
  rcases get_lset e with ⟨_, rfl⟩ | ⟨_, e⟩
  · exact n
  · exact h k w e
theorem new_lst {b : Addr} {vs : List V} (s : Stp F H F' H') (n : F b = none) (h : H b = some (.lst vs)) : F' b = none := by
  cases q : F' b with
  | none => rfl
  | some o =>
    rcases s.new b o q with z | z
    · rw [n] at z; cases z
    · obtain ⟨xs, z⟩ := z _ h; cases z
theorem GR.step {a : Addr} {bs : List Addr} (g : GR F H0 H σ i a bs M) (s : Stp F H F' H') : GR F' H0 H' σ i a bs M := by
  refine ⟨g.slot, s.hh _ _ g.ha, ⟨new_lst s g.na.1 g.ha, g.na.2⟩, g.nd, fun b hb => ?_, g.len, fun j b h => ?_⟩
  · obtain ⟨j, hj⟩ := List.getElem?_of_mem hb
    obtain ⟨r, _, hr⟩ := g.row j b hj
    exact ⟨new_lst s (g.nb b hb).1 hr, (g.nb b hb).2⟩
  · obtain ⟨r, h1, h2⟩ := g.row j b h
    exact ⟨r, h1, s.hh _ _ h2⟩
theorem G2.step (g : G2 cl F0 H0 F H env σ i M) (s : Stp F H F' H') : G2 cl F0 H0 F' H' env σ i M := by
  obtain ⟨a, bs, gr⟩ := g.gr
  exact ⟨g.sr.step s, g.nm, g.no, a, bs, gr.step s⟩
theorem G2.set (g : G2 cl F0 H0 F H env σ i M) (hj : j ≠ i) {u : U} {v : V} (r : Rp cl F u v) : G2 cl F0 H0 F H (lset env j u) (σ.set j (some v)) i M := by
  obtain ⟨a, bs, gr⟩ := g.gr
  refine ⟨g.sr.set j r (rp_own r), g.nm.set (mut_own (rp_own r)) j, ?_, a, bs, ⟨?_, gr.ha, gr.na, gr.nd, gr.nb, gr.len, gr.row⟩⟩
  · rw [lset_eq, List.getElem?_set_ne hj]; exact g.no
  · rw [List.getElem?_set_ne hj]; exact gr.slot
theorem G2.rebase (g : G2 cl F0 H0 F H env σ i M) : G2 cl F H0 F H env σ i M := ⟨g.sr.rebase, g.nm, g.no, g.gr⟩
theorem G2.back {env' : List U} {σ' : Sig} {H1 : Hp} {M' : List (List Int)} (s : SR cl F0 H0 F H1 env σ) (t : G2 cl F H0 F' H' env' σ' i M') : G2 cl F0 H0 F' H' env' σ' i M' := ⟨s.back t.sr, t.nm, t.no, t.gr⟩
theorem G2.apart {a : Addr} (h : Nm env) : Apart env σ a := fun j w e m => by rw [h j w e] at m; cases m
/-- x = e -/
def gSet (j : Nat) (me : Ct.M) : MG := fun M env => ob (me env) fun u => ob (chk u) fun u => some (M, lset env j u)
theorem gs_set {st : Stmt} {me : Ct.M} (hj : j ≠ i) (h : PS X st (tAsg (tM cl me) (gName j))) : PS X st (tG2 cl i (gSet j me)) := h.wk fun D σ H ⟨F0, H0, F, env, M, r, g, e, k⟩ => by
  obtain ⟨u, eu, e⟩ := ob_some e
  obtain ⟨u', ec, e⟩ := ob_some e
  obtain ⟨rfl, hn⟩ := chk_some ec
  cases e
  exact ⟨F, env, u, g.sr.er, eu, fun F' H' v s rv => k F' H' _ ((g.step s).set hj (rv.rp hn))⟩
/-- one after the other -/
def gSeq (m n : MG) : MG := fun M env => ob (m M env) fun p => n p.1 p.2
theorem gs_cons {st : Stmt} {rest : List Stmt} {m n : MG} (h : PS X st (tG2 cl i m)) (h' : PSs X rest (tG2 cl i n)) : PSs X (st :: rest) (tG2 cl i (gSeq m n)) := (pss_cons h h').wk fun D σ H ⟨F0, H0, F, env, M, r, g, e, k⟩ => by
  obtain ⟨p, ep, e⟩ := ob_some e
  exact ⟨F0, H0, F, env, M, p, g, ep, fun F' H' σ' g' => ⟨F0, H0, F', p.2, p.1, r, g', e, k⟩⟩
theorem gs_one {st : Stmt} {m : MG} (h : PS X st (tG2 cl i m)) : PSs X [st] (tG2 cl i m) := pss_one h
/-- loops -/
def forG (j : Nat) (m : MG) (us : List U) : MG := List.rec (motive := fun _ => MG) (fun M env => some (M, env)) (fun u _ r M env => ob (m M (lset env j u)) fun p => r p.1 p.2) us
def gFor (w : MA) (j : Nat) (m : MG) : MG := fun M env => ob (w env) fun us => forG j m us M env
theorem gs_for {tg iter : Expr} {body : List Stmt} {pos : Pos} {w : MA} {m : MG} (hj : j ≠ i) (hp : PassesOwn (model X.prog X.w) X.A X.env X.xe) (hc : X.calm = true) (hi : PI X tg iter (tW cl w)) (hg : PG X tg (gName j)) (hb : PSs X body (tG2 cl i m))
    (hs : ∀ x, foldedSetIterable iter X.env x = pure x := by intro _; rfl) : PS X (.For tg iter body [] pos) (tG2 cl i (gFor w j m)) :=
  (ps_for hp hc hi hg hb hs).wk fun D σ H ⟨F0, H0, F, env, M, o, g, e, k⟩ => by
    obtain ⟨us, ew, e⟩ := ob_some e
    refine ⟨F, env, us, g.sr.er, ew, fun F1 H1 J s1 wk => ?_⟩
    refine ⟨fun n m' σ' H' => m' = us.length - n ∧ n ≤ us.length ∧ ∃ F' env' M', G2 cl F0 H0 F' H' env' σ' i M' ∧ Sb F1 F' ∧ forG j m (us.drop n) M' env' = some o, ⟨us.length, rfl, Nat.zero_le _, F1, env, M, g.step s1, Sb.refl _, e⟩, ?_⟩
    rintro n m' σ2 H2 ⟨rfl, hi', F2, env2, M2, g2, sb, e2⟩
    obtain ⟨stop, go⟩ := wk F2 H2 sb g2.sr.er.sb
    by_cases hlt : n < us.length
    · right
      obtain ⟨q1, q2⟩ := go n us[n] (List.getElem?_eq_getElem hlt)
      rw [List.drop_eq_getElem_cons hlt] at e2
      obtain ⟨p, ep, e3⟩ := ob_some (show ob (m M2 (lset env2 j us[n])) (fun p => forG j m (us.drop (n + 1)) p.1 p.2) = some o from e2)
      refine ⟨q1, fun σ' H' => n + 1 ≤ us.length ∧ ∃ F' env' M', G2 cl F0 H0 F' H' env' σ' i M' ∧ Sb F1 F' ∧ forG j m (us.drop (n + 1)) M' env' = some o, fun σ' H' ⟨q1, q2⟩ => ⟨us.length - (n + 1), by omega, rfl, q1, q2⟩, fun x H3 y => ?_⟩
      obtain ⟨F3, s3, rx⟩ := q2 x H3 y
      have g3 := (g2.step s3).set hj rx
      exact ⟨F3, H0, F3, _, M2, p, g3.rebase, ep, fun F' H' σ' g4 => ⟨hlt, F', p.2, p.1, G2.back g3.sr g4, (sb.trans s3.ff).trans g4.sr.stp.ff, e3⟩⟩
    · left
      have hi2 : n = us.length := by omega
      subst hi2
      rw [List.drop_length] at e2
      cases e2
      exact ⟨stop, k F2 H2 σ2 g2⟩
/-- rows[j][k] = rows[j][k] + 1 -/
def gInc (mj mk : Ct.M) : MG := fun M env => ob (mj env) fun x => ob (asN x) fun x => ob (mk env) fun y => ob (asN y) fun y => ob (nth M x) fun r => ob (nth r y) fun v => some (lset M x (lset r y (Int.add v (.ofNat 1))), env)
theorem nodup_get {l : List Addr} (h : l.Nodup) {x y : Nat} {b : Addr} (h1 : l[x]? = some b) (h2 : l[y]? = some b) : x = y := by
  obtain ⟨l1, e1⟩ := List.getElem?_eq_some_iff.mp h1
  obtain ⟨l2, e2⟩ := List.getElem?_eq_some_iff.mp h2
  by_cases q : x = y
  · exact q
  · exact absurd (e1.trans e2.symm) (by
      rcases Nat.lt_or_gt_of_ne q with z | z
      · exact List.pairwise_iff_getElem.mp h x y l1 l2 z
      · exact fun w => List.pairwise_iff_getElem.mp h y x l2 l1 z w.symm)
theorem gs_inc {st : Stmt} {mj mk : Ct.M} (h : PS X st (tAsg (tOp (rI0 fun i j => .int (i + j)) (tOp (rIxL X.K) (tOp (rIxL X.K) (tVar i) (tM cl mj)) (tM cl mk)) (tC (.int 1))) (gSub (tOp (rIxL X.K) (tVar i) (tM cl mj)) (tM cl mk) rSetL))) :
    PS X st (tG2 cl i (gInc mj mk)) := h.wk fun D σ H ⟨F0, H0, F, env, M, r, g, e, k⟩ => by
  obtain ⟨x0, ex0, e⟩ := ob_some e
  obtain ⟨x, ex, e⟩ := ob_some e
  obtain ⟨y0, ey0, e⟩ := ob_some e
  obtain ⟨y, ey, e⟩ := ob_some e
  obtain ⟨row, er, e⟩ := ob_some e
  obtain ⟨v, ev, e⟩ := ob_some e
  cases e
  rw [nth_eq] at er ev
  obtain ⟨a, bs, gr⟩ := g.gr
  have hx : x < bs.length := by rw [← gr.len]; exact (List.getElem?_eq_some_iff.mp er).1
  obtain ⟨b, hb⟩ : ∃ b, bs[x]? = some b := ⟨_, List.getElem?_eq_getElem hx⟩
  obtain ⟨row', er', hrow⟩ := gr.row x b hb
  rw [er] at er'
  cases er'
  have hbm : (bs.map V.ref)[x]? = some (.ref b) := by rw [List.getElem?_map, hb]; rfl
  have hvm : (row.map V.int)[y]? = some (.int v) := by rw [List.getElem?_map, ev]; rfl
  refine ⟨.ref a, gr.slot, F, env, x0, g.sr.er, ex0, fun F1 H1 z1 s1 rz1 => ⟨a, bs.map V.ref, x, .ref b, rfl, asN_rv ex rz1, SqL.of (s1.hh _ _ gr.ha), atI_of hbm, ?_⟩⟩
  refine ⟨F1, env, y0, (g.sr.step s1).er, ey0, fun F2 H2 z2 s2 rz2 => ⟨b, row.map V.int, y, .int v, rfl, asN_rv ey rz2, SqL.of (s2.hh _ _ (s1.hh _ _ hrow)), atI_of hvm, ?_⟩⟩
  refine ⟨v, 1, rfl, rfl, ?_⟩
  have s12 := s1.trans s2
  refine ⟨.ref a, gr.slot, F2, env, x0, (g.sr.step s12).er, ex0, fun F3 H3 z3 s3 rz3 => ⟨a, bs.map V.ref, x, .ref b, rfl, asN_rv ex rz3, SqL.of (s3.hh _ _ (s12.hh _ _ gr.ha)), atI_of hbm, ?_⟩⟩
  have s13 := s12.trans s3
  refine ⟨F3, env, y0, (g.sr.step s13).er, ey0, fun F4 H4 z4 s4 rz4 => ?_⟩
  have s14 := s13.trans s4
  have g4 := gr.step s14
  have hy : y < row.length := (List.getElem?_eq_some_iff.mp ev).1
  have hbi : b ∈ bs := List.mem_of_getElem? hb
  have hba : b ≠ a := fun z => by
    subst z
    exact (List.nodup_cons.mp gr.nd).1 hbi
  refine ⟨b, row.map V.int, y, y, rfl, asN_rv ey rz4, s14.hh _ _ hrow, ?_, ?_⟩
  · unfold ixN
    rw [if_pos (by omega), if_pos (by rw [List.length_map]; omega), Int.toNat_natCast]
  · refine k F4 _ σ ⟨(g.sr.step s14).swap (g4.nb b hbi).1 (g4.nb b hbi).2 (G2.apart g.nm), g.nm, g.no, a, bs, ⟨g4.slot, ?_, g4.na, g4.nd, g4.nb, ?_, fun n c hc => ?_⟩⟩
    · rw [upd_ne (Ne.symm hba)]; exact g4.ha
    · rw [lset_eq, List.length_set]; exact g4.len
    · rw [lset_eq, lset_eq]
      by_cases q : n = x
      · subst q
        rw [hb] at hc
        cases hc
        refine ⟨row.set y (v + 1), ?_, ?_⟩
        · rw [List.getElem?_set]
          rw [if_pos rfl, if_pos (by rw [g4.len]; exact hx)]
          rfl
        · rw [upd_same, List.map_set]
      · obtain ⟨r2, h1, h2⟩ := g4.row n c hc
        have hcb : c ≠ b := fun z => by
          subst z
          exact q (nodup_get (List.nodup_cons.mp gr.nd).2 hc hb)
        exact ⟨r2, by rw [List.getElem?_set_ne (fun z => q z.symm)]; exact h1, by rw [upd_ne hcb]; exact h2⟩
/-- all of it frozen -/
def rowsU (M : List (List Int)) : List U := lmap (fun r => U.lst (lmap U.int r)) M
theorem ints_rpL : ∀ r : List Int, RpL cl F (lmap U.int r) (r.map V.int)
  | [] => by simp only [lmap, List.map_nil, RpL]
  | x :: r => by
    show RpL cl F (U.int x :: lmap U.int r) (V.int x :: r.map V.int)
    simp only [RpL, Rp]
    exact ⟨trivial, ints_rpL r⟩
theorem rows_rpL {G : Hp} : ∀ {M : List (List Int)} {bs : List Addr}, M.length = bs.length → (∀ (j : Nat) b, bs[j]? = some b → ∃ r, M[j]? = some r ∧ G b = some (.lst (r.map V.int))) → RpL cl G (rowsU M) (bs.map V.ref)
  | [], [], _, _ => by simp only [rowsU, lmap, List.map_nil, RpL]
  | r :: M, b :: bs, hl, h => by
    show RpL cl G (U.lst (lmap U.int r) :: rowsU M) (V.ref b :: bs.map V.ref)
    simp only [RpL, Rp]
    obtain ⟨r', e, hb⟩ := h 0 b rfl
    cases e
    exact ⟨⟨b, _, rfl, hb, ints_rpL r⟩, rows_rpL (Nat.succ.inj hl) fun j c hc => h (j + 1) c (by simpa using hc)⟩
theorem G2.freeze (g : G2 cl F0 H0 F H env σ i M) : ∃ F', SR cl F0 H0 F' H (lset env i (.lst (rowsU M))) σ := by
  obtain ⟨a, bs, gr⟩ := g.gr
  classical
  let F' : Hp := fun c => if c ∈ a :: bs then H c else F c
  have fin : ∀ c, c ∈ a :: bs → F' c = H c := fun c h => if_pos h
  have fout : ∀ c, c ∉ a :: bs → F' c = F c := fun c h => if_neg h
  have nn : ∀ c, c ∈ a :: bs → F c = none ∧ H0 c = none := fun c h => by
    rcases List.mem_cons.mp h with rfl | h
    · exact gr.na
    · exact gr.nb c h
  have t : Sb F F' := fun c o q => by
    by_cases h : c ∈ a :: bs
    · rw [(nn c h).1] at q; cases q
    · rw [fout c h]; exact q
  have sb : Sb F' H := fun c o q => by
    by_cases h : c ∈ a :: bs
    · rw [fin c h] at q; exact q
    · rw [fout c h] at q; exact g.sr.er.sb c o q
  have ha : F' a = some (.lst (bs.map V.ref)) := by rw [fin a (List.mem_cons_self ..)]; exact gr.ha
  have hr : RpL cl F' (rowsU M) (bs.map V.ref) := rows_rpL gr.len fun j b hb => by
    obtain ⟨r, h1, h2⟩ := gr.row j b hb
    exact ⟨r, h1, by rw [fin b (List.mem_cons_of_mem _ (List.mem_of_getElem? hb))]; exact h2⟩
  refine ⟨F', ⟨sb, by rw [lset_eq, List.length_set, g.sr.er.len], fun j x hx => ?_⟩, ⟨g.sr.stp.ff.trans t, sb, g.sr.stp.hh, fun c o q => ?_⟩, fun j x c hx mx hc => ?_, fun j k x y c jk hx hy mx my hb hc => ?_⟩
  · rcases get_lset hx with ⟨rfl, rfl⟩ | ⟨hj, hx⟩
    · refine .inr ⟨_, gr.slot, ?_⟩
      simp only [Rv, Rp]
      exact ⟨a, _, rfl, ha, hr⟩
    · refine (g.sr.er.slot j x hx).imp id fun ⟨v, h1, h2⟩ => ⟨v, h1, ?_⟩
      have nmx := g.nm j x hx
      cases x <;> first | exact nomatch (show true = false from nmx) | exact Rp.mono (cl := cl) t h2
  · by_cases h : c ∈ a :: bs
    · exact .inr (fz_none (nn c h).2)
    · rw [fout c h] at q; exact g.sr.stp.new c o q
  · rw [(g.nm.set (u := .lst (rowsU M)) rfl i) j x hx] at mx; cases mx
  · rw [(g.nm.set (u := .lst (rowsU M)) rfl i) j x hx] at mx; cases mx
/-! ### [[..] for ..]: fresh lists of ints -/
def tLL (cl : Cl) (m : List U → Option (List (List Int))) : TE := fun σ H Q => ∃ F env M, ER cl F H env σ ∧ m env = some M ∧
  ∀ F' H' p bs, Stp F H F' H' → H p = none → F' p = none → H' p = some (.lst (bs.map V.ref)) → (p :: bs).Nodup → (∀ b ∈ bs, F' b = none ∧ H b = none) → M.length = bs.length →
    (∀ (j : Nat) b, bs[j]? = some b → ∃ r, M[j]? = some r ∧ H' b = some (.lst (r.map V.int))) → Q (.ref p) H'
def lcGL (t : Tg) (mi : MA) (env : List U) (us : List U) : Option (List (List Int)) := List.rec (motive := fun _ => Option (List (List Int))) (some []) (fun u _ r => ob (t.put u env) fun e1 => ob (mi e1) fun y => ob (lints y) fun y => ob r fun ys => some (y :: ys)) us
def lLcL (w : MA) (t : Tg) (mi : MA) (vs : List Nat) : List U → Option (List (List Int)) := fun env => ob (w env) fun us => gd (Nat.ble (llen us) 1000) (lcGL t mi (wipeU env vs) us)
theorem get_snoc {α : Type} {l : List α} {x y : α} {n : Nat} (h : (l ++ [x])[n]? = some y) : l[n]? = some y ∨ n = l.length ∧ y = x := by
  by_cases q : n < l.length
  · rw [List.getElem?_append_left q] at h; exact .inl h
  · rw [List.getElem?_append_right (by omega)] at h
    have : n - l.length = 0 := by
      rcases Nat.eq_zero_or_pos (n - l.length) with z | z
      · exact z
      · rw [List.getElem?_eq_none (by simp only [List.length_cons, List.length_nil]; omega)] at h; cases h
    rw [this] at h
    cases h
    exact .inr ⟨by omega, rfl⟩
theorem tLcL_of {w : MA} {t : Tg} {mi : MA} {vs : List Nat} (hs : ∀ i ∈ t.slots, i ∈ vs) (σ : Sig) (H : Hp) (Q : VK) (h : tLL cl (lLcL w t mi vs) σ H Q) : tLc (tW cl w) (tG cl t) (tT cl tYs) (tL cl mi) vs σ H Q := by
  obtain ⟨F, env, ws, er, e, k⟩ := h
  obtain ⟨us, ew, e⟩ := ob_some e
  obtain ⟨hz, el⟩ := gd_some e
  have hz := Nat.le_of_ble_eq_true hz
  rw [llen_eq] at hz
  refine ⟨F, env, us, er, ew, fun F1 H1 J s1 wk D hD => ?_⟩
  have nF : F1 D = none := s1.fh.none hD
  have h10 : ∀ b, H1 b = none → H b = none := fun b hb => by
    cases q : H b with
    | none => rfl
    | some o => rw [s1.hh b o q] at hb; cases hb
  refine ⟨fun i m H2 => m = us.length - i ∧ i ≤ us.length ∧ ∃ (F2 : Hp) (bs : List Addr) (M rest : List (List Int)), Stp F1 H1 F2 H2 ∧ F2 D = none ∧ H2 D = some (.lst (bs.map V.ref)) ∧ bs.length = i ∧ (D :: bs).Nodup ∧ (∀ b ∈ bs, F2 b = none ∧ H1 b = none) ∧ M.length = bs.length ∧
      (∀ (j : Nat) b, bs[j]? = some b → ∃ r, M[j]? = some r ∧ H2 b = some (.lst (r.map V.int))) ∧ lcGL t mi (wipeU env vs) (us.drop i) = some rest ∧ M ++ rest = ws,
    ⟨us.length, rfl, Nat.zero_le _, F1, [], [], ws, Stp.lay s1.fh hD, nF, upd_same, rfl, List.nodup_cons.mpr ⟨List.not_mem_nil, List.nodup_nil⟩, fun b hb => (List.not_mem_nil hb).elim, rfl, fun j b hb => by simp at hb, el, rfl⟩, ?_⟩
  rintro i m H2 ⟨rfl, hi, F2, bs, M, rest, s2, nF2, hD2, hbi, nd, nb, hl, hrow, er2, eq⟩
  obtain ⟨stop, go⟩ := wk F2 H2 s2.ff s2.fh
  by_cases hlt : i < us.length
  · right
    obtain ⟨g1, g2⟩ := go i us[i] (List.getElem?_eq_getElem hlt)
    rw [List.drop_eq_getElem_cons hlt] at er2
    obtain ⟨env1, ep, er3⟩ := ob_some (show ob (t.put us[i] (wipeU env vs)) (fun e1 => ob (mi e1) fun y => ob (lints y) fun y => ob (lcGL t mi (wipeU env vs) (us.drop (i + 1))) fun ys => some (y :: ys)) = some rest from er2)
    obtain ⟨y0, ey, er3⟩ := ob_some er3
    obtain ⟨y1, ey1, er3⟩ := ob_some er3
    obtain ⟨ys, eys, er3⟩ := ob_some er3
    cases er3
    refine ⟨g1, fun H' => i + 1 ≤ us.length ∧ ∃ (F2 : Hp) (bs : List Addr) (M rest : List (List Int)), Stp F1 H1 F2 H' ∧ F2 D = none ∧ H' D = some (.lst (bs.map V.ref)) ∧ bs.length = i + 1 ∧ (D :: bs).Nodup ∧ (∀ b ∈ bs, F2 b = none ∧ H1 b = none) ∧ M.length = bs.length ∧
      (∀ (j : Nat) b, bs[j]? = some b → ∃ r, M[j]? = some r ∧ H' b = some (.lst (r.map V.int))) ∧ lcGL t mi (wipeU env vs) (us.drop (i + 1)) = some rest ∧ M ++ rest = ws,
      fun H' ⟨q1, q2⟩ => ⟨us.length - (i + 1), by omega, rfl, q1, q2⟩, fun x H3 y => ?_⟩
    obtain ⟨F3, s3, rx⟩ := g2 x H3 y
    refine ⟨F3, us[i], wipeU env vs, env1, s3.fh, rx, ep, fun σ' p => ⟨wipe_put hs p, ?_⟩⟩
    have s13 := s2.trans s3
    have er1 : ER cl F3 H3 env1 σ' := ((wipe_er (er.step s1) vs).step s13).put p
    refine ⟨F3, env1, true, er1, rfl, fun F4 H4 s4 => ?_⟩
    have s34 := s3.trans s4
    have s14 := s2.trans s34
    refine ⟨F4, env1, y0, er1.step s4, ey, fun F5 H5 z zs s5 hz4 nz5 hz5 rz => ?_⟩
    have s25 := s34.trans s5
    have hD5 : H5 D = some (.lst (bs.map V.ref)) := s25.hh _ _ hD2
    have nF5 : F5 D = none := new_lst s25 nF2 hD2
    have hzs := lints_rv ey1 rz
    subst hzs
    have hz1 : H1 z = none := by
      cases q : H1 z with
      | none => rfl
      | some o => rw [s14.hh z o q] at hz4; cases hz4
    have zD : z ≠ D := fun q => by
      subst q
      rw [s34.hh _ _ hD2] at hz4; cases hz4
    have zb : z ∉ bs := fun q => by
      obtain ⟨j, hj⟩ := List.getElem?_of_mem q
      obtain ⟨r, _, hr⟩ := hrow j z hj
      rw [s34.hh _ _ hr] at hz4; cases hz4
    refine ⟨bs.map V.ref, hD5, ?_, hlt, F5, bs ++ [z], M ++ [y1], ys, (s14.trans s5).mut hD nF5, nF5, by rw [upd_same, List.map_append]; rfl, by rw [List.length_append, hbi]; rfl, ?_, fun b hb => ?_, by rw [List.length_append, List.length_append, hl]; rfl, fun n b hb => ?_, eys, by rw [List.append_assoc]; exact eq⟩
    · rw [sizeLine_eq, List.length_map]
      omega
    · have n1 := List.nodup_cons.mp nd
      refine List.nodup_cons.mpr ⟨fun q => ?_, ?_⟩
      · rcases List.mem_append.mp q with q | q
        · exact n1.1 q
        · exact zD (List.mem_singleton.mp q).symm
      · refine List.nodup_append.mpr ⟨n1.2, List.nodup_cons.mpr ⟨List.not_mem_nil, List.nodup_nil⟩, fun x hx y hy => ?_⟩
        rw [List.mem_singleton.mp hy]
        intro q
        subst q
        exact zb hx
    · rcases List.mem_append.mp hb with q | q
      · obtain ⟨j, hj⟩ := List.getElem?_of_mem q
        obtain ⟨r, _, hr⟩ := hrow j b hj
        exact ⟨new_lst s25 (nb b q).1 hr, (nb b q).2⟩
      · rw [List.mem_singleton.mp q]
        exact ⟨nz5, hz1⟩
    · have bD : b ≠ D := fun q => by
        subst q
        have hm := List.mem_of_getElem? hb
        rcases List.mem_append.mp hm with q | q
        · exact (List.nodup_cons.mp nd).1 q
        · exact zD (List.mem_singleton.mp q).symm
      rcases get_snoc hb with q | ⟨hn, q⟩
      · obtain ⟨r, h1, h2⟩ := hrow n b q
        refine ⟨r, ?_, by rw [upd_ne bD]; exact s25.hh _ _ h2⟩
        rw [List.getElem?_append_left (List.getElem?_eq_some_iff.mp h1).1]; exact h1
      · subst q
        refine ⟨y1, ?_, by rw [upd_ne bD]; exact hz5⟩
        rw [List.getElem?_append_right (by omega), hn, hl, Nat.sub_self]; rfl
  · left
    have hi' : i = us.length := by omega
    subst hi'
    rw [List.drop_length] at er2
    have e0 : (some [] : Option (List (List Int))) = some rest := er2
    cases e0
    rw [List.append_nil] at eq
    subst eq
    exact ⟨stop, k F2 H2 D bs (s1.trans s2) (h10 D hD) nF2 hD2 nd (fun b hb => ⟨(nb b hb).1, h10 b (nb b hb).2⟩) hl hrow⟩
/-- rows = [[..]]; statements on it; then, frozen -/
def sRows (i : Nat) (m0 : List U → Option (List (List Int))) (m1 : MG) (m2 : MS) : MS := fun env => ob (m0 env) fun M => ob (m1 M (lset env i .no)) fun p => m2 (lset p.2 i (.lst (rowsU p.1)))
def frzs (us : List U) : Bool := List.rec (motive := fun _ => Bool) true (fun u _ r => Bool.rec r false (U.mut u)) us
theorem frzs_nm : ∀ {us : List U}, frzs us = true → Nm us
  | [], _, j, w, h => by simp at h
  | u :: us, hf, j, w, h => by
    have hf' : (Bool.rec (frzs us) false (U.mut u) : Bool) = true := hf
    cases hm : u.mut with
    | true => rw [hm] at hf'; cases hf'
    | false =>
      rw [hm] at hf'
      cases j with
      | zero => simp at h; subst h; exact hm
      | succ j => exact frzs_nm hf' j w (by simpa using h)
theorem get_lset_self {α : Type} {xs : List α} {i : Nat} {v : α} (h : i < xs.length) : (lset xs i v)[i]? = some v := by
  rw [lset_eq, List.getElem?_set, if_pos rfl, if_pos h]
theorem jss_rows {st st1 : Stmt} {rest : List Stmt} {te : TE} {m0 : List U → Option (List (List Int))} {m1 : MG} {m2 : MS} (h : PS X st (tAsg te (gName i))) (w : ∀ σ H Q, tLL cl m0 σ H Q → te σ H Q) (h1 : PS X st1 (tG2 cl i m1)) (h2 : PSs X rest (tS cl m2)) :
    PSs X (st :: st1 :: rest) (tS cl (fun env => gd (frzs env) (gd (Nat.ble (Nat.succ i) (llen env)) (sRows i m0 m1 m2 env)))) := (pss_cons h (pss_cons h1 h2)).wk fun D σ H ⟨F0, H0, F, env, o, sr, e, k⟩ => by
  obtain ⟨hf, e⟩ := gd_some e
  obtain ⟨hi, e⟩ := gd_some e
  have hi := Nat.le_of_ble_eq_true hi
  rw [llen_eq] at hi
  obtain ⟨M, eM, e⟩ := ob_some e
  obtain ⟨p, ep, e⟩ := ob_some e
  refine w _ _ _ ⟨F, env, M, sr.er, eM, fun F1 H1 a bs s ha0 na ha nd nb hl hrow => ?_⟩
  have n0 : ∀ b, H b = none → H0 b = none := fun b hb => by
    cases q : H0 b with
    | none => rfl
    | some x => rw [sr.stp.hh b x q] at hb; cases hb
  have hN := frzs_nm hf
  have s1 := sr.step s
  have sr1 : SR cl F0 H0 F1 H1 (lset env i .no) (σ.set i (some (.ref a))) := by
    have q : ER cl F1 H1 (lset env i .no) (σ.set i (some (.ref a))) := by
      refine ⟨s1.er.sb, by rw [lset_eq, List.length_set, List.length_set, s1.er.len], fun j x hx => ?_⟩
      rcases get_lset hx with ⟨rfl, rfl⟩ | ⟨hj, hx⟩
      · exact .inl rfl
      · refine (s1.er.slot j x hx).imp id fun ⟨v, h1, h2⟩ => ⟨v, ?_, h2⟩
        rw [List.getElem?_set_ne (Ne.symm hj)]; exact h1
    exact ⟨q, s1.stp, fun j x b hx mx _ => absurd mx (by rw [(hN.set (u := .no) rfl i) j x hx]; decide), fun j k x y b _ hx _ mx _ _ _ => absurd mx (by rw [(hN.set (u := .no) rfl i) j x hx]; decide)⟩
  have slot : (σ.set i (some (.ref a)))[i]? = some (some (.ref a)) := by
    rw [List.getElem?_set, if_pos rfl, if_pos (by rw [← sr.er.len]; exact hi)]
  refine ⟨F0, H0, F1, lset env i .no, M, p, ⟨sr1, hN.set rfl i, get_lset_self hi, a, bs, ⟨slot, ha, ⟨na, n0 a ha0⟩, nd, fun b hb => ⟨(nb b hb).1, n0 b (nb b hb).2⟩, hl, hrow⟩⟩, ep, fun F2 H2 σ2 g => ?_⟩
  obtain ⟨F3, sr3⟩ := g.freeze
  exact ⟨F0, H0, F3, _, o, sr3, e, k⟩
end
end Ct
end
end
section
set_option Elab.async false
set_option linter.all false
set_option maxRecDepth 100000
set_option maxHeartbeats 4000000
noncomputable section
namespace Ct
open PySem PySem.Spec PyProof.Rows L2 LamX NdefX
open PySem.W (keyToks alike dataLt dataLe AllAlike Sortable EachIs SortsAt sortVals KeyedOut)

/-! ### the end of list.sort(key=..): the keys are there -/
section
variable {prog : Program} {w : World} {A : Around} {E : Value → Shared → Prop} {s : Shared} {a kS : Addr} {vs : List Value} {keys : Array Value} {e e1 : Nat} {P : PySem.Fin → Shared → Prop}
theorem key_end2 {κ : PyProof.Rows.KeyKind} (nk : s.heap.get? kS = some (seqObj "list" keys e)) (na : s.heap.get? a = some (seqObj "list" #[] e1)) (hka : kS ≠ a) (S : SortsAt prog w A s κ keys.toList) (hsz : keys.size = vs.length) (hZ : vs.length ≤ sizeLine)
    (h : ∀ h' tk c, (∀ b o, b ≠ a → b ≠ kS → s.heap.get? b = some o → h'.get? b = some o) → h'.get? a = some (seqObj "list" (sortVals κ false keys.toList vs).toArray c) → P (.done (.ret .none)) { s with heap := h', toks := tk }) :
    wpAny (model prog w) A (ksk_end a false vs.toArray e1 (.ref kS) keys) P E s := by
  have hkl : keys.toList.length = vs.length := by rw [Array.length_toList]; exact hsz
  have hol : (sortVals κ false keys.toList vs).length = vs.length := PySem.W.sortVals_length false hkl
  have hss : (keys.zip vs.toArray).size = vs.length := by rw [Array.size_zip, hsz, List.size_toArray, Nat.min_self]
  -- the tail, at any end of the sort that is right
  have tail : ∀ st : SortSt, failedOf st = none → ((arrOf st).map (·.2)) = (sortVals κ false keys.toList vs).toArray → wpAny (model prog w) A (ksk_tail a false e1 (.ref kS) st) P E s := fun st hfl ho => by
    have s1 := Heap.SameBut.update s.heap kS (Obj.mapSeq fun _ => (#[] : Array Value))
    have na1 : (s.heap.update kS (Obj.mapSeq fun _ => (#[] : Array Value))).get? a = some (seqObj "list" #[] e1) := (s1.2 a hka.symm).trans na
    have s2 := Heap.SameBut.update (s.heap.update kS (Obj.mapSeq fun _ => (#[] : Array Value))) a (Obj.mapSeq fun _ => (sortVals κ false keys.toList vs).toArray)
    obtain ⟨c2, hc2⟩ : ∃ c2, ((s.heap.update kS (Obj.mapSeq fun _ => (#[] : Array Value))).update a (Obj.mapSeq fun _ => (sortVals κ false keys.toList vs).toArray)).get? a = some (seqObj "list" (sortVals κ false keys.toList vs).toArray c2) :=
      ⟨_, get?_update_seq na1 fun _ => (sortVals κ false keys.toList vs).toArray⟩
    unfold ksk_tail
    try dsimp only
    rw [if_neg Bool.false_ne_true, ho]
    refine wpAny_bind (listUpdate_at nk rfl ?_ (by rw [hsz]; exact hZ) (Nat.zero_le _))
    refine wpAny_bind (wpAny_letGo ?_)
    refine wpAny_bind (seqEpoch_at na1 rfl ?_)
    refine wpAny_bind (listUpdate_at na1 rfl ?_ (Nat.zero_le _) (by rw [List.size_toArray, hol]; exact Nat.le_succ_of_le hZ))
    rw [hfl]
    simp only [bne_self_eq_false, Bool.false_eq_true, if_false]
    exact wpAny_pure (h _ _ c2 (fun b o h1 h2 q => (s2.2 b h1).trans ((s1.2 b h2).trans q)) hc2)
  obtain ⟨kd, h1, h2⟩ := S.kind
  have hK : PyProof.Rows.KeysOf κ (keys.zip vs.toArray) := PySem.W.keysOf_zip S.keys
  have fin : ∀ st' : SortSt, (arrOf st').Perm (keys.zip vs.toArray) → SortedToK κ (arrOf st') (keys.zip vs.toArray).size → Stable κ (arrOf st') (keys.zip vs.toArray) → ((arrOf st').map (·.2)) = (sortVals κ false keys.toList vs).toArray := fun st' hp hs ht => by
    have e := PySem.W.sort_out (rev := false) (keys := keys) (items := vs.toArray) (xs := arrOf st') (κ := κ) hK (by rw [if_neg Bool.false_ne_true]; exact hp) (by rw [if_neg Bool.false_ne_true]; exact hs) (by rw [if_neg Bool.false_ne_true]; exact ht)
    rw [if_neg Bool.false_ne_true] at e
    have e' := congrArg List.toArray e
    rw [Array.toArray_toList] at e'
    exact e'
  unfold ksk_end
  try dsimp only
  simp only [Bool.false_eq_true, if_false]
  by_cases hl2 : vs.toArray.size < 2
  · rw [if_pos hl2, if_pos hl2]
    refine wpAny_bind (wpAny_pure ?_)
    rw [StateT.run_pure]
    refine wpAny_bind (wpAny_pure ?_)
    try dsimp only
    refine tail (SortSt.mk' general' (keys.zip vs.toArray) #[] 7 none) rfl (fin _ (Array.Perm.refl _) (fun i j hij hj => ?_) (Stable.refl _))
    rw [hss] at hj
    rw [List.size_toArray] at hl2
    have : i = j := by omega
    subst this
    exact KeyOrd.kle_refl _
  · rw [if_neg hl2, if_neg hl2]
    rw [List.size_toArray] at hl2
    refine wpAny_bind (h2 (by omega) _ ?_)
    refine wpAny_bind (wpAny_mono (H.wpS_sortRunsSt (κ := κ) (kd := kd) (a₀ := keys.zip vs.toArray)
      (st := SortSt.mk' kd (keys.zip vs.toArray) #[] 7 none)
      (Q := fun _ st' => failedOf st' = none ∧ ((arrOf st').map (·.2)) = (sortVals κ false keys.toList vs).toArray)
      h1 hK ⟨Array.Perm.refl _, rfl, rfl⟩ rfl (Stable.refl _) (by rw [hss]; omega) fun st' a1 a2 a3 a4 => ⟨a2, fin st' a1 a3 a4⟩) ?_ fun _ _ e => e)
    rintro ⟨⟨⟩, st'⟩ s' ⟨rfl, hf, ho⟩
    exact tail st' hf ho
end
section
variable {X : Cx} {pins : List (Addr × Obj)} {σ : L2.St} {H : Hp} {s : Shared}
/-- an untracked record of ours is known from now on, another has turned -/
theorem inv_adopt2 {a b : Addr} {o : HO} {h' : Heap} {t' : Nat} (I : Inv X pins σ H s) (fa : FpOk X pins H a) (fb : FpOk X pins H b) (k : ∀ c u, c ≠ a → c ≠ b → s.heap.get? c = some u → h'.get? c = some u) (new : ObjOk X.prog X.w (upd H a o) h' a o) :
    Inv X pins σ (upd H a o) { s with heap := h', toks := t' } := by
  obtain ⟨a0, a1, a2, a3, a4, a5⟩ := fa
  obtain ⟨b0, b1, b2, b3, b4, b5⟩ := fb
  have nab : ∀ c, c ∉ [a, b] → c ≠ a ∧ c ≠ b := fun c hc => ⟨fun z => hc (by simp [z]), fun z => hc (by simp [z])⟩
  have tr : ∀ c u, H c = some u → c ≠ a ∧ c ≠ b := fun c u e => ⟨ne_of_none e a0, ne_of_none e b0⟩
  refine I.step (g' := s.gens) (d' := s.drawn) (ch := [a, b]) (fun c hc => ?_) (fun c u _ _ hc e _ => k c u (nab c hc).1 (nab c hc).2 e) (fun c u _ _ hc e _ => ⟨u.slots, k c u (nab c hc).1 (nab c hc).2 e⟩) (fun c u hc _ n => by rw [upd_ne (nab c hc).1]; exact n)
    (fun c u hc e => ⟨u, k c u (nab c hc).1 (nab c hc).2 e⟩) (fun c xs e => by rw [upd_ne (tr c _ e).1]; exact e) (fun c u v e => by rw [upd_ne (tr c _ e).1]; exact e) (fun c ps e => ⟨#[], by rw [upd_ne (tr c _ e).1, e]; simp⟩) (fun m hm => ?_) (fun c u e => ?_) I.bare
  · rcases List.mem_cons.mp hc with rfl | hc
    · exact ⟨a3, a1, a4, a5⟩
    · rw [List.mem_singleton.mp hc]
      exact ⟨b3, b1, b4, b5⟩
  · obtain ⟨o, es, ep, ho, r⟩ := hm
    exact ⟨o, es, ep, k _ o (Ne.symm a1) (Ne.symm b1) ho, r⟩
  · by_cases hc : c = a
    · subst hc
      rw [upd_same] at e
      cases e
      exact new
    · rw [upd_ne hc] at e
      refine (I.hok c u e).stay (fun d v hd q => ?_) (fun d q => by rw [upd_ne (tr d _ q).1]; exact q) fun d xs q => by rw [upd_ne (tr d _ q).1]; exact q
      rcases hd with z | z
      · subst z
        exact k d v (tr d _ e).1 (tr d _ e).2 q
      · exact k d v (tr d _ z).1 (tr d _ z).2 q
end
/-! ### a lambda's promise -/
structure LOk (P : Program) (w : World) (K : PySem.W.Frag) (mg : Str → Option Value) (base : Heap) (k : Nat) (f : Addr) (qual : Str) (params : Arguments) (body : Expr) (scope : Scope) (cl : List (Str × Addr)) (c' : Addr) (ps fr : List Str) (sp : List (Option V) → Sp) : Prop where
  run : ∀ (A : Around) (outer : List Env) (s : Shared) (H : Hp) (us : List Value) (vs : List V) (ws : List (Option V)) (Q : VK) (pm ctv : Value), Room k A → Env0 P w K mg base A outer s H → s.heap.get? f = some (PySem.W.kla_obj "<lambda>" qual params body scope cl pm c' ctv) → H c' = some (CodeO c' qual) →
    CellsAt cl fr ws s.heap H → Vals vs us → sp ws vs H Q E0 → codeAny (model P w) A (.call (.ref f) ⟨us, []⟩) (CR CX0 outer P w H s Q E0) s
section
variable {P : Program} {w : World} {K : PySem.W.Frag} {mg : Str → Option Value} {base : Heap} {N ps fr : List Str} {f c' : Addr} {k : Nat} {sp : List (Option V) → Sp} {qual : Str} {params : Arguments} {body : Expr} {scope : Scope} {cl : List (Str × Addr)}
abbrev lamF (qual : Str) (params : Arguments) (scope : Scope) (cl : List (Str × Addr)) (c' : Addr) : NF := ⟨"<lambda>", qual, params, [], scope, cl, c'⟩
theorem lok_of (S : NScope N ps fr scope) (hb : ∀ (q : Str) (l : List (Str × Addr)) (pm cv ctv : Value) (us : List Value), us.length = ps.length → bindArgs (PySem.W.kla_fn "<lambda>" q params body scope l pm cv ctv) ⟨us, []⟩ = pure (ps.zip us)) (len : ∀ ws vs H Q E, sp ws vs H Q E → vs.length = ps.length)
    (hbody : ∀ (A : Around) (outer : List Env) (s : Shared) (H : Hp) (vs : List V) (ws : List (Option V)) (Q : VK), Room k (A.deeper (envF (lamF qual params scope cl c') f s.heap.objs.size)) → ws.length = fr.length → sp ws vs H Q E0 →
      ∃ t, PE (ncx CX0 P w K mg base N (lamF qual params scope cl c') f A outer s H E0) body t ∧ t (startF N vs ws) H Q) :
    LOk P w K mg base (k + 1) f qual params body scope cl c' ps fr sp := by
  refine ⟨fun A outer s H us vs ws Q pm ctv hr e0 ho hc C r hsp => ?_⟩
  have hl := len _ _ _ _ _ hsp
  have lim : s.heap.NoLimit := e0.mod.nolimit.keeps fun b o e => (e0.bs b o e).1
  refine PySem.W.kla_callFunE hr.depth ho rfl S.co S.gen rfl (codeO_at e0.hok hc) ?_
  rw [hb _ _ _ _ _ us (by rw [← r.length]; exact hl)]
  refine wpAny_pure (wpAny_newFunctionEnv S.nocell (fun ⟨n, _⟩ hy => S.par n (List.of_mem_zip hy).1) (fun h₁ hns hsb => ⟨lim.fresh _ hsb, ?_⟩) S.kind)
  show codeAny _ _ (.expr body (envF (lamF qual params scope cl c') f s.heap.objs.size)) _ _
  have kp : ∀ b o, s.heap.get? b = some o → h₁.get? b = some o := fun b o e => hsb.extBut b o (Nat.ne_of_lt (Heap.lt_size e)) (Heap.get?_push_of_some _ e)
  obtain ⟨t, ht, hq⟩ := hbody A outer s H vs ws Q (hr.deeper _) C.len hsp
  have I : Inv (ncx CX0 P w K mg base N (lamF qual params scope cl c') f A outer s H E0) [] (startF N vs ws) H { s with heap := h₁, toks := s.toks + (ps.zip us).length } := inv_startN (F := lamF qual params scope cl c') S hr.hd e0 hl r C hns kp
  refine PySem.W.kla_codeExpr (wpAny_mono (ht.run [] _ (startF N vs ws) H _ I hq) (fun v s' hs => ?_) fun e s' hs => hs)
  obtain ⟨v', H', J, rv, q⟩ := hs
  exact ⟨v', H', J.os, J.bare, J.base, J.hok, rv, q⟩
end
end Ct
end
end
section
set_option Elab.async false
set_option linter.all false
set_option maxRecDepth 100000
set_option maxHeartbeats 4000000
noncomputable section
namespace Ct
open PySem PySem.Spec PyProof.Rows L2 LamX NdefX
open PySem.W (keyToks alike dataLt dataLe AllAlike Sortable EachIs SortsAt sortVals KeyedOut)
/-! ### sorted(xs, key=lambda ..) -/
def rKey (K : PySem.W.Frag) (sp : Sp) : V → Hp → VK → Prop := fun x H Q => ∃ (l : Addr) (xs : List V) (J : List V → Hp → Prop), x = .ref l ∧ SqL K H l xs ∧ xs.length ≤ 100000 ∧ J [] H ∧
  (∀ (zs : List V) (y : V) (H1 : Hp), xs[zs.length]? = some y → Ext H H1 → J zs H1 → sp [y] H1 (fun z H2 => Ext H1 H2 ∧ J (zs ++ [z]) H2) E0) ∧
  ∀ (zs : List V) (H1 : Hp), zs.length = xs.length → Ext H H1 → J zs H1 → ∃ ds : List PyData, DpAll K H1 zs ds ∧ AllAlike ds ∧ Sortable ds ∧ (∀ d ∈ ds, d.depth ≤ 60) ∧
    ∀ p, H p = none → H1 p = none → Q (.ref p) (upd H1 p (.lst (((xs.zip ds).mergeSort (dataLe false Prod.snd)).map Prod.fst)))
theorem each_fst : ∀ {xs : List V} {bs : List PyData} {us : List Value}, xs.length = bs.length → Vals xs us → EachIs (fun (v : Value) (b : V × PyData) => RelV b.1 v) us (xs.zip bs)
  | [], _, _, _, r => by cases r; exact .nil
  | x :: xs, [], _, hl, _ => by simp at hl
  | x :: xs, d :: bs, _, hl, r => by
    cases r with
    | cons r1 r2 => exact .cons r1 (each_fst (by simpa using hl) r2)
theorem each_dp {X : Cx} {pins : List (Addr × Obj)} {σ : L2.St} {H : Hp} {s : Shared} (I : Inv X pins σ H s) : ∀ {zs : List V} {ds : List PyData} {us : List Value}, DpAll X.K H zs ds → Vals zs us → EachIs (fun (v : Value) (d : PyData) => ∃ as, Reads s.heap v d as) us ds
  | _, _, _, .nil, r => by cases r; exact .nil
  | _, _, _, .cons h t, r => by
    cases r with
    | cons r1 r2 => exact .cons (Dp.reads I _ _ _ h r1) (each_dp I t r2)
theorem vals_snoc {v : V} {u : Value} (h : RelV v u) : ∀ {vs : List V} {us : List Value}, Vals vs us → Vals (vs ++ [v]) (us ++ [u])
  | _, _, .nil => .cons h .nil
  | _, _, .cons h1 h2 => .cons h1 (vals_snoc h h2)
section
variable {X : Cx} {cl : List (Str × Addr)} {ps fr : List Str} {js : List Nat} {k : Nat} {sp : List (Option V) → Sp} {qual : Str} {params : Arguments} {body : Expr} {scope : Scope}
theorem sortK_run {pins : List (Addr × Obj)} {σ : L2.St} {H : Hp} {s : Shared} {Q : VK} {f c' : Addr} {x : V} {u : Value} {pm ctv : Value} (Fn : LOk X.prog X.w X.K X.mg X.base k f qual params body scope cl c' ps fr sp) (cp : X.Ok → Caps X cl fr js) (hr : Room (k + 2) X.A) (hu : X.A.units + 64 < cLine)
    (I : Inv X pins σ H s) (rx : RelV x u) (hf : s.heap.get? f = some (PySem.W.kla_obj "<lambda>" qual params body scope cl pm c' ctv)) (hf0 : H f = none) (hfL : f ≠ X.env.locals) (hfs : f ∉ X.fs) (hc : H c' = some (CodeO c' qual)) (h : rKey X.K (sp (js.map (slotAt σ))) x H Q) :
    wpAny (model X.prog X.w) X.A (call (.builtin "sorted") [u] [(Str.ofString "key", .ref f)]) (EP X pins σ Q) X.xe s := by
  obtain ⟨l, xs, J, rfl, hs, hz, J0, turn, fin⟩ := h
  cases rx
  obtain ⟨its, rv, hl, hzl⟩ := I.list hs
  have hzi : its.length ≤ sizeLine := by rw [← rv.length]; exact hzl
  refine PySem.W.sorted_of_sort (vs := its) hl.isList hzi (ksk_s1 _ _) (fun _ => ksk_l1 _ _) fun E' => ?_
  rw [ksk_t1]
  -- the copy, the held tuple, the keys
  generalize ha : s.heap.objs.size + 1 = a
  have ho : (PySem.W.copyHeap s.heap its).get? a = some (seqObj "list" its.toArray 0) := by rw [← ha]; exact PySem.W.copyHeap_at s.heap its
  obtain ⟨e1, ho1⟩ : ∃ e1, ((PySem.W.copyHeap s.heap its).update a (Obj.mapSeq fun _ => (#[] : Array Value))).get? a = some (seqObj "list" #[] e1) := ⟨_, get?_update_seq ho fun _ => #[]⟩
  unfold ksk_tree
  refine wpAny_bind (listItems_at ho rfl ?_)
  refine wpAny_bind (listUpdate_at ho rfl ?_ (by rw [List.size_toArray]; exact hzi) (Nat.zero_le _))
  refine wpAny_bind (seqEpoch_at ho1 rfl ?_)
  refine wpAny_bind (wpAny_newTuple ?_ (by show its.length ≤ _; exact hzi))
  refine wpAny_bind (wpAny_newList ?_ (Nat.zero_le _))
  refine wpAny_holding ?_
  generalize hG1 : ((PySem.W.copyHeap s.heap its).update a (Obj.mapSeq fun _ => (#[] : Array Value))).push (seqObj "tuple" its.toArray 0) = G1
  generalize hkS : G1.objs.size = kS
  generalize hG : G1.push (seqObj "list" #[] 0) = G
  have aG1 : G1.get? a = some (seqObj "list" #[] e1) := by rw [← hG1]; exact Heap.get?_push_of_some _ ho1
  have hka : kS ≠ a := by rw [← hkS]; exact (Nat.ne_of_lt (Heap.lt_size aG1)).symm
  have aG : G.get? a = some (seqObj "list" #[] e1) := by rw [← hG]; exact Heap.get?_push_of_some _ aG1
  have kG : G.get? kS = some (seqObj "list" #[] 0) := by rw [← hG, ← hkS]; exact Heap.get?_push_size _ rfl
  have sza : s.heap.objs.size ≤ a := by rw [← ha]; exact Nat.le_succ _
  have keep1 : ∀ b o, s.heap.get? b = some o → G1.get? b = some o := fun b o q => by
    have hb := Heap.lt_size q
    rw [← hG1]
    refine Heap.get?_push_of_some _ ?_
    rw [Heap.get?_update_ne _ _ _ _ (Nat.ne_of_lt (Nat.lt_of_lt_of_le hb sza))]
    exact PySem.W.copyHeap_old q
  have keepG : ∀ b o, s.heap.get? b = some o → G.get? b = some o := fun b o q => by rw [← hG]; exact Heap.get?_push_of_some _ (keep1 b o q)
  have szk : s.heap.objs.size ≤ kS := by
    refine Nat.le_of_not_lt fun z => ?_
    have q1 : s.heap.objs.size ≤ G1.objs.size := by
      rw [← hG1, size_push', Heap.size_update]
      refine Nat.le_succ_of_le ?_
      have q2 : a < (PySem.W.copyHeap s.heap its).objs.size := Heap.lt_size ho
      exact Nat.le_trans sza (Nat.le_of_lt q2)
    rw [hkS] at q1
    exact absurd z (Nat.not_lt.mpr q1)
  have I0 : Inv X pins σ H { s with heap := G } := I.kept (t' := s.toks) keepG
  have a0 : H a = none := I.hok.fresh sza
  have k0 : H kS = none := I.hok.fresh szk
  have fpa : ∀ {H' : Hp}, H' a = none → FpOk X pins H' a := fun q => I.fpOk sza q
  have fpk : ∀ {H' : Hp}, H' kS = none → FpOk X pins H' kS := fun q => I.fpOk szk q
  have hfa : f ≠ a := Nat.ne_of_lt (Nat.lt_of_lt_of_le (Heap.lt_size hf) sza)
  have hfk : f ≠ kS := Nat.ne_of_lt (Nat.lt_of_lt_of_le (Heap.lt_size hf) szk)
  have hfG : G.get? f = some (PySem.W.kla_obj "<lambda>" qual params body scope cl pm c' ctv) := keepG _ _ hf
  show wpAny _ _ (ksk_rest a (.ref f) false its.toArray e1 (.ref kS)) _ _ { s with heap := G }
  unfold ksk_rest
  refine wpAny_bind (wpAny_rule ?_)
  first
    | rw [List.forIn_toArray]
    | (rw [← Array.forIn_toList]; simp only [List.toList_toArray])
    | rw [← Array.forIn_toList]
  refine wpAny_bind (ksk_fold (fun i s' => ∃ H' kA e zs, Inv X pins σ H' s' ∧ Ext H H' ∧ H' a = none ∧ H' kS = none ∧ H' f = none ∧ s'.heap.get? kS = some (seqObj "list" kA e) ∧ s'.heap.get? a = some (seqObj "list" #[] e1) ∧ s'.heap.get? f = some (PySem.W.kla_obj "<lambda>" qual params body scope cl pm c' ctv) ∧ Vals zs kA.toList ∧ zs.length = i ∧ J zs H') its 0 { s with heap := G }
    ⟨H, #[], 0, [], I0, Ext.rfl', a0, k0, hf0, kG, aG, hfG, .nil, rfl, J0⟩ ?step ?done)
  case step =>
    rintro j v s' hx ⟨H1, kA, e, zs, I1, x1, a1, k1, f1, nk, na, nf, vz, lz, jz⟩
    simp only [Nat.zero_add] at lz ⊢
    have hj : j < its.length := (List.getElem?_eq_some_iff.mp hx).1
    have hj' : j < xs.length := by rw [rv.length]; exact hj
    obtain ⟨u, hu', ru⟩ := rv.get (List.getElem?_eq_getElem hj')
    rw [hx] at hu'
    cases hu'
    have hzA : kA.size ≤ its.length := by
      have h1 := vz.length
      have h2 : kA.toList.length = kA.size := by simp
      omega
    -- pinned
    have I1p : Inv X (pins ++ [(kS, seqObj "list" kA e), (a, seqObj "list" #[] e1), (f, PySem.W.kla_obj "<lambda>" qual params body scope cl pm c' ctv)]) σ H1 s' := I1.pins_of fun p hp => by
      rcases List.mem_append.mp hp with hp | hp
      · exact I1.pin p (List.mem_append_right _ hp)
      · obtain ⟨_, q1, q2, _⟩ := fpk k1
        obtain ⟨_, q3, q4, _⟩ := fpa a1
        rcases List.mem_cons.mp hp with rfl | hp
        · exact ⟨nk, k1, q1, q2, fun w z => nomatch z⟩
        · rcases List.mem_cons.mp hp with rfl | hp
          · exact ⟨na, a1, q3, q4, fun w z => nomatch z⟩
          · rw [List.mem_singleton.mp hp]
            exact ⟨nf, f1, hfL, hfs, fun w z => nomatch z⟩
    have hprom := turn zs _ H1 (by rw [lz]; exact List.getElem?_eq_getElem hj') x1 jz
    have call1 : wpAny (model X.prog X.w) X.A.in1.in1 (call (.ref f) [v]) (EP X (pins ++ [(kS, seqObj "list" kA e), (a, seqObj "list" #[] e1), (f, PySem.W.kla_obj "<lambda>" qual params body scope cl pm c' ctv)]) σ (fun z H2 => Ext H1 H2 ∧ J (zs ++ [z]) H2)) (fun _ _ => False) s' := by
      refine wpAny_call (codeAny_mono (Fn.run X.A.in1.in1 X.stack s' H1 [v] [xs[j]] (js.map (slotAt σ)) _ pm ctv hr.in1.in1 I1.env0.in1.in1 nf (x1 _ _ hc) (cells_of I1 (cp I1.ok)) (.cons ru .nil) hprom) fun r s2 hq => ?_)
      cases r with
      | error e => exact hq.elim
      | ok fl =>
        cases fl with
        | ret u => exact I1p.after hq
        | next => exact False.elim hq
        | brk => exact False.elim hq
        | cont => exact False.elim hq
    refine wpAny_bind (wpAny_attempt (wpAny_mono call1 (fun y s2 he => ?_) fun _ _ hF => hF.elim))
    obtain ⟨z, H2, I2, rz, x2, j2⟩ := he
    have p1 := I2.pin (kS, seqObj "list" kA e) (by simp)
    have p2 := I2.pin (a, seqObj "list" #[] e1) (by simp)
    have p3 := I2.pin (f, PySem.W.kla_obj "<lambda>" qual params body scope cl pm c' ctv) (by simp)
    have I2u : Inv X pins σ H2 s2 := I2.unpinned
    try dsimp only
    have s1 := Heap.SameBut.update s2.heap kS (Obj.mapSeq (·.push y))
    obtain ⟨c2, hc2⟩ : ∃ c2, (s2.heap.update kS (Obj.mapSeq (·.push y))).get? kS = some (seqObj "list" (kA.push y) c2) := ⟨_, get?_update_seq p1.1 (·.push y)⟩
    refine wpAny_bind (listUpdate_at p1.1 rfl ?_ (Nat.le_trans hzA hzi) (Nat.le_trans (Nat.le_of_eq (Array.size_push ..)) (Nat.succ_le_succ (Nat.le_trans hzA hzi))))
    obtain ⟨f0, f1', f2, f3, f4, f5⟩ := fpk (H' := H2) p1.2.1
    have ea : (kA.push y).toList = kA.toList ++ [y] := by simp
    refine wpAny_pure ⟨rfl, H2, kA.push y, c2, zs ++ [z], I2u.turned (t' := s2.toks) (fun b o hb e => (s1.2 b hb).trans e) f0 f1' f3 f4 f5, x1.trans x2, p2.2.1, p1.2.1, p3.2.1, hc2, (s1.2 a hka.symm).trans p2.1, (s1.2 f hfk).trans p3.1, by rw [ea]; exact vals_snoc rz vz, by rw [List.length_append, lz]; rfl, j2⟩
  case done =>
    rintro s' ⟨H1, kA, e, zs, I1, x1, a1, k1, f1, nk, na, nf, vz, lz, jz⟩
    rw [Nat.zero_add, ← rv.length] at lz
    obtain ⟨ds, dp, hal, hsk, hdep, q⟩ := fin zs H1 lz x1 jz
    have hld : zs.length = ds.length := (dpAll_at dp).1
    have er := each_dp I1 dp vz
    have hsz : kA.size = its.length := by
      have h1 := vz.length
      have h2 : kA.toList.length = kA.size := by simp
      have h3 := rv.length
      omega
    have hlx : xs.length = ds.length := by rw [← lz]; exact hld
    try dsimp only
    refine wpAny_bind (listItems_at nk rfl ?_)
    refine key_end2 (κ := PySem.W.dataKind s'.heap ds) nk na hka (SortsAt.data er hal hsk fun d hd => ?_) hsz hzi fun h' tk c kp hc' => ⟨rfl, ?_⟩
    · have := hdep d hd
      show X.A.units + 2 + d.depth < cLine
      omega
    · have ko : KeyedOut false ((xs.zip ds).map Prod.snd) its (sortVals (PySem.W.dataKind s'.heap ds) false kA.toList its) := by
        rw [zip_snd hlx]
        exact ⟨s'.heap, kA.toList, hal, rfl, er⟩
      have he := PySem.W.keyedOut_each Prod.snd ko (each_fst hlx rv)
      have hv := vals_of_each he
      have hlen : (((xs.zip ds).mergeSort (dataLe false Prod.snd)).map Prod.fst).length ≤ sizeLine := by
        rw [List.length_map, List.length_mergeSort, List.length_zip, ← hlx, Nat.min_self, sizeLine_eq]
        omega
      exact ⟨.ref a, upd H1 a (.lst (((xs.zip ds).mergeSort (dataLe false Prod.snd)).map Prod.fst)), inv_adopt2 (t' := tk) I1 (fpa a1) (fpk k1) kp (show ObjOk X.prog X.w _ _ _ (.lst _) from ⟨hlen, _, c, hv, hc'⟩), rfl, q a a0 a1⟩
end
end Ct
end
end
section
set_option Elab.async false
set_option linter.all false
set_option maxRecDepth 100000
set_option maxHeartbeats 4000000
noncomputable section
namespace Ct
open PySem PySem.Spec PyProof.Rows L2 LamX NdefX
open PySem.W (keyToks alike dataLt dataLe AllAlike Sortable EachIs SortsAt sortVals KeyedOut)
def at1 (R : V → Hp → Prop) : List V → Hp → Prop := fun vs H => match vs with
  | [x] => R x H
  | _ => False
def tSortK (T : List (Addr × Str)) (K : PySem.W.Frag) (js : List Nat) (sp : List (Option V) → Sp) (te : TE) : TE := fun σ H Q => te σ H fun x H1 => Tabs T H1 ∧ ∀ H2, ExtN H1 H2 → Tabs T H2 → rKey K (sp (js.map (slotAt σ))) x H2 Q
section
variable {X : Cx} {ps fr : List Str} {js : List Nat} {k : Nat} {sp : List (Option V) → Sp} {params : Arguments} {body e : Expr} {scope : Scope} {T : List (Addr × Str)} {c P : Addr} {te : TE} {p lpos kpos pos : Pos}
theorem pe_sortK (hm : X.mg "sorted" = none) (hst : frs X.stack = X.env.locals :: X.fs) (TB : TabB X.base X.mg c P) (hcode : X.env.code = .ref c) (hmT : (P, X.env.qual ++ "<lambda>") ∈ T) (hu : ∀ p ∈ T, p.1 = P → p.2 = X.env.qual ++ "<lambda>") (hdef : defaultsOf params X.env = ([], []))
    (hfree : ∀ y ∈ scope.names, y.2 = .free → X.env.scope.names.lookup y.1 = some .cell ∨ X.env.scope.names.lookup y.1 = some .free) (hfr : ∀ y ∈ fr, (y, NameKind.free) ∈ scope.names) (hjs : js.map (fun j => X.N[j]?) = fr.map some)
    (Fn : ∀ f c', LOk X.prog X.w X.K X.mg X.base k f (X.env.qual ++ "<lambda>") params body scope (cloFrom X.env.cells scope.names []) c' ps fr sp) (hr : Room (k + 2) X.A) (hun : X.A.units + 64 < cLine) (h0 : PE X e te) (hg : Gl X "sorted" := by rfl)
    (hse : starEach [e] X.env = (false, eval e X.env) :: starEach [] X.env := by rfl) (he : backTo pos (starEach [e] X.env) = (false, eval e X.env) :: backTo pos (starEach [] X.env) := by rfl) (hpl : (backTo pos (starEach [e] X.env)).any (·.1) = false := by rfl)
    (hall : (backToKw pos (keywordEach [⟨some "key", .Lambda params body scope lpos, kpos⟩] X.env)).all (·.1.isSome) = true := by rfl) (hnone : (backToKw pos (keywordEach [⟨some "key", .Lambda params body scope lpos, kpos⟩] X.env)).any (·.1.isNone) = false := by rfl)
    (hks : (backToKw pos (keywordEach [⟨some "key", .Lambda params body scope lpos, kpos⟩] X.env)).filterMap (·.1) = [Str.ofString "key"] := by rfl) :
    PE X (.Call (.Name "sorted" p) [e] [⟨some "key", .Lambda params body scope lpos, kpos⟩] pos) (tSortK T X.K js sp te) := by
  refine ⟨fun pins s σ H Q I h => ?_⟩
  refine wpAny_Call_Name_kw (ld_blt I hg hm boot_sorted ?_ (by decide) (by decide))
  refine PyProof.Rows.callWith_kw (thn ((pa_cons h0 pa_nil hse).run pos pins s σ H (at1 fun x H1 => Tabs T H1 ∧ ∀ H2, ExtN H1 H2 → Tabs T H2 → rKey X.K (sp (js.map (slotAt σ))) x H2 Q) I h) fun us s1 ⟨vs, H1, I1, r1, q1⟩ => ?_) he hpl hall hnone
  show wpAny _ _ (evalAll ((do let v ← eval (.Lambda params body scope lpos) X.env; standAt pos; pure v) :: [])) _ _ s1
  have has : ∀ y ∈ scope.names, y.2 = .free → ∃ c, X.env.cells.lookup y.1 = some c := fun y hy e => by
    rcases hfree y hy e with z | z
    · exact I1.ok.has _ (.inl z)
    · exact I1.ok.has _ (.inr z)
  cases vs with
  | nil => exact False.elim q1
  | cons x vs =>
    cases vs with
    | cons _ _ => exact False.elim q1
    | nil =>
      obtain ⟨hT, q⟩ := q1
      obtain ⟨u, rfl, rx⟩ := vals1 r1
      refine wpAny_evalAll_cons (wpAny_bind (lam_make2 I1 TB hcode hmT hu hT hdef has fun f c' pm ctv H2 s2 I2 eN T2 hf hfn hfr' hco => wpAny_bind (wpAny_standAt (wpAny_pure ?_))))
      refine wpAny_evalAll_nil ?_
      rw [hks]
      rw [hst] at hfr'
      exact sortK_run (Fn f c') (fun ok => Caps.made ok hfree hfr hjs) hr hun I2 rx hf hfn (fun z => hfr' (by rw [z]; exact List.mem_cons_self ..)) (fun z => hfr' (List.mem_cons_of_mem _ z)) hco (q H2 eN T2)
end
/-! ### by mirrors -/
def pairK (s : Sch) (f : List U → Option U) (cs : List U) (us : List U) : Option (List (TU × U)) := List.rec (motive := fun _ => Option (List (TU × U))) (some []) (fun u _ r => ob (f (u :: cs)) fun k => ob (tok s k) fun t => ob r fun ps => some (((t, u), k) :: ps)) us
def srtK (s : Sch) (f : List U → Option U) (cs : List U) (us : List U) : Option (List U) := ob (pairK s f cs us) fun P => gd (sOk s (lmap (fun q : TU × U => (q.1.1, q.2)) P)) (gd (allLt (isrt (lmap Prod.fst P))) (szL (lsnd (isrt (lmap Prod.fst P)))))
theorem pairK_ok {s : Sch} {f : List U → Option U} {cs : List U} : ∀ {us : List U} {P : List (TU × U)}, pairK s f cs us = some P → P.map (fun q => q.1.2) = us ∧ (∀ q ∈ P, tok s q.2 = some q.1.1) ∧ ∀ (i : Nat) u, us[i]? = some u → ∃ q, P[i]? = some q ∧ f (u :: cs) = some q.2
  | [], P, h => by
    cases h
    exact ⟨rfl, (fun _ m => by cases m), (fun i u h => by simp at h)⟩
  | u :: us, P, h => by
    obtain ⟨k, ek, h⟩ := ob_some (show ob (f (u :: cs)) (fun k => ob (tok s k) fun t => ob (pairK s f cs us) fun ps => some (((t, u), k) :: ps)) = some P from h)
    obtain ⟨t, et, h⟩ := ob_some h
    obtain ⟨ps, ep, h⟩ := ob_some h
    cases h
    obtain ⟨h1, h2, h3⟩ := pairK_ok ep
    refine ⟨congrArg (List.cons u) h1, fun q m => ?_, fun i w hw => ?_⟩
    · rcases List.mem_cons.mp m with rfl | m
      · exact et
      · exact h2 q m
    · cases i with
      | zero =>
        simp at hw
        subst hw
        exact ⟨((t, u), k), rfl, ek⟩
      | succ i =>
        obtain ⟨q, a, b⟩ := h3 i w (by simpa using hw)
        exact ⟨q, by simpa using a, b⟩
section
variable {cl : Cl} {F H F' H' : Hp} {K : PySem.W.Frag}
theorem zip4 {γ δ ε : Type} (f : ε → δ) : ∀ {ps : List ε} {xs : List γ}, ps.length = xs.length → xs.zip (ps.map f) = (ps.zip xs).map fun w => (w.2, f w.1)
  | [], [], _ => rfl
  | p :: ps, x :: xs, h => congrArg (List.cons (x, f p)) (zip4 f (by simpa using h))
  | [], _ :: _, h => by simp at h
  | _ :: _, [], h => by simp at h
/-- keys zs that are seen as P's; items xs -/
theorem srtK_main {s : Sch} {f : List U → Option U} {cs us ws : List U} {xs zs : List V} {P : List (TU × U)} (hd : s.dep ≤ 60) (sb : Sb F H) (ep : pairK s f cs us = some P)
    (e : gd (sOk s (lmap (fun q : TU × U => (q.1.1, q.2)) P)) (gd (allLt (isrt (lmap Prod.fst P))) (szL (lsnd (isrt (lmap Prod.fst P))))) = some ws) (r : RpL cl F us xs) (rk : RpL cl F (P.map Prod.snd) zs) :
    ∃ ds : List PyData, DpAll K H zs ds ∧ AllAlike ds ∧ Sortable ds ∧ (∀ d ∈ ds, d.depth ≤ 60) ∧ RpL cl F ws (((xs.zip ds).mergeSort (dataLe false Prod.snd)).map Prod.fst) := by
  obtain ⟨h1, e⟩ := gd_some e
  obtain ⟨h2, e⟩ := gd_some e
  obtain ⟨rfl, hz⟩ := szL_some e
  obtain ⟨eu, ht, _⟩ := pairK_ok ep
  rw [lmap_eq] at h1
  rw [lmap_eq] at h2 hz ⊢
  have hlen : P.length = xs.length := by
    have := r.len
    rw [← eu, List.length_map] at this
    exact this
  have hconf : ∀ u ∈ P.map Prod.snd, ∃ t, tok s u = some t := fun u m => by
    obtain ⟨p, mp, rfl⟩ := List.mem_map.mp m
    exact ⟨_, ht p mp⟩
  have hcd : ∀ d ∈ (P.map Prod.snd).map dU, Conf s d := fun d m => by
    obtain ⟨u, mu, rfl⟩ := List.mem_map.mp m
    obtain ⟨t, h⟩ := hconf u mu
    exact (tok_ok s u t h).1
  have hso : Sortable ((P.map Prod.snd).map dU) := by
    have := sOk_sortable h1 (fun p m => by
      obtain ⟨q, mq, rfl⟩ := List.mem_map.mp m
      exact ht q mq)
    rw [List.map_map] at this ⊢
    exact this
  refine ⟨(P.map Prod.snd).map dU, dpAll_of sb hconf rk, fun d m d' m' => conf_alike s d d' (hcd d m) (hcd d' m'), hso, fun d m => Nat.le_trans (conf_lay s d (hcd d m)).2 hd, ?_⟩
  let W : List ((TU × U) × V) := P.zip xs
  have eW : xs.zip ((P.map Prod.snd).map dU) = W.map fun w => (w.2, dU w.1.2) := by
    rw [List.map_map]
    exact zip4 (dU ∘ Prod.snd) hlen
  have eP : W.map (fun w => w.1.1) = P.map Prod.fst := by
    have : W.map Prod.fst = P := by
      show (P.zip xs).map Prod.fst = P
      rw [List.map_fst_zip]
      omega
    rw [← this, List.map_map]
    rfl
  have hW : ∀ w ∈ W, Rp cl F w.1.1.2 w.2 ∧ w.1 ∈ P := fun w m => by
    refine ⟨?_, (List.of_mem_zip (show (w.1, w.2) ∈ P.zip xs from m)).1⟩
    refine rpL_zip r (w.1.1.2, w.2) ?_
    rw [← eu, List.zip_map_left]
    exact List.mem_map.mpr ⟨w, m, rfl⟩
  have hm : (W.mergeSort fun a b => tuLe a.1.1 b.1.1).map (fun w => (w.2, dU w.1.2)) = (W.map fun w => (w.2, dU w.1.2)).mergeSort (dataLe false Prod.snd) := by
    refine PySem.W.sort_maps _ fun a ma b mb => ?_
    show _ = !dataLt (dU b.1.2) (dU a.1.2)
    rw [tuLe_eq, ← ilLt_eq]
    have ea := (tok_ok s _ _ (ht _ (hW a ma).2)).2
    have eb := (tok_ok s _ _ (ht _ (hW b mb).2)).2
    show _ = !lexLt itemOrd (keyToks (dU b.1.2)) (keyToks (dU a.1.2))
    rw [ea, eb]
  have hp : (W.mergeSort fun a b => tuLe a.1.1 b.1.1).map (fun w => w.1.1) = isrt (P.map Prod.fst) := by
    rw [← isrt_merge h2]
    have := PySem.W.sort_maps (r := fun a b : (TU × U) × V => tuLe a.1.1 b.1.1) (s := tuLe) (l := W) (fun w => w.1.1) fun a _ b _ => rfl
    rw [this, eP]
  rw [eW, ← hm, lsnd_eq, ← hp, List.map_map, List.map_map]
  refine rpL_of (f := Prod.snd ∘ fun w : (TU × U) × V => w.1.1) (g := Prod.fst ∘ fun w : (TU × U) × V => (w.2, dU w.1.2)) fun w m => ?_
  exact (hW w ((List.mergeSort_perm _ _).mem_iff.mp m)).1
end
end Ct
end
end
section
set_option Elab.async false
set_option linter.all false
set_option maxRecDepth 100000
set_option maxHeartbeats 4000000
noncomputable section
namespace Ct
open PySem PySem.Spec PyProof.Rows L2 LamX NdefX
open PySem.W (keyToks alike dataLt dataLe AllAlike Sortable EachIs SortsAt sortVals KeyedOut)
/-! ### the lambda's promise by mirrors -/
def spK (cl : Cl) (n : Nat) (f : List U → Option U) : List (Option V) → Sp := fun ws vs H Q _ => vs.length = n ∧ ∃ F us cs wvs u, Sb F H ∧ RpL cl F us vs ∧ ws = wvs.map some ∧ RpL cl F cs wvs ∧ f (us ++ cs) = some u ∧ ∀ F' H' v, Stp F H F' H' → Rp cl F' u v → Q v H'
def runE (m : M) (n : Nat) (us : List U) : Option U := ob (m (lapp us (nos n))) chk
section
variable {P : Program} {w : World} {K : PySem.W.Frag} {mg : Str → Option Value} {base : Heap} {N ps fr : List Str} {f c' : Addr} {k : Nat} {qual : Str} {params : Arguments} {body : Expr} {scope : Scope} {clo : List (Str × Addr)} {cl : Cl} {m : M}
theorem lok_sp (S : NScope N ps fr scope) (hN : ps.length + fr.length ≤ N.length) (hb : ∀ (q : Str) (l : List (Str × Addr)) (pm cv ctv : Value) (us : List Value), us.length = ps.length → bindArgs (PySem.W.kla_fn "<lambda>" q params body scope l pm cv ctv) ⟨us, []⟩ = pure (ps.zip us))
    (he : ∀ (A : Around) (outer : List Env) (s : Shared) (H : Hp), Room k (A.deeper (envF (lamF qual params scope clo c') f s.heap.objs.size)) → PE (ncx CX0 P w K mg base N (lamF qual params scope clo c') f A outer s H E0) body (tM cl m)) :
    LOk P w K mg base (k + 1) f qual params body scope clo c' ps fr (spK cl ps.length (runE m (N.length - ps.length - fr.length))) := by
  refine lok_of S hb (fun ws vs H Q E h => h.1) fun A outer s H vs ws Q hr hl h => ?_
  refine ⟨_, he A outer s H hr, ?_⟩
  obtain ⟨hv, F, us, cs, wvs, u, sb, r, rfl, rc, e, kk⟩ := h
  obtain ⟨u', e2, ec⟩ := ob_some (show ob (m (lapp (us ++ cs) (nos (N.length - ps.length - fr.length)))) chk = some u from e)
  obtain ⟨rfl, hn⟩ := chk_some ec
  rw [lapp_eq] at e2
  have lw : wvs.length = fr.length := by rw [List.length_map] at hl; exact hl
  have eσ : startF N vs (wvs.map some) = (vs ++ wvs).map some ++ List.replicate (N.length - ps.length - fr.length) none := by
    unfold startF
    rw [List.length_map, hv, lw, List.map_append, List.append_assoc]
  rw [eσ]
  refine ⟨F, _, u', ⟨sb, ?_, fun i x hx => ?_⟩, e2, fun F' H' v st rv => kk F' H' v st (rv.rp hn)⟩
  · rw [List.length_append, List.length_append, List.length_append, List.length_map, List.length_append, List.length_replicate, nos_len, r.len, rc.len]
  · exact (start_slot (r.app rc) _ i x hx).imp id fun ⟨v, a, b⟩ => ⟨v, a, Rv.of b⟩
end
/-! ### functions that make lambdas -/
structure StN (T : List (Addr × Str)) (F H F' H' : Hp) : Prop where
  hh : ExtN H H'
  fh : Sb F' H'
  ff : ∀ a o, F a = some o → (∀ ps, o ≠ .tbl ps) → F' a = some o
  tabs : Tabs T H'
/-- the frozen part but the tables -/
def strip (F : Hp) : Hp := fun a => match F a with
  | some (.tbl _) => none
  | o => o
theorem strip_some {F : Hp} {a : Addr} {o : HO} (h : strip F a = some o) : F a = some o ∧ ∀ ps, o ≠ .tbl ps := by
  unfold strip at h
  split at h
  · cases h
  · rename_i h2
    exact ⟨h, fun ps z => h2 ps (by rw [h, z])⟩
theorem strip_of {F : Hp} {a : Addr} {o : HO} (h : F a = some o) (n : ∀ ps, o ≠ .tbl ps) : strip F a = some o := by
  unfold strip
  split
  · rename_i ps h2
    rw [h] at h2
    exact absurd (Option.some.inj h2) (n ps)
  · exact h
section
variable {cl : Cl} {F0 H0 F H F' H' : Hp} {env : List U} {σ : Sig} {X : Cx} {K : PySem.W.Frag}
theorem rows_strip : ∀ {rs : List (List Nat)} {vs : List V}, RowsR F rs vs → RowsR (strip F) rs vs
  | [], [], _ => trivial
  | r :: rs, v :: vs, h => by
    obtain ⟨⟨a, e, ha⟩, h⟩ := h
    exact ⟨⟨a, e, strip_of ha (fun _ z => nomatch z)⟩, rows_strip h⟩
  | [], _ :: _, h => h.elim
  | _ :: _, [], h => h.elim
mutual
theorem rp_strip : ∀ {u : U} {v : V}, Rp cl F u v → Rp cl (strip F) u v
  | .non, v, h => by simp only [Rp] at h ⊢; exact h
  | .bl b, v, h => by simp only [Rp] at h ⊢; exact h
  | .int i, v, h => by simp only [Rp] at h ⊢; exact h
  | .tup us, v, h => by
    simp only [Rp] at h ⊢
    obtain ⟨a, vs, h1, h2, h3⟩ := h
    exact ⟨a, vs, h1, strip_of h2 (fun _ z => nomatch z), rpL_strip h3⟩
  | .lst us, v, h => by
    simp only [Rp] at h ⊢
    obtain ⟨a, vs, h1, h2, h3⟩ := h
    exact ⟨a, vs, h1, strip_of h2 (fun _ z => nomatch z), rpL_strip h3⟩
  | .ins c us, v, h => by
    simp only [Rp] at h ⊢
    obtain ⟨a, dx, fs, h1, h2, h3, h4⟩ := h
    exact ⟨a, dx, fs, h1, strip_of h2 (fun _ z => nomatch z), h3, rpL_strip h4⟩
  | .tbl i, v, h => by
    simp only [Rp] at h ⊢
    obtain ⟨a, vs, h1, h2, h3⟩ := h
    exact ⟨a, vs, h1, strip_of h2 (fun _ z => nomatch z), rows_strip h3⟩
  | .no, v, h => by simp only [Rp] at h
  | .ol _, v, h => by simp only [Rp] at h
  | .dk _ _, v, h => by simp only [Rp] at h
  | .dt _ _, v, h => by simp only [Rp] at h
  | .oi _ _, v, h => by simp only [Rp] at h
theorem rpL_strip : ∀ {us : List U} {vs : List V}, RpL cl F us vs → RpL cl (strip F) us vs
  | [], [], _ => by simp only [RpL]
  | u :: us, v :: vs, h => by
    simp only [RpL] at h ⊢
    exact ⟨rp_strip h.1, rpL_strip h.2⟩
  | [], _ :: _, h => by simp only [RpL] at h
  | _ :: _, [], h => by simp only [RpL] at h
end

def capU (js : List Nat) (env : List U) : Option (List U) := List.rec (motive := fun _ => Option (List U)) (some []) (fun j _ r => ob (nth env j) fun u => ob (chk u) fun u => ob r fun us => some (u :: us)) js
theorem cap_ok (er : ER cl F H env σ) : ∀ {js : List Nat} {cs : List U}, capU js env = some cs → ∃ wvs, js.map (slotAt σ) = wvs.map some ∧ RpL cl F cs wvs
  | [], cs, h => by
    cases h
    exact ⟨[], rfl, by simp only [RpL]⟩
  | j :: js, cs, h => by
    obtain ⟨u, eu, h⟩ := ob_some (show ob (nth env j) (fun u => ob (chk u) fun u => ob (capU js env) fun us => some (u :: us)) = some cs from h)
    obtain ⟨u', ec, h⟩ := ob_some h
    obtain ⟨us, es, h⟩ := ob_some h
    obtain ⟨rfl, hn⟩ := chk_some ec
    cases h
    obtain ⟨wvs, h1, h2⟩ := cap_ok er es
    rw [nth_eq] at eu
    rcases er.slot j _ eu with z | ⟨v, hv, rv⟩
    · subst z; cases hn
    · refine ⟨v :: wvs, ?_, ?_⟩
      · rw [List.map_cons, List.map_cons, h1, slotAt_of hv]
      · simp only [RpL]
        exact ⟨rv.rp hn, h2⟩
theorem rpL_snoc : ∀ {us : List U} {vs : List V} {u : U} {v : V}, RpL cl F us vs → Rp cl F u v → RpL cl F (us ++ [u]) (vs ++ [v]) := fun h r => h.app (RpL.one r)
theorem sortK_of {T : List (Addr × Str)} {js : List Nat} {f : List U → Option U} {mf : M} {x : U} {us cs ws : List U} {s : Sch} {Q : VK} (sr : SR cl F0 H0 F H env σ) (tb : Tabs T H0) (ef : mf env = some x) (ex : asL x = some us) (ec : capU js env = some cs) (es : srtK s f cs us = some ws) (hd : s.dep ≤ 60)
    (k : ∀ F1 H1 H2 F3 H3 p zs, Stp F H F1 H1 → ExtN H1 H2 → Stp (strip F1) H2 F3 H3 → Tabs T H3 → H3 p = none → F3 p = none → RpL cl F3 ws zs → Q (.ref p) (upd H3 p (.lst zs))) : tSortK T K js (spK cl 1 f) (tM cl mf) σ H Q := by
  refine ⟨F, env, x, sr.er, ef, fun F1 H1 xv s1 rv => ⟨tb.ext fun b o q => s1.hh _ _ (sr.stp.hh _ _ q), fun H2 en t2 => ?_⟩⟩
  obtain ⟨l, vs, rfl, hl, r⟩ := asL_rv ex s1.fh rv
  obtain ⟨P, ep, es⟩ := ob_some es
  obtain ⟨wvs, hw, rw'⟩ := cap_ok sr.er ec
  obtain ⟨eu, htk, hfk⟩ := pairK_ok ep
  have lP : P.length = us.length := by rw [← eu, List.length_map]
  have sbs : Sb (strip F1) H2 := fun a o q => by
    obtain ⟨q1, q2⟩ := strip_some q
    exact en a o (s1.fh _ _ q1) q2
  have r2 : RpL cl (strip F1) us vs := rpL_strip r
  have rc2 : RpL cl (strip F1) cs wvs := rpL_strip (rw'.mono s1.ff)
  have hz : vs.length ≤ 100000 := by
    obtain ⟨_, e⟩ := gd_some es
    obtain ⟨_, e⟩ := gd_some e
    obtain ⟨_, hz⟩ := szL_some e
    rw [lsnd_eq, List.length_map, (isrt_perm _).length_eq, lmap_eq, List.length_map, lP, r.len] at hz
    exact hz
  refine ⟨l, vs, fun zs H' => ∃ F', Stp (strip F1) H2 F' H' ∧ RpL cl F' ((P.map Prod.snd).take zs.length) zs, rfl, SqL.of (en _ _ hl (fun _ z => nomatch z)), hz, ⟨strip F1, Stp.refl sbs, by simp only [List.length_nil, List.take_zero, RpL]⟩, fun zs y H' hy ext ⟨F', st, rz⟩ => ?_, fun zs H' hlz ext ⟨F', st, rz⟩ => ?_⟩
  · have hlt : zs.length < us.length := by rw [r.len]; exact (List.getElem?_eq_some_iff.mp hy).1
    obtain ⟨v, hv, ru⟩ := r2.get (List.getElem?_eq_getElem hlt)
    rw [hy] at hv
    cases hv
    obtain ⟨q, hq, fq⟩ := hfk _ _ (List.getElem?_eq_getElem hlt)
    refine ⟨rfl, F', [us[zs.length]], cs, wvs, q.2, st.fh, RpL.one (ru.mono st.ff), hw, rc2.mono st.ff, fq, fun F2 H2' v s2 rv2 => ⟨s2.hh, F2, st.trans s2, ?_⟩⟩
    have hk : (P.map Prod.snd)[zs.length]? = some q.2 := by rw [List.getElem?_map, hq]; rfl
    rw [List.length_append, List.length_singleton, List.take_add_one, hk]
    exact rpL_snoc (rz.mono s2.ff) rv2
  · have hfull : (P.map Prod.snd).take zs.length = P.map Prod.snd := List.take_of_length_le (by rw [List.length_map, lP, hlz, r.len]; exact Nat.le_refl _)
    rw [hfull] at rz
    obtain ⟨ds, h1, h2, h3, h4, h5⟩ := srtK_main (K := K) hd st.fh ep es (r2.mono st.ff) rz
    exact ⟨ds, h1, h2, h3, h4, fun p hp hp' => k F1 H1 H2 F' H' p _ s1 en st (t2.ext st.hh) hp' (st.fh.none hp') h5⟩
/-! statements -/
def tSN (cl : Cl) (T : List (Addr × Str)) (m : List U → Option U) : TS := fun D σ H => ∃ F0 H0 F env u, SR cl F0 H0 F H env σ ∧ Tabs T H0 ∧ m env = some u ∧ ∀ F' H' v, StN T F0 H0 F' H' → Rp cl F' u v → D.rt v H'
theorem StN.of {T : List (Addr × Str)} (s : Stp F H F' H') (t : Tabs T H) : StN T F H F' H' := ⟨ExtN.of s.hh, s.fh, fun a o h _ => s.ff a o h, t.ext s.hh⟩
def mCons (ms : MS) (m : List U → Option U) : List U → Option U := fun env => ob (ms env) fun o => Out.casesOn (motive := fun _ => Option U) o m (fun u => some u) (fun _ => none) (fun _ => none)
def mLast (ms : MS) : List U → Option U := fun env => ob (ms env) fun o => Out.casesOn (motive := fun _ => Option U) o (fun _ => none) (fun u => some u) (fun _ => none) (fun _ => none)
theorem jn_cons {T : List (Addr × Str)} {st : Stmt} {rest : List Stmt} {ms : MS} {m : List U → Option U} (h : PS X st (tS cl ms)) (h' : PSs X rest (tSN cl T m)) : PSs X (st :: rest) (tSN cl T (mCons ms m)) := (pss_cons h h').wk fun D σ H ⟨F0, H0, F, env, u, sr, tb, e, k⟩ => by
  obtain ⟨o, eo, e⟩ := ob_some e
  refine ⟨F0, H0, F, env, o, sr, eo, ?_⟩
  cases o with
  | nx env1 => exact fun F1 H1 σ1 s1 => ⟨F0, H0, F1, env1, u, s1, tb, e, k⟩
  | rt w =>
    cases e
    exact fun F1 H1 v z r => k F1 H1 v (StN.of z tb) r
  | br env1 => cases e
  | ct env1 => cases e
theorem jn_last {T : List (Addr × Str)} {rest : List Stmt} {ms : MS} (h : PSs X rest (tS cl ms)) : PSs X rest (tSN cl T (mLast ms)) := h.wk fun D σ H ⟨F0, H0, F, env, u, sr, tb, e, k⟩ => by
  obtain ⟨o, eo, e⟩ := ob_some e
  refine ⟨F0, H0, F, env, o, sr, eo, ?_⟩
  cases o with
  | nx env1 => cases e
  | rt w =>
    cases e
    exact fun F1 H1 v z r => k F1 H1 v (StN.of z tb) r
  | br env1 => cases e
  | ct env1 => cases e
/-- x = sorted(.., key=lambda ..) -/
def mSort (js : List Nat) (s : Sch) (f : List U → Option U) (i : Nat) (mf : M) (m : List U → Option U) : List U → Option U := fun env => gd (frzs env) (ob (mf env) fun x => ob (asL x) fun us => ob (capU js env) fun cs => ob (srtK s f cs us) fun ws => m (lset env i (.lst ws)))
theorem jn_sort {T : List (Addr × Str)} {js : List Nat} {s : Sch} {f : List U → Option U} {i : Nat} {mf : M} {m : List U → Option U} {st : Stmt} {rest : List Stmt} (hd : s.dep ≤ 60) (h : PS X st (tAsg (tSortK T X.K js (spK cl 1 f) (tM cl mf)) (gName i))) (h' : PSs X rest (tSN cl T m)) :
    PSs X (st :: rest) (tSN cl T (mSort js s f i mf m)) := (pss_cons h h').wk fun D σ H ⟨F0, H0, F, env, u, sr, tb, e, k⟩ => by
  obtain ⟨hf, e⟩ := gd_some e
  obtain ⟨x, ex, e⟩ := ob_some e
  obtain ⟨us, eus, e⟩ := ob_some e
  obtain ⟨cs, ecs, e⟩ := ob_some e
  obtain ⟨ws, ews, e⟩ := ob_some e
  have hN := frzs_nm hf
  refine sortK_of sr tb ex eus ecs ews hd fun F1 H1 H2 F3 H3 p zs s1 en st tb3 hp fp r => ?_
  have x3 : Sb F3 (upd F3 p (.lst zs)) := Sb.new fp
  have rpw : Rp cl (upd F3 p (.lst zs)) (.lst ws) (.ref p) := by
    simp only [Rp]
    exact ⟨p, zs, rfl, upd_same, r.mono x3⟩
  have sb3 : Sb (upd F3 p (.lst zs)) (upd H3 p (.lst zs)) := Sb.upd2 st.fh
  have nm' := hN.set (u := .lst ws) rfl i
  refine ⟨upd F3 p (.lst zs), upd H3 p (.lst zs), upd F3 p (.lst zs), lset env i (.lst ws), u, ⟨⟨sb3, by rw [lset_eq, List.length_set, List.length_set, sr.er.len], fun j w hw => ?_⟩, Stp.refl sb3, fun j w a hw mw _ => absurd mw (by rw [nm' j w hw]; decide), fun j k w z a _ hw _ mw _ _ _ => absurd mw (by rw [nm' j w hw]; decide)⟩, tb3.ext fun b o q => by rw [upd_ne (ne_of_none q hp)]; exact q, e, fun F' H' v s4 rv => k F' H' v ⟨?_, s4.fh, fun a o h n => ?_, s4.tabs⟩ rv⟩
  · have hl : j < env.length := by
      have := (List.getElem?_eq_some_iff.mp hw).1
      rw [lset_eq, List.length_set] at this
      exact this
    rcases get_lset hw with ⟨e1, e2⟩ | ⟨hj, hw⟩
    · refine .inr ⟨.ref p, ?_, by rw [e2]; exact Rv.of rpw⟩
      rw [e1] at hl ⊢
      rw [List.getElem?_set, if_pos rfl, if_pos (by rw [← sr.er.len]; exact hl)]
    · refine (sr.er.slot j w hw).imp id fun ⟨v, h1, h2⟩ => ⟨v, by rw [List.getElem?_set_ne (Ne.symm hj)]; exact h1, ?_⟩
      have nmx := hN j w hw
      have cvt : Rp cl F w v → Rp cl (upd F3 p (.lst zs)) w v := fun q => ((rp_strip (q.mono s1.ff)).mono st.ff).mono x3
      cases w <;> first | exact nomatch (show true = false from nmx) | exact cvt h2 | exact Rv.of (cvt h2)
  · refine ExtN.trans (ExtN.of fun b o q => s1.hh _ _ (sr.stp.hh _ _ q)) (ExtN.trans en (ExtN.trans (ExtN.of fun b o q => ?_) s4.hh))
    have q3 := st.hh _ _ q
    rw [upd_ne (ne_of_none q3 hp)]
    exact q3
  · exact s4.ff a o (x3 _ _ (st.ff _ _ (strip_of (s1.ff _ _ (sr.stp.ff _ _ h)) n))) n
/-- return tuple(sorted(.., key=lambda ..)) -/
def mRetSort (js : List Nat) (s : Sch) (f : List U → Option U) (mf : M) : List U → Option U := fun env => ob (mf env) fun x => ob (asL x) fun us => ob (capU js env) fun cs => ob (srtK s f cs us) fun ws => some (.tup ws)
theorem jn_retSort {T : List (Addr × Str)} {js : List Nat} {s : Sch} {f : List U → Option U} {mf : M} {ex : Expr} {p pos rp : Pos} (hd : s.dep ≤ 60) (hm : X.mg "tuple" = none) (h : PE X ex (tSortK T X.K js (spK cl 1 f) (tM cl mf))) (hg : Gl X "tuple" := by rfl) (h1 : starEach [ex] X.env = (false, eval ex X.env) :: starEach [] X.env := by rfl)
    (he : starEach (ex :: []) X.env = (false, eval ex X.env) :: starEach [] X.env := by rfl) (hpl : (backTo pos (starEach [] X.env)).any (·.1) = false := by rfl) :
    PSs X [.Return (some (.Call (.Name "tuple" p) [ex] [] pos)) rp] (tSN cl T (mRetSort js s f mf)) :=
  (pss_one (ps_ret (pe_callTy call_tuple_of hg hm PyProof.Rows.boot_tuple (pa_cons h pa_nil h1) (he := he) (hpl := hpl)))).wk fun D σ H ⟨F0, H0, F, env, u, sr, tb, e, k⟩ => by
  obtain ⟨x, ex, e⟩ := ob_some e
  obtain ⟨us, eus, e⟩ := ob_some e
  obtain ⟨cs, ecs, e⟩ := ob_some e
  obtain ⟨ws, ews, e⟩ := ob_some e
  cases e
  refine sortK_of sr tb ex eus ecs ews hd fun F1 H1 H2 F3 H3 p zs s1 en st tb3 hp fp r => ?_
  refine ⟨p, zs, rfl, .inl ⟨SqL.of upd_same, fun l hl => ?_⟩⟩
  have hlp : l ≠ p := fun z => by rw [z, upd_same] at hl; cases hl
  have hl3 : H3 l = none := by rw [upd_ne hlp] at hl; exact hl
  have fl : F3 l = none := st.fh.none hl3
  have x3 : Sb F3 (upd F3 l (.tup zs)) := Sb.new fl
  refine k (upd F3 l (.tup zs)) _ _ ⟨?_, fun a o q => ?_, fun a o h n => ?_, ?_⟩ ?_
  · refine ExtN.trans (ExtN.of fun b o q => s1.hh _ _ (sr.stp.hh _ _ q)) (ExtN.trans en (ExtN.of fun b o q => ?_))
    have q3 := st.hh _ _ q
    rw [upd_ne (ne_of_none q3 hl3), upd_ne (ne_of_none q3 hp)]
    exact q3
  · by_cases z : a = l
    · subst z
      rw [upd_same] at q ⊢
      exact q
    · rw [upd_ne z] at q ⊢
      rw [upd_ne (ne_of_none q fp)]
      exact st.fh _ _ q
  · exact x3 _ _ (st.ff _ _ (strip_of (s1.ff _ _ (sr.stp.ff _ _ h)) n))
  · exact tb3.ext fun b o q => by rw [upd_ne (ne_of_none q hl3), upd_ne (ne_of_none q hp)]; exact q
  · simp only [Rp]
    exact ⟨l, zs, rfl, upd_same, r.mono x3⟩
/-! the promise -/
def spN (cl : Cl) (T : List (Addr × Str)) (n : Nat) (f : List U → Option U) : Sp := fun vs H Q _ => vs.length = n ∧ Tabs T H ∧ ∃ F us u, Sb F H ∧ RpL cl F us vs ∧ f us = some u ∧ ∀ F' H' v, StN T F H F' H' → Rp cl F' u v → Q v H'
end
def runN (m : List U → Option U) (n : Nat) (us : List U) : Option U := m (lapp us (nos n))
section
variable {P : Program} {w : World} {K : PySem.W.Frag} {mg : Str → Option Value} {base : Heap} {x qual : Str} {params : Arguments} {body : List Stmt} {scope : Scope} {dvs : List V} {kws : List (Str × V)} {fa : Addr} {fd : FuncData} {cl : Cl}
theorem ok_ofN {T : List (Addr × Str)} {N ps : List Str} {k : Nat} {m : List U → Option U} (F : FunD K x qual params body scope dvs kws fa fd) (S : FnScope N ps scope) (hN : ps.length ≤ N.length)
    (hb : ∀ (cdv : Value) (A : Around) (outer : List Env) (s : Shared) (H : Hp) (E : XK), Room k (A.deeper (envOfC qual scope s.heap.objs.size fa cdv)) → PSs (cxOf CX0 P w K mg base N qual scope fa cdv A outer s H E).nox body (tSN cl T m)) :
    FnOk P w K mg base CX0 (k + 1) fa fd ps (spN cl T ps.length (runN m (N.length - ps.length))) := by
  refine F.ok S (fun vs H Q E h => h.1) fun cdv A outer s H vs Q E hr h => ?_
  obtain ⟨hl, tb, F1, us, u, sb, r, e, q⟩ := h
  have e2 : m (lapp us (nos (N.length - ps.length))) = some u := e
  rw [lapp_eq] at e2
  have hle := r.len
  have mm : ∀ (i : Nat) w, (us ++ nos (N.length - ps.length))[i]? = some w → w.mut = true → False := fun i w hw mw => by
    rcases start_slot r _ i w hw with z | ⟨v, _, rv⟩
    · subst z; cases mw
    · rw [mut_own (rp_own rv)] at mw; cases mw
  refine ⟨tSN cl T m, (hb cdv A outer s H E hr).nox, F1, H, F1, us ++ nos (N.length - ps.length), u, ⟨⟨sb, ?_, fun i w hw => ?_⟩, Stp.refl sb, fun i w a hw mw => (mm i w hw mw).elim, fun i j w z a _ hw _ mw => (mm i w hw mw).elim⟩, tb, e2, q⟩
  · unfold L2.start
    rw [List.length_append, List.length_append, List.length_map, List.length_replicate, nos_len]
    omega
  · unfold L2.start
    rw [hl]
    rcases start_slot r (N.length - ps.length) i w hw with z | ⟨v, hv, rv⟩
    · exact .inl z
    · exact .inr ⟨v, hv, Rv.of rv⟩
end
end Ct
end
end
section
set_option Elab.async false
set_option linter.all false
set_option maxRecDepth 100000
set_option maxHeartbeats 4000000
noncomputable section
namespace Ct
open PySem PySem.Spec PyProof.Rows L2 LamX NdefX
section
variable {P : Program} {w : World} {K : PySem.W.Frag} {mg : Str → Option Value} {base : Heap} {x qual : Str} {params : Arguments} {body : List Stmt} {scope : Scope} {dvs : List V} {kws : List (Str × V)} {fa : Addr} {fd : FuncData} {cl : Cl}
theorem ok_ofC {T : List (Addr × Str)} {N ps : List Str} {k : Nat} {m : List U → Option U} {c : Addr} (F : FunD K x qual params body scope dvs kws fa fd) (hc : fd.code = .ref c) (S : FnScope N ps scope) (hN : ps.length ≤ N.length)
    (hb : ∀ (A : Around) (outer : List Env) (s : Shared) (H : Hp) (E : XK), Room k (A.deeper (envOfC qual scope s.heap.objs.size fa (.ref c))) → PSs (cxOf CX0 P w K mg base N qual scope fa (.ref c) A outer s H E).nox body (tSN cl T m)) :
    FnOk P w K mg base CX0 (k + 1) fa fd ps (spN cl T ps.length (runN m (N.length - ps.length))) := by
  obtain ⟨oc, od, dV, kV, doc, pm, an, cdv, ct, osl, rfl, lk, hcd, _, _⟩ := F.ex
  have hc' : cdv = .ref c := hc
  subst hc'
  refine fn_of lk hcd S (fun vs H Q E h => h.1) fun A outer s H vs Q E hr h => ?_
  obtain ⟨hl, tb, F1, us, u, sb, r, e, q⟩ := h
  have e2 : m (lapp us (nos (N.length - ps.length))) = some u := e
  rw [lapp_eq] at e2
  have hle := r.len
  have mm : ∀ (i : Nat) w, (us ++ nos (N.length - ps.length))[i]? = some w → w.mut = true → False := fun i w hw mw => by
    rcases start_slot r _ i w hw with z | ⟨v, _, rv⟩
    · subst z; cases mw
    · rw [mut_own (rp_own rv)] at mw; cases mw
  refine ⟨tSN cl T m, (hb A outer s H E hr).nox, F1, H, F1, us ++ nos (N.length - ps.length), u, ⟨⟨sb, ?_, fun i w hw => ?_⟩, Stp.refl sb, fun i w a hw mw => (mm i w hw mw).elim, fun i j w z a _ hw _ mw => (mm i w hw mw).elim⟩, tb, e2, q⟩
  · unfold L2.start
    rw [List.length_append, List.length_append, List.length_map, List.length_replicate, nos_len]
    omega
  · unfold L2.start
    rw [hl]
    rcases start_slot r (N.length - ps.length) i w hw with z | ⟨v, hv, rv⟩
    · exact .inl z
    · exact .inr ⟨v, hv, Rv.of rv⟩
end
/-- a def that makes lambdas, called by its name -/
structure CalN (P : Program) (w : World) (K : PySem.W.Frag) (mg : Str → Option Value) (base : Heap) (cl : Cl) (T : List (Addr × Str)) (k : Nat) (x : Str) (f : List U → Option U) : Prop where
  ex : ∃ (fa : Addr) (fd : FuncData) (ps : List Str), FnOk P w K mg base CX0 k fa fd ps (spN cl T 1 f) ∧ mg x = some (.ref fa) ∧ PySem.W.keepIn K (.ref fa) = true ∧ Binds K fd ps []
theorem CalN.les {P : Program} {w : World} {K : PySem.W.Frag} {mg : Str → Option Value} {base : Heap} {cl : Cl} {T : List (Addr × Str)} {k : Nat} {x : Str} {f g : List U → Option U} (l : Les g f) (q : CalN P w K mg base cl T k x f) : CalN P w K mg base cl T k x g := by
  obtain ⟨fa, fd, ps, F, a⟩ := q.ex
  exact ⟨fa, fd, ps, F.imp fun vs H Q E ⟨h1, h2, F, us, u, h3, h4, h5, h6⟩ => ⟨h1, h2, F, us, u, h3, h4, l us u h5, h6⟩, a⟩
def tMN (cl : Cl) (T : List (Addr × Str)) (m : M) : TE := fun σ H Q => ∃ F env u, ER cl F H env σ ∧ Tabs T H ∧ m env = some u ∧ ∀ F' H' v, StN T F H F' H' → Rp cl F' u v → Q v H'
section
variable {cl : Cl} {F0 H0 F H F' H' F1 H1 : Hp} {env : List U} {σ : Sig} {X : Cx} {K : PySem.W.Frag} {T : List (Addr × Str)} {f g : List U → Option U} {k j : Nat} {x y : Str} {e : Expr} {p p2 pos pos2 : Pos}
theorem StN.trans (a : StN T F H F1 H1) (b : StN T F1 H1 F' H') : StN T F H F' H' := ⟨a.hh.trans b.hh, b.fh, fun c o h n => b.ff c o (a.ff c o h n) n, b.tabs⟩
theorem strip_sub (s : StN T F H F' H') : Sb (strip F) F' := fun a o q => by
  obtain ⟨q1, q2⟩ := strip_some q
  exact s.ff a o q1 q2
def eCallN (f : List U → Option U) (m : M) : M := fun env => ob (m env) fun u => ob (chk u) fun u => f [u]
/-- y(x(e)), both make lambdas -/
theorem j_callN2 {m : M} (q1 : CalN X.prog X.w X.K X.mg X.base cl T k x f) (q2 : CalN X.prog X.w X.K X.mg X.base cl T k y g) (hr : Room j X.A) (hk : k ≤ j) (hg : Gl X x) (hg2 : Gl X y) (he : PE X e (tM cl m)) (hd : (x == ("__debug__" : Str)) = false := by decide) (hd2 : (y == ("__debug__" : Str)) = false := by decide)
    (h1 : starEach [e] X.env = (false, eval e X.env) :: starEach [] X.env := by rfl) (hpl : (backTo pos (starEach [] X.env)).any (·.1) = false := by rfl)
    (h2 : starEach [.Call (.Name x p) [e] [] pos] X.env = (false, eval (.Call (.Name x p) [e] [] pos) X.env) :: starEach [] X.env := by rfl) (hpl2 : (backTo pos2 (starEach [] X.env)).any (·.1) = false := by rfl) :
    PE X (.Call (.Name y p2) [.Call (.Name x p) [e] [] pos] [] pos2) (tMN cl T (fun env => ob (eCallN f m env) fun u => g [u])) := by
  obtain ⟨fa, fd, ps, FF, a1, a2, a3⟩ := q1.ex
  obtain ⟨ga, gd', qs, GG, b1, b2, b3⟩ := q2.ex
  have c1 := pe_call (E := E0) (p := p) (pos := pos) FF (hr.mono hk) hg a1 a2 a3 .nil pass0 (pa_cons he pa_nil h1) hd h1 hpl
  refine (pe_call (E := E0) (p := p2) (pos := pos2) GG (hr.mono hk) hg2 b1 b2 b3 .nil pass0 (pa_cons c1 pa_nil h2) hd2 h2 hpl2).wk fun σ H Q ⟨F, env, u, er, tb, e, kk⟩ => ?_
  obtain ⟨z, ez, e⟩ := ob_some e
  obtain ⟨w, ew, ez⟩ := ob_some ez
  obtain ⟨w', ec, ez⟩ := ob_some ez
  obtain ⟨rfl, hn⟩ := chk_some ec
  refine ⟨F, env, _, er, ew, fun F1 H1 v s1 rv => ?_⟩
  refine ⟨rfl, tb.ext s1.hh, F1, [w], z, s1.fh, RpL.one (rv.rp hn), ez, fun F2 H2 v2 s2 rv2 => ?_⟩
  refine ⟨rfl, s2.tabs, F2, [z], u, s2.fh, RpL.one rv2, e, fun F3 H3 v3 s3 rv3 => kk F3 H3 v3 ((StN.of s1 tb).trans (s2.trans s3)) rv3⟩
/-- x = ..; all is frozen then -/
def mSetN (i : Nat) (me : M) (m : List U → Option U) : List U → Option U := fun env => gd (frzs env) (ob (me env) fun u => m (lset env i u))
theorem jn_setN {i : Nat} {me : M} {m : List U → Option U} {st : Stmt} {rest : List Stmt} (h : PS X st (tAsg (tMN cl T me) (gName i))) (h' : PSs X rest (tSN cl T m)) : PSs X (st :: rest) (tSN cl T (mSetN i me m)) := (pss_cons h h').wk fun D σ H ⟨F0, H0, F, env, u, sr, tb, e, k⟩ => by
  obtain ⟨hf, e⟩ := gd_some e
  obtain ⟨z, ez, e⟩ := ob_some e
  have hN := frzs_nm hf
  refine ⟨F, env, z, sr.er, tb.ext fun b o q => sr.stp.hh _ _ q, ez, fun F1 H1 v s1 rv => ?_⟩
  have nm' := hN.set (mut_own (rp_own rv)) i
  have s01 : StN T F0 H0 F1 H1 := (StN.of sr.stp tb).trans s1
  refine ⟨F1, H1, F1, lset env i z, u, ⟨⟨s1.fh, by rw [lset_eq, List.length_set, List.length_set, sr.er.len], fun j w hw => ?_⟩, Stp.refl s1.fh, fun j w a hw mw _ => absurd mw (by rw [nm' j w hw]; decide), fun j k w z a _ hw _ mw _ _ _ => absurd mw (by rw [nm' j w hw]; decide)⟩, s1.tabs, e, fun F' H' v' s4 rv' => k F' H' v' (s01.trans s4) rv'⟩
  have hl : j < env.length := by
    have := (List.getElem?_eq_some_iff.mp hw).1
    rw [lset_eq, List.length_set] at this
    exact this
  rcases get_lset hw with ⟨e1, e2⟩ | ⟨hj, hw⟩
  · refine .inr ⟨v, ?_, by rw [e2]; exact Rv.of rv⟩
    rw [e1] at hl ⊢
    rw [List.getElem?_set, if_pos rfl, if_pos (by rw [← sr.er.len]; exact hl)]
  · refine (sr.er.slot j w hw).imp id fun ⟨v, h1, h2⟩ => ⟨v, by rw [List.getElem?_set_ne (Ne.symm hj)]; exact h1, ?_⟩
    have nmx := hN j w hw
    have cvt : Rp cl F w v → Rp cl F1 w v := fun q => (rp_strip q).mono (strip_sub s1)
    cases w <;> first | exact nomatch (show true = false from nmx) | exact cvt h2 | exact Rv.of (cvt h2)
/-- frozen before -/
def mFrz (i : Nat) (m : List U → Option U) : List U → Option U := fun env => ob (nth env i) fun u => ob (asOl u) fun us => m (lset env i (.lst us))
theorem jn_frz {i : Nat} {m : List U → Option U} {rest : List Stmt} (h : PSs X rest (tSN cl T m)) : PSs X rest (tSN cl T (mFrz i m)) := h.wk fun D σ H ⟨F0, H0, F, env, u, sr, tb, e, k⟩ => by
  obtain ⟨w, ew, e⟩ := ob_some e
  obtain ⟨us, es, e⟩ := ob_some e
  cases asOl_some es
  rw [nth_eq] at ew
  obtain ⟨F', s'⟩ := sr.freeze ew
  exact ⟨F0, H0, F', _, u, s', tb, e, k⟩
end
end Ct
end
end
section
set_option Elab.async false
set_option linter.all false
set_option maxRecDepth 100000
set_option maxHeartbeats 4000000
noncomputable section
namespace Ct
open PySem PySem.Spec PyProof.Rows L2 LamX NdefX
def lamE : Expr → Expr
  | .Call _ _ [⟨_, e, _⟩] _ => e
  | .Call _ (a :: _) _ _ => lamE a
  | e => e
def lamB : List Stmt → Expr
  | [] => .Name "" ⟨0, 0, 0, 0⟩
  | s :: r => match s with
    | .Return (some e) _ => (match lamE e with
      | .Lambda a b c d => .Lambda a b c d
      | _ => lamB r)
    | .Assign _ e _ => (match lamE e with
      | .Lambda a b c d => .Lambda a b c d
      | _ => lamB r)
    | _ => lamB r
def lamSc : Expr → Scope
  | .Lambda _ _ sc _ => sc
  | _ => defScope (.Pass ⟨0, 0, 0, 0⟩)
def TL (P1 P2 : Addr) : List (Addr × Str) := [(P1, "normal_subgroups.<locals>.<lambda>"), (P2, "character_table.<locals>.<lambda>")]
theorem TL_1 {P1 P2 : Addr} : (P1, Str.ofString "normal_subgroups.<locals>.<lambda>") ∈ TL P1 P2 ∧ (P1 ≠ P2 → ∀ p ∈ TL P1 P2, p.1 = P1 → p.2 = Str.ofString "normal_subgroups.<locals>.<lambda>") := by
  refine ⟨List.mem_cons_self .., fun h p hp e => ?_⟩
  rcases List.mem_cons.mp hp with rfl | hp
  · rfl
  · rw [List.mem_singleton.mp hp] at e
    exact absurd e.symm h
theorem TL_2 {P1 P2 : Addr} : (P2, Str.ofString "character_table.<locals>.<lambda>") ∈ TL P1 P2 ∧ (P1 ≠ P2 → ∀ p ∈ TL P1 P2, p.1 = P2 → p.2 = Str.ofString "character_table.<locals>.<lambda>") := by
  refine ⟨List.mem_cons_of_mem _ (List.mem_cons_self ..), fun h p hp e => ?_⟩
  rcases List.mem_cons.mp hp with rfl | hp
  · exact absurd e h
  · rw [List.mem_singleton.mp hp]
section
variable {P : Program} {w : World} {K : PySem.W.Frag} {mg : Str → Option Value} {base : Heap} {cl : Cl} {fa : Addr} {fd : FuncData}

def N__is_integer : List Str := ["value"]
theorem sc__is_integer : FnScope N__is_integer ["value"] (defScope (top 9)) := ⟨rfl, rfl, rfl, by decide +kernel, rfl, by decide +kernel, by decide +kernel⟩
def b__is_integer : MS := (sRet (eAn (eIsI true (eV 0)) (eNot (eIsI false (eV 0)))))
def m__is_integer : List U → Option U := runF b__is_integer 0
theorem ok__is_integer (F : FunD K "_is_integer" "_is_integer" (defArgs (top 9)) (defBody (top 9)) (defScope (top 9)) [] [] fa fd) (g : Gs K mg cl)  : FnOk P w K mg base CX0 1 fa fd ["value"] (spF cl 1 m__is_integer) :=
  ok_of F sc__is_integer (by decide) fun cdv A outer s H E hr => (jss_one (js_ret (j_and (j_isI (b := true) (T := "int") (by decide +kernel) rfl g.isi (xty g.int PyProof.Rows.boot_int) (xv 0)) (j_and1 (j_not (j_isI (b := false) (T := "bool") (by decide +kernel) rfl g.isi (xty g.bool PyProof.Rows.boot_bool) (xv 0)))))))
def N_Permutation___init__ : List Str := ["self", "images", "k"]
theorem sc_Permutation___init__ : FnScope N_Permutation___init__ ["self", "images"] (defScope (cst 10 0)) := ⟨rfl, rfl, rfl, by decide +kernel, rfl, by decide +kernel, by decide +kernel⟩
def b_Permutation___init__ : MS := (sSeq (sIf (tOrr (tNt (tB1 (eIsS (eV 1)))) (tB1 (e2 fEq (eCa fLen (aC (eV 1) aN)) (eC (.int (.ofNat 0)))))) sNo sPass) (sSeq (sFor (wS (eV 1)) (.one 2) (sIf (tNt (tB1 (eCall m__is_integer (aC (eV 2) aN)))) sNo sPass)) (sSeq (sIf (tB1 (e2 (fNeD (.l .i)) (eFz (lCa (fSort .i) (aC (eV 1) aN))) (eFz (lRg1 (eCa fLen (aC (eV 1) aN)))))) sNo sPass) (sSeq (sIf (tB1 (e2 fGt (eCa fLen (aC (eV 1) aN)) (eC (.int (.ofNat 12))))) sNo sPass) (sFl 0 0 (eCa fTuple (aC (eV 1) aN)))))))
def m_Permutation___init__ : List U → Option (List U) := runI 0 b_Permutation___init__ 1
theorem ok_Permutation___init__ (F : FunD K "__init__" "Permutation.__init__" (defArgs (cst 10 0)) (defBody (cst 10 0)) (defScope (cst 10 0)) [] [] fa fd) (g : Gs K mg cl) (c__is_integer : Cal P w K mg base cl 1 "_is_integer" 1 [] m__is_integer) : FnOk P w K mg base CX0 2 fa fd ["self", "images"] (spI cl 0 2 m_Permutation___init__) :=
  ok_init F sc_Permutation___init__ (by decide) fun cl' hk cdv A outer s H E hr => (jss_cons (js_if (jt_pw (jw_or (jt_not (tt (j_isS rfl (g.cong hk.symm).isi (xty (g.cong hk.symm).list PyProof.Rows.boot_list) (xty (g.cong hk.symm).tuple PyProof.Rows.boot_tuple) (xv 1)))) (jw_or1 (teq (xlen (g.cong hk.symm).len (xv 1)) j_int)))) (jss_one js_never) jss_nil) (jss_cons (js_for PassesOwn.never rfl (ji_seq (xv 1)) (g1 2 sc_Permutation___init__.nd) (jss_one (js_if (jt_not (tt (j_call (c__is_integer.cong hk.symm) hr (by decide) rfl (ja_cons (xv 2) ja_nil) (len_cons len_nil)))) (jss_one js_never) jss_nil))) (jss_cons (js_if (tneD (.l .i) hr (j_fz (xsort .i (g.cong hk.symm).sorted rfl hr (xv 1))) (j_fz (jl_listRg rfl rfl (g.cong hk.symm).list rfl (g.cong hk.symm).range (xlen (g.cong hk.symm).len (xv 1))))) (jss_one js_never) jss_nil) (jss_cons (js_if (tgt (xlen (g.cong hk.symm).len (xv 1)) (xg (g.cong hk.symm).mostP)) (jss_one js_never) jss_nil) (jss_one (yfld 0 0 (g.cong hk.symm) rfl (by decide) rfl (xtup (g.cong hk.symm).tuple (xv 1)) (pv 0)))))))
def N_Permutation___mul__ : List Str := ["self", "other", "k"]
theorem sc_Permutation___mul__ : FnScope N_Permutation___mul__ ["self", "other"] (defScope (cst 10 2)) := ⟨rfl, rfl, rfl, by decide +kernel, rfl, by decide +kernel, by decide +kernel⟩
def b_Permutation___mul__ : MS := (sSeq (sIf (tB1 (e2 fNe (eCa fLen (aC (e1 (fFld 0 0) (eV 0)) aN)) (eCa fLen (aC (e1 (fFld 0 0) (eV 1)) aN)))) sNo sPass) (sRet (eMake 0 m_Permutation___init__ [] (aC (eFz (lLc (wS (e1 (fFld 0 0) (eV 1))) (.one 2) tYs (e2 fIx (e1 (fFld 0 0) (eV 0)) (eV 2)) [2])) aN))))
def m_Permutation___mul__ : List U → Option U := runF b_Permutation___mul__ 1
theorem ok_Permutation___mul__ (F : FunD K "__mul__" "Permutation.__mul__" (defArgs (cst 10 2)) (defBody (cst 10 2)) (defScope (cst 10 2)) [] [] fa fd) (g : Gs K mg cl) (k_Permutation___init__ : Mak P w K mg base cl 2 0 "Permutation" 2 [] m_Permutation___init__) : FnOk P w K mg base CX0 4 fa fd ["self", "other"] (spF cl 2 m_Permutation___mul__) :=
  ok_of F sc_Permutation___mul__ (by decide) fun cdv A outer s H E hr => (jss_cons (js_if (tne (xlen g.len (xfld 0 0 g (by decide) rfl (xv 0))) (xlen g.len (xfld 0 0 g (by decide) rfl (xv 1)))) (jss_one js_never) jss_nil) (jss_one (js_ret (j_make k_Permutation___init__ hr (by decide) rfl (ja_cons (j_fz (jl_lc (own := [("k", 2)]) rfl sc_Permutation___mul__.nd (ji_seq (xfld 0 0 g (by decide) rfl (xv 1))) (by kernel_rfl) (fun _ _ _ _ _ => (g1 2 sc_Permutation___mul__.nd)) (fun _ _ _ _ _ => jts_nil) (fun _ _ _ _ _ => (j_ix (xfld 0 0 g (by decide) rfl (xv 0)) (xv 2))))) ja_nil) (len_cons len_nil)))))
def N_identity : List Str := ["m"]
theorem sc_identity : FnScope N_identity ["m"] (defScope (top 11)) := ⟨rfl, rfl, rfl, by decide +kernel, rfl, by decide +kernel, by decide +kernel⟩
def b_identity : MS := (sRet (eMake 0 m_Permutation___init__ [] (aC (eFz (lRg1 (eV 0))) aN)))
def m_identity : List U → Option U := runF b_identity 0
theorem ok_identity (F : FunD K "identity" "identity" (defArgs (top 11)) (defBody (top 11)) (defScope (top 11)) [] [] fa fd) (g : Gs K mg cl) (k_Permutation___init__ : Mak P w K mg base cl 2 0 "Permutation" 2 [] m_Permutation___init__) : FnOk P w K mg base CX0 4 fa fd ["m"] (spF cl 1 m_identity) :=
  ok_of F sc_identity (by decide) fun cdv A outer s H E hr => (jss_one (js_ret (j_make k_Permutation___init__ hr (by decide) rfl (ja_cons (j_fz (jl_listRg rfl rfl g.list rfl g.range (xv 0))) ja_nil) (len_cons len_nil))))
def N__checked_rows : List Str := ["table", "size", "rows", "row", "x"]
theorem sc__checked_rows : FnScope N__checked_rows ["table"] (defScope (top 14)) := ⟨rfl, rfl, rfl, by decide +kernel, rfl, by decide +kernel, by decide +kernel⟩
def b__checked_rows : MS := (sSeq (sIf (tOrr (tNt (tB1 (eIsS (eV 0)))) (tB1 (e2 fEq (eCa fLen (aC (eV 0) aN)) (eC (.int (.ofNat 0)))))) sNo sPass) (sSeq (sSet 1 (eCa fLen (aC (eV 0) aN))) (sSeq (sIf (tB1 (e2 fGt (eV 1) (eC (.int (.ofNat 60))))) sNo sPass) (sSeq (sOwn 2 (lDis aN)) (sSeq (sFor (wS (eV 0)) (.one 3) (sSeq (sIf (tOrr (tNt (tB1 (eIsS (eV 3)))) (tB1 (e2 fNe (eCa fLen (aC (eV 3) aN)) (eV 1)))) sNo sPass) (sSeq (sFor (wS (eV 3)) (.one 4) (sIf (tOrr (tNt (tB1 (eIsI true (eV 4)))) (tOrr (tB1 (eIsI false (eV 4))) (tOrr (tB1 (e2 fLt (eV 4) (eC (.int (.ofNat 0))))) (tB1 (e2 fGe (eV 4) (eV 1)))))) sNo sPass)) (sApp 2 (eCa fTuple (aC (eV 3) aN)))))) (sRet (eCa fTuple (aC (eV 2) aN))))))))
def m__checked_rows : List U → Option U := runF b__checked_rows 4
theorem ok__checked_rows (F : FunD K "_checked_rows" "_checked_rows" (defArgs (top 14)) (defBody (top 14)) (defScope (top 14)) [] [] fa fd) (g : Gs K mg cl)  : FnOk P w K mg base CX0 1 fa fd ["table"] (spF cl 1 m__checked_rows) :=
  ok_of F sc__checked_rows (by decide) fun cdv A outer s H E hr => (jss_cons (js_if (jt_pw (jw_or (jt_not (tt (j_isS rfl g.isi (xty g.list PyProof.Rows.boot_list) (xty g.tuple PyProof.Rows.boot_tuple) (xv 0)))) (jw_or1 (teq (xlen g.len (xv 0)) j_int)))) (jss_one js_never) jss_nil) (jss_cons (yset 1 sc__checked_rows.nd (xlen g.len (xv 0))) (jss_cons (js_if (tgt (xv 1) (xg g.mostO)) (jss_one js_never) jss_nil) (jss_cons (yown 2 sc__checked_rows.nd (jl_lst ja_nil)) (jss_cons (js_for PassesOwn.never rfl (ji_seq (xv 0)) (g1 3 sc__checked_rows.nd) (jss_cons (js_if (jt_pw (jw_or (jt_not (tt (j_isS rfl g.isi (xty g.list PyProof.Rows.boot_list) (xty g.tuple PyProof.Rows.boot_tuple) (xv 3)))) (jw_or1 (tne (xlen g.len (xv 3)) (xv 1))))) (jss_one js_never) jss_nil) (jss_cons (js_for PassesOwn.never rfl (ji_seq (xv 3)) (g1 4 sc__checked_rows.nd) (jss_one (js_if (jt_pw (jw_or (jt_not (tt (j_isI (b := true) (T := "int") (by decide +kernel) rfl g.isi (xty g.int PyProof.Rows.boot_int) (xv 4)))) (jw_or (tt (j_isI (b := false) (T := "bool") (by decide +kernel) rfl g.isi (xty g.bool PyProof.Rows.boot_bool) (xv 4))) (jw_or (tlt (xv 4) j_int) (jw_or1 (tge (xv 4) (xv 1))))))) (jss_one js_never) jss_nil))) (jss_one (yapp 2 (xtup g.tuple (xv 3)) (pv 2)))))) (jss_one (js_ret (xtup g.tuple (xv 2)))))))))
def N__reached : List Str := ["rows", "chosen", "order", "seen", "at", "g", "x"]
theorem sc__reached : FnScope N__reached ["rows", "chosen"] (defScope (top 16)) := ⟨rfl, rfl, rfl, by decide +kernel, rfl, by decide +kernel, by decide +kernel⟩
def b__reached : MS := (sSeq (sOwn 2 (lDis (aC (eC (.int (.ofNat 0))) aN))) (sSeq (sOwnD 3 (eDisp1 (eC (.int (.ofNat 0))) (eC (.bl true)))) (sSeq (sSet 4 (eC (.int (.ofNat 0)))) (sSeq (whL (tB1 (e2 fLt (eV 4) (eCa fLen (aC (eV 2) aN)))) (sSeq (sFor (wS (eV 1)) (.one 5) (sSeq (sSet 6 (e2 fIx (e2 fIx (eV 0) (e2 fIx (eV 2) (eV 4))) (eV 5))) (sIf (tB1 (eDNotIn keyI (eV 6) (eV 3))) (sSeq (sDPutM @putI 3 (eV 6) (eC (.bl true))) (sApp 2 (eV 6))) sPass))) (sSet 4 (e2 fAdd (eV 4) (eC (.int (.ofNat 1)))))) 64) (sFrz 2 (sRet (eV 2)))))))
def m__reached : List U → Option U := runF b__reached 5
theorem ok__reached (F : FunD K "_reached" "_reached" (defArgs (top 16)) (defBody (top 16)) (defScope (top 16)) [] [] fa fd) (g : Gs K mg cl)  : FnOk P w K mg base CX0 1 fa fd ["rows", "chosen"] (spF cl 2 m__reached) :=
  ok_of F sc__reached (by decide) fun cdv A outer s H E hr => (jss_cons (yown 2 sc__reached.nd (jl_lst (ja_cons j_int ja_nil))) (jss_cons (yownD 3 sc__reached.nd (j_disp1 j_int j_bl)) (jss_cons (yset 4 sc__reached.nd j_int) (jss_cons (js_while 64 PassesOwn.never (tlt (xv 4) (xlen g.len (xv 2))) (jss_cons (js_for PassesOwn.never rfl (ji_seq (xv 1)) (g1 5 sc__reached.nd) (jss_cons (yset 6 sc__reached.nd (j_ix (j_ix (xv 0) (j_ix (xv 2) (xv 4))) (xv 5))) (jss_one (js_if (tdnotin look_i hr (xv 6) (xv 3)) (jss_cons (ydput 3 put_i hr (pv 3) (xv 6) j_bl) (jss_one (yapp 2 (xv 6) (pv 2)))) jss_nil)))) (jss_one (yset 4 sc__reached.nd (xadd (xv 4) j_int))))) (jss_frz 2 (jss_one (js_ret (xv 2))))))))
def N__generators : List Str := ["rows", "chosen", "reached", "x"]
theorem sc__generators : FnScope N__generators ["rows"] (defScope (top 15)) := ⟨rfl, rfl, rfl, by decide +kernel, rfl, by decide +kernel, by decide +kernel⟩
def b__generators : MS := (sSeq (sOwn 1 (lDis aN)) (sSeq (sSet 2 (eFz (lDis (aC (eC (.int (.ofNat 0))) aN)))) (sSeq (whL (tB1 (e2 fLt (eCa fLen (aC (eV 2) aN)) (eCa fLen (aC (eV 0) aN)))) (sSeq (sApp 1 (e2 fIx (eFz (lLc (wR1 (aC (eCa fLen (aC (eV 0) aN)) aN)) (.one 3) (tB1 (e2 fNotIn (eV 3) (eV 2))) (eV 3) [3])) (eC (.int (.ofNat 0))))) (sSet 2 (eBor m__reached (aC (eV 0) (aC (eV 1) aN))))) 64) (sFrz 1 (sRet (eV 1))))))
def m__generators : List U → Option U := runF b__generators 3
theorem ok__generators (F : FunD K "_generators" "_generators" (defArgs (top 15)) (defBody (top 15)) (defScope (top 15)) [] [] fa fd) (g : Gs K mg cl) (c__reached : Cal P w K mg base cl 1 "_reached" 2 [] m__reached) : FnOk P w K mg base CX0 2 fa fd ["rows"] (spF cl 1 m__generators) :=
  ok_of F sc__generators (by decide) fun cdv A outer s H E hr => (jss_cons (yown 1 sc__generators.nd (jl_lst ja_nil)) (jss_cons (yset 2 sc__generators.nd (j_fz (jl_lst (ja_cons j_int ja_nil)))) (jss_cons (js_while 64 PassesOwn.never (tlt (xlen g.len (xv 2)) (xlen g.len (xv 0))) (jss_cons (yapp 1 (j_ix (j_fz (jl_lc (own := [("x", 3)]) rfl sc__generators.nd (ji_range1 rfl g.range (ja_cons (xlen g.len (xv 0)) ja_nil)) (by kernel_rfl) (fun _ _ _ _ _ => (g1 3 sc__generators.nd)) (fun _ _ _ _ _ => (jts_one (tnotin (xv 3) (xv 2)))) (fun _ _ _ _ _ => (xv 3)))) j_int) (pv 1)) (jss_one (yset 2 sc__generators.nd (j_bor c__reached hr (by decide) rfl (ja_cons (xv 0) (ja_cons (xv 1) ja_nil))))))) (jss_frz 1 (jss_one (js_ret (xv 1)))))))
def N__check : List Str := ["rows", "size", "numbers", "row", "g", "x", "y"]
theorem sc__check : FnScope N__check ["rows"] (defScope (top 17)) := ⟨rfl, rfl, rfl, by decide +kernel, rfl, by decide +kernel, by decide +kernel⟩
def b__check : MS := (sSeq (sSet 1 (eCa fLen (aC (eV 0) aN))) (sSeq (sSet 2 (eFz (lRg1 (eV 1)))) (sSeq (sIf (tOrr (tB1 (e2 (fNeD (.l .i)) (eFz (lCa fList (aC (e2 fIx (eV 0) (eC (.int (.ofNat 0)))) aN))) (eV 2))) (tB1 (e2 (fNeD (.l .i)) (eFz (lLc (wS (eV 0)) (.one 3) tYs (e2 fIx (eV 3) (eC (.int (.ofNat 0)))) [3])) (eV 2)))) sNo sPass) (sSeq (sFor (wS (eV 0)) (.one 3) (sIf (tB1 (e2 fNotIn (eC (.int (.ofNat 0))) (eV 3))) sNo sPass)) (sFor (wS (eCall m__generators (aC (eV 0) aN))) (.one 4) (sFor (wR1 (aC (eV 1) aN)) (.one 5) (sFor (wR1 (aC (eV 1) aN)) (.one 6) (sIf (tB1 (e2 fNe (e2 fIx (e2 fIx (eV 0) (e2 fIx (e2 fIx (eV 0) (eV 5)) (eV 4))) (eV 6)) (e2 fIx (e2 fIx (eV 0) (eV 5)) (e2 fIx (e2 fIx (eV 0) (eV 4)) (eV 6))))) sNo sPass))))))))
def m__check : List U → Option U := runF b__check 6
theorem ok__check (F : FunD K "_check" "_check" (defArgs (top 17)) (defBody (top 17)) (defScope (top 17)) [] [] fa fd) (g : Gs K mg cl) (c__generators : Cal P w K mg base cl 2 "_generators" 1 [] m__generators) : FnOk P w K mg base CX0 3 fa fd ["rows"] (spF cl 1 m__check) :=
  ok_of F sc__check (by decide) fun cdv A outer s H E hr => (jss_cons (yset 1 sc__check.nd (xlen g.len (xv 0))) (jss_cons (yset 2 sc__check.nd (j_fz (jl_listRg rfl rfl g.list rfl g.range (xv 1)))) (jss_cons (js_if (jt_pw (jw_or (tneD (.l .i) hr (j_fz (xlist g.list (j_ix (xv 0) j_int))) (xv 2)) (jw_or1 (tneD (.l .i) hr (j_fz (jl_lc (own := [("row", 3)]) rfl sc__check.nd (ji_seq (xv 0)) (by kernel_rfl) (fun _ _ _ _ _ => (g1 3 sc__check.nd)) (fun _ _ _ _ _ => jts_nil) (fun _ _ _ _ _ => (j_ix (xv 3) j_int)))) (xv 2))))) (jss_one js_never) jss_nil) (jss_cons (js_for PassesOwn.never rfl (ji_seq (xv 0)) (g1 3 sc__check.nd) (jss_one (js_if (tnotin j_int (xv 3)) (jss_one js_never) jss_nil))) (jss_one (js_for PassesOwn.never rfl (ji_seq (j_call c__generators hr (by decide) rfl (ja_cons (xv 0) ja_nil) (len_cons len_nil))) (g1 4 sc__check.nd) (jss_one (js_for PassesOwn.never rfl (ji_range1 rfl g.range (ja_cons (xv 1) ja_nil)) (g1 5 sc__check.nd) (jss_one (js_for PassesOwn.never rfl (ji_range1 rfl g.range (ja_cons (xv 1) ja_nil)) (g1 6 sc__check.nd) (jss_one (js_if (tne (j_ix (j_ix (xv 0) (j_ix (j_ix (xv 0) (xv 5)) (xv 4))) (xv 6)) (j_ix (j_ix (xv 0) (xv 5)) (j_ix (j_ix (xv 0) (xv 4)) (xv 6)))) (jss_one js_never) jss_nil))))))))))))
def N_Group___init__ : List Str := ["self", "table", "rows"]
theorem sc_Group___init__ : FnScope N_Group___init__ ["self", "table"] (defScope (cst 18 0)) := ⟨rfl, rfl, rfl, by decide +kernel, rfl, by decide +kernel, by decide +kernel⟩
def b_Group___init__ : MS := (sSeq (sSet 2 (eCall m__checked_rows (aC (eV 1) aN))) (sSeq (sExp (eCall m__check (aC (eV 2) aN))) (sFl 1 0 (eV 2))))
def m_Group___init__ : List U → Option (List U) := runI 1 b_Group___init__ 1
theorem ok_Group___init__ (F : FunD K "__init__" "Group.__init__" (defArgs (cst 18 0)) (defBody (cst 18 0)) (defScope (cst 18 0)) [] [] fa fd) (g : Gs K mg cl) (c__checked_rows : Cal P w K mg base cl 1 "_checked_rows" 1 [] m__checked_rows) (c__check : Cal P w K mg base cl 3 "_check" 1 [] m__check) : FnOk P w K mg base CX0 4 fa fd ["self", "table"] (spI cl 1 2 m_Group___init__) :=
  ok_init F sc_Group___init__ (by decide) fun cl' hk cdv A outer s H E hr => (jss_cons (yset 2 sc_Group___init__.nd (j_call (c__checked_rows.cong hk.symm) hr (by decide) rfl (ja_cons (xv 1) ja_nil) (len_cons len_nil))) (jss_cons (js_expr (j_call (c__check.cong hk.symm) hr (by decide) rfl (ja_cons (xv 2) ja_nil) (len_cons len_nil))) (jss_one (yfld 1 0 (g.cong hk.symm) rfl (by decide) rfl (xv 2) (pv 0)))))
def N_Group___len__ : List Str := ["self"]
theorem sc_Group___len__ : FnScope N_Group___len__ ["self"] (defScope (cst 18 1)) := ⟨rfl, rfl, rfl, by decide +kernel, rfl, by decide +kernel, by decide +kernel⟩
def b_Group___len__ : MS := (sRet (eCa fLen (aC (e1 (fFld 1 0) (eV 0)) aN)))
def m_Group___len__ : List U → Option U := runF b_Group___len__ 0
theorem ok_Group___len__ (F : FunD K "__len__" "Group.__len__" (defArgs (cst 18 1)) (defBody (cst 18 1)) (defScope (cst 18 1)) [] [] fa fd) (g : Gs K mg cl)  : FnOk P w K mg base CX0 1 fa fd ["self"] (spF cl 1 m_Group___len__) :=
  ok_of F sc_Group___len__ (by decide) fun cdv A outer s H E hr => (jss_one (js_ret (xlen g.len (xfld 1 0 g (by decide) rfl (xv 0)))))
def N_Group_product : List Str := ["self", "x", "y"]
theorem sc_Group_product : FnScope N_Group_product ["self", "x", "y"] (defScope (cst 18 3)) := ⟨rfl, rfl, rfl, by decide +kernel, rfl, by decide +kernel, by decide +kernel⟩
def b_Group_product : MS := (sRet (e2 fIx (e2 fIx (e1 (fFld 1 0) (eV 0)) (eV 1)) (eV 2)))
def m_Group_product : List U → Option U := runF b_Group_product 0
theorem ok_Group_product (F : FunD K "product" "Group.product" (defArgs (cst 18 3)) (defBody (cst 18 3)) (defScope (cst 18 3)) [] [] fa fd) (g : Gs K mg cl)  : FnOk P w K mg base CX0 1 fa fd ["self", "x", "y"] (spF cl 3 m_Group_product) :=
  ok_of F sc_Group_product (by decide) fun cdv A outer s H E hr => (jss_one (js_ret (j_ix (j_ix (xfld 1 0 g (by decide) rfl (xv 0)) (xv 1)) (xv 2))))
def N_Group_inverse : List Str := ["self", "x"]
theorem sc_Group_inverse : FnScope N_Group_inverse ["self", "x"] (defScope (cst 18 4)) := ⟨rfl, rfl, rfl, by decide +kernel, rfl, by decide +kernel, by decide +kernel⟩
def b_Group_inverse : MS := (sRet (eIdx (eFz (lCa fList (aC (e2 fIx (e1 (fFld 1 0) (eV 0)) (eV 1)) aN))) (eC (.int (.ofNat 0)))))
def m_Group_inverse : List U → Option U := runF b_Group_inverse 0
theorem ok_Group_inverse (F : FunD K "inverse" "Group.inverse" (defArgs (cst 18 4)) (defBody (cst 18 4)) (defScope (cst 18 4)) [] [] fa fd) (g : Gs K mg cl)  : FnOk P w K mg base CX0 1 fa fd ["self", "x"] (spF cl 2 m_Group_inverse) :=
  ok_of F sc_Group_inverse (by decide) fun cdv A outer s H E hr => (jss_one (js_ret (xidx (j_fz (xlist g.list (j_ix (xfld 1 0 g (by decide) rfl (xv 0)) (xv 1)))) j_int)))
def N_Group_order_of : List Str := ["self", "x", "out", "y"]
theorem sc_Group_order_of : FnScope N_Group_order_of ["self", "x"] (defScope (cst 18 6)) := ⟨rfl, rfl, rfl, by decide +kernel, rfl, by decide +kernel, by decide +kernel⟩
def b_Group_order_of : MS := (sSeq (sSet 2 (eC (.int (.ofNat 1)))) (sSeq (sSet 3 (eV 1)) (sSeq (whL (tB1 (e2 fNe (eV 3) (eC (.int (.ofNat 0))))) (sSeq (sSet 3 (e2 fIx (e2 fIx (e1 (fFld 1 0) (eV 0)) (eV 3)) (eV 1))) (sSet 2 (e2 fAdd (eV 2) (eC (.int (.ofNat 1)))))) 64) (sRet (eV 2)))))
def m_Group_order_of : List U → Option U := runF b_Group_order_of 2
theorem ok_Group_order_of (F : FunD K "order_of" "Group.order_of" (defArgs (cst 18 6)) (defBody (cst 18 6)) (defScope (cst 18 6)) [] [] fa fd) (g : Gs K mg cl)  : FnOk P w K mg base CX0 1 fa fd ["self", "x"] (spF cl 2 m_Group_order_of) :=
  ok_of F sc_Group_order_of (by decide) fun cdv A outer s H E hr => (jss_cons (yset 2 sc_Group_order_of.nd j_int) (jss_cons (yset 3 sc_Group_order_of.nd (xv 1)) (jss_cons (js_while 64 PassesOwn.never (tne (xv 3) j_int) (jss_cons (yset 3 sc_Group_order_of.nd (j_ix (j_ix (xfld 1 0 g (by decide) rfl (xv 0)) (xv 3)) (xv 1))) (jss_one (yset 2 sc_Group_order_of.nd (xadd (xv 2) j_int))))) (jss_one (js_ret (xv 2))))))
def N_Group_power : List Str := ["self", "x", "k", "out", "_"]
theorem sc_Group_power : FnScope N_Group_power ["self", "x", "k"] (defScope (cst 18 5)) := ⟨rfl, rfl, rfl, by decide +kernel, rfl, by decide +kernel, by decide +kernel⟩
def b_Group_power : MS := (sSeq (sIf (tB1 (e2 fLt (eV 2) (eC (.int (.ofNat 0))))) sNo sPass) (sSeq (sSet 3 (eC (.int (.ofNat 0)))) (sSeq (sFor (wR1 (aC (e2 fMod (eV 2) (eMeth 1 m_Group_order_of (eV 0) (aC (eV 1) aN))) aN)) (.one 4) (sSet 3 (e2 fIx (e2 fIx (e1 (fFld 1 0) (eV 0)) (eV 3)) (eV 1)))) (sRet (eV 3)))))
def m_Group_power : List U → Option U := runF b_Group_power 2
theorem ok_Group_power (F : FunD K "power" "Group.power" (defArgs (cst 18 5)) (defBody (cst 18 5)) (defScope (cst 18 5)) [] [] fa fd) (g : Gs K mg cl) (t_Group_order_of : Met P w K mg base cl 1 1 "order_of" 2 m_Group_order_of) : FnOk P w K mg base CX0 2 fa fd ["self", "x", "k"] (spF cl 3 m_Group_power) :=
  ok_of F sc_Group_power (by decide) fun cdv A outer s H E hr => (jss_cons (js_if (tlt (xv 2) j_int) (jss_one js_never) jss_nil) (jss_cons (yset 3 sc_Group_power.nd j_int) (jss_cons (js_for PassesOwn.never rfl (ji_range1 rfl g.range (ja_cons (xmod (xv 2) (j_meth t_Group_order_of hr (by decide) (by decide) (xv 0) (ja_cons (xv 1) ja_nil) (len_cons len_nil))) ja_nil)) (g1 4 sc_Group_power.nd) (jss_one (yset 3 sc_Group_power.nd (j_ix (j_ix (xfld 1 0 g (by decide) rfl (xv 0)) (xv 3)) (xv 1))))) (jss_one (js_ret (xv 3))))))
def N_Group_conjugated : List Str := ["self", "x", "g"]
theorem sc_Group_conjugated : FnScope N_Group_conjugated ["self", "x", "g"] (defScope (cst 18 7)) := ⟨rfl, rfl, rfl, by decide +kernel, rfl, by decide +kernel, by decide +kernel⟩
def b_Group_conjugated : MS := (sRet (e2 fIx (e2 fIx (e1 (fFld 1 0) (eV 0)) (eMeth 1 m_Group_inverse (eV 0) (aC (eV 2) aN))) (e2 fIx (e2 fIx (e1 (fFld 1 0) (eV 0)) (eV 1)) (eV 2))))
def m_Group_conjugated : List U → Option U := runF b_Group_conjugated 0
theorem ok_Group_conjugated (F : FunD K "conjugated" "Group.conjugated" (defArgs (cst 18 7)) (defBody (cst 18 7)) (defScope (cst 18 7)) [] [] fa fd) (g : Gs K mg cl) (t_Group_inverse : Met P w K mg base cl 1 1 "inverse" 2 m_Group_inverse) : FnOk P w K mg base CX0 2 fa fd ["self", "x", "g"] (spF cl 3 m_Group_conjugated) :=
  ok_of F sc_Group_conjugated (by decide) fun cdv A outer s H E hr => (jss_one (js_ret (j_ix (j_ix (xfld 1 0 g (by decide) rfl (xv 0)) (j_meth t_Group_inverse hr (by decide) (by decide) (xv 0) (ja_cons (xv 2) ja_nil) (len_cons len_nil))) (j_ix (j_ix (xfld 1 0 g (by decide) rfl (xv 0)) (xv 1)) (xv 2)))))
def N_Group_exponent : List Str := ["self", "out", "x"]
theorem sc_Group_exponent : FnScope N_Group_exponent ["self"] (defScope (cst 18 8)) := ⟨rfl, rfl, rfl, by decide +kernel, rfl, by decide +kernel, by decide +kernel⟩
def b_Group_exponent : MS := (sSeq (sSet 1 (eC (.int (.ofNat 1)))) (sSeq (sFor (wR1 (aC (eCa fLen (aC (e1 (fFld 1 0) (eV 0)) aN)) aN)) (.one 2) (sSet 1 (eCa fLcm (aC (eV 1) (aC (eMeth 1 m_Group_order_of (eV 0) (aC (eV 2) aN)) aN))))) (sRet (eV 1))))
def m_Group_exponent : List U → Option U := runF b_Group_exponent 2
theorem ok_Group_exponent (F : FunD K "exponent" "Group.exponent" (defArgs (cst 18 8)) (defBody (cst 18 8)) (defScope (cst 18 8)) [] [] fa fd) (g : Gs K mg cl) (t_Group_order_of : Met P w K mg base cl 1 1 "order_of" 2 m_Group_order_of) : FnOk P w K mg base CX0 2 fa fd ["self"] (spF cl 1 m_Group_exponent) :=
  ok_of F sc_Group_exponent (by decide) fun cdv A outer s H E hr => (jss_cons (yset 1 sc_Group_exponent.nd j_int) (jss_cons (js_for PassesOwn.never rfl (ji_range1 rfl g.range (ja_cons (xlen g.len (xfld 1 0 g (by decide) rfl (xv 0))) ja_nil)) (g1 2 sc_Group_exponent.nd) (jss_one (yset 1 sc_Group_exponent.nd (xlcm g.lcm (xv 1) (j_meth t_Group_order_of hr (by decide) (by decide) (xv 0) (ja_cons (xv 2) ja_nil) (len_cons len_nil)))))) (jss_one (js_ret (xv 1)))))
def N_cyclic : List Str := ["n", "y", "x"]
theorem sc_cyclic : FnScope N_cyclic ["n"] (defScope (top 19)) := ⟨rfl, rfl, rfl, by decide +kernel, rfl, by decide +kernel, by decide +kernel⟩
def b_cyclic : MS := (sSeq (sIf (tOrr (tB1 (e2 fLt (eV 0) (eC (.int (.ofNat 1))))) (tB1 (e2 fGt (eV 0) (eC (.int (.ofNat 60)))))) sNo sPass) (sRet (eMake 1 m_Group___init__ [] (aC (eFz (lLc (wR1 (aC (eV 0) aN)) (.one 2) tYs (eFz (lLc (wR1 (aC (eV 0) aN)) (.one 1) tYs (e2 fMod (e2 fAdd (eV 2) (eV 1)) (eV 0)) [1])) [2])) aN))))
def m_cyclic : List U → Option U := runF b_cyclic 2
theorem ok_cyclic (F : FunD K "cyclic" "cyclic" (defArgs (top 19)) (defBody (top 19)) (defScope (top 19)) [] [] fa fd) (g : Gs K mg cl) (k_Group___init__ : Mak P w K mg base cl 4 1 "Group" 2 [] m_Group___init__) : FnOk P w K mg base CX0 6 fa fd ["n"] (spF cl 1 m_cyclic) :=
  ok_of F sc_cyclic (by decide) fun cdv A outer s H E hr => (jss_cons (js_if (jt_pw (jw_or (tlt (xv 0) j_int) (jw_or1 (tgt (xv 0) (xg g.mostO))))) (jss_one js_never) jss_nil) (jss_one (js_ret (j_make k_Group___init__ hr (by decide) rfl (ja_cons (j_fz (jl_lc (own := [("x", 2)]) rfl sc_cyclic.nd (ji_range1 rfl g.range (ja_cons (xv 0) ja_nil)) (by kernel_rfl) (fun _ _ _ _ _ => (g1 2 sc_cyclic.nd)) (fun _ _ _ _ _ => jts_nil) (fun _ _ _ _ _ => (j_fz (jl_lc (own := [("y", 1)]) rfl sc_cyclic.nd (ji_range1 rfl g.range (ja_cons (xv 0) ja_nil)) (by kernel_rfl) (fun _ _ _ _ _ => (g1 1 sc_cyclic.nd)) (fun _ _ _ _ _ => jts_nil) (fun _ _ _ _ _ => (xmod (xadd (xv 2) (xv 1)) (xv 0)))))))) ja_nil) (len_cons len_nil)))))
def N_direct : List Str := ["a", "b", "many", "size", "rows", "x", "row", "y"]
theorem sc_direct : FnScope N_direct ["a", "b"] (defScope (top 20)) := ⟨rfl, rfl, rfl, by decide +kernel, rfl, by decide +kernel, by decide +kernel⟩
def b_direct : MS := (sSeq (sSet 2 (eCa (fLenO 1 m_Group___len__) (aC (eV 1) aN))) (sSeq (sSet 3 (e2 fMul (eCa (fLenO 1 m_Group___len__) (aC (eV 0) aN)) (eV 2))) (sSeq (sIf (tB1 (e2 fGt (eV 3) (eC (.int (.ofNat 60))))) sNo sPass) (sSeq (sOwn 4 (lDis aN)) (sSeq (sFor (wR1 (aC (eV 3) aN)) (.one 5) (sSeq (sOwn 6 (lDis aN)) (sSeq (sFor (wR1 (aC (eV 3) aN)) (.one 7) (sApp 6 (e2 fAdd (e2 fMul (eMeth 1 m_Group_product (eV 0) (aC (e2 fDiv (eV 5) (eV 2)) (aC (e2 fDiv (eV 7) (eV 2)) aN))) (eV 2)) (eMeth 1 m_Group_product (eV 1) (aC (e2 fMod (eV 5) (eV 2)) (aC (e2 fMod (eV 7) (eV 2)) aN)))))) (sFrz 6 (sApp 4 (eV 6)))))) (sFrz 4 (sRet (eMake 1 m_Group___init__ [] (aC (eV 4) aN)))))))))
def m_direct : List U → Option U := runF b_direct 6
theorem ok_direct (F : FunD K "direct" "direct" (defArgs (top 20)) (defBody (top 20)) (defScope (top 20)) [] [] fa fd) (g : Gs K mg cl) (o_Group___len__ : Dnd P w K mg base cl 1 1 "__len__" 1 m_Group___len__) (t_Group_product : Met P w K mg base cl 1 1 "product" 3 m_Group_product) (k_Group___init__ : Mak P w K mg base cl 4 1 "Group" 2 [] m_Group___init__) : FnOk P w K mg base CX0 6 fa fd ["a", "b"] (spF cl 2 m_direct) :=
  ok_of F sc_direct (by decide) fun cdv A outer s H E hr => (jss_cons (yset 2 sc_direct.nd (xlenO o_Group___len__ hr (by decide) g.len (xv 1))) (jss_cons (yset 3 sc_direct.nd (xmul (xlenO o_Group___len__ hr (by decide) g.len (xv 0)) (xv 2))) (jss_cons (js_if (tgt (xv 3) (xg g.mostO)) (jss_one js_never) jss_nil) (jss_cons (yown 4 sc_direct.nd (jl_lst ja_nil)) (jss_cons (js_for PassesOwn.never rfl (ji_range1 rfl g.range (ja_cons (xv 3) ja_nil)) (g1 5 sc_direct.nd) (jss_cons (yown 6 sc_direct.nd (jl_lst ja_nil)) (jss_cons (js_for PassesOwn.never rfl (ji_range1 rfl g.range (ja_cons (xv 3) ja_nil)) (g1 7 sc_direct.nd) (jss_one (yapp 6 (xadd (xmul (j_meth t_Group_product hr (by decide) (by decide) (xv 0) (ja_cons (xdiv (xv 5) (xv 2)) (ja_cons (xdiv (xv 7) (xv 2)) ja_nil)) (len_cons (len_cons len_nil))) (xv 2)) (j_meth t_Group_product hr (by decide) (by decide) (xv 1) (ja_cons (xmod (xv 5) (xv 2)) (ja_cons (xmod (xv 7) (xv 2)) ja_nil)) (len_cons (len_cons len_nil)))) (pv 6)))) (jss_frz 6 (jss_one (yapp 4 (xv 6) (pv 4))))))) (jss_frz 4 (jss_one (js_ret (j_make k_Group___init__ hr (by decide) rfl (ja_cons (xv 4) ja_nil) (len_cons len_nil))))))))))
def N__closure : List Str := ["generators", "first", "order", "seen", "at", "g", "found"]
theorem sc__closure : FnScope N__closure ["generators"] (defScope (top 21)) := ⟨rfl, rfl, rfl, by decide +kernel, rfl, by decide +kernel, by decide +kernel⟩
def b__closure : MS := (sSeq (sSet 1 (eCall m_identity (aC (eCa fLen (aC (e1 (fFld 0 0) (e2 fIx (eV 0) (eC (.int (.ofNat 0))))) aN)) aN))) (sSeq (sOwn 2 (lDis (aC (eV 1) aN))) (sSeq (sOwnD 3 (eDispT (e1 (fFld 0 0) (eV 1)) (eC (.bl true)))) (sSeq (sSet 4 (eC (.int (.ofNat 0)))) (sSeq (whL (tB1 (e2 fLt (eV 4) (eCa fLen (aC (eV 2) aN)))) (sSeq (sFor (wS (eV 0)) (.one 5) (sSeq (sSet 6 (e2 (fDun 0 m_Permutation___mul__) (e2 fIx (eV 2) (eV 4)) (eV 5))) (sIf (tB1 (eDNotIn keyT (e1 (fFld 0 0) (eV 6)) (eV 3))) (sSeq (sDPutM @putT 3 (e1 (fFld 0 0) (eV 6)) (eC (.bl true))) (sSeq (sApp 2 (eV 6)) (sIf (tB1 (e2 fGt (eCa fLen (aC (eV 2) aN)) (eC (.int (.ofNat 60))))) sNo sPass))) sPass))) (sSet 4 (e2 fAdd (eV 4) (eC (.int (.ofNat 1)))))) 64) (sRet (eFz (lCa (fSort (.a .i)) (aC (eV 3) aN)))))))))
def m__closure : List U → Option U := runF b__closure 6
theorem ok__closure (F : FunD K "_closure" "_closure" (defArgs (top 21)) (defBody (top 21)) (defScope (top 21)) [] [] fa fd) (g : Gs K mg cl) (c_identity : Cal P w K mg base cl 4 "identity" 1 [] m_identity) (o_Permutation___mul__ : Dnd P w K mg base cl 4 0 "__mul__" 2 m_Permutation___mul__) : FnOk P w K mg base CX0 5 fa fd ["generators"] (spF cl 1 m__closure) :=
  ok_of F sc__closure (by decide) fun cdv A outer s H E hr => (jss_cons (yset 1 sc__closure.nd (j_call c_identity hr (by decide) rfl (ja_cons (xlen g.len (xfld 0 0 g (by decide) rfl (j_ix (xv 0) j_int))) ja_nil) (len_cons len_nil))) (jss_cons (yown 2 sc__closure.nd (jl_lst (ja_cons (xv 1) ja_nil))) (jss_cons (yownD 3 sc__closure.nd (j_dispT hr.units0 (xfld 0 0 g (by decide) rfl (xv 1)) j_bl)) (jss_cons (yset 4 sc__closure.nd j_int) (jss_cons (js_while 64 PassesOwn.never (tlt (xv 4) (xlen g.len (xv 2))) (jss_cons (js_for PassesOwn.never rfl (ji_seq (xv 0)) (g1 5 sc__closure.nd) (jss_cons (yset 6 sc__closure.nd (j_bin (op := .Mult) o_Permutation___mul__ hr (by decide) (j_ix (xv 2) (xv 4)) (xv 5))) (jss_one (js_if (tdnotin look_t hr (xfld 0 0 g (by decide) rfl (xv 6)) (xv 3)) (jss_cons (ydput 3 put_t hr (pv 3) (xfld 0 0 g (by decide) rfl (xv 6)) j_bl) (jss_cons (yapp 2 (xv 6) (pv 2)) (jss_one (js_if (tgt (xlen g.len (xv 2)) (xg g.mostO)) (jss_one js_never) jss_nil)))) jss_nil)))) (jss_one (yset 4 sc__closure.nd (xadd (xv 4) j_int))))) (jss_one (js_ret (j_fz (xsort (.a .i) g.sorted rfl hr (xv 3))))))))))
def N_from_permutations : List Str := ["generators", "g", "images", "permutations", "row", "number", "at", "rows", "b", "a"]
theorem sc_from_permutations : FnScope N_from_permutations ["generators"] (defScope (top 22)) := ⟨rfl, rfl, rfl, by decide +kernel, rfl, by decide +kernel, by decide +kernel⟩
def b_from_permutations : MS := (sSeq (sIf (tOrr (tNt (tB1 (eIsS (eV 0)))) (tB1 (e2 fEq (eCa fLen (aC (eV 0) aN)) (eC (.int (.ofNat 0)))))) sNo sPass) (sSeq (sFor (wS (eV 0)) (.one 1) (sIf (tOrr (tNt (tB1 (eIsC 0 (eV 1)))) (tB1 (e2 fNe (eCa fLen (aC (e1 (fFld 0 0) (eV 1)) aN)) (eCa fLen (aC (e1 (fFld 0 0) (e2 fIx (eV 0) (eC (.int (.ofNat 0))))) aN))))) sNo sPass)) (sSeq (sSet 2 (eCall m__closure (aC (eV 0) aN))) (sSeq (sSet 3 (eFz (lLc (wS (eV 2)) (.one 4) tYs (eMake 0 m_Permutation___init__ [] (aC (eV 4) aN)) [4]))) (sSeq (sOwnD 5 (eDc @putT (.dt [] []) (wEnum (aC (eV 2) aN)) (.two 6 4) tYs (eV 4) (eV 6) [6, 4])) (sSeq (sSet 7 (eFz (lLc (wS (eV 3)) (.one 9) tYs (eFz (lLc (wS (eV 3)) (.one 8) tYs (eDGet keyT (eV 5) (e1 (fFld 0 0) (e2 (fDun 0 m_Permutation___mul__) (eV 9) (eV 8)))) [8])) [9]))) (sRet (eTup (aC (eMake 1 m_Group___init__ [] (aC (eV 7) aN)) (aC (eCa fTuple (aC (eV 3) aN)) aN))))))))))
def m_from_permutations : List U → Option U := runF b_from_permutations 9
theorem ok_from_permutations (F : FunD K "from_permutations" "from_permutations" (defArgs (top 22)) (defBody (top 22)) (defScope (top 22)) [] [] fa fd) (g : Gs K mg cl) (c__closure : Cal P w K mg base cl 5 "_closure" 1 [] m__closure) (k_Permutation___init__ : Mak P w K mg base cl 2 0 "Permutation" 2 [] m_Permutation___init__) (o_Permutation___mul__ : Dnd P w K mg base cl 4 0 "__mul__" 2 m_Permutation___mul__) (k_Group___init__ : Mak P w K mg base cl 4 1 "Group" 2 [] m_Group___init__) : FnOk P w K mg base CX0 6 fa fd ["generators"] (spF cl 1 m_from_permutations) :=
  ok_of F sc_from_permutations (by decide) fun cdv A outer s H E hr => (jss_cons (js_if (jt_pw (jw_or (jt_not (tt (j_isS rfl g.isi (xty g.list PyProof.Rows.boot_list) (xty g.tuple PyProof.Rows.boot_tuple) (xv 0)))) (jw_or1 (teq (xlen g.len (xv 0)) j_int)))) (jss_one js_never) jss_nil) (jss_cons (js_for PassesOwn.never rfl (ji_seq (xv 0)) (g1 1 sc_from_permutations.nd) (jss_one (js_if (jt_pw (jw_or (jt_not (tt (j_isC g.insP rfl g.isi (xcl g.perm) (xv 1)))) (jw_or1 (tne (xlen g.len (xfld 0 0 g (by decide) rfl (xv 1))) (xlen g.len (xfld 0 0 g (by decide) rfl (j_ix (xv 0) j_int))))))) (jss_one js_never) jss_nil))) (jss_cons (yset 2 sc_from_permutations.nd (j_call c__closure hr (by decide) rfl (ja_cons (xv 0) ja_nil) (len_cons len_nil))) (jss_cons (yset 3 sc_from_permutations.nd (j_fz (jl_lc (own := [("row", 4)]) rfl sc_from_permutations.nd (ji_seq (xv 2)) (by kernel_rfl) (fun _ _ _ _ _ => (g1 4 sc_from_permutations.nd)) (fun _ _ _ _ _ => jts_nil) (fun _ _ _ _ _ => (j_make k_Permutation___init__ hr (by decide) rfl (ja_cons (xv 4) ja_nil) (len_cons len_nil)))))) (jss_cons (yownD 5 sc_from_permutations.nd (j_dc (own := [("at", 6), ("row", 4)]) put_t rfl emp_t rv_t0 hr.units0 rfl sc_from_permutations.nd (ji_enum rfl g.enum (ja_cons (xv 2) ja_nil)) (by kernel_rfl) (fun _ _ _ _ _ => (g2 6 4 sc_from_permutations.nd rfl)) (fun _ _ _ _ _ => jts_nil) (fun _ _ _ _ _ => (xv 4)) (fun _ _ _ _ _ => (xv 6)))) (jss_cons (ylcF 7 (own := [("a", 9)]) rfl sc_from_permutations.nd (ji_seq (xv 3)) (by kernel_rfl) (fun _ _ _ _ _ => (g1 9 sc_from_permutations.nd)) (fun _ _ _ _ _ => jts_nil) (fun _ _ _ _ _ => (j_fz (jl_lc (own := [("b", 8)]) rfl sc_from_permutations.nd (ji_seq (xv 3)) (by kernel_rfl) (fun _ _ _ _ _ => (g1 8 sc_from_permutations.nd)) (fun _ _ _ _ _ => jts_nil) (fun _ _ _ _ _ => (xdget look_t hr (xv 5) (xfld 0 0 g (by decide) rfl (j_bin (op := .Mult) o_Permutation___mul__ hr (by decide) (xv 9) (xv 8))))))))) (jss_one (js_ret (j_tup (ja_cons (j_make k_Group___init__ hr (by decide) rfl (ja_cons (xv 7) ja_nil) (len_cons len_nil)) (ja_cons (xtup g.tuple (xv 3)) ja_nil)))))))))))
def N_classes : List Str := ["group", "seen", "keys", "x", "found", "g", "y", "key"]
theorem sc_classes : FnScope N_classes ["group"] (defScope (top 24)) := ⟨rfl, rfl, rfl, by decide +kernel, rfl, by decide +kernel, by decide +kernel⟩
def b_classes : MS := (sSeq (sOwnD 1 (eC (.dk [] []))) (sSeq (sOwn 2 (lDis aN)) (sSeq (sFor (wR1 (aC (eCa (fLenO 1 m_Group___len__) (aC (eV 0) aN)) aN)) (.one 3) (sIf (tB1 (eDNotIn keyI (eV 3) (eV 1))) (sSeq (sSet 4 (eFz (lCa (fSort .i) (aC (eDc @putI (.dk [] []) (wR1 (aC (eCa (fLenO 1 m_Group___len__) (aC (eV 0) aN)) aN)) (.one 5) tYs (eMeth 1 m_Group_conjugated (eV 0) (aC (eV 3) (aC (eV 5) aN))) (eC (.bl true)) [5]) aN)))) (sSeq (sFor (wS (eV 4)) (.one 6) (sDPutM @putI 1 (eV 6) (eC (.bl true)))) (sApp 2 (eTup (aC (eMeth 1 m_Group_order_of (eV 0) (aC (eV 3) aN)) (aC (eCa fLen (aC (eV 4) aN)) (aC (eCa fTuple (aC (eV 4) aN)) aN))))))) sPass)) (sRet (eCa fTuple (aC (eFz (lLc (wS (eFz (lCa (fSort (.t3 .i .i (.a .i))) (aC (eV 2) aN)))) (.one 7) tYs (e2 fIx (eV 7) (eC (.int (.ofNat 2)))) [7])) aN))))))
def m_classes : List U → Option U := runF b_classes 7
theorem ok_classes (F : FunD K "classes" "classes" (defArgs (top 24)) (defBody (top 24)) (defScope (top 24)) [] [] fa fd) (g : Gs K mg cl) (o_Group___len__ : Dnd P w K mg base cl 1 1 "__len__" 1 m_Group___len__) (t_Group_conjugated : Met P w K mg base cl 2 1 "conjugated" 3 m_Group_conjugated) (t_Group_order_of : Met P w K mg base cl 1 1 "order_of" 2 m_Group_order_of) : FnOk P w K mg base CX0 3 fa fd ["group"] (spF cl 1 m_classes) :=
  ok_of F sc_classes (by decide) fun cdv A outer s H E hr => (jss_cons (yownD 1 sc_classes.nd j_dnewK) (jss_cons (yown 2 sc_classes.nd (jl_lst ja_nil)) (jss_cons (js_for PassesOwn.never rfl (ji_range1 rfl g.range (ja_cons (xlenO o_Group___len__ hr (by decide) g.len (xv 0)) ja_nil)) (g1 3 sc_classes.nd) (jss_one (js_if (tdnotin look_i hr (xv 3) (xv 1)) (jss_cons (yset 4 sc_classes.nd (j_fz (xsort .i g.sorted rfl hr (j_dn (j_dc (own := [("g", 5)]) put_i rfl emp_k rv_k0 hr.units0 rfl sc_classes.nd (ji_range1 rfl g.range (ja_cons (xlenO o_Group___len__ hr (by decide) g.len (xv 0)) ja_nil)) (by kernel_rfl) (fun _ _ _ _ _ => (g1 5 sc_classes.nd)) (fun _ _ _ _ _ => jts_nil) (fun _ _ _ _ _ => (j_meth t_Group_conjugated hr (by decide) (by decide) (xv 0) (ja_cons (xv 3) (ja_cons (xv 5) ja_nil)) (len_cons (len_cons len_nil)))) (fun _ _ _ _ _ => j_bl)))))) (jss_cons (js_for PassesOwn.never rfl (ji_seq (xv 4)) (g1 6 sc_classes.nd) (jss_one (ydput 1 put_i hr (pv 1) (xv 6) j_bl))) (jss_one (yapp 2 (j_tup (ja_cons (j_meth t_Group_order_of hr (by decide) (by decide) (xv 0) (ja_cons (xv 3) ja_nil) (len_cons len_nil)) (ja_cons (xlen g.len (xv 4)) (ja_cons (xtup g.tuple (xv 4)) ja_nil)))) (pv 2))))) jss_nil))) (jss_one (js_ret (xtup g.tuple (j_fz (jl_lc (own := [("key", 7)]) rfl sc_classes.nd (ji_seq (j_fz (xsort (.t3 .i .i (.a .i)) g.sorted rfl hr (xv 2)))) (by kernel_rfl) (fun _ _ _ _ _ => (g1 7 sc_classes.nd)) (fun _ _ _ _ _ => jts_nil) (fun _ _ _ _ _ => (j_ix (xv 7) j_int))))))))))
def N_class_numbers : List Str := ["group", "out", "_", "i", "found", "x"]
theorem sc_class_numbers : FnScope N_class_numbers ["group"] (defScope (top 25)) := ⟨rfl, rfl, rfl, by decide +kernel, rfl, by decide +kernel, by decide +kernel⟩
def b_class_numbers : MS := (sSeq (sOwn 1 (lLc (wR1 (aC (eCa (fLenO 1 m_Group___len__) (aC (eV 0) aN)) aN)) (.one 2) tYs (eC (.int (.ofNat 0))) [2])) (sSeq (sFor (wEnum (aC (eCall m_classes (aC (eV 0) aN)) aN)) (.two 3 4) (sFor (wS (eV 4)) (.one 5) (sPut 1 (eV 5) (eV 3)))) (sRet (eCa fTuple (aC (eV 1) aN)))))
def m_class_numbers : List U → Option U := runF b_class_numbers 5
theorem ok_class_numbers (F : FunD K "class_numbers" "class_numbers" (defArgs (top 25)) (defBody (top 25)) (defScope (top 25)) [] [] fa fd) (g : Gs K mg cl) (o_Group___len__ : Dnd P w K mg base cl 1 1 "__len__" 1 m_Group___len__) (c_classes : Cal P w K mg base cl 3 "classes" 1 [] m_classes) : FnOk P w K mg base CX0 4 fa fd ["group"] (spF cl 1 m_class_numbers) :=
  ok_of F sc_class_numbers (by decide) fun cdv A outer s H E hr => (jss_cons (ylcO 1 (own := [("_", 2)]) rfl sc_class_numbers.nd (ji_range1 rfl g.range (ja_cons (xlenO o_Group___len__ hr (by decide) g.len (xv 0)) ja_nil)) (by kernel_rfl) (fun _ _ _ _ _ => (g1 2 sc_class_numbers.nd)) (fun _ _ _ _ _ => jts_nil) (fun _ _ _ _ _ => j_int)) (jss_cons (js_for PassesOwn.never rfl (ji_enum rfl g.enum (ja_cons (j_call c_classes hr (by decide) rfl (ja_cons (xv 0) ja_nil) (len_cons len_nil)) ja_nil)) (g2 3 4 sc_class_numbers.nd rfl) (jss_one (js_for PassesOwn.never rfl (ji_seq (xv 4)) (g1 5 sc_class_numbers.nd) (jss_one (yput 1 (xv 5) (xv 3)))))) (jss_one (js_ret (xtup g.tuple (xv 1))))))
def N_class_of_power : List Str := ["group", "i", "k"]
theorem sc_class_of_power : FnScope N_class_of_power ["group", "i", "k"] (defScope (top 26)) := ⟨rfl, rfl, rfl, by decide +kernel, rfl, by decide +kernel, by decide +kernel⟩
def b_class_of_power : MS := (sRet (e2 fIx (eCall m_class_numbers (aC (eV 0) aN)) (eMeth 1 m_Group_power (eV 0) (aC (e2 fIx (e2 fIx (eCall m_classes (aC (eV 0) aN)) (eV 1)) (eC (.int (.ofNat 0)))) (aC (eV 2) aN)))))
def m_class_of_power : List U → Option U := runF b_class_of_power 0
theorem ok_class_of_power (F : FunD K "class_of_power" "class_of_power" (defArgs (top 26)) (defBody (top 26)) (defScope (top 26)) [] [] fa fd) (g : Gs K mg cl) (c_class_numbers : Cal P w K mg base cl 4 "class_numbers" 1 [] m_class_numbers) (t_Group_power : Met P w K mg base cl 2 1 "power" 3 m_Group_power) (c_classes : Cal P w K mg base cl 3 "classes" 1 [] m_classes) : FnOk P w K mg base CX0 5 fa fd ["group", "i", "k"] (spF cl 3 m_class_of_power) :=
  ok_of F sc_class_of_power (by decide) fun cdv A outer s H E hr => (jss_one (js_ret (j_ix (j_call c_class_numbers hr (by decide) rfl (ja_cons (xv 0) ja_nil) (len_cons len_nil)) (j_meth t_Group_power hr (by decide) (by decide) (xv 0) (ja_cons (j_ix (j_ix (j_call c_classes hr (by decide) rfl (ja_cons (xv 0) ja_nil) (len_cons len_nil)) (xv 1)) j_int) (ja_cons (xv 2) ja_nil)) (len_cons (len_cons len_nil))))))
def N_inverse_classes : List Str := ["group", "numbers", "found"]
theorem sc_inverse_classes : FnScope N_inverse_classes ["group"] (defScope (top 27)) := ⟨rfl, rfl, rfl, by decide +kernel, rfl, by decide +kernel, by decide +kernel⟩
def b_inverse_classes : MS := (sSeq (sSet 1 (eCall m_class_numbers (aC (eV 0) aN))) (sRet (eCa fTuple (aC (eFz (lLc (wS (eCall m_classes (aC (eV 0) aN))) (.one 2) tYs (e2 fIx (eV 1) (eMeth 1 m_Group_inverse (eV 0) (aC (e2 fIx (eV 2) (eC (.int (.ofNat 0)))) aN))) [2])) aN))))
def m_inverse_classes : List U → Option U := runF b_inverse_classes 2
theorem ok_inverse_classes (F : FunD K "inverse_classes" "inverse_classes" (defArgs (top 27)) (defBody (top 27)) (defScope (top 27)) [] [] fa fd) (g : Gs K mg cl) (c_class_numbers : Cal P w K mg base cl 4 "class_numbers" 1 [] m_class_numbers) (c_classes : Cal P w K mg base cl 3 "classes" 1 [] m_classes) (t_Group_inverse : Met P w K mg base cl 1 1 "inverse" 2 m_Group_inverse) : FnOk P w K mg base CX0 5 fa fd ["group"] (spF cl 1 m_inverse_classes) :=
  ok_of F sc_inverse_classes (by decide) fun cdv A outer s H E hr => (jss_cons (yset 1 sc_inverse_classes.nd (j_call c_class_numbers hr (by decide) rfl (ja_cons (xv 0) ja_nil) (len_cons len_nil))) (jss_one (js_ret (xtup g.tuple (j_fz (jl_lc (own := [("found", 2)]) rfl sc_inverse_classes.nd (ji_seq (j_call c_classes hr (by decide) rfl (ja_cons (xv 0) ja_nil) (len_cons len_nil))) (by kernel_rfl) (fun _ _ _ _ _ => (g1 2 sc_inverse_classes.nd)) (fun _ _ _ _ _ => jts_nil) (fun _ _ _ _ _ => (j_ix (xv 1) (j_meth t_Group_inverse hr (by decide) (by decide) (xv 0) (ja_cons (j_ix (xv 2) j_int) ja_nil) (len_cons len_nil))))))))))
def N_class_sizes : List Str := ["group", "found"]
theorem sc_class_sizes : FnScope N_class_sizes ["group"] (defScope (top 29)) := ⟨rfl, rfl, rfl, by decide +kernel, rfl, by decide +kernel, by decide +kernel⟩
def b_class_sizes : MS := (sRet (eCa fTuple (aC (eFz (lLc (wS (eCall m_classes (aC (eV 0) aN))) (.one 1) tYs (eCa fLen (aC (eV 1) aN)) [1])) aN)))
def m_class_sizes : List U → Option U := runF b_class_sizes 1
theorem ok_class_sizes (F : FunD K "class_sizes" "class_sizes" (defArgs (top 29)) (defBody (top 29)) (defScope (top 29)) [] [] fa fd) (g : Gs K mg cl) (c_classes : Cal P w K mg base cl 3 "classes" 1 [] m_classes) : FnOk P w K mg base CX0 4 fa fd ["group"] (spF cl 1 m_class_sizes) :=
  ok_of F sc_class_sizes (by decide) fun cdv A outer s H E hr => (jss_one (js_ret (xtup g.tuple (j_fz (jl_lc (own := [("found", 1)]) rfl sc_class_sizes.nd (ji_seq (j_call c_classes hr (by decide) rfl (ja_cons (xv 0) ja_nil) (len_cons len_nil))) (by kernel_rfl) (fun _ _ _ _ _ => (g1 1 sc_class_sizes.nd)) (fun _ _ _ _ _ => jts_nil) (fun _ _ _ _ _ => (xlen g.len (xv 1))))))))
def N__matrix : List Str := ["group", "found", "numbers", "i", "rows", "_", "k", "z", "x", "j", "row"]
theorem sc__matrix : FnScope N__matrix ["group", "found", "numbers", "i"] (defScope (top 30)) := ⟨rfl, rfl, rfl, by decide +kernel, rfl, by decide +kernel, by decide +kernel⟩
def b__matrix : MS := (fun env => gd (frzs env) (gd (Nat.ble (Nat.succ 4) (llen env)) (sRows 4 (lLcL (wS (eV 1)) (.one 5) (lLc (wS (eV 1)) (.one 5) tYs (eC (.int (.ofNat 0))) [5]) [5]) (gFor (wR1 (aC (eCa fLen (aC (eV 1) aN)) aN)) 6 (gSeq (gSet 7 (e2 fIx (e2 fIx (eV 1) (eV 6)) (eC (.int (.ofNat 0))))) (gFor (wS (e2 fIx (eV 1) (eV 3))) 8 (gSeq (gSet 9 (e2 fIx (eV 2) (eMeth 1 m_Group_product (eV 0) (aC (eMeth 1 m_Group_inverse (eV 0) (aC (eV 8) aN)) (aC (eV 7) aN))))) (gInc (eV 9) (eV 6)))))) (sRet (eCa fTuple (aC (eFz (lLc (wS (eV 4)) (.one 10) tYs (eCa fTuple (aC (eV 10) aN)) [10])) aN))) env)))
def m__matrix : List U → Option U := runF b__matrix 7
theorem ok__matrix (F : FunD K "_matrix" "_matrix" (defArgs (top 30)) (defBody (top 30)) (defScope (top 30)) [] [] fa fd) (g : Gs K mg cl) (t_Group_product : Met P w K mg base cl 1 1 "product" 3 m_Group_product) (t_Group_inverse : Met P w K mg base cl 1 1 "inverse" 2 m_Group_inverse) : FnOk P w K mg base CX0 2 fa fd ["group", "found", "numbers", "i"] (spF cl 4 m__matrix) :=
  ok_of F sc__matrix (by decide) fun cdv A outer s H E hr => (jss_rows (ps_setLc (own := [("_", 5)]) rfl sc__matrix.nd rfl rfl (sw_true rfl rfl rfl (by kernel_rfl)) (ji_seq (xv 1)) (blkOk_by (by kernel_rfl)) (fun _ _ _ _ _ => (g1 5 sc__matrix.nd)) (fun _ _ _ _ _ => jts_nil) (fun _ _ _ _ _ => (jl_lc (own := [("_", 5)]) rfl sc__matrix.nd (ji_seq (xv 1)) (by kernel_rfl) (fun _ _ _ _ _ => (g1 5 sc__matrix.nd)) (fun _ _ _ _ _ => jts_nil) (fun _ _ _ _ _ => j_int)))) (tLcL_of (by decide)) (gs_for (by decide) PassesOwn.never rfl (ji_range1 rfl g.range (ja_cons (xlen g.len (xv 1)) ja_nil)) (pg_name sc__matrix.nd rfl (.inl rfl)) (gs_cons (gs_set (by decide) (ps_set sc__matrix.nd rfl (.inl rfl) (j_ix (j_ix (xv 1) (xv 6)) j_int))) (gs_one (gs_for (by decide) PassesOwn.never rfl (ji_seq (j_ix (xv 1) (xv 3))) (pg_name sc__matrix.nd rfl (.inl rfl)) (gs_cons (gs_set (by decide) (ps_set sc__matrix.nd rfl (.inl rfl) (j_ix (xv 2) (j_meth t_Group_product hr (by decide) (by decide) (xv 0) (ja_cons (j_meth t_Group_inverse hr (by decide) (by decide) (xv 0) (ja_cons (xv 8) ja_nil) (len_cons len_nil)) (ja_cons (xv 7) ja_nil)) (len_cons (len_cons len_nil)))))) (gs_one (gs_inc (ps_asg (pe_op op_add (pe_ix ix_list (pe_ix ix_list (pv 4) (xv 9) (fun _ _ => rfl)) (xv 6) (fun _ _ => rfl)) pe_int) (pg_sub (pe_ix ix_list (pv 4) (xv 9) (fun _ _ => rfl)) (xv 6) set_list))))))))) (jss_one (js_ret (xtup g.tuple (j_fz (jl_lc (own := [("row", 10)]) rfl sc__matrix.nd (ji_seq (xv 4)) (by kernel_rfl) (fun _ _ _ _ _ => (g1 10 sc__matrix.nd)) (fun _ _ _ _ _ => jts_nil) (fun _ _ _ _ _ => (xtup g.tuple (xv 10)))))))))
def N_class_matrices : List Str := ["group", "found", "numbers", "i"]
theorem sc_class_matrices : FnScope N_class_matrices ["group"] (defScope (top 31)) := ⟨rfl, rfl, rfl, by decide +kernel, rfl, by decide +kernel, by decide +kernel⟩
def b_class_matrices : MS := (sSeq (sSet 1 (eCall m_classes (aC (eV 0) aN))) (sSeq (sSet 2 (eCall m_class_numbers (aC (eV 0) aN))) (sRet (eCa fTuple (aC (eFz (lLc (wR1 (aC (eCa fLen (aC (eV 1) aN)) aN)) (.one 3) tYs (eCall m__matrix (aC (eV 0) (aC (eV 1) (aC (eV 2) (aC (eV 3) aN))))) [3])) aN)))))
def m_class_matrices : List U → Option U := runF b_class_matrices 3
theorem ok_class_matrices (F : FunD K "class_matrices" "class_matrices" (defArgs (top 31)) (defBody (top 31)) (defScope (top 31)) [] [] fa fd) (g : Gs K mg cl) (c_classes : Cal P w K mg base cl 3 "classes" 1 [] m_classes) (c_class_numbers : Cal P w K mg base cl 4 "class_numbers" 1 [] m_class_numbers) (c__matrix : Cal P w K mg base cl 2 "_matrix" 4 [] m__matrix) : FnOk P w K mg base CX0 5 fa fd ["group"] (spF cl 1 m_class_matrices) :=
  ok_of F sc_class_matrices (by decide) fun cdv A outer s H E hr => (jss_cons (yset 1 sc_class_matrices.nd (j_call c_classes hr (by decide) rfl (ja_cons (xv 0) ja_nil) (len_cons len_nil))) (jss_cons (yset 2 sc_class_matrices.nd (j_call c_class_numbers hr (by decide) rfl (ja_cons (xv 0) ja_nil) (len_cons len_nil))) (jss_one (js_ret (xtup g.tuple (j_fz (jl_lc (own := [("i", 3)]) rfl sc_class_matrices.nd (ji_range1 rfl g.range (ja_cons (xlen g.len (xv 1)) ja_nil)) (by kernel_rfl) (fun _ _ _ _ _ => (g1 3 sc_class_matrices.nd)) (fun _ _ _ _ _ => jts_nil) (fun _ _ _ _ _ => (j_call c__matrix hr (by decide) rfl (ja_cons (xv 0) (ja_cons (xv 1) (ja_cons (xv 2) (ja_cons (xv 3) ja_nil)))) (len_cons (len_cons (len_cons (len_cons len_nil)))))))))))))
def N_is_integer : List Str := ["value"]
theorem sc_is_integer : FnScope N_is_integer ["value"] (defScope (top 38)) := ⟨rfl, rfl, rfl, by decide +kernel, rfl, by decide +kernel, by decide +kernel⟩
def b_is_integer : MS := (sRet (eAn (eIsI true (eV 0)) (eNot (eIsI false (eV 0)))))
def m_is_integer : List U → Option U := runF b_is_integer 0
theorem ok_is_integer (F : FunD K "is_integer" "is_integer" (defArgs (top 38)) (defBody (top 38)) (defScope (top 38)) [] [] fa fd) (g : Gs K mg cl)  : FnOk P w K mg base CX0 1 fa fd ["value"] (spF cl 1 m_is_integer) :=
  ok_of F sc_is_integer (by decide) fun cdv A outer s H E hr => (jss_one (js_ret (j_and (j_isI (b := true) (T := "int") (by decide +kernel) rfl g.isi (xty g.int PyProof.Rows.boot_int) (xv 0)) (j_and1 (j_not (j_isI (b := false) (T := "bool") (by decide +kernel) rfl g.isi (xty g.bool PyProof.Rows.boot_bool) (xv 0)))))))
def N_common : List Str := ["numbers", "total", "n", "a"]
theorem sc_common : FnScope N_common ["numbers"] (defScope (top 39)) := ⟨rfl, rfl, rfl, by decide +kernel, rfl, by decide +kernel, by decide +kernel⟩
def b_common : MS := (sSeq (sSet 1 (eC (.int (.ofNat 0)))) (sSeq (sFor (wS (eV 0)) (.one 2) (sSeq (sSet 3 (eCa fAbs (aC (eV 2) aN))) (whL (tB1 (e2 fNe (eV 3) (eC (.int (.ofNat 0))))) (sPar 1 3 (aC (eV 3) (aC (e2 fMod (eV 1) (eV 3)) aN))) 64))) (sRet (eV 1))))
def m_common : List U → Option U := runF b_common 3
theorem ok_common (F : FunD K "common" "common" (defArgs (top 39)) (defBody (top 39)) (defScope (top 39)) [] [] fa fd) (g : Gs K mg cl)  : FnOk P w K mg base CX0 1 fa fd ["numbers"] (spF cl 1 m_common) :=
  ok_of F sc_common (by decide) fun cdv A outer s H E hr => (jss_cons (yset 1 sc_common.nd j_int) (jss_cons (js_for PassesOwn.never rfl (ji_seq (xv 0)) (g1 2 sc_common.nd) (jss_cons (yset 3 sc_common.nd (xabs g.abs (xv 2))) (jss_one (js_while 64 PassesOwn.never (tne (xv 3) j_int) (jss_one (js_par (fun _ h => ps_par rfl sc_common.nd rfl rfl (by decide) rfl rfl h rfl) (ja_cons (xv 3) (ja_cons (xmod (xv 1) (xv 3)) ja_nil)))))))) (jss_one (js_ret (xv 1)))))
def N_multiple : List Str := ["numbers", "total", "n"]
theorem sc_multiple : FnScope N_multiple ["numbers"] (defScope (top 40)) := ⟨rfl, rfl, rfl, by decide +kernel, rfl, by decide +kernel, by decide +kernel⟩
def b_multiple : MS := (sSeq (sSet 1 (eC (.int (.ofNat 1)))) (sSeq (sFor (wS (eV 0)) (.one 2) (sSet 1 (e2 fDiv (e2 fMul (eV 1) (eV 2)) (eCall m_common (aC (eTup (aC (eV 1) (aC (eV 2) aN))) aN))))) (sRet (eV 1))))
def m_multiple : List U → Option U := runF b_multiple 2
theorem ok_multiple (F : FunD K "multiple" "multiple" (defArgs (top 40)) (defBody (top 40)) (defScope (top 40)) [] [] fa fd) (g : Gs K mg cl) (c_common : Cal P w K mg base cl 1 "common" 1 [] m_common) : FnOk P w K mg base CX0 2 fa fd ["numbers"] (spF cl 1 m_multiple) :=
  ok_of F sc_multiple (by decide) fun cdv A outer s H E hr => (jss_cons (yset 1 sc_multiple.nd j_int) (jss_cons (js_for PassesOwn.never rfl (ji_seq (xv 0)) (g1 2 sc_multiple.nd) (jss_one (yset 1 sc_multiple.nd (xdiv (xmul (xv 1) (xv 2)) (j_call c_common hr (by decide) rfl (ja_cons (j_tup (ja_cons (xv 1) (ja_cons (xv 2) ja_nil))) ja_nil) (len_cons len_nil)))))) (jss_one (js_ret (xv 1)))))
def N_prime_powers : List Str := ["n", "found", "p", "k"]
theorem sc_prime_powers : FnScope N_prime_powers ["n"] (defScope (top 41)) := ⟨rfl, rfl, rfl, by decide +kernel, rfl, by decide +kernel, by decide +kernel⟩
def b_prime_powers : MS := (sSeq (sOwn 1 (lDis aN)) (sSeq (sSet 2 (eC (.int (.ofNat 2)))) (sSeq (whL (tB1 (e2 fLe (e2 fMul (eV 2) (eV 2)) (eV 0))) (sSeq (sSet 3 (eC (.int (.ofNat 0)))) (sSeq (whL (tB1 (e2 fEq (e2 fMod (eV 0) (eV 2)) (eC (.int (.ofNat 0))))) (sSeq (sSet 0 (e2 fDiv (eV 0) (eV 2))) (sSet 3 (e2 fAdd (eV 3) (eC (.int (.ofNat 1)))))) 64) (sSeq (sIf (tB1 (e2 fGt (eV 3) (eC (.int (.ofNat 0))))) (sApp 1 (eTup (aC (eV 2) (aC (eV 3) aN)))) sPass) (sSet 2 (e2 fAdd (eV 2) (eC (.int (.ofNat 1)))))))) 64) (sSeq (sIf (tB1 (e2 fGt (eV 0) (eC (.int (.ofNat 1))))) (sApp 1 (eTup (aC (eV 0) (aC (eC (.int (.ofNat 1))) aN)))) sPass) (sRet (eCa fTuple (aC (eV 1) aN)))))))
def m_prime_powers : List U → Option U := runF b_prime_powers 3
theorem ok_prime_powers (F : FunD K "prime_powers" "prime_powers" (defArgs (top 41)) (defBody (top 41)) (defScope (top 41)) [] [] fa fd) (g : Gs K mg cl)  : FnOk P w K mg base CX0 1 fa fd ["n"] (spF cl 1 m_prime_powers) :=
  ok_of F sc_prime_powers (by decide) fun cdv A outer s H E hr => (jss_cons (yown 1 sc_prime_powers.nd (jl_lst ja_nil)) (jss_cons (yset 2 sc_prime_powers.nd j_int) (jss_cons (js_while 64 PassesOwn.never (tle (xmul (xv 2) (xv 2)) (xv 0)) (jss_cons (yset 3 sc_prime_powers.nd j_int) (jss_cons (js_while 64 PassesOwn.never (teq (xmod (xv 0) (xv 2)) j_int) (jss_cons (yset 0 sc_prime_powers.nd (xdiv (xv 0) (xv 2))) (jss_one (yset 3 sc_prime_powers.nd (xadd (xv 3) j_int))))) (jss_cons (js_if (tgt (xv 3) j_int) (jss_one (yapp 1 (j_tup (ja_cons (xv 2) (ja_cons (xv 3) ja_nil))) (pv 1))) jss_nil) (jss_one (yset 2 sc_prime_powers.nd (xadd (xv 2) j_int))))))) (jss_cons (js_if (tgt (xv 0) j_int) (jss_one (yapp 1 (j_tup (ja_cons (xv 0) (ja_cons j_int ja_nil))) (pv 1))) jss_nil) (jss_one (js_ret (xtup g.tuple (xv 1))))))))
def N_is_prime : List Str := ["n"]
theorem sc_is_prime : FnScope N_is_prime ["n"] (defScope (top 42)) := ⟨rfl, rfl, rfl, by decide +kernel, rfl, by decide +kernel, by decide +kernel⟩
def b_is_prime : MS := (sRet (eAn (e2 fGt (eV 0) (eC (.int (.ofNat 1)))) (e2 (fEqD (.a (.t2 .i .i))) (eCall m_prime_powers (aC (eV 0) aN)) (eTup (aC (eTup (aC (eV 0) (aC (eC (.int (.ofNat 1))) aN))) aN)))))
def m_is_prime : List U → Option U := runF b_is_prime 0
theorem ok_is_prime (F : FunD K "is_prime" "is_prime" (defArgs (top 42)) (defBody (top 42)) (defScope (top 42)) [] [] fa fd) (g : Gs K mg cl) (c_prime_powers : Cal P w K mg base cl 1 "prime_powers" 1 [] m_prime_powers) : FnOk P w K mg base CX0 2 fa fd ["n"] (spF cl 1 m_is_prime) :=
  ok_of F sc_is_prime (by decide) fun cdv A outer s H E hr => (jss_one (js_ret (j_and (xgt (xv 0) j_int) (j_and1 (xeqD (.a (.t2 .i .i)) hr (j_call c_prime_powers hr (by decide) rfl (ja_cons (xv 0) ja_nil) (len_cons len_nil)) (j_tup (ja_cons (j_tup (ja_cons (xv 0) (ja_cons j_int ja_nil))) ja_nil)))))))
def N_divisors : List Str := ["n", "found", "p", "k", "longer", "factor", "_", "d"]
theorem sc_divisors : FnScope N_divisors ["n"] (defScope (top 43)) := ⟨rfl, rfl, rfl, by decide +kernel, rfl, by decide +kernel, by decide +kernel⟩
def b_divisors : MS := (sSeq (sSet 1 (eFz (lDis (aC (eC (.int (.ofNat 1))) aN)))) (sSeq (sFor (wS (eCall m_prime_powers (aC (eV 0) aN))) (.two 2 3) (sSeq (sOwn 4 (lDis aN)) (sSeq (sSet 5 (eC (.int (.ofNat 1)))) (sSeq (sFor (wR1 (aC (e2 fAdd (eV 3) (eC (.int (.ofNat 1)))) aN)) (.one 6) (sSeq (sExt 4 (lLc (wS (eV 1)) (.one 7) tYs (e2 fMul (eV 5) (eV 7)) [7])) (sSet 5 (e2 fMul (eV 5) (eV 2))))) (sSet 1 (eFz (lCa fList (aC (eV 4) aN)))))))) (sRet (eCa fTuple (aC (eFz (lCa (fSort .i) (aC (eV 1) aN))) aN)))))
def m_divisors : List U → Option U := runF b_divisors 7
theorem ok_divisors (F : FunD K "divisors" "divisors" (defArgs (top 43)) (defBody (top 43)) (defScope (top 43)) [] [] fa fd) (g : Gs K mg cl) (c_prime_powers : Cal P w K mg base cl 1 "prime_powers" 1 [] m_prime_powers) : FnOk P w K mg base CX0 2 fa fd ["n"] (spF cl 1 m_divisors) :=
  ok_of F sc_divisors (by decide) fun cdv A outer s H E hr => (jss_cons (yset 1 sc_divisors.nd (j_fz (jl_lst (ja_cons j_int ja_nil)))) (jss_cons (js_for PassesOwn.never rfl (ji_seq (j_call c_prime_powers hr (by decide) rfl (ja_cons (xv 0) ja_nil) (len_cons len_nil))) (g2 2 3 sc_divisors.nd rfl) (jss_cons (yown 4 sc_divisors.nd (jl_lst ja_nil)) (jss_cons (yset 5 sc_divisors.nd j_int) (jss_cons (js_for PassesOwn.never rfl (ji_range1 rfl g.range (ja_cons (xadd (xv 3) j_int) ja_nil)) (g1 6 sc_divisors.nd) (jss_cons (yext 4 (jl_lc (own := [("d", 7)]) rfl sc_divisors.nd (ji_seq (xv 1)) (by kernel_rfl) (fun _ _ _ _ _ => (g1 7 sc_divisors.nd)) (fun _ _ _ _ _ => jts_nil) (fun _ _ _ _ _ => (xmul (xv 5) (xv 7)))) (pv 4)) (jss_one (yset 5 sc_divisors.nd (xmul (xv 5) (xv 2)))))) (jss_one (yset 1 sc_divisors.nd (j_fz (xlist g.list (xv 4))))))))) (jss_one (js_ret (xtup g.tuple (j_fz (xsort .i g.sorted rfl hr (xv 1))))))))
def N_root_floor : List Str := ["n", "low", "high", "middle"]
theorem sc_root_floor : FnScope N_root_floor ["n"] (defScope (top 44)) := ⟨rfl, rfl, rfl, by decide +kernel, rfl, by decide +kernel, by decide +kernel⟩
def b_root_floor : MS := (sSeq (sUnp 1 2 (eTup (aC (eC (.int (.ofNat 0))) (aC (eC (.int (.ofNat 1))) aN)))) (sSeq (whL (tB1 (e2 fLe (e2 fMul (eV 2) (eV 2)) (eV 0))) (sSet 2 (e2 fMul (eV 2) (eC (.int (.ofNat 2))))) 64) (sSeq (whL (tB1 (e2 fGt (e2 fSub (eV 2) (eV 1)) (eC (.int (.ofNat 1))))) (sSeq (sSet 3 (e2 fDiv (e2 fAdd (eV 1) (eV 2)) (eC (.int (.ofNat 2))))) (sIf (tB1 (e2 fLe (e2 fMul (eV 3) (eV 3)) (eV 0))) (sSet 1 (eV 3)) (sSet 2 (eV 3)))) 64) (sRet (eV 1)))))
def m_root_floor : List U → Option U := runF b_root_floor 3
theorem ok_root_floor (F : FunD K "root_floor" "root_floor" (defArgs (top 44)) (defBody (top 44)) (defScope (top 44)) [] [] fa fd) (g : Gs K mg cl)  : FnOk P w K mg base CX0 1 fa fd ["n"] (spF cl 1 m_root_floor) :=
  ok_of F sc_root_floor (by decide) fun cdv A outer s H E hr => (jss_cons (yunp 1 2 (j_tup (ja_cons j_int (ja_cons j_int ja_nil))) (g2 1 2 sc_root_floor.nd rfl)) (jss_cons (js_while 64 PassesOwn.never (tle (xmul (xv 2) (xv 2)) (xv 0)) (jss_one (yset 2 sc_root_floor.nd (xmul (xv 2) j_int)))) (jss_cons (js_while 64 PassesOwn.never (tgt (xsub (xv 2) (xv 1)) j_int) (jss_cons (yset 3 sc_root_floor.nd (xdiv (xadd (xv 1) (xv 2)) j_int)) (jss_one (js_if (tle (xmul (xv 3) (xv 3)) (xv 0)) (jss_one (yset 1 sc_root_floor.nd (xv 3))) (jss_one (yset 2 sc_root_floor.nd (xv 3))))))) (jss_one (js_ret (xv 1))))))
def N_power_modulo : List Str := ["a", "k", "p", "total"]
theorem sc_power_modulo : FnScope N_power_modulo ["a", "k", "p"] (defScope (top 45)) := ⟨rfl, rfl, rfl, by decide +kernel, rfl, by decide +kernel, by decide +kernel⟩
def b_power_modulo : MS := (sSeq (sSet 3 (e2 fMod (eC (.int (.ofNat 1))) (eV 2))) (sSeq (sSet 0 (e2 fMod (eV 0) (eV 2))) (sSeq (whL (tB1 (e2 fGt (eV 1) (eC (.int (.ofNat 0))))) (sSeq (sIf (tB1 (e2 fEq (e2 fMod (eV 1) (eC (.int (.ofNat 2)))) (eC (.int (.ofNat 1))))) (sSet 3 (e2 fMod (e2 fMul (eV 3) (eV 0)) (eV 2))) sPass) (sSeq (sSet 0 (e2 fMod (e2 fMul (eV 0) (eV 0)) (eV 2))) (sSet 1 (e2 fDiv (eV 1) (eC (.int (.ofNat 2))))))) 64) (sRet (eV 3)))))
def m_power_modulo : List U → Option U := runF b_power_modulo 1
theorem ok_power_modulo (F : FunD K "power_modulo" "power_modulo" (defArgs (top 45)) (defBody (top 45)) (defScope (top 45)) [] [] fa fd) (g : Gs K mg cl)  : FnOk P w K mg base CX0 1 fa fd ["a", "k", "p"] (spF cl 3 m_power_modulo) :=
  ok_of F sc_power_modulo (by decide) fun cdv A outer s H E hr => (jss_cons (yset 3 sc_power_modulo.nd (xmod j_int (xv 2))) (jss_cons (yset 0 sc_power_modulo.nd (xmod (xv 0) (xv 2))) (jss_cons (js_while 64 PassesOwn.never (tgt (xv 1) j_int) (jss_cons (js_if (teq (xmod (xv 1) j_int) j_int) (jss_one (yset 3 sc_power_modulo.nd (xmod (xmul (xv 3) (xv 0)) (xv 2)))) jss_nil) (jss_cons (yset 0 sc_power_modulo.nd (xmod (xmul (xv 0) (xv 0)) (xv 2))) (jss_one (yset 1 sc_power_modulo.nd (xdiv (xv 1) j_int)))))) (jss_one (js_ret (xv 3))))))
def N_inverse_modulo : List Str := ["a", "p", "old", "new", "u", "v", "q"]
theorem sc_inverse_modulo : FnScope N_inverse_modulo ["a", "p"] (defScope (top 46)) := ⟨rfl, rfl, rfl, by decide +kernel, rfl, by decide +kernel, by decide +kernel⟩
def b_inverse_modulo : MS := (sSeq (sPar 2 3 (aC (eV 1) (aC (e2 fMod (eV 0) (eV 1)) aN))) (sSeq (sUnp 4 5 (eTup (aC (eC (.int (.ofNat 0))) (aC (eC (.int (.ofNat 1))) aN)))) (sSeq (whL (tB1 (e2 fNe (eV 3) (eC (.int (.ofNat 0))))) (sSeq (sSet 6 (e2 fDiv (eV 2) (eV 3))) (sSeq (sPar 2 3 (aC (eV 3) (aC (e2 fSub (eV 2) (e2 fMul (eV 6) (eV 3))) aN))) (sPar 4 5 (aC (eV 5) (aC (e2 fSub (eV 4) (e2 fMul (eV 6) (eV 5))) aN))))) 64) (sSeq (sIf (tB1 (e2 fNe (eV 2) (eC (.int (.ofNat 1))))) sNo sPass) (sRet (e2 fMod (eV 4) (eV 1)))))))
def m_inverse_modulo : List U → Option U := runF b_inverse_modulo 5
theorem ok_inverse_modulo (F : FunD K "inverse_modulo" "inverse_modulo" (defArgs (top 46)) (defBody (top 46)) (defScope (top 46)) [] [] fa fd) (g : Gs K mg cl)  : FnOk P w K mg base CX0 1 fa fd ["a", "p"] (spF cl 2 m_inverse_modulo) :=
  ok_of F sc_inverse_modulo (by decide) fun cdv A outer s H E hr => (jss_cons (js_par (fun _ h => ps_par rfl sc_inverse_modulo.nd rfl rfl (by decide) rfl rfl h rfl) (ja_cons (xv 1) (ja_cons (xmod (xv 0) (xv 1)) ja_nil))) (jss_cons (yunp 4 5 (j_tup (ja_cons j_int (ja_cons j_int ja_nil))) (g2 4 5 sc_inverse_modulo.nd rfl)) (jss_cons (js_while 64 PassesOwn.never (tne (xv 3) j_int) (jss_cons (yset 6 sc_inverse_modulo.nd (xdiv (xv 2) (xv 3))) (jss_cons (js_par (fun _ h => ps_par rfl sc_inverse_modulo.nd rfl rfl (by decide) rfl rfl h rfl) (ja_cons (xv 3) (ja_cons (xsub (xv 2) (xmul (xv 6) (xv 3))) ja_nil))) (jss_one (js_par (fun _ h => ps_par rfl sc_inverse_modulo.nd rfl rfl (by decide) rfl rfl h rfl) (ja_cons (xv 5) (ja_cons (xsub (xv 4) (xmul (xv 6) (xv 5))) ja_nil))))))) (jss_cons (js_if (tne (xv 2) j_int) (jss_one js_never) jss_nil) (jss_one (js_ret (xmod (xv 4) (xv 1))))))))
def N_prime_above : List Str := ["e", "bound", "p"]
theorem sc_prime_above : FnScope N_prime_above ["e", "bound"] (defScope (top 47)) := ⟨rfl, rfl, rfl, by decide +kernel, rfl, by decide +kernel, by decide +kernel⟩
def b_prime_above : MS := (sSeq (sSet 2 (e2 fAdd (e2 fMul (eCa fMax (aC (e2 fDiv (eV 1) (eV 0)) (aC (eC (.int (.ofNat 0))) aN))) (eV 0)) (eC (.int (.ofNat 1))))) (sSeq (whL (tOrr (tB1 (e2 fLe (eV 2) (eV 1))) (tNt (tB1 (eCall m_is_prime (aC (eV 2) aN))))) (sSet 2 (e2 fAdd (eV 2) (eV 0))) 64) (sRet (eV 2))))
def m_prime_above : List U → Option U := runF b_prime_above 1
theorem ok_prime_above (F : FunD K "prime_above" "prime_above" (defArgs (top 47)) (defBody (top 47)) (defScope (top 47)) [] [] fa fd) (g : Gs K mg cl) (c_is_prime : Cal P w K mg base cl 2 "is_prime" 1 [] m_is_prime) : FnOk P w K mg base CX0 3 fa fd ["e", "bound"] (spF cl 2 m_prime_above) :=
  ok_of F sc_prime_above (by decide) fun cdv A outer s H E hr => (jss_cons (yset 2 sc_prime_above.nd (xadd (xmul (xmax g.max rfl (xdiv (xv 1) (xv 0)) j_int) (xv 0)) j_int)) (jss_cons (js_while 64 PassesOwn.never (jt_pw (jw_or (tle (xv 2) (xv 1)) (jw_or1 (jt_not (tt (j_call c_is_prime hr (by decide) rfl (ja_cons (xv 2) ja_nil) (len_cons len_nil))))))) (jss_one (yset 2 sc_prime_above.nd (xadd (xv 2) (xv 0))))) (jss_one (js_ret (xv 2)))))
def N_spread : List Str := ["poly", "p", "found", "_", "k"]
theorem sc_spread : FnScope N_spread ["poly", "p"] (defScope (top 50)) := ⟨rfl, rfl, rfl, by decide +kernel, rfl, by decide +kernel, by decide +kernel⟩
def b_spread : MS := (sSeq (sOwn 2 (lLc (wR1 (aC (e2 fAdd (e2 fMul (e2 fSub (eCa fLen (aC (eV 0) aN)) (eC (.int (.ofNat 1)))) (eV 1)) (eC (.int (.ofNat 1)))) aN)) (.one 3) tYs (eC (.int (.ofNat 0))) [3])) (sSeq (sFor (wR1 (aC (eCa fLen (aC (eV 0) aN)) aN)) (.one 4) (sPut 2 (e2 fMul (eV 4) (eV 1)) (e2 fIx (eV 0) (eV 4)))) (sFrz 2 (sRet (eV 2)))))
def m_spread : List U → Option U := runF b_spread 3
theorem ok_spread (F : FunD K "spread" "spread" (defArgs (top 50)) (defBody (top 50)) (defScope (top 50)) [] [] fa fd) (g : Gs K mg cl)  : FnOk P w K mg base CX0 1 fa fd ["poly", "p"] (spF cl 2 m_spread) :=
  ok_of F sc_spread (by decide) fun cdv A outer s H E hr => (jss_cons (ylcO 2 (own := [("_", 3)]) rfl sc_spread.nd (ji_range1 rfl g.range (ja_cons (xadd (xmul (xsub (xlen g.len (xv 0)) j_int) (xv 1)) j_int) ja_nil)) (by kernel_rfl) (fun _ _ _ _ _ => (g1 3 sc_spread.nd)) (fun _ _ _ _ _ => jts_nil) (fun _ _ _ _ _ => j_int)) (jss_cons (js_for PassesOwn.never rfl (ji_range1 rfl g.range (ja_cons (xlen g.len (xv 0)) ja_nil)) (g1 4 sc_spread.nd) (jss_one (yput 2 (xmul (xv 4) (xv 1)) (j_ix (xv 0) (xv 4))))) (jss_frz 2 (jss_one (js_ret (xv 2))))))
def N_divided : List Str := ["poly", "by", "rest", "size", "quotient", "_", "k", "c", "j"]
theorem sc_divided : FnScope N_divided ["poly", "by"] (defScope (top 51)) := ⟨rfl, rfl, rfl, by decide +kernel, rfl, by decide +kernel, by decide +kernel⟩
def b_divided : MS := (sSeq (sOwn 2 (lCa fList (aC (eV 0) aN))) (sSeq (sSet 3 (e2 fSub (eCa fLen (aC (eV 1) aN)) (eC (.int (.ofNat 1))))) (sSeq (sOwn 4 (lLc (wR1 (aC (eCa fMax (aC (e2 fSub (eCa fLen (aC (eV 2) aN)) (eV 3)) (aC (eC (.int (.ofNat 0))) aN))) aN)) (.one 5) tYs (eC (.int (.ofNat 0))) [5])) (sSeq (sFor (wR3 (aC (e2 fSub (eCa fLen (aC (eV 4) aN)) (eC (.int (.ofNat 1)))) (aC (e1 fNeg (eC (.int (.ofNat 1)))) (aC (e1 fNeg (eC (.int (.ofNat 1)))) aN)))) (.one 6) (sSeq (sSet 7 (e2 fIx (eV 2) (e2 fAdd (eV 6) (eV 3)))) (sSeq (sPut 4 (eV 6) (eV 7)) (sIf (tB1 (e2 fNe (eV 7) (eC (.int (.ofNat 0))))) (sFor (wR1 (aC (e2 fAdd (eV 3) (eC (.int (.ofNat 1)))) aN)) (.one 8) (sPut 2 (e2 fAdd (eV 6) (eV 8)) (e2 fSub (e2 fIx (eV 2) (e2 fAdd (eV 6) (eV 8))) (e2 fMul (eV 7) (e2 fIx (eV 1) (eV 8)))))) sPass)))) (sFrz 4 (sRet (eTup (aC (eV 4) (aC (eFz (lSl (eV 2) oN (oS (eV 3)))) aN)))))))))
def m_divided : List U → Option U := runF b_divided 7
theorem ok_divided (F : FunD K "divided" "divided" (defArgs (top 51)) (defBody (top 51)) (defScope (top 51)) [] [] fa fd) (g : Gs K mg cl)  : FnOk P w K mg base CX0 1 fa fd ["poly", "by"] (spF cl 2 m_divided) :=
  ok_of F sc_divided (by decide) fun cdv A outer s H E hr => (jss_cons (yown 2 sc_divided.nd (xlist g.list (xv 0))) (jss_cons (yset 3 sc_divided.nd (xsub (xlen g.len (xv 1)) j_int)) (jss_cons (ylcO 4 (own := [("_", 5)]) rfl sc_divided.nd (ji_range1 rfl g.range (ja_cons (xmax g.max rfl (xsub (xlen g.len (xv 2)) (xv 3)) j_int) ja_nil)) (by kernel_rfl) (fun _ _ _ _ _ => (g1 5 sc_divided.nd)) (fun _ _ _ _ _ => jts_nil) (fun _ _ _ _ _ => j_int)) (jss_cons (js_for PassesOwn.never rfl (ji_range3 rfl g.range (ja_cons (xsub (xlen g.len (xv 4)) j_int) (ja_cons (xneg j_int) (ja_cons (xneg j_int) ja_nil)))) (g1 6 sc_divided.nd) (jss_cons (yset 7 sc_divided.nd (j_ix (xv 2) (xadd (xv 6) (xv 3)))) (jss_cons (yput 4 (xv 6) (xv 7)) (jss_one (js_if (tne (xv 7) j_int) (jss_one (js_for PassesOwn.never rfl (ji_range1 rfl g.range (ja_cons (xadd (xv 3) j_int) ja_nil)) (g1 8 sc_divided.nd) (jss_one (yput 2 (xadd (xv 6) (xv 8)) (xsub (j_ix (xv 2) (xadd (xv 6) (xv 8))) (xmul (xv 7) (j_ix (xv 1) (xv 8)))))))) jss_nil))))) (jss_frz 4 (jss_one (js_ret (j_tup (ja_cons (xv 4) (ja_cons (j_fz (jl_slice (xv 2) jo_none (jo_some (xv 3)))) ja_nil))))))))))
def N_cyclotomic : List Str := ["e", "poly", "p", "k", "_"]
theorem sc_cyclotomic : FnScope N_cyclotomic ["e"] (defScope (top 52)) := ⟨rfl, rfl, rfl, by decide +kernel, rfl, by decide +kernel, by decide +kernel⟩
def b_cyclotomic : MS := (sSeq (sSet 1 (eFz (lDis (aC (e1 fNeg (eC (.int (.ofNat 1)))) (aC (eC (.int (.ofNat 1))) aN))))) (sSeq (sFor (wS (eCall m_prime_powers (aC (eV 0) aN))) (.two 2 3) (sSeq (sSet 1 (e2 fIx (eCall m_divided (aC (eCall m_spread (aC (eV 1) (aC (eV 2) aN))) (aC (eV 1) aN))) (eC (.int (.ofNat 0))))) (sFor (wR1 (aC (e2 fSub (eV 3) (eC (.int (.ofNat 1)))) aN)) (.one 4) (sSet 1 (eCall m_spread (aC (eV 1) (aC (eV 2) aN))))))) (sRet (eCa fTuple (aC (eV 1) aN)))))
def m_cyclotomic : List U → Option U := runF b_cyclotomic 4
theorem ok_cyclotomic (F : FunD K "cyclotomic" "cyclotomic" (defArgs (top 52)) (defBody (top 52)) (defScope (top 52)) [] [] fa fd) (g : Gs K mg cl) (c_prime_powers : Cal P w K mg base cl 1 "prime_powers" 1 [] m_prime_powers) (c_spread : Cal P w K mg base cl 1 "spread" 2 [] m_spread) (c_divided : Cal P w K mg base cl 1 "divided" 2 [] m_divided) : FnOk P w K mg base CX0 2 fa fd ["e"] (spF cl 1 m_cyclotomic) :=
  ok_of F sc_cyclotomic (by decide) fun cdv A outer s H E hr => (jss_cons (yset 1 sc_cyclotomic.nd (j_fz (jl_lst (ja_cons (xneg j_int) (ja_cons j_int ja_nil))))) (jss_cons (js_for PassesOwn.never rfl (ji_seq (j_call c_prime_powers hr (by decide) rfl (ja_cons (xv 0) ja_nil) (len_cons len_nil))) (g2 2 3 sc_cyclotomic.nd rfl) (jss_cons (yset 1 sc_cyclotomic.nd (j_ix (j_call c_divided hr (by decide) rfl (ja_cons (j_call c_spread hr (by decide) rfl (ja_cons (xv 1) (ja_cons (xv 2) ja_nil)) (len_cons (len_cons len_nil))) (ja_cons (xv 1) ja_nil)) (len_cons (len_cons len_nil))) j_int)) (jss_one (js_for PassesOwn.never rfl (ji_range1 rfl g.range (ja_cons (xsub (xv 3) j_int) ja_nil)) (g1 4 sc_cyclotomic.nd) (jss_one (yset 1 sc_cyclotomic.nd (j_call c_spread hr (by decide) rfl (ja_cons (xv 1) (ja_cons (xv 2) ja_nil)) (len_cons (len_cons len_nil))))))))) (jss_one (js_ret (xtup g.tuple (xv 1))))))
def N_folded : List Str := ["e", "items", "total", "_", "k"]
theorem sc_folded : FnScope N_folded ["e", "items"] (defScope (top 53)) := ⟨rfl, rfl, rfl, by decide +kernel, rfl, by decide +kernel, by decide +kernel⟩
def b_folded : MS := (sSeq (sOwn 2 (lLc (wR1 (aC (eV 0) aN)) (.one 3) tYs (eC (.int (.ofNat 0))) [3])) (sSeq (sFor (wR1 (aC (eCa fLen (aC (eV 1) aN)) aN)) (.one 4) (sPut 2 (e2 fMod (eV 4) (eV 0)) (e2 fAdd (e2 fIx (eV 2) (e2 fMod (eV 4) (eV 0))) (e2 fIx (eV 1) (eV 4))))) (sFrz 2 (sRet (e2 fIx (eCall m_divided (aC (eV 2) (aC (eCall m_cyclotomic (aC (eV 0) aN)) aN))) (eC (.int (.ofNat 1))))))))
def m_folded : List U → Option U := runF b_folded 3
theorem ok_folded (F : FunD K "folded" "folded" (defArgs (top 53)) (defBody (top 53)) (defScope (top 53)) [] [] fa fd) (g : Gs K mg cl) (c_cyclotomic : Cal P w K mg base cl 2 "cyclotomic" 1 [] m_cyclotomic) (c_divided : Cal P w K mg base cl 1 "divided" 2 [] m_divided) : FnOk P w K mg base CX0 3 fa fd ["e", "items"] (spF cl 2 m_folded) :=
  ok_of F sc_folded (by decide) fun cdv A outer s H E hr => (jss_cons (ylcO 2 (own := [("_", 3)]) rfl sc_folded.nd (ji_range1 rfl g.range (ja_cons (xv 0) ja_nil)) (by kernel_rfl) (fun _ _ _ _ _ => (g1 3 sc_folded.nd)) (fun _ _ _ _ _ => jts_nil) (fun _ _ _ _ _ => j_int)) (jss_cons (js_for PassesOwn.never rfl (ji_range1 rfl g.range (ja_cons (xlen g.len (xv 1)) ja_nil)) (g1 4 sc_folded.nd) (jss_one (yput 2 (xmod (xv 4) (xv 0)) (xadd (j_ix (xv 2) (xmod (xv 4) (xv 0))) (j_ix (xv 1) (xv 4)))))) (jss_frz 2 (jss_one (js_ret (j_ix (j_call c_divided hr (by decide) rfl (ja_cons (xv 2) (ja_cons (j_call c_cyclotomic hr (by decide) rfl (ja_cons (xv 0) ja_nil) (len_cons len_nil)) ja_nil)) (len_cons (len_cons len_nil))) j_int))))))
def N_lowered : List Str := ["items", "e", "p", "m", "k", "total", "_", "first", "second", "at", "sums", "u", "row", "a", "b"]
theorem sc_lowered : FnScope N_lowered ["items", "e", "p"] (defScope (top 54)) := ⟨rfl, rfl, rfl, by decide +kernel, rfl, by decide +kernel, by decide +kernel⟩
def b_lowered : MS := (sSeq (sSet 3 (e2 fDiv (eV 1) (eV 2))) (sSeq (sIf (tB1 (e2 fEq (e2 fMod (eV 3) (eV 2)) (eC (.int (.ofNat 0))))) (sSeq (sIf (tB1 (eCa fAny (aC (eFz (lLc (wR1 (aC (eCa fLen (aC (eV 0) aN)) aN)) (.one 4) (tB1 (e2 fNe (e2 fMod (eV 4) (eV 2)) (eC (.int (.ofNat 0))))) (e2 fNe (e2 fIx (eV 0) (eV 4)) (eC (.int (.ofNat 0)))) [4])) aN))) (sRet (eC .non)) sPass) (sRet (eFz (lLc (wR3 (aC (eC (.int (.ofNat 0))) (aC (eCa fLen (aC (eV 0) aN)) (aC (eV 2) aN)))) (.one 4) tYs (e2 fIx (eV 0) (eV 4)) [4])))) sPass) (sSeq (sOwn 5 (lLc (wR1 (aC (eV 1) aN)) (.one 6) tYs (eC (.int (.ofNat 0))) [6])) (sSeq (sPar 7 8 (aC (eCall m_inverse_modulo (aC (eV 3) (aC (eV 2) aN))) (aC (eCall m_inverse_modulo (aC (eV 2) (aC (eV 3) aN))) aN))) (sSeq (sFor (wR1 (aC (eCa fLen (aC (eV 0) aN)) aN)) (.one 4) (sSeq (sSet 9 (e2 fAdd (e2 fMul (e2 fMod (e2 fMul (eV 4) (eV 7)) (eV 2)) (eV 3)) (e2 fMod (e2 fMul (eV 4) (eV 8)) (eV 3)))) (sPut 5 (eV 9) (e2 fAdd (e2 fIx (eV 5) (eV 9)) (e2 fIx (eV 0) (eV 4)))))) (sFrz 5 (sSeq (sSet 10 (eFz (lLc (wR1 (aC (eV 2) aN)) (.one 11) tYs (eCall m_folded (aC (eV 3) (aC (eFz (lSl (eV 5) (oS (e2 fMul (eV 11) (eV 3))) (oS (e2 fAdd (e2 fMul (eV 11) (eV 3)) (eV 3))))) aN))) [11]))) (sSeq (sIf (tB1 (eCa fAny (aC (eFz (lLc (wS (eFz (lSl (eV 10) (oS (eC (.int (.ofNat 2)))) oN))) (.one 12) tYs (e2 (fNeD (.l .i)) (eV 12) (e2 fIx (eV 10) (eC (.int (.ofNat 1))))) [12])) aN))) (sRet (eC .non)) sPass) (sRet (eFz (lLc (wZip (aC (e2 fIx (eV 10) (eC (.int (.ofNat 0)))) (aC (e2 fIx (eV 10) (eC (.int (.ofNat 1)))) aN))) (.two 13 14) tYs (e2 fSub (eV 13) (eV 14)) [13, 14])))))))))))
def m_lowered : List U → Option U := runF b_lowered 12
theorem ok_lowered (F : FunD K "lowered" "lowered" (defArgs (top 54)) (defBody (top 54)) (defScope (top 54)) [] [] fa fd) (g : Gs K mg cl) (c_inverse_modulo : Cal P w K mg base cl 1 "inverse_modulo" 2 [] m_inverse_modulo) (c_folded : Cal P w K mg base cl 3 "folded" 2 [] m_folded) : FnOk P w K mg base CX0 4 fa fd ["items", "e", "p"] (spF cl 3 m_lowered) :=
  ok_of F sc_lowered (by decide) fun cdv A outer s H E hr => (jss_cons (yset 3 sc_lowered.nd (xdiv (xv 1) (xv 2))) (jss_cons (js_if (teq (xmod (xv 3) (xv 2)) j_int) (jss_cons (js_if (tt (xany g.any rfl (j_fz (jl_lc (own := [("k", 4)]) rfl sc_lowered.nd (ji_range1 rfl g.range (ja_cons (xlen g.len (xv 0)) ja_nil)) (by kernel_rfl) (fun _ _ _ _ _ => (g1 4 sc_lowered.nd)) (fun _ _ _ _ _ => (jts_one (tne (xmod (xv 4) (xv 2)) j_int))) (fun _ _ _ _ _ => (xne (j_ix (xv 0) (xv 4)) j_int)))))) (jss_one (js_ret j_non)) jss_nil) (jss_one (js_ret (j_fz (jl_lc (own := [("k", 4)]) rfl sc_lowered.nd (ji_range3 rfl g.range (ja_cons j_int (ja_cons (xlen g.len (xv 0)) (ja_cons (xv 2) ja_nil)))) (by kernel_rfl) (fun _ _ _ _ _ => (g1 4 sc_lowered.nd)) (fun _ _ _ _ _ => jts_nil) (fun _ _ _ _ _ => (j_ix (xv 0) (xv 4)))))))) jss_nil) (jss_cons (yown 5 sc_lowered.nd (jl_lc (own := [("_", 6)]) rfl sc_lowered.nd (ji_range1 rfl g.range (ja_cons (xv 1) ja_nil)) (by kernel_rfl) (fun _ _ _ _ _ => (g1 6 sc_lowered.nd)) (fun _ _ _ _ _ => jts_nil) (fun _ _ _ _ _ => j_int))) (jss_cons (js_par (fun _ h => ps_par rfl sc_lowered.nd rfl rfl (by decide) rfl rfl h rfl) (ja_cons (j_call c_inverse_modulo hr (by decide) rfl (ja_cons (xv 3) (ja_cons (xv 2) ja_nil)) (len_cons (len_cons len_nil))) (ja_cons (j_call c_inverse_modulo hr (by decide) rfl (ja_cons (xv 2) (ja_cons (xv 3) ja_nil)) (len_cons (len_cons len_nil))) ja_nil))) (jss_cons (js_for PassesOwn.never rfl (ji_range1 rfl g.range (ja_cons (xlen g.len (xv 0)) ja_nil)) (g1 4 sc_lowered.nd) (jss_cons (yset 9 sc_lowered.nd (xadd (xmul (xmod (xmul (xv 4) (xv 7)) (xv 2)) (xv 3)) (xmod (xmul (xv 4) (xv 8)) (xv 3)))) (jss_one (yput 5 (xv 9) (xadd (j_ix (xv 5) (xv 9)) (j_ix (xv 0) (xv 4))))))) (jss_frz 5 (jss_cons (yset 10 sc_lowered.nd (j_fz (jl_lc (own := [("u", 11)]) rfl sc_lowered.nd (ji_range1 rfl g.range (ja_cons (xv 2) ja_nil)) (by kernel_rfl) (fun _ _ _ _ _ => (g1 11 sc_lowered.nd)) (fun _ _ _ _ _ => jts_nil) (fun _ _ _ _ _ => (j_call c_folded hr (by decide) rfl (ja_cons (xv 3) (ja_cons (j_fz (jl_slice (xv 5) (jo_some (xmul (xv 11) (xv 3))) (jo_some (xadd (xmul (xv 11) (xv 3)) (xv 3))))) ja_nil)) (len_cons (len_cons len_nil))))))) (jss_cons (js_if (tt (xany g.any rfl (j_fz (jl_lc (own := [("row", 12)]) rfl sc_lowered.nd (ji_seq (j_fz (jl_slice (xv 10) (jo_some j_int) jo_none))) (by kernel_rfl) (fun _ _ _ _ _ => (g1 12 sc_lowered.nd)) (fun _ _ _ _ _ => jts_nil) (fun _ _ _ _ _ => (xneD (.l .i) hr (xv 12) (j_ix (xv 10) j_int))))))) (jss_one (js_ret j_non)) jss_nil) (jss_one (js_ret (j_fz (jl_lc (own := [("a", 13), ("b", 14)]) rfl sc_lowered.nd (ji_zip rfl g.zip (ja_cons (j_ix (xv 10) j_int) (ja_cons (j_ix (xv 10) j_int) ja_nil))) (by kernel_rfl) (fun _ _ _ _ _ => (g2 13 14 sc_lowered.nd rfl)) (fun _ _ _ _ _ => jts_nil) (fun _ _ _ _ _ => (xsub (xv 13) (xv 14)))))))))))))))
def N_least_form : List Str := ["e", "items", "going", "p", "_", "lower"]
theorem sc_least_form : FnScope N_least_form ["e", "items"] (defScope (top 55)) := ⟨rfl, rfl, rfl, by decide +kernel, rfl, by decide +kernel, by decide +kernel⟩
def b_least_form : MS := (sSeq (sSet 1 (eCall m_folded (aC (eV 0) (aC (eV 1) aN)))) (sSeq (sSet 2 (eC (.bl true))) (sSeq (whL (tB1 (eV 2)) (sSeq (sSet 2 (eC (.bl false))) (sFor (wS (eCall m_prime_powers (aC (eV 0) aN))) (.two 3 4) (sSeq (sSet 5 (eC .non)) (sSeq (sIf (tNt (tB1 (eV 2))) (sSet 5 (eCall m_lowered (aC (eV 1) (aC (eV 0) (aC (eV 3) aN))))) sPass) (sIf (tB1 (e2 fNotN (eV 5) (eC .non))) (sPar3 0 1 2 (aC (e2 fDiv (eV 0) (eV 3)) (aC (eV 5) (aC (eC (.bl true)) aN)))) sPass))))) 64) (sRet (eTup (aC (eV 0) (aC (eV 1) aN)))))))
def m_least_form : List U → Option U := runF b_least_form 4
theorem ok_least_form (F : FunD K "least_form" "least_form" (defArgs (top 55)) (defBody (top 55)) (defScope (top 55)) [] [] fa fd) (g : Gs K mg cl) (c_folded : Cal P w K mg base cl 3 "folded" 2 [] m_folded) (c_prime_powers : Cal P w K mg base cl 1 "prime_powers" 1 [] m_prime_powers) (c_lowered : Cal P w K mg base cl 4 "lowered" 3 [] m_lowered) : FnOk P w K mg base CX0 5 fa fd ["e", "items"] (spF cl 2 m_least_form) :=
  ok_of F sc_least_form (by decide) fun cdv A outer s H E hr => (jss_cons (yset 1 sc_least_form.nd (j_call c_folded hr (by decide) rfl (ja_cons (xv 0) (ja_cons (xv 1) ja_nil)) (len_cons (len_cons len_nil)))) (jss_cons (yset 2 sc_least_form.nd j_bl) (jss_cons (js_while 64 PassesOwn.never (tt (xv 2)) (jss_cons (yset 2 sc_least_form.nd j_bl) (jss_one (js_for PassesOwn.never rfl (ji_seq (j_call c_prime_powers hr (by decide) rfl (ja_cons (xv 0) ja_nil) (len_cons len_nil))) (g2 3 4 sc_least_form.nd rfl) (jss_cons (yset 5 sc_least_form.nd j_non) (jss_cons (js_if (jt_not (tt (xv 2))) (jss_one (yset 5 sc_least_form.nd (j_call c_lowered hr (by decide) rfl (ja_cons (xv 1) (ja_cons (xv 0) (ja_cons (xv 3) ja_nil))) (len_cons (len_cons (len_cons len_nil)))))) jss_nil) (jss_one (js_if (tnotN (xv 5) j_non) (jss_one (js_par3 (fun _ h => ps_par3 rfl sc_least_form.nd rfl rfl rfl (by decide) (by decide) (by decide) rfl rfl rfl h rfl) (ja_cons (xdiv (xv 0) (xv 3)) (ja_cons (xv 5) (ja_cons j_bl ja_nil))))) jss_nil)))))))) (jss_one (js_ret (j_tup (ja_cons (xv 0) (ja_cons (xv 1) ja_nil))))))))
def N_Cyclo___init__ : List Str := ["self", "e", "items", "low", "item", "shared"]
theorem sc_Cyclo___init__ : FnScope N_Cyclo___init__ ["self", "e", "items", "low"] (defScope (cst 58 0)) := ⟨rfl, rfl, rfl, by decide +kernel, rfl, by decide +kernel, by decide +kernel⟩
def b_Cyclo___init__ : MS := (sSeq (sIf (tOrr (tNt (tB1 (eCall m_is_integer (aC (eV 1) aN)))) (tOrr (tB1 (e2 fLt (eV 1) (eC (.int (.ofNat 1))))) (tOrr (tB1 (e2 fGt (eV 1) (eC (.int (.ofNat 5000))))) (tNt (tB1 (eCall m_is_integer (aC (eV 3) aN))))))) sNo sPass) (sSeq (sIf (tB1 (eCa fAny (aC (eFz (lLc (wS (eV 2)) (.one 4) tYs (eNot (eCall m_is_integer (aC (eV 4) aN))) [4])) aN))) sNo sPass) (sSeq (sIf (tB1 (e2 fEq (eV 3) (eC (.int (.ofNat 0))))) sNo sPass) (sSeq (sUnp 1 2 (eCall m_least_form (aC (eV 1) (aC (eV 2) aN)))) (sSeq (sSet 5 (eCall m_common (aC (eFz (l2 fCat (eFz (lCa fList (aC (eV 2) aN))) (eFz (lDis (aC (eV 3) aN))))) aN))) (sSeq (sIf (tB1 (e2 fLt (eV 3) (eC (.int (.ofNat 0))))) (sSet 5 (e1 fNeg (eV 5))) sPass) (sSeq (sFl 2 0 (eV 1)) (sSeq (sFl 2 1 (eCa fTuple (aC (eFz (lLc (wS (eV 2)) (.one 4) tYs (e2 fDiv (eV 4) (eV 5)) [4])) aN))) (sFl 2 2 (e2 fDiv (eV 3) (eV 5)))))))))))
def m_Cyclo___init__ : List U → Option (List U) := runI 2 b_Cyclo___init__ 2
theorem ok_Cyclo___init__ (F : FunD K "__init__" "Cyclo.__init__" (defArgs (cst 58 0)) (defBody (cst 58 0)) (defScope (cst 58 0)) [.int 1] [] fa fd) (g : Gs K mg cl) (c_is_integer : Cal P w K mg base cl 1 "is_integer" 1 [] m_is_integer) (c_least_form : Cal P w K mg base cl 5 "least_form" 2 [] m_least_form) (c_common : Cal P w K mg base cl 1 "common" 1 [] m_common) : FnOk P w K mg base CX0 6 fa fd ["self", "e", "items", "low"] (spI cl 2 4 m_Cyclo___init__) :=
  ok_init F sc_Cyclo___init__ (by decide) fun cl' hk cdv A outer s H E hr => (jss_cons (js_if (jt_pw (jw_or (jt_not (tt (j_call (c_is_integer.cong hk.symm) hr (by decide) rfl (ja_cons (xv 1) ja_nil) (len_cons len_nil)))) (jw_or (tlt (xv 1) j_int) (jw_or (tgt (xv 1) (xg (g.cong hk.symm).most)) (jw_or1 (jt_not (tt (j_call (c_is_integer.cong hk.symm) hr (by decide) rfl (ja_cons (xv 3) ja_nil) (len_cons len_nil))))))))) (jss_one js_never) jss_nil) (jss_cons (js_if (tt (xany (g.cong hk.symm).any rfl (j_fz (jl_lc (own := [("item", 4)]) rfl sc_Cyclo___init__.nd (ji_seq (xv 2)) (by kernel_rfl) (fun _ _ _ _ _ => (g1 4 sc_Cyclo___init__.nd)) (fun _ _ _ _ _ => jts_nil) (fun _ _ _ _ _ => (j_not (j_call (c_is_integer.cong hk.symm) hr (by decide) rfl (ja_cons (xv 4) ja_nil) (len_cons len_nil)))))))) (jss_one js_never) jss_nil) (jss_cons (js_if (teq (xv 3) j_int) (jss_one js_never) jss_nil) (jss_cons (yunp 1 2 (j_call (c_least_form.cong hk.symm) hr (by decide) rfl (ja_cons (xv 1) (ja_cons (xv 2) ja_nil)) (len_cons (len_cons len_nil))) (g2 1 2 sc_Cyclo___init__.nd rfl)) (jss_cons (yset 5 sc_Cyclo___init__.nd (j_call (c_common.cong hk.symm) hr (by decide) rfl (ja_cons (j_fz (xcat (j_fz (xlist (g.cong hk.symm).list (xv 2))) (j_fz (jl_lst (ja_cons (xv 3) ja_nil))))) ja_nil) (len_cons len_nil))) (jss_cons (js_if (tlt (xv 3) j_int) (jss_one (yset 5 sc_Cyclo___init__.nd (xneg (xv 5)))) jss_nil) (jss_cons (yfld 2 0 (g.cong hk.symm) rfl (by decide) rfl (xv 1) (pv 0)) (jss_cons (yfld 2 1 (g.cong hk.symm) rfl (by decide) rfl (xtup (g.cong hk.symm).tuple (j_fz (jl_lc (own := [("item", 4)]) rfl sc_Cyclo___init__.nd (ji_seq (xv 2)) (by kernel_rfl) (fun _ _ _ _ _ => (g1 4 sc_Cyclo___init__.nd)) (fun _ _ _ _ _ => jts_nil) (fun _ _ _ _ _ => (xdiv (xv 4) (xv 5)))))) (pv 0)) (jss_one (yfld 2 2 (g.cong hk.symm) rfl (by decide) rfl (xdiv (xv 3) (xv 5)) (pv 0)))))))))))
def N_Cyclo_key : List Str := ["self"]
theorem sc_Cyclo_key : FnScope N_Cyclo_key ["self"] (defScope (cst 58 7)) := ⟨rfl, rfl, rfl, by decide +kernel, rfl, by decide +kernel, by decide +kernel⟩
def b_Cyclo_key : MS := (sRet (eTup (aC (e1 (fFld 2 0) (eV 0)) (aC (e1 (fFld 2 1) (eV 0)) (aC (e1 (fFld 2 2) (eV 0)) aN)))))
def m_Cyclo_key : List U → Option U := runF b_Cyclo_key 0
theorem ok_Cyclo_key (F : FunD K "key" "Cyclo.key" (defArgs (cst 58 7)) (defBody (cst 58 7)) (defScope (cst 58 7)) [] [] fa fd) (g : Gs K mg cl)  : FnOk P w K mg base CX0 1 fa fd ["self"] (spF cl 1 m_Cyclo_key) :=
  ok_of F sc_Cyclo_key (by decide) fun cdv A outer s H E hr => (jss_one (js_ret (j_tup (ja_cons (xfld 2 0 g (by decide) rfl (xv 0)) (ja_cons (xfld 2 1 g (by decide) rfl (xv 0)) (ja_cons (xfld 2 2 g (by decide) rfl (xv 0)) ja_nil))))))
def N_Cyclo___eq__ : List Str := ["self", "other"]
theorem sc_Cyclo___eq__ : FnScope N_Cyclo___eq__ ["self", "other"] (defScope (cst 58 1)) := ⟨rfl, rfl, rfl, by decide +kernel, rfl, by decide +kernel, by decide +kernel⟩
def b_Cyclo___eq__ : MS := (sRet (eAn (eIsC 2 (eV 1)) (e2 (fEqD (.t3 .i (.a .i) .i)) (eMeth 2 m_Cyclo_key (eV 0) aN) (eMeth 2 m_Cyclo_key (eV 1) aN))))
def m_Cyclo___eq__ : List U → Option U := runF b_Cyclo___eq__ 0
theorem ok_Cyclo___eq__ (F : FunD K "__eq__" "Cyclo.__eq__" (defArgs (cst 58 1)) (defBody (cst 58 1)) (defScope (cst 58 1)) [] [] fa fd) (g : Gs K mg cl) (t_Cyclo_key : Met P w K mg base cl 1 2 "key" 1 m_Cyclo_key) : FnOk P w K mg base CX0 2 fa fd ["self", "other"] (spF cl 2 m_Cyclo___eq__) :=
  ok_of F sc_Cyclo___eq__ (by decide) fun cdv A outer s H E hr => (jss_one (js_ret (j_and (j_isC g.insC rfl g.isi (xcl g.cyc) (xv 1)) (j_and1 (xeqD (.t3 .i (.a .i) .i) hr (j_meth0 t_Cyclo_key hr (by decide) (by decide) (xv 0)) (j_meth0 t_Cyclo_key hr (by decide) (by decide) (xv 1)))))))
def N_Cyclo___add__ : List Str := ["self", "other", "e", "total", "_", "number", "factor", "k", "at"]
theorem sc_Cyclo___add__ : FnScope N_Cyclo___add__ ["self", "other"] (defScope (cst 58 3)) := ⟨rfl, rfl, rfl, by decide +kernel, rfl, by decide +kernel, by decide +kernel⟩
def b_Cyclo___add__ : MS := (sSeq (sSet 2 (eCall m_multiple (aC (eTup (aC (e1 (fFld 2 0) (eV 0)) (aC (e1 (fFld 2 0) (eV 1)) aN))) aN))) (sSeq (sOwn 3 (lLc (wR1 (aC (eV 2) aN)) (.one 4) tYs (eC (.int (.ofNat 0))) [4])) (sSeq (sFor (wS (eTup (aC (eTup (aC (eV 0) (aC (e1 (fFld 2 2) (eV 1)) aN))) (aC (eTup (aC (eV 1) (aC (e1 (fFld 2 2) (eV 0)) aN))) aN)))) (.two 5 6) (sFor (wR1 (aC (eCa fLen (aC (e1 (fFld 2 1) (eV 5)) aN)) aN)) (.one 7) (sSeq (sSet 8 (e2 fMul (eV 7) (e2 fDiv (eV 2) (e1 (fFld 2 0) (eV 5))))) (sPut 3 (eV 8) (e2 fAdd (e2 fIx (eV 3) (eV 8)) (e2 fMul (eV 6) (e2 fIx (e1 (fFld 2 1) (eV 5)) (eV 7)))))))) (sFrz 3 (sRet (eMake 2 m_Cyclo___init__ [] (aC (eV 2) (aC (eV 3) (aC (e2 fMul (e1 (fFld 2 2) (eV 0)) (e1 (fFld 2 2) (eV 1))) aN)))))))))
def m_Cyclo___add__ : List U → Option U := runF b_Cyclo___add__ 7
theorem ok_Cyclo___add__ (F : FunD K "__add__" "Cyclo.__add__" (defArgs (cst 58 3)) (defBody (cst 58 3)) (defScope (cst 58 3)) [] [] fa fd) (g : Gs K mg cl) (c_multiple : Cal P w K mg base cl 2 "multiple" 1 [] m_multiple) (k_Cyclo___init__ : Mak P w K mg base cl 6 2 "Cyclo" 4 [] m_Cyclo___init__) : FnOk P w K mg base CX0 8 fa fd ["self", "other"] (spF cl 2 m_Cyclo___add__) :=
  ok_of F sc_Cyclo___add__ (by decide) fun cdv A outer s H E hr => (jss_cons (yset 2 sc_Cyclo___add__.nd (j_call c_multiple hr (by decide) rfl (ja_cons (j_tup (ja_cons (xfld 2 0 g (by decide) rfl (xv 0)) (ja_cons (xfld 2 0 g (by decide) rfl (xv 1)) ja_nil))) ja_nil) (len_cons len_nil))) (jss_cons (ylcO 3 (own := [("_", 4)]) rfl sc_Cyclo___add__.nd (ji_range1 rfl g.range (ja_cons (xv 2) ja_nil)) (by kernel_rfl) (fun _ _ _ _ _ => (g1 4 sc_Cyclo___add__.nd)) (fun _ _ _ _ _ => jts_nil) (fun _ _ _ _ _ => j_int)) (jss_cons (js_for PassesOwn.never rfl (ji_seq (j_tup (ja_cons (j_tup (ja_cons (xv 0) (ja_cons (xfld 2 2 g (by decide) rfl (xv 1)) ja_nil))) (ja_cons (j_tup (ja_cons (xv 1) (ja_cons (xfld 2 2 g (by decide) rfl (xv 0)) ja_nil))) ja_nil)))) (g2 5 6 sc_Cyclo___add__.nd rfl) (jss_one (js_for PassesOwn.never rfl (ji_range1 rfl g.range (ja_cons (xlen g.len (xfld 2 1 g (by decide) rfl (xv 5))) ja_nil)) (g1 7 sc_Cyclo___add__.nd) (jss_cons (yset 8 sc_Cyclo___add__.nd (xmul (xv 7) (xdiv (xv 2) (xfld 2 0 g (by decide) rfl (xv 5))))) (jss_one (yput 3 (xv 8) (xadd (j_ix (xv 3) (xv 8)) (xmul (xv 6) (j_ix (xfld 2 1 g (by decide) rfl (xv 5)) (xv 7)))))))))) (jss_frz 3 (jss_one (js_ret (j_make k_Cyclo___init__ hr (by decide) rfl (ja_cons (xv 2) (ja_cons (xv 3) (ja_cons (xmul (xfld 2 2 g (by decide) rfl (xv 0)) (xfld 2 2 g (by decide) rfl (xv 1))) ja_nil))) (len_cons (len_cons (len_cons len_nil))))))))))
def N_Cyclo_scaled : List Str := ["self", "n", "item"]
theorem sc_Cyclo_scaled : FnScope N_Cyclo_scaled ["self", "n"] (defScope (cst 58 9)) := ⟨rfl, rfl, rfl, by decide +kernel, rfl, by decide +kernel, by decide +kernel⟩
def b_Cyclo_scaled : MS := (sRet (eMake 2 m_Cyclo___init__ [] (aC (e1 (fFld 2 0) (eV 0)) (aC (eFz (lLc (wS (e1 (fFld 2 1) (eV 0))) (.one 2) tYs (e2 fMul (eV 1) (eV 2)) [2])) (aC (e1 (fFld 2 2) (eV 0)) aN)))))
def m_Cyclo_scaled : List U → Option U := runF b_Cyclo_scaled 1
theorem ok_Cyclo_scaled (F : FunD K "scaled" "Cyclo.scaled" (defArgs (cst 58 9)) (defBody (cst 58 9)) (defScope (cst 58 9)) [] [] fa fd) (g : Gs K mg cl) (k_Cyclo___init__ : Mak P w K mg base cl 6 2 "Cyclo" 4 [] m_Cyclo___init__) : FnOk P w K mg base CX0 8 fa fd ["self", "n"] (spF cl 2 m_Cyclo_scaled) :=
  ok_of F sc_Cyclo_scaled (by decide) fun cdv A outer s H E hr => (jss_one (js_ret (j_make k_Cyclo___init__ hr (by decide) rfl (ja_cons (xfld 2 0 g (by decide) rfl (xv 0)) (ja_cons (j_fz (jl_lc (own := [("item", 2)]) rfl sc_Cyclo_scaled.nd (ji_seq (xfld 2 1 g (by decide) rfl (xv 0))) (by kernel_rfl) (fun _ _ _ _ _ => (g1 2 sc_Cyclo_scaled.nd)) (fun _ _ _ _ _ => jts_nil) (fun _ _ _ _ _ => (xmul (xv 1) (xv 2))))) (ja_cons (xfld 2 2 g (by decide) rfl (xv 0)) ja_nil))) (len_cons (len_cons (len_cons len_nil))))))
def N_root : List Str := ["e", "k", "_"]
theorem sc_root : FnScope N_root ["e", "k"] (defScope (top 59)) := ⟨rfl, rfl, rfl, by decide +kernel, rfl, by decide +kernel, by decide +kernel⟩
def b_root : MS := (sSeq (sIf (tOrr (tNt (tB1 (eCall m_is_integer (aC (eV 0) aN)))) (tOrr (tB1 (e2 fLt (eV 0) (eC (.int (.ofNat 1))))) (tB1 (e2 fGt (eV 0) (eC (.int (.ofNat 5000))))))) sNo sPass) (sRet (eMake 2 m_Cyclo___init__ [.int (.ofNat 1)] (aC (eV 0) (aC (eFz (l2 fCat (eFz (lLc (wR1 (aC (e2 fMod (eV 1) (eV 0)) aN)) (.one 2) tYs (eC (.int (.ofNat 0))) [2])) (eFz (lDis (aC (eC (.int (.ofNat 1))) aN))))) aN)))))
def m_root : List U → Option U := runF b_root 1
theorem ok_root (F : FunD K "root" "root" (defArgs (top 59)) (defBody (top 59)) (defScope (top 59)) [.int 1] [] fa fd) (g : Gs K mg cl) (c_is_integer : Cal P w K mg base cl 1 "is_integer" 1 [] m_is_integer) (kd_Cyclo___init__ : Mak P w K mg base cl 6 2 "Cyclo" 4 [.int (.ofNat 1)] m_Cyclo___init__) : FnOk P w K mg base CX0 8 fa fd ["e", "k"] (spF cl 2 m_root) :=
  ok_of F sc_root (by decide) fun cdv A outer s H E hr => (jss_cons (js_if (jt_pw (jw_or (jt_not (tt (j_call c_is_integer hr (by decide) rfl (ja_cons (xv 0) ja_nil) (len_cons len_nil)))) (jw_or (tlt (xv 0) j_int) (jw_or1 (tgt (xv 0) (xg g.most)))))) (jss_one js_never) jss_nil) (jss_one (js_ret (j_make kd_Cyclo___init__ hr (by decide) rfl (ja_cons (xv 0) (ja_cons (j_fz (xcat (j_fz (jl_lc (own := [("_", 2)]) rfl sc_root.nd (ji_range1 rfl g.range (ja_cons (xmod (xv 1) (xv 0)) ja_nil)) (by kernel_rfl) (fun _ _ _ _ _ => (g1 2 sc_root.nd)) (fun _ _ _ _ _ => jts_nil) (fun _ _ _ _ _ => j_int))) (j_fz (jl_lst (ja_cons j_int ja_nil))))) ja_nil)) (len_cons (len_cons len_nil))))))
def N_of_integer : List Str := ["n"]
theorem sc_of_integer : FnScope N_of_integer ["n"] (defScope (top 60)) := ⟨rfl, rfl, rfl, by decide +kernel, rfl, by decide +kernel, by decide +kernel⟩
def b_of_integer : MS := (sRet (eMake 2 m_Cyclo___init__ [.int (.ofNat 1)] (aC (eC (.int (.ofNat 1))) (aC (eTup (aC (eV 0) aN)) aN))))
def m_of_integer : List U → Option U := runF b_of_integer 0
theorem ok_of_integer (F : FunD K "of_integer" "of_integer" (defArgs (top 60)) (defBody (top 60)) (defScope (top 60)) [] [] fa fd) (g : Gs K mg cl) (kd_Cyclo___init__ : Mak P w K mg base cl 6 2 "Cyclo" 4 [.int (.ofNat 1)] m_Cyclo___init__) : FnOk P w K mg base CX0 8 fa fd ["n"] (spF cl 1 m_of_integer) :=
  ok_of F sc_of_integer (by decide) fun cdv A outer s H E hr => (jss_one (js_ret (j_make kd_Cyclo___init__ hr (by decide) rfl (ja_cons j_int (ja_cons (j_tup (ja_cons (xv 0) ja_nil)) ja_nil)) (len_cons (len_cons len_nil)))))
def N_added : List Str := ["numbers", "total", "number"]
theorem sc_added : FnScope N_added ["numbers"] (defScope (top 61)) := ⟨rfl, rfl, rfl, by decide +kernel, rfl, by decide +kernel, by decide +kernel⟩
def b_added : MS := (sSeq (sSet 1 (eCall m_of_integer (aC (eC (.int (.ofNat 0))) aN))) (sSeq (sFor (wS (eV 0)) (.one 2) (sSet 1 (e2 (fDun 2 m_Cyclo___add__) (eV 1) (eV 2)))) (sRet (eV 1))))
def m_added : List U → Option U := runF b_added 2
theorem ok_added (F : FunD K "added" "added" (defArgs (top 61)) (defBody (top 61)) (defScope (top 61)) [] [] fa fd) (g : Gs K mg cl) (c_of_integer : Cal P w K mg base cl 8 "of_integer" 1 [] m_of_integer) (o_Cyclo___add__ : Dnd P w K mg base cl 8 2 "__add__" 2 m_Cyclo___add__) : FnOk P w K mg base CX0 9 fa fd ["numbers"] (spF cl 1 m_added) :=
  ok_of F sc_added (by decide) fun cdv A outer s H E hr => (jss_cons (yset 1 sc_added.nd (j_call c_of_integer hr (by decide) rfl (ja_cons j_int ja_nil) (len_cons len_nil))) (jss_cons (js_for PassesOwn.never rfl (ji_seq (xv 0)) (g1 2 sc_added.nd) (jss_one (yset 1 sc_added.nd (j_bin (op := .Add) o_Cyclo___add__ hr (by decide) (xv 1) (xv 2))))) (jss_one (js_ret (xv 1)))))
def N_cleared : List Str := ["row", "lead", "at", "p", "factor", "a", "b"]
theorem sc_cleared : FnScope N_cleared ["row", "lead", "at", "p"] (defScope (top 64)) := ⟨rfl, rfl, rfl, by decide +kernel, rfl, by decide +kernel, by decide +kernel⟩
def b_cleared : MS := (sSeq (sSet 4 (e2 fIx (eV 0) (eV 2))) (sSeq (sIf (tB1 (e2 fEq (eV 4) (eC (.int (.ofNat 0))))) (sRet (eV 0)) sPass) (sRet (eFz (lLc (wZip (aC (eV 0) (aC (eV 1) aN))) (.two 5 6) tYs (e2 fMod (e2 fSub (eV 5) (e2 fMul (eV 4) (eV 6))) (eV 3)) [5, 6])))))
def m_cleared : List U → Option U := runF b_cleared 3
theorem ok_cleared (F : FunD K "cleared" "cleared" (defArgs (top 64)) (defBody (top 64)) (defScope (top 64)) [] [] fa fd) (g : Gs K mg cl)  : FnOk P w K mg base CX0 1 fa fd ["row", "lead", "at", "p"] (spF cl 4 m_cleared) :=
  ok_of F sc_cleared (by decide) fun cdv A outer s H E hr => (jss_cons (yset 4 sc_cleared.nd (j_ix (xv 0) (xv 2))) (jss_cons (js_if (teq (xv 4) j_int) (jss_one (js_ret (xv 0))) jss_nil) (jss_one (js_ret (j_fz (jl_lc (own := [("a", 5), ("b", 6)]) rfl sc_cleared.nd (ji_zip rfl g.zip (ja_cons (xv 0) (ja_cons (xv 1) ja_nil))) (by kernel_rfl) (fun _ _ _ _ _ => (g2 5 6 sc_cleared.nd rfl)) (fun _ _ _ _ _ => jts_nil) (fun _ _ _ _ _ => (xmod (xsub (xv 5) (xmul (xv 4) (xv 6))) (xv 3)))))))))
def N_reduced : List Str := ["rows", "width", "p", "rest", "item", "row", "done", "pivots", "at", "chosen", "k", "scale", "lead", "others", "other"]
theorem sc_reduced : FnScope N_reduced ["rows", "width", "p"] (defScope (top 63)) := ⟨rfl, rfl, rfl, by decide +kernel, rfl, by decide +kernel, by decide +kernel⟩
def b_reduced : MS := (sSeq (sSet 3 (eFz (lLc (wS (eV 0)) (.one 5) tYs (eFz (lLc (wS (eV 5)) (.one 4) tYs (e2 fMod (eV 4) (eV 2)) [4])) [5]))) (sSeq (sSet 6 (eFz (lDis aN))) (sSeq (sOwn 7 (lDis aN)) (sSeq (sFor (wR1 (aC (eV 1) aN)) (.one 8) (sSeq (sSet 9 (eFz (lLc (wR1 (aC (eCa fLen (aC (eV 3) aN)) aN)) (.one 10) (tB1 (e2 fNe (e2 fIx (e2 fIx (eV 3) (eV 10)) (eV 8)) (eC (.int (.ofNat 0))))) (eV 10) [10]))) (sIf (tB1 (e2 fGt (eCa fLen (aC (eV 9) aN)) (eC (.int (.ofNat 0))))) (sSeq (sSet 11 (eCall m_inverse_modulo (aC (e2 fIx (e2 fIx (eV 3) (e2 fIx (eV 9) (eC (.int (.ofNat 0))))) (eV 8)) (aC (eV 2) aN)))) (sSeq (sSet 12 (eFz (lLc (wS (e2 fIx (eV 3) (e2 fIx (eV 9) (eC (.int (.ofNat 0)))))) (.one 4) tYs (e2 fMod (e2 fMul (eV 11) (eV 4)) (eV 2)) [4]))) (sSeq (sSet 13 (eFz (l2 fCat (eFz (lSl (eV 3) oN (oS (e2 fIx (eV 9) (eC (.int (.ofNat 0))))))) (eFz (lSl (eV 3) (oS (e2 fAdd (e2 fIx (eV 9) (eC (.int (.ofNat 0)))) (eC (.int (.ofNat 1))))) oN))))) (sSeq (sSet 3 (eFz (lLc (wS (eV 13)) (.one 14) tYs (eCall m_cleared (aC (eV 14) (aC (eV 12) (aC (eV 8) (aC (eV 2) aN))))) [14]))) (sSeq (sSet 6 (eFz (l2 fCat (eFz (lLc (wS (eV 6)) (.one 14) tYs (eCall m_cleared (aC (eV 14) (aC (eV 12) (aC (eV 8) (aC (eV 2) aN))))) [14])) (eFz (lDis (aC (eV 12) aN)))))) (sApp 7 (eV 8))))))) sPass))) (sRet (eTup (aC (eCa fTuple (aC (eFz (lLc (wS (eV 6)) (.one 5) tYs (eCa fTuple (aC (eV 5) aN)) [5])) aN)) (aC (eCa fTuple (aC (eV 7) aN)) aN))))))))
def m_reduced : List U → Option U := runF b_reduced 12
theorem ok_reduced (F : FunD K "reduced" "reduced" (defArgs (top 63)) (defBody (top 63)) (defScope (top 63)) [] [] fa fd) (g : Gs K mg cl) (c_inverse_modulo : Cal P w K mg base cl 1 "inverse_modulo" 2 [] m_inverse_modulo) (c_cleared : Cal P w K mg base cl 1 "cleared" 4 [] m_cleared) : FnOk P w K mg base CX0 2 fa fd ["rows", "width", "p"] (spF cl 3 m_reduced) :=
  ok_of F sc_reduced (by decide) fun cdv A outer s H E hr => (jss_cons (yset 3 sc_reduced.nd (j_fz (jl_lc (own := [("row", 5)]) rfl sc_reduced.nd (ji_seq (xv 0)) (by kernel_rfl) (fun _ _ _ _ _ => (g1 5 sc_reduced.nd)) (fun _ _ _ _ _ => jts_nil) (fun _ _ _ _ _ => (j_fz (jl_lc (own := [("item", 4)]) rfl sc_reduced.nd (ji_seq (xv 5)) (by kernel_rfl) (fun _ _ _ _ _ => (g1 4 sc_reduced.nd)) (fun _ _ _ _ _ => jts_nil) (fun _ _ _ _ _ => (xmod (xv 4) (xv 2))))))))) (jss_cons (yset 6 sc_reduced.nd (j_fz (jl_lst ja_nil))) (jss_cons (yown 7 sc_reduced.nd (jl_lst ja_nil)) (jss_cons (js_for PassesOwn.never rfl (ji_range1 rfl g.range (ja_cons (xv 1) ja_nil)) (g1 8 sc_reduced.nd) (jss_cons (ylcF 9 (own := [("k", 10)]) rfl sc_reduced.nd (ji_range1 rfl g.range (ja_cons (xlen g.len (xv 3)) ja_nil)) (by kernel_rfl) (fun _ _ _ _ _ => (g1 10 sc_reduced.nd)) (fun _ _ _ _ _ => (jts_one (tne (j_ix (j_ix (xv 3) (xv 10)) (xv 8)) j_int))) (fun _ _ _ _ _ => (xv 10))) (jss_one (js_if (tgt (xlen g.len (xv 9)) j_int) (jss_cons (yset 11 sc_reduced.nd (j_call c_inverse_modulo hr (by decide) rfl (ja_cons (j_ix (j_ix (xv 3) (j_ix (xv 9) j_int)) (xv 8)) (ja_cons (xv 2) ja_nil)) (len_cons (len_cons len_nil)))) (jss_cons (yset 12 sc_reduced.nd (j_fz (jl_lc (own := [("item", 4)]) rfl sc_reduced.nd (ji_seq (j_ix (xv 3) (j_ix (xv 9) j_int))) (by kernel_rfl) (fun _ _ _ _ _ => (g1 4 sc_reduced.nd)) (fun _ _ _ _ _ => jts_nil) (fun _ _ _ _ _ => (xmod (xmul (xv 11) (xv 4)) (xv 2)))))) (jss_cons (yset 13 sc_reduced.nd (j_fz (xcat (j_fz (jl_slice (xv 3) jo_none (jo_some (j_ix (xv 9) j_int)))) (j_fz (jl_slice (xv 3) (jo_some (xadd (j_ix (xv 9) j_int) j_int)) jo_none))))) (jss_cons (yset 3 sc_reduced.nd (j_fz (jl_lc (own := [("other", 14)]) rfl sc_reduced.nd (ji_seq (xv 13)) (by kernel_rfl) (fun _ _ _ _ _ => (g1 14 sc_reduced.nd)) (fun _ _ _ _ _ => jts_nil) (fun _ _ _ _ _ => (j_call c_cleared hr (by decide) rfl (ja_cons (xv 14) (ja_cons (xv 12) (ja_cons (xv 8) (ja_cons (xv 2) ja_nil)))) (len_cons (len_cons (len_cons (len_cons len_nil))))))))) (jss_cons (yset 6 sc_reduced.nd (j_fz (xcat (j_fz (jl_lc (own := [("other", 14)]) rfl sc_reduced.nd (ji_seq (xv 6)) (by kernel_rfl) (fun _ _ _ _ _ => (g1 14 sc_reduced.nd)) (fun _ _ _ _ _ => jts_nil) (fun _ _ _ _ _ => (j_call c_cleared hr (by decide) rfl (ja_cons (xv 14) (ja_cons (xv 12) (ja_cons (xv 8) (ja_cons (xv 2) ja_nil)))) (len_cons (len_cons (len_cons (len_cons len_nil)))))))) (j_fz (jl_lst (ja_cons (xv 12) ja_nil)))))) (jss_one (yapp 7 (xv 8) (pv 7)))))))) jss_nil)))) (jss_one (js_ret (j_tup (ja_cons (xtup g.tuple (j_fz (jl_lc (own := [("row", 5)]) rfl sc_reduced.nd (ji_seq (xv 6)) (by kernel_rfl) (fun _ _ _ _ _ => (g1 5 sc_reduced.nd)) (fun _ _ _ _ _ => jts_nil) (fun _ _ _ _ _ => (xtup g.tuple (xv 5)))))) (ja_cons (xtup g.tuple (xv 7)) ja_nil)))))))))
def N_kernel_modular : List Str := ["rows", "width", "p", "lines", "pivots", "found", "at", "vector", "_", "line", "pivot"]
theorem sc_kernel_modular : FnScope N_kernel_modular ["rows", "width", "p"] (defScope (top 65)) := ⟨rfl, rfl, rfl, by decide +kernel, rfl, by decide +kernel, by decide +kernel⟩
def b_kernel_modular : MS := (sSeq (sUnp 3 4 (eCall m_reduced (aC (eV 0) (aC (eV 1) (aC (eV 2) aN))))) (sSeq (sOwn 5 (lDis aN)) (sSeq (sFor (wR1 (aC (eV 1) aN)) (.one 6) (sIf (tB1 (e2 fNotIn (eV 6) (eV 4))) (sSeq (sOwn 7 (lLc (wR1 (aC (eV 1) aN)) (.one 8) tYs (eC (.int (.ofNat 0))) [8])) (sSeq (sPut 7 (eV 6) (eC (.int (.ofNat 1)))) (sSeq (sFor (wZip (aC (eV 3) (aC (eV 4) aN))) (.two 9 10) (sPut 7 (eV 10) (e2 fMod (e1 fNeg (e2 fIx (eV 9) (eV 6))) (eV 2)))) (sApp 5 (eCa fTuple (aC (eV 7) aN)))))) sPass)) (sRet (eCa fTuple (aC (eV 5) aN))))))
def m_kernel_modular : List U → Option U := runF b_kernel_modular 8
theorem ok_kernel_modular (F : FunD K "kernel" "kernel" (defArgs (top 65)) (defBody (top 65)) (defScope (top 65)) [] [] fa fd) (g : Gs K mg cl) (c_reduced : Cal P w K mg base cl 2 "reduced" 3 [] m_reduced) : FnOk P w K mg base CX0 3 fa fd ["rows", "width", "p"] (spF cl 3 m_kernel_modular) :=
  ok_of F sc_kernel_modular (by decide) fun cdv A outer s H E hr => (jss_cons (yunp 3 4 (j_call c_reduced hr (by decide) rfl (ja_cons (xv 0) (ja_cons (xv 1) (ja_cons (xv 2) ja_nil))) (len_cons (len_cons (len_cons len_nil)))) (g2 3 4 sc_kernel_modular.nd rfl)) (jss_cons (yown 5 sc_kernel_modular.nd (jl_lst ja_nil)) (jss_cons (js_for PassesOwn.never rfl (ji_range1 rfl g.range (ja_cons (xv 1) ja_nil)) (g1 6 sc_kernel_modular.nd) (jss_one (js_if (tnotin (xv 6) (xv 4)) (jss_cons (ylcO 7 (own := [("_", 8)]) rfl sc_kernel_modular.nd (ji_range1 rfl g.range (ja_cons (xv 1) ja_nil)) (by kernel_rfl) (fun _ _ _ _ _ => (g1 8 sc_kernel_modular.nd)) (fun _ _ _ _ _ => jts_nil) (fun _ _ _ _ _ => j_int)) (jss_cons (yput 7 (xv 6) j_int) (jss_cons (js_for PassesOwn.never rfl (ji_zip rfl g.zip (ja_cons (xv 3) (ja_cons (xv 4) ja_nil))) (g2 9 10 sc_kernel_modular.nd rfl) (jss_one (yput 7 (xv 10) (xmod (xneg (j_ix (xv 9) (xv 6))) (xv 2))))) (jss_one (yapp 5 (xtup g.tuple (xv 7)) (pv 5)))))) jss_nil))) (jss_one (js_ret (xtup g.tuple (xv 5)))))))
def N_times : List Str := ["rows", "vector", "p", "a", "b", "row"]
theorem sc_times : FnScope N_times ["rows", "vector", "p"] (defScope (top 67)) := ⟨rfl, rfl, rfl, by decide +kernel, rfl, by decide +kernel, by decide +kernel⟩
def b_times : MS := (sRet (eCa fTuple (aC (eFz (lLc (wS (eV 0)) (.one 5) tYs (e2 fMod (eCa fSum (aC (eFz (lLc (wZip (aC (eV 5) (aC (eV 1) aN))) (.two 3 4) tYs (e2 fMul (eV 3) (eV 4)) [3, 4])) aN)) (eV 2)) [5])) aN)))
def m_times : List U → Option U := runF b_times 3
theorem ok_times (F : FunD K "times" "times" (defArgs (top 67)) (defBody (top 67)) (defScope (top 67)) [] [] fa fd) (g : Gs K mg cl)  : FnOk P w K mg base CX0 1 fa fd ["rows", "vector", "p"] (spF cl 3 m_times) :=
  ok_of F sc_times (by decide) fun cdv A outer s H E hr => (jss_one (js_ret (xtup g.tuple (j_fz (jl_lc (own := [("row", 5)]) rfl sc_times.nd (ji_seq (xv 0)) (by kernel_rfl) (fun _ _ _ _ _ => (g1 5 sc_times.nd)) (fun _ _ _ _ _ => jts_nil) (fun _ _ _ _ _ => (xmod (xsum g.sum rfl (j_fz (jl_lc (own := [("a", 3), ("b", 4)]) rfl sc_times.nd (ji_zip rfl g.zip (ja_cons (xv 5) (ja_cons (xv 1) ja_nil))) (by kernel_rfl) (fun _ _ _ _ _ => (g2 3 4 sc_times.nd rfl)) (fun _ _ _ _ _ => jts_nil) (fun _ _ _ _ _ => (xmul (xv 3) (xv 4)))))) (xv 2))))))))
def N_before : List Str := ["vector", "rows", "width", "p", "total", "_", "factor", "row", "a", "b"]
theorem sc_before : FnScope N_before ["vector", "rows", "width", "p"] (defScope (top 68)) := ⟨rfl, rfl, rfl, by decide +kernel, rfl, by decide +kernel, by decide +kernel⟩
def b_before : MS := (sSeq (sSet 4 (eFz (lLc (wR1 (aC (eV 2) aN)) (.one 5) tYs (eC (.int (.ofNat 0))) [5]))) (sSeq (sFor (wZip (aC (eV 0) (aC (eV 1) aN))) (.two 6 7) (sSet 4 (eFz (lLc (wZip (aC (eV 4) (aC (eV 7) aN))) (.two 8 9) tYs (e2 fMod (e2 fAdd (eV 8) (e2 fMul (eV 6) (eV 9))) (eV 3)) [8, 9])))) (sRet (eCa fTuple (aC (eV 4) aN)))))
def m_before : List U → Option U := runF b_before 6
theorem ok_before (F : FunD K "before" "before" (defArgs (top 68)) (defBody (top 68)) (defScope (top 68)) [] [] fa fd) (g : Gs K mg cl)  : FnOk P w K mg base CX0 1 fa fd ["vector", "rows", "width", "p"] (spF cl 4 m_before) :=
  ok_of F sc_before (by decide) fun cdv A outer s H E hr => (jss_cons (ylcF 4 (own := [("_", 5)]) rfl sc_before.nd (ji_range1 rfl g.range (ja_cons (xv 2) ja_nil)) (by kernel_rfl) (fun _ _ _ _ _ => (g1 5 sc_before.nd)) (fun _ _ _ _ _ => jts_nil) (fun _ _ _ _ _ => j_int)) (jss_cons (js_for PassesOwn.never rfl (ji_zip rfl g.zip (ja_cons (xv 0) (ja_cons (xv 1) ja_nil))) (g2 6 7 sc_before.nd rfl) (jss_one (ylcF 4 (own := [("a", 8), ("b", 9)]) rfl sc_before.nd (ji_zip rfl g.zip (ja_cons (xv 4) (ja_cons (xv 7) ja_nil))) (by kernel_rfl) (fun _ _ _ _ _ => (g2 8 9 sc_before.nd rfl)) (fun _ _ _ _ _ => jts_nil) (fun _ _ _ _ _ => (xmod (xadd (xv 8) (xmul (xv 6) (xv 9))) (xv 3)))))) (jss_one (js_ret (xtup g.tuple (xv 4))))))
def N_prime_of : List Str := ["n", "e"]
theorem sc_prime_of : FnScope N_prime_of ["n", "e"] (defScope (top 70)) := ⟨rfl, rfl, rfl, by decide +kernel, rfl, by decide +kernel, by decide +kernel⟩
def b_prime_of : MS := (sRet (eCall m_prime_above (aC (eV 1) (aC (eCall m_root_floor (aC (e2 fMul (eC (.int (.ofNat 4))) (eV 0)) aN)) aN))))
def m_prime_of : List U → Option U := runF b_prime_of 0
theorem ok_prime_of (F : FunD K "prime_of" "prime_of" (defArgs (top 70)) (defBody (top 70)) (defScope (top 70)) [] [] fa fd) (g : Gs K mg cl) (c_root_floor : Cal P w K mg base cl 1 "root_floor" 1 [] m_root_floor) (c_prime_above : Cal P w K mg base cl 3 "prime_above" 2 [] m_prime_above) : FnOk P w K mg base CX0 4 fa fd ["n", "e"] (spF cl 2 m_prime_of) :=
  ok_of F sc_prime_of (by decide) fun cdv A outer s H E hr => (jss_one (js_ret (j_call c_prime_above hr (by decide) rfl (ja_cons (xv 1) (ja_cons (j_call c_root_floor hr (by decide) rfl (ja_cons (xmul j_int (xv 0)) ja_nil) (len_cons len_nil)) ja_nil)) (len_cons (len_cons len_nil)))))
def N_root_of : List Str := ["p", "e", "z", "smaller", "k"]
theorem sc_root_of : FnScope N_root_of ["p", "e"] (defScope (top 71)) := ⟨rfl, rfl, rfl, by decide +kernel, rfl, by decide +kernel, by decide +kernel⟩
def b_root_of : MS := (sSeq (sFor (wR2 (aC (eC (.int (.ofNat 1))) (aC (eV 0) aN))) (.one 2) (sIf (tB1 (e2 fEq (eCall m_power_modulo (aC (eV 2) (aC (eV 1) (aC (eV 0) aN)))) (e2 fMod (eC (.int (.ofNat 1))) (eV 0)))) (sSeq (sSet 3 (eFz (lLc (wS (eCall m_divisors (aC (eV 1) aN))) (.one 4) (tAn (tB1 (e2 fLt (eV 4) (eV 1))) (tB1 (e2 fEq (eCall m_power_modulo (aC (eV 2) (aC (eV 4) (aC (eV 0) aN)))) (eC (.int (.ofNat 1)))))) (eV 4) [4]))) (sIf (tB1 (e2 fEq (eCa fLen (aC (eV 3) aN)) (eC (.int (.ofNat 0))))) (sRet (eV 2)) sPass)) sPass)) sNo)
def m_root_of : List U → Option U := runF b_root_of 3
theorem ok_root_of (F : FunD K "root_of" "root_of" (defArgs (top 71)) (defBody (top 71)) (defScope (top 71)) [] [] fa fd) (g : Gs K mg cl) (c_power_modulo : Cal P w K mg base cl 1 "power_modulo" 3 [] m_power_modulo) (c_divisors : Cal P w K mg base cl 2 "divisors" 1 [] m_divisors) : FnOk P w K mg base CX0 3 fa fd ["p", "e"] (spF cl 2 m_root_of) :=
  ok_of F sc_root_of (by decide) fun cdv A outer s H E hr => (jss_cons (js_for PassesOwn.never rfl (ji_range2 rfl g.range (ja_cons j_int (ja_cons (xv 0) ja_nil))) (g1 2 sc_root_of.nd) (jss_one (js_if (teq (j_call c_power_modulo hr (by decide) rfl (ja_cons (xv 2) (ja_cons (xv 1) (ja_cons (xv 0) ja_nil))) (len_cons (len_cons (len_cons len_nil)))) (xmod j_int (xv 0))) (jss_cons (ylcF 3 (own := [("k", 4)]) rfl sc_root_of.nd (ji_seq (j_call c_divisors hr (by decide) rfl (ja_cons (xv 1) ja_nil) (len_cons len_nil))) (by kernel_rfl) (fun _ _ _ _ _ => (g1 4 sc_root_of.nd)) (fun _ _ _ _ _ => (jts_one (jt_pw (jw_and (tlt (xv 4) (xv 1)) (jw_and1 (teq (j_call c_power_modulo hr (by decide) rfl (ja_cons (xv 2) (ja_cons (xv 4) (ja_cons (xv 0) ja_nil))) (len_cons (len_cons (len_cons len_nil)))) j_int)))))) (fun _ _ _ _ _ => (xv 4))) (jss_one (js_if (teq (xlen g.len (xv 3)) j_int) (jss_one (js_ret (xv 2))) jss_nil))) jss_nil))) (jss_one js_never))
def N_modulo : List Str := ["matrix", "p", "item", "row"]
theorem sc_modulo : FnScope N_modulo ["matrix", "p"] (defScope (top 72)) := ⟨rfl, rfl, rfl, by decide +kernel, rfl, by decide +kernel, by decide +kernel⟩
def b_modulo : MS := (sRet (eCa fTuple (aC (eFz (lLc (wS (eV 0)) (.one 3) tYs (eCa fTuple (aC (eFz (lLc (wS (eV 3)) (.one 2) tYs (e2 fMod (eV 2) (eV 1)) [2])) aN)) [3])) aN)))
def m_modulo : List U → Option U := runF b_modulo 2
theorem ok_modulo (F : FunD K "modulo" "modulo" (defArgs (top 72)) (defBody (top 72)) (defScope (top 72)) [] [] fa fd) (g : Gs K mg cl)  : FnOk P w K mg base CX0 1 fa fd ["matrix", "p"] (spF cl 2 m_modulo) :=
  ok_of F sc_modulo (by decide) fun cdv A outer s H E hr => (jss_one (js_ret (xtup g.tuple (j_fz (jl_lc (own := [("row", 3)]) rfl sc_modulo.nd (ji_seq (xv 0)) (by kernel_rfl) (fun _ _ _ _ _ => (g1 3 sc_modulo.nd)) (fun _ _ _ _ _ => jts_nil) (fun _ _ _ _ _ => (xtup g.tuple (j_fz (jl_lc (own := [("item", 2)]) rfl sc_modulo.nd (ji_seq (xv 3)) (by kernel_rfl) (fun _ _ _ _ _ => (g1 2 sc_modulo.nd)) (fun _ _ _ _ _ => jts_nil) (fun _ _ _ _ _ => (xmod (xv 2) (xv 1))))))))))))
def N_parts : List Str := ["space", "matrix", "p", "width", "images", "v", "found", "t", "rows", "j", "i", "basis", "c"]
theorem sc_parts : FnScope N_parts ["space", "matrix", "p"] (defScope (top 73)) := ⟨rfl, rfl, rfl, by decide +kernel, rfl, by decide +kernel, by decide +kernel⟩
def b_parts : MS := (sSeq (sSet 3 (eCa fLen (aC (eV 1) aN))) (sSeq (sSet 4 (eFz (lLc (wS (eV 0)) (.one 5) tYs (eCall m_times (aC (eV 1) (aC (eV 5) (aC (eV 2) aN)))) [5]))) (sSeq (sOwn 6 (lDis aN)) (sSeq (sFor (wR1 (aC (eV 2) aN)) (.one 7) (sSeq (sOwn 8 (lDis aN)) (sSeq (sFor (wR1 (aC (eV 3) aN)) (.one 9) (sApp 8 (eCa fTuple (aC (eFz (lLc (wR1 (aC (eCa fLen (aC (eV 0) aN)) aN)) (.one 10) tYs (e2 fMod (e2 fSub (e2 fIx (e2 fIx (eV 4) (eV 10)) (eV 9)) (e2 fMul (eV 7) (e2 fIx (e2 fIx (eV 0) (eV 10)) (eV 9)))) (eV 2)) [10])) aN)))) (sSeq (sSet 11 (eCall m_kernel_modular (aC (eCa fTuple (aC (eV 8) aN)) (aC (eCa fLen (aC (eV 0) aN)) (aC (eV 2) aN))))) (sIf (tB1 (e2 fGt (eCa fLen (aC (eV 11) aN)) (eC (.int (.ofNat 0))))) (sApp 6 (eCa fTuple (aC (eFz (lLc (wS (eV 11)) (.one 12) tYs (eCall m_before (aC (eV 12) (aC (eV 0) (aC (eV 3) (aC (eV 2) aN))))) [12])) aN))) sPass))))) (sFrz 6 (sRet (eV 6)))))))
def m_parts : List U → Option U := runF b_parts 10
theorem ok_parts (F : FunD K "parts" "parts" (defArgs (top 73)) (defBody (top 73)) (defScope (top 73)) [] [] fa fd) (g : Gs K mg cl) (c_times : Cal P w K mg base cl 1 "times" 3 [] m_times) (c_kernel_modular : Cal P w K mg base cl 3 "kernel_modular" 3 [] m_kernel_modular) (c_before : Cal P w K mg base cl 1 "before" 4 [] m_before) : FnOk P w K mg base CX0 4 fa fd ["space", "matrix", "p"] (spF cl 3 m_parts) :=
  ok_of F sc_parts (by decide) fun cdv A outer s H E hr => (jss_cons (yset 3 sc_parts.nd (xlen g.len (xv 1))) (jss_cons (yset 4 sc_parts.nd (j_fz (jl_lc (own := [("v", 5)]) rfl sc_parts.nd (ji_seq (xv 0)) (by kernel_rfl) (fun _ _ _ _ _ => (g1 5 sc_parts.nd)) (fun _ _ _ _ _ => jts_nil) (fun _ _ _ _ _ => (j_call c_times hr (by decide) rfl (ja_cons (xv 1) (ja_cons (xv 5) (ja_cons (xv 2) ja_nil))) (len_cons (len_cons (len_cons len_nil)))))))) (jss_cons (yown 6 sc_parts.nd (jl_lst ja_nil)) (jss_cons (js_for PassesOwn.never rfl (ji_range1 rfl g.range (ja_cons (xv 2) ja_nil)) (g1 7 sc_parts.nd) (jss_cons (yown 8 sc_parts.nd (jl_lst ja_nil)) (jss_cons (js_for PassesOwn.never rfl (ji_range1 rfl g.range (ja_cons (xv 3) ja_nil)) (g1 9 sc_parts.nd) (jss_one (yapp 8 (xtup g.tuple (j_fz (jl_lc (own := [("i", 10)]) rfl sc_parts.nd (ji_range1 rfl g.range (ja_cons (xlen g.len (xv 0)) ja_nil)) (by kernel_rfl) (fun _ _ _ _ _ => (g1 10 sc_parts.nd)) (fun _ _ _ _ _ => jts_nil) (fun _ _ _ _ _ => (xmod (xsub (j_ix (j_ix (xv 4) (xv 10)) (xv 9)) (xmul (xv 7) (j_ix (j_ix (xv 0) (xv 10)) (xv 9)))) (xv 2)))))) (pv 8)))) (jss_cons (yset 11 sc_parts.nd (j_call c_kernel_modular hr (by decide) rfl (ja_cons (xtup g.tuple (xv 8)) (ja_cons (xlen g.len (xv 0)) (ja_cons (xv 2) ja_nil))) (len_cons (len_cons (len_cons len_nil))))) (jss_one (js_if (tgt (xlen g.len (xv 11)) j_int) (jss_one (yapp 6 (xtup g.tuple (j_fz (jl_lc (own := [("c", 12)]) rfl sc_parts.nd (ji_seq (xv 11)) (by kernel_rfl) (fun _ _ _ _ _ => (g1 12 sc_parts.nd)) (fun _ _ _ _ _ => jts_nil) (fun _ _ _ _ _ => (j_call c_before hr (by decide) rfl (ja_cons (xv 12) (ja_cons (xv 0) (ja_cons (xv 3) (ja_cons (xv 2) ja_nil)))) (len_cons (len_cons (len_cons (len_cons len_nil))))))))) (pv 6))) jss_nil)))))) (jss_frz 6 (jss_one (js_ret (xv 6))))))))
def N_normalised : List Str := ["space", "p", "factor", "item"]
theorem sc_normalised : FnScope N_normalised ["space", "p"] (defScope (top 74)) := ⟨rfl, rfl, rfl, by decide +kernel, rfl, by decide +kernel, by decide +kernel⟩
def b_normalised : MS := (sSeq (sIf (tOrr (tB1 (e2 fNe (eCa fLen (aC (eV 0) aN)) (eC (.int (.ofNat 1))))) (tB1 (e2 fEq (e2 fIx (e2 fIx (eV 0) (eC (.int (.ofNat 0)))) (eC (.int (.ofNat 0)))) (eC (.int (.ofNat 0)))))) sNo sPass) (sSeq (sSet 2 (eCall m_inverse_modulo (aC (e2 fIx (e2 fIx (eV 0) (eC (.int (.ofNat 0)))) (eC (.int (.ofNat 0)))) (aC (eV 1) aN)))) (sRet (eCa fTuple (aC (eFz (lLc (wS (e2 fIx (eV 0) (eC (.int (.ofNat 0))))) (.one 3) tYs (e2 fMod (e2 fMul (eV 3) (eV 2)) (eV 1)) [3])) aN)))))
def m_normalised : List U → Option U := runF b_normalised 2
theorem ok_normalised (F : FunD K "normalised" "normalised" (defArgs (top 74)) (defBody (top 74)) (defScope (top 74)) [] [] fa fd) (g : Gs K mg cl) (c_inverse_modulo : Cal P w K mg base cl 1 "inverse_modulo" 2 [] m_inverse_modulo) : FnOk P w K mg base CX0 2 fa fd ["space", "p"] (spF cl 2 m_normalised) :=
  ok_of F sc_normalised (by decide) fun cdv A outer s H E hr => (jss_cons (js_if (jt_pw (jw_or (tne (xlen g.len (xv 0)) j_int) (jw_or1 (teq (j_ix (j_ix (xv 0) j_int) j_int) j_int)))) (jss_one js_never) jss_nil) (jss_cons (yset 2 sc_normalised.nd (j_call c_inverse_modulo hr (by decide) rfl (ja_cons (j_ix (j_ix (xv 0) j_int) j_int) (ja_cons (xv 1) ja_nil)) (len_cons (len_cons len_nil)))) (jss_one (js_ret (xtup g.tuple (j_fz (jl_lc (own := [("item", 3)]) rfl sc_normalised.nd (ji_seq (j_ix (xv 0) j_int)) (by kernel_rfl) (fun _ _ _ _ _ => (g1 3 sc_normalised.nd)) (fun _ _ _ _ _ => jts_nil) (fun _ _ _ _ _ => (xmod (xmul (xv 3) (xv 2)) (xv 1))))))))))
def N_split : List Str := ["matrices", "p", "size", "spaces", "j", "i", "matrix", "reduced", "found", "space"]
theorem sc_split : FnScope N_split ["matrices", "p"] (defScope (top 75)) := ⟨rfl, rfl, rfl, by decide +kernel, rfl, by decide +kernel, by decide +kernel⟩
def b_split : MS := (sSeq (sSet 2 (eCa fLen (aC (eV 0) aN))) (sSeq (sSet 3 (eFz (lDis (aC (eCa fTuple (aC (eFz (lLc (wR1 (aC (eV 2) aN)) (.one 5) tYs (eCa fTuple (aC (eFz (lLc (wR1 (aC (eV 2) aN)) (.one 4) tYs (eCa fInt (aC (e2 fEq (eV 5) (eV 4)) aN)) [4])) aN)) [5])) aN)) aN)))) (sSeq (sFor (wS (eSlT (eV 0) (oS (eC (.int (.ofNat 1)))) oN)) (.one 6) (sSeq (sSet 7 (eCall m_modulo (aC (eV 6) (aC (eV 1) aN)))) (sSeq (sOwn 8 (lDis aN)) (sSeq (sFor (wS (eFz (lCa fList (aC (eV 3) aN)))) (.one 9) (sIf (tB1 (e2 fEq (eCa fLen (aC (eV 9) aN)) (eC (.int (.ofNat 1))))) (sApp 8 (eV 9)) (sOwn 8 (l2 fCat (eV 8) (eCall m_parts (aC (eV 9) (aC (eV 7) (aC (eV 1) aN)))))))) (sFrz 8 (sSet 3 (eV 8))))))) (sRet (eCa fTuple (aC (eFz (lCa (fSort (.a .i)) (aC (eFz (lLc (wS (eV 3)) (.one 9) tYs (eCall m_normalised (aC (eV 9) (aC (eV 1) aN))) [9])) aN))) aN))))))
def m_split : List U → Option U := runF b_split 8
theorem ok_split (F : FunD K "split" "split" (defArgs (top 75)) (defBody (top 75)) (defScope (top 75)) [] [] fa fd) (g : Gs K mg cl) (c_modulo : Cal P w K mg base cl 1 "modulo" 2 [] m_modulo) (c_parts : Cal P w K mg base cl 4 "parts" 3 [] m_parts) (c_normalised : Cal P w K mg base cl 2 "normalised" 2 [] m_normalised) : FnOk P w K mg base CX0 5 fa fd ["matrices", "p"] (spF cl 2 m_split) :=
  ok_of F sc_split (by decide) fun cdv A outer s H E hr => (jss_cons (yset 2 sc_split.nd (xlen g.len (xv 0))) (jss_cons (yset 3 sc_split.nd (j_fz (jl_lst (ja_cons (xtup g.tuple (j_fz (jl_lc (own := [("i", 5)]) rfl sc_split.nd (ji_range1 rfl g.range (ja_cons (xv 2) ja_nil)) (by kernel_rfl) (fun _ _ _ _ _ => (g1 5 sc_split.nd)) (fun _ _ _ _ _ => jts_nil) (fun _ _ _ _ _ => (xtup g.tuple (j_fz (jl_lc (own := [("j", 4)]) rfl sc_split.nd (ji_range1 rfl g.range (ja_cons (xv 2) ja_nil)) (by kernel_rfl) (fun _ _ _ _ _ => (g1 4 sc_split.nd)) (fun _ _ _ _ _ => jts_nil) (fun _ _ _ _ _ => (xint g.int (xeq (xv 5) (xv 4))))))))))) ja_nil)))) (jss_cons (js_for PassesOwn.never rfl (ji_seq (j_sliceT (xv 0) (jo_some j_int) jo_none)) (g1 6 sc_split.nd) (jss_cons (yset 7 sc_split.nd (j_call c_modulo hr (by decide) rfl (ja_cons (xv 6) (ja_cons (xv 1) ja_nil)) (len_cons (len_cons len_nil)))) (jss_cons (yown 8 sc_split.nd (jl_lst ja_nil)) (jss_cons (js_for PassesOwn.never rfl (ji_seq (j_fz (xlist g.list (xv 3)))) (g1 9 sc_split.nd) (jss_one (js_if (teq (xlen g.len (xv 9)) j_int) (jss_one (yapp 8 (xv 9) (pv 8))) (jss_one (yown 8 sc_split.nd (xcat (xv 8) (j_call c_parts hr (by decide) rfl (ja_cons (xv 9) (ja_cons (xv 7) (ja_cons (xv 1) ja_nil))) (len_cons (len_cons (len_cons len_nil)))))))))) (jss_frz 8 (jss_one (yset 3 sc_split.nd (xv 8)))))))) (jss_one (js_ret (xtup g.tuple (j_fz (xsort (.a .i) g.sorted rfl hr (j_fz (jl_lc (own := [("space", 9)]) rfl sc_split.nd (ji_seq (xv 3)) (by kernel_rfl) (fun _ _ _ _ _ => (g1 9 sc_split.nd)) (fun _ _ _ _ _ => jts_nil) (fun _ _ _ _ _ => (j_call c_normalised hr (by decide) rfl (ja_cons (xv 9) (ja_cons (xv 1) ja_nil)) (len_cons (len_cons len_nil))))))))))))))
def N_modular_rows : List Str := ["group", "p"]
theorem sc_modular_rows : FnScope N_modular_rows ["group"] (defScope (top 76)) := ⟨rfl, rfl, rfl, by decide +kernel, rfl, by decide +kernel, by decide +kernel⟩
def b_modular_rows : MS := (sSeq (sSet 1 (eCall m_prime_of (aC (eCa (fLenO 1 m_Group___len__) (aC (eV 0) aN)) (aC (eMeth 1 m_Group_exponent (eV 0) aN) aN)))) (sRet (eTup (aC (eV 1) (aC (eCall m_split (aC (eCall m_class_matrices (aC (eV 0) aN)) (aC (eV 1) aN))) aN)))))
def m_modular_rows : List U → Option U := runF b_modular_rows 1
theorem ok_modular_rows (F : FunD K "modular_rows" "modular_rows" (defArgs (top 76)) (defBody (top 76)) (defScope (top 76)) [] [] fa fd) (g : Gs K mg cl) (t_Group_exponent : Met P w K mg base cl 2 1 "exponent" 1 m_Group_exponent) (o_Group___len__ : Dnd P w K mg base cl 1 1 "__len__" 1 m_Group___len__) (c_prime_of : Cal P w K mg base cl 4 "prime_of" 2 [] m_prime_of) (c_class_matrices : Cal P w K mg base cl 5 "class_matrices" 1 [] m_class_matrices) (c_split : Cal P w K mg base cl 5 "split" 2 [] m_split) : FnOk P w K mg base CX0 6 fa fd ["group"] (spF cl 1 m_modular_rows) :=
  ok_of F sc_modular_rows (by decide) fun cdv A outer s H E hr => (jss_cons (yset 1 sc_modular_rows.nd (j_call c_prime_of hr (by decide) rfl (ja_cons (xlenO o_Group___len__ hr (by decide) g.len (xv 0)) (ja_cons (j_meth0 t_Group_exponent hr (by decide) (by decide) (xv 0)) ja_nil)) (len_cons (len_cons len_nil)))) (jss_one (js_ret (j_tup (ja_cons (xv 1) (ja_cons (j_call c_split hr (by decide) rfl (ja_cons (j_call c_class_matrices hr (by decide) rfl (ja_cons (xv 0) ja_nil) (len_cons len_nil)) (ja_cons (xv 1) ja_nil)) (len_cons (len_cons len_nil))) ja_nil))))))
def N_inverse_sum : List Str := ["group", "p", "sizes", "row", "total", "inverses", "i"]
theorem sc_inverse_sum : FnScope N_inverse_sum ["group", "p", "sizes", "row"] (defScope (top 77)) := ⟨rfl, rfl, rfl, by decide +kernel, rfl, by decide +kernel, by decide +kernel⟩
def b_inverse_sum : MS := (sSeq (sSet 4 (eC (.int (.ofNat 0)))) (sSeq (sSet 5 (eCall m_inverse_classes (aC (eV 0) aN))) (sSeq (sFor (wR1 (aC (eCa fLen (aC (eV 3) aN)) aN)) (.one 6) (sAug 4 (e2 fMul (e2 fMul (e2 fIx (eV 3) (eV 6)) (e2 fIx (eV 3) (e2 fIx (eV 5) (eV 6)))) (eCall m_inverse_modulo (aC (e2 fIx (eV 2) (eV 6)) (aC (eV 1) aN)))))) (sRet (e2 fMod (eV 4) (eV 1))))))
def m_inverse_sum : List U → Option U := runF b_inverse_sum 3
theorem ok_inverse_sum (F : FunD K "inverse_sum" "inverse_sum" (defArgs (top 77)) (defBody (top 77)) (defScope (top 77)) [] [] fa fd) (g : Gs K mg cl) (c_inverse_classes : Cal P w K mg base cl 5 "inverse_classes" 1 [] m_inverse_classes) (c_inverse_modulo : Cal P w K mg base cl 1 "inverse_modulo" 2 [] m_inverse_modulo) : FnOk P w K mg base CX0 6 fa fd ["group", "p", "sizes", "row"] (spF cl 4 m_inverse_sum) :=
  ok_of F sc_inverse_sum (by decide) fun cdv A outer s H E hr => (jss_cons (yset 4 sc_inverse_sum.nd j_int) (jss_cons (yset 5 sc_inverse_sum.nd (j_call c_inverse_classes hr (by decide) rfl (ja_cons (xv 0) ja_nil) (len_cons len_nil))) (jss_cons (js_for PassesOwn.never rfl (ji_range1 rfl g.range (ja_cons (xlen g.len (xv 3)) ja_nil)) (g1 6 sc_inverse_sum.nd) (jss_one (yaug 4 sc_inverse_sum.nd (xmul (xmul (j_ix (xv 3) (xv 6)) (j_ix (xv 3) (j_ix (xv 5) (xv 6)))) (j_call c_inverse_modulo hr (by decide) rfl (ja_cons (j_ix (xv 2) (xv 6)) (ja_cons (xv 1) ja_nil)) (len_cons (len_cons len_nil))))))) (jss_one (js_ret (xmod (xv 4) (xv 1)))))))
def N_degree_of : List Str := ["group", "p", "row", "total", "d"]
theorem sc_degree_of : FnScope N_degree_of ["group", "p", "row"] (defScope (top 79)) := ⟨rfl, rfl, rfl, by decide +kernel, rfl, by decide +kernel, by decide +kernel⟩
def b_degree_of : MS := (sSeq (sSet 3 (eCall m_inverse_sum (aC (eV 0) (aC (eV 1) (aC (eCall m_class_sizes (aC (eV 0) aN)) (aC (eV 2) aN)))))) (sSeq (sFor (wR2 (aC (eC (.int (.ofNat 1))) (aC (e2 fAdd (e2 fDiv (e2 fSub (eV 1) (eC (.int (.ofNat 1)))) (eC (.int (.ofNat 2)))) (eC (.int (.ofNat 1)))) aN))) (.one 4) (sIf (tB1 (e2 fEq (e2 fMod (e2 fSub (e2 fMul (e2 fMul (eV 4) (eV 4)) (eV 3)) (eCa (fLenO 1 m_Group___len__) (aC (eV 0) aN))) (eV 1)) (eC (.int (.ofNat 0))))) (sRet (eV 4)) sPass)) sNo))
def m_degree_of : List U → Option U := runF b_degree_of 2
theorem ok_degree_of (F : FunD K "degree_of" "degree_of" (defArgs (top 79)) (defBody (top 79)) (defScope (top 79)) [] [] fa fd) (g : Gs K mg cl) (c_class_sizes : Cal P w K mg base cl 4 "class_sizes" 1 [] m_class_sizes) (c_inverse_sum : Cal P w K mg base cl 6 "inverse_sum" 4 [] m_inverse_sum) (o_Group___len__ : Dnd P w K mg base cl 1 1 "__len__" 1 m_Group___len__) : FnOk P w K mg base CX0 7 fa fd ["group", "p", "row"] (spF cl 3 m_degree_of) :=
  ok_of F sc_degree_of (by decide) fun cdv A outer s H E hr => (jss_cons (yset 3 sc_degree_of.nd (j_call c_inverse_sum hr (by decide) rfl (ja_cons (xv 0) (ja_cons (xv 1) (ja_cons (j_call c_class_sizes hr (by decide) rfl (ja_cons (xv 0) ja_nil) (len_cons len_nil)) (ja_cons (xv 2) ja_nil)))) (len_cons (len_cons (len_cons (len_cons len_nil)))))) (jss_cons (js_for PassesOwn.never rfl (ji_range2 rfl g.range (ja_cons j_int (ja_cons (xadd (xdiv (xsub (xv 1) j_int) j_int) j_int) ja_nil))) (g1 4 sc_degree_of.nd) (jss_one (js_if (teq (xmod (xsub (xmul (xmul (xv 4) (xv 4)) (xv 3)) (xlenO o_Group___len__ hr (by decide) g.len (xv 0))) (xv 1)) j_int) (jss_one (js_ret (xv 4))) jss_nil))) (jss_one js_never)))
def N_modular_character : List Str := ["group", "p", "row", "d", "sizes", "i"]
theorem sc_modular_character : FnScope N_modular_character ["group", "p", "row"] (defScope (top 80)) := ⟨rfl, rfl, rfl, by decide +kernel, rfl, by decide +kernel, by decide +kernel⟩
def b_modular_character : MS := (sSeq (sSet 3 (eCall m_degree_of (aC (eV 0) (aC (eV 1) (aC (eV 2) aN))))) (sSeq (sSet 4 (eCall m_class_sizes (aC (eV 0) aN))) (sRet (eCa fTuple (aC (eFz (lLc (wR1 (aC (eCa fLen (aC (eV 2) aN)) aN)) (.one 5) tYs (e2 fMod (e2 fMul (e2 fMul (eV 3) (e2 fIx (eV 2) (eV 5))) (eCall m_inverse_modulo (aC (e2 fIx (eV 4) (eV 5)) (aC (eV 1) aN)))) (eV 1)) [5])) aN)))))
def m_modular_character : List U → Option U := runF b_modular_character 3
theorem ok_modular_character (F : FunD K "modular_character" "modular_character" (defArgs (top 80)) (defBody (top 80)) (defScope (top 80)) [] [] fa fd) (g : Gs K mg cl) (c_degree_of : Cal P w K mg base cl 7 "degree_of" 3 [] m_degree_of) (c_class_sizes : Cal P w K mg base cl 4 "class_sizes" 1 [] m_class_sizes) (c_inverse_modulo : Cal P w K mg base cl 1 "inverse_modulo" 2 [] m_inverse_modulo) : FnOk P w K mg base CX0 8 fa fd ["group", "p", "row"] (spF cl 3 m_modular_character) :=
  ok_of F sc_modular_character (by decide) fun cdv A outer s H E hr => (jss_cons (yset 3 sc_modular_character.nd (j_call c_degree_of hr (by decide) rfl (ja_cons (xv 0) (ja_cons (xv 1) (ja_cons (xv 2) ja_nil))) (len_cons (len_cons (len_cons len_nil))))) (jss_cons (yset 4 sc_modular_character.nd (j_call c_class_sizes hr (by decide) rfl (ja_cons (xv 0) ja_nil) (len_cons len_nil))) (jss_one (js_ret (xtup g.tuple (j_fz (jl_lc (own := [("i", 5)]) rfl sc_modular_character.nd (ji_range1 rfl g.range (ja_cons (xlen g.len (xv 2)) ja_nil)) (by kernel_rfl) (fun _ _ _ _ _ => (g1 5 sc_modular_character.nd)) (fun _ _ _ _ _ => jts_nil) (fun _ _ _ _ _ => (xmod (xmul (xmul (xv 3) (j_ix (xv 2) (xv 5))) (j_call c_inverse_modulo hr (by decide) rfl (ja_cons (j_ix (xv 4) (xv 5)) (ja_cons (xv 1) ja_nil)) (len_cons (len_cons len_nil)))) (xv 1))))))))))
def N_multiplicities : List Str := ["group", "p", "character", "i", "order", "exponent", "y", "values", "j", "found", "k", "total"]
theorem sc_multiplicities : FnScope N_multiplicities ["group", "p", "character", "i"] (defScope (top 81)) := ⟨rfl, rfl, rfl, by decide +kernel, rfl, by decide +kernel, by decide +kernel⟩
def b_multiplicities : MS := (sSeq (sSet 4 (eMeth 1 m_Group_order_of (eV 0) (aC (e2 fIx (e2 fIx (eCall m_classes (aC (eV 0) aN)) (eV 3)) (eC (.int (.ofNat 0)))) aN))) (sSeq (sSet 5 (eMeth 1 m_Group_exponent (eV 0) aN)) (sSeq (sSet 6 (eCall m_power_modulo (aC (eCall m_root_of (aC (eV 1) (aC (eV 5) aN))) (aC (e2 fDiv (eV 5) (eV 4)) (aC (eV 1) aN))))) (sSeq (sSet 7 (eFz (lLc (wR1 (aC (eV 4) aN)) (.one 8) tYs (e2 fIx (eV 2) (eCall m_class_of_power (aC (eV 0) (aC (eV 3) (aC (eV 8) aN))))) [8]))) (sSeq (sOwn 9 (lDis aN)) (sSeq (sFor (wR1 (aC (eV 4) aN)) (.one 10) (sSeq (sSet 11 (eC (.int (.ofNat 0)))) (sSeq (sFor (wR1 (aC (eV 4) aN)) (.one 8) (sAug 11 (e2 fMul (e2 fIx (eV 7) (eV 8)) (eCall m_power_modulo (aC (eV 6) (aC (e2 fMod (e2 fMul (e1 fNeg (eV 8)) (eV 10)) (eV 4)) (aC (eV 1) aN))))))) (sApp 9 (e2 fMod (e2 fMul (eV 11) (eCall m_inverse_modulo (aC (eV 4) (aC (eV 1) aN)))) (eV 1)))))) (sRet (eCa fTuple (aC (eV 9) aN)))))))))
def m_multiplicities : List U → Option U := runF b_multiplicities 8
theorem ok_multiplicities (F : FunD K "multiplicities" "multiplicities" (defArgs (top 81)) (defBody (top 81)) (defScope (top 81)) [] [] fa fd) (g : Gs K mg cl) (t_Group_order_of : Met P w K mg base cl 1 1 "order_of" 2 m_Group_order_of) (c_classes : Cal P w K mg base cl 3 "classes" 1 [] m_classes) (t_Group_exponent : Met P w K mg base cl 2 1 "exponent" 1 m_Group_exponent) (c_root_of : Cal P w K mg base cl 3 "root_of" 2 [] m_root_of) (c_power_modulo : Cal P w K mg base cl 1 "power_modulo" 3 [] m_power_modulo) (c_class_of_power : Cal P w K mg base cl 5 "class_of_power" 3 [] m_class_of_power) (c_inverse_modulo : Cal P w K mg base cl 1 "inverse_modulo" 2 [] m_inverse_modulo) : FnOk P w K mg base CX0 6 fa fd ["group", "p", "character", "i"] (spF cl 4 m_multiplicities) :=
  ok_of F sc_multiplicities (by decide) fun cdv A outer s H E hr => (jss_cons (yset 4 sc_multiplicities.nd (j_meth t_Group_order_of hr (by decide) (by decide) (xv 0) (ja_cons (j_ix (j_ix (j_call c_classes hr (by decide) rfl (ja_cons (xv 0) ja_nil) (len_cons len_nil)) (xv 3)) j_int) ja_nil) (len_cons len_nil))) (jss_cons (yset 5 sc_multiplicities.nd (j_meth0 t_Group_exponent hr (by decide) (by decide) (xv 0))) (jss_cons (yset 6 sc_multiplicities.nd (j_call c_power_modulo hr (by decide) rfl (ja_cons (j_call c_root_of hr (by decide) rfl (ja_cons (xv 1) (ja_cons (xv 5) ja_nil)) (len_cons (len_cons len_nil))) (ja_cons (xdiv (xv 5) (xv 4)) (ja_cons (xv 1) ja_nil))) (len_cons (len_cons (len_cons len_nil))))) (jss_cons (ylcF 7 (own := [("j", 8)]) rfl sc_multiplicities.nd (ji_range1 rfl g.range (ja_cons (xv 4) ja_nil)) (by kernel_rfl) (fun _ _ _ _ _ => (g1 8 sc_multiplicities.nd)) (fun _ _ _ _ _ => jts_nil) (fun _ _ _ _ _ => (j_ix (xv 2) (j_call c_class_of_power hr (by decide) rfl (ja_cons (xv 0) (ja_cons (xv 3) (ja_cons (xv 8) ja_nil))) (len_cons (len_cons (len_cons len_nil))))))) (jss_cons (yown 9 sc_multiplicities.nd (jl_lst ja_nil)) (jss_cons (js_for PassesOwn.never rfl (ji_range1 rfl g.range (ja_cons (xv 4) ja_nil)) (g1 10 sc_multiplicities.nd) (jss_cons (yset 11 sc_multiplicities.nd j_int) (jss_cons (js_for PassesOwn.never rfl (ji_range1 rfl g.range (ja_cons (xv 4) ja_nil)) (g1 8 sc_multiplicities.nd) (jss_one (yaug 11 sc_multiplicities.nd (xmul (j_ix (xv 7) (xv 8)) (j_call c_power_modulo hr (by decide) rfl (ja_cons (xv 6) (ja_cons (xmod (xmul (xneg (xv 8)) (xv 10)) (xv 4)) (ja_cons (xv 1) ja_nil))) (len_cons (len_cons (len_cons len_nil)))))))) (jss_one (yapp 9 (xmod (xmul (xv 11) (j_call c_inverse_modulo hr (by decide) rfl (ja_cons (xv 4) (ja_cons (xv 1) ja_nil)) (len_cons (len_cons len_nil)))) (xv 1)) (pv 9)))))) (jss_one (js_ret (xtup g.tuple (xv 9))))))))))
def N_lifted : List Str := ["group", "p", "character", "found", "i", "many", "pieces", "k"]
theorem sc_lifted : FnScope N_lifted ["group", "p", "character"] (defScope (top 82)) := ⟨rfl, rfl, rfl, by decide +kernel, rfl, by decide +kernel, by decide +kernel⟩
def b_lifted : MS := (sSeq (sOwn 3 (lDis aN)) (sSeq (sFor (wR1 (aC (eCa fLen (aC (eV 2) aN)) aN)) (.one 4) (sSeq (sSet 5 (eCall m_multiplicities (aC (eV 0) (aC (eV 1) (aC (eV 2) (aC (eV 4) aN)))))) (sSeq (sSet 6 (eFz (lLc (wR1 (aC (eCa fLen (aC (eV 5) aN)) aN)) (.one 7) (tB1 (e2 fNe (e2 fIx (eV 5) (eV 7)) (eC (.int (.ofNat 0))))) (eMeth 2 m_Cyclo_scaled (eCall m_root (aC (eCa fLen (aC (eV 5) aN)) (aC (eV 7) aN))) (aC (e2 fIx (eV 5) (eV 7)) aN)) [7]))) (sApp 3 (eCall m_added (aC (eV 6) aN)))))) (sRet (eCa fTuple (aC (eV 3) aN)))))
def m_lifted : List U → Option U := runF b_lifted 5
theorem ok_lifted (F : FunD K "lifted" "lifted" (defArgs (top 82)) (defBody (top 82)) (defScope (top 82)) [] [] fa fd) (g : Gs K mg cl) (c_multiplicities : Cal P w K mg base cl 6 "multiplicities" 4 [] m_multiplicities) (c_root : Cal P w K mg base cl 8 "root" 2 [] m_root) (t_Cyclo_scaled : Met P w K mg base cl 8 2 "scaled" 2 m_Cyclo_scaled) (c_added : Cal P w K mg base cl 9 "added" 1 [] m_added) : FnOk P w K mg base CX0 10 fa fd ["group", "p", "character"] (spF cl 3 m_lifted) :=
  ok_of F sc_lifted (by decide) fun cdv A outer s H E hr => (jss_cons (yown 3 sc_lifted.nd (jl_lst ja_nil)) (jss_cons (js_for PassesOwn.never rfl (ji_range1 rfl g.range (ja_cons (xlen g.len (xv 2)) ja_nil)) (g1 4 sc_lifted.nd) (jss_cons (yset 5 sc_lifted.nd (j_call c_multiplicities hr (by decide) rfl (ja_cons (xv 0) (ja_cons (xv 1) (ja_cons (xv 2) (ja_cons (xv 4) ja_nil)))) (len_cons (len_cons (len_cons (len_cons len_nil)))))) (jss_cons (ylcF 6 (own := [("k", 7)]) rfl sc_lifted.nd (ji_range1 rfl g.range (ja_cons (xlen g.len (xv 5)) ja_nil)) (by kernel_rfl) (fun _ _ _ _ _ => (g1 7 sc_lifted.nd)) (fun _ _ _ _ _ => (jts_one (tne (j_ix (xv 5) (xv 7)) j_int))) (fun _ _ _ _ _ => (j_meth t_Cyclo_scaled hr (by decide) (by decide) (j_call c_root hr (by decide) rfl (ja_cons (xlen g.len (xv 5)) (ja_cons (xv 7) ja_nil)) (len_cons (len_cons len_nil))) (ja_cons (j_ix (xv 5) (xv 7)) ja_nil) (len_cons len_nil)))) (jss_one (yapp 3 (j_call c_added hr (by decide) rfl (ja_cons (xv 6) ja_nil) (len_cons len_nil)) (pv 3)))))) (jss_one (js_ret (xtup g.tuple (xv 3))))))
def N_characters : List Str := ["group", "p", "rows", "found", "row", "values"]
theorem sc_characters : FnScope N_characters ["group"] (defScope (top 83)) := ⟨rfl, rfl, rfl, by decide +kernel, rfl, by decide +kernel, by decide +kernel⟩
def b_characters : MS := (sSeq (sUnp 1 2 (eCall m_modular_rows (aC (eV 0) aN))) (sSeq (sOwn 3 (lDis aN)) (sSeq (sFor (wS (eV 2)) (.one 4) (sSeq (sSet 5 (eCall m_lifted (aC (eV 0) (aC (eV 1) (aC (eCall m_modular_character (aC (eV 0) (aC (eV 1) (aC (eV 4) aN)))) aN))))) (sApp 3 (eTup (aC (eCall m_degree_of (aC (eV 0) (aC (eV 1) (aC (eV 4) aN)))) (aC (eV 5) aN)))))) (sRet (eCa fTuple (aC (eV 3) aN))))))
def m_characters : List U → Option U := runF b_characters 5
theorem ok_characters (F : FunD K "characters" "characters" (defArgs (top 83)) (defBody (top 83)) (defScope (top 83)) [] [] fa fd) (g : Gs K mg cl) (c_modular_rows : Cal P w K mg base cl 6 "modular_rows" 1 [] m_modular_rows) (c_modular_character : Cal P w K mg base cl 8 "modular_character" 3 [] m_modular_character) (c_lifted : Cal P w K mg base cl 10 "lifted" 3 [] m_lifted) (c_degree_of : Cal P w K mg base cl 7 "degree_of" 3 [] m_degree_of) : FnOk P w K mg base CX0 11 fa fd ["group"] (spF cl 1 m_characters) :=
  ok_of F sc_characters (by decide) fun cdv A outer s H E hr => (jss_cons (yunp 1 2 (j_call c_modular_rows hr (by decide) rfl (ja_cons (xv 0) ja_nil) (len_cons len_nil)) (g2 1 2 sc_characters.nd rfl)) (jss_cons (yown 3 sc_characters.nd (jl_lst ja_nil)) (jss_cons (js_for PassesOwn.never rfl (ji_seq (xv 2)) (g1 4 sc_characters.nd) (jss_cons (yset 5 sc_characters.nd (j_call c_lifted hr (by decide) rfl (ja_cons (xv 0) (ja_cons (xv 1) (ja_cons (j_call c_modular_character hr (by decide) rfl (ja_cons (xv 0) (ja_cons (xv 1) (ja_cons (xv 4) ja_nil))) (len_cons (len_cons (len_cons len_nil)))) ja_nil))) (len_cons (len_cons (len_cons len_nil))))) (jss_one (yapp 3 (j_tup (ja_cons (j_call c_degree_of hr (by decide) rfl (ja_cons (xv 0) (ja_cons (xv 1) (ja_cons (xv 4) ja_nil))) (len_cons (len_cons (len_cons len_nil)))) (ja_cons (xv 5) ja_nil))) (pv 3))))) (jss_one (js_ret (xtup g.tuple (xv 3)))))))
def N_CharacterTable___init__ : List Str := ["self", "group", "rows"]
theorem sc_CharacterTable___init__ : FnScope N_CharacterTable___init__ ["self", "group", "rows"] (defScope (cst 85 0)) := ⟨rfl, rfl, rfl, by decide +kernel, rfl, by decide +kernel, by decide +kernel⟩
def b_CharacterTable___init__ : MS := (sSeq (sFl 3 0 (eV 1)) (sFl 3 1 (eCa fTuple (aC (eV 2) aN))))
def m_CharacterTable___init__ : List U → Option (List U) := runI 3 b_CharacterTable___init__ 0
theorem ok_CharacterTable___init__ (F : FunD K "__init__" "CharacterTable.__init__" (defArgs (cst 85 0)) (defBody (cst 85 0)) (defScope (cst 85 0)) [] [] fa fd) (g : Gs K mg cl)  : FnOk P w K mg base CX0 1 fa fd ["self", "group", "rows"] (spI cl 3 3 m_CharacterTable___init__) :=
  ok_init F sc_CharacterTable___init__ (by decide) fun cl' hk cdv A outer s H E hr => (jss_cons (yfld 3 0 (g.cong hk.symm) rfl (by decide) rfl (xv 1) (pv 0)) (jss_one (yfld 3 1 (g.cong hk.symm) rfl (by decide) rfl (xtup (g.cong hk.symm).tuple (xv 2)) (pv 0))))
def N_CharacterTable___len__ : List Str := ["self"]
theorem sc_CharacterTable___len__ : FnScope N_CharacterTable___len__ ["self"] (defScope (cst 85 1)) := ⟨rfl, rfl, rfl, by decide +kernel, rfl, by decide +kernel, by decide +kernel⟩
def b_CharacterTable___len__ : MS := (sRet (eCa fLen (aC (e1 (fFld 3 1) (eV 0)) aN)))
def m_CharacterTable___len__ : List U → Option U := runF b_CharacterTable___len__ 0
theorem ok_CharacterTable___len__ (F : FunD K "__len__" "CharacterTable.__len__" (defArgs (cst 85 1)) (defBody (cst 85 1)) (defScope (cst 85 1)) [] [] fa fd) (g : Gs K mg cl)  : FnOk P w K mg base CX0 1 fa fd ["self"] (spF cl 1 m_CharacterTable___len__) :=
  ok_of F sc_CharacterTable___len__ (by decide) fun cdv A outer s H E hr => (jss_one (js_ret (xlen g.len (xfld 3 1 g (by decide) rfl (xv 0)))))
def N_row_key : List Str := ["row", "value"]
theorem sc_row_key : FnScope N_row_key ["row"] (defScope (top 86)) := ⟨rfl, rfl, rfl, by decide +kernel, rfl, by decide +kernel, by decide +kernel⟩
def b_row_key : MS := (sRet (eCa fTuple (aC (eFz (lLc (wS (eV 0)) (.one 1) tYs (eMeth 2 m_Cyclo_key (eV 1) aN) [1])) aN)))
def m_row_key : List U → Option U := runF b_row_key 1
theorem ok_row_key (F : FunD K "row_key" "row_key" (defArgs (top 86)) (defBody (top 86)) (defScope (top 86)) [] [] fa fd) (g : Gs K mg cl) (t_Cyclo_key : Met P w K mg base cl 1 2 "key" 1 m_Cyclo_key) : FnOk P w K mg base CX0 2 fa fd ["row"] (spF cl 1 m_row_key) :=
  ok_of F sc_row_key (by decide) fun cdv A outer s H E hr => (jss_one (js_ret (xtup g.tuple (j_fz (jl_lc (own := [("value", 1)]) rfl sc_row_key.nd (ji_seq (xv 0)) (by kernel_rfl) (fun _ _ _ _ _ => (g1 1 sc_row_key.nd)) (fun _ _ _ _ _ => jts_nil) (fun _ _ _ _ _ => (j_meth0 t_Cyclo_key hr (by decide) (by decide) (xv 1))))))))
def N_kernel_normal : List Str := ["table", "k", "row", "i"]
theorem sc_kernel_normal : FnScope N_kernel_normal ["table", "k"] (defScope (top 33)) := ⟨rfl, rfl, rfl, by decide +kernel, rfl, by decide +kernel, by decide +kernel⟩
def b_kernel_normal : MS := (sSeq (sSet 2 (e2 fIx (e1 (fFld 3 1) (eV 0)) (eV 1))) (sRet (eCa fTuple (aC (eFz (lLc (wR1 (aC (eCa fLen (aC (eV 2) aN)) aN)) (.one 3) (tB1 (e2 (fDun 2 m_Cyclo___eq__) (e2 fIx (eV 2) (eV 3)) (e2 fIx (eV 2) (eC (.int (.ofNat 0)))))) (eV 3) [3])) aN))))
def m_kernel_normal : List U → Option U := runF b_kernel_normal 2
theorem ok_kernel_normal (F : FunD K "kernel" "kernel" (defArgs (top 33)) (defBody (top 33)) (defScope (top 33)) [] [] fa fd) (g : Gs K mg cl) (o_Cyclo___eq__ : Dnd P w K mg base cl 2 2 "__eq__" 2 m_Cyclo___eq__) : FnOk P w K mg base CX0 3 fa fd ["table", "k"] (spF cl 2 m_kernel_normal) :=
  ok_of F sc_kernel_normal (by decide) fun cdv A outer s H E hr => (jss_cons (yset 2 sc_kernel_normal.nd (j_ix (xfld 3 1 g (by decide) rfl (xv 0)) (xv 1))) (jss_one (js_ret (xtup g.tuple (j_fz (jl_lc (own := [("i", 3)]) rfl sc_kernel_normal.nd (ji_range1 rfl g.range (ja_cons (xlen g.len (xv 2)) ja_nil)) (by kernel_rfl) (fun _ _ _ _ _ => (g1 3 sc_kernel_normal.nd)) (fun _ _ _ _ _ => (jts_one (jt_eqO o_Cyclo___eq__ hr (by decide) (j_ix (xv 2) (xv 3)) (j_ix (xv 2) j_int) (nomark _)))) (fun _ _ _ _ _ => (xv 3))))))))
def N_shared : List Str := ["one", "two", "i"]
theorem sc_shared : FnScope N_shared ["one", "two"] (defScope (top 35)) := ⟨rfl, rfl, rfl, by decide +kernel, rfl, by decide +kernel, by decide +kernel⟩
def b_shared : MS := (sRet (eCa fTuple (aC (eFz (lLc (wS (eV 0)) (.one 2) (tB1 (e2 fIn (eV 2) (eV 1))) (eV 2) [2])) aN)))
def m_shared : List U → Option U := runF b_shared 1
theorem ok_shared (F : FunD K "shared" "shared" (defArgs (top 35)) (defBody (top 35)) (defScope (top 35)) [] [] fa fd) (g : Gs K mg cl)  : FnOk P w K mg base CX0 1 fa fd ["one", "two"] (spF cl 2 m_shared) :=
  ok_of F sc_shared (by decide) fun cdv A outer s H E hr => (jss_one (js_ret (xtup g.tuple (j_fz (jl_lc (own := [("i", 2)]) rfl sc_shared.nd (ji_seq (xv 0)) (by kernel_rfl) (fun _ _ _ _ _ => (g1 2 sc_shared.nd)) (fun _ _ _ _ _ => (jts_one (tin (xv 2) (xv 1)))) (fun _ _ _ _ _ => (xv 2)))))))
def N__law_closed : List Str := ["_law_group_here", "_law_parts", "_law_indexes", "_law_inside", "_law_i", "_law_x", "_law_y"]
theorem sc__law_closed : FnScope N__law_closed ["_law_group_here", "_law_parts", "_law_indexes"] (defScope (top 93)) := ⟨rfl, rfl, rfl, by decide +kernel, rfl, by decide +kernel, by decide +kernel⟩
def b__law_closed : MS := (sSeq (sOwnD 3 (eC (.dk [] []))) (sSeq (sFor (wS (eV 2)) (.one 4) (sFor (wS (e2 fIx (eV 1) (eV 4))) (.one 5) (sDPutM @putI 3 (eV 5) (eC (.bl true))))) (sSeq (sFor (wS (eV 2)) (.one 4) (sFor (wS (e2 fIx (eV 1) (eV 4))) (.one 5) (sDW 3 6 (e2 fIx (e2 fIx (e1 (fFld 1 0) (eV 0)) (eV 5)) (eV 6))))) (sRet (eC (.bl true))))))
def m__law_closed : List U → Option U := runF b__law_closed 4
theorem ok__law_closed (F : FunD K "_law_closed" "_law_closed" (defArgs (top 93)) (defBody (top 93)) (defScope (top 93)) [] [] fa fd) (g : Gs K mg cl)  : FnOk P w K mg base CX0 1 fa fd ["_law_group_here", "_law_parts", "_law_indexes"] (spF cl 3 m__law_closed) :=
  ok_of F sc__law_closed (by decide) fun cdv A outer s H E hr => (jss_cons (yownD 3 sc__law_closed.nd j_dnewK) (jss_cons (js_for PassesOwn.never rfl (ji_seq (xv 2)) (g1 4 sc__law_closed.nd) (jss_one (js_for PassesOwn.never rfl (ji_seq (j_ix (xv 1) (xv 4))) (g1 5 sc__law_closed.nd) (jss_one (ydput 3 put_i hr (pv 3) (xv 5) j_bl))))) (jss_cons (js_for PassesOwn.never rfl (ji_seq (xv 2)) (g1 4 sc__law_closed.nd) (jss_one (js_for PassesOwn.never rfl (ji_seq (j_ix (xv 1) (xv 4))) (g1 5 sc__law_closed.nd) (jss_one (js_dwalk 3 (by decide) PassesOwn.never hr rfl (pv 3) (pv 3) (pg_name sc__law_closed.nd rfl (.inl rfl)) (j_ix (j_ix (xfld 1 0 g (by decide) rfl (xv 0)) (xv 5)) (xv 6)) (by with_unfolding_all rfl)))))) (jss_one (js_ret j_bl)))))
def N__law_sets : List Str := ["_law_size", "_law_found", "_law_i", "_law_part"]
theorem sc__law_sets : FnScope N__law_sets ["_law_size"] (defScope (top 94)) := ⟨rfl, rfl, rfl, by decide +kernel, rfl, by decide +kernel, by decide +kernel⟩
def b__law_sets : MS := (sSeq (sSet 1 (eFz (lDis (aC (eTup (aC (eC (.int (.ofNat 0))) aN)) aN)))) (sSeq (sFor (wR2 (aC (eC (.int (.ofNat 1))) (aC (eV 0) aN))) (.one 2) (sSet 1 (eFz (l2 fCat (eV 1) (eFz (lLc (wS (eV 1)) (.one 3) tYs (e2 fCatT (eV 3) (eTup (aC (eV 2) aN))) [3])))))) (sRet (eV 1))))
def m__law_sets : List U → Option U := runF b__law_sets 3
theorem ok__law_sets (F : FunD K "_law_sets" "_law_sets" (defArgs (top 94)) (defBody (top 94)) (defScope (top 94)) [] [] fa fd) (g : Gs K mg cl)  : FnOk P w K mg base CX0 1 fa fd ["_law_size"] (spF cl 1 m__law_sets) :=
  ok_of F sc__law_sets (by decide) fun cdv A outer s H E hr => (jss_cons (yset 1 sc__law_sets.nd (j_fz (jl_lst (ja_cons (j_tup (ja_cons j_int ja_nil)) ja_nil)))) (jss_cons (js_for PassesOwn.never rfl (ji_range2 rfl g.range (ja_cons j_int (ja_cons (xv 0) ja_nil))) (g1 2 sc__law_sets.nd) (jss_one (yset 1 sc__law_sets.nd (j_fz (xcat (xv 1) (j_fz (jl_lc (own := [("_law_part", 3)]) rfl sc__law_sets.nd (ji_seq (xv 1)) (by kernel_rfl) (fun _ _ _ _ _ => (g1 3 sc__law_sets.nd)) (fun _ _ _ _ _ => jts_nil) (fun _ _ _ _ _ => (xcatT (xv 3) (j_tup (ja_cons (xv 2) ja_nil))))))))))) (jss_one (js_ret (xv 1)))))
def N_normal_subgroups : List Str := ["table", "found", "k", "own", "other", "both", "sizes"]
theorem sc_normal_subgroups : FnScope N_normal_subgroups ["table"] (defScope (top 36)) := ⟨rfl, rfl, rfl, by decide +kernel, rfl, by decide +kernel, by decide +kernel⟩
def N_normal_subgroups_lam : List Str := ["part", "sizes", "i"]
theorem ls_normal_subgroups_lam : NScope N_normal_subgroups_lam ["part"] ["sizes"] (lamSc (lamB (defBody (top 36)))) := nscope_by (by kernel_rfl)
def f_normal_subgroups_lam : List U → Option U := runE (eTup (aC (eCa fSum (aC (eFz (lLc (wS (eV 0)) (.one 2) tYs (e2 fIx (eV 1) (eV 2)) [2])) aN)) (aC (eV 0) aN))) 1
def b_normal_subgroups : List U → Option U := (mCons (sSet 1 (eFz (lDis (aC (eTRg1 (eCa (fLenO 3 m_CharacterTable___len__) (aC (eV 0) aN))) aN)))) (mCons (sFor (wR1 (aC (eCa (fLenO 3 m_CharacterTable___len__) (aC (eV 0) aN)) aN)) (.one 2) (sSeq (sSet 3 (eCall m_kernel_normal (aC (eV 0) (aC (eV 2) aN)))) (sFor (wS (eFz (lCa fList (aC (eV 1) aN)))) (.one 4) (sSeq (sSet 5 (eCall m_shared (aC (eV 3) (aC (eV 4) aN)))) (sIf (tB1 (e2 (fNotInD (.a .i)) (eV 5) (eV 1))) (sSet 1 (eFz (l2 fCat (eV 1) (eFz (lDis (aC (eV 5) aN)))))) sPass))))) (mCons (sSet 6 (eCall m_class_sizes (aC (e1 (fFld 3 0) (eV 0)) aN))) (mRetSort [6] (.t2 .i (.a .i)) f_normal_subgroups_lam (eV 1)))))
def m_normal_subgroups : List U → Option U := runN b_normal_subgroups 6
theorem ok_normal_subgroups {P1 P2 c : Addr} (F : FunD K "normal_subgroups" "normal_subgroups" (defArgs (top 36)) (defBody (top 36)) (defScope (top 36)) [] [] fa fd) (hc : fd.code = .ref c) (TB : TabB base mg c P1) (hP : P1 ≠ P2) (g : Gs K mg cl) (c_class_sizes : Cal P w K mg base cl 4 "class_sizes" 1 [] m_class_sizes) (o_CharacterTable___len__ : Dnd P w K mg base cl 1 3 "__len__" 1 m_CharacterTable___len__) (c_kernel_normal : Cal P w K mg base cl 3 "kernel_normal" 2 [] m_kernel_normal) (c_shared : Cal P w K mg base cl 1 "shared" 2 [] m_shared) : FnOk P w K mg base CX0 5 fa fd ["table"] (spN cl (TL P1 P2) 1 m_normal_subgroups) :=
  ok_ofC F hc sc_normal_subgroups (by decide) fun A outer s H E hr => (jn_cons (yset 1 sc_normal_subgroups.nd (j_fz (jl_lst (ja_cons (j_tupRg rfl rfl g.tuple rfl g.range (xlenO o_CharacterTable___len__ hr (by decide) g.len (xv 0))) ja_nil)))) (jn_cons (js_for PassesOwn.never rfl (ji_range1 rfl g.range (ja_cons (xlenO o_CharacterTable___len__ hr (by decide) g.len (xv 0)) ja_nil)) (g1 2 sc_normal_subgroups.nd) (jss_cons (yset 3 sc_normal_subgroups.nd (j_call c_kernel_normal hr (by decide) rfl (ja_cons (xv 0) (ja_cons (xv 2) ja_nil)) (len_cons (len_cons len_nil)))) (jss_one (js_for PassesOwn.never rfl (ji_seq (j_fz (xlist g.list (xv 1)))) (g1 4 sc_normal_subgroups.nd) (jss_cons (yset 5 sc_normal_subgroups.nd (j_call c_shared hr (by decide) rfl (ja_cons (xv 3) (ja_cons (xv 4) ja_nil)) (len_cons (len_cons len_nil)))) (jss_one (js_if (tnotinD (.a .i) hr (xv 5) (xv 1)) (jss_one (yset 1 sc_normal_subgroups.nd (j_fz (xcat (xv 1) (j_fz (jl_lst (ja_cons (xv 5) ja_nil))))))) jss_nil))))))) (jn_cons (yset 6 sc_normal_subgroups.nd (j_call c_class_sizes hr (by decide) rfl (ja_cons (xfld 3 0 g (by decide) rfl (xv 0)) ja_nil) (len_cons len_nil))) (jn_retSort (by decide) g.tuple (pe_sortK (js := [6]) g.sorted rfl TB rfl TL_1.1 (TL_1.2 hP) rfl (ndef_free (fr := ["sizes"]) (by kernel_rfl)) (ndef_fr (sc := defScope (top 36)) (by kernel_rfl)) rfl (fun f c' => lok_sp (k := 0) (N := N_normal_subgroups_lam) ls_normal_subgroups_lam (by decide) (fun _ _ _ _ _ us h => match us, h with | [_], _ => rfl) fun A outer s H hr => (j_tup (ja_cons (xsum g.sum rfl (j_fz (jl_lc (own := [("i", 2)]) rfl ls_normal_subgroups_lam.nd (ji_seq (xv 0)) (by kernel_rfl) (fun _ _ _ _ _ => (g1 2 ls_normal_subgroups_lam.nd)) (fun _ _ _ _ _ => jts_nil) (fun _ _ _ _ _ => (j_ix (xv 1) (xv 2)))))) (ja_cons (xv 0) ja_nil)))) (hr.mono (by decide)) (by have := hr.units; exact this) (xv 1))))))
def N_character_table : List Str := ["group", "pairs", "unit", "rest", "pair", "_", "values"]
theorem sc_character_table : FnScope N_character_table ["group"] (defScope (top 87)) := ⟨rfl, rfl, rfl, by decide +kernel, rfl, by decide +kernel, by decide +kernel⟩
def N_character_table_lam : List Str := ["pair"]
theorem ls_character_table_lam : NScope N_character_table_lam ["pair"] [] (lamSc (lamB (defBody (top 87)))) := nscope_by (by kernel_rfl)
def f_character_table_lam : List U → Option U := runE (eTup (aC (e2 fIx (eV 0) (eC (.int (.ofNat 0)))) (aC (eCall m_row_key (aC (e2 fIx (eV 0) (eC (.int (.ofNat 1)))) aN)) aN))) 0
def b_character_table : List U → Option U := (mCons (sSet 1 (eCall m_characters (aC (eV 0) aN))) (mCons (sSet 2 (eCa fTuple (aC (eFz (l2 fRep (eFz (lDis (aC (eCall m_of_integer (aC (eC (.int (.ofNat 1))) aN)) aN))) (eCa fLen (aC (eV 1) aN)))) aN))) (mCons (sSet 3 (eFz (lLc (wS (eV 1)) (.one 4) (tB1 (e2 (fTNe m_Cyclo___eq__) (e2 fIx (eV 4) (eC (.int (.ofNat 1)))) (eV 2))) (eV 4) [4]))) (mSort [] (.t2 .i (.a (.t3 .i (.a .i) .i))) f_character_table_lam 3 (eV 3) (mLast (sRet (eMake 3 m_CharacterTable___init__ [] (aC (eV 0) (aC (eFz (l2 fCat (eFz (lDis (aC (eV 2) aN))) (eFz (lLc (wS (eV 3)) (.two 5 6) tYs (eV 6) [5, 6])))) aN)))))))))
def m_character_table : List U → Option U := runN b_character_table 6
theorem ok_character_table {P1 P2 c : Addr} (F : FunD K "character_table" "character_table" (defArgs (top 87)) (defBody (top 87)) (defScope (top 87)) [] [] fa fd) (hc : fd.code = .ref c) (TB : TabB base mg c P2) (hP : P1 ≠ P2) (g : Gs K mg cl) (k_CharacterTable___init__ : Mak P w K mg base cl 1 3 "CharacterTable" 3 [] m_CharacterTable___init__) (c_row_key : Cal P w K mg base cl 2 "row_key" 1 [] m_row_key) (o_Cyclo___eq__ : Dnd P w K mg base cl 2 2 "__eq__" 2 m_Cyclo___eq__) (c_of_integer : Cal P w K mg base cl 8 "of_integer" 1 [] m_of_integer) (c_characters : Cal P w K mg base cl 11 "characters" 1 [] m_characters) : FnOk P w K mg base CX0 12 fa fd ["group"] (spN cl (TL P1 P2) 1 m_character_table) :=
  ok_ofC F hc sc_character_table (by decide) fun A outer s H E hr => (jn_cons (yset 1 sc_character_table.nd (j_call c_characters hr (by decide) rfl (ja_cons (xv 0) ja_nil) (len_cons len_nil))) (jn_cons (yset 2 sc_character_table.nd (xtup g.tuple (j_fz (xrep (j_fz (jl_lst (ja_cons (j_call c_of_integer hr (by decide) rfl (ja_cons j_int ja_nil) (len_cons len_nil)) ja_nil))) (xlen g.len (xv 1)))))) (jn_cons (ylcF 3 (own := [("pair", 4)]) rfl sc_character_table.nd (ji_seq (xv 1)) (by kernel_rfl) (fun _ _ _ _ _ => (g1 4 sc_character_table.nd)) (fun _ _ _ _ _ => (jts_one (tneT o_Cyclo___eq__ hr (by decide) (j_ix (xv 4) j_int) (xv 2)))) (fun _ _ _ _ _ => (xv 4))) (jn_sort (by decide) (ps_set sc_character_table.nd rfl (.inl rfl) (pe_sortK (js := []) g.sorted rfl TB rfl TL_2.1 (TL_2.2 hP) rfl (ndef_free (fr := []) (by kernel_rfl)) (ndef_fr (sc := defScope (top 87)) (by kernel_rfl)) rfl (fun f c' => lok_sp (k := 2) (N := N_character_table_lam) ls_character_table_lam (by decide) (fun _ _ _ _ _ us h => match us, h with | [_], _ => rfl) fun A outer s H hr => (j_tup (ja_cons (j_ix (xv 0) j_int) (ja_cons (j_call c_row_key hr (by decide) rfl (ja_cons (j_ix (xv 0) j_int) ja_nil) (len_cons len_nil)) ja_nil)))) (hr.mono (by decide)) (by have := hr.units; exact this) (xv 3))) (jn_last (jss_one (js_ret (j_make k_CharacterTable___init__ hr (by decide) rfl (ja_cons (xv 0) (ja_cons (j_fz (xcat (j_fz (jl_lst (ja_cons (xv 2) ja_nil))) (j_fz (jl_lc (own := [("_", 5), ("values", 6)]) rfl sc_character_table.nd (ji_seq (xv 3)) (by kernel_rfl) (fun _ _ _ _ _ => (g2 5 6 sc_character_table.nd rfl)) (fun _ _ _ _ _ => jts_nil) (fun _ _ _ _ _ => (xv 6)))))) ja_nil)) (len_cons (len_cons len_nil))))))))))
def N_law : List Str := ["_law_script", "_law_numbers_here", "_law_group_here", "_law_parts", "_law_due", "_law_indexes", "_law_size", "_law_i", "_law_found"]
theorem sc_law : FnScope N_law ["_law_script"] (defScope (top 95)) := ⟨rfl, rfl, rfl, by decide +kernel, rfl, by decide +kernel, by decide +kernel⟩
def b_law : List U → Option U := (mCons (sSet 3 (eCall m_classes (aC (eV 2) aN))) (mCons (sIf (tB1 (e2 fGt (eCa fLen (aC (eV 3) aN)) (eC (.int (.ofNat 8))))) (sRet (eC (.bl true))) sPass) (mCons (sOwn 4 (lDis aN)) (mCons (sFor (wS (eCall m__law_sets (aC (eCa fLen (aC (eV 3) aN)) aN))) (.one 5) (sSeq (sSet 6 (eCa fSum (aC (eFz (lLc (wS (eV 5)) (.one 7) tYs (eCa fLen (aC (e2 fIx (eV 3) (eV 7)) aN)) [7])) aN))) (sIf (tAn (tB1 (e2 fEq (e2 fMod (eCa (fLenO 1 m_Group___len__) (aC (eV 2) aN)) (eV 6)) (eC (.int (.ofNat 0))))) (tB1 (eCall m__law_closed (aC (eV 2) (aC (eV 3) (aC (eV 5) aN)))))) (sApp 4 (eTup (aC (eV 6) (aC (eV 5) aN)))) sPass))) (mFrz 4 (mSetN 8 (fun env => ob (eCallN m_character_table (eV 2) env) fun u => m_normal_subgroups [u]) (mLast (sRet (e2 (fEqD (.l (.a .i))) (eFz (lCa fList (aC (eV 8) aN))) (eFz (lLc (wS (eFz (lCa (fSort (.t2 .i (.a .i))) (aC (eV 4) aN)))) (.two 6 5) tYs (eV 5) [6, 5])))))))))))
def envL (i : Nat) : List U := [.no, .no, .ins 1 [.tbl i], .no, .no, .no, .no, .no, .no]
-- law 12, slots: numbers 1 group 2
theorem tl_law {P1 P2 : Addr} (g : Gs K mg cl) (c__law_sets : Cal P w K mg base cl 1 "_law_sets" 1 [] m__law_sets) (o_Group___len__ : Dnd P w K mg base cl 1 1 "__len__" 1 m_Group___len__) (c__law_closed : Cal P w K mg base cl 1 "_law_closed" 3 [] m__law_closed) (c_classes : Cal P w K mg base cl 3 "classes" 1 [] m_classes) (n_character_table : CalN P w K mg base cl (TL P1 P2) 12 "character_table" m_character_table) (n_normal_subgroups : CalN P w K mg base cl (TL P1 P2) 12 "normal_subgroups" m_normal_subgroups) (cdv : Value) (A : Around) (outer : List Env) (s : Shared) (H : Hp) (E : XK) (hr : Room 12 (A.deeper (envOfC "law" (defScope (top 95)) s.heap.objs.size fa cdv))) :
  PSs (cxOf CX0 P w K mg base N_law "law" (defScope (top 95)) fa cdv A outer s H E).nox ((defBody (top 95)).drop 2) (tSN cl (TL P1 P2) b_law) :=
  (jn_cons (yset 3 sc_law.nd (j_call c_classes hr (by decide) rfl (ja_cons (xv 2) ja_nil) (len_cons len_nil))) (jn_cons (js_if (tgt (xlen g.len (xv 3)) j_int) (jss_one (js_ret j_bl)) jss_nil) (jn_cons (yown 4 sc_law.nd (jl_lst ja_nil)) (jn_cons (js_for PassesOwn.never rfl (ji_seq (j_call c__law_sets hr (by decide) rfl (ja_cons (xlen g.len (xv 3)) ja_nil) (len_cons len_nil))) (g1 5 sc_law.nd) (jss_cons (yset 6 sc_law.nd (xsum g.sum rfl (j_fz (jl_lc (own := [("_law_i", 7)]) rfl sc_law.nd (ji_seq (xv 5)) (by kernel_rfl) (fun _ _ _ _ _ => (g1 7 sc_law.nd)) (fun _ _ _ _ _ => jts_nil) (fun _ _ _ _ _ => (xlen g.len (j_ix (xv 3) (xv 7)))))))) (jss_one (js_if (jt_pw (jw_and (teq (xmod (xlenO o_Group___len__ hr (by decide) g.len (xv 2)) (xv 6)) j_int) (jw_and1 (tt (j_call c__law_closed hr (by decide) rfl (ja_cons (xv 2) (ja_cons (xv 3) (ja_cons (xv 5) ja_nil))) (len_cons (len_cons (len_cons len_nil)))))))) (jss_one (yapp 4 (j_tup (ja_cons (xv 6) (ja_cons (xv 5) ja_nil))) (pv 4))) jss_nil)))) (jn_frz (jn_setN (ps_set sc_law.nd rfl (.inl rfl) (j_callN2 n_character_table n_normal_subgroups hr (by decide) rfl rfl (xv 2))) (jn_last (jss_one (js_ret (xeqD (.l (.a .i)) hr (j_fz (xlist g.list (xv 8))) (j_fz (jl_lc (own := [("_law_size", 6), ("_law_indexes", 5)]) rfl sc_law.nd (ji_seq (j_fz (xsort (.t2 .i (.a .i)) g.sorted rfl hr (xv 4)))) (by kernel_rfl) (fun _ _ _ _ _ => (g2 6 5 sc_law.nd rfl)) (fun _ _ _ _ _ => jts_nil) (fun _ _ _ _ _ => (xv 5))))))))))))))
end
end Ct
end
end
section
set_option Elab.async false
set_option linter.all false
set_option maxRecDepth 100000
set_option maxHeartbeats 4000000
noncomputable section
namespace Ct
open PySem PySem.Spec PyProof.Rows L2 LamX NdefX
/-- what the caller's list may become; all else is kept -/
def spNext : Sp := fun vs H Q _ => ∃ (p : Addr) (many : Int) (ms : List Int), vs = [.ref p, .int many] ∧ 1 ≤ many ∧ H p = some (.lst (List.map V.int ms)) ∧ ∀ (r : Int) (ms' : List Int), 0 ≤ r → r < many → Q (.int r) (upd H p (.lst (List.map V.int ms')))
section
variable {P : Program} {w : World} {K : PySem.W.Frag} {mg : Str → Option Value} {base : Heap} {cl : Cl} {fa : Addr} {fd : FuncData}
def N_law_next : List Str := ["_law_numbers_here", "_law_many"]
theorem sc_law_next : FnScope N_law_next N_law_next (defScope (top 90)) := ⟨rfl, rfl, rfl, by decide +kernel, rfl, by decide +kernel, by decide +kernel⟩
theorem eraseIdx0 {α : Type} (x : α) (xs : List α) : (x :: xs).eraseIdx 0 = xs := rfl
theorem ok_law_next (F : FunD K "_law_next" "_law_next" (defArgs (top 90)) (defBody (top 90)) (defScope (top 90)) [] [] fa fd) (g : Gs K mg cl) : FnOk P w K mg base CX0 1 fa fd N_law_next spNext := by
  refine F.ok sc_law_next (fun vs H Q E ⟨_, _, _, h, _⟩ => by rw [h]; rfl) fun cdv A outer s H vs Q E hr h => ?_
  obtain ⟨p, many, ms, rfl, hm1, hp, q⟩ := h
  refine ⟨_, (show PSs (cxOf CX0 P w K mg base N_law_next "_law_next" (defScope (top 90)) fa cdv A outer s H E).nox (defBody (top 90)) _ from
    pss_cons (ps_if (pt_cmpR op_eq (pe_callB call_len_seq rfl g.len boot_len (pa_cons (pe_var (i := 0) rfl (.inl rfl)) pa_nil)) pe_int (nomark _)) (pss_one (ps_ret pe_int)) pss_nil)
      (pss_one (ps_ret (pe_op op_mod (pe_bm PySem.F.plainAttrs_list PySem.F.slot_list_pop PySem.F.type_list_pop mt_popAt (pe_var (i := 0) rfl (.inl rfl)) (pa_cons pe_int pa_nil)) (pe_var (i := 1) rfl (.inl rfl)))))).nox, ?_⟩
  refine ⟨.ref p, rfl, p, ms.map V.int, rfl, .inl (SqL.of hp), rfl, _, rfl, ?_⟩
  cases ms with
  | nil =>
    rw [if_pos (by decide)]
    have e := q 0 [] (Int.le_refl _) (by omega)
    rw [upd_self (by exact hp)] at e
    exact e
  | cons m ms =>
    rw [if_neg (by
      intro z
      have z := of_decide_eq_true z
      simp at z
      omega)]
    refine ⟨.ref p, rfl, .inl ⟨rfl, _, SqL.of hp⟩, ?_⟩
    refine ⟨p, (m :: ms).map V.int, 0, 0, .int m, rfl, rfl, hp, by decide, by decide, ?_, rfl, ?_⟩
    · unfold seqIndex?
      simp
    · exact ⟨.int many, rfl, m, many, rfl, rfl, by omega, q (m % many) ms (Int.emod_nonneg _ (by omega)) (Int.emod_lt_of_pos _ (by omega))⟩

/-- a def called by its name, any promise -/
structure CalS (P : Program) (w : World) (K : PySem.W.Frag) (mg : Str → Option Value) (base : Heap) (k : Nat) (x : Str) (sp : Sp) : Prop where
  ex : ∃ (fa : Addr) (fd : FuncData) (ps : List Str), FnOk P w K mg base CX0 k fa fd ps sp ∧ mg x = some (.ref fa) ∧ PySem.W.keepIn K (.ref fa) = true ∧ Binds K fd ps []
/-- all but the list at p is kept; that is still a list of ints -/
def KpL (p : Addr) (H H' : Hp) : Prop := (∃ ms : List Int, H' p = some (.lst (ms.map V.int))) ∧ ∀ b o, b ≠ p → H b = some o → H' b = some o
theorem KpL.refl {p : Addr} {H : Hp} {ms : List Int} (h : H p = some (.lst (ms.map V.int))) : KpL p H H := ⟨⟨ms, h⟩, fun _ _ _ q => q⟩
theorem KpL.trans {p : Addr} {H H1 H2 : Hp} (a : KpL p H H1) (b : KpL p H1 H2) : KpL p H H2 := ⟨b.1, fun c o n q => b.2 c o n (a.2 c o n q)⟩
def spImages : Sp := fun vs H Q _ => ∃ (p : Addr) (M : Nat) (ms : List Int), vs = [.ref p, .int (Int.ofNat M)] ∧ (M = 3 ∨ M = 4) ∧ H p = some (.lst (List.map V.int ms)) ∧
  ∀ (t : Addr) (perm : List Nat) (H' : Hp), perm.Perm (List.range M) → H t = none → t ≠ p → H' t = some (.tup (rowV perm)) → KpL p H H' → Q (.ref t) H'
def N_law_images : List Str := ["_law_numbers_here", "_law_m", "_law_rest", "_law_k", "_law_found", "_law_turn"]
theorem sc_law_images : FnScope N_law_images ["_law_numbers_here", "_law_m"] (defScope (top 91)) := ⟨rfl, rfl, rfl, by decide +kernel, rfl, by decide +kernel, by decide +kernel⟩
def mI0 : MA := lLc (wR1 (aC (eV 1) aN)) (.one 3) tYs (eV 3) [3]
def mI1 : MA := wR1 (aC (eV 1) aN)
def envI (M : Nat) : List U := [.no, .int (Int.ofNat M), .no, .no, .no, .no]
theorem rowV_map (l : List Nat) : rowV l = (l.map Int.ofNat).map V.int := by rw [List.map_map]; rfl
theorem perm_pop : ∀ {l : List Nat} {i n : Nat}, l[i]? = some n → (n :: l.eraseIdx i).Perm l
  | x :: l, 0, n, h => by
    simp at h
    subst h
    exact List.Perm.refl _
  | x :: l, i + 1, n, h => by
    have := perm_pop (l := l) (i := i) (by simpa using h)
    rw [List.eraseIdx_cons_succ]
    exact (List.Perm.swap x n _).trans (this.cons x)
  | [], _, _, h => by simp at h
theorem rowV_erase : ∀ (l : List Nat) (i : Nat), (rowV l).eraseIdx i = rowV (l.eraseIdx i)
  | [], _ => rfl
  | _ :: _, 0 => rfl
  | x :: l, i + 1 => congrArg (List.cons (V.int (Int.ofNat x))) (rowV_erase l i)
theorem rowV_snoc (l : List Nat) (n : Nat) : rowV l ++ [V.int (Int.ofNat n)] = rowV (l ++ [n]) := by
  unfold rowV
  rw [List.map_append]
  rfl
theorem rowV_len (l : List Nat) : (rowV l).length = l.length := List.length_map ..
theorem rowV_get {l : List Nat} {i n : Nat} (h : l[i]? = some n) : (rowV l)[i]? = some (.int (Int.ofNat n)) := by
  unfold rowV
  rw [List.getElem?_map, h]
  rfl
theorem erI {cl : Cl} {H : Hp} {M : Nat} {σ : Sig} (hl : σ.length = 6) (h : σ[1]? = some (some (.int (Int.ofNat M)))) : ER cl (fun _ => none) H (envI M) σ := by
  refine ⟨fun a o q => (nomatch (show (none : Option HO) = some o from q)), hl.symm, fun i u hu => ?_⟩
  rcases i with _ | _ | _ | _ | _ | _ | i
  · cases hu; exact .inl rfl
  · cases hu; exact .inr ⟨_, h, rv_int _⟩
  · cases hu; exact .inl rfl
  · cases hu; exact .inl rfl
  · cases hu; exact .inl rfl
  · cases hu; exact .inl rfl
  · simp [envI] at hu
theorem ps_lcL {X : Cx} {cl : Cl} {st : Stmt} {w : MA} {t : Tg} {mt : MT} {me : M} {vs : List Nat} {gg : TG} (hs : ∀ i ∈ t.slots, i ∈ vs) (h : PS X st (tAsg (tLc (tW cl w) (tG cl t) (tT cl mt) (tM cl me) vs) gg)) : PS X st (tAsg (tL cl (lLc w t mt me vs)) gg) :=
  h.wk fun D σ H z => tLc_of hs σ H (fun x H1 => gg x σ H1 D.nx) z
theorem new_none {F H F' H' : Hp} {b : Addr} {vs : List V} (s : Stp F H F' H') (n : F b = none) (h : H b = some (.lst vs)) : F' b = none := new_lst s n h
theorem ok_law_images (F : FunD K "_law_images" "_law_images" (defArgs (top 91)) (defBody (top 91)) (defScope (top 91)) [] [] fa fd) (g : Gs K mg cl) (q : CalS P w K mg base 1 "_law_next" spNext) : FnOk P w K mg base CX0 2 fa fd ["_law_numbers_here", "_law_m"] spImages := by
  refine F.ok sc_law_images (fun vs H Q E ⟨_, _, _, h, _⟩ => by rw [h]; rfl) fun cdv A outer s H vs Q E hr h => ?_
  obtain ⟨p, M, ms, rfl, hM, hp, q0⟩ := h
  obtain ⟨ga, gd', qs, GG, b1, b2, b3⟩ := q.ex
  obtain ⟨us0, e0, l0⟩ : ∃ us0, mI0 (envI M) = some us0 ∧ lints us0 = some ((List.range M).map Int.ofNat) := by
    rcases hM with rfl | rfl
    · exact ⟨_, rfl, rfl⟩
    · exact ⟨_, rfl, rfl⟩
  obtain ⟨us1, e1, l1⟩ : ∃ us1, mI1 (envI M) = some us1 ∧ us1.length = M := by
    rcases hM with rfl | rfl
    · exact ⟨_, rfl, rfl⟩
    · exact ⟨_, rfl, rfl⟩
  refine ⟨_, (show PSs (cxOf CX0 P w K mg base N_law_images "_law_images" (defScope (top 91)) fa cdv A outer s H E).nox (defBody (top 91)) _ from
    pss_cons (ps_lcL (vs := [3]) (by decide) (ps_setLc (i := 2) (own := [("_law_k", 3)]) rfl sc_law_images.nd rfl rfl (sw_true rfl rfl rfl (by kernel_rfl)) (ji_range1 (cl := cl) rfl g.range (ja_cons (xv 1) ja_nil)) (blkOk_by (by kernel_rfl)) (fun _ _ _ _ _ => g1 (cl := cl) 3 sc_law_images.nd) (fun _ _ _ _ _ => jts_nil (cl := cl)) (fun _ _ _ _ _ => xv (cl := cl) 3)))
      (pss_cons (ps_set (i := 4) sc_law_images.nd rfl (.inl rfl) (pe_lst pa_nil))
        (pss_cons (ps_for PassesOwn.never rfl (ji_range1 (cl := cl) rfl g.range (ja_cons (xv 1) ja_nil)) (pg_name (i := 5) sc_law_images.nd rfl (.inl rfl))
            (pss_one (ps_expr (pe_bm PySem.F.plainAttrs_list PySem.F.slot_list_append PySem.F.type_list_append mt_append (pe_var (i := 4) rfl (.inl rfl)) (pa_cons (pe_bm PySem.F.plainAttrs_list PySem.F.slot_list_pop PySem.F.type_list_pop mt_popAt (pe_var (i := 2) rfl (.inl rfl))
              (pa_cons (pe_call (E := E0) GG (hr.mono (by decide)) rfl b1 b2 b3 .nil pass0 (pa_cons (pe_var (i := 0) rfl (.inl rfl)) (pa_cons (pe_callB call_len_seq rfl g.len boot_len (pa_cons (pe_var (i := 2) rfl (.inl rfl)) pa_nil)) pa_nil))) pa_nil)) pa_nil)))))
          (pss_one (ps_ret (pe_callTy call_tuple_of rfl g.tuple PyProof.Rows.boot_tuple (pa_cons (pe_var (i := 4) rfl (.inl rfl)) pa_nil))))))).nox, ?_⟩
  refine ⟨fun _ => none, envI M, us0, erI rfl rfl, e0, fun F1 H1 a vs s1 na nf ha rr => ?_⟩
  have hvs := lints_rv l0 rr
  rw [← rowV_map] at hvs
  subst hvs
  have hp1 : H1 p = some (.lst (ms.map V.int)) := s1.hh _ _ hp
  have hap : a ≠ p := fun z => by rw [z, hp] at na; cases na
  refine ⟨Nat.zero_le _, fun b hb => ?_⟩
  have hba : b ≠ a := fun z => by rw [z, ha] at hb; cases hb
  have hbp : b ≠ p := fun z => by rw [z, hp1] at hb; cases hb
  have k2 : ∀ c o, H c = some o → upd H1 b (.lst []) c = some o := fun c o q => by
    have q1 := s1.hh _ _ q
    rw [upd_ne (ne_of_none q1 hb)]
    exact q1
  refine ⟨fun _ => none, envI M, us1, erI rfl rfl, e1, fun F2 H3 J s2 wk => ?_⟩
  have hp2 : upd H1 b (.lst []) p = some (.lst (ms.map V.int)) := k2 _ _ hp
  have ha2 : upd H1 b (.lst []) a = some (.lst (rowV (List.range M))) := by rw [upd_ne (Ne.symm hba)]; exact ha
  have fp : F2 p = none := new_lst s2 rfl hp2
  have fa2 : F2 a = none := new_lst s2 rfl ha2
  have fb : F2 b = none := new_lst (vs := []) s2 rfl upd_same
  refine ⟨fun i m σ' H' => m = M - i ∧ i ≤ M ∧ ∃ (rest found : List Nat), rest.length + i = M ∧ found.length = i ∧ (found ++ rest).Perm (List.range M) ∧ σ'[0]? = some (some (.ref p)) ∧ σ'[2]? = some (some (.ref a)) ∧ σ'[4]? = some (some (.ref b)) ∧
      H' a = some (.lst (rowV rest)) ∧ H' b = some (.lst (rowV found)) ∧ KpL p H H' ∧ Sb F2 H',
    ⟨M, rfl, Nat.zero_le _, List.range M, [], by rw [List.length_range, Nat.add_zero], rfl, List.Perm.refl _, rfl, rfl, rfl, s2.hh _ _ ha2, s2.hh _ _ upd_same, ⟨⟨ms, s2.hh _ _ hp2⟩, fun c o _ q => s2.hh _ _ (k2 c o q)⟩, s2.fh⟩, ?_⟩
  rintro i m σ' H' ⟨rfl, hi, rest, found, hr1, hf1, hpm, z0, z2, z4, ha', hb', hk, sbF⟩
  obtain ⟨stop, go⟩ := wk F2 H' (Sb.refl _) sbF
  rw [l1] at stop
  obtain ⟨⟨ms', hp'⟩, hkk⟩ := id hk
  by_cases hlt : i < M
  · right
    have hl1 : i < us1.length := by rw [l1]; exact hlt
    obtain ⟨q1, q2⟩ := go i _ (List.getElem?_eq_getElem hl1)
    refine ⟨q1, fun σ' H' => i + 1 ≤ M ∧ ∃ (rest found : List Nat), rest.length + (i + 1) = M ∧ found.length = i + 1 ∧ (found ++ rest).Perm (List.range M) ∧ σ'[0]? = some (some (.ref p)) ∧ σ'[2]? = some (some (.ref a)) ∧ σ'[4]? = some (some (.ref b)) ∧
      H' a = some (.lst (rowV rest)) ∧ H' b = some (.lst (rowV found)) ∧ KpL p H H' ∧ Sb F2 H', fun σ' H' ⟨r1, r2⟩ => ⟨M - (i + 1), by omega, rfl, r1, r2⟩, fun x H4 y => ?_⟩
    obtain ⟨F', s4, _⟩ := q2 x H4 y
    have y0 : (σ'.set 5 (some x))[0]? = some (some (V.ref p)) := by rw [List.getElem?_set_ne (by decide)]; exact z0
    have y2 : (σ'.set 5 (some x))[2]? = some (some (V.ref a)) := by rw [List.getElem?_set_ne (by decide)]; exact z2
    have y4 : (σ'.set 5 (some x))[4]? = some (some (V.ref b)) := by rw [List.getElem?_set_ne (by decide)]; exact z4
    have ha4 := s4.hh _ _ ha'
    have hb4 := s4.hh _ _ hb'
    have hp4 := s4.hh _ _ hp'
    refine ⟨.ref b, y4, .inl ⟨rfl, _, SqL.of hb4⟩, .ref a, y2, .inl ⟨rfl, _, SqL.of ha4⟩, .ref p, y0, .ref a, y2, a, rowV rest, rfl, .inl (SqL.of ha4), ?_⟩
    refine ⟨p, ((rowV rest).length : Int), ms', rfl, by rw [rowV_len]; omega, hp4, fun r ms'' hr1' hr2' => ?_⟩
    rw [rowV_len] at hr2'
    obtain ⟨k, rfl⟩ : ∃ k : Nat, r = (k : Int) := ⟨r.toNat, by omega⟩
    have hkl : k < rest.length := by omega
    refine ⟨a, rowV rest, (k : Int), k, .int (Int.ofNat rest[k]), rfl, rfl, by rw [upd_ne hap]; exact ha4, by omega, by omega, ?_, rowV_get (List.getElem?_eq_getElem hkl), ?_⟩
    · unfold seqIndex?
      rw [rowV_len]
      simp
      omega
    · refine ⟨b, rowV found, _, rfl, rfl, by rw [upd_ne hba, upd_ne hbp]; exact hb4, by rw [rowV_len, sizeLine_eq]; omega, hlt, rest.eraseIdx k, found ++ [rest[k]], ?_, by rw [List.length_append, hf1]; rfl, ?_, y0, y2, y4, ?_, ?_, ⟨⟨ms'', ?_⟩, fun c o hc q => ?_⟩, fun c o q => ?_⟩
      · rw [List.length_eraseIdx, if_pos hkl]; omega
      · refine List.Perm.trans ?_ hpm
        rw [List.append_assoc]
        exact List.Perm.append_left _ (perm_pop (List.getElem?_eq_getElem hkl))
      · rw [upd_ne (Ne.symm hba), upd_same, rowV_erase]
      · rw [upd_same, rowV_snoc]
      · rw [upd_ne (Ne.symm hbp), upd_ne (Ne.symm hap), upd_same]
      · have hca : c ≠ a := ne_of_none q na
        have hcb : c ≠ b := fun z => by
          have := s1.hh _ _ q
          rw [z, hb] at this
          cases this
        rw [upd_ne hcb, upd_ne hca, upd_ne hc]
        exact s4.hh _ _ (hkk c o hc q)
      · rw [upd_ne (ne_of_none q fb), upd_ne (ne_of_none q fa2), upd_ne (ne_of_none q fp)]
        exact s4.hh _ _ (sbF c o q)
  · left
    have hiM : i = M := by omega
    subst hiM
    refine ⟨stop, .ref b, z4, b, rowV found, rfl, .inl ⟨SqL.of hb', fun l hl => ?_⟩⟩
    have hrest : rest = [] := List.length_eq_zero_iff.mp (by omega)
    subst hrest
    rw [List.append_nil] at hpm
    have hlp : l ≠ p := fun z => by rw [z, hp'] at hl; cases hl
    have hHl : H l = none := by
      cases e : H l with
      | none => rfl
      | some o => rw [hkk l o hlp e] at hl; cases hl
    refine q0 l found _ hpm hHl hlp upd_same ⟨⟨ms', by rw [upd_ne (Ne.symm hlp)]; exact hp'⟩, fun c o hc q => ?_⟩
    have q1 := hkk c o hc q
    rw [upd_ne (ne_of_none q1 hl)]
    exact q1
end
end Ct
end
end
section
set_option Elab.async false
set_option linter.all false
set_option maxRecDepth 100000
set_option maxHeartbeats 4000000
noncomputable section
namespace Ct
open PySem PySem.Spec PyProof.Rows L2 LamX NdefX
/-- a new list of ints; all else is kept -/
def spNumbers (K : PySem.W.Frag) : Sp := fun vs H Q _ => ∃ (a : Addr) (ns : List Int), vs = [.ref a] ∧ SqL K H a (ns.map V.int) ∧ ns.length < 2 ^ 62 ∧
  ∀ (p : Addr) (ms : List Int) (H' : Hp), H p = none → H' p = some (.lst (ms.map V.int)) → (∀ c o, H c = some o → H' c = some o) → Q (.ref p) H'
structure NS (a b : Addr) (H0 H : Hp) (σ : Sig) (L : Nat) : Prop where
  s0 : σ[0]? = some (some (.ref a))
  s1 : σ[1]? = some (some (.ref b))
  hb : ∃ ms : List Int, H b = some (.lst (ms.map V.int)) ∧ ms.length ≤ L
  ext : ∀ c o, H0 c = some o → H c = some o
theorem NS.set {a b : Addr} {H0 H : Hp} {σ : Sig} {L : Nat} (h : NS a b H0 H σ L) (j : Nat) (v : Option V) (hj : 2 ≤ j) : NS a b H0 H (σ.set j v) L :=
  ⟨by rw [List.getElem?_set_ne (by omega)]; exact h.s0, by rw [List.getElem?_set_ne (by omega)]; exact h.s1, h.hb, h.ext⟩
theorem NS.mono {a b : Addr} {H0 H : Hp} {σ : Sig} {L L' : Nat} (h : NS a b H0 H σ L) (l : L ≤ L') : NS a b H0 H σ L' :=
  ⟨h.s0, h.s1, let ⟨ms, h1, h2⟩ := h.hb; ⟨ms, h1, Nat.le_trans h2 l⟩, h.ext⟩
theorem NS.app {a b : Addr} {H0 H : Hp} {σ : Sig} {L : Nat} {ms : List Int} (h : NS a b H0 H σ L) (hm : H b = some (.lst (ms.map V.int))) (hl : ms.length ≤ L) (nb : H0 b = none) (z : Int) : NS a b H0 (upd H b (.lst (ms.map V.int ++ [.int z]))) σ (L + 1) :=
  ⟨h.s0, h.s1, ⟨ms ++ [z], by rw [upd_same, List.map_append]; rfl, by rw [List.length_append]; simp; omega⟩, fun c o q => by rw [upd_ne (ne_of_none q nb)]; exact h.ext c o q⟩
theorem sqL_ext {K : PySem.W.Frag} {H H' : Hp} {a : Addr} {xs : List V} (h : SqL K H a xs) (e : ∀ c o, H c = some o → H' c = some o) : SqL K H' a xs := by
  rcases h with (h | ⟨o, h⟩) | h
  · exact .inl (.inl (e _ _ h))
  · exact .inl (.inr ⟨o, e _ _ h⟩)
  · exact .inr h
section
variable {P : Program} {w : World} {K : PySem.W.Frag} {mg : Str → Option Value} {base : Heap} {cl : Cl} {fa : Addr} {fd : FuncData}
def N_law_numbers : List Str := ["_law_script", "_law_found", "_law_k", "_law_cell", "_law_turn", "_law_i", "_law_mixed"]
theorem sc_law_numbers : FnScope N_law_numbers ["_law_script"] (defScope (top 89)) := ⟨rfl, rfl, rfl, by decide +kernel, rfl, by decide +kernel, by decide +kernel⟩
theorem ifb {c : Bool} {A B : Prop} (h1 : c = true → A) (h2 : c = false → B) : if c = true then A else B := by
  cases c with
  | true => exact h1 rfl
  | false => exact h2 rfl
theorem set_at {σ : Sig} {j : Nat} {v : Option V} (h : j < σ.length) : (σ.set j v)[j]? = some v := by rw [List.getElem?_set, if_pos rfl, if_pos h]
theorem ok_law_numbers (hmin : mg "min" = none) (F : FunD K "_law_numbers" "_law_numbers" (defArgs (top 89)) (defBody (top 89)) (defScope (top 89)) [] [] fa fd) (g : Gs K mg cl) : FnOk P w K mg base CX0 1 fa fd ["_law_script"] (spNumbers K) := by
  refine F.ok sc_law_numbers (fun vs H Q E ⟨_, _, h, _⟩ => by rw [h]; rfl) fun cdv A outer s H vs Q E hr h => ?_
  obtain ⟨a, ns, rfl, ha, hz, q0⟩ := h
  refine ⟨_, (show PSs (cxOf CX0 P w K mg base N_law_numbers "_law_numbers" (defScope (top 89)) fa cdv A outer s H E).nox (defBody (top 89)) _ from
    pss_cons (ps_set (i := 1) sc_law_numbers.nd rfl (.inl rfl) (pe_lst pa_nil))
      (pss_cons (ps_for PassesOwn.never rfl (pi_range1 rfl g.range (pa_cons (pe_callB (call_min2 rfl) rfl hmin boot_min (pa_cons (pe_callB call_len_seq rfl g.len boot_len (pa_cons (pe_var (i := 0) rfl (.inl rfl)) pa_nil)) (pa_cons pe_int pa_nil))) pa_nil)) (pg_name (i := 2) sc_law_numbers.nd rfl (.inl rfl))
          (pss_cons (ps_set (i := 3) sc_law_numbers.nd rfl (.inl rfl) (pe_callB call_abs rfl g.abs PyProof.Rows.boot_abs (pa_cons (pe_ix ix_list (pe_var (i := 0) rfl (.inl rfl)) (pe_var (i := 2) rfl (.inl rfl)) (fun _ _ => rfl)) pa_nil)))
            (pss_one (ps_if (pt_cmpR op_ge (pe_var (i := 3) rfl (.inl rfl)) (pe_op op_pow pe_int pe_int) (nomark _))
              (pss_one (ps_for PassesOwn.never rfl (pi_range1 rfl g.range (pa_cons pe_int pa_nil)) (pg_name (i := 4) sc_law_numbers.nd rfl (.inl rfl))
                (pss_one (ps_if (pt_cmpR op_gt (pe_var (i := 3) rfl (.inl rfl)) pe_int (nomark _))
                  (pss_cons (ps_expr (pe_bm PySem.F.plainAttrs_list PySem.F.slot_list_append PySem.F.type_list_append mt_append (pe_var (i := 1) rfl (.inl rfl)) (pa_cons (pe_op op_mod (pe_var (i := 3) rfl (.inl rfl)) pe_int) pa_nil)))
                    (pss_one (ps_set (i := 3) sc_law_numbers.nd rfl (.inl rfl) (pe_op op_fdiv (pe_var (i := 3) rfl (.inl rfl)) pe_int)))) pss_nil))))
              (pss_one (ps_for PassesOwn.never rfl (pi_range1 rfl g.range (pa_cons pe_int pa_nil)) (pg_name (i := 5) sc_law_numbers.nd rfl (.inl rfl))
                (pss_cons (ps_set (i := 3) sc_law_numbers.nd rfl (.inl rfl) (pe_op op_mod (pe_op op_add (pe_op op_add (pe_op op_mul (pe_var (i := 3) rfl (.inl rfl)) pe_int) (pe_op op_mul pe_int (pe_op op_add (pe_var (i := 5) rfl (.inl rfl)) (pe_var (i := 2) rfl (.inl rfl))))) pe_int) pe_int))
                  (pss_cons (ps_set (i := 6) sc_law_numbers.nd rfl (.inl rfl) (pe_op op_mod (pe_op op_add (pe_op op_mul (pe_var (i := 3) rfl (.inl rfl)) pe_int) (pe_op op_fdiv (pe_var (i := 3) rfl (.inl rfl)) pe_int)) pe_int))
                    (pss_one (ps_expr (pe_bm PySem.F.plainAttrs_list PySem.F.slot_list_append PySem.F.type_list_append mt_append (pe_var (i := 1) rfl (.inl rfl)) (pa_cons (pe_op op_mod (pe_var (i := 6) rfl (.inl rfl)) pe_int) pa_nil))))))))))))
        (pss_one (ps_ret (pe_var (i := 1) rfl (.inl rfl)))))).nox, ?_⟩
  refine ⟨Nat.zero_le _, fun b hb => ?_⟩
  have ext1 : ∀ c o, H c = some o → upd H b (.lst []) c = some o := fun c o q => by rw [upd_ne (ne_of_none q hb)]; exact q
  have hj0 : ∀ n : Nat, n < 2 ^ 62 → -(2 ^ 62) ≤ (if (63 : Int) < (n : Int) then (63 : Int) else (n : Int)) ∧ (if (63 : Int) < (n : Int) then (63 : Int) else (n : Int)) < 2 ^ 62 ∧ (if (63 : Int) < (n : Int) then (63 : Int) else (n : Int)).toNat ≤ n ∧ (if (63 : Int) < (n : Int) then (63 : Int) else (n : Int)).toNat ≤ 63 := fun n hn => by
    split <;> omega
  obtain ⟨z1, z2, z3, z4⟩ := hj0 (ns.map V.int).length (by rw [List.length_map]; exact hz)
  refine ⟨.ref a, rfl, a, ns.map V.int, rfl, .inl (sqL_ext ha ext1), _, 63, rfl, _, rfl, z1, z2, ?_⟩
  revert z3 z4
  generalize (if (63 : Int) < ((ns.map V.int).length : Int) then (63 : Int) else ((ns.map V.int).length : Int)).toNat = M
  intro z3 z4
  rw [List.length_map] at z3
  refine ⟨fun i m σ' H' => m = M - i ∧ i ≤ M ∧ NS a b H H' σ' (60 * i) ∧ σ'.length = 7, ⟨M, rfl, Nat.zero_le _, ⟨rfl, rfl, ⟨[], upd_same, Nat.zero_le _⟩, ext1⟩, rfl⟩, ?_⟩
  rintro i m σ' H' ⟨rfl, hi, hn, hl⟩
  by_cases hlt : i < M
  · right
    refine ⟨hlt, fun σ2 H2 => i + 1 ≤ M ∧ NS a b H H2 σ2 (60 * (i + 1)) ∧ σ2.length = 7, fun σ2 H2 ⟨r1, r2, r3⟩ => ⟨M - (i + 1), by omega, rfl, r1, r2, r3⟩, fun x H4 ⟨eH, ex⟩ => ?_⟩
    subst eH
    subst ex
    have hin : i < ns.length := by omega
    have n2 := hn.set 2 (some (.int (0 + (i : Int)))) (by decide)
    have l2 : (σ'.set 2 (some (V.int (0 + (i : Int))))).length = 7 := by rw [List.length_set]; exact hl
    have k2 : (σ'.set 2 (some (V.int (0 + (i : Int)))))[2]? = some (some (.int (0 + (i : Int)))) := set_at (by omega)
    have hat : atI (ns.map V.int) (0 + (i : Int)) = some (.int ns[i]) := by
      rw [Int.zero_add]
      exact atI_nat (by rw [List.getElem?_map, List.getElem?_eq_getElem hin]; rfl)
    refine ⟨.ref a, n2.s0, _, k2, a, ns.map V.int, _, .int ns[i], rfl, rfl, sqL_ext ha hn.ext, hat, ns[i], rfl, ?_⟩
    generalize (if ns[i] < 0 then -ns[i] else ns[i]) = c0
    revert n2 l2 k2
    generalize σ'.set 2 (some (V.int (0 + (i : Int)))) = σ2
    intro n2 l2 k2
    have n3 := n2.set 3 (some (.int c0)) (by decide)
    have l3 : (σ2.set 3 (some (V.int c0))).length = 7 := by rw [List.length_set]; exact l2
    have k3 : (σ2.set 3 (some (V.int c0)))[3]? = some (some (.int c0)) := set_at (by omega)
    have k32 : (σ2.set 3 (some (V.int c0)))[2]? = some (some (.int (0 + (i : Int)))) := by rw [List.getElem?_set_ne (by decide)]; exact k2
    refine ⟨_, k3, 10, 18, rfl, rfl, ⟨by decide, by decide, by decide⟩, c0, _, rfl, rfl, _, rfl, ?_⟩
    refine ifb (fun _ => ?_) fun _ => ?_
    · refine ⟨60, rfl, by decide, by decide, fun j m σ' H'' => m = 60 - j ∧ j ≤ 60 ∧ NS a b H H'' σ' (60 * i + j) ∧ σ'.length = 7 ∧ ∃ c, σ'[3]? = some (some (.int c)), ⟨60, rfl, Nat.zero_le _, n3, l3, c0, k3⟩, ?_⟩
      rintro j m σ4 H'' ⟨rfl, hj, nn, ll, c, kk⟩
      by_cases hjt : j < 60
      · right
        refine ⟨hjt, fun σ5 H5 => j + 1 ≤ 60 ∧ NS a b H H5 σ5 (60 * i + (j + 1)) ∧ σ5.length = 7 ∧ ∃ c, σ5[3]? = some (some (.int c)), fun σ5 H5 ⟨r1, r2⟩ => ⟨60 - (j + 1), by omega, rfl, r1, r2⟩, fun x H4 ⟨eH, ex⟩ => ?_⟩
        subst eH
        subst ex
        have n4 := nn.set 4 (some (.int (0 + (j : Int)))) (by decide)
        have l4 : (σ4.set 4 (some (V.int (0 + (j : Int))))).length = 7 := by rw [List.length_set]; exact ll
        have k4 : (σ4.set 4 (some (V.int (0 + (j : Int)))))[3]? = some (some (.int c)) := by rw [List.getElem?_set_ne (by decide)]; exact kk
        refine ⟨_, k4, c, 0, rfl, rfl, _, rfl, ?_⟩
        refine ifb (fun _ => ?_) fun _ => ?_
        · obtain ⟨ms, hm, hml⟩ := nn.hb
          refine ⟨.ref b, n4.s1, .inl ⟨rfl, _, SqL.of hm⟩, _, k4, c, 1009, rfl, rfl, (show (0 : Int) < 1009 by decide), b, _, _, rfl, rfl, hm, by rw [List.length_map, sizeLine_eq]; omega, ?_⟩
          have n5 := (n4.app hm hml hb (c % 1009)).set 3 (some (.int (c / 1009))) (by decide)
          exact ⟨_, k4, c, 1009, rfl, rfl, ⟨by decide, by decide⟩, hjt, n5, by rw [List.length_set]; exact l4, _, set_at (by omega)⟩
        · exact ⟨hjt, n4.mono (by omega), l4, c, k4⟩
      · left
        have hj60 : j = 60 := by omega
        subst hj60
        exact ⟨Nat.le_refl _, hlt, nn.mono (by omega), ll⟩
    · refine ⟨5, rfl, by decide, by decide, fun j m σ' H'' => m = 5 - j ∧ j ≤ 5 ∧ NS a b H H'' σ' (60 * i + j) ∧ σ'.length = 7 ∧ σ'[2]? = some (some (.int (0 + (i : Int)))) ∧ ∃ c, σ'[3]? = some (some (.int c)), ⟨5, rfl, Nat.zero_le _, n3, l3, k32, c0, k3⟩, ?_⟩
      rintro j m σ4 H'' ⟨rfl, hj, nn, ll, kk2, c, kk⟩
      by_cases hjt : j < 5
      · right
        refine ⟨hjt, fun σ5 H5 => j + 1 ≤ 5 ∧ NS a b H H5 σ5 (60 * i + (j + 1)) ∧ σ5.length = 7 ∧ σ5[2]? = some (some (.int (0 + (i : Int)))) ∧ ∃ c, σ5[3]? = some (some (.int c)), fun σ5 H5 ⟨r1, r2⟩ => ⟨5 - (j + 1), by omega, rfl, r1, r2⟩, fun x H4 ⟨eH, ex⟩ => ?_⟩
        subst eH
        subst ex
        have n4 := nn.set 5 (some (.int (0 + (j : Int)))) (by decide)
        have l4 : (σ4.set 5 (some (V.int (0 + (j : Int))))).length = 7 := by rw [List.length_set]; exact ll
        have k4 : (σ4.set 5 (some (V.int (0 + (j : Int)))))[3]? = some (some (.int c)) := by rw [List.getElem?_set_ne (by decide)]; exact kk
        have k42 : (σ4.set 5 (some (V.int (0 + (j : Int)))))[2]? = some (some (.int (0 + (i : Int)))) := by rw [List.getElem?_set_ne (by decide)]; exact kk2
        have k45 : (σ4.set 5 (some (V.int (0 + (j : Int)))))[5]? = some (some (.int (0 + (j : Int)))) := set_at (by omega)
        refine ⟨_, k4, c, 48271, rfl, rfl, .inr ⟨by decide, by decide⟩, _, k45, _, k42, _, _, rfl, rfl, 69621, _, rfl, rfl, .inl ⟨by decide, by decide⟩, _, _, rfl, rfl, _, 11, rfl, rfl, _, 2147483647, rfl, rfl, (show (0 : Int) < 2147483647 by decide), ?_⟩
        have n6 := n4.set 3 (some (.int ((c * 48271 + 69621 * (0 + (j : Int) + (0 + (i : Int))) + 11) % 2147483647))) (by decide)
        have l6 : ((σ4.set 5 (some (V.int (0 + (j : Int))))).set 3 (some (V.int ((c * 48271 + 69621 * (0 + (j : Int) + (0 + (i : Int))) + 11) % 2147483647)))).length = 7 := by rw [List.length_set]; exact l4
        have k6 : ((σ4.set 5 (some (V.int (0 + (j : Int))))).set 3 (some (V.int ((c * 48271 + 69621 * (0 + (j : Int) + (0 + (i : Int))) + 11) % 2147483647))))[3]? = some (some (.int ((c * 48271 + 69621 * (0 + (j : Int) + (0 + (i : Int))) + 11) % 2147483647))) := set_at (by omega)
        have k62 : ((σ4.set 5 (some (V.int (0 + (j : Int))))).set 3 (some (V.int ((c * 48271 + 69621 * (0 + (j : Int) + (0 + (i : Int))) + 11) % 2147483647))))[2]? = some (some (.int (0 + (i : Int)))) := by rw [List.getElem?_set_ne (by decide)]; exact k42
        refine ⟨_, k6, ((c * 48271 + 69621 * (0 + (j : Int) + (0 + (i : Int))) + 11) % 2147483647), 16807, rfl, rfl, .inr ⟨by decide, by decide⟩, _, k6, ((c * 48271 + 69621 * (0 + (j : Int) + (0 + (i : Int))) + 11) % 2147483647), 65536, rfl, rfl, ⟨by decide, by decide⟩, _, _, rfl, rfl, _, 2147483629, rfl, rfl, (show (0 : Int) < 2147483629 by decide), ?_⟩
        have n7 := n6.set 6 (some (.int ((((c * 48271 + 69621 * (0 + (j : Int) + (0 + (i : Int))) + 11) % 2147483647) * 16807 + ((c * 48271 + 69621 * (0 + (j : Int) + (0 + (i : Int))) + 11) % 2147483647) / 65536) % 2147483629))) (by decide)
        have l7 : (((σ4.set 5 (some (V.int (0 + (j : Int))))).set 3 (some (V.int ((c * 48271 + 69621 * (0 + (j : Int) + (0 + (i : Int))) + 11) % 2147483647)))).set 6 (some (V.int ((((c * 48271 + 69621 * (0 + (j : Int) + (0 + (i : Int))) + 11) % 2147483647) * 16807 + ((c * 48271 + 69621 * (0 + (j : Int) + (0 + (i : Int))) + 11) % 2147483647) / 65536) % 2147483629)))).length = 7 := by rw [List.length_set]; exact l6
        have k7 : (((σ4.set 5 (some (V.int (0 + (j : Int))))).set 3 (some (V.int ((c * 48271 + 69621 * (0 + (j : Int) + (0 + (i : Int))) + 11) % 2147483647)))).set 6 (some (V.int ((((c * 48271 + 69621 * (0 + (j : Int) + (0 + (i : Int))) + 11) % 2147483647) * 16807 + ((c * 48271 + 69621 * (0 + (j : Int) + (0 + (i : Int))) + 11) % 2147483647) / 65536) % 2147483629))))[6]? = some (some (.int ((((c * 48271 + 69621 * (0 + (j : Int) + (0 + (i : Int))) + 11) % 2147483647) * 16807 + ((c * 48271 + 69621 * (0 + (j : Int) + (0 + (i : Int))) + 11) % 2147483647) / 65536) % 2147483629))) := set_at (by omega)
        have k73 : (((σ4.set 5 (some (V.int (0 + (j : Int))))).set 3 (some (V.int ((c * 48271 + 69621 * (0 + (j : Int) + (0 + (i : Int))) + 11) % 2147483647)))).set 6 (some (V.int ((((c * 48271 + 69621 * (0 + (j : Int) + (0 + (i : Int))) + 11) % 2147483647) * 16807 + ((c * 48271 + 69621 * (0 + (j : Int) + (0 + (i : Int))) + 11) % 2147483647) / 65536) % 2147483629))))[3]? = some (some (.int ((c * 48271 + 69621 * (0 + (j : Int) + (0 + (i : Int))) + 11) % 2147483647))) := by rw [List.getElem?_set_ne (by decide)]; exact k6
        have k72 : (((σ4.set 5 (some (V.int (0 + (j : Int))))).set 3 (some (V.int ((c * 48271 + 69621 * (0 + (j : Int) + (0 + (i : Int))) + 11) % 2147483647)))).set 6 (some (V.int ((((c * 48271 + 69621 * (0 + (j : Int) + (0 + (i : Int))) + 11) % 2147483647) * 16807 + ((c * 48271 + 69621 * (0 + (j : Int) + (0 + (i : Int))) + 11) % 2147483647) / 65536) % 2147483629))))[2]? = some (some (.int (0 + (i : Int)))) := by rw [List.getElem?_set_ne (by decide)]; exact k62
        obtain ⟨ms, hm, hml⟩ := nn.hb
        refine ⟨.ref b, n7.s1, .inl ⟨rfl, _, SqL.of hm⟩, _, k7, ((((c * 48271 + 69621 * (0 + (j : Int) + (0 + (i : Int))) + 11) % 2147483647) * 16807 + ((c * 48271 + 69621 * (0 + (j : Int) + (0 + (i : Int))) + 11) % 2147483647) / 65536) % 2147483629), 1009, rfl, rfl, (show (0 : Int) < 1009 by decide), b, _, _, rfl, rfl, hm, by rw [List.length_map, sizeLine_eq]; omega, ?_⟩
        exact ⟨hjt, n7.app hm hml hb (((((c * 48271 + 69621 * (0 + (j : Int) + (0 + (i : Int))) + 11) % 2147483647) * 16807 + ((c * 48271 + 69621 * (0 + (j : Int) + (0 + (i : Int))) + 11) % 2147483647) / 65536) % 2147483629) % 1009), l7, k72, ((c * 48271 + 69621 * (0 + (j : Int) + (0 + (i : Int))) + 11) % 2147483647), k73⟩
      · left
        have hj5 : j = 5 := by omega
        subst hj5
        exact ⟨Nat.le_refl _, hlt, nn.mono (by omega), ll⟩
  · left
    refine ⟨by show M ≤ i; omega, .ref b, hn.s1, ?_⟩
    obtain ⟨ms, hm, _⟩ := hn.hb
    exact q0 b ms H' hb hm hn.ext
end
end Ct
end
end
section
set_option Elab.async false
set_option linter.all false
set_option maxRecDepth 100000
set_option maxHeartbeats 4000000
noncomputable section
namespace Ct
open PySem PySem.Spec PyProof.Rows L2 LamX NdefX
/-! ### calls by mirrors, at any reading -/
def tCl1 (cl : Cl) (f : List U → Option U) (te : TE) : TE := fun σ H Q => te σ H fun x H1 => ∃ F u r, Sb F H1 ∧ Rp cl F u x ∧ f [u] = some r ∧ ∀ F' H' v, Stp F H1 F' H' → Rp cl F' r v → Q v H'
def tCl2 (cl : Cl) (f : List U → Option U) (ta tb : TE) : TE := fun σ H Q => ta σ H fun x H1 => tb σ H1 fun y H2 => ∃ F u w r, Sb F H2 ∧ Rp cl F u x ∧ Rp cl F w y ∧ f [u, w] = some r ∧ ∀ F' H' v, Stp F H2 F' H' → Rp cl F' r v → Q v H'
def tMk1 (cl : Cl) (c : Nat) (f : List U → Option (List U)) (te : TE) : TE := fun σ H Q => te σ H fun x H1 => ∃ F u ws, Sb F H1 ∧ Rp cl F u x ∧ f [u] = some ws ∧ ∀ F' H' v, Stp F H1 F' H' → Rp cl F' (.ins c ws) v → Q v H'
section
variable {X : Cx} {cl : Cl} {k j c : Nat} {x : Str} {f : List U → Option U} {e e2 : Expr} {te te2 : TE} {p pos : Pos}
theorem pe_cl1 (q : Cal X.prog X.w X.K X.mg X.base cl k x 1 [] f) (hr : Room j X.A) (hk : k ≤ j) (hg : Gl X x) (he : PE X e te) (hdb : (x == ("__debug__" : Str)) = false := by decide) (h1 : starEach [e] X.env = (false, eval e X.env) :: starEach [] X.env := by rfl) (hpl : (backTo pos (starEach [] X.env)).any (·.1) = false := by rfl) :
    PE X (.Call (.Name x p) [e] [] pos) (tCl1 cl f te) := by
  obtain ⟨fa, fd, ps, dss, dvs, F, a1, a2, a3, a4, a5⟩ := q.ex
  have hd : dvs = [] := by
    have := a5 fun _ => none
    cases dvs with
    | nil => rfl
    | cons _ _ => simp only [RpL] at this
  subst hd
  refine (pe_call (E := E0) F (hr.mono hk) hg a1 a2 a3 a4 pass0 (pa_cons he pa_nil h1) hdb h1 hpl).wk fun σ H Q h => ?_
  have e0 : (fun (vs : List V) (H1 : Hp) => spF cl 1 f (vs ++ []) H1 Q E0) = fun vs H1 => spF cl 1 f vs H1 Q E0 := by
    funext vs H1
    rw [List.append_nil]
  show te σ H fun x H1 => spF cl 1 f ([x] ++ []) H1 Q E0
  have e1 : (fun (x : V) (H1 : Hp) => spF cl 1 f ([x] ++ []) H1 Q E0) = fun x H1 => ∃ F u r, Sb F H1 ∧ Rp cl F u x ∧ f [u] = some r ∧ ∀ F' H' v, Stp F H1 F' H' → Rp cl F' r v → Q v H' := by
    funext x H1
    refine propext ⟨fun ⟨_, F, us, u, sb, r, e, q⟩ => ?_, fun ⟨F, u, r, sb, ru, e, q⟩ => ⟨rfl, F, [u], r, sb, RpL.one ru, e, q⟩⟩
    cases us with
    | nil => exact absurd r.len (by simp)
    | cons u' us =>
      cases us with
      | nil =>
        have r' : RpL cl F [u'] [x] := r
        simp only [RpL] at r'
        exact ⟨F, u', u, sb, r'.1, e, q⟩
      | cons _ _ => exact absurd r.len (by simp)
  rw [e1]
  exact h
theorem pe_cl2 (q : Cal X.prog X.w X.K X.mg X.base cl k x 2 [] f) (hr : Room j X.A) (hk : k ≤ j) (hg : Gl X x) (he : PE X e te) (he2 : PE X e2 te2) (hdb : (x == ("__debug__" : Str)) = false := by decide) (h1 : starEach [e, e2] X.env = (false, eval e X.env) :: starEach [e2] X.env := by rfl) (h2 : starEach [e2] X.env = (false, eval e2 X.env) :: starEach [] X.env := by rfl)
    (hpl : (backTo pos (starEach [e2] X.env)).any (·.1) = false := by rfl) : PE X (.Call (.Name x p) [e, e2] [] pos) (tCl2 cl f te te2) := by
  obtain ⟨fa, fd, ps, dss, dvs, F, a1, a2, a3, a4, a5⟩ := q.ex
  have hd : dvs = [] := by
    have := a5 fun _ => none
    cases dvs with
    | nil => rfl
    | cons _ _ => simp only [RpL] at this
  subst hd
  refine (pe_call (E := E0) F (hr.mono hk) hg a1 a2 a3 a4 pass0 (pa_cons he (pa_cons he2 pa_nil h2) h1) hdb h1 hpl).wk fun σ H Q h => ?_
  show te σ H fun x H1 => te2 σ H1 fun y H2 => spF cl 2 f ([x, y] ++ []) H2 Q E0
  have e1 : ∀ x : V, (fun (y : V) (H2 : Hp) => spF cl 2 f ([x, y] ++ []) H2 Q E0) = fun y H2 => ∃ F u w r, Sb F H2 ∧ Rp cl F u x ∧ Rp cl F w y ∧ f [u, w] = some r ∧ ∀ F' H' v, Stp F H2 F' H' → Rp cl F' r v → Q v H' := fun x => by
    funext y H1
    refine propext ⟨fun ⟨_, F, us, u, sb, r, e, q⟩ => ?_, fun ⟨F, u, w, r, sb, ru, rw', e, q⟩ => ⟨rfl, F, [u, w], r, sb, by simp only [List.cons_append, List.nil_append, RpL]; exact ⟨ru, rw', trivial⟩, e, q⟩⟩
    rcases us with _ | ⟨u1, _ | ⟨u2, _ | ⟨u3, us⟩⟩⟩ <;> simp only [List.cons_append, List.nil_append, RpL, and_false] at r
    exact ⟨F, u1, u2, u, sb, r.1, r.2.1, e, q⟩
  have e2 : (fun (x : V) (H1 : Hp) => te2 σ H1 fun y H2 => spF cl 2 f ([x, y] ++ []) H2 Q E0) = fun x H1 => te2 σ H1 fun y H2 => ∃ F u w r, Sb F H2 ∧ Rp cl F u x ∧ Rp cl F w y ∧ f [u, w] = some r ∧ ∀ F' H' v, Stp F H2 F' H' → Rp cl F' r v → Q v H' := by
    funext x H1
    rw [e1 x]
  rw [e2]
  exact h
theorem pe_mk1 {f : List U → Option (List U)} (q : Mak X.prog X.w X.K X.mg X.base cl k c x 2 [] f) (hr : Room j X.A) (hk : k + 1 ≤ j) (hg : Gl X x) (he : PE X e te) (hdb : (x == ("__debug__" : Str)) = false := by decide) (h1 : starEach [e] X.env = (false, eval e X.env) :: starEach [] X.env := by rfl) (hpl : (backTo pos (starEach [] X.env)).any (·.1) = false := by rfl) :
    PE X (.Call (.Name x p) [e] [] pos) (tMk1 cl c f te) := by
  obtain ⟨fa, fd, ps, dss, dvs, M, F, a1, a2, a3, a4⟩ := q.ex
  have hd : dvs = [] := by
    have := a4 fun _ => none
    cases dvs with
    | nil => rfl
    | cons _ _ => simp only [RpL] at this
  subst hd
  refine ⟨fun pins s σ H Q I h => ?_⟩
  refine wpAny_Call_Name_kw (ld_glob I hg a1 ?_ hdb)
  refine PySem.W.callWith_K (h₀ := X.base) I.ok.mod.kin M.kp (thn ((pa_cons he pa_nil h1).run pos pins s σ H (at1 fun x H1 => ∃ F u ws, Sb F H1 ∧ Rp cl F u x ∧ f [u] = some ws ∧ ∀ F' H' v, Stp F H1 F' H' → Rp cl F' (.ins c ws) v → Q v H') I h) fun us s1 ⟨vs, H1, I1, r, q⟩ => ⟨I1.kIn, ?_⟩) h1 hpl
  cases vs with
  | nil => exact False.elim q
  | cons v vs =>
    cases vs with
    | cons _ _ => exact False.elim q
    | nil =>
      obtain ⟨F1, u, ws, sb, ru, ew, z⟩ := q
      refine run_make (E := E0) M F (hr.mono hk) a2 a3 pass0 I1 r fun a dx na nd ne => ?_
      refine ⟨rfl, a, dx, [v], H1, F1, [u], ws, rfl, na, nd, ne, rfl, sb, RpL.one ru, ew, fun F2 H2 fs s2 nf hx hn rw' => ⟨rfl, ?_⟩⟩
      refine z (upd F2 a (.ins (cl.k c) dx fs)) H2 (.ref a) ⟨s2.ff.trans (Sb.new nf), ?_, s2.hh, fun b o g => ?_⟩ ?_
      · intro b o g
        by_cases y : b = a
        · subst y; rw [upd_same] at g; cases g; exact hx
        · rw [upd_ne y] at g; exact s2.fh b o g
      · by_cases y : b = a
        · subst y
          exact .inr (fz_none na)
        · rw [upd_ne y] at g; exact s2.new b o g
      · simp only [Rp]
        exact ⟨a, dx, fs, rfl, upd_same, hn, rw'.mono (Sb.new nf)⟩
end
end Ct
end
end
section
set_option Elab.async false
set_option linter.all false
set_option maxRecDepth 100000
set_option maxHeartbeats 4000000
noncomputable section
namespace Ct
open PySem PySem.Spec PyProof.Rows L2 LamX NdefX
/-- what the groups are that the script draws -/
def gT (i : Nat) : U := .ins 1 [.tup (lmap rowU (tabs i))]
def pI (p : List Nat) : U := .tup (p.map fun n => U.int (Int.ofNat n))
def pP (p : List Nat) : U := .ins 0 [pI p]
structure EvG : Prop where
  cyc : ∀ n : Nat, n < 7 → ∃ i, i < 18 ∧ m_cyclic [.int (1 + (n : Int))] = some (gT i)
  dir : ∀ n : Nat, n < 3 → ∃ g h i, i < 18 ∧ m_cyclic [.int 2] = some g ∧ m_cyclic [.int (2 + (n : Int))] = some h ∧ m_direct [g, h] = some (gT i)
  perm : ∀ (M : Nat) (p : List Nat), (M = 3 ∨ M = 4) → p.Perm (List.range M) → m_Permutation___init__ [pI p] = some [pI p]
  pair : ∀ (M : Nat) (p q : List Nat), (M = 3 ∨ M = 4) → p.Perm (List.range M) → q.Perm (List.range M) → ∃ i r, i < 18 ∧ m_from_permutations [.tup [pP p, pP q]] = some (.tup [gT i, r])
def spGroup (cl : Cl) : Sp := fun vs H Q _ => ∃ (p : Addr) (ms : List Int), vs = [.ref p] ∧ H p = some (.lst (List.map V.int ms)) ∧
  ∀ (F' H' : Hp) (v : V) (i : Nat), i < 18 → Sb F' H' → Rp cl F' (.ins 1 [.tbl i]) v → (∀ b o, b ≠ p → H b = some o → H' b = some o) → Q v H'
section
variable {cl : Cl} {F : Hp}
theorem ints_back : ∀ {r : List Nat} {vs : List V}, RpL cl F (r.map fun n => U.int (Int.ofNat n)) vs → vs = rowV r
  | [], [], _ => rfl
  | n :: r, v :: vs, h => by
    have h' : RpL cl F (U.int (Int.ofNat n) :: r.map fun n => U.int (Int.ofNat n)) (v :: vs) := h
    simp only [RpL, Rp] at h'
    rw [h'.1, ints_back h'.2]
    rfl
  | [], _ :: _, h => by
    have h' : RpL cl F [] (_ :: _) := h
    simp only [RpL] at h'
  | _ :: _, [], h => by
    have h' : RpL cl F (_ :: _) [] := h
    simp only [RpL] at h'
theorem rows_back : ∀ {rs : List (List Nat)} {vs : List V}, RpL cl F (rs.map rowU) vs → RowsR F rs vs
  | [], [], _ => trivial
  | r :: rs, v :: vs, h => by
    have h' : RpL cl F (rowU r :: rs.map rowU) (v :: vs) := h
    unfold rowU at h'
    simp only [RpL, Rp] at h'
    obtain ⟨⟨a, ws, h1, h2, h3⟩, h4⟩ := h'
    rw [ints_back h3] at h2
    exact ⟨⟨a, h1, h2⟩, rows_back (by unfold rowU; exact h4)⟩
  | [], _ :: _, h => by
    have h' : RpL cl F [] (_ :: _) := h
    simp only [RpL] at h'
  | _ :: _, [], h => by
    have h' : RpL cl F (_ :: _) [] := h
    simp only [RpL] at h'
theorem gT_tbl {i : Nat} {v : V} (h : Rp cl F (gT i) v) : Rp cl F (.ins 1 [.tbl i]) v := by
  unfold gT at h
  rw [lmap_eq] at h
  simp only [Rp] at h ⊢
  obtain ⟨a, dx, fs, h1, h2, h3, h4⟩ := h
  refine ⟨a, dx, fs, h1, h2, h3, ?_⟩
  generalize fs.map (·.2) = vs at h4 ⊢
  rcases vs with _ | ⟨w, _ | ⟨z, vs⟩⟩ <;> simp only [RpL, and_false] at h4
  simp only [RpL, Rp] at h4 ⊢
  obtain ⟨⟨b, ws, k1, k2, k3⟩, _⟩ := h4
  exact ⟨⟨b, ws, k1, k2, rows_back k3⟩, trivial⟩
end
section
variable {P : Program} {w : World} {K : PySem.W.Frag} {mg : Str → Option Value} {base : Heap} {cl : Cl} {fa : Addr} {fd : FuncData}
def N_law_group : List Str := ["_law_numbers_here", "_law_pick", "_law_m", "_law_one", "_law_two"]
theorem sc_law_group : FnScope N_law_group ["_law_numbers_here"] (defScope (top 92)) := ⟨rfl, rfl, rfl, by decide +kernel, rfl, by decide +kernel, by decide +kernel⟩
theorem ok_law_group (F : FunD K "_law_group" "_law_group" (defArgs (top 92)) (defBody (top 92)) (defScope (top 92)) [] [] fa fd) (g : Gs K mg cl) (ev : EvG) (qn : CalS P w K mg base 1 "_law_next" spNext) (qi : CalS P w K mg base 2 "_law_images" spImages)
    (c_cyclic : Cal P w K mg base cl 6 "cyclic" 1 [] m_cyclic) (c_direct : Cal P w K mg base cl 6 "direct" 2 [] m_direct) (c_fp : Cal P w K mg base cl 6 "from_permutations" 1 [] m_from_permutations) (k_perm : Mak P w K mg base cl 2 0 "Permutation" 2 [] m_Permutation___init__) :
    FnOk P w K mg base CX0 7 fa fd ["_law_numbers_here"] (spGroup cl) := by
  refine F.ok sc_law_group (fun vs H Q E ⟨_, _, h, _⟩ => by rw [h]; rfl) fun cdv A outer s H vs Q E hr h => ?_
  obtain ⟨p, ms, rfl, hp, q0⟩ := h
  obtain ⟨na, nd', qs, NN, b1, b2, b3⟩ := qn.ex
  obtain ⟨ia, id', is, II, d1, d2, d3⟩ := qi.ex
  refine ⟨_, (show PSs (cxOf CX0 P w K mg base N_law_group "_law_group" (defScope (top 92)) fa cdv A outer s H E).nox (defBody (top 92)) _ from
    pss_cons (ps_set (i := 1) sc_law_group.nd rfl (.inl rfl) (pe_call (E := E0) NN (hr.mono (by decide)) rfl b1 b2 b3 .nil pass0 (pa_cons (pe_var (i := 0) rfl (.inl rfl)) (pa_cons pe_int pa_nil))))
    (pss_cons (ps_if (pt_cmpR op_eq (pe_var (i := 1) rfl (.inl rfl)) pe_int (nomark _)) (pss_one (ps_ret (pe_cl1 c_cyclic hr (by decide) rfl (pe_op op_add pe_int (pe_call (E := E0) NN (hr.mono (by decide)) rfl b1 b2 b3 .nil pass0 (pa_cons (pe_var (i := 0) rfl (.inl rfl)) (pa_cons pe_int pa_nil))))))) pss_nil)
    (pss_cons (ps_if (pt_cmpR op_eq (pe_var (i := 1) rfl (.inl rfl)) pe_int (nomark _)) (pss_one (ps_ret (pe_cl2 c_direct hr (by decide) rfl (pe_cl1 c_cyclic hr (by decide) rfl pe_int) (pe_cl1 c_cyclic hr (by decide) rfl (pe_op op_add pe_int (pe_call (E := E0) NN (hr.mono (by decide)) rfl b1 b2 b3 .nil pass0 (pa_cons (pe_var (i := 0) rfl (.inl rfl)) (pa_cons pe_int pa_nil)))))))) pss_nil)
    (pss_cons (ps_set (i := 2) sc_law_group.nd rfl (.inl rfl) (pe_op op_add pe_int (pe_callTy call_int1 rfl g.int PyProof.Rows.boot_int (pa_cons (pe_cmpR op_eq (pe_call (E := E0) NN (hr.mono (by decide)) rfl b1 b2 b3 .nil pass0 (pa_cons (pe_var (i := 0) rfl (.inl rfl)) (pa_cons pe_int pa_nil))) pe_int (nomark _)) pa_nil))))
    (pss_cons (ps_set (i := 3) sc_law_group.nd rfl (.inl rfl) (pe_mk1 k_perm hr (by decide) rfl (pe_call (E := E0) II (hr.mono (by decide)) rfl d1 d2 d3 .nil pass0 (pa_cons (pe_var (i := 0) rfl (.inl rfl)) (pa_cons (pe_var (i := 2) rfl (.inl rfl)) pa_nil)))))
    (pss_cons (ps_set (i := 4) sc_law_group.nd rfl (.inl rfl) (pe_mk1 k_perm hr (by decide) rfl (pe_call (E := E0) II (hr.mono (by decide)) rfl d1 d2 d3 .nil pass0 (pa_cons (pe_var (i := 0) rfl (.inl rfl)) (pa_cons (pe_var (i := 2) rfl (.inl rfl)) pa_nil)))))
    (pss_one (ps_ret (pe_ix ix_tup (pe_cl1 c_fp hr (by decide) rfl (pe_tup (pa_cons (pe_var (i := 3) rfl (.inl rfl)) (pa_cons (pe_var (i := 4) rfl (.inl rfl)) pa_nil)))) pe_int (fun _ _ => rfl)))))))))).nox, ?_⟩
  have sb0 : ∀ G : Hp, Sb (fun _ => none) G := fun G a o q => nomatch (show (none : Option HO) = some o from q)
  have rpi : ∀ (G : Hp) (z : Int), Rp cl G (.int z) (.int z) := fun G z => by simp only [Rp]
  refine ⟨.ref p, rfl, p, 6, ms, rfl, by decide, hp, fun r ms1 h1 h2 => ?_⟩
  have k1 : ∀ b o, b ≠ p → H b = some o → upd H p (.lst (List.map V.int ms1)) b = some o := fun b o n q => by rw [upd_ne n]; exact q
  have hp1 : upd H p (.lst (List.map V.int ms1)) p = some (.lst (List.map V.int ms1)) := upd_same
  revert k1 hp1
  generalize upd H p (.lst (List.map V.int ms1)) = H1
  intro k1 hp1
  refine ⟨.int r, rfl, rfl, _, rfl, ?_⟩
  refine ifb (fun _ => ?_) fun _ => ?_
  · refine ⟨.ref p, rfl, p, 7, ms1, rfl, by decide, hp1, fun r2 ms2 a1 a2 => ?_⟩
    obtain ⟨n, rfl⟩ : ∃ n : Nat, r2 = (n : Int) := ⟨r2.toNat, by omega⟩
    obtain ⟨i, hi, e⟩ := ev.cyc n (by omega)
    refine ⟨1, (n : Int), rfl, rfl, fun _ => none, .int (1 + (n : Int)), gT i, sb0 _, rpi _ _, e, fun F' H' v st rv => q0 F' H' v i hi st.fh (gT_tbl rv) fun b o hn q => st.hh _ _ ?_⟩
    rw [upd_ne hn]
    exact k1 b o hn q
  refine ⟨.int r, rfl, rfl, _, rfl, ?_⟩
  refine ifb (fun _ => ?_) fun _ => ?_
  · obtain ⟨g2, h2', _, _, e1, _, _⟩ := ev.dir 0 (by decide)
    refine ⟨fun _ => none, .int 2, g2, sb0 _, rpi _ _, e1, fun F1 Ha v1 st1 rv1 => ?_⟩
    have fp1 : F1 p = none := new_lst st1 rfl hp1
    refine ⟨.ref p, rfl, p, 3, ms1, rfl, by decide, st1.hh _ _ hp1, fun r2 ms2 a1 a2 => ?_⟩
    obtain ⟨n, rfl⟩ : ∃ n : Nat, r2 = (n : Int) := ⟨r2.toNat, by omega⟩
    obtain ⟨g3, h3, i, hi, e2, e3, e4⟩ := ev.dir n (by omega)
    rw [e1] at e2
    cases e2
    have sb1 : Sb F1 (upd Ha p (.lst (List.map V.int ms2))) := fun b o q => by
      rw [upd_ne (ne_of_none q fp1)]
      exact st1.fh b o q
    refine ⟨2, (n : Int), rfl, rfl, F1, .int (2 + (n : Int)), h3, sb1, rpi _ _, e3, fun F2 Hb v2 st2 rv2 => ?_⟩
    refine ⟨F2, g2, h3, gT i, st2.fh, rv1.mono st2.ff, rv2, e4, fun F3 Hc v st3 rv3 => q0 F3 Hc v i hi st3.fh (gT_tbl rv3) fun b o hn q => st3.hh _ _ (st2.hh _ _ ?_)⟩
    rw [upd_ne hn]
    exact st1.hh _ _ (k1 b o hn q)
  refine ⟨.ref p, rfl, p, 4, ms1, rfl, by decide, hp1, fun r2 ms2 a1 a2 => ⟨rfl, .inr ⟨_, rfl, 3, _, rfl, rfl, ?_⟩⟩⟩
  obtain ⟨M, hM, eM⟩ : ∃ M : Nat, (M = 3 ∨ M = 4) ∧ (3 + (if decide (V.int r2 = V.int 0) = true then (1 : Int) else 0)) = Int.ofNat M := by
    split
    · exact ⟨4, .inr rfl, rfl⟩
    · exact ⟨3, .inl rfl, rfl⟩
  have k2 : ∀ b o, b ≠ p → H b = some o → upd H1 p (.lst (List.map V.int ms2)) b = some o := fun b o n q => by rw [upd_ne n]; exact k1 b o n q
  have hp2 : upd H1 p (.lst (List.map V.int ms2)) p = some (.lst (List.map V.int ms2)) := upd_same
  refine ⟨.ref p, rfl, _, rfl, p, M, ms2, congrArg (fun z => [V.ref p, V.int z]) eM, hM, hp2, fun t pm H3 hpm tn tp ht kp => ?_⟩
  have sb3 : Sb (upd (fun _ => none) t (.tup (rowV pm))) H3 := fun b o q => by
    by_cases z : b = t
    · subst z; rw [upd_same] at q; cases q; exact ht
    · rw [upd_ne z] at q; cases q
  have rI : ∀ (G : Hp) (l : List Nat) (a : Addr), G a = some (.tup (rowV l)) → Rp cl G (pI l) (.ref a) := fun G l a q => by
    unfold pI
    simp only [Rp]
    exact ⟨a, rowV l, rfl, q, ints_rp l⟩
  refine ⟨_, pI pm, [pI pm], sb3, rI _ pm t upd_same, ev.perm M pm hM hpm, fun F2 H4 v1 st1 rv1 => ?_⟩
  obtain ⟨⟨ms3, hp3⟩, kk3⟩ := kp
  have fp2 : F2 p = none := new_lst st1 (by rw [upd_ne (Ne.symm tp)]) hp3
  have hp4 := st1.hh _ _ hp3
  refine ⟨.ref p, rfl, _, rfl, p, M, ms3, congrArg (fun z => [V.ref p, V.int z]) eM, hM, hp4, fun t2 pm2 H5 hpm2 tn2 tp2 ht2 kp2 => ?_⟩
  obtain ⟨⟨ms5, hp5⟩, kk5⟩ := kp2
  have f2t : F2 t2 = none := st1.fh.none tn2
  have sb5 : Sb (upd F2 t2 (.tup (rowV pm2))) H5 := fun b o q => by
    by_cases z : b = t2
    · subst z; rw [upd_same] at q; cases q; exact ht2
    · rw [upd_ne z] at q
      exact kk5 b o (ne_of_none q fp2) (st1.fh b o q)
  refine ⟨_, pI pm2, [pI pm2], sb5, rI _ pm2 t2 upd_same, ev.perm M pm2 hM hpm2, fun F4 H6 v2 st2 rv2 => ?_⟩
  have rv1' : Rp cl F4 (pP pm) v1 := (Rp.mono (Sb.new f2t) rv1).mono st2.ff
  obtain ⟨i, rr, hi, e⟩ := ev.pair M pm pm2 hM hpm hpm2
  refine ⟨v1, rfl, v2, rfl, by show 2 ≤ sizeLine; rw [sizeLine_eq]; decide, fun t3 ht3 => ?_⟩
  have f4t : F4 t3 = none := st2.fh.none ht3
  have x5 : Sb F4 (upd F4 t3 (.tup [v1, v2])) := Sb.new f4t
  refine ⟨upd F4 t3 (.tup [v1, v2]), .tup [pP pm, pP pm2], _, Sb.upd2 st2.fh, ?_, e, fun F6 H7 v st3 rv3 => ?_⟩
  · simp only [Rp]
    refine ⟨t3, [v1, v2], rfl, upd_same, ?_⟩
    simp only [RpL]
    exact ⟨rv1'.mono x5, rv2.mono x5, trivial⟩
  · simp only [Rp] at rv3
    obtain ⟨b, vs, rfl, hb, hr3⟩ := rv3
    rcases vs with _ | ⟨w1, _ | ⟨w2, _ | ⟨w3, vs⟩⟩⟩ <;> simp only [RpL, and_false] at hr3
    refine ⟨b, [w1, w2], 0, w1, rfl, rfl, SqT.of (st3.fh _ _ hb), rfl, q0 F6 H7 w1 i hi st3.fh (gT_tbl hr3.1) fun c o hn q => st3.hh _ _ ?_⟩
    have q6 := st2.hh _ _ (kk5 c o hn (st1.hh _ _ (kk3 c o hn (k2 c o hn q))))
    rw [upd_ne (ne_of_none q6 ht3)]
    exact q6
end
end Ct
end
end
section
set_option Elab.async false
set_option linter.all false
set_option maxRecDepth 100000
set_option maxHeartbeats 4000000
noncomputable section
namespace Ct
open PySem PySem.Spec PyProof.Rows L2 LamX NdefX
/-! ### the law -/
def spLaw (K : PySem.W.Frag) (T : List (Addr × Str)) : Sp := fun vs H Q _ => ∃ (a : Addr) (ns : List Int), vs = [.ref a] ∧ SqL K H a (ns.map V.int) ∧ ns.length < 2 ^ 62 ∧ Tabs T H ∧ ∀ H', Q (.bl true) H'
theorem tabs_but {T : List (Addr × Str)} {H H' : Hp} {p : Addr} {xs : List V} (t : Tabs T H) (hp : H p = some (.lst xs)) (k : ∀ b o, b ≠ p → H b = some o → H' b = some o) : Tabs T H' := fun q hq => by
  obtain ⟨ps, h1, h2, h3⟩ := t q hq
  refine ⟨ps, k _ _ (fun z => by rw [z, hp] at h1; cases h1) h1, h2, fun pos cv hc => ?_⟩
  obtain ⟨c, e1, e2⟩ := h3 pos cv hc
  refine ⟨c, e1, k _ _ (fun z => ?_) e2⟩
  rw [z, hp] at e2
  have e3 := Option.some.inj e2
  unfold CodeO at e3
  cases e3
section
variable {P : Program} {w : World} {K : PySem.W.Frag} {mg : Str → Option Value} {base : Heap} {cl : Cl} {fa : Addr} {fd : FuncData} {P1 P2 : Addr}
theorem ok_law (F : FunD K "law" "law" (defArgs (top 95)) (defBody (top 95)) (defScope (top 95)) [] [] fa fd) (ev : ∀ i, i < 18 → b_law (envL i) = some (.bl true)) (qn : CalS P w K mg base 1 "_law_numbers" (spNumbers K)) (qg : CalS P w K mg base 7 "_law_group" (spGroup cl))
    (tl : ∀ (cdv : Value) (A : Around) (outer : List Env) (s : Shared) (H : Hp) (E : XK), Room 12 (A.deeper (envOfC "law" (defScope (top 95)) s.heap.objs.size fa cdv)) → PSs (cxOf CX0 P w K mg base N_law "law" (defScope (top 95)) fa cdv A outer s H E).nox ((defBody (top 95)).drop 2) (tSN cl (TL P1 P2) b_law)) :
    FnOk P w K mg base CX0 13 fa fd ["_law_script"] (spLaw K (TL P1 P2)) := by
  refine F.ok sc_law (fun vs H Q E ⟨_, _, h, _⟩ => by rw [h]; rfl) fun cdv A outer s H vs Q E hr h => ?_
  obtain ⟨a, ns, rfl, ha, hz, tb, q0⟩ := h
  obtain ⟨na, nd', qs, NN, b1, b2, b3⟩ := qn.ex
  obtain ⟨ia, id', is, II, d1, d2, d3⟩ := qg.ex
  refine ⟨_, (show PSs (cxOf CX0 P w K mg base N_law "law" (defScope (top 95)) fa cdv A outer s H E).nox (defBody (top 95)) _ from
    pss_cons (ps_set (i := 1) sc_law.nd rfl (.inl rfl) (pe_call (E := E0) NN (hr.mono (by decide)) rfl b1 b2 b3 .nil pass0 (pa_cons (pe_var (i := 0) rfl (.inl rfl)) pa_nil)))
    (pss_cons (ps_set (i := 2) sc_law.nd rfl (.inl rfl) (pe_call (E := E0) II (hr.mono (by decide)) rfl d1 d2 d3 .nil pass0 (pa_cons (pe_var (i := 1) rfl (.inl rfl)) pa_nil)))
      (tl cdv A outer s H E hr))).nox, ?_⟩
  refine ⟨.ref a, rfl, a, ns, rfl, ha, hz, fun p ms H1 n1 hp k1 => ?_⟩
  refine ⟨.ref p, rfl, p, ms, rfl, hp, fun F' H' v i hi sb rv k2 => ?_⟩
  have tb1 : Tabs (TL P1 P2) H1 := tb.ext k1
  have nm : ∀ (j : Nat) w, (envL i)[j]? = some w → w.mut = true → False := fun j w hw mw => by
    rcases j with _ | _ | _ | _ | _ | _ | _ | _ | _ | j <;> first | (cases hw; cases mw) | (simp [envL] at hw)
  refine ⟨F', H', F', envL i, .bl true, ⟨⟨sb, rfl, fun j w hw => ?_⟩, Stp.refl sb, fun j w a hw mw _ => (nm j w hw mw).elim, fun j k w z a _ hw _ mw _ _ _ => (nm j w hw mw).elim⟩, tabs_but tb1 hp k2, ev i hi, fun F2 H2 v2 _ rv2 => ?_⟩
  · rcases j with _ | _ | _ | _ | _ | _ | _ | _ | _ | j <;> first | (cases hw; exact .inl rfl) | (cases hw; exact .inr ⟨v, rfl, Rv.of rv⟩) | (simp [envL] at hw)
  · simp only [Rp] at rv2
    subst rv2
    exact q0 H2
end
end Ct
end
end
section
set_option Elab.async false
set_option linter.all false
set_option maxRecDepth 1000000
set_option maxHeartbeats 0
noncomputable section
namespace Ct
open PySem PyProof.Rows
/-! ### the law's evaluation, group by group -/
/-- f at the i-th group alone -/
def isTb (i : Nat) (u : U) : Bool := U.casesOn (motive_1 := fun _ => Bool) u false false (fun _ => false) (fun _ => false) (fun _ => false) (fun _ => false) (fun c fs => Bool.rec false (List.casesOn (motive := fun _ => Bool) fs false fun t r => List.casesOn (motive := fun _ => Bool) r (U.casesOn (motive_1 := fun _ => Bool) t false false (fun _ => false) (fun _ => false) (fun _ => false) (fun _ => false) (fun _ _ => false) (fun j => Nat.beq i j) (fun _ => false) (fun _ _ => false) (fun _ _ => false) (fun _ _ => false)) fun _ _ => false) (Nat.beq 1 c)) (fun _ => false) (fun _ => false) (fun _ _ => false) (fun _ _ => false) (fun _ _ => false)
theorem isTb_eq {i : Nat} {u : U} (h : isTb i u = true) : u = .ins 1 [.tbl i] := by
  cases u with
  | ins c fs =>
    have h1 : (Bool.rec false (List.casesOn (motive := fun _ => Bool) fs false fun t r => List.casesOn (motive := fun _ => Bool) r (U.casesOn (motive_1 := fun _ => Bool) t false false (fun _ => false) (fun _ => false) (fun _ => false) (fun _ => false) (fun _ _ => false) (fun j => Nat.beq i j) (fun _ => false) (fun _ _ => false) (fun _ _ => false) (fun _ _ => false)) fun _ _ => false) (Nat.beq 1 c) : Bool) = true := h
    cases q : Nat.beq 1 c with
    | false => rw [q] at h1; exact nomatch h1
    | true =>
      rw [q] at h1
      have hc := Nat.eq_of_beq_eq_true q
      subst hc
      rcases fs with _ | ⟨t, _ | ⟨_, _⟩⟩
      · exact nomatch h1
      · cases t with
        | tbl j => rw [Nat.eq_of_beq_eq_true (show Nat.beq i j = true from h1)]
        | _ => exact nomatch h1
      · exact nomatch h1
  | _ => exact nomatch (show false = true from h)
def memo (i : Nat) (r : U) : List U → Option U := fA1 fun x => gd (isTb i x) (some r)
theorem memo_les {i : Nat} {r : U} {f : List U → Option U} (h : f [.ins 1 [.tbl i]] = some r) : Les (memo i r) f := fun us u e => by
  rcases us with _ | ⟨x, _ | ⟨_, _⟩⟩
  · exact nomatch e
  · obtain ⟨h1, h2⟩ := gd_some (show gd (isTb i x) (some r) = some u from e)
    rw [isTb_eq h1, h, h2]
  · exact nomatch e
/-! each step says no less when its def does -/
def LesE (m m' : M) : Prop := ∀ env u, m env = some u → m' env = some u
def LesS (m m' : MS) : Prop := ∀ env o, m env = some o → m' env = some o
theorem les_call {f f' : List U → Option U} (l : Les f f') (ms : MA) : LesE (eCall f ms) (eCall f' ms) := fun env u e => by
  obtain ⟨us, eu, e⟩ := ob_some e
  obtain ⟨hf, e⟩ := gd_some e
  show ob (ms env) _ = _
  rw [eu]
  show gd (frz us) (f' us) = _
  rw [hf]
  exact l us u e
theorem les_set {m m' : M} (l : LesE m m') (i : Nat) : LesS (sSet i m) (sSet i m') := fun env o e => by
  obtain ⟨u, eu, e⟩ := ob_some e
  show ob (m' env) _ = _
  rw [l env u eu]
  exact e
theorem les_unp {m m' : M} (l : LesE m m') (i j : Nat) : LesS (sUnp i j m) (sUnp i j m') := fun env o e => by
  obtain ⟨u, eu, e⟩ := ob_some e
  show ob (m' env) _ = _
  rw [l env u eu]
  exact e
theorem les_seq {m m' : MS} (l : LesS m m') (n : MS) : LesS (sSeq m n) (sSeq m' n) := fun env o e => by
  obtain ⟨z, ez, e⟩ := ob_some e
  show ob (m' env) _ = _
  rw [l env z ez]
  exact e
theorem les_run {m m' : MS} (l : LesS m m') (n : Nat) : Les (runF m n) (runF m' n) := fun us u e => by
  obtain ⟨z, ez, e⟩ := ob_some e
  show ob (m' _) _ = _
  rw [l _ z ez]
  exact e
theorem les_cons {m m' : MS} (l : LesS m m') (n : List U → Option U) : Les (mCons m n) (mCons m' n) := fun env u e => by
  obtain ⟨z, ez, e⟩ := ob_some e
  show ob (m' env) _ = _
  rw [l env z ez]
  exact e
theorem les_cons2 (m : MS) {n n' : List U → Option U} (l : Les n n') : Les (mCons m n) (mCons m n') := fun env u e => by
  obtain ⟨z, ez, e⟩ := ob_some e
  show ob (m env) _ = _
  rw [ez]
  cases z with
  | nx env1 => exact l env1 u e
  | rt _ => exact e
  | br _ => exact nomatch e
  | ct _ => exact nomatch e
theorem les_frz (i : Nat) {n n' : List U → Option U} (l : Les n n') : Les (mFrz i n) (mFrz i n') := fun env u e => by
  obtain ⟨z, ez, e⟩ := ob_some e
  obtain ⟨us, es, e⟩ := ob_some e
  show ob (nth env i) _ = _
  rw [ez]
  show ob (asOl z) _ = _
  rw [es]
  exact l _ u e
theorem les_setN (i : Nat) {m m' : M} (l : LesE m m') (n : List U → Option U) : Les (mSetN i m n) (mSetN i m' n) := fun env u e => by
  obtain ⟨hf, e⟩ := gd_some e
  obtain ⟨z, ez, e⟩ := ob_some e
  show gd (frzs env) _ = _
  rw [hf]
  show ob (m' env) _ = _
  rw [l env z ez]
  exact e
theorem les_callN {f f' : List U → Option U} (l : Les f f') (m : M) (g : U → Option U) : LesE (fun env => ob (eCallN f m env) g) (fun env => ob (eCallN f' m env) g) := fun env u e => by
  obtain ⟨z, ez, e⟩ := ob_some e
  obtain ⟨x, ex, ez⟩ := ob_some ez
  obtain ⟨y, ey, ez⟩ := ob_some ez
  have h : eCallN f' m env = some z := by
    show ob (m env) _ = _
    rw [ex]
    show ob (chk x) _ = _
    rw [ey]
    exact l _ _ ez
  show ob (eCallN f' m env) g = _
  rw [h]
  exact e
/-! a table of calls -/
mutual
def ueq : U → U → Bool
  | .int i, .int j => ieq i j
  | .tup xs, .tup ys => ueqL xs ys
  | _, _ => false
def ueqL : List U → List U → Bool
  | [], [] => true
  | x :: xs, y :: ys => Bool.rec false (ueqL xs ys) (ueq x y)
  | _, _ => false
end
mutual
theorem ueq_eq : ∀ (x y : U), ueq x y = true → x = y
  | .int i, y, h => by
    cases y <;> first | exact nomatch (show false = true from h) | skip
    have h2 : ieq i _ = true := h
    rw [ieq_eq] at h2
    exact congrArg U.int (of_decide_eq_true h2)
  | .tup xs, y, h => by
    cases y <;> first | exact nomatch (show false = true from h) | skip
    exact congrArg U.tup (ueqL_eq xs _ h)
  | .no, y, h => by cases y <;> exact nomatch (show false = true from h)
  | .non, y, h => by cases y <;> exact nomatch (show false = true from h)
  | .bl _, y, h => by cases y <;> exact nomatch (show false = true from h)
  | .lst _, y, h => by cases y <;> exact nomatch (show false = true from h)
  | .ins _ _, y, h => by cases y <;> exact nomatch (show false = true from h)
  | .tbl _, y, h => by cases y <;> exact nomatch (show false = true from h)
  | .ol _, y, h => by cases y <;> exact nomatch (show false = true from h)
  | .dk _ _, y, h => by cases y <;> exact nomatch (show false = true from h)
  | .dt _ _, y, h => by cases y <;> exact nomatch (show false = true from h)
  | .oi _ _, y, h => by cases y <;> exact nomatch (show false = true from h)
theorem ueqL_eq : ∀ (xs ys : List U), ueqL xs ys = true → xs = ys
  | [], [], _ => rfl
  | [], _ :: _, h => nomatch (show false = true from h)
  | _ :: _, [], h => nomatch (show false = true from h)
  | x :: xs, y :: ys, h => by
    have h1 : (Bool.rec false (ueqL xs ys) (ueq x y) : Bool) = true := h
    cases q : ueq x y with
    | false => rw [q] at h1; exact nomatch h1
    | true =>
      rw [q] at h1
      rw [ueq_eq x y q, ueqL_eq xs ys h1]
end
def memo2 (key : List U) (r : U) (g : List U → Option U) : List U → Option U := fun us => Bool.rec (g us) (some r) (ueqL key us)
theorem memo2_les {key : List U} {r : U} {f g : List U → Option U} (h : f key = some r) (l : Les g f) : Les (memo2 key r g) f := fun us u e => by
  have e1 : (Bool.rec (g us) (some r) (ueqL key us) : Option U) = some u := e
  cases q : ueqL key us with
  | false => rw [q] at e1; exact l us u e1
  | true =>
    rw [q] at e1
    rw [← ueqL_eq key us q, h]
    exact e1
theorem memo0_les {f : List U → Option U} : Les (fun _ => none) f := fun _ _ e => nomatch e
def LesA (m m' : MA) : Prop := ∀ env us, m env = some us → m' env = some us
theorem les_ac1 {m m' : M} (l : LesE m m') (ms : MA) : LesA (aC m ms) (aC m' ms) := fun env us e => by
  obtain ⟨z, ez, e⟩ := ob_some e
  show ob (m' env) _ = _
  rw [l env z ez]
  exact e
theorem les_ac2 (m : M) {ms ms' : MA} (l : LesA ms ms') : LesA (aC m ms) (aC m ms') := fun env us e => by
  obtain ⟨z, ez, e⟩ := ob_some e
  obtain ⟨y, ey, e⟩ := ob_some e
  show ob (m env) _ = _
  rw [ez]
  show ob (ms' env) _ = _
  rw [l env y ey]
  exact e
theorem les_tup {ms ms' : MA} (l : LesA ms ms') : LesE (eTup ms) (eTup ms') := fun env us e => by
  obtain ⟨z, ez, e⟩ := ob_some e
  show ob (ms' env) _ = _
  rw [l env z ez]
  exact e
theorem les_ret {m m' : M} (l : LesE m m') : LesS (sRet m) (sRet m') := fun env us e => by
  obtain ⟨z, ez, e⟩ := ob_some e
  show ob (m' env) _ = _
  rw [l env z ez]
  exact e
theorem les_own {m m' : MA} (l : LesA m m') (i : Nat) : LesS (sOwn i m) (sOwn i m') := fun env us e => by
  obtain ⟨z, ez, e⟩ := ob_some e
  show ob (m' env) _ = _
  rw [l env z ez]
  exact e
theorem les_l2 (f : U → U → Option (List U)) (a : M) {b b' : M} (l : LesE b b') : LesA (l2 f a b) (l2 f a b') := fun env us e => by
  obtain ⟨z, ez, e⟩ := ob_some e
  obtain ⟨y, ey, e⟩ := ob_some e
  show ob (a env) _ = _
  rw [ez]
  show ob (b' env) _ = _
  rw [l env y ey]
  exact e
theorem les_seq2 (m : MS) {n n' : MS} (l : LesS n n') : LesS (sSeq m n) (sSeq m n') := fun env o e => by
  obtain ⟨z, ez, e⟩ := ob_some e
  show ob (m env) _ = _
  rw [ez]
  cases z with
  | nx env1 => exact l env1 o e
  | rt _ => exact e
  | br _ => exact e
  | ct _ => exact e
theorem les_if2 (c : MT) (m : MS) {n n' : MS} (l : LesS n n') : LesS (sIf c m n) (sIf c m n') := fun env o e => by
  obtain ⟨z, ez, e⟩ := ob_some e
  show ob (c env) _ = _
  rw [ez]
  cases z with
  | false => exact l env o e
  | true => exact e
theorem les_forL {b b' : MS} (l : LesS b b') (t : Tg) : ∀ us : List U, LesS (forL t b us) (forL t b' us)
  | [], _, _, e => e
  | u :: us, env, o, e => by
    obtain ⟨e1, h1, e⟩ := ob_some (show ob (t.put u env) (fun e1 => ob (b e1) fun o => Out.casesOn (motive := fun _ => Option Out) o (forL t b us) (fun u => some (.rt u)) (fun e => some (.nx e)) (forL t b us)) = some o from e)
    obtain ⟨z, h2, e⟩ := ob_some e
    show ob (t.put u env) (fun e1 => ob (b' e1) fun o => Out.casesOn (motive := fun _ => Option Out) o (forL t b' us) (fun u => some (.rt u)) (fun e => some (.nx e)) (forL t b' us)) = _
    rw [h1]
    show ob (b' e1) _ = _
    rw [l e1 z h2]
    cases z with
    | nx e2 => exact les_forL l t us e2 o e
    | rt _ => exact e
    | br _ => exact e
    | ct e2 => exact les_forL l t us e2 o e
theorem les_for (w : MA) (t : Tg) {b b' : MS} (l : LesS b b') : LesS (sFor w t b) (sFor w t b') := fun env o e => by
  obtain ⟨z, ez, e⟩ := ob_some e
  show ob (w env) _ = _
  rw [ez]
  exact les_forL l t z env o e
def spX (f : List U → Option U) : List U → Option U := runF (sSeq (sSet 2 (eCa fLen (aC (eV 0) aN))) (sSeq (sSet 3 (eFz (lDis (aC (eCa fTuple (aC (eFz (lLc (wR1 (aC (eV 2) aN)) (.one 5) tYs (eCa fTuple (aC (eFz (lLc (wR1 (aC (eV 2) aN)) (.one 4) tYs (eCa fInt (aC (e2 fEq (eV 5) (eV 4)) aN)) [4])) aN)) [5])) aN)) aN)))) (sSeq (sFor (wS (eSlT (eV 0) (oS (eC (.int (.ofNat 1)))) oN)) (.one 6) (sSeq (sSet 7 (eCall m_modulo (aC (eV 6) (aC (eV 1) aN)))) (sSeq (sOwn 8 (lDis aN)) (sSeq (sFor (wS (eFz (lCa fList (aC (eV 3) aN)))) (.one 9) (sIf (tB1 (e2 fEq (eCa fLen (aC (eV 9) aN)) (eC (.int (.ofNat 1))))) (sApp 8 (eV 9)) (sOwn 8 (l2 fCat (eV 8) (eCall f (aC (eV 9) (aC (eV 7) (aC (eV 1) aN)))))))) (sFrz 8 (sSet 3 (eV 8))))))) (sRet (eCa fTuple (aC (eFz (lCa (fSort (.a .i)) (aC (eFz (lLc (wS (eV 3)) (.one 9) tYs (eCall m_normalised (aC (eV 9) (aC (eV 1) aN))) [9])) aN))) aN)))))) 8
def paX (f : List U → Option U) : List U → Option U := runF (sSeq (sSet 3 (eCa fLen (aC (eV 1) aN))) (sSeq (sSet 4 (eFz (lLc (wS (eV 0)) (.one 5) tYs (eCall m_times (aC (eV 1) (aC (eV 5) (aC (eV 2) aN)))) [5]))) (sSeq (sOwn 6 (lDis aN)) (sSeq (sFor (wR1 (aC (eV 2) aN)) (.one 7) (sSeq (sOwn 8 (lDis aN)) (sSeq (sFor (wR1 (aC (eV 3) aN)) (.one 9) (sApp 8 (eCa fTuple (aC (eFz (lLc (wR1 (aC (eCa fLen (aC (eV 0) aN)) aN)) (.one 10) tYs (e2 fMod (e2 fSub (e2 fIx (e2 fIx (eV 4) (eV 10)) (eV 9)) (e2 fMul (eV 7) (e2 fIx (e2 fIx (eV 0) (eV 10)) (eV 9)))) (eV 2)) [10])) aN)))) (sSeq (sSet 11 (eCall f (aC (eCa fTuple (aC (eV 8) aN)) (aC (eCa fLen (aC (eV 0) aN)) (aC (eV 2) aN))))) (sIf (tB1 (e2 fGt (eCa fLen (aC (eV 11) aN)) (eC (.int (.ofNat 0))))) (sApp 6 (eCa fTuple (aC (eFz (lLc (wS (eV 11)) (.one 12) tYs (eCall m_before (aC (eV 12) (aC (eV 0) (aC (eV 3) (aC (eV 2) aN))))) [12])) aN))) sPass))))) (sFrz 6 (sRet (eV 6))))))) 10
theorem paX_les {f : List U → Option U} (l : Les f m_kernel_modular) : Les (paX f) m_parts := les_run (les_seq2 _ (les_seq2 _ (les_seq2 _ (les_seq (les_for _ _ (les_seq2 _ (les_seq2 _ (les_seq (les_set (les_call l _) _) _)))) _)))) _
def mrX (f : List U → Option U) : List U → Option U := runF (sSeq (sSet 1 (eCall m_prime_of (aC (eCa (fLenO 1 m_Group___len__) (aC (eV 0) aN)) (aC (eMeth 1 m_Group_exponent (eV 0) aN) aN)))) (sRet (eTup (aC (eV 1) (aC (eCall f (aC (eCall m_class_matrices (aC (eV 0) aN)) (aC (eV 1) aN))) aN))))) 1
theorem spX_les {f : List U → Option U} (l : Les f m_parts) : Les (spX f) m_split := les_run (les_seq2 _ (les_seq2 _ (les_seq (les_for _ _ (les_seq2 _ (les_seq2 _ (les_seq (les_for _ _ (les_if2 _ _ (les_own (les_l2 _ _ (les_call l _)) _))) _)))) _))) _
theorem mrX_les {f : List U → Option U} (l : Les f m_split) : Les (mrX f) m_modular_rows := les_run (les_seq2 _ (les_ret (les_tup (les_ac2 _ (les_ac1 (les_call l _) _))))) _
def chX (f : List U → Option U) : List U → Option U := runF (sSeq (sUnp 1 2 (eCall f (aC (eV 0) aN))) (sSeq (sOwn 3 (lDis aN)) (sSeq (sFor (wS (eV 2)) (.one 4) (sSeq (sSet 5 (eCall m_lifted (aC (eV 0) (aC (eV 1) (aC (eCall m_modular_character (aC (eV 0) (aC (eV 1) (aC (eV 4) aN)))) aN))))) (sApp 3 (eTup (aC (eCall m_degree_of (aC (eV 0) (aC (eV 1) (aC (eV 4) aN)))) (aC (eV 5) aN)))))) (sRet (eCa fTuple (aC (eV 3) aN)))))) 5
def ctX (f : List U → Option U) : List U → Option U := runN (mCons (sSet 1 (eCall f (aC (eV 0) aN))) (mCons (sSet 2 (eCa fTuple (aC (eFz (l2 fRep (eFz (lDis (aC (eCall m_of_integer (aC (eC (.int (.ofNat 1))) aN)) aN))) (eCa fLen (aC (eV 1) aN)))) aN))) (mCons (sSet 3 (eFz (lLc (wS (eV 1)) (.one 4) (tB1 (e2 (fTNe m_Cyclo___eq__) (e2 fIx (eV 4) (eC (.int (.ofNat 1)))) (eV 2))) (eV 4) [4]))) (mSort [] (.t2 .i (.a (.t3 .i (.a .i) .i))) f_character_table_lam 3 (eV 3) (mLast (sRet (eMake 3 m_CharacterTable___init__ [] (aC (eV 0) (aC (eFz (l2 fCat (eFz (lDis (aC (eV 2) aN))) (eFz (lLc (wS (eV 3)) (.two 5 6) tYs (eV 6) [5, 6])))) aN))))))))) 6
def lwX (f : List U → Option U) : List U → Option U := (mCons (sSet 3 (eCall m_classes (aC (eV 2) aN))) (mCons (sIf (tB1 (e2 fGt (eCa fLen (aC (eV 3) aN)) (eC (.int (.ofNat 8))))) (sRet (eC (.bl true))) sPass) (mCons (sOwn 4 (lDis aN)) (mCons (sFor (wS (eCall m__law_sets (aC (eCa fLen (aC (eV 3) aN)) aN))) (.one 5) (sSeq (sSet 6 (eCa fSum (aC (eFz (lLc (wS (eV 5)) (.one 7) tYs (eCa fLen (aC (e2 fIx (eV 3) (eV 7)) aN)) [7])) aN))) (sIf (tAn (tB1 (e2 fEq (e2 fMod (eCa (fLenO 1 m_Group___len__) (aC (eV 2) aN)) (eV 6)) (eC (.int (.ofNat 0))))) (tB1 (eCall m__law_closed (aC (eV 2) (aC (eV 3) (aC (eV 5) aN)))))) (sApp 4 (eTup (aC (eV 6) (aC (eV 5) aN)))) sPass))) (mFrz 4 (mSetN 8 (fun env => ob (eCallN f (eV 2) env) fun u => m_normal_subgroups [u]) (mLast (sRet (e2 (fEqD (.l (.a .i))) (eFz (lCa fList (aC (eV 8) aN))) (eFz (lLc (wS (eFz (lCa (fSort (.t2 .i (.a .i))) (aC (eV 4) aN)))) (.two 6 5) tYs (eV 5) [6, 5])))))))))))
theorem chX_les {f : List U → Option U} (l : Les f m_modular_rows) : Les (chX f) m_characters := les_run (les_seq (les_unp (les_call l _) _ _) _) _
theorem ctX_les {f : List U → Option U} (l : Les f m_characters) : Les (ctX f) m_character_table := fun us u e => les_cons (les_set (les_call l _) _) _ _ u e
theorem lwX_les {f : List U → Option U} (l : Les f m_character_table) : Les (lwX f) b_law := les_cons2 _ (les_cons2 _ (les_cons2 _ (les_cons2 _ (les_frz _ (les_setN _ (les_callN l _ _) _)))))
theorem ev_0 : b_law (envL 0) = some (.bl true) := by kernel_rfl
theorem ev_1 : b_law (envL 1) = some (.bl true) := by kernel_rfl
theorem ev_2 : b_law (envL 2) = some (.bl true) := by kernel_rfl
theorem ev_3 : b_law (envL 3) = some (.bl true) := by kernel_rfl
theorem ev_4 : b_law (envL 4) = some (.bl true) := by kernel_rfl
theorem ev_5 : b_law (envL 5) = some (.bl true) := by kernel_rfl
theorem ev_6 : b_law (envL 6) = some (.bl true) := by kernel_rfl
theorem ev_7 : b_law (envL 7) = some (.bl true) := by kernel_rfl
theorem ev_8 : b_law (envL 8) = some (.bl true) := by kernel_rfl
theorem ev_9 : b_law (envL 9) = some (.bl true) := by kernel_rfl
theorem ev_10 : b_law (envL 10) = some (.bl true) := by kernel_rfl
def mr11 : U := (.tup [(.int (.ofNat 29)), (.tup [(.tup [(.int (.ofNat 1)), (.int (.ofNat 1)), (.int (.ofNat 1)), (.int (.ofNat 1)), (.int (.ofNat 1)), (.int (.ofNat 1)), (.int (.ofNat 1))]), (.tup [(.int (.ofNat 1)), (.int (.ofNat 7)), (.int (.ofNat 20)), (.int (.ofNat 24)), (.int (.ofNat 23)), (.int (.ofNat 16)), (.int (.ofNat 25))]), (.tup [(.int (.ofNat 1)), (.int (.ofNat 16)), (.int (.ofNat 24)), (.int (.ofNat 7)), (.int (.ofNat 25)), (.int (.ofNat 23)), (.int (.ofNat 20))]), (.tup [(.int (.ofNat 1)), (.int (.ofNat 20)), (.int (.ofNat 23)), (.int (.ofNat 25)), (.int (.ofNat 7)), (.int (.ofNat 24)), (.int (.ofNat 16))]), (.tup [(.int (.ofNat 1)), (.int (.ofNat 23)), (.int (.ofNat 7)), (.int (.ofNat 16)), (.int (.ofNat 20)), (.int (.ofNat 25)), (.int (.ofNat 24))]), (.tup [(.int (.ofNat 1)), (.int (.ofNat 24)), (.int (.ofNat 25)), (.int (.ofNat 20)), (.int (.ofNat 16)), (.int (.ofNat 7)), (.int (.ofNat 23))]), (.tup [(.int (.ofNat 1)), (.int (.ofNat 25)), (.int (.ofNat 16)), (.int (.ofNat 23)), (.int (.ofNat 24)), (.int (.ofNat 20)), (.int (.ofNat 7))])])])
def ch11 : U := (.tup [(.tup [(.int (.ofNat 1)), (.tup [(.ins 2 [(.int (.ofNat 1)), (.tup [(.int (.ofNat 1))]), (.int (.ofNat 1))]), (.ins 2 [(.int (.ofNat 1)), (.tup [(.int (.ofNat 1))]), (.int (.ofNat 1))]), (.ins 2 [(.int (.ofNat 1)), (.tup [(.int (.ofNat 1))]), (.int (.ofNat 1))]), (.ins 2 [(.int (.ofNat 1)), (.tup [(.int (.ofNat 1))]), (.int (.ofNat 1))]), (.ins 2 [(.int (.ofNat 1)), (.tup [(.int (.ofNat 1))]), (.int (.ofNat 1))]), (.ins 2 [(.int (.ofNat 1)), (.tup [(.int (.ofNat 1))]), (.int (.ofNat 1))]), (.ins 2 [(.int (.ofNat 1)), (.tup [(.int (.ofNat 1))]), (.int (.ofNat 1))])])]), (.tup [(.int (.ofNat 1)), (.tup [(.ins 2 [(.int (.ofNat 1)), (.tup [(.int (.ofNat 1))]), (.int (.ofNat 1))]), (.ins 2 [(.int (.ofNat 7)), (.tup [(.int (.ofNat 0)), (.int (.ofNat 1)), (.int (.ofNat 0)), (.int (.ofNat 0)), (.int (.ofNat 0)), (.int (.ofNat 0))]), (.int (.ofNat 1))]), (.ins 2 [(.int (.ofNat 7)), (.tup [(.int (.ofNat 0)), (.int (.ofNat 0)), (.int (.ofNat 1)), (.int (.ofNat 0)), (.int (.ofNat 0)), (.int (.ofNat 0))]), (.int (.ofNat 1))]), (.ins 2 [(.int (.ofNat 7)), (.tup [(.int (.ofNat 0)), (.int (.ofNat 0)), (.int (.ofNat 0)), (.int (.ofNat 1)), (.int (.ofNat 0)), (.int (.ofNat 0))]), (.int (.ofNat 1))]), (.ins 2 [(.int (.ofNat 7)), (.tup [(.int (.ofNat 0)), (.int (.ofNat 0)), (.int (.ofNat 0)), (.int (.ofNat 0)), (.int (.ofNat 1)), (.int (.ofNat 0))]), (.int (.ofNat 1))]), (.ins 2 [(.int (.ofNat 7)), (.tup [(.int (.ofNat 0)), (.int (.ofNat 0)), (.int (.ofNat 0)), (.int (.ofNat 0)), (.int (.ofNat 0)), (.int (.ofNat 1))]), (.int (.ofNat 1))]), (.ins 2 [(.int (.ofNat 7)), (.tup [(.int (.negSucc 0)), (.int (.negSucc 0)), (.int (.negSucc 0)), (.int (.negSucc 0)), (.int (.negSucc 0)), (.int (.negSucc 0))]), (.int (.ofNat 1))])])]), (.tup [(.int (.ofNat 1)), (.tup [(.ins 2 [(.int (.ofNat 1)), (.tup [(.int (.ofNat 1))]), (.int (.ofNat 1))]), (.ins 2 [(.int (.ofNat 7)), (.tup [(.int (.ofNat 0)), (.int (.ofNat 0)), (.int (.ofNat 0)), (.int (.ofNat 0)), (.int (.ofNat 0)), (.int (.ofNat 1))]), (.int (.ofNat 1))]), (.ins 2 [(.int (.ofNat 7)), (.tup [(.int (.ofNat 0)), (.int (.ofNat 0)), (.int (.ofNat 0)), (.int (.ofNat 1)), (.int (.ofNat 0)), (.int (.ofNat 0))]), (.int (.ofNat 1))]), (.ins 2 [(.int (.ofNat 7)), (.tup [(.int (.ofNat 0)), (.int (.ofNat 1)), (.int (.ofNat 0)), (.int (.ofNat 0)), (.int (.ofNat 0)), (.int (.ofNat 0))]), (.int (.ofNat 1))]), (.ins 2 [(.int (.ofNat 7)), (.tup [(.int (.negSucc 0)), (.int (.negSucc 0)), (.int (.negSucc 0)), (.int (.negSucc 0)), (.int (.negSucc 0)), (.int (.negSucc 0))]), (.int (.ofNat 1))]), (.ins 2 [(.int (.ofNat 7)), (.tup [(.int (.ofNat 0)), (.int (.ofNat 0)), (.int (.ofNat 0)), (.int (.ofNat 0)), (.int (.ofNat 1)), (.int (.ofNat 0))]), (.int (.ofNat 1))]), (.ins 2 [(.int (.ofNat 7)), (.tup [(.int (.ofNat 0)), (.int (.ofNat 0)), (.int (.ofNat 1)), (.int (.ofNat 0)), (.int (.ofNat 0)), (.int (.ofNat 0))]), (.int (.ofNat 1))])])]), (.tup [(.int (.ofNat 1)), (.tup [(.ins 2 [(.int (.ofNat 1)), (.tup [(.int (.ofNat 1))]), (.int (.ofNat 1))]), (.ins 2 [(.int (.ofNat 7)), (.tup [(.int (.ofNat 0)), (.int (.ofNat 0)), (.int (.ofNat 1)), (.int (.ofNat 0)), (.int (.ofNat 0)), (.int (.ofNat 0))]), (.int (.ofNat 1))]), (.ins 2 [(.int (.ofNat 7)), (.tup [(.int (.ofNat 0)), (.int (.ofNat 0)), (.int (.ofNat 0)), (.int (.ofNat 0)), (.int (.ofNat 1)), (.int (.ofNat 0))]), (.int (.ofNat 1))]), (.ins 2 [(.int (.ofNat 7)), (.tup [(.int (.negSucc 0)), (.int (.negSucc 0)), (.int (.negSucc 0)), (.int (.negSucc 0)), (.int (.negSucc 0)), (.int (.negSucc 0))]), (.int (.ofNat 1))]), (.ins 2 [(.int (.ofNat 7)), (.tup [(.int (.ofNat 0)), (.int (.ofNat 1)), (.int (.ofNat 0)), (.int (.ofNat 0)), (.int (.ofNat 0)), (.int (.ofNat 0))]), (.int (.ofNat 1))]), (.ins 2 [(.int (.ofNat 7)), (.tup [(.int (.ofNat 0)), (.int (.ofNat 0)), (.int (.ofNat 0)), (.int (.ofNat 1)), (.int (.ofNat 0)), (.int (.ofNat 0))]), (.int (.ofNat 1))]), (.ins 2 [(.int (.ofNat 7)), (.tup [(.int (.ofNat 0)), (.int (.ofNat 0)), (.int (.ofNat 0)), (.int (.ofNat 0)), (.int (.ofNat 0)), (.int (.ofNat 1))]), (.int (.ofNat 1))])])]), (.tup [(.int (.ofNat 1)), (.tup [(.ins 2 [(.int (.ofNat 1)), (.tup [(.int (.ofNat 1))]), (.int (.ofNat 1))]), (.ins 2 [(.int (.ofNat 7)), (.tup [(.int (.ofNat 0)), (.int (.ofNat 0)), (.int (.ofNat 0)), (.int (.ofNat 0)), (.int (.ofNat 1)), (.int (.ofNat 0))]), (.int (.ofNat 1))]), (.ins 2 [(.int (.ofNat 7)), (.tup [(.int (.ofNat 0)), (.int (.ofNat 1)), (.int (.ofNat 0)), (.int (.ofNat 0)), (.int (.ofNat 0)), (.int (.ofNat 0))]), (.int (.ofNat 1))]), (.ins 2 [(.int (.ofNat 7)), (.tup [(.int (.ofNat 0)), (.int (.ofNat 0)), (.int (.ofNat 0)), (.int (.ofNat 0)), (.int (.ofNat 0)), (.int (.ofNat 1))]), (.int (.ofNat 1))]), (.ins 2 [(.int (.ofNat 7)), (.tup [(.int (.ofNat 0)), (.int (.ofNat 0)), (.int (.ofNat 1)), (.int (.ofNat 0)), (.int (.ofNat 0)), (.int (.ofNat 0))]), (.int (.ofNat 1))]), (.ins 2 [(.int (.ofNat 7)), (.tup [(.int (.negSucc 0)), (.int (.negSucc 0)), (.int (.negSucc 0)), (.int (.negSucc 0)), (.int (.negSucc 0)), (.int (.negSucc 0))]), (.int (.ofNat 1))]), (.ins 2 [(.int (.ofNat 7)), (.tup [(.int (.ofNat 0)), (.int (.ofNat 0)), (.int (.ofNat 0)), (.int (.ofNat 1)), (.int (.ofNat 0)), (.int (.ofNat 0))]), (.int (.ofNat 1))])])]), (.tup [(.int (.ofNat 1)), (.tup [(.ins 2 [(.int (.ofNat 1)), (.tup [(.int (.ofNat 1))]), (.int (.ofNat 1))]), (.ins 2 [(.int (.ofNat 7)), (.tup [(.int (.ofNat 0)), (.int (.ofNat 0)), (.int (.ofNat 0)), (.int (.ofNat 1)), (.int (.ofNat 0)), (.int (.ofNat 0))]), (.int (.ofNat 1))]), (.ins 2 [(.int (.ofNat 7)), (.tup [(.int (.negSucc 0)), (.int (.negSucc 0)), (.int (.negSucc 0)), (.int (.negSucc 0)), (.int (.negSucc 0)), (.int (.negSucc 0))]), (.int (.ofNat 1))]), (.ins 2 [(.int (.ofNat 7)), (.tup [(.int (.ofNat 0)), (.int (.ofNat 0)), (.int (.ofNat 1)), (.int (.ofNat 0)), (.int (.ofNat 0)), (.int (.ofNat 0))]), (.int (.ofNat 1))]), (.ins 2 [(.int (.ofNat 7)), (.tup [(.int (.ofNat 0)), (.int (.ofNat 0)), (.int (.ofNat 0)), (.int (.ofNat 0)), (.int (.ofNat 0)), (.int (.ofNat 1))]), (.int (.ofNat 1))]), (.ins 2 [(.int (.ofNat 7)), (.tup [(.int (.ofNat 0)), (.int (.ofNat 1)), (.int (.ofNat 0)), (.int (.ofNat 0)), (.int (.ofNat 0)), (.int (.ofNat 0))]), (.int (.ofNat 1))]), (.ins 2 [(.int (.ofNat 7)), (.tup [(.int (.ofNat 0)), (.int (.ofNat 0)), (.int (.ofNat 0)), (.int (.ofNat 0)), (.int (.ofNat 1)), (.int (.ofNat 0))]), (.int (.ofNat 1))])])]), (.tup [(.int (.ofNat 1)), (.tup [(.ins 2 [(.int (.ofNat 1)), (.tup [(.int (.ofNat 1))]), (.int (.ofNat 1))]), (.ins 2 [(.int (.ofNat 7)), (.tup [(.int (.negSucc 0)), (.int (.negSucc 0)), (.int (.negSucc 0)), (.int (.negSucc 0)), (.int (.negSucc 0)), (.int (.negSucc 0))]), (.int (.ofNat 1))]), (.ins 2 [(.int (.ofNat 7)), (.tup [(.int (.ofNat 0)), (.int (.ofNat 0)), (.int (.ofNat 0)), (.int (.ofNat 0)), (.int (.ofNat 0)), (.int (.ofNat 1))]), (.int (.ofNat 1))]), (.ins 2 [(.int (.ofNat 7)), (.tup [(.int (.ofNat 0)), (.int (.ofNat 0)), (.int (.ofNat 0)), (.int (.ofNat 0)), (.int (.ofNat 1)), (.int (.ofNat 0))]), (.int (.ofNat 1))]), (.ins 2 [(.int (.ofNat 7)), (.tup [(.int (.ofNat 0)), (.int (.ofNat 0)), (.int (.ofNat 0)), (.int (.ofNat 1)), (.int (.ofNat 0)), (.int (.ofNat 0))]), (.int (.ofNat 1))]), (.ins 2 [(.int (.ofNat 7)), (.tup [(.int (.ofNat 0)), (.int (.ofNat 0)), (.int (.ofNat 1)), (.int (.ofNat 0)), (.int (.ofNat 0)), (.int (.ofNat 0))]), (.int (.ofNat 1))]), (.ins 2 [(.int (.ofNat 7)), (.tup [(.int (.ofNat 0)), (.int (.ofNat 1)), (.int (.ofNat 0)), (.int (.ofNat 0)), (.int (.ofNat 0)), (.int (.ofNat 0))]), (.int (.ofNat 1))])])])])
def pa11_0 : List U := [(.tup [(.tup [(.int (.ofNat 1)), (.int (.ofNat 0)), (.int (.ofNat 0)), (.int (.ofNat 0)), (.int (.ofNat 0)), (.int (.ofNat 0)), (.int (.ofNat 0))]), (.tup [(.int (.ofNat 0)), (.int (.ofNat 1)), (.int (.ofNat 0)), (.int (.ofNat 0)), (.int (.ofNat 0)), (.int (.ofNat 0)), (.int (.ofNat 0))]), (.tup [(.int (.ofNat 0)), (.int (.ofNat 0)), (.int (.ofNat 1)), (.int (.ofNat 0)), (.int (.ofNat 0)), (.int (.ofNat 0)), (.int (.ofNat 0))]), (.tup [(.int (.ofNat 0)), (.int (.ofNat 0)), (.int (.ofNat 0)), (.int (.ofNat 1)), (.int (.ofNat 0)), (.int (.ofNat 0)), (.int (.ofNat 0))]), (.tup [(.int (.ofNat 0)), (.int (.ofNat 0)), (.int (.ofNat 0)), (.int (.ofNat 0)), (.int (.ofNat 1)), (.int (.ofNat 0)), (.int (.ofNat 0))]), (.tup [(.int (.ofNat 0)), (.int (.ofNat 0)), (.int (.ofNat 0)), (.int (.ofNat 0)), (.int (.ofNat 0)), (.int (.ofNat 1)), (.int (.ofNat 0))]), (.tup [(.int (.ofNat 0)), (.int (.ofNat 0)), (.int (.ofNat 0)), (.int (.ofNat 0)), (.int (.ofNat 0)), (.int (.ofNat 0)), (.int (.ofNat 1))])]), (.tup [(.tup [(.int (.ofNat 0)), (.int (.ofNat 1)), (.int (.ofNat 0)), (.int (.ofNat 0)), (.int (.ofNat 0)), (.int (.ofNat 0)), (.int (.ofNat 0))]), (.tup [(.int (.ofNat 0)), (.int (.ofNat 0)), (.int (.ofNat 1)), (.int (.ofNat 0)), (.int (.ofNat 0)), (.int (.ofNat 0)), (.int (.ofNat 0))]), (.tup [(.int (.ofNat 0)), (.int (.ofNat 0)), (.int (.ofNat 0)), (.int (.ofNat 1)), (.int (.ofNat 0)), (.int (.ofNat 0)), (.int (.ofNat 0))]), (.tup [(.int (.ofNat 0)), (.int (.ofNat 0)), (.int (.ofNat 0)), (.int (.ofNat 0)), (.int (.ofNat 1)), (.int (.ofNat 0)), (.int (.ofNat 0))]), (.tup [(.int (.ofNat 0)), (.int (.ofNat 0)), (.int (.ofNat 0)), (.int (.ofNat 0)), (.int (.ofNat 0)), (.int (.ofNat 1)), (.int (.ofNat 0))]), (.tup [(.int (.ofNat 0)), (.int (.ofNat 0)), (.int (.ofNat 0)), (.int (.ofNat 0)), (.int (.ofNat 0)), (.int (.ofNat 0)), (.int (.ofNat 1))]), (.tup [(.int (.ofNat 1)), (.int (.ofNat 0)), (.int (.ofNat 0)), (.int (.ofNat 0)), (.int (.ofNat 0)), (.int (.ofNat 0)), (.int (.ofNat 0))])]), (.int (.ofNat 29))]
def pr11_0 : U := (.lst [(.tup [(.tup [(.int (.ofNat 1)), (.int (.ofNat 1)), (.int (.ofNat 1)), (.int (.ofNat 1)), (.int (.ofNat 1)), (.int (.ofNat 1)), (.int (.ofNat 1))])]), (.tup [(.tup [(.int (.ofNat 7)), (.int (.ofNat 20)), (.int (.ofNat 24)), (.int (.ofNat 23)), (.int (.ofNat 16)), (.int (.ofNat 25)), (.int (.ofNat 1))])]), (.tup [(.tup [(.int (.ofNat 16)), (.int (.ofNat 24)), (.int (.ofNat 7)), (.int (.ofNat 25)), (.int (.ofNat 23)), (.int (.ofNat 20)), (.int (.ofNat 1))])]), (.tup [(.tup [(.int (.ofNat 20)), (.int (.ofNat 23)), (.int (.ofNat 25)), (.int (.ofNat 7)), (.int (.ofNat 24)), (.int (.ofNat 16)), (.int (.ofNat 1))])]), (.tup [(.tup [(.int (.ofNat 23)), (.int (.ofNat 7)), (.int (.ofNat 16)), (.int (.ofNat 20)), (.int (.ofNat 25)), (.int (.ofNat 24)), (.int (.ofNat 1))])]), (.tup [(.tup [(.int (.ofNat 24)), (.int (.ofNat 25)), (.int (.ofNat 20)), (.int (.ofNat 16)), (.int (.ofNat 7)), (.int (.ofNat 23)), (.int (.ofNat 1))])]), (.tup [(.tup [(.int (.ofNat 25)), (.int (.ofNat 16)), (.int (.ofNat 23)), (.int (.ofNat 24)), (.int (.ofNat 20)), (.int (.ofNat 7)), (.int (.ofNat 1))])])])
theorem kt11_0_0 : m_kernel_modular [(.tup [(.tup [(.int (.ofNat 0)), (.int (.ofNat 1)), (.int (.ofNat 0)), (.int (.ofNat 0)), (.int (.ofNat 0)), (.int (.ofNat 0)), (.int (.ofNat 0))]), (.tup [(.int (.ofNat 0)), (.int (.ofNat 0)), (.int (.ofNat 1)), (.int (.ofNat 0)), (.int (.ofNat 0)), (.int (.ofNat 0)), (.int (.ofNat 0))]), (.tup [(.int (.ofNat 0)), (.int (.ofNat 0)), (.int (.ofNat 0)), (.int (.ofNat 1)), (.int (.ofNat 0)), (.int (.ofNat 0)), (.int (.ofNat 0))]), (.tup [(.int (.ofNat 0)), (.int (.ofNat 0)), (.int (.ofNat 0)), (.int (.ofNat 0)), (.int (.ofNat 1)), (.int (.ofNat 0)), (.int (.ofNat 0))]), (.tup [(.int (.ofNat 0)), (.int (.ofNat 0)), (.int (.ofNat 0)), (.int (.ofNat 0)), (.int (.ofNat 0)), (.int (.ofNat 1)), (.int (.ofNat 0))]), (.tup [(.int (.ofNat 0)), (.int (.ofNat 0)), (.int (.ofNat 0)), (.int (.ofNat 0)), (.int (.ofNat 0)), (.int (.ofNat 0)), (.int (.ofNat 1))]), (.tup [(.int (.ofNat 1)), (.int (.ofNat 0)), (.int (.ofNat 0)), (.int (.ofNat 0)), (.int (.ofNat 0)), (.int (.ofNat 0)), (.int (.ofNat 0))])]), (.int (.ofNat 7)), (.int (.ofNat 29))] = some (.tup []) := by kernel_rfl
theorem kt11_0_1 : m_kernel_modular [(.tup [(.tup [(.int (.ofNat 28)), (.int (.ofNat 1)), (.int (.ofNat 0)), (.int (.ofNat 0)), (.int (.ofNat 0)), (.int (.ofNat 0)), (.int (.ofNat 0))]), (.tup [(.int (.ofNat 0)), (.int (.ofNat 28)), (.int (.ofNat 1)), (.int (.ofNat 0)), (.int (.ofNat 0)), (.int (.ofNat 0)), (.int (.ofNat 0))]), (.tup [(.int (.ofNat 0)), (.int (.ofNat 0)), (.int (.ofNat 28)), (.int (.ofNat 1)), (.int (.ofNat 0)), (.int (.ofNat 0)), (.int (.ofNat 0))]), (.tup [(.int (.ofNat 0)), (.int (.ofNat 0)), (.int (.ofNat 0)), (.int (.ofNat 28)), (.int (.ofNat 1)), (.int (.ofNat 0)), (.int (.ofNat 0))]), (.tup [(.int (.ofNat 0)), (.int (.ofNat 0)), (.int (.ofNat 0)), (.int (.ofNat 0)), (.int (.ofNat 28)), (.int (.ofNat 1)), (.int (.ofNat 0))]), (.tup [(.int (.ofNat 0)), (.int (.ofNat 0)), (.int (.ofNat 0)), (.int (.ofNat 0)), (.int (.ofNat 0)), (.int (.ofNat 28)), (.int (.ofNat 1))]), (.tup [(.int (.ofNat 1)), (.int (.ofNat 0)), (.int (.ofNat 0)), (.int (.ofNat 0)), (.int (.ofNat 0)), (.int (.ofNat 0)), (.int (.ofNat 28))])]), (.int (.ofNat 7)), (.int (.ofNat 29))] = some (.tup [(.tup [(.int (.ofNat 1)), (.int (.ofNat 1)), (.int (.ofNat 1)), (.int (.ofNat 1)), (.int (.ofNat 1)), (.int (.ofNat 1)), (.int (.ofNat 1))])]) := by kernel_rfl
theorem kt11_0_2 : m_kernel_modular [(.tup [(.tup [(.int (.ofNat 27)), (.int (.ofNat 1)), (.int (.ofNat 0)), (.int (.ofNat 0)), (.int (.ofNat 0)), (.int (.ofNat 0)), (.int (.ofNat 0))]), (.tup [(.int (.ofNat 0)), (.int (.ofNat 27)), (.int (.ofNat 1)), (.int (.ofNat 0)), (.int (.ofNat 0)), (.int (.ofNat 0)), (.int (.ofNat 0))]), (.tup [(.int (.ofNat 0)), (.int (.ofNat 0)), (.int (.ofNat 27)), (.int (.ofNat 1)), (.int (.ofNat 0)), (.int (.ofNat 0)), (.int (.ofNat 0))]), (.tup [(.int (.ofNat 0)), (.int (.ofNat 0)), (.int (.ofNat 0)), (.int (.ofNat 27)), (.int (.ofNat 1)), (.int (.ofNat 0)), (.int (.ofNat 0))]), (.tup [(.int (.ofNat 0)), (.int (.ofNat 0)), (.int (.ofNat 0)), (.int (.ofNat 0)), (.int (.ofNat 27)), (.int (.ofNat 1)), (.int (.ofNat 0))]), (.tup [(.int (.ofNat 0)), (.int (.ofNat 0)), (.int (.ofNat 0)), (.int (.ofNat 0)), (.int (.ofNat 0)), (.int (.ofNat 27)), (.int (.ofNat 1))]), (.tup [(.int (.ofNat 1)), (.int (.ofNat 0)), (.int (.ofNat 0)), (.int (.ofNat 0)), (.int (.ofNat 0)), (.int (.ofNat 0)), (.int (.ofNat 27))])]), (.int (.ofNat 7)), (.int (.ofNat 29))] = some (.tup []) := by kernel_rfl
theorem kt11_0_3 : m_kernel_modular [(.tup [(.tup [(.int (.ofNat 26)), (.int (.ofNat 1)), (.int (.ofNat 0)), (.int (.ofNat 0)), (.int (.ofNat 0)), (.int (.ofNat 0)), (.int (.ofNat 0))]), (.tup [(.int (.ofNat 0)), (.int (.ofNat 26)), (.int (.ofNat 1)), (.int (.ofNat 0)), (.int (.ofNat 0)), (.int (.ofNat 0)), (.int (.ofNat 0))]), (.tup [(.int (.ofNat 0)), (.int (.ofNat 0)), (.int (.ofNat 26)), (.int (.ofNat 1)), (.int (.ofNat 0)), (.int (.ofNat 0)), (.int (.ofNat 0))]), (.tup [(.int (.ofNat 0)), (.int (.ofNat 0)), (.int (.ofNat 0)), (.int (.ofNat 26)), (.int (.ofNat 1)), (.int (.ofNat 0)), (.int (.ofNat 0))]), (.tup [(.int (.ofNat 0)), (.int (.ofNat 0)), (.int (.ofNat 0)), (.int (.ofNat 0)), (.int (.ofNat 26)), (.int (.ofNat 1)), (.int (.ofNat 0))]), (.tup [(.int (.ofNat 0)), (.int (.ofNat 0)), (.int (.ofNat 0)), (.int (.ofNat 0)), (.int (.ofNat 0)), (.int (.ofNat 26)), (.int (.ofNat 1))]), (.tup [(.int (.ofNat 1)), (.int (.ofNat 0)), (.int (.ofNat 0)), (.int (.ofNat 0)), (.int (.ofNat 0)), (.int (.ofNat 0)), (.int (.ofNat 26))])]), (.int (.ofNat 7)), (.int (.ofNat 29))] = some (.tup []) := by kernel_rfl
theorem kt11_0_4 : m_kernel_modular [(.tup [(.tup [(.int (.ofNat 25)), (.int (.ofNat 1)), (.int (.ofNat 0)), (.int (.ofNat 0)), (.int (.ofNat 0)), (.int (.ofNat 0)), (.int (.ofNat 0))]), (.tup [(.int (.ofNat 0)), (.int (.ofNat 25)), (.int (.ofNat 1)), (.int (.ofNat 0)), (.int (.ofNat 0)), (.int (.ofNat 0)), (.int (.ofNat 0))]), (.tup [(.int (.ofNat 0)), (.int (.ofNat 0)), (.int (.ofNat 25)), (.int (.ofNat 1)), (.int (.ofNat 0)), (.int (.ofNat 0)), (.int (.ofNat 0))]), (.tup [(.int (.ofNat 0)), (.int (.ofNat 0)), (.int (.ofNat 0)), (.int (.ofNat 25)), (.int (.ofNat 1)), (.int (.ofNat 0)), (.int (.ofNat 0))]), (.tup [(.int (.ofNat 0)), (.int (.ofNat 0)), (.int (.ofNat 0)), (.int (.ofNat 0)), (.int (.ofNat 25)), (.int (.ofNat 1)), (.int (.ofNat 0))]), (.tup [(.int (.ofNat 0)), (.int (.ofNat 0)), (.int (.ofNat 0)), (.int (.ofNat 0)), (.int (.ofNat 0)), (.int (.ofNat 25)), (.int (.ofNat 1))]), (.tup [(.int (.ofNat 1)), (.int (.ofNat 0)), (.int (.ofNat 0)), (.int (.ofNat 0)), (.int (.ofNat 0)), (.int (.ofNat 0)), (.int (.ofNat 25))])]), (.int (.ofNat 7)), (.int (.ofNat 29))] = some (.tup []) := by kernel_rfl
theorem kt11_0_5 : m_kernel_modular [(.tup [(.tup [(.int (.ofNat 24)), (.int (.ofNat 1)), (.int (.ofNat 0)), (.int (.ofNat 0)), (.int (.ofNat 0)), (.int (.ofNat 0)), (.int (.ofNat 0))]), (.tup [(.int (.ofNat 0)), (.int (.ofNat 24)), (.int (.ofNat 1)), (.int (.ofNat 0)), (.int (.ofNat 0)), (.int (.ofNat 0)), (.int (.ofNat 0))]), (.tup [(.int (.ofNat 0)), (.int (.ofNat 0)), (.int (.ofNat 24)), (.int (.ofNat 1)), (.int (.ofNat 0)), (.int (.ofNat 0)), (.int (.ofNat 0))]), (.tup [(.int (.ofNat 0)), (.int (.ofNat 0)), (.int (.ofNat 0)), (.int (.ofNat 24)), (.int (.ofNat 1)), (.int (.ofNat 0)), (.int (.ofNat 0))]), (.tup [(.int (.ofNat 0)), (.int (.ofNat 0)), (.int (.ofNat 0)), (.int (.ofNat 0)), (.int (.ofNat 24)), (.int (.ofNat 1)), (.int (.ofNat 0))]), (.tup [(.int (.ofNat 0)), (.int (.ofNat 0)), (.int (.ofNat 0)), (.int (.ofNat 0)), (.int (.ofNat 0)), (.int (.ofNat 24)), (.int (.ofNat 1))]), (.tup [(.int (.ofNat 1)), (.int (.ofNat 0)), (.int (.ofNat 0)), (.int (.ofNat 0)), (.int (.ofNat 0)), (.int (.ofNat 0)), (.int (.ofNat 24))])]), (.int (.ofNat 7)), (.int (.ofNat 29))] = some (.tup []) := by kernel_rfl
theorem kt11_0_6 : m_kernel_modular [(.tup [(.tup [(.int (.ofNat 23)), (.int (.ofNat 1)), (.int (.ofNat 0)), (.int (.ofNat 0)), (.int (.ofNat 0)), (.int (.ofNat 0)), (.int (.ofNat 0))]), (.tup [(.int (.ofNat 0)), (.int (.ofNat 23)), (.int (.ofNat 1)), (.int (.ofNat 0)), (.int (.ofNat 0)), (.int (.ofNat 0)), (.int (.ofNat 0))]), (.tup [(.int (.ofNat 0)), (.int (.ofNat 0)), (.int (.ofNat 23)), (.int (.ofNat 1)), (.int (.ofNat 0)), (.int (.ofNat 0)), (.int (.ofNat 0))]), (.tup [(.int (.ofNat 0)), (.int (.ofNat 0)), (.int (.ofNat 0)), (.int (.ofNat 23)), (.int (.ofNat 1)), (.int (.ofNat 0)), (.int (.ofNat 0))]), (.tup [(.int (.ofNat 0)), (.int (.ofNat 0)), (.int (.ofNat 0)), (.int (.ofNat 0)), (.int (.ofNat 23)), (.int (.ofNat 1)), (.int (.ofNat 0))]), (.tup [(.int (.ofNat 0)), (.int (.ofNat 0)), (.int (.ofNat 0)), (.int (.ofNat 0)), (.int (.ofNat 0)), (.int (.ofNat 23)), (.int (.ofNat 1))]), (.tup [(.int (.ofNat 1)), (.int (.ofNat 0)), (.int (.ofNat 0)), (.int (.ofNat 0)), (.int (.ofNat 0)), (.int (.ofNat 0)), (.int (.ofNat 23))])]), (.int (.ofNat 7)), (.int (.ofNat 29))] = some (.tup []) := by kernel_rfl
theorem kt11_0_7 : m_kernel_modular [(.tup [(.tup [(.int (.ofNat 22)), (.int (.ofNat 1)), (.int (.ofNat 0)), (.int (.ofNat 0)), (.int (.ofNat 0)), (.int (.ofNat 0)), (.int (.ofNat 0))]), (.tup [(.int (.ofNat 0)), (.int (.ofNat 22)), (.int (.ofNat 1)), (.int (.ofNat 0)), (.int (.ofNat 0)), (.int (.ofNat 0)), (.int (.ofNat 0))]), (.tup [(.int (.ofNat 0)), (.int (.ofNat 0)), (.int (.ofNat 22)), (.int (.ofNat 1)), (.int (.ofNat 0)), (.int (.ofNat 0)), (.int (.ofNat 0))]), (.tup [(.int (.ofNat 0)), (.int (.ofNat 0)), (.int (.ofNat 0)), (.int (.ofNat 22)), (.int (.ofNat 1)), (.int (.ofNat 0)), (.int (.ofNat 0))]), (.tup [(.int (.ofNat 0)), (.int (.ofNat 0)), (.int (.ofNat 0)), (.int (.ofNat 0)), (.int (.ofNat 22)), (.int (.ofNat 1)), (.int (.ofNat 0))]), (.tup [(.int (.ofNat 0)), (.int (.ofNat 0)), (.int (.ofNat 0)), (.int (.ofNat 0)), (.int (.ofNat 0)), (.int (.ofNat 22)), (.int (.ofNat 1))]), (.tup [(.int (.ofNat 1)), (.int (.ofNat 0)), (.int (.ofNat 0)), (.int (.ofNat 0)), (.int (.ofNat 0)), (.int (.ofNat 0)), (.int (.ofNat 22))])]), (.int (.ofNat 7)), (.int (.ofNat 29))] = some (.tup [(.tup [(.int (.ofNat 7)), (.int (.ofNat 20)), (.int (.ofNat 24)), (.int (.ofNat 23)), (.int (.ofNat 16)), (.int (.ofNat 25)), (.int (.ofNat 1))])]) := by kernel_rfl
theorem kt11_0_8 : m_kernel_modular [(.tup [(.tup [(.int (.ofNat 21)), (.int (.ofNat 1)), (.int (.ofNat 0)), (.int (.ofNat 0)), (.int (.ofNat 0)), (.int (.ofNat 0)), (.int (.ofNat 0))]), (.tup [(.int (.ofNat 0)), (.int (.ofNat 21)), (.int (.ofNat 1)), (.int (.ofNat 0)), (.int (.ofNat 0)), (.int (.ofNat 0)), (.int (.ofNat 0))]), (.tup [(.int (.ofNat 0)), (.int (.ofNat 0)), (.int (.ofNat 21)), (.int (.ofNat 1)), (.int (.ofNat 0)), (.int (.ofNat 0)), (.int (.ofNat 0))]), (.tup [(.int (.ofNat 0)), (.int (.ofNat 0)), (.int (.ofNat 0)), (.int (.ofNat 21)), (.int (.ofNat 1)), (.int (.ofNat 0)), (.int (.ofNat 0))]), (.tup [(.int (.ofNat 0)), (.int (.ofNat 0)), (.int (.ofNat 0)), (.int (.ofNat 0)), (.int (.ofNat 21)), (.int (.ofNat 1)), (.int (.ofNat 0))]), (.tup [(.int (.ofNat 0)), (.int (.ofNat 0)), (.int (.ofNat 0)), (.int (.ofNat 0)), (.int (.ofNat 0)), (.int (.ofNat 21)), (.int (.ofNat 1))]), (.tup [(.int (.ofNat 1)), (.int (.ofNat 0)), (.int (.ofNat 0)), (.int (.ofNat 0)), (.int (.ofNat 0)), (.int (.ofNat 0)), (.int (.ofNat 21))])]), (.int (.ofNat 7)), (.int (.ofNat 29))] = some (.tup []) := by kernel_rfl
theorem kt11_0_9 : m_kernel_modular [(.tup [(.tup [(.int (.ofNat 20)), (.int (.ofNat 1)), (.int (.ofNat 0)), (.int (.ofNat 0)), (.int (.ofNat 0)), (.int (.ofNat 0)), (.int (.ofNat 0))]), (.tup [(.int (.ofNat 0)), (.int (.ofNat 20)), (.int (.ofNat 1)), (.int (.ofNat 0)), (.int (.ofNat 0)), (.int (.ofNat 0)), (.int (.ofNat 0))]), (.tup [(.int (.ofNat 0)), (.int (.ofNat 0)), (.int (.ofNat 20)), (.int (.ofNat 1)), (.int (.ofNat 0)), (.int (.ofNat 0)), (.int (.ofNat 0))]), (.tup [(.int (.ofNat 0)), (.int (.ofNat 0)), (.int (.ofNat 0)), (.int (.ofNat 20)), (.int (.ofNat 1)), (.int (.ofNat 0)), (.int (.ofNat 0))]), (.tup [(.int (.ofNat 0)), (.int (.ofNat 0)), (.int (.ofNat 0)), (.int (.ofNat 0)), (.int (.ofNat 20)), (.int (.ofNat 1)), (.int (.ofNat 0))]), (.tup [(.int (.ofNat 0)), (.int (.ofNat 0)), (.int (.ofNat 0)), (.int (.ofNat 0)), (.int (.ofNat 0)), (.int (.ofNat 20)), (.int (.ofNat 1))]), (.tup [(.int (.ofNat 1)), (.int (.ofNat 0)), (.int (.ofNat 0)), (.int (.ofNat 0)), (.int (.ofNat 0)), (.int (.ofNat 0)), (.int (.ofNat 20))])]), (.int (.ofNat 7)), (.int (.ofNat 29))] = some (.tup []) := by kernel_rfl
theorem kt11_0_10 : m_kernel_modular [(.tup [(.tup [(.int (.ofNat 19)), (.int (.ofNat 1)), (.int (.ofNat 0)), (.int (.ofNat 0)), (.int (.ofNat 0)), (.int (.ofNat 0)), (.int (.ofNat 0))]), (.tup [(.int (.ofNat 0)), (.int (.ofNat 19)), (.int (.ofNat 1)), (.int (.ofNat 0)), (.int (.ofNat 0)), (.int (.ofNat 0)), (.int (.ofNat 0))]), (.tup [(.int (.ofNat 0)), (.int (.ofNat 0)), (.int (.ofNat 19)), (.int (.ofNat 1)), (.int (.ofNat 0)), (.int (.ofNat 0)), (.int (.ofNat 0))]), (.tup [(.int (.ofNat 0)), (.int (.ofNat 0)), (.int (.ofNat 0)), (.int (.ofNat 19)), (.int (.ofNat 1)), (.int (.ofNat 0)), (.int (.ofNat 0))]), (.tup [(.int (.ofNat 0)), (.int (.ofNat 0)), (.int (.ofNat 0)), (.int (.ofNat 0)), (.int (.ofNat 19)), (.int (.ofNat 1)), (.int (.ofNat 0))]), (.tup [(.int (.ofNat 0)), (.int (.ofNat 0)), (.int (.ofNat 0)), (.int (.ofNat 0)), (.int (.ofNat 0)), (.int (.ofNat 19)), (.int (.ofNat 1))]), (.tup [(.int (.ofNat 1)), (.int (.ofNat 0)), (.int (.ofNat 0)), (.int (.ofNat 0)), (.int (.ofNat 0)), (.int (.ofNat 0)), (.int (.ofNat 19))])]), (.int (.ofNat 7)), (.int (.ofNat 29))] = some (.tup []) := by kernel_rfl
theorem kt11_0_11 : m_kernel_modular [(.tup [(.tup [(.int (.ofNat 18)), (.int (.ofNat 1)), (.int (.ofNat 0)), (.int (.ofNat 0)), (.int (.ofNat 0)), (.int (.ofNat 0)), (.int (.ofNat 0))]), (.tup [(.int (.ofNat 0)), (.int (.ofNat 18)), (.int (.ofNat 1)), (.int (.ofNat 0)), (.int (.ofNat 0)), (.int (.ofNat 0)), (.int (.ofNat 0))]), (.tup [(.int (.ofNat 0)), (.int (.ofNat 0)), (.int (.ofNat 18)), (.int (.ofNat 1)), (.int (.ofNat 0)), (.int (.ofNat 0)), (.int (.ofNat 0))]), (.tup [(.int (.ofNat 0)), (.int (.ofNat 0)), (.int (.ofNat 0)), (.int (.ofNat 18)), (.int (.ofNat 1)), (.int (.ofNat 0)), (.int (.ofNat 0))]), (.tup [(.int (.ofNat 0)), (.int (.ofNat 0)), (.int (.ofNat 0)), (.int (.ofNat 0)), (.int (.ofNat 18)), (.int (.ofNat 1)), (.int (.ofNat 0))]), (.tup [(.int (.ofNat 0)), (.int (.ofNat 0)), (.int (.ofNat 0)), (.int (.ofNat 0)), (.int (.ofNat 0)), (.int (.ofNat 18)), (.int (.ofNat 1))]), (.tup [(.int (.ofNat 1)), (.int (.ofNat 0)), (.int (.ofNat 0)), (.int (.ofNat 0)), (.int (.ofNat 0)), (.int (.ofNat 0)), (.int (.ofNat 18))])]), (.int (.ofNat 7)), (.int (.ofNat 29))] = some (.tup []) := by kernel_rfl
theorem kt11_0_12 : m_kernel_modular [(.tup [(.tup [(.int (.ofNat 17)), (.int (.ofNat 1)), (.int (.ofNat 0)), (.int (.ofNat 0)), (.int (.ofNat 0)), (.int (.ofNat 0)), (.int (.ofNat 0))]), (.tup [(.int (.ofNat 0)), (.int (.ofNat 17)), (.int (.ofNat 1)), (.int (.ofNat 0)), (.int (.ofNat 0)), (.int (.ofNat 0)), (.int (.ofNat 0))]), (.tup [(.int (.ofNat 0)), (.int (.ofNat 0)), (.int (.ofNat 17)), (.int (.ofNat 1)), (.int (.ofNat 0)), (.int (.ofNat 0)), (.int (.ofNat 0))]), (.tup [(.int (.ofNat 0)), (.int (.ofNat 0)), (.int (.ofNat 0)), (.int (.ofNat 17)), (.int (.ofNat 1)), (.int (.ofNat 0)), (.int (.ofNat 0))]), (.tup [(.int (.ofNat 0)), (.int (.ofNat 0)), (.int (.ofNat 0)), (.int (.ofNat 0)), (.int (.ofNat 17)), (.int (.ofNat 1)), (.int (.ofNat 0))]), (.tup [(.int (.ofNat 0)), (.int (.ofNat 0)), (.int (.ofNat 0)), (.int (.ofNat 0)), (.int (.ofNat 0)), (.int (.ofNat 17)), (.int (.ofNat 1))]), (.tup [(.int (.ofNat 1)), (.int (.ofNat 0)), (.int (.ofNat 0)), (.int (.ofNat 0)), (.int (.ofNat 0)), (.int (.ofNat 0)), (.int (.ofNat 17))])]), (.int (.ofNat 7)), (.int (.ofNat 29))] = some (.tup []) := by kernel_rfl
theorem kt11_0_13 : m_kernel_modular [(.tup [(.tup [(.int (.ofNat 16)), (.int (.ofNat 1)), (.int (.ofNat 0)), (.int (.ofNat 0)), (.int (.ofNat 0)), (.int (.ofNat 0)), (.int (.ofNat 0))]), (.tup [(.int (.ofNat 0)), (.int (.ofNat 16)), (.int (.ofNat 1)), (.int (.ofNat 0)), (.int (.ofNat 0)), (.int (.ofNat 0)), (.int (.ofNat 0))]), (.tup [(.int (.ofNat 0)), (.int (.ofNat 0)), (.int (.ofNat 16)), (.int (.ofNat 1)), (.int (.ofNat 0)), (.int (.ofNat 0)), (.int (.ofNat 0))]), (.tup [(.int (.ofNat 0)), (.int (.ofNat 0)), (.int (.ofNat 0)), (.int (.ofNat 16)), (.int (.ofNat 1)), (.int (.ofNat 0)), (.int (.ofNat 0))]), (.tup [(.int (.ofNat 0)), (.int (.ofNat 0)), (.int (.ofNat 0)), (.int (.ofNat 0)), (.int (.ofNat 16)), (.int (.ofNat 1)), (.int (.ofNat 0))]), (.tup [(.int (.ofNat 0)), (.int (.ofNat 0)), (.int (.ofNat 0)), (.int (.ofNat 0)), (.int (.ofNat 0)), (.int (.ofNat 16)), (.int (.ofNat 1))]), (.tup [(.int (.ofNat 1)), (.int (.ofNat 0)), (.int (.ofNat 0)), (.int (.ofNat 0)), (.int (.ofNat 0)), (.int (.ofNat 0)), (.int (.ofNat 16))])]), (.int (.ofNat 7)), (.int (.ofNat 29))] = some (.tup []) := by kernel_rfl
theorem kt11_0_14 : m_kernel_modular [(.tup [(.tup [(.int (.ofNat 15)), (.int (.ofNat 1)), (.int (.ofNat 0)), (.int (.ofNat 0)), (.int (.ofNat 0)), (.int (.ofNat 0)), (.int (.ofNat 0))]), (.tup [(.int (.ofNat 0)), (.int (.ofNat 15)), (.int (.ofNat 1)), (.int (.ofNat 0)), (.int (.ofNat 0)), (.int (.ofNat 0)), (.int (.ofNat 0))]), (.tup [(.int (.ofNat 0)), (.int (.ofNat 0)), (.int (.ofNat 15)), (.int (.ofNat 1)), (.int (.ofNat 0)), (.int (.ofNat 0)), (.int (.ofNat 0))]), (.tup [(.int (.ofNat 0)), (.int (.ofNat 0)), (.int (.ofNat 0)), (.int (.ofNat 15)), (.int (.ofNat 1)), (.int (.ofNat 0)), (.int (.ofNat 0))]), (.tup [(.int (.ofNat 0)), (.int (.ofNat 0)), (.int (.ofNat 0)), (.int (.ofNat 0)), (.int (.ofNat 15)), (.int (.ofNat 1)), (.int (.ofNat 0))]), (.tup [(.int (.ofNat 0)), (.int (.ofNat 0)), (.int (.ofNat 0)), (.int (.ofNat 0)), (.int (.ofNat 0)), (.int (.ofNat 15)), (.int (.ofNat 1))]), (.tup [(.int (.ofNat 1)), (.int (.ofNat 0)), (.int (.ofNat 0)), (.int (.ofNat 0)), (.int (.ofNat 0)), (.int (.ofNat 0)), (.int (.ofNat 15))])]), (.int (.ofNat 7)), (.int (.ofNat 29))] = some (.tup []) := by kernel_rfl
theorem kt11_0_15 : m_kernel_modular [(.tup [(.tup [(.int (.ofNat 14)), (.int (.ofNat 1)), (.int (.ofNat 0)), (.int (.ofNat 0)), (.int (.ofNat 0)), (.int (.ofNat 0)), (.int (.ofNat 0))]), (.tup [(.int (.ofNat 0)), (.int (.ofNat 14)), (.int (.ofNat 1)), (.int (.ofNat 0)), (.int (.ofNat 0)), (.int (.ofNat 0)), (.int (.ofNat 0))]), (.tup [(.int (.ofNat 0)), (.int (.ofNat 0)), (.int (.ofNat 14)), (.int (.ofNat 1)), (.int (.ofNat 0)), (.int (.ofNat 0)), (.int (.ofNat 0))]), (.tup [(.int (.ofNat 0)), (.int (.ofNat 0)), (.int (.ofNat 0)), (.int (.ofNat 14)), (.int (.ofNat 1)), (.int (.ofNat 0)), (.int (.ofNat 0))]), (.tup [(.int (.ofNat 0)), (.int (.ofNat 0)), (.int (.ofNat 0)), (.int (.ofNat 0)), (.int (.ofNat 14)), (.int (.ofNat 1)), (.int (.ofNat 0))]), (.tup [(.int (.ofNat 0)), (.int (.ofNat 0)), (.int (.ofNat 0)), (.int (.ofNat 0)), (.int (.ofNat 0)), (.int (.ofNat 14)), (.int (.ofNat 1))]), (.tup [(.int (.ofNat 1)), (.int (.ofNat 0)), (.int (.ofNat 0)), (.int (.ofNat 0)), (.int (.ofNat 0)), (.int (.ofNat 0)), (.int (.ofNat 14))])]), (.int (.ofNat 7)), (.int (.ofNat 29))] = some (.tup []) := by kernel_rfl
theorem kt11_0_16 : m_kernel_modular [(.tup [(.tup [(.int (.ofNat 13)), (.int (.ofNat 1)), (.int (.ofNat 0)), (.int (.ofNat 0)), (.int (.ofNat 0)), (.int (.ofNat 0)), (.int (.ofNat 0))]), (.tup [(.int (.ofNat 0)), (.int (.ofNat 13)), (.int (.ofNat 1)), (.int (.ofNat 0)), (.int (.ofNat 0)), (.int (.ofNat 0)), (.int (.ofNat 0))]), (.tup [(.int (.ofNat 0)), (.int (.ofNat 0)), (.int (.ofNat 13)), (.int (.ofNat 1)), (.int (.ofNat 0)), (.int (.ofNat 0)), (.int (.ofNat 0))]), (.tup [(.int (.ofNat 0)), (.int (.ofNat 0)), (.int (.ofNat 0)), (.int (.ofNat 13)), (.int (.ofNat 1)), (.int (.ofNat 0)), (.int (.ofNat 0))]), (.tup [(.int (.ofNat 0)), (.int (.ofNat 0)), (.int (.ofNat 0)), (.int (.ofNat 0)), (.int (.ofNat 13)), (.int (.ofNat 1)), (.int (.ofNat 0))]), (.tup [(.int (.ofNat 0)), (.int (.ofNat 0)), (.int (.ofNat 0)), (.int (.ofNat 0)), (.int (.ofNat 0)), (.int (.ofNat 13)), (.int (.ofNat 1))]), (.tup [(.int (.ofNat 1)), (.int (.ofNat 0)), (.int (.ofNat 0)), (.int (.ofNat 0)), (.int (.ofNat 0)), (.int (.ofNat 0)), (.int (.ofNat 13))])]), (.int (.ofNat 7)), (.int (.ofNat 29))] = some (.tup [(.tup [(.int (.ofNat 16)), (.int (.ofNat 24)), (.int (.ofNat 7)), (.int (.ofNat 25)), (.int (.ofNat 23)), (.int (.ofNat 20)), (.int (.ofNat 1))])]) := by kernel_rfl
theorem kt11_0_17 : m_kernel_modular [(.tup [(.tup [(.int (.ofNat 12)), (.int (.ofNat 1)), (.int (.ofNat 0)), (.int (.ofNat 0)), (.int (.ofNat 0)), (.int (.ofNat 0)), (.int (.ofNat 0))]), (.tup [(.int (.ofNat 0)), (.int (.ofNat 12)), (.int (.ofNat 1)), (.int (.ofNat 0)), (.int (.ofNat 0)), (.int (.ofNat 0)), (.int (.ofNat 0))]), (.tup [(.int (.ofNat 0)), (.int (.ofNat 0)), (.int (.ofNat 12)), (.int (.ofNat 1)), (.int (.ofNat 0)), (.int (.ofNat 0)), (.int (.ofNat 0))]), (.tup [(.int (.ofNat 0)), (.int (.ofNat 0)), (.int (.ofNat 0)), (.int (.ofNat 12)), (.int (.ofNat 1)), (.int (.ofNat 0)), (.int (.ofNat 0))]), (.tup [(.int (.ofNat 0)), (.int (.ofNat 0)), (.int (.ofNat 0)), (.int (.ofNat 0)), (.int (.ofNat 12)), (.int (.ofNat 1)), (.int (.ofNat 0))]), (.tup [(.int (.ofNat 0)), (.int (.ofNat 0)), (.int (.ofNat 0)), (.int (.ofNat 0)), (.int (.ofNat 0)), (.int (.ofNat 12)), (.int (.ofNat 1))]), (.tup [(.int (.ofNat 1)), (.int (.ofNat 0)), (.int (.ofNat 0)), (.int (.ofNat 0)), (.int (.ofNat 0)), (.int (.ofNat 0)), (.int (.ofNat 12))])]), (.int (.ofNat 7)), (.int (.ofNat 29))] = some (.tup []) := by kernel_rfl
theorem kt11_0_18 : m_kernel_modular [(.tup [(.tup [(.int (.ofNat 11)), (.int (.ofNat 1)), (.int (.ofNat 0)), (.int (.ofNat 0)), (.int (.ofNat 0)), (.int (.ofNat 0)), (.int (.ofNat 0))]), (.tup [(.int (.ofNat 0)), (.int (.ofNat 11)), (.int (.ofNat 1)), (.int (.ofNat 0)), (.int (.ofNat 0)), (.int (.ofNat 0)), (.int (.ofNat 0))]), (.tup [(.int (.ofNat 0)), (.int (.ofNat 0)), (.int (.ofNat 11)), (.int (.ofNat 1)), (.int (.ofNat 0)), (.int (.ofNat 0)), (.int (.ofNat 0))]), (.tup [(.int (.ofNat 0)), (.int (.ofNat 0)), (.int (.ofNat 0)), (.int (.ofNat 11)), (.int (.ofNat 1)), (.int (.ofNat 0)), (.int (.ofNat 0))]), (.tup [(.int (.ofNat 0)), (.int (.ofNat 0)), (.int (.ofNat 0)), (.int (.ofNat 0)), (.int (.ofNat 11)), (.int (.ofNat 1)), (.int (.ofNat 0))]), (.tup [(.int (.ofNat 0)), (.int (.ofNat 0)), (.int (.ofNat 0)), (.int (.ofNat 0)), (.int (.ofNat 0)), (.int (.ofNat 11)), (.int (.ofNat 1))]), (.tup [(.int (.ofNat 1)), (.int (.ofNat 0)), (.int (.ofNat 0)), (.int (.ofNat 0)), (.int (.ofNat 0)), (.int (.ofNat 0)), (.int (.ofNat 11))])]), (.int (.ofNat 7)), (.int (.ofNat 29))] = some (.tup []) := by kernel_rfl
theorem kt11_0_19 : m_kernel_modular [(.tup [(.tup [(.int (.ofNat 10)), (.int (.ofNat 1)), (.int (.ofNat 0)), (.int (.ofNat 0)), (.int (.ofNat 0)), (.int (.ofNat 0)), (.int (.ofNat 0))]), (.tup [(.int (.ofNat 0)), (.int (.ofNat 10)), (.int (.ofNat 1)), (.int (.ofNat 0)), (.int (.ofNat 0)), (.int (.ofNat 0)), (.int (.ofNat 0))]), (.tup [(.int (.ofNat 0)), (.int (.ofNat 0)), (.int (.ofNat 10)), (.int (.ofNat 1)), (.int (.ofNat 0)), (.int (.ofNat 0)), (.int (.ofNat 0))]), (.tup [(.int (.ofNat 0)), (.int (.ofNat 0)), (.int (.ofNat 0)), (.int (.ofNat 10)), (.int (.ofNat 1)), (.int (.ofNat 0)), (.int (.ofNat 0))]), (.tup [(.int (.ofNat 0)), (.int (.ofNat 0)), (.int (.ofNat 0)), (.int (.ofNat 0)), (.int (.ofNat 10)), (.int (.ofNat 1)), (.int (.ofNat 0))]), (.tup [(.int (.ofNat 0)), (.int (.ofNat 0)), (.int (.ofNat 0)), (.int (.ofNat 0)), (.int (.ofNat 0)), (.int (.ofNat 10)), (.int (.ofNat 1))]), (.tup [(.int (.ofNat 1)), (.int (.ofNat 0)), (.int (.ofNat 0)), (.int (.ofNat 0)), (.int (.ofNat 0)), (.int (.ofNat 0)), (.int (.ofNat 10))])]), (.int (.ofNat 7)), (.int (.ofNat 29))] = some (.tup []) := by kernel_rfl
theorem kt11_0_20 : m_kernel_modular [(.tup [(.tup [(.int (.ofNat 9)), (.int (.ofNat 1)), (.int (.ofNat 0)), (.int (.ofNat 0)), (.int (.ofNat 0)), (.int (.ofNat 0)), (.int (.ofNat 0))]), (.tup [(.int (.ofNat 0)), (.int (.ofNat 9)), (.int (.ofNat 1)), (.int (.ofNat 0)), (.int (.ofNat 0)), (.int (.ofNat 0)), (.int (.ofNat 0))]), (.tup [(.int (.ofNat 0)), (.int (.ofNat 0)), (.int (.ofNat 9)), (.int (.ofNat 1)), (.int (.ofNat 0)), (.int (.ofNat 0)), (.int (.ofNat 0))]), (.tup [(.int (.ofNat 0)), (.int (.ofNat 0)), (.int (.ofNat 0)), (.int (.ofNat 9)), (.int (.ofNat 1)), (.int (.ofNat 0)), (.int (.ofNat 0))]), (.tup [(.int (.ofNat 0)), (.int (.ofNat 0)), (.int (.ofNat 0)), (.int (.ofNat 0)), (.int (.ofNat 9)), (.int (.ofNat 1)), (.int (.ofNat 0))]), (.tup [(.int (.ofNat 0)), (.int (.ofNat 0)), (.int (.ofNat 0)), (.int (.ofNat 0)), (.int (.ofNat 0)), (.int (.ofNat 9)), (.int (.ofNat 1))]), (.tup [(.int (.ofNat 1)), (.int (.ofNat 0)), (.int (.ofNat 0)), (.int (.ofNat 0)), (.int (.ofNat 0)), (.int (.ofNat 0)), (.int (.ofNat 9))])]), (.int (.ofNat 7)), (.int (.ofNat 29))] = some (.tup [(.tup [(.int (.ofNat 20)), (.int (.ofNat 23)), (.int (.ofNat 25)), (.int (.ofNat 7)), (.int (.ofNat 24)), (.int (.ofNat 16)), (.int (.ofNat 1))])]) := by kernel_rfl
theorem kt11_0_21 : m_kernel_modular [(.tup [(.tup [(.int (.ofNat 8)), (.int (.ofNat 1)), (.int (.ofNat 0)), (.int (.ofNat 0)), (.int (.ofNat 0)), (.int (.ofNat 0)), (.int (.ofNat 0))]), (.tup [(.int (.ofNat 0)), (.int (.ofNat 8)), (.int (.ofNat 1)), (.int (.ofNat 0)), (.int (.ofNat 0)), (.int (.ofNat 0)), (.int (.ofNat 0))]), (.tup [(.int (.ofNat 0)), (.int (.ofNat 0)), (.int (.ofNat 8)), (.int (.ofNat 1)), (.int (.ofNat 0)), (.int (.ofNat 0)), (.int (.ofNat 0))]), (.tup [(.int (.ofNat 0)), (.int (.ofNat 0)), (.int (.ofNat 0)), (.int (.ofNat 8)), (.int (.ofNat 1)), (.int (.ofNat 0)), (.int (.ofNat 0))]), (.tup [(.int (.ofNat 0)), (.int (.ofNat 0)), (.int (.ofNat 0)), (.int (.ofNat 0)), (.int (.ofNat 8)), (.int (.ofNat 1)), (.int (.ofNat 0))]), (.tup [(.int (.ofNat 0)), (.int (.ofNat 0)), (.int (.ofNat 0)), (.int (.ofNat 0)), (.int (.ofNat 0)), (.int (.ofNat 8)), (.int (.ofNat 1))]), (.tup [(.int (.ofNat 1)), (.int (.ofNat 0)), (.int (.ofNat 0)), (.int (.ofNat 0)), (.int (.ofNat 0)), (.int (.ofNat 0)), (.int (.ofNat 8))])]), (.int (.ofNat 7)), (.int (.ofNat 29))] = some (.tup []) := by kernel_rfl
theorem kt11_0_22 : m_kernel_modular [(.tup [(.tup [(.int (.ofNat 7)), (.int (.ofNat 1)), (.int (.ofNat 0)), (.int (.ofNat 0)), (.int (.ofNat 0)), (.int (.ofNat 0)), (.int (.ofNat 0))]), (.tup [(.int (.ofNat 0)), (.int (.ofNat 7)), (.int (.ofNat 1)), (.int (.ofNat 0)), (.int (.ofNat 0)), (.int (.ofNat 0)), (.int (.ofNat 0))]), (.tup [(.int (.ofNat 0)), (.int (.ofNat 0)), (.int (.ofNat 7)), (.int (.ofNat 1)), (.int (.ofNat 0)), (.int (.ofNat 0)), (.int (.ofNat 0))]), (.tup [(.int (.ofNat 0)), (.int (.ofNat 0)), (.int (.ofNat 0)), (.int (.ofNat 7)), (.int (.ofNat 1)), (.int (.ofNat 0)), (.int (.ofNat 0))]), (.tup [(.int (.ofNat 0)), (.int (.ofNat 0)), (.int (.ofNat 0)), (.int (.ofNat 0)), (.int (.ofNat 7)), (.int (.ofNat 1)), (.int (.ofNat 0))]), (.tup [(.int (.ofNat 0)), (.int (.ofNat 0)), (.int (.ofNat 0)), (.int (.ofNat 0)), (.int (.ofNat 0)), (.int (.ofNat 7)), (.int (.ofNat 1))]), (.tup [(.int (.ofNat 1)), (.int (.ofNat 0)), (.int (.ofNat 0)), (.int (.ofNat 0)), (.int (.ofNat 0)), (.int (.ofNat 0)), (.int (.ofNat 7))])]), (.int (.ofNat 7)), (.int (.ofNat 29))] = some (.tup []) := by kernel_rfl
theorem kt11_0_23 : m_kernel_modular [(.tup [(.tup [(.int (.ofNat 6)), (.int (.ofNat 1)), (.int (.ofNat 0)), (.int (.ofNat 0)), (.int (.ofNat 0)), (.int (.ofNat 0)), (.int (.ofNat 0))]), (.tup [(.int (.ofNat 0)), (.int (.ofNat 6)), (.int (.ofNat 1)), (.int (.ofNat 0)), (.int (.ofNat 0)), (.int (.ofNat 0)), (.int (.ofNat 0))]), (.tup [(.int (.ofNat 0)), (.int (.ofNat 0)), (.int (.ofNat 6)), (.int (.ofNat 1)), (.int (.ofNat 0)), (.int (.ofNat 0)), (.int (.ofNat 0))]), (.tup [(.int (.ofNat 0)), (.int (.ofNat 0)), (.int (.ofNat 0)), (.int (.ofNat 6)), (.int (.ofNat 1)), (.int (.ofNat 0)), (.int (.ofNat 0))]), (.tup [(.int (.ofNat 0)), (.int (.ofNat 0)), (.int (.ofNat 0)), (.int (.ofNat 0)), (.int (.ofNat 6)), (.int (.ofNat 1)), (.int (.ofNat 0))]), (.tup [(.int (.ofNat 0)), (.int (.ofNat 0)), (.int (.ofNat 0)), (.int (.ofNat 0)), (.int (.ofNat 0)), (.int (.ofNat 6)), (.int (.ofNat 1))]), (.tup [(.int (.ofNat 1)), (.int (.ofNat 0)), (.int (.ofNat 0)), (.int (.ofNat 0)), (.int (.ofNat 0)), (.int (.ofNat 0)), (.int (.ofNat 6))])]), (.int (.ofNat 7)), (.int (.ofNat 29))] = some (.tup [(.tup [(.int (.ofNat 23)), (.int (.ofNat 7)), (.int (.ofNat 16)), (.int (.ofNat 20)), (.int (.ofNat 25)), (.int (.ofNat 24)), (.int (.ofNat 1))])]) := by kernel_rfl
theorem kt11_0_24 : m_kernel_modular [(.tup [(.tup [(.int (.ofNat 5)), (.int (.ofNat 1)), (.int (.ofNat 0)), (.int (.ofNat 0)), (.int (.ofNat 0)), (.int (.ofNat 0)), (.int (.ofNat 0))]), (.tup [(.int (.ofNat 0)), (.int (.ofNat 5)), (.int (.ofNat 1)), (.int (.ofNat 0)), (.int (.ofNat 0)), (.int (.ofNat 0)), (.int (.ofNat 0))]), (.tup [(.int (.ofNat 0)), (.int (.ofNat 0)), (.int (.ofNat 5)), (.int (.ofNat 1)), (.int (.ofNat 0)), (.int (.ofNat 0)), (.int (.ofNat 0))]), (.tup [(.int (.ofNat 0)), (.int (.ofNat 0)), (.int (.ofNat 0)), (.int (.ofNat 5)), (.int (.ofNat 1)), (.int (.ofNat 0)), (.int (.ofNat 0))]), (.tup [(.int (.ofNat 0)), (.int (.ofNat 0)), (.int (.ofNat 0)), (.int (.ofNat 0)), (.int (.ofNat 5)), (.int (.ofNat 1)), (.int (.ofNat 0))]), (.tup [(.int (.ofNat 0)), (.int (.ofNat 0)), (.int (.ofNat 0)), (.int (.ofNat 0)), (.int (.ofNat 0)), (.int (.ofNat 5)), (.int (.ofNat 1))]), (.tup [(.int (.ofNat 1)), (.int (.ofNat 0)), (.int (.ofNat 0)), (.int (.ofNat 0)), (.int (.ofNat 0)), (.int (.ofNat 0)), (.int (.ofNat 5))])]), (.int (.ofNat 7)), (.int (.ofNat 29))] = some (.tup [(.tup [(.int (.ofNat 24)), (.int (.ofNat 25)), (.int (.ofNat 20)), (.int (.ofNat 16)), (.int (.ofNat 7)), (.int (.ofNat 23)), (.int (.ofNat 1))])]) := by kernel_rfl
theorem kt11_0_25 : m_kernel_modular [(.tup [(.tup [(.int (.ofNat 4)), (.int (.ofNat 1)), (.int (.ofNat 0)), (.int (.ofNat 0)), (.int (.ofNat 0)), (.int (.ofNat 0)), (.int (.ofNat 0))]), (.tup [(.int (.ofNat 0)), (.int (.ofNat 4)), (.int (.ofNat 1)), (.int (.ofNat 0)), (.int (.ofNat 0)), (.int (.ofNat 0)), (.int (.ofNat 0))]), (.tup [(.int (.ofNat 0)), (.int (.ofNat 0)), (.int (.ofNat 4)), (.int (.ofNat 1)), (.int (.ofNat 0)), (.int (.ofNat 0)), (.int (.ofNat 0))]), (.tup [(.int (.ofNat 0)), (.int (.ofNat 0)), (.int (.ofNat 0)), (.int (.ofNat 4)), (.int (.ofNat 1)), (.int (.ofNat 0)), (.int (.ofNat 0))]), (.tup [(.int (.ofNat 0)), (.int (.ofNat 0)), (.int (.ofNat 0)), (.int (.ofNat 0)), (.int (.ofNat 4)), (.int (.ofNat 1)), (.int (.ofNat 0))]), (.tup [(.int (.ofNat 0)), (.int (.ofNat 0)), (.int (.ofNat 0)), (.int (.ofNat 0)), (.int (.ofNat 0)), (.int (.ofNat 4)), (.int (.ofNat 1))]), (.tup [(.int (.ofNat 1)), (.int (.ofNat 0)), (.int (.ofNat 0)), (.int (.ofNat 0)), (.int (.ofNat 0)), (.int (.ofNat 0)), (.int (.ofNat 4))])]), (.int (.ofNat 7)), (.int (.ofNat 29))] = some (.tup [(.tup [(.int (.ofNat 25)), (.int (.ofNat 16)), (.int (.ofNat 23)), (.int (.ofNat 24)), (.int (.ofNat 20)), (.int (.ofNat 7)), (.int (.ofNat 1))])]) := by kernel_rfl
theorem kt11_0_26 : m_kernel_modular [(.tup [(.tup [(.int (.ofNat 3)), (.int (.ofNat 1)), (.int (.ofNat 0)), (.int (.ofNat 0)), (.int (.ofNat 0)), (.int (.ofNat 0)), (.int (.ofNat 0))]), (.tup [(.int (.ofNat 0)), (.int (.ofNat 3)), (.int (.ofNat 1)), (.int (.ofNat 0)), (.int (.ofNat 0)), (.int (.ofNat 0)), (.int (.ofNat 0))]), (.tup [(.int (.ofNat 0)), (.int (.ofNat 0)), (.int (.ofNat 3)), (.int (.ofNat 1)), (.int (.ofNat 0)), (.int (.ofNat 0)), (.int (.ofNat 0))]), (.tup [(.int (.ofNat 0)), (.int (.ofNat 0)), (.int (.ofNat 0)), (.int (.ofNat 3)), (.int (.ofNat 1)), (.int (.ofNat 0)), (.int (.ofNat 0))]), (.tup [(.int (.ofNat 0)), (.int (.ofNat 0)), (.int (.ofNat 0)), (.int (.ofNat 0)), (.int (.ofNat 3)), (.int (.ofNat 1)), (.int (.ofNat 0))]), (.tup [(.int (.ofNat 0)), (.int (.ofNat 0)), (.int (.ofNat 0)), (.int (.ofNat 0)), (.int (.ofNat 0)), (.int (.ofNat 3)), (.int (.ofNat 1))]), (.tup [(.int (.ofNat 1)), (.int (.ofNat 0)), (.int (.ofNat 0)), (.int (.ofNat 0)), (.int (.ofNat 0)), (.int (.ofNat 0)), (.int (.ofNat 3))])]), (.int (.ofNat 7)), (.int (.ofNat 29))] = some (.tup []) := by kernel_rfl
theorem kt11_0_27 : m_kernel_modular [(.tup [(.tup [(.int (.ofNat 2)), (.int (.ofNat 1)), (.int (.ofNat 0)), (.int (.ofNat 0)), (.int (.ofNat 0)), (.int (.ofNat 0)), (.int (.ofNat 0))]), (.tup [(.int (.ofNat 0)), (.int (.ofNat 2)), (.int (.ofNat 1)), (.int (.ofNat 0)), (.int (.ofNat 0)), (.int (.ofNat 0)), (.int (.ofNat 0))]), (.tup [(.int (.ofNat 0)), (.int (.ofNat 0)), (.int (.ofNat 2)), (.int (.ofNat 1)), (.int (.ofNat 0)), (.int (.ofNat 0)), (.int (.ofNat 0))]), (.tup [(.int (.ofNat 0)), (.int (.ofNat 0)), (.int (.ofNat 0)), (.int (.ofNat 2)), (.int (.ofNat 1)), (.int (.ofNat 0)), (.int (.ofNat 0))]), (.tup [(.int (.ofNat 0)), (.int (.ofNat 0)), (.int (.ofNat 0)), (.int (.ofNat 0)), (.int (.ofNat 2)), (.int (.ofNat 1)), (.int (.ofNat 0))]), (.tup [(.int (.ofNat 0)), (.int (.ofNat 0)), (.int (.ofNat 0)), (.int (.ofNat 0)), (.int (.ofNat 0)), (.int (.ofNat 2)), (.int (.ofNat 1))]), (.tup [(.int (.ofNat 1)), (.int (.ofNat 0)), (.int (.ofNat 0)), (.int (.ofNat 0)), (.int (.ofNat 0)), (.int (.ofNat 0)), (.int (.ofNat 2))])]), (.int (.ofNat 7)), (.int (.ofNat 29))] = some (.tup []) := by kernel_rfl
theorem kt11_0_28 : m_kernel_modular [(.tup [(.tup [(.int (.ofNat 1)), (.int (.ofNat 1)), (.int (.ofNat 0)), (.int (.ofNat 0)), (.int (.ofNat 0)), (.int (.ofNat 0)), (.int (.ofNat 0))]), (.tup [(.int (.ofNat 0)), (.int (.ofNat 1)), (.int (.ofNat 1)), (.int (.ofNat 0)), (.int (.ofNat 0)), (.int (.ofNat 0)), (.int (.ofNat 0))]), (.tup [(.int (.ofNat 0)), (.int (.ofNat 0)), (.int (.ofNat 1)), (.int (.ofNat 1)), (.int (.ofNat 0)), (.int (.ofNat 0)), (.int (.ofNat 0))]), (.tup [(.int (.ofNat 0)), (.int (.ofNat 0)), (.int (.ofNat 0)), (.int (.ofNat 1)), (.int (.ofNat 1)), (.int (.ofNat 0)), (.int (.ofNat 0))]), (.tup [(.int (.ofNat 0)), (.int (.ofNat 0)), (.int (.ofNat 0)), (.int (.ofNat 0)), (.int (.ofNat 1)), (.int (.ofNat 1)), (.int (.ofNat 0))]), (.tup [(.int (.ofNat 0)), (.int (.ofNat 0)), (.int (.ofNat 0)), (.int (.ofNat 0)), (.int (.ofNat 0)), (.int (.ofNat 1)), (.int (.ofNat 1))]), (.tup [(.int (.ofNat 1)), (.int (.ofNat 0)), (.int (.ofNat 0)), (.int (.ofNat 0)), (.int (.ofNat 0)), (.int (.ofNat 0)), (.int (.ofNat 1))])]), (.int (.ofNat 7)), (.int (.ofNat 29))] = some (.tup []) := by kernel_rfl
def km11_0 : List U → Option U := memo2 [(.tup [(.tup [(.int (.ofNat 1)), (.int (.ofNat 1)), (.int (.ofNat 0)), (.int (.ofNat 0)), (.int (.ofNat 0)), (.int (.ofNat 0)), (.int (.ofNat 0))]), (.tup [(.int (.ofNat 0)), (.int (.ofNat 1)), (.int (.ofNat 1)), (.int (.ofNat 0)), (.int (.ofNat 0)), (.int (.ofNat 0)), (.int (.ofNat 0))]), (.tup [(.int (.ofNat 0)), (.int (.ofNat 0)), (.int (.ofNat 1)), (.int (.ofNat 1)), (.int (.ofNat 0)), (.int (.ofNat 0)), (.int (.ofNat 0))]), (.tup [(.int (.ofNat 0)), (.int (.ofNat 0)), (.int (.ofNat 0)), (.int (.ofNat 1)), (.int (.ofNat 1)), (.int (.ofNat 0)), (.int (.ofNat 0))]), (.tup [(.int (.ofNat 0)), (.int (.ofNat 0)), (.int (.ofNat 0)), (.int (.ofNat 0)), (.int (.ofNat 1)), (.int (.ofNat 1)), (.int (.ofNat 0))]), (.tup [(.int (.ofNat 0)), (.int (.ofNat 0)), (.int (.ofNat 0)), (.int (.ofNat 0)), (.int (.ofNat 0)), (.int (.ofNat 1)), (.int (.ofNat 1))]), (.tup [(.int (.ofNat 1)), (.int (.ofNat 0)), (.int (.ofNat 0)), (.int (.ofNat 0)), (.int (.ofNat 0)), (.int (.ofNat 0)), (.int (.ofNat 1))])]), (.int (.ofNat 7)), (.int (.ofNat 29))] (.tup []) (memo2 [(.tup [(.tup [(.int (.ofNat 2)), (.int (.ofNat 1)), (.int (.ofNat 0)), (.int (.ofNat 0)), (.int (.ofNat 0)), (.int (.ofNat 0)), (.int (.ofNat 0))]), (.tup [(.int (.ofNat 0)), (.int (.ofNat 2)), (.int (.ofNat 1)), (.int (.ofNat 0)), (.int (.ofNat 0)), (.int (.ofNat 0)), (.int (.ofNat 0))]), (.tup [(.int (.ofNat 0)), (.int (.ofNat 0)), (.int (.ofNat 2)), (.int (.ofNat 1)), (.int (.ofNat 0)), (.int (.ofNat 0)), (.int (.ofNat 0))]), (.tup [(.int (.ofNat 0)), (.int (.ofNat 0)), (.int (.ofNat 0)), (.int (.ofNat 2)), (.int (.ofNat 1)), (.int (.ofNat 0)), (.int (.ofNat 0))]), (.tup [(.int (.ofNat 0)), (.int (.ofNat 0)), (.int (.ofNat 0)), (.int (.ofNat 0)), (.int (.ofNat 2)), (.int (.ofNat 1)), (.int (.ofNat 0))]), (.tup [(.int (.ofNat 0)), (.int (.ofNat 0)), (.int (.ofNat 0)), (.int (.ofNat 0)), (.int (.ofNat 0)), (.int (.ofNat 2)), (.int (.ofNat 1))]), (.tup [(.int (.ofNat 1)), (.int (.ofNat 0)), (.int (.ofNat 0)), (.int (.ofNat 0)), (.int (.ofNat 0)), (.int (.ofNat 0)), (.int (.ofNat 2))])]), (.int (.ofNat 7)), (.int (.ofNat 29))] (.tup []) (memo2 [(.tup [(.tup [(.int (.ofNat 3)), (.int (.ofNat 1)), (.int (.ofNat 0)), (.int (.ofNat 0)), (.int (.ofNat 0)), (.int (.ofNat 0)), (.int (.ofNat 0))]), (.tup [(.int (.ofNat 0)), (.int (.ofNat 3)), (.int (.ofNat 1)), (.int (.ofNat 0)), (.int (.ofNat 0)), (.int (.ofNat 0)), (.int (.ofNat 0))]), (.tup [(.int (.ofNat 0)), (.int (.ofNat 0)), (.int (.ofNat 3)), (.int (.ofNat 1)), (.int (.ofNat 0)), (.int (.ofNat 0)), (.int (.ofNat 0))]), (.tup [(.int (.ofNat 0)), (.int (.ofNat 0)), (.int (.ofNat 0)), (.int (.ofNat 3)), (.int (.ofNat 1)), (.int (.ofNat 0)), (.int (.ofNat 0))]), (.tup [(.int (.ofNat 0)), (.int (.ofNat 0)), (.int (.ofNat 0)), (.int (.ofNat 0)), (.int (.ofNat 3)), (.int (.ofNat 1)), (.int (.ofNat 0))]), (.tup [(.int (.ofNat 0)), (.int (.ofNat 0)), (.int (.ofNat 0)), (.int (.ofNat 0)), (.int (.ofNat 0)), (.int (.ofNat 3)), (.int (.ofNat 1))]), (.tup [(.int (.ofNat 1)), (.int (.ofNat 0)), (.int (.ofNat 0)), (.int (.ofNat 0)), (.int (.ofNat 0)), (.int (.ofNat 0)), (.int (.ofNat 3))])]), (.int (.ofNat 7)), (.int (.ofNat 29))] (.tup []) (memo2 [(.tup [(.tup [(.int (.ofNat 4)), (.int (.ofNat 1)), (.int (.ofNat 0)), (.int (.ofNat 0)), (.int (.ofNat 0)), (.int (.ofNat 0)), (.int (.ofNat 0))]), (.tup [(.int (.ofNat 0)), (.int (.ofNat 4)), (.int (.ofNat 1)), (.int (.ofNat 0)), (.int (.ofNat 0)), (.int (.ofNat 0)), (.int (.ofNat 0))]), (.tup [(.int (.ofNat 0)), (.int (.ofNat 0)), (.int (.ofNat 4)), (.int (.ofNat 1)), (.int (.ofNat 0)), (.int (.ofNat 0)), (.int (.ofNat 0))]), (.tup [(.int (.ofNat 0)), (.int (.ofNat 0)), (.int (.ofNat 0)), (.int (.ofNat 4)), (.int (.ofNat 1)), (.int (.ofNat 0)), (.int (.ofNat 0))]), (.tup [(.int (.ofNat 0)), (.int (.ofNat 0)), (.int (.ofNat 0)), (.int (.ofNat 0)), (.int (.ofNat 4)), (.int (.ofNat 1)), (.int (.ofNat 0))]), (.tup [(.int (.ofNat 0)), (.int (.ofNat 0)), (.int (.ofNat 0)), (.int (.ofNat 0)), (.int (.ofNat 0)), (.int (.ofNat 4)), (.int (.ofNat 1))]), (.tup [(.int (.ofNat 1)), (.int (.ofNat 0)), (.int (.ofNat 0)), (.int (.ofNat 0)), (.int (.ofNat 0)), (.int (.ofNat 0)), (.int (.ofNat 4))])]), (.int (.ofNat 7)), (.int (.ofNat 29))] (.tup [(.tup [(.int (.ofNat 25)), (.int (.ofNat 16)), (.int (.ofNat 23)), (.int (.ofNat 24)), (.int (.ofNat 20)), (.int (.ofNat 7)), (.int (.ofNat 1))])]) (memo2 [(.tup [(.tup [(.int (.ofNat 5)), (.int (.ofNat 1)), (.int (.ofNat 0)), (.int (.ofNat 0)), (.int (.ofNat 0)), (.int (.ofNat 0)), (.int (.ofNat 0))]), (.tup [(.int (.ofNat 0)), (.int (.ofNat 5)), (.int (.ofNat 1)), (.int (.ofNat 0)), (.int (.ofNat 0)), (.int (.ofNat 0)), (.int (.ofNat 0))]), (.tup [(.int (.ofNat 0)), (.int (.ofNat 0)), (.int (.ofNat 5)), (.int (.ofNat 1)), (.int (.ofNat 0)), (.int (.ofNat 0)), (.int (.ofNat 0))]), (.tup [(.int (.ofNat 0)), (.int (.ofNat 0)), (.int (.ofNat 0)), (.int (.ofNat 5)), (.int (.ofNat 1)), (.int (.ofNat 0)), (.int (.ofNat 0))]), (.tup [(.int (.ofNat 0)), (.int (.ofNat 0)), (.int (.ofNat 0)), (.int (.ofNat 0)), (.int (.ofNat 5)), (.int (.ofNat 1)), (.int (.ofNat 0))]), (.tup [(.int (.ofNat 0)), (.int (.ofNat 0)), (.int (.ofNat 0)), (.int (.ofNat 0)), (.int (.ofNat 0)), (.int (.ofNat 5)), (.int (.ofNat 1))]), (.tup [(.int (.ofNat 1)), (.int (.ofNat 0)), (.int (.ofNat 0)), (.int (.ofNat 0)), (.int (.ofNat 0)), (.int (.ofNat 0)), (.int (.ofNat 5))])]), (.int (.ofNat 7)), (.int (.ofNat 29))] (.tup [(.tup [(.int (.ofNat 24)), (.int (.ofNat 25)), (.int (.ofNat 20)), (.int (.ofNat 16)), (.int (.ofNat 7)), (.int (.ofNat 23)), (.int (.ofNat 1))])]) (memo2 [(.tup [(.tup [(.int (.ofNat 6)), (.int (.ofNat 1)), (.int (.ofNat 0)), (.int (.ofNat 0)), (.int (.ofNat 0)), (.int (.ofNat 0)), (.int (.ofNat 0))]), (.tup [(.int (.ofNat 0)), (.int (.ofNat 6)), (.int (.ofNat 1)), (.int (.ofNat 0)), (.int (.ofNat 0)), (.int (.ofNat 0)), (.int (.ofNat 0))]), (.tup [(.int (.ofNat 0)), (.int (.ofNat 0)), (.int (.ofNat 6)), (.int (.ofNat 1)), (.int (.ofNat 0)), (.int (.ofNat 0)), (.int (.ofNat 0))]), (.tup [(.int (.ofNat 0)), (.int (.ofNat 0)), (.int (.ofNat 0)), (.int (.ofNat 6)), (.int (.ofNat 1)), (.int (.ofNat 0)), (.int (.ofNat 0))]), (.tup [(.int (.ofNat 0)), (.int (.ofNat 0)), (.int (.ofNat 0)), (.int (.ofNat 0)), (.int (.ofNat 6)), (.int (.ofNat 1)), (.int (.ofNat 0))]), (.tup [(.int (.ofNat 0)), (.int (.ofNat 0)), (.int (.ofNat 0)), (.int (.ofNat 0)), (.int (.ofNat 0)), (.int (.ofNat 6)), (.int (.ofNat 1))]), (.tup [(.int (.ofNat 1)), (.int (.ofNat 0)), (.int (.ofNat 0)), (.int (.ofNat 0)), (.int (.ofNat 0)), (.int (.ofNat 0)), (.int (.ofNat 6))])]), (.int (.ofNat 7)), (.int (.ofNat 29))] (.tup [(.tup [(.int (.ofNat 23)), (.int (.ofNat 7)), (.int (.ofNat 16)), (.int (.ofNat 20)), (.int (.ofNat 25)), (.int (.ofNat 24)), (.int (.ofNat 1))])]) (memo2 [(.tup [(.tup [(.int (.ofNat 7)), (.int (.ofNat 1)), (.int (.ofNat 0)), (.int (.ofNat 0)), (.int (.ofNat 0)), (.int (.ofNat 0)), (.int (.ofNat 0))]), (.tup [(.int (.ofNat 0)), (.int (.ofNat 7)), (.int (.ofNat 1)), (.int (.ofNat 0)), (.int (.ofNat 0)), (.int (.ofNat 0)), (.int (.ofNat 0))]), (.tup [(.int (.ofNat 0)), (.int (.ofNat 0)), (.int (.ofNat 7)), (.int (.ofNat 1)), (.int (.ofNat 0)), (.int (.ofNat 0)), (.int (.ofNat 0))]), (.tup [(.int (.ofNat 0)), (.int (.ofNat 0)), (.int (.ofNat 0)), (.int (.ofNat 7)), (.int (.ofNat 1)), (.int (.ofNat 0)), (.int (.ofNat 0))]), (.tup [(.int (.ofNat 0)), (.int (.ofNat 0)), (.int (.ofNat 0)), (.int (.ofNat 0)), (.int (.ofNat 7)), (.int (.ofNat 1)), (.int (.ofNat 0))]), (.tup [(.int (.ofNat 0)), (.int (.ofNat 0)), (.int (.ofNat 0)), (.int (.ofNat 0)), (.int (.ofNat 0)), (.int (.ofNat 7)), (.int (.ofNat 1))]), (.tup [(.int (.ofNat 1)), (.int (.ofNat 0)), (.int (.ofNat 0)), (.int (.ofNat 0)), (.int (.ofNat 0)), (.int (.ofNat 0)), (.int (.ofNat 7))])]), (.int (.ofNat 7)), (.int (.ofNat 29))] (.tup []) (memo2 [(.tup [(.tup [(.int (.ofNat 8)), (.int (.ofNat 1)), (.int (.ofNat 0)), (.int (.ofNat 0)), (.int (.ofNat 0)), (.int (.ofNat 0)), (.int (.ofNat 0))]), (.tup [(.int (.ofNat 0)), (.int (.ofNat 8)), (.int (.ofNat 1)), (.int (.ofNat 0)), (.int (.ofNat 0)), (.int (.ofNat 0)), (.int (.ofNat 0))]), (.tup [(.int (.ofNat 0)), (.int (.ofNat 0)), (.int (.ofNat 8)), (.int (.ofNat 1)), (.int (.ofNat 0)), (.int (.ofNat 0)), (.int (.ofNat 0))]), (.tup [(.int (.ofNat 0)), (.int (.ofNat 0)), (.int (.ofNat 0)), (.int (.ofNat 8)), (.int (.ofNat 1)), (.int (.ofNat 0)), (.int (.ofNat 0))]), (.tup [(.int (.ofNat 0)), (.int (.ofNat 0)), (.int (.ofNat 0)), (.int (.ofNat 0)), (.int (.ofNat 8)), (.int (.ofNat 1)), (.int (.ofNat 0))]), (.tup [(.int (.ofNat 0)), (.int (.ofNat 0)), (.int (.ofNat 0)), (.int (.ofNat 0)), (.int (.ofNat 0)), (.int (.ofNat 8)), (.int (.ofNat 1))]), (.tup [(.int (.ofNat 1)), (.int (.ofNat 0)), (.int (.ofNat 0)), (.int (.ofNat 0)), (.int (.ofNat 0)), (.int (.ofNat 0)), (.int (.ofNat 8))])]), (.int (.ofNat 7)), (.int (.ofNat 29))] (.tup []) (memo2 [(.tup [(.tup [(.int (.ofNat 9)), (.int (.ofNat 1)), (.int (.ofNat 0)), (.int (.ofNat 0)), (.int (.ofNat 0)), (.int (.ofNat 0)), (.int (.ofNat 0))]), (.tup [(.int (.ofNat 0)), (.int (.ofNat 9)), (.int (.ofNat 1)), (.int (.ofNat 0)), (.int (.ofNat 0)), (.int (.ofNat 0)), (.int (.ofNat 0))]), (.tup [(.int (.ofNat 0)), (.int (.ofNat 0)), (.int (.ofNat 9)), (.int (.ofNat 1)), (.int (.ofNat 0)), (.int (.ofNat 0)), (.int (.ofNat 0))]), (.tup [(.int (.ofNat 0)), (.int (.ofNat 0)), (.int (.ofNat 0)), (.int (.ofNat 9)), (.int (.ofNat 1)), (.int (.ofNat 0)), (.int (.ofNat 0))]), (.tup [(.int (.ofNat 0)), (.int (.ofNat 0)), (.int (.ofNat 0)), (.int (.ofNat 0)), (.int (.ofNat 9)), (.int (.ofNat 1)), (.int (.ofNat 0))]), (.tup [(.int (.ofNat 0)), (.int (.ofNat 0)), (.int (.ofNat 0)), (.int (.ofNat 0)), (.int (.ofNat 0)), (.int (.ofNat 9)), (.int (.ofNat 1))]), (.tup [(.int (.ofNat 1)), (.int (.ofNat 0)), (.int (.ofNat 0)), (.int (.ofNat 0)), (.int (.ofNat 0)), (.int (.ofNat 0)), (.int (.ofNat 9))])]), (.int (.ofNat 7)), (.int (.ofNat 29))] (.tup [(.tup [(.int (.ofNat 20)), (.int (.ofNat 23)), (.int (.ofNat 25)), (.int (.ofNat 7)), (.int (.ofNat 24)), (.int (.ofNat 16)), (.int (.ofNat 1))])]) (memo2 [(.tup [(.tup [(.int (.ofNat 10)), (.int (.ofNat 1)), (.int (.ofNat 0)), (.int (.ofNat 0)), (.int (.ofNat 0)), (.int (.ofNat 0)), (.int (.ofNat 0))]), (.tup [(.int (.ofNat 0)), (.int (.ofNat 10)), (.int (.ofNat 1)), (.int (.ofNat 0)), (.int (.ofNat 0)), (.int (.ofNat 0)), (.int (.ofNat 0))]), (.tup [(.int (.ofNat 0)), (.int (.ofNat 0)), (.int (.ofNat 10)), (.int (.ofNat 1)), (.int (.ofNat 0)), (.int (.ofNat 0)), (.int (.ofNat 0))]), (.tup [(.int (.ofNat 0)), (.int (.ofNat 0)), (.int (.ofNat 0)), (.int (.ofNat 10)), (.int (.ofNat 1)), (.int (.ofNat 0)), (.int (.ofNat 0))]), (.tup [(.int (.ofNat 0)), (.int (.ofNat 0)), (.int (.ofNat 0)), (.int (.ofNat 0)), (.int (.ofNat 10)), (.int (.ofNat 1)), (.int (.ofNat 0))]), (.tup [(.int (.ofNat 0)), (.int (.ofNat 0)), (.int (.ofNat 0)), (.int (.ofNat 0)), (.int (.ofNat 0)), (.int (.ofNat 10)), (.int (.ofNat 1))]), (.tup [(.int (.ofNat 1)), (.int (.ofNat 0)), (.int (.ofNat 0)), (.int (.ofNat 0)), (.int (.ofNat 0)), (.int (.ofNat 0)), (.int (.ofNat 10))])]), (.int (.ofNat 7)), (.int (.ofNat 29))] (.tup []) (memo2 [(.tup [(.tup [(.int (.ofNat 11)), (.int (.ofNat 1)), (.int (.ofNat 0)), (.int (.ofNat 0)), (.int (.ofNat 0)), (.int (.ofNat 0)), (.int (.ofNat 0))]), (.tup [(.int (.ofNat 0)), (.int (.ofNat 11)), (.int (.ofNat 1)), (.int (.ofNat 0)), (.int (.ofNat 0)), (.int (.ofNat 0)), (.int (.ofNat 0))]), (.tup [(.int (.ofNat 0)), (.int (.ofNat 0)), (.int (.ofNat 11)), (.int (.ofNat 1)), (.int (.ofNat 0)), (.int (.ofNat 0)), (.int (.ofNat 0))]), (.tup [(.int (.ofNat 0)), (.int (.ofNat 0)), (.int (.ofNat 0)), (.int (.ofNat 11)), (.int (.ofNat 1)), (.int (.ofNat 0)), (.int (.ofNat 0))]), (.tup [(.int (.ofNat 0)), (.int (.ofNat 0)), (.int (.ofNat 0)), (.int (.ofNat 0)), (.int (.ofNat 11)), (.int (.ofNat 1)), (.int (.ofNat 0))]), (.tup [(.int (.ofNat 0)), (.int (.ofNat 0)), (.int (.ofNat 0)), (.int (.ofNat 0)), (.int (.ofNat 0)), (.int (.ofNat 11)), (.int (.ofNat 1))]), (.tup [(.int (.ofNat 1)), (.int (.ofNat 0)), (.int (.ofNat 0)), (.int (.ofNat 0)), (.int (.ofNat 0)), (.int (.ofNat 0)), (.int (.ofNat 11))])]), (.int (.ofNat 7)), (.int (.ofNat 29))] (.tup []) (memo2 [(.tup [(.tup [(.int (.ofNat 12)), (.int (.ofNat 1)), (.int (.ofNat 0)), (.int (.ofNat 0)), (.int (.ofNat 0)), (.int (.ofNat 0)), (.int (.ofNat 0))]), (.tup [(.int (.ofNat 0)), (.int (.ofNat 12)), (.int (.ofNat 1)), (.int (.ofNat 0)), (.int (.ofNat 0)), (.int (.ofNat 0)), (.int (.ofNat 0))]), (.tup [(.int (.ofNat 0)), (.int (.ofNat 0)), (.int (.ofNat 12)), (.int (.ofNat 1)), (.int (.ofNat 0)), (.int (.ofNat 0)), (.int (.ofNat 0))]), (.tup [(.int (.ofNat 0)), (.int (.ofNat 0)), (.int (.ofNat 0)), (.int (.ofNat 12)), (.int (.ofNat 1)), (.int (.ofNat 0)), (.int (.ofNat 0))]), (.tup [(.int (.ofNat 0)), (.int (.ofNat 0)), (.int (.ofNat 0)), (.int (.ofNat 0)), (.int (.ofNat 12)), (.int (.ofNat 1)), (.int (.ofNat 0))]), (.tup [(.int (.ofNat 0)), (.int (.ofNat 0)), (.int (.ofNat 0)), (.int (.ofNat 0)), (.int (.ofNat 0)), (.int (.ofNat 12)), (.int (.ofNat 1))]), (.tup [(.int (.ofNat 1)), (.int (.ofNat 0)), (.int (.ofNat 0)), (.int (.ofNat 0)), (.int (.ofNat 0)), (.int (.ofNat 0)), (.int (.ofNat 12))])]), (.int (.ofNat 7)), (.int (.ofNat 29))] (.tup []) (memo2 [(.tup [(.tup [(.int (.ofNat 13)), (.int (.ofNat 1)), (.int (.ofNat 0)), (.int (.ofNat 0)), (.int (.ofNat 0)), (.int (.ofNat 0)), (.int (.ofNat 0))]), (.tup [(.int (.ofNat 0)), (.int (.ofNat 13)), (.int (.ofNat 1)), (.int (.ofNat 0)), (.int (.ofNat 0)), (.int (.ofNat 0)), (.int (.ofNat 0))]), (.tup [(.int (.ofNat 0)), (.int (.ofNat 0)), (.int (.ofNat 13)), (.int (.ofNat 1)), (.int (.ofNat 0)), (.int (.ofNat 0)), (.int (.ofNat 0))]), (.tup [(.int (.ofNat 0)), (.int (.ofNat 0)), (.int (.ofNat 0)), (.int (.ofNat 13)), (.int (.ofNat 1)), (.int (.ofNat 0)), (.int (.ofNat 0))]), (.tup [(.int (.ofNat 0)), (.int (.ofNat 0)), (.int (.ofNat 0)), (.int (.ofNat 0)), (.int (.ofNat 13)), (.int (.ofNat 1)), (.int (.ofNat 0))]), (.tup [(.int (.ofNat 0)), (.int (.ofNat 0)), (.int (.ofNat 0)), (.int (.ofNat 0)), (.int (.ofNat 0)), (.int (.ofNat 13)), (.int (.ofNat 1))]), (.tup [(.int (.ofNat 1)), (.int (.ofNat 0)), (.int (.ofNat 0)), (.int (.ofNat 0)), (.int (.ofNat 0)), (.int (.ofNat 0)), (.int (.ofNat 13))])]), (.int (.ofNat 7)), (.int (.ofNat 29))] (.tup [(.tup [(.int (.ofNat 16)), (.int (.ofNat 24)), (.int (.ofNat 7)), (.int (.ofNat 25)), (.int (.ofNat 23)), (.int (.ofNat 20)), (.int (.ofNat 1))])]) (memo2 [(.tup [(.tup [(.int (.ofNat 14)), (.int (.ofNat 1)), (.int (.ofNat 0)), (.int (.ofNat 0)), (.int (.ofNat 0)), (.int (.ofNat 0)), (.int (.ofNat 0))]), (.tup [(.int (.ofNat 0)), (.int (.ofNat 14)), (.int (.ofNat 1)), (.int (.ofNat 0)), (.int (.ofNat 0)), (.int (.ofNat 0)), (.int (.ofNat 0))]), (.tup [(.int (.ofNat 0)), (.int (.ofNat 0)), (.int (.ofNat 14)), (.int (.ofNat 1)), (.int (.ofNat 0)), (.int (.ofNat 0)), (.int (.ofNat 0))]), (.tup [(.int (.ofNat 0)), (.int (.ofNat 0)), (.int (.ofNat 0)), (.int (.ofNat 14)), (.int (.ofNat 1)), (.int (.ofNat 0)), (.int (.ofNat 0))]), (.tup [(.int (.ofNat 0)), (.int (.ofNat 0)), (.int (.ofNat 0)), (.int (.ofNat 0)), (.int (.ofNat 14)), (.int (.ofNat 1)), (.int (.ofNat 0))]), (.tup [(.int (.ofNat 0)), (.int (.ofNat 0)), (.int (.ofNat 0)), (.int (.ofNat 0)), (.int (.ofNat 0)), (.int (.ofNat 14)), (.int (.ofNat 1))]), (.tup [(.int (.ofNat 1)), (.int (.ofNat 0)), (.int (.ofNat 0)), (.int (.ofNat 0)), (.int (.ofNat 0)), (.int (.ofNat 0)), (.int (.ofNat 14))])]), (.int (.ofNat 7)), (.int (.ofNat 29))] (.tup []) (memo2 [(.tup [(.tup [(.int (.ofNat 15)), (.int (.ofNat 1)), (.int (.ofNat 0)), (.int (.ofNat 0)), (.int (.ofNat 0)), (.int (.ofNat 0)), (.int (.ofNat 0))]), (.tup [(.int (.ofNat 0)), (.int (.ofNat 15)), (.int (.ofNat 1)), (.int (.ofNat 0)), (.int (.ofNat 0)), (.int (.ofNat 0)), (.int (.ofNat 0))]), (.tup [(.int (.ofNat 0)), (.int (.ofNat 0)), (.int (.ofNat 15)), (.int (.ofNat 1)), (.int (.ofNat 0)), (.int (.ofNat 0)), (.int (.ofNat 0))]), (.tup [(.int (.ofNat 0)), (.int (.ofNat 0)), (.int (.ofNat 0)), (.int (.ofNat 15)), (.int (.ofNat 1)), (.int (.ofNat 0)), (.int (.ofNat 0))]), (.tup [(.int (.ofNat 0)), (.int (.ofNat 0)), (.int (.ofNat 0)), (.int (.ofNat 0)), (.int (.ofNat 15)), (.int (.ofNat 1)), (.int (.ofNat 0))]), (.tup [(.int (.ofNat 0)), (.int (.ofNat 0)), (.int (.ofNat 0)), (.int (.ofNat 0)), (.int (.ofNat 0)), (.int (.ofNat 15)), (.int (.ofNat 1))]), (.tup [(.int (.ofNat 1)), (.int (.ofNat 0)), (.int (.ofNat 0)), (.int (.ofNat 0)), (.int (.ofNat 0)), (.int (.ofNat 0)), (.int (.ofNat 15))])]), (.int (.ofNat 7)), (.int (.ofNat 29))] (.tup []) (memo2 [(.tup [(.tup [(.int (.ofNat 16)), (.int (.ofNat 1)), (.int (.ofNat 0)), (.int (.ofNat 0)), (.int (.ofNat 0)), (.int (.ofNat 0)), (.int (.ofNat 0))]), (.tup [(.int (.ofNat 0)), (.int (.ofNat 16)), (.int (.ofNat 1)), (.int (.ofNat 0)), (.int (.ofNat 0)), (.int (.ofNat 0)), (.int (.ofNat 0))]), (.tup [(.int (.ofNat 0)), (.int (.ofNat 0)), (.int (.ofNat 16)), (.int (.ofNat 1)), (.int (.ofNat 0)), (.int (.ofNat 0)), (.int (.ofNat 0))]), (.tup [(.int (.ofNat 0)), (.int (.ofNat 0)), (.int (.ofNat 0)), (.int (.ofNat 16)), (.int (.ofNat 1)), (.int (.ofNat 0)), (.int (.ofNat 0))]), (.tup [(.int (.ofNat 0)), (.int (.ofNat 0)), (.int (.ofNat 0)), (.int (.ofNat 0)), (.int (.ofNat 16)), (.int (.ofNat 1)), (.int (.ofNat 0))]), (.tup [(.int (.ofNat 0)), (.int (.ofNat 0)), (.int (.ofNat 0)), (.int (.ofNat 0)), (.int (.ofNat 0)), (.int (.ofNat 16)), (.int (.ofNat 1))]), (.tup [(.int (.ofNat 1)), (.int (.ofNat 0)), (.int (.ofNat 0)), (.int (.ofNat 0)), (.int (.ofNat 0)), (.int (.ofNat 0)), (.int (.ofNat 16))])]), (.int (.ofNat 7)), (.int (.ofNat 29))] (.tup []) (memo2 [(.tup [(.tup [(.int (.ofNat 17)), (.int (.ofNat 1)), (.int (.ofNat 0)), (.int (.ofNat 0)), (.int (.ofNat 0)), (.int (.ofNat 0)), (.int (.ofNat 0))]), (.tup [(.int (.ofNat 0)), (.int (.ofNat 17)), (.int (.ofNat 1)), (.int (.ofNat 0)), (.int (.ofNat 0)), (.int (.ofNat 0)), (.int (.ofNat 0))]), (.tup [(.int (.ofNat 0)), (.int (.ofNat 0)), (.int (.ofNat 17)), (.int (.ofNat 1)), (.int (.ofNat 0)), (.int (.ofNat 0)), (.int (.ofNat 0))]), (.tup [(.int (.ofNat 0)), (.int (.ofNat 0)), (.int (.ofNat 0)), (.int (.ofNat 17)), (.int (.ofNat 1)), (.int (.ofNat 0)), (.int (.ofNat 0))]), (.tup [(.int (.ofNat 0)), (.int (.ofNat 0)), (.int (.ofNat 0)), (.int (.ofNat 0)), (.int (.ofNat 17)), (.int (.ofNat 1)), (.int (.ofNat 0))]), (.tup [(.int (.ofNat 0)), (.int (.ofNat 0)), (.int (.ofNat 0)), (.int (.ofNat 0)), (.int (.ofNat 0)), (.int (.ofNat 17)), (.int (.ofNat 1))]), (.tup [(.int (.ofNat 1)), (.int (.ofNat 0)), (.int (.ofNat 0)), (.int (.ofNat 0)), (.int (.ofNat 0)), (.int (.ofNat 0)), (.int (.ofNat 17))])]), (.int (.ofNat 7)), (.int (.ofNat 29))] (.tup []) (memo2 [(.tup [(.tup [(.int (.ofNat 18)), (.int (.ofNat 1)), (.int (.ofNat 0)), (.int (.ofNat 0)), (.int (.ofNat 0)), (.int (.ofNat 0)), (.int (.ofNat 0))]), (.tup [(.int (.ofNat 0)), (.int (.ofNat 18)), (.int (.ofNat 1)), (.int (.ofNat 0)), (.int (.ofNat 0)), (.int (.ofNat 0)), (.int (.ofNat 0))]), (.tup [(.int (.ofNat 0)), (.int (.ofNat 0)), (.int (.ofNat 18)), (.int (.ofNat 1)), (.int (.ofNat 0)), (.int (.ofNat 0)), (.int (.ofNat 0))]), (.tup [(.int (.ofNat 0)), (.int (.ofNat 0)), (.int (.ofNat 0)), (.int (.ofNat 18)), (.int (.ofNat 1)), (.int (.ofNat 0)), (.int (.ofNat 0))]), (.tup [(.int (.ofNat 0)), (.int (.ofNat 0)), (.int (.ofNat 0)), (.int (.ofNat 0)), (.int (.ofNat 18)), (.int (.ofNat 1)), (.int (.ofNat 0))]), (.tup [(.int (.ofNat 0)), (.int (.ofNat 0)), (.int (.ofNat 0)), (.int (.ofNat 0)), (.int (.ofNat 0)), (.int (.ofNat 18)), (.int (.ofNat 1))]), (.tup [(.int (.ofNat 1)), (.int (.ofNat 0)), (.int (.ofNat 0)), (.int (.ofNat 0)), (.int (.ofNat 0)), (.int (.ofNat 0)), (.int (.ofNat 18))])]), (.int (.ofNat 7)), (.int (.ofNat 29))] (.tup []) (memo2 [(.tup [(.tup [(.int (.ofNat 19)), (.int (.ofNat 1)), (.int (.ofNat 0)), (.int (.ofNat 0)), (.int (.ofNat 0)), (.int (.ofNat 0)), (.int (.ofNat 0))]), (.tup [(.int (.ofNat 0)), (.int (.ofNat 19)), (.int (.ofNat 1)), (.int (.ofNat 0)), (.int (.ofNat 0)), (.int (.ofNat 0)), (.int (.ofNat 0))]), (.tup [(.int (.ofNat 0)), (.int (.ofNat 0)), (.int (.ofNat 19)), (.int (.ofNat 1)), (.int (.ofNat 0)), (.int (.ofNat 0)), (.int (.ofNat 0))]), (.tup [(.int (.ofNat 0)), (.int (.ofNat 0)), (.int (.ofNat 0)), (.int (.ofNat 19)), (.int (.ofNat 1)), (.int (.ofNat 0)), (.int (.ofNat 0))]), (.tup [(.int (.ofNat 0)), (.int (.ofNat 0)), (.int (.ofNat 0)), (.int (.ofNat 0)), (.int (.ofNat 19)), (.int (.ofNat 1)), (.int (.ofNat 0))]), (.tup [(.int (.ofNat 0)), (.int (.ofNat 0)), (.int (.ofNat 0)), (.int (.ofNat 0)), (.int (.ofNat 0)), (.int (.ofNat 19)), (.int (.ofNat 1))]), (.tup [(.int (.ofNat 1)), (.int (.ofNat 0)), (.int (.ofNat 0)), (.int (.ofNat 0)), (.int (.ofNat 0)), (.int (.ofNat 0)), (.int (.ofNat 19))])]), (.int (.ofNat 7)), (.int (.ofNat 29))] (.tup []) (memo2 [(.tup [(.tup [(.int (.ofNat 20)), (.int (.ofNat 1)), (.int (.ofNat 0)), (.int (.ofNat 0)), (.int (.ofNat 0)), (.int (.ofNat 0)), (.int (.ofNat 0))]), (.tup [(.int (.ofNat 0)), (.int (.ofNat 20)), (.int (.ofNat 1)), (.int (.ofNat 0)), (.int (.ofNat 0)), (.int (.ofNat 0)), (.int (.ofNat 0))]), (.tup [(.int (.ofNat 0)), (.int (.ofNat 0)), (.int (.ofNat 20)), (.int (.ofNat 1)), (.int (.ofNat 0)), (.int (.ofNat 0)), (.int (.ofNat 0))]), (.tup [(.int (.ofNat 0)), (.int (.ofNat 0)), (.int (.ofNat 0)), (.int (.ofNat 20)), (.int (.ofNat 1)), (.int (.ofNat 0)), (.int (.ofNat 0))]), (.tup [(.int (.ofNat 0)), (.int (.ofNat 0)), (.int (.ofNat 0)), (.int (.ofNat 0)), (.int (.ofNat 20)), (.int (.ofNat 1)), (.int (.ofNat 0))]), (.tup [(.int (.ofNat 0)), (.int (.ofNat 0)), (.int (.ofNat 0)), (.int (.ofNat 0)), (.int (.ofNat 0)), (.int (.ofNat 20)), (.int (.ofNat 1))]), (.tup [(.int (.ofNat 1)), (.int (.ofNat 0)), (.int (.ofNat 0)), (.int (.ofNat 0)), (.int (.ofNat 0)), (.int (.ofNat 0)), (.int (.ofNat 20))])]), (.int (.ofNat 7)), (.int (.ofNat 29))] (.tup []) (memo2 [(.tup [(.tup [(.int (.ofNat 21)), (.int (.ofNat 1)), (.int (.ofNat 0)), (.int (.ofNat 0)), (.int (.ofNat 0)), (.int (.ofNat 0)), (.int (.ofNat 0))]), (.tup [(.int (.ofNat 0)), (.int (.ofNat 21)), (.int (.ofNat 1)), (.int (.ofNat 0)), (.int (.ofNat 0)), (.int (.ofNat 0)), (.int (.ofNat 0))]), (.tup [(.int (.ofNat 0)), (.int (.ofNat 0)), (.int (.ofNat 21)), (.int (.ofNat 1)), (.int (.ofNat 0)), (.int (.ofNat 0)), (.int (.ofNat 0))]), (.tup [(.int (.ofNat 0)), (.int (.ofNat 0)), (.int (.ofNat 0)), (.int (.ofNat 21)), (.int (.ofNat 1)), (.int (.ofNat 0)), (.int (.ofNat 0))]), (.tup [(.int (.ofNat 0)), (.int (.ofNat 0)), (.int (.ofNat 0)), (.int (.ofNat 0)), (.int (.ofNat 21)), (.int (.ofNat 1)), (.int (.ofNat 0))]), (.tup [(.int (.ofNat 0)), (.int (.ofNat 0)), (.int (.ofNat 0)), (.int (.ofNat 0)), (.int (.ofNat 0)), (.int (.ofNat 21)), (.int (.ofNat 1))]), (.tup [(.int (.ofNat 1)), (.int (.ofNat 0)), (.int (.ofNat 0)), (.int (.ofNat 0)), (.int (.ofNat 0)), (.int (.ofNat 0)), (.int (.ofNat 21))])]), (.int (.ofNat 7)), (.int (.ofNat 29))] (.tup []) (memo2 [(.tup [(.tup [(.int (.ofNat 22)), (.int (.ofNat 1)), (.int (.ofNat 0)), (.int (.ofNat 0)), (.int (.ofNat 0)), (.int (.ofNat 0)), (.int (.ofNat 0))]), (.tup [(.int (.ofNat 0)), (.int (.ofNat 22)), (.int (.ofNat 1)), (.int (.ofNat 0)), (.int (.ofNat 0)), (.int (.ofNat 0)), (.int (.ofNat 0))]), (.tup [(.int (.ofNat 0)), (.int (.ofNat 0)), (.int (.ofNat 22)), (.int (.ofNat 1)), (.int (.ofNat 0)), (.int (.ofNat 0)), (.int (.ofNat 0))]), (.tup [(.int (.ofNat 0)), (.int (.ofNat 0)), (.int (.ofNat 0)), (.int (.ofNat 22)), (.int (.ofNat 1)), (.int (.ofNat 0)), (.int (.ofNat 0))]), (.tup [(.int (.ofNat 0)), (.int (.ofNat 0)), (.int (.ofNat 0)), (.int (.ofNat 0)), (.int (.ofNat 22)), (.int (.ofNat 1)), (.int (.ofNat 0))]), (.tup [(.int (.ofNat 0)), (.int (.ofNat 0)), (.int (.ofNat 0)), (.int (.ofNat 0)), (.int (.ofNat 0)), (.int (.ofNat 22)), (.int (.ofNat 1))]), (.tup [(.int (.ofNat 1)), (.int (.ofNat 0)), (.int (.ofNat 0)), (.int (.ofNat 0)), (.int (.ofNat 0)), (.int (.ofNat 0)), (.int (.ofNat 22))])]), (.int (.ofNat 7)), (.int (.ofNat 29))] (.tup [(.tup [(.int (.ofNat 7)), (.int (.ofNat 20)), (.int (.ofNat 24)), (.int (.ofNat 23)), (.int (.ofNat 16)), (.int (.ofNat 25)), (.int (.ofNat 1))])]) (memo2 [(.tup [(.tup [(.int (.ofNat 23)), (.int (.ofNat 1)), (.int (.ofNat 0)), (.int (.ofNat 0)), (.int (.ofNat 0)), (.int (.ofNat 0)), (.int (.ofNat 0))]), (.tup [(.int (.ofNat 0)), (.int (.ofNat 23)), (.int (.ofNat 1)), (.int (.ofNat 0)), (.int (.ofNat 0)), (.int (.ofNat 0)), (.int (.ofNat 0))]), (.tup [(.int (.ofNat 0)), (.int (.ofNat 0)), (.int (.ofNat 23)), (.int (.ofNat 1)), (.int (.ofNat 0)), (.int (.ofNat 0)), (.int (.ofNat 0))]), (.tup [(.int (.ofNat 0)), (.int (.ofNat 0)), (.int (.ofNat 0)), (.int (.ofNat 23)), (.int (.ofNat 1)), (.int (.ofNat 0)), (.int (.ofNat 0))]), (.tup [(.int (.ofNat 0)), (.int (.ofNat 0)), (.int (.ofNat 0)), (.int (.ofNat 0)), (.int (.ofNat 23)), (.int (.ofNat 1)), (.int (.ofNat 0))]), (.tup [(.int (.ofNat 0)), (.int (.ofNat 0)), (.int (.ofNat 0)), (.int (.ofNat 0)), (.int (.ofNat 0)), (.int (.ofNat 23)), (.int (.ofNat 1))]), (.tup [(.int (.ofNat 1)), (.int (.ofNat 0)), (.int (.ofNat 0)), (.int (.ofNat 0)), (.int (.ofNat 0)), (.int (.ofNat 0)), (.int (.ofNat 23))])]), (.int (.ofNat 7)), (.int (.ofNat 29))] (.tup []) (memo2 [(.tup [(.tup [(.int (.ofNat 24)), (.int (.ofNat 1)), (.int (.ofNat 0)), (.int (.ofNat 0)), (.int (.ofNat 0)), (.int (.ofNat 0)), (.int (.ofNat 0))]), (.tup [(.int (.ofNat 0)), (.int (.ofNat 24)), (.int (.ofNat 1)), (.int (.ofNat 0)), (.int (.ofNat 0)), (.int (.ofNat 0)), (.int (.ofNat 0))]), (.tup [(.int (.ofNat 0)), (.int (.ofNat 0)), (.int (.ofNat 24)), (.int (.ofNat 1)), (.int (.ofNat 0)), (.int (.ofNat 0)), (.int (.ofNat 0))]), (.tup [(.int (.ofNat 0)), (.int (.ofNat 0)), (.int (.ofNat 0)), (.int (.ofNat 24)), (.int (.ofNat 1)), (.int (.ofNat 0)), (.int (.ofNat 0))]), (.tup [(.int (.ofNat 0)), (.int (.ofNat 0)), (.int (.ofNat 0)), (.int (.ofNat 0)), (.int (.ofNat 24)), (.int (.ofNat 1)), (.int (.ofNat 0))]), (.tup [(.int (.ofNat 0)), (.int (.ofNat 0)), (.int (.ofNat 0)), (.int (.ofNat 0)), (.int (.ofNat 0)), (.int (.ofNat 24)), (.int (.ofNat 1))]), (.tup [(.int (.ofNat 1)), (.int (.ofNat 0)), (.int (.ofNat 0)), (.int (.ofNat 0)), (.int (.ofNat 0)), (.int (.ofNat 0)), (.int (.ofNat 24))])]), (.int (.ofNat 7)), (.int (.ofNat 29))] (.tup []) (memo2 [(.tup [(.tup [(.int (.ofNat 25)), (.int (.ofNat 1)), (.int (.ofNat 0)), (.int (.ofNat 0)), (.int (.ofNat 0)), (.int (.ofNat 0)), (.int (.ofNat 0))]), (.tup [(.int (.ofNat 0)), (.int (.ofNat 25)), (.int (.ofNat 1)), (.int (.ofNat 0)), (.int (.ofNat 0)), (.int (.ofNat 0)), (.int (.ofNat 0))]), (.tup [(.int (.ofNat 0)), (.int (.ofNat 0)), (.int (.ofNat 25)), (.int (.ofNat 1)), (.int (.ofNat 0)), (.int (.ofNat 0)), (.int (.ofNat 0))]), (.tup [(.int (.ofNat 0)), (.int (.ofNat 0)), (.int (.ofNat 0)), (.int (.ofNat 25)), (.int (.ofNat 1)), (.int (.ofNat 0)), (.int (.ofNat 0))]), (.tup [(.int (.ofNat 0)), (.int (.ofNat 0)), (.int (.ofNat 0)), (.int (.ofNat 0)), (.int (.ofNat 25)), (.int (.ofNat 1)), (.int (.ofNat 0))]), (.tup [(.int (.ofNat 0)), (.int (.ofNat 0)), (.int (.ofNat 0)), (.int (.ofNat 0)), (.int (.ofNat 0)), (.int (.ofNat 25)), (.int (.ofNat 1))]), (.tup [(.int (.ofNat 1)), (.int (.ofNat 0)), (.int (.ofNat 0)), (.int (.ofNat 0)), (.int (.ofNat 0)), (.int (.ofNat 0)), (.int (.ofNat 25))])]), (.int (.ofNat 7)), (.int (.ofNat 29))] (.tup []) (memo2 [(.tup [(.tup [(.int (.ofNat 26)), (.int (.ofNat 1)), (.int (.ofNat 0)), (.int (.ofNat 0)), (.int (.ofNat 0)), (.int (.ofNat 0)), (.int (.ofNat 0))]), (.tup [(.int (.ofNat 0)), (.int (.ofNat 26)), (.int (.ofNat 1)), (.int (.ofNat 0)), (.int (.ofNat 0)), (.int (.ofNat 0)), (.int (.ofNat 0))]), (.tup [(.int (.ofNat 0)), (.int (.ofNat 0)), (.int (.ofNat 26)), (.int (.ofNat 1)), (.int (.ofNat 0)), (.int (.ofNat 0)), (.int (.ofNat 0))]), (.tup [(.int (.ofNat 0)), (.int (.ofNat 0)), (.int (.ofNat 0)), (.int (.ofNat 26)), (.int (.ofNat 1)), (.int (.ofNat 0)), (.int (.ofNat 0))]), (.tup [(.int (.ofNat 0)), (.int (.ofNat 0)), (.int (.ofNat 0)), (.int (.ofNat 0)), (.int (.ofNat 26)), (.int (.ofNat 1)), (.int (.ofNat 0))]), (.tup [(.int (.ofNat 0)), (.int (.ofNat 0)), (.int (.ofNat 0)), (.int (.ofNat 0)), (.int (.ofNat 0)), (.int (.ofNat 26)), (.int (.ofNat 1))]), (.tup [(.int (.ofNat 1)), (.int (.ofNat 0)), (.int (.ofNat 0)), (.int (.ofNat 0)), (.int (.ofNat 0)), (.int (.ofNat 0)), (.int (.ofNat 26))])]), (.int (.ofNat 7)), (.int (.ofNat 29))] (.tup []) (memo2 [(.tup [(.tup [(.int (.ofNat 27)), (.int (.ofNat 1)), (.int (.ofNat 0)), (.int (.ofNat 0)), (.int (.ofNat 0)), (.int (.ofNat 0)), (.int (.ofNat 0))]), (.tup [(.int (.ofNat 0)), (.int (.ofNat 27)), (.int (.ofNat 1)), (.int (.ofNat 0)), (.int (.ofNat 0)), (.int (.ofNat 0)), (.int (.ofNat 0))]), (.tup [(.int (.ofNat 0)), (.int (.ofNat 0)), (.int (.ofNat 27)), (.int (.ofNat 1)), (.int (.ofNat 0)), (.int (.ofNat 0)), (.int (.ofNat 0))]), (.tup [(.int (.ofNat 0)), (.int (.ofNat 0)), (.int (.ofNat 0)), (.int (.ofNat 27)), (.int (.ofNat 1)), (.int (.ofNat 0)), (.int (.ofNat 0))]), (.tup [(.int (.ofNat 0)), (.int (.ofNat 0)), (.int (.ofNat 0)), (.int (.ofNat 0)), (.int (.ofNat 27)), (.int (.ofNat 1)), (.int (.ofNat 0))]), (.tup [(.int (.ofNat 0)), (.int (.ofNat 0)), (.int (.ofNat 0)), (.int (.ofNat 0)), (.int (.ofNat 0)), (.int (.ofNat 27)), (.int (.ofNat 1))]), (.tup [(.int (.ofNat 1)), (.int (.ofNat 0)), (.int (.ofNat 0)), (.int (.ofNat 0)), (.int (.ofNat 0)), (.int (.ofNat 0)), (.int (.ofNat 27))])]), (.int (.ofNat 7)), (.int (.ofNat 29))] (.tup []) (memo2 [(.tup [(.tup [(.int (.ofNat 28)), (.int (.ofNat 1)), (.int (.ofNat 0)), (.int (.ofNat 0)), (.int (.ofNat 0)), (.int (.ofNat 0)), (.int (.ofNat 0))]), (.tup [(.int (.ofNat 0)), (.int (.ofNat 28)), (.int (.ofNat 1)), (.int (.ofNat 0)), (.int (.ofNat 0)), (.int (.ofNat 0)), (.int (.ofNat 0))]), (.tup [(.int (.ofNat 0)), (.int (.ofNat 0)), (.int (.ofNat 28)), (.int (.ofNat 1)), (.int (.ofNat 0)), (.int (.ofNat 0)), (.int (.ofNat 0))]), (.tup [(.int (.ofNat 0)), (.int (.ofNat 0)), (.int (.ofNat 0)), (.int (.ofNat 28)), (.int (.ofNat 1)), (.int (.ofNat 0)), (.int (.ofNat 0))]), (.tup [(.int (.ofNat 0)), (.int (.ofNat 0)), (.int (.ofNat 0)), (.int (.ofNat 0)), (.int (.ofNat 28)), (.int (.ofNat 1)), (.int (.ofNat 0))]), (.tup [(.int (.ofNat 0)), (.int (.ofNat 0)), (.int (.ofNat 0)), (.int (.ofNat 0)), (.int (.ofNat 0)), (.int (.ofNat 28)), (.int (.ofNat 1))]), (.tup [(.int (.ofNat 1)), (.int (.ofNat 0)), (.int (.ofNat 0)), (.int (.ofNat 0)), (.int (.ofNat 0)), (.int (.ofNat 0)), (.int (.ofNat 28))])]), (.int (.ofNat 7)), (.int (.ofNat 29))] (.tup [(.tup [(.int (.ofNat 1)), (.int (.ofNat 1)), (.int (.ofNat 1)), (.int (.ofNat 1)), (.int (.ofNat 1)), (.int (.ofNat 1)), (.int (.ofNat 1))])]) (memo2 [(.tup [(.tup [(.int (.ofNat 0)), (.int (.ofNat 1)), (.int (.ofNat 0)), (.int (.ofNat 0)), (.int (.ofNat 0)), (.int (.ofNat 0)), (.int (.ofNat 0))]), (.tup [(.int (.ofNat 0)), (.int (.ofNat 0)), (.int (.ofNat 1)), (.int (.ofNat 0)), (.int (.ofNat 0)), (.int (.ofNat 0)), (.int (.ofNat 0))]), (.tup [(.int (.ofNat 0)), (.int (.ofNat 0)), (.int (.ofNat 0)), (.int (.ofNat 1)), (.int (.ofNat 0)), (.int (.ofNat 0)), (.int (.ofNat 0))]), (.tup [(.int (.ofNat 0)), (.int (.ofNat 0)), (.int (.ofNat 0)), (.int (.ofNat 0)), (.int (.ofNat 1)), (.int (.ofNat 0)), (.int (.ofNat 0))]), (.tup [(.int (.ofNat 0)), (.int (.ofNat 0)), (.int (.ofNat 0)), (.int (.ofNat 0)), (.int (.ofNat 0)), (.int (.ofNat 1)), (.int (.ofNat 0))]), (.tup [(.int (.ofNat 0)), (.int (.ofNat 0)), (.int (.ofNat 0)), (.int (.ofNat 0)), (.int (.ofNat 0)), (.int (.ofNat 0)), (.int (.ofNat 1))]), (.tup [(.int (.ofNat 1)), (.int (.ofNat 0)), (.int (.ofNat 0)), (.int (.ofNat 0)), (.int (.ofNat 0)), (.int (.ofNat 0)), (.int (.ofNat 0))])]), (.int (.ofNat 7)), (.int (.ofNat 29))] (.tup []) ((fun _ => none))))))))))))))))))))))))))))))
theorem kl11_0 : Les km11_0 m_kernel_modular := (memo2_les kt11_0_28 (memo2_les kt11_0_27 (memo2_les kt11_0_26 (memo2_les kt11_0_25 (memo2_les kt11_0_24 (memo2_les kt11_0_23 (memo2_les kt11_0_22 (memo2_les kt11_0_21 (memo2_les kt11_0_20 (memo2_les kt11_0_19 (memo2_les kt11_0_18 (memo2_les kt11_0_17 (memo2_les kt11_0_16 (memo2_les kt11_0_15 (memo2_les kt11_0_14 (memo2_les kt11_0_13 (memo2_les kt11_0_12 (memo2_les kt11_0_11 (memo2_les kt11_0_10 (memo2_les kt11_0_9 (memo2_les kt11_0_8 (memo2_les kt11_0_7 (memo2_les kt11_0_6 (memo2_les kt11_0_5 (memo2_les kt11_0_4 (memo2_les kt11_0_3 (memo2_les kt11_0_2 (memo2_les kt11_0_1 (memo2_les kt11_0_0 memo0_les)))))))))))))))))))))))))))))
theorem pq11_0 : paX km11_0 pa11_0 = some pr11_0 := by kernel_rfl
theorem pt11_0 : m_parts pa11_0 = some pr11_0 := paX_les kl11_0 _ _ pq11_0
theorem ev_11q : mrX (spX (memo2 pa11_0 pr11_0 (fun _ => none))) [.ins 1 [.tbl 11]] = some mr11 := by kernel_rfl
theorem ev_11a : m_modular_rows [.ins 1 [.tbl 11]] = some mr11 := mrX_les (spX_les (memo2_les pt11_0 memo0_les)) _ _ ev_11q
theorem ev_11b : chX (memo 11 mr11) [.ins 1 [.tbl 11]] = some ch11 := by kernel_rfl
theorem ev_11c : lwX (ctX (memo 11 ch11)) (envL 11) = some (.bl true) := by kernel_rfl
theorem ev_11 : b_law (envL 11) = some (.bl true) := lwX_les (ctX_les (memo_les (chX_les (memo_les ev_11a) _ _ ev_11b))) _ _ ev_11c
theorem ev_12 : b_law (envL 12) = some (.bl true) := by kernel_rfl
theorem ev_13 : b_law (envL 13) = some (.bl true) := by kernel_rfl
theorem ev_14 : b_law (envL 14) = some (.bl true) := by kernel_rfl
def mr15 : U := (.tup [(.int (.ofNat 13)), (.tup [(.tup [(.int (.ofNat 1)), (.int (.ofNat 1)), (.int (.ofNat 1)), (.int (.ofNat 1)), (.int (.ofNat 1)), (.int (.ofNat 1)), (.int (.ofNat 1)), (.int (.ofNat 1))]), (.tup [(.int (.ofNat 1)), (.int (.ofNat 1)), (.int (.ofNat 1)), (.int (.ofNat 1)), (.int (.ofNat 12)), (.int (.ofNat 12)), (.int (.ofNat 12)), (.int (.ofNat 12))]), (.tup [(.int (.ofNat 1)), (.int (.ofNat 1)), (.int (.ofNat 12)), (.int (.ofNat 12)), (.int (.ofNat 1)), (.int (.ofNat 1)), (.int (.ofNat 12)), (.int (.ofNat 12))]), (.tup [(.int (.ofNat 1)), (.int (.ofNat 1)), (.int (.ofNat 12)), (.int (.ofNat 12)), (.int (.ofNat 12)), (.int (.ofNat 12)), (.int (.ofNat 1)), (.int (.ofNat 1))]), (.tup [(.int (.ofNat 1)), (.int (.ofNat 12)), (.int (.ofNat 1)), (.int (.ofNat 12)), (.int (.ofNat 5)), (.int (.ofNat 8)), (.int (.ofNat 5)), (.int (.ofNat 8))]), (.tup [(.int (.ofNat 1)), (.int (.ofNat 12)), (.int (.ofNat 1)), (.int (.ofNat 12)), (.int (.ofNat 8)), (.int (.ofNat 5)), (.int (.ofNat 8)), (.int (.ofNat 5))]), (.tup [(.int (.ofNat 1)), (.int (.ofNat 12)), (.int (.ofNat 12)), (.int (.ofNat 1)), (.int (.ofNat 5)), (.int (.ofNat 8)), (.int (.ofNat 8)), (.int (.ofNat 5))]), (.tup [(.int (.ofNat 1)), (.int (.ofNat 12)), (.int (.ofNat 12)), (.int (.ofNat 1)), (.int (.ofNat 8)), (.int (.ofNat 5)), (.int (.ofNat 5)), (.int (.ofNat 8))])])])
def ch15 : U := (.tup [(.tup [(.int (.ofNat 1)), (.tup [(.ins 2 [(.int (.ofNat 1)), (.tup [(.int (.ofNat 1))]), (.int (.ofNat 1))]), (.ins 2 [(.int (.ofNat 1)), (.tup [(.int (.ofNat 1))]), (.int (.ofNat 1))]), (.ins 2 [(.int (.ofNat 1)), (.tup [(.int (.ofNat 1))]), (.int (.ofNat 1))]), (.ins 2 [(.int (.ofNat 1)), (.tup [(.int (.ofNat 1))]), (.int (.ofNat 1))]), (.ins 2 [(.int (.ofNat 1)), (.tup [(.int (.ofNat 1))]), (.int (.ofNat 1))]), (.ins 2 [(.int (.ofNat 1)), (.tup [(.int (.ofNat 1))]), (.int (.ofNat 1))]), (.ins 2 [(.int (.ofNat 1)), (.tup [(.int (.ofNat 1))]), (.int (.ofNat 1))]), (.ins 2 [(.int (.ofNat 1)), (.tup [(.int (.ofNat 1))]), (.int (.ofNat 1))])])]), (.tup [(.int (.ofNat 1)), (.tup [(.ins 2 [(.int (.ofNat 1)), (.tup [(.int (.ofNat 1))]), (.int (.ofNat 1))]), (.ins 2 [(.int (.ofNat 1)), (.tup [(.int (.ofNat 1))]), (.int (.ofNat 1))]), (.ins 2 [(.int (.ofNat 1)), (.tup [(.int (.ofNat 1))]), (.int (.ofNat 1))]), (.ins 2 [(.int (.ofNat 1)), (.tup [(.int (.ofNat 1))]), (.int (.ofNat 1))]), (.ins 2 [(.int (.ofNat 1)), (.tup [(.int (.negSucc 0))]), (.int (.ofNat 1))]), (.ins 2 [(.int (.ofNat 1)), (.tup [(.int (.negSucc 0))]), (.int (.ofNat 1))]), (.ins 2 [(.int (.ofNat 1)), (.tup [(.int (.negSucc 0))]), (.int (.ofNat 1))]), (.ins 2 [(.int (.ofNat 1)), (.tup [(.int (.negSucc 0))]), (.int (.ofNat 1))])])]), (.tup [(.int (.ofNat 1)), (.tup [(.ins 2 [(.int (.ofNat 1)), (.tup [(.int (.ofNat 1))]), (.int (.ofNat 1))]), (.ins 2 [(.int (.ofNat 1)), (.tup [(.int (.ofNat 1))]), (.int (.ofNat 1))]), (.ins 2 [(.int (.ofNat 1)), (.tup [(.int (.negSucc 0))]), (.int (.ofNat 1))]), (.ins 2 [(.int (.ofNat 1)), (.tup [(.int (.negSucc 0))]), (.int (.ofNat 1))]), (.ins 2 [(.int (.ofNat 1)), (.tup [(.int (.ofNat 1))]), (.int (.ofNat 1))]), (.ins 2 [(.int (.ofNat 1)), (.tup [(.int (.ofNat 1))]), (.int (.ofNat 1))]), (.ins 2 [(.int (.ofNat 1)), (.tup [(.int (.negSucc 0))]), (.int (.ofNat 1))]), (.ins 2 [(.int (.ofNat 1)), (.tup [(.int (.negSucc 0))]), (.int (.ofNat 1))])])]), (.tup [(.int (.ofNat 1)), (.tup [(.ins 2 [(.int (.ofNat 1)), (.tup [(.int (.ofNat 1))]), (.int (.ofNat 1))]), (.ins 2 [(.int (.ofNat 1)), (.tup [(.int (.ofNat 1))]), (.int (.ofNat 1))]), (.ins 2 [(.int (.ofNat 1)), (.tup [(.int (.negSucc 0))]), (.int (.ofNat 1))]), (.ins 2 [(.int (.ofNat 1)), (.tup [(.int (.negSucc 0))]), (.int (.ofNat 1))]), (.ins 2 [(.int (.ofNat 1)), (.tup [(.int (.negSucc 0))]), (.int (.ofNat 1))]), (.ins 2 [(.int (.ofNat 1)), (.tup [(.int (.negSucc 0))]), (.int (.ofNat 1))]), (.ins 2 [(.int (.ofNat 1)), (.tup [(.int (.ofNat 1))]), (.int (.ofNat 1))]), (.ins 2 [(.int (.ofNat 1)), (.tup [(.int (.ofNat 1))]), (.int (.ofNat 1))])])]), (.tup [(.int (.ofNat 1)), (.tup [(.ins 2 [(.int (.ofNat 1)), (.tup [(.int (.ofNat 1))]), (.int (.ofNat 1))]), (.ins 2 [(.int (.ofNat 1)), (.tup [(.int (.negSucc 0))]), (.int (.ofNat 1))]), (.ins 2 [(.int (.ofNat 1)), (.tup [(.int (.ofNat 1))]), (.int (.ofNat 1))]), (.ins 2 [(.int (.ofNat 1)), (.tup [(.int (.negSucc 0))]), (.int (.ofNat 1))]), (.ins 2 [(.int (.ofNat 4)), (.tup [(.int (.ofNat 0)), (.int (.ofNat 1))]), (.int (.ofNat 1))]), (.ins 2 [(.int (.ofNat 4)), (.tup [(.int (.ofNat 0)), (.int (.negSucc 0))]), (.int (.ofNat 1))]), (.ins 2 [(.int (.ofNat 4)), (.tup [(.int (.ofNat 0)), (.int (.ofNat 1))]), (.int (.ofNat 1))]), (.ins 2 [(.int (.ofNat 4)), (.tup [(.int (.ofNat 0)), (.int (.negSucc 0))]), (.int (.ofNat 1))])])]), (.tup [(.int (.ofNat 1)), (.tup [(.ins 2 [(.int (.ofNat 1)), (.tup [(.int (.ofNat 1))]), (.int (.ofNat 1))]), (.ins 2 [(.int (.ofNat 1)), (.tup [(.int (.negSucc 0))]), (.int (.ofNat 1))]), (.ins 2 [(.int (.ofNat 1)), (.tup [(.int (.ofNat 1))]), (.int (.ofNat 1))]), (.ins 2 [(.int (.ofNat 1)), (.tup [(.int (.negSucc 0))]), (.int (.ofNat 1))]), (.ins 2 [(.int (.ofNat 4)), (.tup [(.int (.ofNat 0)), (.int (.negSucc 0))]), (.int (.ofNat 1))]), (.ins 2 [(.int (.ofNat 4)), (.tup [(.int (.ofNat 0)), (.int (.ofNat 1))]), (.int (.ofNat 1))]), (.ins 2 [(.int (.ofNat 4)), (.tup [(.int (.ofNat 0)), (.int (.negSucc 0))]), (.int (.ofNat 1))]), (.ins 2 [(.int (.ofNat 4)), (.tup [(.int (.ofNat 0)), (.int (.ofNat 1))]), (.int (.ofNat 1))])])]), (.tup [(.int (.ofNat 1)), (.tup [(.ins 2 [(.int (.ofNat 1)), (.tup [(.int (.ofNat 1))]), (.int (.ofNat 1))]), (.ins 2 [(.int (.ofNat 1)), (.tup [(.int (.negSucc 0))]), (.int (.ofNat 1))]), (.ins 2 [(.int (.ofNat 1)), (.tup [(.int (.negSucc 0))]), (.int (.ofNat 1))]), (.ins 2 [(.int (.ofNat 1)), (.tup [(.int (.ofNat 1))]), (.int (.ofNat 1))]), (.ins 2 [(.int (.ofNat 4)), (.tup [(.int (.ofNat 0)), (.int (.ofNat 1))]), (.int (.ofNat 1))]), (.ins 2 [(.int (.ofNat 4)), (.tup [(.int (.ofNat 0)), (.int (.negSucc 0))]), (.int (.ofNat 1))]), (.ins 2 [(.int (.ofNat 4)), (.tup [(.int (.ofNat 0)), (.int (.negSucc 0))]), (.int (.ofNat 1))]), (.ins 2 [(.int (.ofNat 4)), (.tup [(.int (.ofNat 0)), (.int (.ofNat 1))]), (.int (.ofNat 1))])])]), (.tup [(.int (.ofNat 1)), (.tup [(.ins 2 [(.int (.ofNat 1)), (.tup [(.int (.ofNat 1))]), (.int (.ofNat 1))]), (.ins 2 [(.int (.ofNat 1)), (.tup [(.int (.negSucc 0))]), (.int (.ofNat 1))]), (.ins 2 [(.int (.ofNat 1)), (.tup [(.int (.negSucc 0))]), (.int (.ofNat 1))]), (.ins 2 [(.int (.ofNat 1)), (.tup [(.int (.ofNat 1))]), (.int (.ofNat 1))]), (.ins 2 [(.int (.ofNat 4)), (.tup [(.int (.ofNat 0)), (.int (.negSucc 0))]), (.int (.ofNat 1))]), (.ins 2 [(.int (.ofNat 4)), (.tup [(.int (.ofNat 0)), (.int (.ofNat 1))]), (.int (.ofNat 1))]), (.ins 2 [(.int (.ofNat 4)), (.tup [(.int (.ofNat 0)), (.int (.ofNat 1))]), (.int (.ofNat 1))]), (.ins 2 [(.int (.ofNat 4)), (.tup [(.int (.ofNat 0)), (.int (.negSucc 0))]), (.int (.ofNat 1))])])])])
def pa15_0 : List U := [(.tup [(.tup [(.int (.ofNat 1)), (.int (.ofNat 0)), (.int (.ofNat 0)), (.int (.ofNat 0)), (.int (.ofNat 0)), (.int (.ofNat 0)), (.int (.ofNat 0)), (.int (.ofNat 0))]), (.tup [(.int (.ofNat 0)), (.int (.ofNat 1)), (.int (.ofNat 0)), (.int (.ofNat 0)), (.int (.ofNat 0)), (.int (.ofNat 0)), (.int (.ofNat 0)), (.int (.ofNat 0))]), (.tup [(.int (.ofNat 0)), (.int (.ofNat 0)), (.int (.ofNat 1)), (.int (.ofNat 0)), (.int (.ofNat 0)), (.int (.ofNat 0)), (.int (.ofNat 0)), (.int (.ofNat 0))]), (.tup [(.int (.ofNat 0)), (.int (.ofNat 0)), (.int (.ofNat 0)), (.int (.ofNat 1)), (.int (.ofNat 0)), (.int (.ofNat 0)), (.int (.ofNat 0)), (.int (.ofNat 0))]), (.tup [(.int (.ofNat 0)), (.int (.ofNat 0)), (.int (.ofNat 0)), (.int (.ofNat 0)), (.int (.ofNat 1)), (.int (.ofNat 0)), (.int (.ofNat 0)), (.int (.ofNat 0))]), (.tup [(.int (.ofNat 0)), (.int (.ofNat 0)), (.int (.ofNat 0)), (.int (.ofNat 0)), (.int (.ofNat 0)), (.int (.ofNat 1)), (.int (.ofNat 0)), (.int (.ofNat 0))]), (.tup [(.int (.ofNat 0)), (.int (.ofNat 0)), (.int (.ofNat 0)), (.int (.ofNat 0)), (.int (.ofNat 0)), (.int (.ofNat 0)), (.int (.ofNat 1)), (.int (.ofNat 0))]), (.tup [(.int (.ofNat 0)), (.int (.ofNat 0)), (.int (.ofNat 0)), (.int (.ofNat 0)), (.int (.ofNat 0)), (.int (.ofNat 0)), (.int (.ofNat 0)), (.int (.ofNat 1))])]), (.tup [(.tup [(.int (.ofNat 0)), (.int (.ofNat 1)), (.int (.ofNat 0)), (.int (.ofNat 0)), (.int (.ofNat 0)), (.int (.ofNat 0)), (.int (.ofNat 0)), (.int (.ofNat 0))]), (.tup [(.int (.ofNat 1)), (.int (.ofNat 0)), (.int (.ofNat 0)), (.int (.ofNat 0)), (.int (.ofNat 0)), (.int (.ofNat 0)), (.int (.ofNat 0)), (.int (.ofNat 0))]), (.tup [(.int (.ofNat 0)), (.int (.ofNat 0)), (.int (.ofNat 0)), (.int (.ofNat 1)), (.int (.ofNat 0)), (.int (.ofNat 0)), (.int (.ofNat 0)), (.int (.ofNat 0))]), (.tup [(.int (.ofNat 0)), (.int (.ofNat 0)), (.int (.ofNat 1)), (.int (.ofNat 0)), (.int (.ofNat 0)), (.int (.ofNat 0)), (.int (.ofNat 0)), (.int (.ofNat 0))]), (.tup [(.int (.ofNat 0)), (.int (.ofNat 0)), (.int (.ofNat 0)), (.int (.ofNat 0)), (.int (.ofNat 0)), (.int (.ofNat 1)), (.int (.ofNat 0)), (.int (.ofNat 0))]), (.tup [(.int (.ofNat 0)), (.int (.ofNat 0)), (.int (.ofNat 0)), (.int (.ofNat 0)), (.int (.ofNat 1)), (.int (.ofNat 0)), (.int (.ofNat 0)), (.int (.ofNat 0))]), (.tup [(.int (.ofNat 0)), (.int (.ofNat 0)), (.int (.ofNat 0)), (.int (.ofNat 0)), (.int (.ofNat 0)), (.int (.ofNat 0)), (.int (.ofNat 0)), (.int (.ofNat 1))]), (.tup [(.int (.ofNat 0)), (.int (.ofNat 0)), (.int (.ofNat 0)), (.int (.ofNat 0)), (.int (.ofNat 0)), (.int (.ofNat 0)), (.int (.ofNat 1)), (.int (.ofNat 0))])]), (.int (.ofNat 13))]
def pr15_0 : U := (.lst [(.tup [(.tup [(.int (.ofNat 1)), (.int (.ofNat 1)), (.int (.ofNat 0)), (.int (.ofNat 0)), (.int (.ofNat 0)), (.int (.ofNat 0)), (.int (.ofNat 0)), (.int (.ofNat 0))]), (.tup [(.int (.ofNat 0)), (.int (.ofNat 0)), (.int (.ofNat 1)), (.int (.ofNat 1)), (.int (.ofNat 0)), (.int (.ofNat 0)), (.int (.ofNat 0)), (.int (.ofNat 0))]), (.tup [(.int (.ofNat 0)), (.int (.ofNat 0)), (.int (.ofNat 0)), (.int (.ofNat 0)), (.int (.ofNat 1)), (.int (.ofNat 1)), (.int (.ofNat 0)), (.int (.ofNat 0))]), (.tup [(.int (.ofNat 0)), (.int (.ofNat 0)), (.int (.ofNat 0)), (.int (.ofNat 0)), (.int (.ofNat 0)), (.int (.ofNat 0)), (.int (.ofNat 1)), (.int (.ofNat 1))])]), (.tup [(.tup [(.int (.ofNat 12)), (.int (.ofNat 1)), (.int (.ofNat 0)), (.int (.ofNat 0)), (.int (.ofNat 0)), (.int (.ofNat 0)), (.int (.ofNat 0)), (.int (.ofNat 0))]), (.tup [(.int (.ofNat 0)), (.int (.ofNat 0)), (.int (.ofNat 12)), (.int (.ofNat 1)), (.int (.ofNat 0)), (.int (.ofNat 0)), (.int (.ofNat 0)), (.int (.ofNat 0))]), (.tup [(.int (.ofNat 0)), (.int (.ofNat 0)), (.int (.ofNat 0)), (.int (.ofNat 0)), (.int (.ofNat 12)), (.int (.ofNat 1)), (.int (.ofNat 0)), (.int (.ofNat 0))]), (.tup [(.int (.ofNat 0)), (.int (.ofNat 0)), (.int (.ofNat 0)), (.int (.ofNat 0)), (.int (.ofNat 0)), (.int (.ofNat 0)), (.int (.ofNat 12)), (.int (.ofNat 1))])])])
theorem pt15_0 : m_parts pa15_0 = some pr15_0 := by kernel_rfl
def pa15_1 : List U := [(.tup [(.tup [(.int (.ofNat 1)), (.int (.ofNat 1)), (.int (.ofNat 0)), (.int (.ofNat 0)), (.int (.ofNat 0)), (.int (.ofNat 0)), (.int (.ofNat 0)), (.int (.ofNat 0))]), (.tup [(.int (.ofNat 0)), (.int (.ofNat 0)), (.int (.ofNat 1)), (.int (.ofNat 1)), (.int (.ofNat 0)), (.int (.ofNat 0)), (.int (.ofNat 0)), (.int (.ofNat 0))]), (.tup [(.int (.ofNat 0)), (.int (.ofNat 0)), (.int (.ofNat 0)), (.int (.ofNat 0)), (.int (.ofNat 1)), (.int (.ofNat 1)), (.int (.ofNat 0)), (.int (.ofNat 0))]), (.tup [(.int (.ofNat 0)), (.int (.ofNat 0)), (.int (.ofNat 0)), (.int (.ofNat 0)), (.int (.ofNat 0)), (.int (.ofNat 0)), (.int (.ofNat 1)), (.int (.ofNat 1))])]), (.tup [(.tup [(.int (.ofNat 0)), (.int (.ofNat 0)), (.int (.ofNat 1)), (.int (.ofNat 0)), (.int (.ofNat 0)), (.int (.ofNat 0)), (.int (.ofNat 0)), (.int (.ofNat 0))]), (.tup [(.int (.ofNat 0)), (.int (.ofNat 0)), (.int (.ofNat 0)), (.int (.ofNat 1)), (.int (.ofNat 0)), (.int (.ofNat 0)), (.int (.ofNat 0)), (.int (.ofNat 0))]), (.tup [(.int (.ofNat 1)), (.int (.ofNat 0)), (.int (.ofNat 0)), (.int (.ofNat 0)), (.int (.ofNat 0)), (.int (.ofNat 0)), (.int (.ofNat 0)), (.int (.ofNat 0))]), (.tup [(.int (.ofNat 0)), (.int (.ofNat 1)), (.int (.ofNat 0)), (.int (.ofNat 0)), (.int (.ofNat 0)), (.int (.ofNat 0)), (.int (.ofNat 0)), (.int (.ofNat 0))]), (.tup [(.int (.ofNat 0)), (.int (.ofNat 0)), (.int (.ofNat 0)), (.int (.ofNat 0)), (.int (.ofNat 0)), (.int (.ofNat 0)), (.int (.ofNat 1)), (.int (.ofNat 0))]), (.tup [(.int (.ofNat 0)), (.int (.ofNat 0)), (.int (.ofNat 0)), (.int (.ofNat 0)), (.int (.ofNat 0)), (.int (.ofNat 0)), (.int (.ofNat 0)), (.int (.ofNat 1))]), (.tup [(.int (.ofNat 0)), (.int (.ofNat 0)), (.int (.ofNat 0)), (.int (.ofNat 0)), (.int (.ofNat 1)), (.int (.ofNat 0)), (.int (.ofNat 0)), (.int (.ofNat 0))]), (.tup [(.int (.ofNat 0)), (.int (.ofNat 0)), (.int (.ofNat 0)), (.int (.ofNat 0)), (.int (.ofNat 0)), (.int (.ofNat 1)), (.int (.ofNat 0)), (.int (.ofNat 0))])]), (.int (.ofNat 13))]
def pr15_1 : U := (.lst [(.tup [(.tup [(.int (.ofNat 1)), (.int (.ofNat 1)), (.int (.ofNat 1)), (.int (.ofNat 1)), (.int (.ofNat 0)), (.int (.ofNat 0)), (.int (.ofNat 0)), (.int (.ofNat 0))]), (.tup [(.int (.ofNat 0)), (.int (.ofNat 0)), (.int (.ofNat 0)), (.int (.ofNat 0)), (.int (.ofNat 1)), (.int (.ofNat 1)), (.int (.ofNat 1)), (.int (.ofNat 1))])]), (.tup [(.tup [(.int (.ofNat 12)), (.int (.ofNat 12)), (.int (.ofNat 1)), (.int (.ofNat 1)), (.int (.ofNat 0)), (.int (.ofNat 0)), (.int (.ofNat 0)), (.int (.ofNat 0))]), (.tup [(.int (.ofNat 0)), (.int (.ofNat 0)), (.int (.ofNat 0)), (.int (.ofNat 0)), (.int (.ofNat 12)), (.int (.ofNat 12)), (.int (.ofNat 1)), (.int (.ofNat 1))])])])
theorem pt15_1 : m_parts pa15_1 = some pr15_1 := by kernel_rfl
def pa15_2 : List U := [(.tup [(.tup [(.int (.ofNat 12)), (.int (.ofNat 1)), (.int (.ofNat 0)), (.int (.ofNat 0)), (.int (.ofNat 0)), (.int (.ofNat 0)), (.int (.ofNat 0)), (.int (.ofNat 0))]), (.tup [(.int (.ofNat 0)), (.int (.ofNat 0)), (.int (.ofNat 12)), (.int (.ofNat 1)), (.int (.ofNat 0)), (.int (.ofNat 0)), (.int (.ofNat 0)), (.int (.ofNat 0))]), (.tup [(.int (.ofNat 0)), (.int (.ofNat 0)), (.int (.ofNat 0)), (.int (.ofNat 0)), (.int (.ofNat 12)), (.int (.ofNat 1)), (.int (.ofNat 0)), (.int (.ofNat 0))]), (.tup [(.int (.ofNat 0)), (.int (.ofNat 0)), (.int (.ofNat 0)), (.int (.ofNat 0)), (.int (.ofNat 0)), (.int (.ofNat 0)), (.int (.ofNat 12)), (.int (.ofNat 1))])]), (.tup [(.tup [(.int (.ofNat 0)), (.int (.ofNat 0)), (.int (.ofNat 1)), (.int (.ofNat 0)), (.int (.ofNat 0)), (.int (.ofNat 0)), (.int (.ofNat 0)), (.int (.ofNat 0))]), (.tup [(.int (.ofNat 0)), (.int (.ofNat 0)), (.int (.ofNat 0)), (.int (.ofNat 1)), (.int (.ofNat 0)), (.int (.ofNat 0)), (.int (.ofNat 0)), (.int (.ofNat 0))]), (.tup [(.int (.ofNat 1)), (.int (.ofNat 0)), (.int (.ofNat 0)), (.int (.ofNat 0)), (.int (.ofNat 0)), (.int (.ofNat 0)), (.int (.ofNat 0)), (.int (.ofNat 0))]), (.tup [(.int (.ofNat 0)), (.int (.ofNat 1)), (.int (.ofNat 0)), (.int (.ofNat 0)), (.int (.ofNat 0)), (.int (.ofNat 0)), (.int (.ofNat 0)), (.int (.ofNat 0))]), (.tup [(.int (.ofNat 0)), (.int (.ofNat 0)), (.int (.ofNat 0)), (.int (.ofNat 0)), (.int (.ofNat 0)), (.int (.ofNat 0)), (.int (.ofNat 1)), (.int (.ofNat 0))]), (.tup [(.int (.ofNat 0)), (.int (.ofNat 0)), (.int (.ofNat 0)), (.int (.ofNat 0)), (.int (.ofNat 0)), (.int (.ofNat 0)), (.int (.ofNat 0)), (.int (.ofNat 1))]), (.tup [(.int (.ofNat 0)), (.int (.ofNat 0)), (.int (.ofNat 0)), (.int (.ofNat 0)), (.int (.ofNat 1)), (.int (.ofNat 0)), (.int (.ofNat 0)), (.int (.ofNat 0))]), (.tup [(.int (.ofNat 0)), (.int (.ofNat 0)), (.int (.ofNat 0)), (.int (.ofNat 0)), (.int (.ofNat 0)), (.int (.ofNat 1)), (.int (.ofNat 0)), (.int (.ofNat 0))])]), (.int (.ofNat 13))]
def pr15_2 : U := (.lst [(.tup [(.tup [(.int (.ofNat 12)), (.int (.ofNat 1)), (.int (.ofNat 12)), (.int (.ofNat 1)), (.int (.ofNat 0)), (.int (.ofNat 0)), (.int (.ofNat 0)), (.int (.ofNat 0))]), (.tup [(.int (.ofNat 0)), (.int (.ofNat 0)), (.int (.ofNat 0)), (.int (.ofNat 0)), (.int (.ofNat 12)), (.int (.ofNat 1)), (.int (.ofNat 12)), (.int (.ofNat 1))])]), (.tup [(.tup [(.int (.ofNat 1)), (.int (.ofNat 12)), (.int (.ofNat 12)), (.int (.ofNat 1)), (.int (.ofNat 0)), (.int (.ofNat 0)), (.int (.ofNat 0)), (.int (.ofNat 0))]), (.tup [(.int (.ofNat 0)), (.int (.ofNat 0)), (.int (.ofNat 0)), (.int (.ofNat 0)), (.int (.ofNat 1)), (.int (.ofNat 12)), (.int (.ofNat 12)), (.int (.ofNat 1))])])])
theorem pt15_2 : m_parts pa15_2 = some pr15_2 := by kernel_rfl
def pa15_3 : List U := [(.tup [(.tup [(.int (.ofNat 1)), (.int (.ofNat 1)), (.int (.ofNat 1)), (.int (.ofNat 1)), (.int (.ofNat 0)), (.int (.ofNat 0)), (.int (.ofNat 0)), (.int (.ofNat 0))]), (.tup [(.int (.ofNat 0)), (.int (.ofNat 0)), (.int (.ofNat 0)), (.int (.ofNat 0)), (.int (.ofNat 1)), (.int (.ofNat 1)), (.int (.ofNat 1)), (.int (.ofNat 1))])]), (.tup [(.tup [(.int (.ofNat 0)), (.int (.ofNat 0)), (.int (.ofNat 0)), (.int (.ofNat 1)), (.int (.ofNat 0)), (.int (.ofNat 0)), (.int (.ofNat 0)), (.int (.ofNat 0))]), (.tup [(.int (.ofNat 0)), (.int (.ofNat 0)), (.int (.ofNat 1)), (.int (.ofNat 0)), (.int (.ofNat 0)), (.int (.ofNat 0)), (.int (.ofNat 0)), (.int (.ofNat 0))]), (.tup [(.int (.ofNat 0)), (.int (.ofNat 1)), (.int (.ofNat 0)), (.int (.ofNat 0)), (.int (.ofNat 0)), (.int (.ofNat 0)), (.int (.ofNat 0)), (.int (.ofNat 0))]), (.tup [(.int (.ofNat 1)), (.int (.ofNat 0)), (.int (.ofNat 0)), (.int (.ofNat 0)), (.int (.ofNat 0)), (.int (.ofNat 0)), (.int (.ofNat 0)), (.int (.ofNat 0))]), (.tup [(.int (.ofNat 0)), (.int (.ofNat 0)), (.int (.ofNat 0)), (.int (.ofNat 0)), (.int (.ofNat 0)), (.int (.ofNat 0)), (.int (.ofNat 0)), (.int (.ofNat 1))]), (.tup [(.int (.ofNat 0)), (.int (.ofNat 0)), (.int (.ofNat 0)), (.int (.ofNat 0)), (.int (.ofNat 0)), (.int (.ofNat 0)), (.int (.ofNat 1)), (.int (.ofNat 0))]), (.tup [(.int (.ofNat 0)), (.int (.ofNat 0)), (.int (.ofNat 0)), (.int (.ofNat 0)), (.int (.ofNat 0)), (.int (.ofNat 1)), (.int (.ofNat 0)), (.int (.ofNat 0))]), (.tup [(.int (.ofNat 0)), (.int (.ofNat 0)), (.int (.ofNat 0)), (.int (.ofNat 0)), (.int (.ofNat 1)), (.int (.ofNat 0)), (.int (.ofNat 0)), (.int (.ofNat 0))])]), (.int (.ofNat 13))]
def pr15_3 : U := (.lst [(.tup [(.tup [(.int (.ofNat 1)), (.int (.ofNat 1)), (.int (.ofNat 1)), (.int (.ofNat 1)), (.int (.ofNat 0)), (.int (.ofNat 0)), (.int (.ofNat 0)), (.int (.ofNat 0))]), (.tup [(.int (.ofNat 0)), (.int (.ofNat 0)), (.int (.ofNat 0)), (.int (.ofNat 0)), (.int (.ofNat 1)), (.int (.ofNat 1)), (.int (.ofNat 1)), (.int (.ofNat 1))])])])
theorem pt15_3 : m_parts pa15_3 = some pr15_3 := by kernel_rfl
def pa15_4 : List U := [(.tup [(.tup [(.int (.ofNat 12)), (.int (.ofNat 12)), (.int (.ofNat 1)), (.int (.ofNat 1)), (.int (.ofNat 0)), (.int (.ofNat 0)), (.int (.ofNat 0)), (.int (.ofNat 0))]), (.tup [(.int (.ofNat 0)), (.int (.ofNat 0)), (.int (.ofNat 0)), (.int (.ofNat 0)), (.int (.ofNat 12)), (.int (.ofNat 12)), (.int (.ofNat 1)), (.int (.ofNat 1))])]), (.tup [(.tup [(.int (.ofNat 0)), (.int (.ofNat 0)), (.int (.ofNat 0)), (.int (.ofNat 1)), (.int (.ofNat 0)), (.int (.ofNat 0)), (.int (.ofNat 0)), (.int (.ofNat 0))]), (.tup [(.int (.ofNat 0)), (.int (.ofNat 0)), (.int (.ofNat 1)), (.int (.ofNat 0)), (.int (.ofNat 0)), (.int (.ofNat 0)), (.int (.ofNat 0)), (.int (.ofNat 0))]), (.tup [(.int (.ofNat 0)), (.int (.ofNat 1)), (.int (.ofNat 0)), (.int (.ofNat 0)), (.int (.ofNat 0)), (.int (.ofNat 0)), (.int (.ofNat 0)), (.int (.ofNat 0))]), (.tup [(.int (.ofNat 1)), (.int (.ofNat 0)), (.int (.ofNat 0)), (.int (.ofNat 0)), (.int (.ofNat 0)), (.int (.ofNat 0)), (.int (.ofNat 0)), (.int (.ofNat 0))]), (.tup [(.int (.ofNat 0)), (.int (.ofNat 0)), (.int (.ofNat 0)), (.int (.ofNat 0)), (.int (.ofNat 0)), (.int (.ofNat 0)), (.int (.ofNat 0)), (.int (.ofNat 1))]), (.tup [(.int (.ofNat 0)), (.int (.ofNat 0)), (.int (.ofNat 0)), (.int (.ofNat 0)), (.int (.ofNat 0)), (.int (.ofNat 0)), (.int (.ofNat 1)), (.int (.ofNat 0))]), (.tup [(.int (.ofNat 0)), (.int (.ofNat 0)), (.int (.ofNat 0)), (.int (.ofNat 0)), (.int (.ofNat 0)), (.int (.ofNat 1)), (.int (.ofNat 0)), (.int (.ofNat 0))]), (.tup [(.int (.ofNat 0)), (.int (.ofNat 0)), (.int (.ofNat 0)), (.int (.ofNat 0)), (.int (.ofNat 1)), (.int (.ofNat 0)), (.int (.ofNat 0)), (.int (.ofNat 0))])]), (.int (.ofNat 13))]
def pr15_4 : U := (.lst [(.tup [(.tup [(.int (.ofNat 12)), (.int (.ofNat 12)), (.int (.ofNat 1)), (.int (.ofNat 1)), (.int (.ofNat 0)), (.int (.ofNat 0)), (.int (.ofNat 0)), (.int (.ofNat 0))]), (.tup [(.int (.ofNat 0)), (.int (.ofNat 0)), (.int (.ofNat 0)), (.int (.ofNat 0)), (.int (.ofNat 12)), (.int (.ofNat 12)), (.int (.ofNat 1)), (.int (.ofNat 1))])])])
theorem pt15_4 : m_parts pa15_4 = some pr15_4 := by kernel_rfl
def pa15_5 : List U := [(.tup [(.tup [(.int (.ofNat 12)), (.int (.ofNat 1)), (.int (.ofNat 12)), (.int (.ofNat 1)), (.int (.ofNat 0)), (.int (.ofNat 0)), (.int (.ofNat 0)), (.int (.ofNat 0))]), (.tup [(.int (.ofNat 0)), (.int (.ofNat 0)), (.int (.ofNat 0)), (.int (.ofNat 0)), (.int (.ofNat 12)), (.int (.ofNat 1)), (.int (.ofNat 12)), (.int (.ofNat 1))])]), (.tup [(.tup [(.int (.ofNat 0)), (.int (.ofNat 0)), (.int (.ofNat 0)), (.int (.ofNat 1)), (.int (.ofNat 0)), (.int (.ofNat 0)), (.int (.ofNat 0)), (.int (.ofNat 0))]), (.tup [(.int (.ofNat 0)), (.int (.ofNat 0)), (.int (.ofNat 1)), (.int (.ofNat 0)), (.int (.ofNat 0)), (.int (.ofNat 0)), (.int (.ofNat 0)), (.int (.ofNat 0))]), (.tup [(.int (.ofNat 0)), (.int (.ofNat 1)), (.int (.ofNat 0)), (.int (.ofNat 0)), (.int (.ofNat 0)), (.int (.ofNat 0)), (.int (.ofNat 0)), (.int (.ofNat 0))]), (.tup [(.int (.ofNat 1)), (.int (.ofNat 0)), (.int (.ofNat 0)), (.int (.ofNat 0)), (.int (.ofNat 0)), (.int (.ofNat 0)), (.int (.ofNat 0)), (.int (.ofNat 0))]), (.tup [(.int (.ofNat 0)), (.int (.ofNat 0)), (.int (.ofNat 0)), (.int (.ofNat 0)), (.int (.ofNat 0)), (.int (.ofNat 0)), (.int (.ofNat 0)), (.int (.ofNat 1))]), (.tup [(.int (.ofNat 0)), (.int (.ofNat 0)), (.int (.ofNat 0)), (.int (.ofNat 0)), (.int (.ofNat 0)), (.int (.ofNat 0)), (.int (.ofNat 1)), (.int (.ofNat 0))]), (.tup [(.int (.ofNat 0)), (.int (.ofNat 0)), (.int (.ofNat 0)), (.int (.ofNat 0)), (.int (.ofNat 0)), (.int (.ofNat 1)), (.int (.ofNat 0)), (.int (.ofNat 0))]), (.tup [(.int (.ofNat 0)), (.int (.ofNat 0)), (.int (.ofNat 0)), (.int (.ofNat 0)), (.int (.ofNat 1)), (.int (.ofNat 0)), (.int (.ofNat 0)), (.int (.ofNat 0))])]), (.int (.ofNat 13))]
def pr15_5 : U := (.lst [(.tup [(.tup [(.int (.ofNat 12)), (.int (.ofNat 1)), (.int (.ofNat 12)), (.int (.ofNat 1)), (.int (.ofNat 0)), (.int (.ofNat 0)), (.int (.ofNat 0)), (.int (.ofNat 0))]), (.tup [(.int (.ofNat 0)), (.int (.ofNat 0)), (.int (.ofNat 0)), (.int (.ofNat 0)), (.int (.ofNat 12)), (.int (.ofNat 1)), (.int (.ofNat 12)), (.int (.ofNat 1))])])])
theorem pt15_5 : m_parts pa15_5 = some pr15_5 := by kernel_rfl
def pa15_6 : List U := [(.tup [(.tup [(.int (.ofNat 1)), (.int (.ofNat 12)), (.int (.ofNat 12)), (.int (.ofNat 1)), (.int (.ofNat 0)), (.int (.ofNat 0)), (.int (.ofNat 0)), (.int (.ofNat 0))]), (.tup [(.int (.ofNat 0)), (.int (.ofNat 0)), (.int (.ofNat 0)), (.int (.ofNat 0)), (.int (.ofNat 1)), (.int (.ofNat 12)), (.int (.ofNat 12)), (.int (.ofNat 1))])]), (.tup [(.tup [(.int (.ofNat 0)), (.int (.ofNat 0)), (.int (.ofNat 0)), (.int (.ofNat 1)), (.int (.ofNat 0)), (.int (.ofNat 0)), (.int (.ofNat 0)), (.int (.ofNat 0))]), (.tup [(.int (.ofNat 0)), (.int (.ofNat 0)), (.int (.ofNat 1)), (.int (.ofNat 0)), (.int (.ofNat 0)), (.int (.ofNat 0)), (.int (.ofNat 0)), (.int (.ofNat 0))]), (.tup [(.int (.ofNat 0)), (.int (.ofNat 1)), (.int (.ofNat 0)), (.int (.ofNat 0)), (.int (.ofNat 0)), (.int (.ofNat 0)), (.int (.ofNat 0)), (.int (.ofNat 0))]), (.tup [(.int (.ofNat 1)), (.int (.ofNat 0)), (.int (.ofNat 0)), (.int (.ofNat 0)), (.int (.ofNat 0)), (.int (.ofNat 0)), (.int (.ofNat 0)), (.int (.ofNat 0))]), (.tup [(.int (.ofNat 0)), (.int (.ofNat 0)), (.int (.ofNat 0)), (.int (.ofNat 0)), (.int (.ofNat 0)), (.int (.ofNat 0)), (.int (.ofNat 0)), (.int (.ofNat 1))]), (.tup [(.int (.ofNat 0)), (.int (.ofNat 0)), (.int (.ofNat 0)), (.int (.ofNat 0)), (.int (.ofNat 0)), (.int (.ofNat 0)), (.int (.ofNat 1)), (.int (.ofNat 0))]), (.tup [(.int (.ofNat 0)), (.int (.ofNat 0)), (.int (.ofNat 0)), (.int (.ofNat 0)), (.int (.ofNat 0)), (.int (.ofNat 1)), (.int (.ofNat 0)), (.int (.ofNat 0))]), (.tup [(.int (.ofNat 0)), (.int (.ofNat 0)), (.int (.ofNat 0)), (.int (.ofNat 0)), (.int (.ofNat 1)), (.int (.ofNat 0)), (.int (.ofNat 0)), (.int (.ofNat 0))])]), (.int (.ofNat 13))]
def pr15_6 : U := (.lst [(.tup [(.tup [(.int (.ofNat 1)), (.int (.ofNat 12)), (.int (.ofNat 12)), (.int (.ofNat 1)), (.int (.ofNat 0)), (.int (.ofNat 0)), (.int (.ofNat 0)), (.int (.ofNat 0))]), (.tup [(.int (.ofNat 0)), (.int (.ofNat 0)), (.int (.ofNat 0)), (.int (.ofNat 0)), (.int (.ofNat 1)), (.int (.ofNat 12)), (.int (.ofNat 12)), (.int (.ofNat 1))])])])
theorem pt15_6 : m_parts pa15_6 = some pr15_6 := by kernel_rfl
def pa15_7 : List U := [(.tup [(.tup [(.int (.ofNat 1)), (.int (.ofNat 1)), (.int (.ofNat 1)), (.int (.ofNat 1)), (.int (.ofNat 0)), (.int (.ofNat 0)), (.int (.ofNat 0)), (.int (.ofNat 0))]), (.tup [(.int (.ofNat 0)), (.int (.ofNat 0)), (.int (.ofNat 0)), (.int (.ofNat 0)), (.int (.ofNat 1)), (.int (.ofNat 1)), (.int (.ofNat 1)), (.int (.ofNat 1))])]), (.tup [(.tup [(.int (.ofNat 0)), (.int (.ofNat 0)), (.int (.ofNat 0)), (.int (.ofNat 0)), (.int (.ofNat 1)), (.int (.ofNat 0)), (.int (.ofNat 0)), (.int (.ofNat 0))]), (.tup [(.int (.ofNat 0)), (.int (.ofNat 0)), (.int (.ofNat 0)), (.int (.ofNat 0)), (.int (.ofNat 0)), (.int (.ofNat 1)), (.int (.ofNat 0)), (.int (.ofNat 0))]), (.tup [(.int (.ofNat 0)), (.int (.ofNat 0)), (.int (.ofNat 0)), (.int (.ofNat 0)), (.int (.ofNat 0)), (.int (.ofNat 0)), (.int (.ofNat 1)), (.int (.ofNat 0))]), (.tup [(.int (.ofNat 0)), (.int (.ofNat 0)), (.int (.ofNat 0)), (.int (.ofNat 0)), (.int (.ofNat 0)), (.int (.ofNat 0)), (.int (.ofNat 0)), (.int (.ofNat 1))]), (.tup [(.int (.ofNat 0)), (.int (.ofNat 1)), (.int (.ofNat 0)), (.int (.ofNat 0)), (.int (.ofNat 0)), (.int (.ofNat 0)), (.int (.ofNat 0)), (.int (.ofNat 0))]), (.tup [(.int (.ofNat 1)), (.int (.ofNat 0)), (.int (.ofNat 0)), (.int (.ofNat 0)), (.int (.ofNat 0)), (.int (.ofNat 0)), (.int (.ofNat 0)), (.int (.ofNat 0))]), (.tup [(.int (.ofNat 0)), (.int (.ofNat 0)), (.int (.ofNat 0)), (.int (.ofNat 1)), (.int (.ofNat 0)), (.int (.ofNat 0)), (.int (.ofNat 0)), (.int (.ofNat 0))]), (.tup [(.int (.ofNat 0)), (.int (.ofNat 0)), (.int (.ofNat 1)), (.int (.ofNat 0)), (.int (.ofNat 0)), (.int (.ofNat 0)), (.int (.ofNat 0)), (.int (.ofNat 0))])]), (.int (.ofNat 13))]
def pr15_7 : U := (.lst [(.tup [(.tup [(.int (.ofNat 1)), (.int (.ofNat 1)), (.int (.ofNat 1)), (.int (.ofNat 1)), (.int (.ofNat 1)), (.int (.ofNat 1)), (.int (.ofNat 1)), (.int (.ofNat 1))])]), (.tup [(.tup [(.int (.ofNat 12)), (.int (.ofNat 12)), (.int (.ofNat 12)), (.int (.ofNat 12)), (.int (.ofNat 1)), (.int (.ofNat 1)), (.int (.ofNat 1)), (.int (.ofNat 1))])])])
theorem pt15_7 : m_parts pa15_7 = some pr15_7 := by kernel_rfl
def pa15_8 : List U := [(.tup [(.tup [(.int (.ofNat 12)), (.int (.ofNat 12)), (.int (.ofNat 1)), (.int (.ofNat 1)), (.int (.ofNat 0)), (.int (.ofNat 0)), (.int (.ofNat 0)), (.int (.ofNat 0))]), (.tup [(.int (.ofNat 0)), (.int (.ofNat 0)), (.int (.ofNat 0)), (.int (.ofNat 0)), (.int (.ofNat 12)), (.int (.ofNat 12)), (.int (.ofNat 1)), (.int (.ofNat 1))])]), (.tup [(.tup [(.int (.ofNat 0)), (.int (.ofNat 0)), (.int (.ofNat 0)), (.int (.ofNat 0)), (.int (.ofNat 1)), (.int (.ofNat 0)), (.int (.ofNat 0)), (.int (.ofNat 0))]), (.tup [(.int (.ofNat 0)), (.int (.ofNat 0)), (.int (.ofNat 0)), (.int (.ofNat 0)), (.int (.ofNat 0)), (.int (.ofNat 1)), (.int (.ofNat 0)), (.int (.ofNat 0))]), (.tup [(.int (.ofNat 0)), (.int (.ofNat 0)), (.int (.ofNat 0)), (.int (.ofNat 0)), (.int (.ofNat 0)), (.int (.ofNat 0)), (.int (.ofNat 1)), (.int (.ofNat 0))]), (.tup [(.int (.ofNat 0)), (.int (.ofNat 0)), (.int (.ofNat 0)), (.int (.ofNat 0)), (.int (.ofNat 0)), (.int (.ofNat 0)), (.int (.ofNat 0)), (.int (.ofNat 1))]), (.tup [(.int (.ofNat 0)), (.int (.ofNat 1)), (.int (.ofNat 0)), (.int (.ofNat 0)), (.int (.ofNat 0)), (.int (.ofNat 0)), (.int (.ofNat 0)), (.int (.ofNat 0))]), (.tup [(.int (.ofNat 1)), (.int (.ofNat 0)), (.int (.ofNat 0)), (.int (.ofNat 0)), (.int (.ofNat 0)), (.int (.ofNat 0)), (.int (.ofNat 0)), (.int (.ofNat 0))]), (.tup [(.int (.ofNat 0)), (.int (.ofNat 0)), (.int (.ofNat 0)), (.int (.ofNat 1)), (.int (.ofNat 0)), (.int (.ofNat 0)), (.int (.ofNat 0)), (.int (.ofNat 0))]), (.tup [(.int (.ofNat 0)), (.int (.ofNat 0)), (.int (.ofNat 1)), (.int (.ofNat 0)), (.int (.ofNat 0)), (.int (.ofNat 0)), (.int (.ofNat 0)), (.int (.ofNat 0))])]), (.int (.ofNat 13))]
def pr15_8 : U := (.lst [(.tup [(.tup [(.int (.ofNat 12)), (.int (.ofNat 12)), (.int (.ofNat 1)), (.int (.ofNat 1)), (.int (.ofNat 12)), (.int (.ofNat 12)), (.int (.ofNat 1)), (.int (.ofNat 1))])]), (.tup [(.tup [(.int (.ofNat 1)), (.int (.ofNat 1)), (.int (.ofNat 12)), (.int (.ofNat 12)), (.int (.ofNat 12)), (.int (.ofNat 12)), (.int (.ofNat 1)), (.int (.ofNat 1))])])])
theorem pt15_8 : m_parts pa15_8 = some pr15_8 := by kernel_rfl
def pa15_9 : List U := [(.tup [(.tup [(.int (.ofNat 12)), (.int (.ofNat 1)), (.int (.ofNat 12)), (.int (.ofNat 1)), (.int (.ofNat 0)), (.int (.ofNat 0)), (.int (.ofNat 0)), (.int (.ofNat 0))]), (.tup [(.int (.ofNat 0)), (.int (.ofNat 0)), (.int (.ofNat 0)), (.int (.ofNat 0)), (.int (.ofNat 12)), (.int (.ofNat 1)), (.int (.ofNat 12)), (.int (.ofNat 1))])]), (.tup [(.tup [(.int (.ofNat 0)), (.int (.ofNat 0)), (.int (.ofNat 0)), (.int (.ofNat 0)), (.int (.ofNat 1)), (.int (.ofNat 0)), (.int (.ofNat 0)), (.int (.ofNat 0))]), (.tup [(.int (.ofNat 0)), (.int (.ofNat 0)), (.int (.ofNat 0)), (.int (.ofNat 0)), (.int (.ofNat 0)), (.int (.ofNat 1)), (.int (.ofNat 0)), (.int (.ofNat 0))]), (.tup [(.int (.ofNat 0)), (.int (.ofNat 0)), (.int (.ofNat 0)), (.int (.ofNat 0)), (.int (.ofNat 0)), (.int (.ofNat 0)), (.int (.ofNat 1)), (.int (.ofNat 0))]), (.tup [(.int (.ofNat 0)), (.int (.ofNat 0)), (.int (.ofNat 0)), (.int (.ofNat 0)), (.int (.ofNat 0)), (.int (.ofNat 0)), (.int (.ofNat 0)), (.int (.ofNat 1))]), (.tup [(.int (.ofNat 0)), (.int (.ofNat 1)), (.int (.ofNat 0)), (.int (.ofNat 0)), (.int (.ofNat 0)), (.int (.ofNat 0)), (.int (.ofNat 0)), (.int (.ofNat 0))]), (.tup [(.int (.ofNat 1)), (.int (.ofNat 0)), (.int (.ofNat 0)), (.int (.ofNat 0)), (.int (.ofNat 0)), (.int (.ofNat 0)), (.int (.ofNat 0)), (.int (.ofNat 0))]), (.tup [(.int (.ofNat 0)), (.int (.ofNat 0)), (.int (.ofNat 0)), (.int (.ofNat 1)), (.int (.ofNat 0)), (.int (.ofNat 0)), (.int (.ofNat 0)), (.int (.ofNat 0))]), (.tup [(.int (.ofNat 0)), (.int (.ofNat 0)), (.int (.ofNat 1)), (.int (.ofNat 0)), (.int (.ofNat 0)), (.int (.ofNat 0)), (.int (.ofNat 0)), (.int (.ofNat 0))])]), (.int (.ofNat 13))]
def pr15_9 : U := (.lst [(.tup [(.tup [(.int (.ofNat 5)), (.int (.ofNat 8)), (.int (.ofNat 5)), (.int (.ofNat 8)), (.int (.ofNat 12)), (.int (.ofNat 1)), (.int (.ofNat 12)), (.int (.ofNat 1))])]), (.tup [(.tup [(.int (.ofNat 8)), (.int (.ofNat 5)), (.int (.ofNat 8)), (.int (.ofNat 5)), (.int (.ofNat 12)), (.int (.ofNat 1)), (.int (.ofNat 12)), (.int (.ofNat 1))])])])
theorem pt15_9 : m_parts pa15_9 = some pr15_9 := by kernel_rfl
def pa15_10 : List U := [(.tup [(.tup [(.int (.ofNat 1)), (.int (.ofNat 12)), (.int (.ofNat 12)), (.int (.ofNat 1)), (.int (.ofNat 0)), (.int (.ofNat 0)), (.int (.ofNat 0)), (.int (.ofNat 0))]), (.tup [(.int (.ofNat 0)), (.int (.ofNat 0)), (.int (.ofNat 0)), (.int (.ofNat 0)), (.int (.ofNat 1)), (.int (.ofNat 12)), (.int (.ofNat 12)), (.int (.ofNat 1))])]), (.tup [(.tup [(.int (.ofNat 0)), (.int (.ofNat 0)), (.int (.ofNat 0)), (.int (.ofNat 0)), (.int (.ofNat 1)), (.int (.ofNat 0)), (.int (.ofNat 0)), (.int (.ofNat 0))]), (.tup [(.int (.ofNat 0)), (.int (.ofNat 0)), (.int (.ofNat 0)), (.int (.ofNat 0)), (.int (.ofNat 0)), (.int (.ofNat 1)), (.int (.ofNat 0)), (.int (.ofNat 0))]), (.tup [(.int (.ofNat 0)), (.int (.ofNat 0)), (.int (.ofNat 0)), (.int (.ofNat 0)), (.int (.ofNat 0)), (.int (.ofNat 0)), (.int (.ofNat 1)), (.int (.ofNat 0))]), (.tup [(.int (.ofNat 0)), (.int (.ofNat 0)), (.int (.ofNat 0)), (.int (.ofNat 0)), (.int (.ofNat 0)), (.int (.ofNat 0)), (.int (.ofNat 0)), (.int (.ofNat 1))]), (.tup [(.int (.ofNat 0)), (.int (.ofNat 1)), (.int (.ofNat 0)), (.int (.ofNat 0)), (.int (.ofNat 0)), (.int (.ofNat 0)), (.int (.ofNat 0)), (.int (.ofNat 0))]), (.tup [(.int (.ofNat 1)), (.int (.ofNat 0)), (.int (.ofNat 0)), (.int (.ofNat 0)), (.int (.ofNat 0)), (.int (.ofNat 0)), (.int (.ofNat 0)), (.int (.ofNat 0))]), (.tup [(.int (.ofNat 0)), (.int (.ofNat 0)), (.int (.ofNat 0)), (.int (.ofNat 1)), (.int (.ofNat 0)), (.int (.ofNat 0)), (.int (.ofNat 0)), (.int (.ofNat 0))]), (.tup [(.int (.ofNat 0)), (.int (.ofNat 0)), (.int (.ofNat 1)), (.int (.ofNat 0)), (.int (.ofNat 0)), (.int (.ofNat 0)), (.int (.ofNat 0)), (.int (.ofNat 0))])]), (.int (.ofNat 13))]
def pr15_10 : U := (.lst [(.tup [(.tup [(.int (.ofNat 8)), (.int (.ofNat 5)), (.int (.ofNat 5)), (.int (.ofNat 8)), (.int (.ofNat 1)), (.int (.ofNat 12)), (.int (.ofNat 12)), (.int (.ofNat 1))])]), (.tup [(.tup [(.int (.ofNat 5)), (.int (.ofNat 8)), (.int (.ofNat 8)), (.int (.ofNat 5)), (.int (.ofNat 1)), (.int (.ofNat 12)), (.int (.ofNat 12)), (.int (.ofNat 1))])])])
theorem pt15_10 : m_parts pa15_10 = some pr15_10 := by kernel_rfl
theorem ev_15q : mrX (spX (memo2 pa15_10 pr15_10 (memo2 pa15_9 pr15_9 (memo2 pa15_8 pr15_8 (memo2 pa15_7 pr15_7 (memo2 pa15_6 pr15_6 (memo2 pa15_5 pr15_5 (memo2 pa15_4 pr15_4 (memo2 pa15_3 pr15_3 (memo2 pa15_2 pr15_2 (memo2 pa15_1 pr15_1 (memo2 pa15_0 pr15_0 (fun _ => none))))))))))))) [.ins 1 [.tbl 15]] = some mr15 := by kernel_rfl
theorem ev_15a : m_modular_rows [.ins 1 [.tbl 15]] = some mr15 := mrX_les (spX_les (memo2_les pt15_10 (memo2_les pt15_9 (memo2_les pt15_8 (memo2_les pt15_7 (memo2_les pt15_6 (memo2_les pt15_5 (memo2_les pt15_4 (memo2_les pt15_3 (memo2_les pt15_2 (memo2_les pt15_1 (memo2_les pt15_0 memo0_les)))))))))))) _ _ ev_15q
theorem ev_15b : chX (memo 15 mr15) [.ins 1 [.tbl 15]] = some ch15 := by kernel_rfl
theorem ev_15c : lwX (ctX (memo 15 ch15)) (envL 15) = some (.bl true) := by kernel_rfl
theorem ev_15 : b_law (envL 15) = some (.bl true) := lwX_les (ctX_les (memo_les (chX_les (memo_les ev_15a) _ _ ev_15b))) _ _ ev_15c
theorem ev_16 : b_law (envL 16) = some (.bl true) := by kernel_rfl
theorem ev_17 : b_law (envL 17) = some (.bl true) := by kernel_rfl
theorem ev_law : ∀ i, i < 18 → b_law (envL i) = some (.bl true)
  | 0, _ => ev_0
  | 1, _ => ev_1
  | 2, _ => ev_2
  | 3, _ => ev_3
  | 4, _ => ev_4
  | 5, _ => ev_5
  | 6, _ => ev_6
  | 7, _ => ev_7
  | 8, _ => ev_8
  | 9, _ => ev_9
  | 10, _ => ev_10
  | 11, _ => ev_11
  | 12, _ => ev_12
  | 13, _ => ev_13
  | 14, _ => ev_14
  | 15, _ => ev_15
  | 16, _ => ev_16
  | 17, _ => ev_17
  | i + 18, h => absurd h (by omega)
end Ct
end
end
section
set_option Elab.async false
set_option linter.all false
set_option maxRecDepth 1000000
set_option maxHeartbeats 0
noncomputable section
namespace Ct
open PySem PyProof.Rows
def fpA : MS := sSeq (sIf (tOrr (tNt (tB1 (eIsS (eV 0)))) (tB1 (e2 fEq (eCa fLen (aC (eV 0) aN)) (eC (.int (.ofNat 0)))))) sNo sPass) (sSeq (sFor (wS (eV 0)) (.one 1) (sIf (tOrr (tNt (tB1 (eIsC 0 (eV 1)))) (tB1 (e2 fNe (eCa fLen (aC (e1 (fFld 0 0) (eV 1)) aN)) (eCa fLen (aC (e1 (fFld 0 0) (e2 fIx (eV 0) (eC (.int (.ofNat 0))))) aN))))) sNo sPass)) (sSet 2 (eCall m__closure (aC (eV 0) aN))))
def fpT : MS := (sSeq (sSet 3 (eFz (lLc (wS (eV 2)) (.one 4) tYs (eMake 0 m_Permutation___init__ [] (aC (eV 4) aN)) [4]))) (sSeq (sOwnD 5 (eDc @putT (.dt [] []) (wEnum (aC (eV 2) aN)) (.two 6 4) tYs (eV 4) (eV 6) [6, 4])) (sSeq (sSet 7 (eFz (lLc (wS (eV 3)) (.one 9) tYs (eFz (lLc (wS (eV 3)) (.one 8) tYs (eDGet keyT (eV 5) (e1 (fFld 0 0) (e2 (fDun 0 m_Permutation___mul__) (eV 9) (eV 8)))) [8])) [9]))) (sRet (eTup (aC (eMake 1 m_Group___init__ [] (aC (eV 7) aN)) (aC (eCa fTuple (aC (eV 3) aN)) aN)))))))
theorem sseq_nx {m n : MS} {env e : List U} (h : sSeq m n env = some (.nx e)) : ∃ e1, m env = some (.nx e1) ∧ n e1 = some (.nx e) := by
  obtain ⟨o, e1, e2⟩ := ob_some h
  cases o with
  | nx env1 => exact ⟨env1, e1, e2⟩
  | rt u => cases e2
  | br env1 => cases e2
  | ct env1 => cases e2
theorem sseq_of {m n : MS} {env e : List U} (h : m env = some (.nx e)) : sSeq m n env = n e := by
  show ob (m env) _ = _
  rw [h]
  rfl
theorem fp_eq {env e : List U} {r : U} (h : fpA env = some (.nx e)) (t : fpT e = some (.rt r)) : b_from_permutations env = some (.rt r) := by
  obtain ⟨e1, h1, h⟩ := sseq_nx h
  obtain ⟨e2, h2, h3⟩ := sseq_nx h
  show sSeq _ (sSeq _ (sSeq _ fpT)) env = _
  rw [sseq_of h1, sseq_of h2, sseq_of h3, t]
def zw {α β γ : Type} (f : α → β → γ) (l : List α) : List β → List γ := List.rec (motive := fun _ => List β → List γ) (fun _ => []) (fun x _ r ks => List.casesOn (motive := fun _ => List γ) ks [] fun k ks => f x k :: r ks) l
theorem zw_mem {α β γ : Type} {f : α → γ} {g : α → β → γ} : ∀ {l : List α} {ks : List β}, lmap f l = zw g l ks → ∀ x ∈ l, ∃ k ∈ ks, f x = g x k
  | [], _, _, x, m => by cases m
  | y :: l, [], h, _, _ => by
    have h' : f y :: lmap f l = [] := h
    cases h'
  | y :: l, k :: ks, h, x, m => by
    have h' : f y :: lmap f l = g y k :: zw g l ks := h
    injection h' with h1 h2
    rcases List.mem_cons.mp m with rfl | m
    · exact ⟨k, List.mem_cons_self .., h1⟩
    · obtain ⟨k', a, b⟩ := zw_mem h2 x m
      exact ⟨k', List.mem_cons_of_mem _ a, b⟩
def fpE (gs g : U) (im : List (List Nat)) : List U := [gs, g, .lst (lmap pI im), .no, .no, .no, .no, .no, .no, .no]
def fpS (p q : List Nat) : List U := [.tup [pP p, pP q], .no, .no, .no, .no, .no, .no, .no, .no, .no]
def imL : List (List (List Nat)) := [[[0, 1, 2]], [[0, 1, 2], [0, 2, 1]], [[0, 1, 2], [1, 0, 2]], [[0, 1, 2], [1, 2, 0], [2, 0, 1]], [[0, 1, 2], [2, 1, 0]], [[0, 1, 2], [0, 2, 1], [1, 0, 2], [1, 2, 0], [2, 0, 1], [2, 1, 0]], [[0, 1, 2, 3]], [[0, 1, 2, 3], [0, 1, 3, 2]], [[0, 1, 2, 3], [0, 2, 1, 3]], [[0, 1, 2, 3], [0, 2, 3, 1], [0, 3, 1, 2]], [[0, 1, 2, 3], [0, 3, 2, 1]], [[0, 1, 2, 3], [1, 0, 2, 3]], [[0, 1, 2, 3], [1, 0, 3, 2]], [[0, 1, 2, 3], [1, 2, 0, 3], [2, 0, 1, 3]], [[0, 1, 2, 3], [1, 2, 3, 0], [2, 3, 0, 1], [3, 0, 1, 2]], [[0, 1, 2, 3], [1, 3, 0, 2], [2, 0, 3, 1], [3, 2, 1, 0]], [[0, 1, 2, 3], [1, 3, 2, 0], [3, 0, 2, 1]], [[0, 1, 2, 3], [2, 1, 0, 3]], [[0, 1, 2, 3], [2, 1, 3, 0], [3, 1, 0, 2]], [[0, 1, 2, 3], [2, 3, 0, 1]], [[0, 1, 2, 3], [1, 0, 3, 2], [2, 3, 1, 0], [3, 2, 0, 1]], [[0, 1, 2, 3], [3, 1, 2, 0]], [[0, 1, 2, 3], [3, 2, 1, 0]], [[0, 1, 2, 3], [0, 1, 3, 2], [0, 2, 1, 3], [0, 2, 3, 1], [0, 3, 1, 2], [0, 3, 2, 1]], [[0, 1, 2, 3], [0, 1, 3, 2], [1, 0, 2, 3], [1, 0, 3, 2]], [[0, 1, 2, 3], [0, 1, 3, 2], [0, 2, 1, 3], [0, 2, 3, 1], [0, 3, 1, 2], [0, 3, 2, 1], [1, 0, 2, 3], [1, 0, 3, 2], [1, 2, 0, 3], [1, 2, 3, 0], [1, 3, 0, 2], [1, 3, 2, 0], [2, 0, 1, 3], [2, 0, 3, 1], [2, 1, 0, 3], [2, 1, 3, 0], [2, 3, 0, 1], [2, 3, 1, 0], [3, 0, 1, 2], [3, 0, 2, 1], [3, 1, 0, 2], [3, 1, 2, 0], [3, 2, 0, 1], [3, 2, 1, 0]], [[0, 1, 2, 3], [0, 1, 3, 2], [2, 1, 0, 3], [2, 1, 3, 0], [3, 1, 0, 2], [3, 1, 2, 0]], [[0, 1, 2, 3], [0, 1, 3, 2], [1, 0, 2, 3], [1, 0, 3, 2], [2, 3, 0, 1], [2, 3, 1, 0], [3, 2, 0, 1], [3, 2, 1, 0]], [[0, 1, 2, 3], [0, 2, 1, 3], [1, 0, 2, 3], [1, 2, 0, 3], [2, 0, 1, 3], [2, 1, 0, 3]], [[0, 1, 2, 3], [0, 2, 1, 3], [1, 0, 3, 2], [1, 3, 0, 2], [2, 0, 3, 1], [2, 3, 0, 1], [3, 1, 2, 0], [3, 2, 1, 0]], [[0, 1, 2, 3], [0, 2, 1, 3], [3, 1, 2, 0], [3, 2, 1, 0]], [[0, 1, 2, 3], [0, 2, 3, 1], [0, 3, 1, 2], [1, 0, 3, 2], [1, 2, 0, 3], [1, 3, 2, 0], [2, 0, 1, 3], [2, 1, 3, 0], [2, 3, 0, 1], [3, 0, 2, 1], [3, 1, 0, 2], [3, 2, 1, 0]], [[0, 1, 2, 3], [0, 3, 2, 1], [1, 0, 2, 3], [1, 3, 2, 0], [3, 0, 2, 1], [3, 1, 2, 0]], [[0, 1, 2, 3], [0, 3, 2, 1], [1, 0, 3, 2], [1, 2, 3, 0], [2, 1, 0, 3], [2, 3, 0, 1], [3, 0, 1, 2], [3, 2, 1, 0]], [[0, 1, 2, 3], [0, 3, 2, 1], [2, 1, 0, 3], [2, 3, 0, 1]], [[0, 1, 2, 3], [1, 0, 3, 2], [2, 3, 0, 1], [3, 2, 1, 0]]]
def im (k : Nat) : List (List Nat) := Option.rec [] id (nth imL k)
theorem ft_0 (gs g : U) : fpT (fpE gs g (im 0)) = some (.rt (.tup [gT 0, (.tup [(.ins 0 [(.tup [(.int (.ofNat 0)), (.int (.ofNat 1)), (.int (.ofNat 2))])])])])) := by kernel_rfl
theorem ft_1 (gs g : U) : fpT (fpE gs g (im 1)) = some (.rt (.tup [gT 1, (.tup [(.ins 0 [(.tup [(.int (.ofNat 0)), (.int (.ofNat 1)), (.int (.ofNat 2))])]), (.ins 0 [(.tup [(.int (.ofNat 0)), (.int (.ofNat 2)), (.int (.ofNat 1))])])])])) := by kernel_rfl
theorem ft_2 (gs g : U) : fpT (fpE gs g (im 2)) = some (.rt (.tup [gT 1, (.tup [(.ins 0 [(.tup [(.int (.ofNat 0)), (.int (.ofNat 1)), (.int (.ofNat 2))])]), (.ins 0 [(.tup [(.int (.ofNat 1)), (.int (.ofNat 0)), (.int (.ofNat 2))])])])])) := by kernel_rfl
theorem ft_3 (gs g : U) : fpT (fpE gs g (im 3)) = some (.rt (.tup [gT 2, (.tup [(.ins 0 [(.tup [(.int (.ofNat 0)), (.int (.ofNat 1)), (.int (.ofNat 2))])]), (.ins 0 [(.tup [(.int (.ofNat 1)), (.int (.ofNat 2)), (.int (.ofNat 0))])]), (.ins 0 [(.tup [(.int (.ofNat 2)), (.int (.ofNat 0)), (.int (.ofNat 1))])])])])) := by kernel_rfl
theorem ft_4 (gs g : U) : fpT (fpE gs g (im 4)) = some (.rt (.tup [gT 1, (.tup [(.ins 0 [(.tup [(.int (.ofNat 0)), (.int (.ofNat 1)), (.int (.ofNat 2))])]), (.ins 0 [(.tup [(.int (.ofNat 2)), (.int (.ofNat 1)), (.int (.ofNat 0))])])])])) := by kernel_rfl
theorem ft_5 (gs g : U) : fpT (fpE gs g (im 5)) = some (.rt (.tup [gT 8, (.tup [(.ins 0 [(.tup [(.int (.ofNat 0)), (.int (.ofNat 1)), (.int (.ofNat 2))])]), (.ins 0 [(.tup [(.int (.ofNat 0)), (.int (.ofNat 2)), (.int (.ofNat 1))])]), (.ins 0 [(.tup [(.int (.ofNat 1)), (.int (.ofNat 0)), (.int (.ofNat 2))])]), (.ins 0 [(.tup [(.int (.ofNat 1)), (.int (.ofNat 2)), (.int (.ofNat 0))])]), (.ins 0 [(.tup [(.int (.ofNat 2)), (.int (.ofNat 0)), (.int (.ofNat 1))])]), (.ins 0 [(.tup [(.int (.ofNat 2)), (.int (.ofNat 1)), (.int (.ofNat 0))])])])])) := by kernel_rfl
theorem ft_6 (gs g : U) : fpT (fpE gs g (im 6)) = some (.rt (.tup [gT 0, (.tup [(.ins 0 [(.tup [(.int (.ofNat 0)), (.int (.ofNat 1)), (.int (.ofNat 2)), (.int (.ofNat 3))])])])])) := by kernel_rfl
theorem ft_7 (gs g : U) : fpT (fpE gs g (im 7)) = some (.rt (.tup [gT 1, (.tup [(.ins 0 [(.tup [(.int (.ofNat 0)), (.int (.ofNat 1)), (.int (.ofNat 2)), (.int (.ofNat 3))])]), (.ins 0 [(.tup [(.int (.ofNat 0)), (.int (.ofNat 1)), (.int (.ofNat 3)), (.int (.ofNat 2))])])])])) := by kernel_rfl
theorem ft_8 (gs g : U) : fpT (fpE gs g (im 8)) = some (.rt (.tup [gT 1, (.tup [(.ins 0 [(.tup [(.int (.ofNat 0)), (.int (.ofNat 1)), (.int (.ofNat 2)), (.int (.ofNat 3))])]), (.ins 0 [(.tup [(.int (.ofNat 0)), (.int (.ofNat 2)), (.int (.ofNat 1)), (.int (.ofNat 3))])])])])) := by kernel_rfl
theorem ft_9 (gs g : U) : fpT (fpE gs g (im 9)) = some (.rt (.tup [gT 2, (.tup [(.ins 0 [(.tup [(.int (.ofNat 0)), (.int (.ofNat 1)), (.int (.ofNat 2)), (.int (.ofNat 3))])]), (.ins 0 [(.tup [(.int (.ofNat 0)), (.int (.ofNat 2)), (.int (.ofNat 3)), (.int (.ofNat 1))])]), (.ins 0 [(.tup [(.int (.ofNat 0)), (.int (.ofNat 3)), (.int (.ofNat 1)), (.int (.ofNat 2))])])])])) := by kernel_rfl
theorem ft_10 (gs g : U) : fpT (fpE gs g (im 10)) = some (.rt (.tup [gT 1, (.tup [(.ins 0 [(.tup [(.int (.ofNat 0)), (.int (.ofNat 1)), (.int (.ofNat 2)), (.int (.ofNat 3))])]), (.ins 0 [(.tup [(.int (.ofNat 0)), (.int (.ofNat 3)), (.int (.ofNat 2)), (.int (.ofNat 1))])])])])) := by kernel_rfl
theorem ft_11 (gs g : U) : fpT (fpE gs g (im 11)) = some (.rt (.tup [gT 1, (.tup [(.ins 0 [(.tup [(.int (.ofNat 0)), (.int (.ofNat 1)), (.int (.ofNat 2)), (.int (.ofNat 3))])]), (.ins 0 [(.tup [(.int (.ofNat 1)), (.int (.ofNat 0)), (.int (.ofNat 2)), (.int (.ofNat 3))])])])])) := by kernel_rfl
theorem ft_12 (gs g : U) : fpT (fpE gs g (im 12)) = some (.rt (.tup [gT 1, (.tup [(.ins 0 [(.tup [(.int (.ofNat 0)), (.int (.ofNat 1)), (.int (.ofNat 2)), (.int (.ofNat 3))])]), (.ins 0 [(.tup [(.int (.ofNat 1)), (.int (.ofNat 0)), (.int (.ofNat 3)), (.int (.ofNat 2))])])])])) := by kernel_rfl
theorem ft_13 (gs g : U) : fpT (fpE gs g (im 13)) = some (.rt (.tup [gT 2, (.tup [(.ins 0 [(.tup [(.int (.ofNat 0)), (.int (.ofNat 1)), (.int (.ofNat 2)), (.int (.ofNat 3))])]), (.ins 0 [(.tup [(.int (.ofNat 1)), (.int (.ofNat 2)), (.int (.ofNat 0)), (.int (.ofNat 3))])]), (.ins 0 [(.tup [(.int (.ofNat 2)), (.int (.ofNat 0)), (.int (.ofNat 1)), (.int (.ofNat 3))])])])])) := by kernel_rfl
theorem ft_14 (gs g : U) : fpT (fpE gs g (im 14)) = some (.rt (.tup [gT 5, (.tup [(.ins 0 [(.tup [(.int (.ofNat 0)), (.int (.ofNat 1)), (.int (.ofNat 2)), (.int (.ofNat 3))])]), (.ins 0 [(.tup [(.int (.ofNat 1)), (.int (.ofNat 2)), (.int (.ofNat 3)), (.int (.ofNat 0))])]), (.ins 0 [(.tup [(.int (.ofNat 2)), (.int (.ofNat 3)), (.int (.ofNat 0)), (.int (.ofNat 1))])]), (.ins 0 [(.tup [(.int (.ofNat 3)), (.int (.ofNat 0)), (.int (.ofNat 1)), (.int (.ofNat 2))])])])])) := by kernel_rfl
theorem ft_15 (gs g : U) : fpT (fpE gs g (im 15)) = some (.rt (.tup [gT 6, (.tup [(.ins 0 [(.tup [(.int (.ofNat 0)), (.int (.ofNat 1)), (.int (.ofNat 2)), (.int (.ofNat 3))])]), (.ins 0 [(.tup [(.int (.ofNat 1)), (.int (.ofNat 3)), (.int (.ofNat 0)), (.int (.ofNat 2))])]), (.ins 0 [(.tup [(.int (.ofNat 2)), (.int (.ofNat 0)), (.int (.ofNat 3)), (.int (.ofNat 1))])]), (.ins 0 [(.tup [(.int (.ofNat 3)), (.int (.ofNat 2)), (.int (.ofNat 1)), (.int (.ofNat 0))])])])])) := by kernel_rfl
theorem ft_16 (gs g : U) : fpT (fpE gs g (im 16)) = some (.rt (.tup [gT 2, (.tup [(.ins 0 [(.tup [(.int (.ofNat 0)), (.int (.ofNat 1)), (.int (.ofNat 2)), (.int (.ofNat 3))])]), (.ins 0 [(.tup [(.int (.ofNat 1)), (.int (.ofNat 3)), (.int (.ofNat 2)), (.int (.ofNat 0))])]), (.ins 0 [(.tup [(.int (.ofNat 3)), (.int (.ofNat 0)), (.int (.ofNat 2)), (.int (.ofNat 1))])])])])) := by kernel_rfl
theorem ft_17 (gs g : U) : fpT (fpE gs g (im 17)) = some (.rt (.tup [gT 1, (.tup [(.ins 0 [(.tup [(.int (.ofNat 0)), (.int (.ofNat 1)), (.int (.ofNat 2)), (.int (.ofNat 3))])]), (.ins 0 [(.tup [(.int (.ofNat 2)), (.int (.ofNat 1)), (.int (.ofNat 0)), (.int (.ofNat 3))])])])])) := by kernel_rfl
theorem ft_18 (gs g : U) : fpT (fpE gs g (im 18)) = some (.rt (.tup [gT 2, (.tup [(.ins 0 [(.tup [(.int (.ofNat 0)), (.int (.ofNat 1)), (.int (.ofNat 2)), (.int (.ofNat 3))])]), (.ins 0 [(.tup [(.int (.ofNat 2)), (.int (.ofNat 1)), (.int (.ofNat 3)), (.int (.ofNat 0))])]), (.ins 0 [(.tup [(.int (.ofNat 3)), (.int (.ofNat 1)), (.int (.ofNat 0)), (.int (.ofNat 2))])])])])) := by kernel_rfl
theorem ft_19 (gs g : U) : fpT (fpE gs g (im 19)) = some (.rt (.tup [gT 1, (.tup [(.ins 0 [(.tup [(.int (.ofNat 0)), (.int (.ofNat 1)), (.int (.ofNat 2)), (.int (.ofNat 3))])]), (.ins 0 [(.tup [(.int (.ofNat 2)), (.int (.ofNat 3)), (.int (.ofNat 0)), (.int (.ofNat 1))])])])])) := by kernel_rfl
theorem ft_20 (gs g : U) : fpT (fpE gs g (im 20)) = some (.rt (.tup [gT 4, (.tup [(.ins 0 [(.tup [(.int (.ofNat 0)), (.int (.ofNat 1)), (.int (.ofNat 2)), (.int (.ofNat 3))])]), (.ins 0 [(.tup [(.int (.ofNat 1)), (.int (.ofNat 0)), (.int (.ofNat 3)), (.int (.ofNat 2))])]), (.ins 0 [(.tup [(.int (.ofNat 2)), (.int (.ofNat 3)), (.int (.ofNat 1)), (.int (.ofNat 0))])]), (.ins 0 [(.tup [(.int (.ofNat 3)), (.int (.ofNat 2)), (.int (.ofNat 0)), (.int (.ofNat 1))])])])])) := by kernel_rfl
theorem ft_21 (gs g : U) : fpT (fpE gs g (im 21)) = some (.rt (.tup [gT 1, (.tup [(.ins 0 [(.tup [(.int (.ofNat 0)), (.int (.ofNat 1)), (.int (.ofNat 2)), (.int (.ofNat 3))])]), (.ins 0 [(.tup [(.int (.ofNat 3)), (.int (.ofNat 1)), (.int (.ofNat 2)), (.int (.ofNat 0))])])])])) := by kernel_rfl
theorem ft_22 (gs g : U) : fpT (fpE gs g (im 22)) = some (.rt (.tup [gT 1, (.tup [(.ins 0 [(.tup [(.int (.ofNat 0)), (.int (.ofNat 1)), (.int (.ofNat 2)), (.int (.ofNat 3))])]), (.ins 0 [(.tup [(.int (.ofNat 3)), (.int (.ofNat 2)), (.int (.ofNat 1)), (.int (.ofNat 0))])])])])) := by kernel_rfl
theorem ft_23 (gs g : U) : fpT (fpE gs g (im 23)) = some (.rt (.tup [gT 8, (.tup [(.ins 0 [(.tup [(.int (.ofNat 0)), (.int (.ofNat 1)), (.int (.ofNat 2)), (.int (.ofNat 3))])]), (.ins 0 [(.tup [(.int (.ofNat 0)), (.int (.ofNat 1)), (.int (.ofNat 3)), (.int (.ofNat 2))])]), (.ins 0 [(.tup [(.int (.ofNat 0)), (.int (.ofNat 2)), (.int (.ofNat 1)), (.int (.ofNat 3))])]), (.ins 0 [(.tup [(.int (.ofNat 0)), (.int (.ofNat 2)), (.int (.ofNat 3)), (.int (.ofNat 1))])]), (.ins 0 [(.tup [(.int (.ofNat 0)), (.int (.ofNat 3)), (.int (.ofNat 1)), (.int (.ofNat 2))])]), (.ins 0 [(.tup [(.int (.ofNat 0)), (.int (.ofNat 3)), (.int (.ofNat 2)), (.int (.ofNat 1))])])])])) := by kernel_rfl
theorem ft_24 (gs g : U) : fpT (fpE gs g (im 24)) = some (.rt (.tup [gT 3, (.tup [(.ins 0 [(.tup [(.int (.ofNat 0)), (.int (.ofNat 1)), (.int (.ofNat 2)), (.int (.ofNat 3))])]), (.ins 0 [(.tup [(.int (.ofNat 0)), (.int (.ofNat 1)), (.int (.ofNat 3)), (.int (.ofNat 2))])]), (.ins 0 [(.tup [(.int (.ofNat 1)), (.int (.ofNat 0)), (.int (.ofNat 2)), (.int (.ofNat 3))])]), (.ins 0 [(.tup [(.int (.ofNat 1)), (.int (.ofNat 0)), (.int (.ofNat 3)), (.int (.ofNat 2))])])])])) := by kernel_rfl
theorem ft_25 (gs g : U) : fpT (fpE gs g (im 25)) = some (.rt (.tup [gT 17, (.tup [(.ins 0 [(.tup [(.int (.ofNat 0)), (.int (.ofNat 1)), (.int (.ofNat 2)), (.int (.ofNat 3))])]), (.ins 0 [(.tup [(.int (.ofNat 0)), (.int (.ofNat 1)), (.int (.ofNat 3)), (.int (.ofNat 2))])]), (.ins 0 [(.tup [(.int (.ofNat 0)), (.int (.ofNat 2)), (.int (.ofNat 1)), (.int (.ofNat 3))])]), (.ins 0 [(.tup [(.int (.ofNat 0)), (.int (.ofNat 2)), (.int (.ofNat 3)), (.int (.ofNat 1))])]), (.ins 0 [(.tup [(.int (.ofNat 0)), (.int (.ofNat 3)), (.int (.ofNat 1)), (.int (.ofNat 2))])]), (.ins 0 [(.tup [(.int (.ofNat 0)), (.int (.ofNat 3)), (.int (.ofNat 2)), (.int (.ofNat 1))])]), (.ins 0 [(.tup [(.int (.ofNat 1)), (.int (.ofNat 0)), (.int (.ofNat 2)), (.int (.ofNat 3))])]), (.ins 0 [(.tup [(.int (.ofNat 1)), (.int (.ofNat 0)), (.int (.ofNat 3)), (.int (.ofNat 2))])]), (.ins 0 [(.tup [(.int (.ofNat 1)), (.int (.ofNat 2)), (.int (.ofNat 0)), (.int (.ofNat 3))])]), (.ins 0 [(.tup [(.int (.ofNat 1)), (.int (.ofNat 2)), (.int (.ofNat 3)), (.int (.ofNat 0))])]), (.ins 0 [(.tup [(.int (.ofNat 1)), (.int (.ofNat 3)), (.int (.ofNat 0)), (.int (.ofNat 2))])]), (.ins 0 [(.tup [(.int (.ofNat 1)), (.int (.ofNat 3)), (.int (.ofNat 2)), (.int (.ofNat 0))])]), (.ins 0 [(.tup [(.int (.ofNat 2)), (.int (.ofNat 0)), (.int (.ofNat 1)), (.int (.ofNat 3))])]), (.ins 0 [(.tup [(.int (.ofNat 2)), (.int (.ofNat 0)), (.int (.ofNat 3)), (.int (.ofNat 1))])]), (.ins 0 [(.tup [(.int (.ofNat 2)), (.int (.ofNat 1)), (.int (.ofNat 0)), (.int (.ofNat 3))])]), (.ins 0 [(.tup [(.int (.ofNat 2)), (.int (.ofNat 1)), (.int (.ofNat 3)), (.int (.ofNat 0))])]), (.ins 0 [(.tup [(.int (.ofNat 2)), (.int (.ofNat 3)), (.int (.ofNat 0)), (.int (.ofNat 1))])]), (.ins 0 [(.tup [(.int (.ofNat 2)), (.int (.ofNat 3)), (.int (.ofNat 1)), (.int (.ofNat 0))])]), (.ins 0 [(.tup [(.int (.ofNat 3)), (.int (.ofNat 0)), (.int (.ofNat 1)), (.int (.ofNat 2))])]), (.ins 0 [(.tup [(.int (.ofNat 3)), (.int (.ofNat 0)), (.int (.ofNat 2)), (.int (.ofNat 1))])]), (.ins 0 [(.tup [(.int (.ofNat 3)), (.int (.ofNat 1)), (.int (.ofNat 0)), (.int (.ofNat 2))])]), (.ins 0 [(.tup [(.int (.ofNat 3)), (.int (.ofNat 1)), (.int (.ofNat 2)), (.int (.ofNat 0))])]), (.ins 0 [(.tup [(.int (.ofNat 3)), (.int (.ofNat 2)), (.int (.ofNat 0)), (.int (.ofNat 1))])]), (.ins 0 [(.tup [(.int (.ofNat 3)), (.int (.ofNat 2)), (.int (.ofNat 1)), (.int (.ofNat 0))])])])])) := by kernel_rfl
theorem ft_26 (gs g : U) : fpT (fpE gs g (im 26)) = some (.rt (.tup [gT 8, (.tup [(.ins 0 [(.tup [(.int (.ofNat 0)), (.int (.ofNat 1)), (.int (.ofNat 2)), (.int (.ofNat 3))])]), (.ins 0 [(.tup [(.int (.ofNat 0)), (.int (.ofNat 1)), (.int (.ofNat 3)), (.int (.ofNat 2))])]), (.ins 0 [(.tup [(.int (.ofNat 2)), (.int (.ofNat 1)), (.int (.ofNat 0)), (.int (.ofNat 3))])]), (.ins 0 [(.tup [(.int (.ofNat 2)), (.int (.ofNat 1)), (.int (.ofNat 3)), (.int (.ofNat 0))])]), (.ins 0 [(.tup [(.int (.ofNat 3)), (.int (.ofNat 1)), (.int (.ofNat 0)), (.int (.ofNat 2))])]), (.ins 0 [(.tup [(.int (.ofNat 3)), (.int (.ofNat 1)), (.int (.ofNat 2)), (.int (.ofNat 0))])])])])) := by kernel_rfl
theorem ft_27 (gs g : U) : fpT (fpE gs g (im 27)) = some (.rt (.tup [gT 12, (.tup [(.ins 0 [(.tup [(.int (.ofNat 0)), (.int (.ofNat 1)), (.int (.ofNat 2)), (.int (.ofNat 3))])]), (.ins 0 [(.tup [(.int (.ofNat 0)), (.int (.ofNat 1)), (.int (.ofNat 3)), (.int (.ofNat 2))])]), (.ins 0 [(.tup [(.int (.ofNat 1)), (.int (.ofNat 0)), (.int (.ofNat 2)), (.int (.ofNat 3))])]), (.ins 0 [(.tup [(.int (.ofNat 1)), (.int (.ofNat 0)), (.int (.ofNat 3)), (.int (.ofNat 2))])]), (.ins 0 [(.tup [(.int (.ofNat 2)), (.int (.ofNat 3)), (.int (.ofNat 0)), (.int (.ofNat 1))])]), (.ins 0 [(.tup [(.int (.ofNat 2)), (.int (.ofNat 3)), (.int (.ofNat 1)), (.int (.ofNat 0))])]), (.ins 0 [(.tup [(.int (.ofNat 3)), (.int (.ofNat 2)), (.int (.ofNat 0)), (.int (.ofNat 1))])]), (.ins 0 [(.tup [(.int (.ofNat 3)), (.int (.ofNat 2)), (.int (.ofNat 1)), (.int (.ofNat 0))])])])])) := by kernel_rfl
theorem ft_28 (gs g : U) : fpT (fpE gs g (im 28)) = some (.rt (.tup [gT 8, (.tup [(.ins 0 [(.tup [(.int (.ofNat 0)), (.int (.ofNat 1)), (.int (.ofNat 2)), (.int (.ofNat 3))])]), (.ins 0 [(.tup [(.int (.ofNat 0)), (.int (.ofNat 2)), (.int (.ofNat 1)), (.int (.ofNat 3))])]), (.ins 0 [(.tup [(.int (.ofNat 1)), (.int (.ofNat 0)), (.int (.ofNat 2)), (.int (.ofNat 3))])]), (.ins 0 [(.tup [(.int (.ofNat 1)), (.int (.ofNat 2)), (.int (.ofNat 0)), (.int (.ofNat 3))])]), (.ins 0 [(.tup [(.int (.ofNat 2)), (.int (.ofNat 0)), (.int (.ofNat 1)), (.int (.ofNat 3))])]), (.ins 0 [(.tup [(.int (.ofNat 2)), (.int (.ofNat 1)), (.int (.ofNat 0)), (.int (.ofNat 3))])])])])) := by kernel_rfl
theorem ft_29 (gs g : U) : fpT (fpE gs g (im 29)) = some (.rt (.tup [gT 13, (.tup [(.ins 0 [(.tup [(.int (.ofNat 0)), (.int (.ofNat 1)), (.int (.ofNat 2)), (.int (.ofNat 3))])]), (.ins 0 [(.tup [(.int (.ofNat 0)), (.int (.ofNat 2)), (.int (.ofNat 1)), (.int (.ofNat 3))])]), (.ins 0 [(.tup [(.int (.ofNat 1)), (.int (.ofNat 0)), (.int (.ofNat 3)), (.int (.ofNat 2))])]), (.ins 0 [(.tup [(.int (.ofNat 1)), (.int (.ofNat 3)), (.int (.ofNat 0)), (.int (.ofNat 2))])]), (.ins 0 [(.tup [(.int (.ofNat 2)), (.int (.ofNat 0)), (.int (.ofNat 3)), (.int (.ofNat 1))])]), (.ins 0 [(.tup [(.int (.ofNat 2)), (.int (.ofNat 3)), (.int (.ofNat 0)), (.int (.ofNat 1))])]), (.ins 0 [(.tup [(.int (.ofNat 3)), (.int (.ofNat 1)), (.int (.ofNat 2)), (.int (.ofNat 0))])]), (.ins 0 [(.tup [(.int (.ofNat 3)), (.int (.ofNat 2)), (.int (.ofNat 1)), (.int (.ofNat 0))])])])])) := by kernel_rfl
theorem ft_30 (gs g : U) : fpT (fpE gs g (im 30)) = some (.rt (.tup [gT 3, (.tup [(.ins 0 [(.tup [(.int (.ofNat 0)), (.int (.ofNat 1)), (.int (.ofNat 2)), (.int (.ofNat 3))])]), (.ins 0 [(.tup [(.int (.ofNat 0)), (.int (.ofNat 2)), (.int (.ofNat 1)), (.int (.ofNat 3))])]), (.ins 0 [(.tup [(.int (.ofNat 3)), (.int (.ofNat 1)), (.int (.ofNat 2)), (.int (.ofNat 0))])]), (.ins 0 [(.tup [(.int (.ofNat 3)), (.int (.ofNat 2)), (.int (.ofNat 1)), (.int (.ofNat 0))])])])])) := by kernel_rfl
theorem ft_31 (gs g : U) : fpT (fpE gs g (im 31)) = some (.rt (.tup [gT 16, (.tup [(.ins 0 [(.tup [(.int (.ofNat 0)), (.int (.ofNat 1)), (.int (.ofNat 2)), (.int (.ofNat 3))])]), (.ins 0 [(.tup [(.int (.ofNat 0)), (.int (.ofNat 2)), (.int (.ofNat 3)), (.int (.ofNat 1))])]), (.ins 0 [(.tup [(.int (.ofNat 0)), (.int (.ofNat 3)), (.int (.ofNat 1)), (.int (.ofNat 2))])]), (.ins 0 [(.tup [(.int (.ofNat 1)), (.int (.ofNat 0)), (.int (.ofNat 3)), (.int (.ofNat 2))])]), (.ins 0 [(.tup [(.int (.ofNat 1)), (.int (.ofNat 2)), (.int (.ofNat 0)), (.int (.ofNat 3))])]), (.ins 0 [(.tup [(.int (.ofNat 1)), (.int (.ofNat 3)), (.int (.ofNat 2)), (.int (.ofNat 0))])]), (.ins 0 [(.tup [(.int (.ofNat 2)), (.int (.ofNat 0)), (.int (.ofNat 1)), (.int (.ofNat 3))])]), (.ins 0 [(.tup [(.int (.ofNat 2)), (.int (.ofNat 1)), (.int (.ofNat 3)), (.int (.ofNat 0))])]), (.ins 0 [(.tup [(.int (.ofNat 2)), (.int (.ofNat 3)), (.int (.ofNat 0)), (.int (.ofNat 1))])]), (.ins 0 [(.tup [(.int (.ofNat 3)), (.int (.ofNat 0)), (.int (.ofNat 2)), (.int (.ofNat 1))])]), (.ins 0 [(.tup [(.int (.ofNat 3)), (.int (.ofNat 1)), (.int (.ofNat 0)), (.int (.ofNat 2))])]), (.ins 0 [(.tup [(.int (.ofNat 3)), (.int (.ofNat 2)), (.int (.ofNat 1)), (.int (.ofNat 0))])])])])) := by kernel_rfl
theorem ft_32 (gs g : U) : fpT (fpE gs g (im 32)) = some (.rt (.tup [gT 8, (.tup [(.ins 0 [(.tup [(.int (.ofNat 0)), (.int (.ofNat 1)), (.int (.ofNat 2)), (.int (.ofNat 3))])]), (.ins 0 [(.tup [(.int (.ofNat 0)), (.int (.ofNat 3)), (.int (.ofNat 2)), (.int (.ofNat 1))])]), (.ins 0 [(.tup [(.int (.ofNat 1)), (.int (.ofNat 0)), (.int (.ofNat 2)), (.int (.ofNat 3))])]), (.ins 0 [(.tup [(.int (.ofNat 1)), (.int (.ofNat 3)), (.int (.ofNat 2)), (.int (.ofNat 0))])]), (.ins 0 [(.tup [(.int (.ofNat 3)), (.int (.ofNat 0)), (.int (.ofNat 2)), (.int (.ofNat 1))])]), (.ins 0 [(.tup [(.int (.ofNat 3)), (.int (.ofNat 1)), (.int (.ofNat 2)), (.int (.ofNat 0))])])])])) := by kernel_rfl
theorem ft_33 (gs g : U) : fpT (fpE gs g (im 33)) = some (.rt (.tup [gT 14, (.tup [(.ins 0 [(.tup [(.int (.ofNat 0)), (.int (.ofNat 1)), (.int (.ofNat 2)), (.int (.ofNat 3))])]), (.ins 0 [(.tup [(.int (.ofNat 0)), (.int (.ofNat 3)), (.int (.ofNat 2)), (.int (.ofNat 1))])]), (.ins 0 [(.tup [(.int (.ofNat 1)), (.int (.ofNat 0)), (.int (.ofNat 3)), (.int (.ofNat 2))])]), (.ins 0 [(.tup [(.int (.ofNat 1)), (.int (.ofNat 2)), (.int (.ofNat 3)), (.int (.ofNat 0))])]), (.ins 0 [(.tup [(.int (.ofNat 2)), (.int (.ofNat 1)), (.int (.ofNat 0)), (.int (.ofNat 3))])]), (.ins 0 [(.tup [(.int (.ofNat 2)), (.int (.ofNat 3)), (.int (.ofNat 0)), (.int (.ofNat 1))])]), (.ins 0 [(.tup [(.int (.ofNat 3)), (.int (.ofNat 0)), (.int (.ofNat 1)), (.int (.ofNat 2))])]), (.ins 0 [(.tup [(.int (.ofNat 3)), (.int (.ofNat 2)), (.int (.ofNat 1)), (.int (.ofNat 0))])])])])) := by kernel_rfl
theorem ft_34 (gs g : U) : fpT (fpE gs g (im 34)) = some (.rt (.tup [gT 3, (.tup [(.ins 0 [(.tup [(.int (.ofNat 0)), (.int (.ofNat 1)), (.int (.ofNat 2)), (.int (.ofNat 3))])]), (.ins 0 [(.tup [(.int (.ofNat 0)), (.int (.ofNat 3)), (.int (.ofNat 2)), (.int (.ofNat 1))])]), (.ins 0 [(.tup [(.int (.ofNat 2)), (.int (.ofNat 1)), (.int (.ofNat 0)), (.int (.ofNat 3))])]), (.ins 0 [(.tup [(.int (.ofNat 2)), (.int (.ofNat 3)), (.int (.ofNat 0)), (.int (.ofNat 1))])])])])) := by kernel_rfl
theorem ft_35 (gs g : U) : fpT (fpE gs g (im 35)) = some (.rt (.tup [gT 3, (.tup [(.ins 0 [(.tup [(.int (.ofNat 0)), (.int (.ofNat 1)), (.int (.ofNat 2)), (.int (.ofNat 3))])]), (.ins 0 [(.tup [(.int (.ofNat 1)), (.int (.ofNat 0)), (.int (.ofNat 3)), (.int (.ofNat 2))])]), (.ins 0 [(.tup [(.int (.ofNat 2)), (.int (.ofNat 3)), (.int (.ofNat 0)), (.int (.ofNat 1))])]), (.ins 0 [(.tup [(.int (.ofNat 3)), (.int (.ofNat 2)), (.int (.ofNat 1)), (.int (.ofNat 0))])])])])) := by kernel_rfl
theorem ft_all : ∀ k, k < 36 → ∃ i r, i < 18 ∧ ∀ gs g, fpT (fpE gs g (im k)) = some (.rt (.tup [gT i, r]))
  | 0, _ => ⟨_, _, by decide, ft_0⟩
  | 1, _ => ⟨_, _, by decide, ft_1⟩
  | 2, _ => ⟨_, _, by decide, ft_2⟩
  | 3, _ => ⟨_, _, by decide, ft_3⟩
  | 4, _ => ⟨_, _, by decide, ft_4⟩
  | 5, _ => ⟨_, _, by decide, ft_5⟩
  | 6, _ => ⟨_, _, by decide, ft_6⟩
  | 7, _ => ⟨_, _, by decide, ft_7⟩
  | 8, _ => ⟨_, _, by decide, ft_8⟩
  | 9, _ => ⟨_, _, by decide, ft_9⟩
  | 10, _ => ⟨_, _, by decide, ft_10⟩
  | 11, _ => ⟨_, _, by decide, ft_11⟩
  | 12, _ => ⟨_, _, by decide, ft_12⟩
  | 13, _ => ⟨_, _, by decide, ft_13⟩
  | 14, _ => ⟨_, _, by decide, ft_14⟩
  | 15, _ => ⟨_, _, by decide, ft_15⟩
  | 16, _ => ⟨_, _, by decide, ft_16⟩
  | 17, _ => ⟨_, _, by decide, ft_17⟩
  | 18, _ => ⟨_, _, by decide, ft_18⟩
  | 19, _ => ⟨_, _, by decide, ft_19⟩
  | 20, _ => ⟨_, _, by decide, ft_20⟩
  | 21, _ => ⟨_, _, by decide, ft_21⟩
  | 22, _ => ⟨_, _, by decide, ft_22⟩
  | 23, _ => ⟨_, _, by decide, ft_23⟩
  | 24, _ => ⟨_, _, by decide, ft_24⟩
  | 25, _ => ⟨_, _, by decide, ft_25⟩
  | 26, _ => ⟨_, _, by decide, ft_26⟩
  | 27, _ => ⟨_, _, by decide, ft_27⟩
  | 28, _ => ⟨_, _, by decide, ft_28⟩
  | 29, _ => ⟨_, _, by decide, ft_29⟩
  | 30, _ => ⟨_, _, by decide, ft_30⟩
  | 31, _ => ⟨_, _, by decide, ft_31⟩
  | 32, _ => ⟨_, _, by decide, ft_32⟩
  | 33, _ => ⟨_, _, by decide, ft_33⟩
  | 34, _ => ⟨_, _, by decide, ft_34⟩
  | 35, _ => ⟨_, _, by decide, ft_35⟩
  | k + 36, h => absurd h (by omega)
def perms3 : List (List Nat) := [[0, 1, 2], [0, 2, 1], [1, 0, 2], [1, 2, 0], [2, 0, 1], [2, 1, 0]]
theorem fh3_0 : lmap (fun q => fpA (fpS [0, 1, 2] q)) perms3 = zw (fun q k => some (.nx (fpE (.tup [pP [0, 1, 2], pP q]) (pP q) (im k)))) perms3 [0, 1, 2, 3, 3, 4] := by kernel_rfl
theorem pi3_0 : m_Permutation___init__ [pI [0, 1, 2]] = some [pI [0, 1, 2]] := by kernel_rfl
theorem fh3_1 : lmap (fun q => fpA (fpS [0, 2, 1] q)) perms3 = zw (fun q k => some (.nx (fpE (.tup [pP [0, 2, 1], pP q]) (pP q) (im k)))) perms3 [1, 1, 5, 5, 5, 5] := by kernel_rfl
theorem pi3_1 : m_Permutation___init__ [pI [0, 2, 1]] = some [pI [0, 2, 1]] := by kernel_rfl
theorem fh3_2 : lmap (fun q => fpA (fpS [1, 0, 2] q)) perms3 = zw (fun q k => some (.nx (fpE (.tup [pP [1, 0, 2], pP q]) (pP q) (im k)))) perms3 [2, 5, 2, 5, 5, 5] := by kernel_rfl
theorem pi3_2 : m_Permutation___init__ [pI [1, 0, 2]] = some [pI [1, 0, 2]] := by kernel_rfl
theorem fh3_3 : lmap (fun q => fpA (fpS [1, 2, 0] q)) perms3 = zw (fun q k => some (.nx (fpE (.tup [pP [1, 2, 0], pP q]) (pP q) (im k)))) perms3 [3, 5, 5, 3, 3, 5] := by kernel_rfl
theorem pi3_3 : m_Permutation___init__ [pI [1, 2, 0]] = some [pI [1, 2, 0]] := by kernel_rfl
theorem fh3_4 : lmap (fun q => fpA (fpS [2, 0, 1] q)) perms3 = zw (fun q k => some (.nx (fpE (.tup [pP [2, 0, 1], pP q]) (pP q) (im k)))) perms3 [3, 5, 5, 3, 3, 5] := by kernel_rfl
theorem pi3_4 : m_Permutation___init__ [pI [2, 0, 1]] = some [pI [2, 0, 1]] := by kernel_rfl
theorem fh3_5 : lmap (fun q => fpA (fpS [2, 1, 0] q)) perms3 = zw (fun q k => some (.nx (fpE (.tup [pP [2, 1, 0], pP q]) (pP q) (im k)))) perms3 [4, 5, 5, 5, 5, 4] := by kernel_rfl
theorem pi3_5 : m_Permutation___init__ [pI [2, 1, 0]] = some [pI [2, 1, 0]] := by kernel_rfl
theorem fh3 : ∀ p ∈ perms3, ∀ q ∈ perms3, ∃ k, k < 36 ∧ fpA (fpS p q) = some (.nx (fpE (.tup [pP p, pP q]) (pP q) (im k))) := by
  intro p hp q hq
  have key : ∀ ks : List Nat, (∀ k ∈ ks, k < 36) → lmap (fun q => fpA (fpS p q)) perms3 = zw (fun q k => some (.nx (fpE (.tup [pP p, pP q]) (pP q) (im k)))) perms3 ks → ∃ k, k < 36 ∧ fpA (fpS p q) = some (.nx (fpE (.tup [pP p, pP q]) (pP q) (im k))) := fun ks hk h => by
    obtain ⟨k, m, e⟩ := zw_mem h q hq
    exact ⟨k, hk k m, e⟩
  unfold perms3 at hp
  simp only [List.mem_cons, List.not_mem_nil, or_false] at hp
  rcases hp with rfl | rfl | rfl | rfl | rfl | rfl
  · exact key _ (by decide) fh3_0
  · exact key _ (by decide) fh3_1
  · exact key _ (by decide) fh3_2
  · exact key _ (by decide) fh3_3
  · exact key _ (by decide) fh3_4
  · exact key _ (by decide) fh3_5
theorem pi3 : ∀ p ∈ perms3, m_Permutation___init__ [pI p] = some [pI p] := by
  intro p hp
  unfold perms3 at hp
  simp only [List.mem_cons, List.not_mem_nil, or_false] at hp
  rcases hp with rfl | rfl | rfl | rfl | rfl | rfl
  · exact pi3_0
  · exact pi3_1
  · exact pi3_2
  · exact pi3_3
  · exact pi3_4
  · exact pi3_5
def perms4 : List (List Nat) := [[0, 1, 2, 3], [0, 1, 3, 2], [0, 2, 1, 3], [0, 2, 3, 1], [0, 3, 1, 2], [0, 3, 2, 1], [1, 0, 2, 3], [1, 0, 3, 2], [1, 2, 0, 3], [1, 2, 3, 0], [1, 3, 0, 2], [1, 3, 2, 0], [2, 0, 1, 3], [2, 0, 3, 1], [2, 1, 0, 3], [2, 1, 3, 0], [2, 3, 0, 1], [2, 3, 1, 0], [3, 0, 1, 2], [3, 0, 2, 1], [3, 1, 0, 2], [3, 1, 2, 0], [3, 2, 0, 1], [3, 2, 1, 0]]
theorem fh4_0 : lmap (fun q => fpA (fpS [0, 1, 2, 3] q)) perms4 = zw (fun q k => some (.nx (fpE (.tup [pP [0, 1, 2, 3], pP q]) (pP q) (im k)))) perms4 [6, 7, 8, 9, 9, 10, 11, 12, 13, 14, 15, 16, 13, 15, 17, 18, 19, 20, 14, 16, 18, 21, 20, 22] := by kernel_rfl
theorem pi4_0 : m_Permutation___init__ [pI [0, 1, 2, 3]] = some [pI [0, 1, 2, 3]] := by kernel_rfl
theorem fh4_1 : lmap (fun q => fpA (fpS [0, 1, 3, 2] q)) perms4 = zw (fun q k => some (.nx (fpE (.tup [pP [0, 1, 3, 2], pP q]) (pP q) (im k)))) perms4 [7, 7, 23, 23, 23, 23, 24, 24, 25, 25, 25, 25, 25, 25, 26, 26, 27, 27, 25, 25, 26, 26, 27, 27] := by kernel_rfl
theorem pi4_1 : m_Permutation___init__ [pI [0, 1, 3, 2]] = some [pI [0, 1, 3, 2]] := by kernel_rfl
theorem fh4_2 : lmap (fun q => fpA (fpS [0, 2, 1, 3] q)) perms4 = zw (fun q k => some (.nx (fpE (.tup [pP [0, 2, 1, 3], pP q]) (pP q) (im k)))) perms4 [8, 23, 8, 23, 23, 23, 28, 29, 28, 25, 29, 25, 28, 29, 28, 25, 29, 25, 25, 25, 25, 30, 25, 30] := by kernel_rfl
theorem pi4_2 : m_Permutation___init__ [pI [0, 2, 1, 3]] = some [pI [0, 2, 1, 3]] := by kernel_rfl
theorem fh4_3 : lmap (fun q => fpA (fpS [0, 2, 3, 1] q)) perms4 = zw (fun q k => some (.nx (fpE (.tup [pP [0, 2, 3, 1], pP q]) (pP q) (im k)))) perms4 [9, 23, 23, 9, 9, 23, 25, 31, 31, 25, 25, 31, 31, 25, 25, 31, 31, 25, 25, 31, 31, 25, 25, 31] := by kernel_rfl
theorem pi4_3 : m_Permutation___init__ [pI [0, 2, 3, 1]] = some [pI [0, 2, 3, 1]] := by kernel_rfl
theorem fh4_4 : lmap (fun q => fpA (fpS [0, 3, 1, 2] q)) perms4 = zw (fun q k => some (.nx (fpE (.tup [pP [0, 3, 1, 2], pP q]) (pP q) (im k)))) perms4 [9, 23, 23, 9, 9, 23, 25, 31, 31, 25, 25, 31, 31, 25, 25, 31, 31, 25, 25, 31, 31, 25, 25, 31] := by kernel_rfl
theorem pi4_4 : m_Permutation___init__ [pI [0, 3, 1, 2]] = some [pI [0, 3, 1, 2]] := by kernel_rfl
theorem fh4_5 : lmap (fun q => fpA (fpS [0, 3, 2, 1] q)) perms4 = zw (fun q k => some (.nx (fpE (.tup [pP [0, 3, 2, 1], pP q]) (pP q) (im k)))) perms4 [10, 23, 23, 23, 23, 10, 32, 33, 25, 33, 25, 32, 25, 25, 34, 25, 34, 25, 33, 32, 25, 32, 25, 33] := by kernel_rfl
theorem pi4_5 : m_Permutation___init__ [pI [0, 3, 2, 1]] = some [pI [0, 3, 2, 1]] := by kernel_rfl
theorem fh4_6 : lmap (fun q => fpA (fpS [1, 0, 2, 3] q)) perms4 = zw (fun q k => some (.nx (fpE (.tup [pP [1, 0, 2, 3], pP q]) (pP q) (im k)))) perms4 [11, 24, 28, 25, 25, 32, 11, 24, 28, 25, 25, 32, 28, 25, 28, 25, 27, 27, 25, 32, 25, 32, 27, 27] := by kernel_rfl
theorem pi4_6 : m_Permutation___init__ [pI [1, 0, 2, 3]] = some [pI [1, 0, 2, 3]] := by kernel_rfl
theorem fh4_7 : lmap (fun q => fpA (fpS [1, 0, 3, 2] q)) perms4 = zw (fun q k => some (.nx (fpE (.tup [pP [1, 0, 3, 2], pP q]) (pP q) (im k)))) perms4 [12, 24, 29, 31, 31, 33, 24, 12, 31, 33, 29, 31, 31, 29, 33, 31, 35, 20, 33, 31, 31, 29, 20, 35] := by kernel_rfl
theorem pi4_7 : m_Permutation___init__ [pI [1, 0, 3, 2]] = some [pI [1, 0, 3, 2]] := by kernel_rfl
theorem fh4_8 : lmap (fun q => fpA (fpS [1, 2, 0, 3] q)) perms4 = zw (fun q k => some (.nx (fpE (.tup [pP [1, 2, 0, 3], pP q]) (pP q) (im k)))) perms4 [13, 25, 28, 31, 31, 25, 28, 31, 13, 25, 25, 31, 13, 25, 28, 31, 31, 25, 25, 31, 31, 25, 25, 31] := by kernel_rfl
theorem pi4_8 : m_Permutation___init__ [pI [1, 2, 0, 3]] = some [pI [1, 2, 0, 3]] := by kernel_rfl
theorem fh4_9 : lmap (fun q => fpA (fpS [1, 2, 3, 0] q)) perms4 = zw (fun q k => some (.nx (fpE (.tup [pP [1, 2, 3, 0], pP q]) (pP q) (im k)))) perms4 [14, 25, 25, 25, 25, 33, 25, 33, 25, 14, 25, 25, 25, 25, 33, 25, 14, 25, 14, 25, 25, 25, 25, 33] := by kernel_rfl
theorem pi4_9 : m_Permutation___init__ [pI [1, 2, 3, 0]] = some [pI [1, 2, 3, 0]] := by kernel_rfl
theorem fh4_10 : lmap (fun q => fpA (fpS [1, 3, 0, 2] q)) perms4 = zw (fun q k => some (.nx (fpE (.tup [pP [1, 3, 0, 2], pP q]) (pP q) (im k)))) perms4 [15, 25, 29, 25, 25, 25, 25, 29, 25, 25, 15, 25, 25, 15, 25, 25, 29, 25, 25, 25, 25, 29, 25, 15] := by kernel_rfl
theorem pi4_10 : m_Permutation___init__ [pI [1, 3, 0, 2]] = some [pI [1, 3, 0, 2]] := by kernel_rfl
theorem fh4_11 : lmap (fun q => fpA (fpS [1, 3, 2, 0] q)) perms4 = zw (fun q k => some (.nx (fpE (.tup [pP [1, 3, 2, 0], pP q]) (pP q) (im k)))) perms4 [16, 25, 25, 31, 31, 32, 32, 31, 31, 25, 25, 16, 31, 25, 25, 31, 31, 25, 25, 16, 31, 32, 25, 31] := by kernel_rfl
theorem pi4_11 : m_Permutation___init__ [pI [1, 3, 2, 0]] = some [pI [1, 3, 2, 0]] := by kernel_rfl
theorem fh4_12 : lmap (fun q => fpA (fpS [2, 0, 1, 3] q)) perms4 = zw (fun q k => some (.nx (fpE (.tup [pP [2, 0, 1, 3], pP q]) (pP q) (im k)))) perms4 [13, 25, 28, 31, 31, 25, 28, 31, 13, 25, 25, 31, 13, 25, 28, 31, 31, 25, 25, 31, 31, 25, 25, 31] := by kernel_rfl
theorem pi4_12 : m_Permutation___init__ [pI [2, 0, 1, 3]] = some [pI [2, 0, 1, 3]] := by kernel_rfl
theorem fh4_13 : lmap (fun q => fpA (fpS [2, 0, 3, 1] q)) perms4 = zw (fun q k => some (.nx (fpE (.tup [pP [2, 0, 3, 1], pP q]) (pP q) (im k)))) perms4 [15, 25, 29, 25, 25, 25, 25, 29, 25, 25, 15, 25, 25, 15, 25, 25, 29, 25, 25, 25, 25, 29, 25, 15] := by kernel_rfl
theorem pi4_13 : m_Permutation___init__ [pI [2, 0, 3, 1]] = some [pI [2, 0, 3, 1]] := by kernel_rfl
theorem fh4_14 : lmap (fun q => fpA (fpS [2, 1, 0, 3] q)) perms4 = zw (fun q k => some (.nx (fpE (.tup [pP [2, 1, 0, 3], pP q]) (pP q) (im k)))) perms4 [17, 26, 28, 25, 25, 34, 28, 33, 28, 33, 25, 25, 28, 25, 17, 26, 34, 25, 33, 25, 26, 26, 25, 33] := by kernel_rfl
theorem pi4_14 : m_Permutation___init__ [pI [2, 1, 0, 3]] = some [pI [2, 1, 0, 3]] := by kernel_rfl
theorem fh4_15 : lmap (fun q => fpA (fpS [2, 1, 3, 0] q)) perms4 = zw (fun q k => some (.nx (fpE (.tup [pP [2, 1, 3, 0], pP q]) (pP q) (im k)))) perms4 [18, 26, 25, 31, 31, 25, 25, 31, 31, 25, 25, 31, 31, 25, 26, 18, 31, 25, 25, 31, 18, 26, 25, 31] := by kernel_rfl
theorem pi4_15 : m_Permutation___init__ [pI [2, 1, 3, 0]] = some [pI [2, 1, 3, 0]] := by kernel_rfl
theorem fh4_16 : lmap (fun q => fpA (fpS [2, 3, 0, 1] q)) perms4 = zw (fun q k => some (.nx (fpE (.tup [pP [2, 3, 0, 1], pP q]) (pP q) (im k)))) perms4 [19, 27, 29, 31, 31, 34, 27, 35, 31, 14, 29, 31, 31, 29, 34, 31, 19, 27, 14, 31, 31, 29, 27, 35] := by kernel_rfl
theorem pi4_16 : m_Permutation___init__ [pI [2, 3, 0, 1]] = some [pI [2, 3, 0, 1]] := by kernel_rfl
theorem fh4_17 : lmap (fun q => fpA (fpS [2, 3, 1, 0] q)) perms4 = zw (fun q k => some (.nx (fpE (.tup [pP [2, 3, 1, 0], pP q]) (pP q) (im k)))) perms4 [20, 27, 25, 25, 25, 25, 27, 20, 25, 25, 25, 25, 25, 25, 25, 25, 27, 20, 25, 25, 25, 25, 20, 27] := by kernel_rfl
theorem pi4_17 : m_Permutation___init__ [pI [2, 3, 1, 0]] = some [pI [2, 3, 1, 0]] := by kernel_rfl
theorem fh4_18 : lmap (fun q => fpA (fpS [3, 0, 1, 2] q)) perms4 = zw (fun q k => some (.nx (fpE (.tup [pP [3, 0, 1, 2], pP q]) (pP q) (im k)))) perms4 [14, 25, 25, 25, 25, 33, 25, 33, 25, 14, 25, 25, 25, 25, 33, 25, 14, 25, 14, 25, 25, 25, 25, 33] := by kernel_rfl
theorem pi4_18 : m_Permutation___init__ [pI [3, 0, 1, 2]] = some [pI [3, 0, 1, 2]] := by kernel_rfl
theorem fh4_19 : lmap (fun q => fpA (fpS [3, 0, 2, 1] q)) perms4 = zw (fun q k => some (.nx (fpE (.tup [pP [3, 0, 2, 1], pP q]) (pP q) (im k)))) perms4 [16, 25, 25, 31, 31, 32, 32, 31, 31, 25, 25, 16, 31, 25, 25, 31, 31, 25, 25, 16, 31, 32, 25, 31] := by kernel_rfl
theorem pi4_19 : m_Permutation___init__ [pI [3, 0, 2, 1]] = some [pI [3, 0, 2, 1]] := by kernel_rfl
theorem fh4_20 : lmap (fun q => fpA (fpS [3, 1, 0, 2] q)) perms4 = zw (fun q k => some (.nx (fpE (.tup [pP [3, 1, 0, 2], pP q]) (pP q) (im k)))) perms4 [18, 26, 25, 31, 31, 25, 25, 31, 31, 25, 25, 31, 31, 25, 26, 18, 31, 25, 25, 31, 18, 26, 25, 31] := by kernel_rfl
theorem pi4_20 : m_Permutation___init__ [pI [3, 1, 0, 2]] = some [pI [3, 1, 0, 2]] := by kernel_rfl
theorem fh4_21 : lmap (fun q => fpA (fpS [3, 1, 2, 0] q)) perms4 = zw (fun q k => some (.nx (fpE (.tup [pP [3, 1, 2, 0], pP q]) (pP q) (im k)))) perms4 [21, 26, 30, 25, 25, 32, 32, 29, 25, 25, 29, 32, 25, 29, 26, 26, 29, 25, 25, 32, 26, 21, 25, 30] := by kernel_rfl
theorem pi4_21 : m_Permutation___init__ [pI [3, 1, 2, 0]] = some [pI [3, 1, 2, 0]] := by kernel_rfl
theorem fh4_22 : lmap (fun q => fpA (fpS [3, 2, 0, 1] q)) perms4 = zw (fun q k => some (.nx (fpE (.tup [pP [3, 2, 0, 1], pP q]) (pP q) (im k)))) perms4 [20, 27, 25, 25, 25, 25, 27, 20, 25, 25, 25, 25, 25, 25, 25, 25, 27, 20, 25, 25, 25, 25, 20, 27] := by kernel_rfl
theorem pi4_22 : m_Permutation___init__ [pI [3, 2, 0, 1]] = some [pI [3, 2, 0, 1]] := by kernel_rfl
theorem fh4_23 : lmap (fun q => fpA (fpS [3, 2, 1, 0] q)) perms4 = zw (fun q k => some (.nx (fpE (.tup [pP [3, 2, 1, 0], pP q]) (pP q) (im k)))) perms4 [22, 27, 30, 31, 31, 33, 27, 35, 31, 33, 15, 31, 31, 15, 33, 31, 35, 27, 33, 31, 31, 30, 27, 22] := by kernel_rfl
theorem pi4_23 : m_Permutation___init__ [pI [3, 2, 1, 0]] = some [pI [3, 2, 1, 0]] := by kernel_rfl
theorem fh4 : ∀ p ∈ perms4, ∀ q ∈ perms4, ∃ k, k < 36 ∧ fpA (fpS p q) = some (.nx (fpE (.tup [pP p, pP q]) (pP q) (im k))) := by
  intro p hp q hq
  have key : ∀ ks : List Nat, (∀ k ∈ ks, k < 36) → lmap (fun q => fpA (fpS p q)) perms4 = zw (fun q k => some (.nx (fpE (.tup [pP p, pP q]) (pP q) (im k)))) perms4 ks → ∃ k, k < 36 ∧ fpA (fpS p q) = some (.nx (fpE (.tup [pP p, pP q]) (pP q) (im k))) := fun ks hk h => by
    obtain ⟨k, m, e⟩ := zw_mem h q hq
    exact ⟨k, hk k m, e⟩
  unfold perms4 at hp
  simp only [List.mem_cons, List.not_mem_nil, or_false] at hp
  rcases hp with rfl | rfl | rfl | rfl | rfl | rfl | rfl | rfl | rfl | rfl | rfl | rfl | rfl | rfl | rfl | rfl | rfl | rfl | rfl | rfl | rfl | rfl | rfl | rfl
  · exact key _ (by decide) fh4_0
  · exact key _ (by decide) fh4_1
  · exact key _ (by decide) fh4_2
  · exact key _ (by decide) fh4_3
  · exact key _ (by decide) fh4_4
  · exact key _ (by decide) fh4_5
  · exact key _ (by decide) fh4_6
  · exact key _ (by decide) fh4_7
  · exact key _ (by decide) fh4_8
  · exact key _ (by decide) fh4_9
  · exact key _ (by decide) fh4_10
  · exact key _ (by decide) fh4_11
  · exact key _ (by decide) fh4_12
  · exact key _ (by decide) fh4_13
  · exact key _ (by decide) fh4_14
  · exact key _ (by decide) fh4_15
  · exact key _ (by decide) fh4_16
  · exact key _ (by decide) fh4_17
  · exact key _ (by decide) fh4_18
  · exact key _ (by decide) fh4_19
  · exact key _ (by decide) fh4_20
  · exact key _ (by decide) fh4_21
  · exact key _ (by decide) fh4_22
  · exact key _ (by decide) fh4_23
theorem pi4 : ∀ p ∈ perms4, m_Permutation___init__ [pI p] = some [pI p] := by
  intro p hp
  unfold perms4 at hp
  simp only [List.mem_cons, List.not_mem_nil, or_false] at hp
  rcases hp with rfl | rfl | rfl | rfl | rfl | rfl | rfl | rfl | rfl | rfl | rfl | rfl | rfl | rfl | rfl | rfl | rfl | rfl | rfl | rfl | rfl | rfl | rfl | rfl
  · exact pi4_0
  · exact pi4_1
  · exact pi4_2
  · exact pi4_3
  · exact pi4_4
  · exact pi4_5
  · exact pi4_6
  · exact pi4_7
  · exact pi4_8
  · exact pi4_9
  · exact pi4_10
  · exact pi4_11
  · exact pi4_12
  · exact pi4_13
  · exact pi4_14
  · exact pi4_15
  · exact pi4_16
  · exact pi4_17
  · exact pi4_18
  · exact pi4_19
  · exact pi4_20
  · exact pi4_21
  · exact pi4_22
  · exact pi4_23
theorem cy_0 : m_cyclic [.int (1 + ((0 : Nat) : Int))] = some (gT 0) := by kernel_rfl
theorem cy_1 : m_cyclic [.int (1 + ((1 : Nat) : Int))] = some (gT 1) := by kernel_rfl
theorem cy_2 : m_cyclic [.int (1 + ((2 : Nat) : Int))] = some (gT 2) := by kernel_rfl
theorem cy_3 : m_cyclic [.int (1 + ((3 : Nat) : Int))] = some (gT 5) := by kernel_rfl
theorem cy_4 : m_cyclic [.int (1 + ((4 : Nat) : Int))] = some (gT 7) := by kernel_rfl
theorem cy_5 : m_cyclic [.int (1 + ((5 : Nat) : Int))] = some (gT 10) := by kernel_rfl
theorem cy_6 : m_cyclic [.int (1 + ((6 : Nat) : Int))] = some (gT 11) := by kernel_rfl
theorem di_0 : m_cyclic [.int 2] = some (gT 1) ∧ m_cyclic [.int (2 + ((0 : Nat) : Int))] = some (gT 1) ∧ m_direct [gT 1, gT 1] = some (gT 3) := ⟨by kernel_rfl, by kernel_rfl, by kernel_rfl⟩
theorem di_1 : m_cyclic [.int 2] = some (gT 1) ∧ m_cyclic [.int (2 + ((1 : Nat) : Int))] = some (gT 2) ∧ m_direct [gT 1, gT 2] = some (gT 9) := ⟨by kernel_rfl, by kernel_rfl, by kernel_rfl⟩
theorem di_2 : m_cyclic [.int 2] = some (gT 1) ∧ m_cyclic [.int (2 + ((2 : Nat) : Int))] = some (gT 5) ∧ m_direct [gT 1, gT 5] = some (gT 15) := ⟨by kernel_rfl, by kernel_rfl, by kernel_rfl⟩
theorem permk3 : ((List.range 3).all fun a => (List.range 3).all fun b => (List.range 3).all fun c => (!decide ([a, b, c].Nodup)) || decide ([a, b, c] ∈ perms3)) = true := by decide +kernel
theorem permk4 : ((List.range 4).all fun a => (List.range 4).all fun b => (List.range 4).all fun c => (List.range 4).all fun d => (!decide ([a, b, c, d].Nodup)) || decide ([a, b, c, d] ∈ perms4)) = true := by decide +kernel
theorem perm3 {p : List Nat} (h : p.Perm (List.range 3)) : p ∈ perms3 := by
  have hl := h.length_eq
  have hn : p.Nodup := h.nodup_iff.mpr List.nodup_range
  have hm : ∀ x ∈ p, x < 3 := fun x hx => List.mem_range.mp (h.mem_iff.mp hx)
  rcases p with _ | ⟨a, _ | ⟨b, _ | ⟨c, _ | ⟨d, p⟩⟩⟩⟩ <;> simp at hl
  have key := permk3
  simp only [List.all_eq_true, List.mem_range, Bool.or_eq_true, Bool.not_eq_true', decide_eq_true_eq, decide_eq_false_iff_not] at key
  exact (key a (hm a (by simp)) b (hm b (by simp)) c (hm c (by simp))).elim (fun z => absurd hn z) id
theorem perm4 {p : List Nat} (h : p.Perm (List.range 4)) : p ∈ perms4 := by
  have hl := h.length_eq
  have hn : p.Nodup := h.nodup_iff.mpr List.nodup_range
  have hm : ∀ x ∈ p, x < 4 := fun x hx => List.mem_range.mp (h.mem_iff.mp hx)
  rcases p with _ | ⟨a, _ | ⟨b, _ | ⟨c, _ | ⟨d, _ | ⟨e, p⟩⟩⟩⟩⟩ <;> simp at hl
  have key := permk4
  simp only [List.all_eq_true, List.mem_range, Bool.or_eq_true, Bool.not_eq_true', decide_eq_true_eq, decide_eq_false_iff_not] at key
  exact (key a (hm a (by simp)) b (hm b (by simp)) c (hm c (by simp)) d (hm d (by simp))).elim (fun z => absurd hn z) id
theorem evG : EvG where
  cyc := fun n hn => by
    rcases n with _ | _ | _ | _ | _ | _ | _ | n
    · exact ⟨_, by decide, cy_0⟩
    · exact ⟨_, by decide, cy_1⟩
    · exact ⟨_, by decide, cy_2⟩
    · exact ⟨_, by decide, cy_3⟩
    · exact ⟨_, by decide, cy_4⟩
    · exact ⟨_, by decide, cy_5⟩
    · exact ⟨_, by decide, cy_6⟩
    · omega
  dir := fun n hn => by
    rcases n with _ | _ | _ | n
    · exact ⟨_, _, _, by decide, di_0⟩
    · exact ⟨_, _, _, by decide, di_1⟩
    · exact ⟨_, _, _, by decide, di_2⟩
    · omega
  perm := fun M p hM hp => by
    rcases hM with rfl | rfl
    · exact pi3 p (perm3 hp)
    · exact pi4 p (perm4 hp)
  pair := fun M p q hM hp hq => by
    have key : ∀ k, k < 36 → fpA (fpS p q) = some (.nx (fpE (.tup [pP p, pP q]) (pP q) (im k))) → ∃ i r, i < 18 ∧ m_from_permutations [.tup [pP p, pP q]] = some (.tup [gT i, r]) := fun k hk h => by
      obtain ⟨i, r, hi, ht⟩ := ft_all k hk
      refine ⟨i, r, hi, ?_⟩
      show ob (b_from_permutations (fpS p q)) _ = _
      rw [fp_eq h (ht _ _)]
      rfl
    rcases hM with rfl | rfl
    · obtain ⟨k, hk, h⟩ := fh3 p (perm3 hp) q (perm3 hq)
      exact key k hk h
    · obtain ⟨k, hk, h⟩ := fh4 p (perm4 hp) q (perm4 hq)
      exact key k hk h
end Ct
end
end
section
set_option Elab.async false
set_option linter.all false
set_option maxRecDepth 100000
set_option maxHeartbeats 4000000
noncomputable section
namespace Ct
open PySem PySem.Spec PyProof.Rows L2 LamX NdefX Ch
/-! ### what every def is given -/
structure Hd (h : Heap) (K : PySem.W.Frag) (mg : Str → Option Value) (base : Heap) : Prop where
  q : Sx faL fnL h K
  G : h.Ns mainGlobals mg
  t1 : TabB base mg (codeAd K "normal_subgroups") (tabAd K "normal_subgroups")
  t2 : TabB base mg (codeAd K "character_table") (tabAd K "character_table")
def clk (K : PySem.W.Frag) : Nat → Addr
  | 0 => He.ga K "Permutation"
  | 1 => He.ga K "Group"
  | 2 => He.ga K "Cyclo"
  | _ => He.ga K "CharacterTable"
def clK (K : PySem.W.Frag) : Cl := ⟨clk K, 0, 0⟩
section
variable {P : Program} {w : World} {h : Heap} {K : PySem.W.Frag} {mg : Str → Option Value} {base : Heap}
theorem Hd.fact (D : Hd h K mg base) (i : Nat) {f : He.Fa} (e : faL[i]? = some f := by rfl) : f.ok K = true := D.q.says.fact i e
theorem Hd.glo (D : Hd h K mg base) (i : Nat) {x : Str} (e : faL[i]? = some (.glo x) := by rfl) : mg x = some (.ref (He.ga K x)) := He.glo_ok D.q.X D.G (D.fact i e)
theorem Hd.free (D : Hd h K mg base) (i : Nat) {x : Str} (e : faL[i]? = some (.free x) := by rfl) : mg x = none := He.free_ok D.q.X D.G (D.fact i e)
theorem Hd.int (D : Hd h K mg base) (i : Nat) {x : Str} {n : Int} (e : faL[i]? = some (.int x n) := by rfl) : ∃ t, mg x = some (.int n t) := He.int_ok D.q.X D.G (D.fact i e)
theorem Hd.cls (D : Hd h K mg base) (i : Nat) {x : Str} (e : faL[i]? = some (.cls x) := by rfl) : Cls K (He.ga K x) := He.cls_ok (D.fact i e)
theorem Hd.noat (D : Hd h K mg base) (i : Nat) {x f : Str} (e : faL[i]? = some (.noat x f) := by rfl) : NoAttr K (He.ga K x) f := He.noat_ok (D.fact i e)
theorem Hd.meth (D : Hd h K mg base) (i : Nat) {x m : Str} (e : faL[i]? = some (.meth x m) := by rfl) : Meth K (He.ga K x) m (He.ma K (He.ga K x) m) := He.meth_ok (D.fact i e)
theorem Hd.mkr (D : Hd h K mg base) (i : Nat) {x : Str} (e : faL[i]? = some (.mkr x) := by rfl) : Mk K (He.ga K x) (He.ma K (He.ga K x) "__init__") := He.mkr_ok (D.fact i e)
theorem Hd.clsk (D : Hd h K mg base) : ∀ c, c < 4 → Cls K ((clK K).k c)
  | 0, _ => D.cls 88
  | 1, _ => D.cls 91
  | 2, _ => D.cls 94
  | 3, _ => D.cls 99
  | n + 4, z => absurd z (by omega)
theorem Hd.gs (D : Hd h K mg base) : Gs K mg (clK K) where
  len := D.free 70
  range := D.free 71
  list := D.free 72
  tuple := D.free 73
  sorted := D.free 74
  zip := D.free 75
  enum := D.free 76
  sum := D.free 77
  abs := D.free 78
  max := D.free 79
  any := D.free 80
  int := D.free 81
  bool := D.free 82
  isi := D.free 83
  most := D.int 85
  mostO := D.int 86
  mostP := D.int 87
  perm := D.glo 66
  cyc := D.glo 68
  lcm := PySem.W.mg_of D.q.X D.G D.q.lcm
  insP := insB_ok (D.clsk 0 (by decide)) D.q.i0
  insC := insB_ok (D.clsk 2 (by decide)) D.q.i2
  cls := D.clsk
  noat := fun c f hf => match c, hf with
    | 0, hf => by
      have hf : f ∈ (["images"] : List Str) := hf
      rcases List.mem_cons.mp hf with rfl | hf
      · exact D.noat 90
      exact absurd hf List.not_mem_nil
    | 1, hf => by
      have hf : f ∈ (["table"] : List Str) := hf
      rcases List.mem_cons.mp hf with rfl | hf
      · exact D.noat 93
      exact absurd hf List.not_mem_nil
    | 2, hf => by
      have hf : f ∈ (["e", "parts", "low"] : List Str) := hf
      rcases List.mem_cons.mp hf with rfl | hf
      · exact D.noat 96
      rcases List.mem_cons.mp hf with rfl | hf
      · exact D.noat 97
      rcases List.mem_cons.mp hf with rfl | hf
      · exact D.noat 98
      exact absurd hf List.not_mem_nil
    | _ + 3, hf => by
      have hf : f ∈ (["group", "rows"] : List Str) := hf
      rcases List.mem_cons.mp hf with rfl | hf
      · exact D.noat 101
      rcases List.mem_cons.mp hf with rfl | hf
      · exact D.noat 102
      exact absurd hf List.not_mem_nil
theorem cal_of {cl : Cl} {k n : Nat} {x : Str} {fa : Addr} {fd : FuncData} {ps : List Str} {f : List U → Option U} (ok : FnOk P w K mg base CX0 k fa fd ps (spF cl n f)) (gl : mg x = some (.ref fa)) (kp : PySem.W.keepIn K (.ref fa) = true) (b : Binds K fd ps []) : Cal P w K mg base cl k x n [] f :=
  ⟨fa, fd, ps, [], [], ok, gl, kp, b, .nil, fun _ => by simp only [RpL]⟩
theorem cals_of {k : Nat} {x : Str} {fa : Addr} {fd : FuncData} {ps : List Str} {sp : Sp} (ok : FnOk P w K mg base CX0 k fa fd ps sp) (gl : mg x = some (.ref fa)) (kp : PySem.W.keepIn K (.ref fa) = true) (b : Binds K fd ps []) : CalS P w K mg base k x sp :=
  ⟨fa, fd, ps, ok, gl, kp, b⟩
theorem caln_of {cl : Cl} {T : List (Addr × Str)} {k : Nat} {x : Str} {fa : Addr} {fd : FuncData} {ps : List Str} {f : List U → Option U} (ok : FnOk P w K mg base CX0 k fa fd ps (spN cl T 1 f)) (gl : mg x = some (.ref fa)) (kp : PySem.W.keepIn K (.ref fa) = true) (b : Binds K fd ps []) : CalN P w K mg base cl T k x f :=
  ⟨fa, fd, ps, ok, gl, kp, b⟩
theorem met_of {cl : Cl} {k c n : Nat} {m : Str} {fa : Addr} {fd : FuncData} {ps : List Str} {f : List U → Option U} (ok : FnOk P w K mg base CX0 k fa fd ps (spF cl n f)) (hc : Cls K (cl.k c)) (hm : Meth K (cl.k c) m fa) (b : Binds K fd ps []) : Met P w K mg base cl k c m n f :=
  ⟨fa, fd, ps, hc, hm, ok, b⟩
theorem dnd_of {cl : Cl} {k c n : Nat} {m : Str} {fa : Addr} {fd : FuncData} {ps : List Str} {f : List U → Option U} (ok : FnOk P w K mg base CX0 k fa fd ps (spF cl n f)) (hs : PySem.W.selfFirst K (cl.k c) = true) (hm : Meth K (cl.k c) m fa) (b : Binds K fd ps []) : Dnd P w K mg base cl k c m n f :=
  ⟨fa, fd, ps, hs, hm.at_, hm.fn, ok, b⟩
theorem mak_of {cl : Cl} {k c n : Nat} {x : Str} {fa : Addr} {fd : FuncData} {ps : List Str} {f : List U → Option (List U)} (ok : FnOk P w K mg base CX0 k fa fd ps (spI cl c n f)) (hm : Mk K (cl.k c) fa) (gl : mg x = some (.ref (cl.k c))) (b : Binds K fd ps []) : Mak P w K mg base cl k c x n [] f :=
  ⟨fa, fd, ps, [], [], hm, ok, gl, b, .nil, fun _ => by simp only [RpL]⟩
theorem mak1_of {cl : Cl} {k c n : Nat} {x : Str} {fa : Addr} {fd : FuncData} {ps : List Str} {f : List U → Option (List U)} {ds : List Value} (ok : FnOk P w K mg base CX0 k fa fd ps (spI cl c n f)) (hm : Mk K (cl.k c) fa) (gl : mg x = some (.ref (cl.k c))) (rv : Vals [.int 1] ds) (b : Binds K fd ps ds) : Mak P w K mg base cl k c x n [.int (.ofNat 1)] f :=
  ⟨fa, fd, ps, ds, _, hm, ok, gl, b, rv, fun _ => by simp only [RpL, Rp]; exact ⟨rfl, trivial⟩⟩
theorem code_of {x qual : Str} {params : Arguments} {body : List Stmt} {scope : Scope} {fa c Q : Addr} {fd : FuncData} (F : FunD K x qual params body scope [] [] fa fd) (t : TabF K h qual c Q) (e : fa = He.ga K qual) : fd.code = .ref c := by
  obtain ⟨oc, od, dV, kV, doc, pm, an, cdv, ct, osl, _, lk, _⟩ := F.ex
  obtain ⟨oc', od', fd', sl', lk', e'⟩ := t.fn
  rw [e, lk'] at lk
  cases lk
  exact e'
/-! ### the defs -/
theorem c__is_integer (D : Hd h K mg base) : Cal P w K mg base (clK K) 1 "_is_integer" 1 [] m__is_integer := by
  obtain ⟨fd, F⟩ : ∃ fd, FunD K "_is_integer" "_is_integer" (defArgs (top 9)) (defBody (top 9)) (defScope (top 9)) [] [] (He.fAd K d__is_integer.at_) fd := D.q.says.def_ 0 (d := d__is_integer) rfl
  exact cal_of (ok__is_integer F D.gs ) (D.glo 0) F.kp (F.bindsN fun _ _ _ _ _ _ us hl => match us, hl with | [_], _ => rfl)
theorem k_Permutation___init__ (D : Hd h K mg base) : Mak P w K mg base (clK K) 2 0 "Permutation" 2 [] m_Permutation___init__ := by
  obtain ⟨fd, F⟩ : ∃ fd, FunD K "__init__" "Permutation.__init__" (defArgs (cst 10 0)) (defBody (cst 10 0)) (defScope (cst 10 0)) [] [] (He.fAd K d_Permutation___init__.at_) fd := D.q.says.def_ 1 (d := d_Permutation___init__) rfl
  exact mak_of (ok_Permutation___init__ F D.gs (c__is_integer D)) (D.mkr 89) (D.glo 66) (F.bindsN fun _ _ _ _ _ _ us hl => match us, hl with | [_, _], _ => rfl)
theorem o_Permutation___mul__ (D : Hd h K mg base) : Dnd P w K mg base (clK K) 4 0 "__mul__" 2 m_Permutation___mul__ := by
  obtain ⟨fd, F⟩ : ∃ fd, FunD K "__mul__" "Permutation.__mul__" (defArgs (cst 10 2)) (defBody (cst 10 2)) (defScope (cst 10 2)) [] [] (He.fAd K d_Permutation___mul__.at_) fd := D.q.says.def_ 2 (d := d_Permutation___mul__) rfl
  exact dnd_of (ok_Permutation___mul__ F D.gs (k_Permutation___init__ D)) D.q.s0 (D.meth 103) (F.bindsN fun _ _ _ _ _ _ us hl => match us, hl with | [_, _], _ => rfl)
theorem c_identity (D : Hd h K mg base) : Cal P w K mg base (clK K) 4 "identity" 1 [] m_identity := by
  obtain ⟨fd, F⟩ : ∃ fd, FunD K "identity" "identity" (defArgs (top 11)) (defBody (top 11)) (defScope (top 11)) [] [] (He.fAd K d_identity.at_) fd := D.q.says.def_ 3 (d := d_identity) rfl
  exact cal_of (ok_identity F D.gs (k_Permutation___init__ D)) (D.glo 1) F.kp (F.bindsN fun _ _ _ _ _ _ us hl => match us, hl with | [_], _ => rfl)
theorem c__checked_rows (D : Hd h K mg base) : Cal P w K mg base (clK K) 1 "_checked_rows" 1 [] m__checked_rows := by
  obtain ⟨fd, F⟩ : ∃ fd, FunD K "_checked_rows" "_checked_rows" (defArgs (top 14)) (defBody (top 14)) (defScope (top 14)) [] [] (He.fAd K d__checked_rows.at_) fd := D.q.says.def_ 4 (d := d__checked_rows) rfl
  exact cal_of (ok__checked_rows F D.gs ) (D.glo 2) F.kp (F.bindsN fun _ _ _ _ _ _ us hl => match us, hl with | [_], _ => rfl)
theorem c__reached (D : Hd h K mg base) : Cal P w K mg base (clK K) 1 "_reached" 2 [] m__reached := by
  obtain ⟨fd, F⟩ : ∃ fd, FunD K "_reached" "_reached" (defArgs (top 16)) (defBody (top 16)) (defScope (top 16)) [] [] (He.fAd K d__reached.at_) fd := D.q.says.def_ 5 (d := d__reached) rfl
  exact cal_of (ok__reached F D.gs ) (D.glo 3) F.kp (F.bindsN fun _ _ _ _ _ _ us hl => match us, hl with | [_, _], _ => rfl)
theorem c__generators (D : Hd h K mg base) : Cal P w K mg base (clK K) 2 "_generators" 1 [] m__generators := by
  obtain ⟨fd, F⟩ : ∃ fd, FunD K "_generators" "_generators" (defArgs (top 15)) (defBody (top 15)) (defScope (top 15)) [] [] (He.fAd K d__generators.at_) fd := D.q.says.def_ 6 (d := d__generators) rfl
  exact cal_of (ok__generators F D.gs (c__reached D)) (D.glo 4) F.kp (F.bindsN fun _ _ _ _ _ _ us hl => match us, hl with | [_], _ => rfl)
theorem c__check (D : Hd h K mg base) : Cal P w K mg base (clK K) 3 "_check" 1 [] m__check := by
  obtain ⟨fd, F⟩ : ∃ fd, FunD K "_check" "_check" (defArgs (top 17)) (defBody (top 17)) (defScope (top 17)) [] [] (He.fAd K d__check.at_) fd := D.q.says.def_ 7 (d := d__check) rfl
  exact cal_of (ok__check F D.gs (c__generators D)) (D.glo 5) F.kp (F.bindsN fun _ _ _ _ _ _ us hl => match us, hl with | [_], _ => rfl)
theorem k_Group___init__ (D : Hd h K mg base) : Mak P w K mg base (clK K) 4 1 "Group" 2 [] m_Group___init__ := by
  obtain ⟨fd, F⟩ : ∃ fd, FunD K "__init__" "Group.__init__" (defArgs (cst 18 0)) (defBody (cst 18 0)) (defScope (cst 18 0)) [] [] (He.fAd K d_Group___init__.at_) fd := D.q.says.def_ 8 (d := d_Group___init__) rfl
  exact mak_of (ok_Group___init__ F D.gs (c__checked_rows D) (c__check D)) (D.mkr 92) (D.glo 67) (F.bindsN fun _ _ _ _ _ _ us hl => match us, hl with | [_, _], _ => rfl)
theorem o_Group___len__ (D : Hd h K mg base) : Dnd P w K mg base (clK K) 1 1 "__len__" 1 m_Group___len__ := by
  obtain ⟨fd, F⟩ : ∃ fd, FunD K "__len__" "Group.__len__" (defArgs (cst 18 1)) (defBody (cst 18 1)) (defScope (cst 18 1)) [] [] (He.fAd K d_Group___len__.at_) fd := D.q.says.def_ 9 (d := d_Group___len__) rfl
  exact dnd_of (ok_Group___len__ F D.gs ) D.q.s1 (D.meth 104) (F.bindsN fun _ _ _ _ _ _ us hl => match us, hl with | [_], _ => rfl)
theorem t_Group_product (D : Hd h K mg base) : Met P w K mg base (clK K) 1 1 "product" 3 m_Group_product := by
  obtain ⟨fd, F⟩ : ∃ fd, FunD K "product" "Group.product" (defArgs (cst 18 3)) (defBody (cst 18 3)) (defScope (cst 18 3)) [] [] (He.fAd K d_Group_product.at_) fd := D.q.says.def_ 10 (d := d_Group_product) rfl
  exact met_of (ok_Group_product F D.gs ) (D.clsk 1 (by decide)) (D.meth 105) (F.bindsN fun _ _ _ _ _ _ us hl => match us, hl with | [_, _, _], _ => rfl)
theorem t_Group_inverse (D : Hd h K mg base) : Met P w K mg base (clK K) 1 1 "inverse" 2 m_Group_inverse := by
  obtain ⟨fd, F⟩ : ∃ fd, FunD K "inverse" "Group.inverse" (defArgs (cst 18 4)) (defBody (cst 18 4)) (defScope (cst 18 4)) [] [] (He.fAd K d_Group_inverse.at_) fd := D.q.says.def_ 11 (d := d_Group_inverse) rfl
  exact met_of (ok_Group_inverse F D.gs ) (D.clsk 1 (by decide)) (D.meth 106) (F.bindsN fun _ _ _ _ _ _ us hl => match us, hl with | [_, _], _ => rfl)
theorem t_Group_order_of (D : Hd h K mg base) : Met P w K mg base (clK K) 1 1 "order_of" 2 m_Group_order_of := by
  obtain ⟨fd, F⟩ : ∃ fd, FunD K "order_of" "Group.order_of" (defArgs (cst 18 6)) (defBody (cst 18 6)) (defScope (cst 18 6)) [] [] (He.fAd K d_Group_order_of.at_) fd := D.q.says.def_ 12 (d := d_Group_order_of) rfl
  exact met_of (ok_Group_order_of F D.gs ) (D.clsk 1 (by decide)) (D.meth 107) (F.bindsN fun _ _ _ _ _ _ us hl => match us, hl with | [_, _], _ => rfl)
theorem t_Group_power (D : Hd h K mg base) : Met P w K mg base (clK K) 2 1 "power" 3 m_Group_power := by
  obtain ⟨fd, F⟩ : ∃ fd, FunD K "power" "Group.power" (defArgs (cst 18 5)) (defBody (cst 18 5)) (defScope (cst 18 5)) [] [] (He.fAd K d_Group_power.at_) fd := D.q.says.def_ 13 (d := d_Group_power) rfl
  exact met_of (ok_Group_power F D.gs (t_Group_order_of D)) (D.clsk 1 (by decide)) (D.meth 108) (F.bindsN fun _ _ _ _ _ _ us hl => match us, hl with | [_, _, _], _ => rfl)
theorem t_Group_conjugated (D : Hd h K mg base) : Met P w K mg base (clK K) 2 1 "conjugated" 3 m_Group_conjugated := by
  obtain ⟨fd, F⟩ : ∃ fd, FunD K "conjugated" "Group.conjugated" (defArgs (cst 18 7)) (defBody (cst 18 7)) (defScope (cst 18 7)) [] [] (He.fAd K d_Group_conjugated.at_) fd := D.q.says.def_ 14 (d := d_Group_conjugated) rfl
  exact met_of (ok_Group_conjugated F D.gs (t_Group_inverse D)) (D.clsk 1 (by decide)) (D.meth 109) (F.bindsN fun _ _ _ _ _ _ us hl => match us, hl with | [_, _, _], _ => rfl)
theorem t_Group_exponent (D : Hd h K mg base) : Met P w K mg base (clK K) 2 1 "exponent" 1 m_Group_exponent := by
  obtain ⟨fd, F⟩ : ∃ fd, FunD K "exponent" "Group.exponent" (defArgs (cst 18 8)) (defBody (cst 18 8)) (defScope (cst 18 8)) [] [] (He.fAd K d_Group_exponent.at_) fd := D.q.says.def_ 15 (d := d_Group_exponent) rfl
  exact met_of (ok_Group_exponent F D.gs (t_Group_order_of D)) (D.clsk 1 (by decide)) (D.meth 110) (F.bindsN fun _ _ _ _ _ _ us hl => match us, hl with | [_], _ => rfl)
theorem c_cyclic (D : Hd h K mg base) : Cal P w K mg base (clK K) 6 "cyclic" 1 [] m_cyclic := by
  obtain ⟨fd, F⟩ : ∃ fd, FunD K "cyclic" "cyclic" (defArgs (top 19)) (defBody (top 19)) (defScope (top 19)) [] [] (He.fAd K d_cyclic.at_) fd := D.q.says.def_ 16 (d := d_cyclic) rfl
  exact cal_of (ok_cyclic F D.gs (k_Group___init__ D)) (D.glo 6) F.kp (F.bindsN fun _ _ _ _ _ _ us hl => match us, hl with | [_], _ => rfl)
theorem c_direct (D : Hd h K mg base) : Cal P w K mg base (clK K) 6 "direct" 2 [] m_direct := by
  obtain ⟨fd, F⟩ : ∃ fd, FunD K "direct" "direct" (defArgs (top 20)) (defBody (top 20)) (defScope (top 20)) [] [] (He.fAd K d_direct.at_) fd := D.q.says.def_ 17 (d := d_direct) rfl
  exact cal_of (ok_direct F D.gs (o_Group___len__ D) (t_Group_product D) (k_Group___init__ D)) (D.glo 7) F.kp (F.bindsN fun _ _ _ _ _ _ us hl => match us, hl with | [_, _], _ => rfl)
theorem c__closure (D : Hd h K mg base) : Cal P w K mg base (clK K) 5 "_closure" 1 [] m__closure := by
  obtain ⟨fd, F⟩ : ∃ fd, FunD K "_closure" "_closure" (defArgs (top 21)) (defBody (top 21)) (defScope (top 21)) [] [] (He.fAd K d__closure.at_) fd := D.q.says.def_ 18 (d := d__closure) rfl
  exact cal_of (ok__closure F D.gs (c_identity D) (o_Permutation___mul__ D)) (D.glo 8) F.kp (F.bindsN fun _ _ _ _ _ _ us hl => match us, hl with | [_], _ => rfl)
theorem c_from_permutations (D : Hd h K mg base) : Cal P w K mg base (clK K) 6 "from_permutations" 1 [] m_from_permutations := by
  obtain ⟨fd, F⟩ : ∃ fd, FunD K "from_permutations" "from_permutations" (defArgs (top 22)) (defBody (top 22)) (defScope (top 22)) [] [] (He.fAd K d_from_permutations.at_) fd := D.q.says.def_ 19 (d := d_from_permutations) rfl
  exact cal_of (ok_from_permutations F D.gs (c__closure D) (k_Permutation___init__ D) (o_Permutation___mul__ D) (k_Group___init__ D)) (D.glo 9) F.kp (F.bindsN fun _ _ _ _ _ _ us hl => match us, hl with | [_], _ => rfl)
theorem c_classes (D : Hd h K mg base) : Cal P w K mg base (clK K) 3 "classes" 1 [] m_classes := by
  obtain ⟨fd, F⟩ : ∃ fd, FunD K "classes" "classes" (defArgs (top 24)) (defBody (top 24)) (defScope (top 24)) [] [] (He.fAd K d_classes.at_) fd := D.q.says.def_ 20 (d := d_classes) rfl
  exact cal_of (ok_classes F D.gs (o_Group___len__ D) (t_Group_conjugated D) (t_Group_order_of D)) (D.glo 10) F.kp (F.bindsN fun _ _ _ _ _ _ us hl => match us, hl with | [_], _ => rfl)
theorem c_class_numbers (D : Hd h K mg base) : Cal P w K mg base (clK K) 4 "class_numbers" 1 [] m_class_numbers := by
  obtain ⟨fd, F⟩ : ∃ fd, FunD K "class_numbers" "class_numbers" (defArgs (top 25)) (defBody (top 25)) (defScope (top 25)) [] [] (He.fAd K d_class_numbers.at_) fd := D.q.says.def_ 21 (d := d_class_numbers) rfl
  exact cal_of (ok_class_numbers F D.gs (o_Group___len__ D) (c_classes D)) (D.glo 11) F.kp (F.bindsN fun _ _ _ _ _ _ us hl => match us, hl with | [_], _ => rfl)
theorem c_class_of_power (D : Hd h K mg base) : Cal P w K mg base (clK K) 5 "class_of_power" 3 [] m_class_of_power := by
  obtain ⟨fd, F⟩ : ∃ fd, FunD K "class_of_power" "class_of_power" (defArgs (top 26)) (defBody (top 26)) (defScope (top 26)) [] [] (He.fAd K d_class_of_power.at_) fd := D.q.says.def_ 22 (d := d_class_of_power) rfl
  exact cal_of (ok_class_of_power F D.gs (c_class_numbers D) (t_Group_power D) (c_classes D)) (D.glo 12) F.kp (F.bindsN fun _ _ _ _ _ _ us hl => match us, hl with | [_, _, _], _ => rfl)
theorem c_inverse_classes (D : Hd h K mg base) : Cal P w K mg base (clK K) 5 "inverse_classes" 1 [] m_inverse_classes := by
  obtain ⟨fd, F⟩ : ∃ fd, FunD K "inverse_classes" "inverse_classes" (defArgs (top 27)) (defBody (top 27)) (defScope (top 27)) [] [] (He.fAd K d_inverse_classes.at_) fd := D.q.says.def_ 23 (d := d_inverse_classes) rfl
  exact cal_of (ok_inverse_classes F D.gs (c_class_numbers D) (c_classes D) (t_Group_inverse D)) (D.glo 13) F.kp (F.bindsN fun _ _ _ _ _ _ us hl => match us, hl with | [_], _ => rfl)
theorem c_class_sizes (D : Hd h K mg base) : Cal P w K mg base (clK K) 4 "class_sizes" 1 [] m_class_sizes := by
  obtain ⟨fd, F⟩ : ∃ fd, FunD K "class_sizes" "class_sizes" (defArgs (top 29)) (defBody (top 29)) (defScope (top 29)) [] [] (He.fAd K d_class_sizes.at_) fd := D.q.says.def_ 24 (d := d_class_sizes) rfl
  exact cal_of (ok_class_sizes F D.gs (c_classes D)) (D.glo 14) F.kp (F.bindsN fun _ _ _ _ _ _ us hl => match us, hl with | [_], _ => rfl)
theorem c__matrix (D : Hd h K mg base) : Cal P w K mg base (clK K) 2 "_matrix" 4 [] m__matrix := by
  obtain ⟨fd, F⟩ : ∃ fd, FunD K "_matrix" "_matrix" (defArgs (top 30)) (defBody (top 30)) (defScope (top 30)) [] [] (He.fAd K d__matrix.at_) fd := D.q.says.def_ 25 (d := d__matrix) rfl
  exact cal_of (ok__matrix F D.gs (t_Group_product D) (t_Group_inverse D)) (D.glo 15) F.kp (F.bindsN fun _ _ _ _ _ _ us hl => match us, hl with | [_, _, _, _], _ => rfl)
theorem c_class_matrices (D : Hd h K mg base) : Cal P w K mg base (clK K) 5 "class_matrices" 1 [] m_class_matrices := by
  obtain ⟨fd, F⟩ : ∃ fd, FunD K "class_matrices" "class_matrices" (defArgs (top 31)) (defBody (top 31)) (defScope (top 31)) [] [] (He.fAd K d_class_matrices.at_) fd := D.q.says.def_ 26 (d := d_class_matrices) rfl
  exact cal_of (ok_class_matrices F D.gs (c_classes D) (c_class_numbers D) (c__matrix D)) (D.glo 16) F.kp (F.bindsN fun _ _ _ _ _ _ us hl => match us, hl with | [_], _ => rfl)
theorem c_is_integer (D : Hd h K mg base) : Cal P w K mg base (clK K) 1 "is_integer" 1 [] m_is_integer := by
  obtain ⟨fd, F⟩ : ∃ fd, FunD K "is_integer" "is_integer" (defArgs (top 38)) (defBody (top 38)) (defScope (top 38)) [] [] (He.fAd K d_is_integer.at_) fd := D.q.says.def_ 27 (d := d_is_integer) rfl
  exact cal_of (ok_is_integer F D.gs ) (D.glo 17) F.kp (F.bindsN fun _ _ _ _ _ _ us hl => match us, hl with | [_], _ => rfl)
theorem c_common (D : Hd h K mg base) : Cal P w K mg base (clK K) 1 "common" 1 [] m_common := by
  obtain ⟨fd, F⟩ : ∃ fd, FunD K "common" "common" (defArgs (top 39)) (defBody (top 39)) (defScope (top 39)) [] [] (He.fAd K d_common.at_) fd := D.q.says.def_ 28 (d := d_common) rfl
  exact cal_of (ok_common F D.gs ) (D.glo 18) F.kp (F.bindsN fun _ _ _ _ _ _ us hl => match us, hl with | [_], _ => rfl)
theorem c_multiple (D : Hd h K mg base) : Cal P w K mg base (clK K) 2 "multiple" 1 [] m_multiple := by
  obtain ⟨fd, F⟩ : ∃ fd, FunD K "multiple" "multiple" (defArgs (top 40)) (defBody (top 40)) (defScope (top 40)) [] [] (He.fAd K d_multiple.at_) fd := D.q.says.def_ 29 (d := d_multiple) rfl
  exact cal_of (ok_multiple F D.gs (c_common D)) (D.glo 19) F.kp (F.bindsN fun _ _ _ _ _ _ us hl => match us, hl with | [_], _ => rfl)
theorem c_prime_powers (D : Hd h K mg base) : Cal P w K mg base (clK K) 1 "prime_powers" 1 [] m_prime_powers := by
  obtain ⟨fd, F⟩ : ∃ fd, FunD K "prime_powers" "prime_powers" (defArgs (top 41)) (defBody (top 41)) (defScope (top 41)) [] [] (He.fAd K d_prime_powers.at_) fd := D.q.says.def_ 30 (d := d_prime_powers) rfl
  exact cal_of (ok_prime_powers F D.gs ) (D.glo 20) F.kp (F.bindsN fun _ _ _ _ _ _ us hl => match us, hl with | [_], _ => rfl)
theorem c_is_prime (D : Hd h K mg base) : Cal P w K mg base (clK K) 2 "is_prime" 1 [] m_is_prime := by
  obtain ⟨fd, F⟩ : ∃ fd, FunD K "is_prime" "is_prime" (defArgs (top 42)) (defBody (top 42)) (defScope (top 42)) [] [] (He.fAd K d_is_prime.at_) fd := D.q.says.def_ 31 (d := d_is_prime) rfl
  exact cal_of (ok_is_prime F D.gs (c_prime_powers D)) (D.glo 21) F.kp (F.bindsN fun _ _ _ _ _ _ us hl => match us, hl with | [_], _ => rfl)
theorem c_divisors (D : Hd h K mg base) : Cal P w K mg base (clK K) 2 "divisors" 1 [] m_divisors := by
  obtain ⟨fd, F⟩ : ∃ fd, FunD K "divisors" "divisors" (defArgs (top 43)) (defBody (top 43)) (defScope (top 43)) [] [] (He.fAd K d_divisors.at_) fd := D.q.says.def_ 32 (d := d_divisors) rfl
  exact cal_of (ok_divisors F D.gs (c_prime_powers D)) (D.glo 22) F.kp (F.bindsN fun _ _ _ _ _ _ us hl => match us, hl with | [_], _ => rfl)
theorem c_root_floor (D : Hd h K mg base) : Cal P w K mg base (clK K) 1 "root_floor" 1 [] m_root_floor := by
  obtain ⟨fd, F⟩ : ∃ fd, FunD K "root_floor" "root_floor" (defArgs (top 44)) (defBody (top 44)) (defScope (top 44)) [] [] (He.fAd K d_root_floor.at_) fd := D.q.says.def_ 33 (d := d_root_floor) rfl
  exact cal_of (ok_root_floor F D.gs ) (D.glo 23) F.kp (F.bindsN fun _ _ _ _ _ _ us hl => match us, hl with | [_], _ => rfl)
theorem c_power_modulo (D : Hd h K mg base) : Cal P w K mg base (clK K) 1 "power_modulo" 3 [] m_power_modulo := by
  obtain ⟨fd, F⟩ : ∃ fd, FunD K "power_modulo" "power_modulo" (defArgs (top 45)) (defBody (top 45)) (defScope (top 45)) [] [] (He.fAd K d_power_modulo.at_) fd := D.q.says.def_ 34 (d := d_power_modulo) rfl
  exact cal_of (ok_power_modulo F D.gs ) (D.glo 24) F.kp (F.bindsN fun _ _ _ _ _ _ us hl => match us, hl with | [_, _, _], _ => rfl)
theorem c_inverse_modulo (D : Hd h K mg base) : Cal P w K mg base (clK K) 1 "inverse_modulo" 2 [] m_inverse_modulo := by
  obtain ⟨fd, F⟩ : ∃ fd, FunD K "inverse_modulo" "inverse_modulo" (defArgs (top 46)) (defBody (top 46)) (defScope (top 46)) [] [] (He.fAd K d_inverse_modulo.at_) fd := D.q.says.def_ 35 (d := d_inverse_modulo) rfl
  exact cal_of (ok_inverse_modulo F D.gs ) (D.glo 25) F.kp (F.bindsN fun _ _ _ _ _ _ us hl => match us, hl with | [_, _], _ => rfl)
theorem c_prime_above (D : Hd h K mg base) : Cal P w K mg base (clK K) 3 "prime_above" 2 [] m_prime_above := by
  obtain ⟨fd, F⟩ : ∃ fd, FunD K "prime_above" "prime_above" (defArgs (top 47)) (defBody (top 47)) (defScope (top 47)) [] [] (He.fAd K d_prime_above.at_) fd := D.q.says.def_ 36 (d := d_prime_above) rfl
  exact cal_of (ok_prime_above F D.gs (c_is_prime D)) (D.glo 26) F.kp (F.bindsN fun _ _ _ _ _ _ us hl => match us, hl with | [_, _], _ => rfl)
theorem c_spread (D : Hd h K mg base) : Cal P w K mg base (clK K) 1 "spread" 2 [] m_spread := by
  obtain ⟨fd, F⟩ : ∃ fd, FunD K "spread" "spread" (defArgs (top 50)) (defBody (top 50)) (defScope (top 50)) [] [] (He.fAd K d_spread.at_) fd := D.q.says.def_ 37 (d := d_spread) rfl
  exact cal_of (ok_spread F D.gs ) (D.glo 27) F.kp (F.bindsN fun _ _ _ _ _ _ us hl => match us, hl with | [_, _], _ => rfl)
theorem c_divided (D : Hd h K mg base) : Cal P w K mg base (clK K) 1 "divided" 2 [] m_divided := by
  obtain ⟨fd, F⟩ : ∃ fd, FunD K "divided" "divided" (defArgs (top 51)) (defBody (top 51)) (defScope (top 51)) [] [] (He.fAd K d_divided.at_) fd := D.q.says.def_ 38 (d := d_divided) rfl
  exact cal_of (ok_divided F D.gs ) (D.glo 28) F.kp (F.bindsN fun _ _ _ _ _ _ us hl => match us, hl with | [_, _], _ => rfl)
theorem c_cyclotomic (D : Hd h K mg base) : Cal P w K mg base (clK K) 2 "cyclotomic" 1 [] m_cyclotomic := by
  obtain ⟨fd, F⟩ : ∃ fd, FunD K "cyclotomic" "cyclotomic" (defArgs (top 52)) (defBody (top 52)) (defScope (top 52)) [] [] (He.fAd K d_cyclotomic.at_) fd := D.q.says.def_ 39 (d := d_cyclotomic) rfl
  exact cal_of (ok_cyclotomic F D.gs (c_prime_powers D) (c_spread D) (c_divided D)) (D.glo 29) F.kp (F.bindsN fun _ _ _ _ _ _ us hl => match us, hl with | [_], _ => rfl)
theorem c_folded (D : Hd h K mg base) : Cal P w K mg base (clK K) 3 "folded" 2 [] m_folded := by
  obtain ⟨fd, F⟩ : ∃ fd, FunD K "folded" "folded" (defArgs (top 53)) (defBody (top 53)) (defScope (top 53)) [] [] (He.fAd K d_folded.at_) fd := D.q.says.def_ 40 (d := d_folded) rfl
  exact cal_of (ok_folded F D.gs (c_cyclotomic D) (c_divided D)) (D.glo 30) F.kp (F.bindsN fun _ _ _ _ _ _ us hl => match us, hl with | [_, _], _ => rfl)
theorem c_lowered (D : Hd h K mg base) : Cal P w K mg base (clK K) 4 "lowered" 3 [] m_lowered := by
  obtain ⟨fd, F⟩ : ∃ fd, FunD K "lowered" "lowered" (defArgs (top 54)) (defBody (top 54)) (defScope (top 54)) [] [] (He.fAd K d_lowered.at_) fd := D.q.says.def_ 41 (d := d_lowered) rfl
  exact cal_of (ok_lowered F D.gs (c_inverse_modulo D) (c_folded D)) (D.glo 31) F.kp (F.bindsN fun _ _ _ _ _ _ us hl => match us, hl with | [_, _, _], _ => rfl)
theorem c_least_form (D : Hd h K mg base) : Cal P w K mg base (clK K) 5 "least_form" 2 [] m_least_form := by
  obtain ⟨fd, F⟩ : ∃ fd, FunD K "least_form" "least_form" (defArgs (top 55)) (defBody (top 55)) (defScope (top 55)) [] [] (He.fAd K d_least_form.at_) fd := D.q.says.def_ 42 (d := d_least_form) rfl
  exact cal_of (ok_least_form F D.gs (c_folded D) (c_prime_powers D) (c_lowered D)) (D.glo 32) F.kp (F.bindsN fun _ _ _ _ _ _ us hl => match us, hl with | [_, _], _ => rfl)
theorem k_Cyclo___init__ (D : Hd h K mg base) : Mak P w K mg base (clK K) 6 2 "Cyclo" 4 [] m_Cyclo___init__ := by
  obtain ⟨fd, F⟩ : ∃ fd, FunD K "__init__" "Cyclo.__init__" (defArgs (cst 58 0)) (defBody (cst 58 0)) (defScope (cst 58 0)) [.int 1] [] (He.fAd K d_Cyclo___init__.at_) fd := D.q.says.def_ 43 (d := d_Cyclo___init__) rfl
  obtain ⟨ds, rv, b⟩ := F.binds1 (ps := ["self", "e", "items", "low"]) 4 1 (by decide) (by decide) fun _ _ _ _ _ _ _ us its hl hi => match us, its, hl, hi with | [_, _, _, _], [_], _, _ => ⟨_, rfl, rfl⟩
  cases rv
  exact mak_of (ok_Cyclo___init__ F D.gs (c_is_integer D) (c_least_form D) (c_common D)) (D.mkr 95) (D.glo 68) b
theorem kd_Cyclo___init__ (D : Hd h K mg base) : Mak P w K mg base (clK K) 6 2 "Cyclo" 4 [.int (.ofNat 1)] m_Cyclo___init__ := by
  obtain ⟨fd, F⟩ : ∃ fd, FunD K "__init__" "Cyclo.__init__" (defArgs (cst 58 0)) (defBody (cst 58 0)) (defScope (cst 58 0)) [.int 1] [] (He.fAd K d_Cyclo___init__.at_) fd := D.q.says.def_ 43 (d := d_Cyclo___init__) rfl
  obtain ⟨ds, rv, b⟩ := F.binds1 (ps := ["self", "e", "items", "low"]) 3 0 (by decide) (by decide) fun _ _ _ _ _ _ _ us its hl hi => match us, its, hl, hi with | [_, _, _], [_], _, _ => ⟨_, rfl, rfl⟩
  exact mak1_of (ok_Cyclo___init__ F D.gs (c_is_integer D) (c_least_form D) (c_common D)) (D.mkr 95) (D.glo 68) rv b
theorem t_Cyclo_key (D : Hd h K mg base) : Met P w K mg base (clK K) 1 2 "key" 1 m_Cyclo_key := by
  obtain ⟨fd, F⟩ : ∃ fd, FunD K "key" "Cyclo.key" (defArgs (cst 58 7)) (defBody (cst 58 7)) (defScope (cst 58 7)) [] [] (He.fAd K d_Cyclo_key.at_) fd := D.q.says.def_ 44 (d := d_Cyclo_key) rfl
  exact met_of (ok_Cyclo_key F D.gs ) (D.clsk 2 (by decide)) (D.meth 111) (F.bindsN fun _ _ _ _ _ _ us hl => match us, hl with | [_], _ => rfl)
theorem o_Cyclo___eq__ (D : Hd h K mg base) : Dnd P w K mg base (clK K) 2 2 "__eq__" 2 m_Cyclo___eq__ := by
  obtain ⟨fd, F⟩ : ∃ fd, FunD K "__eq__" "Cyclo.__eq__" (defArgs (cst 58 1)) (defBody (cst 58 1)) (defScope (cst 58 1)) [] [] (He.fAd K d_Cyclo___eq__.at_) fd := D.q.says.def_ 45 (d := d_Cyclo___eq__) rfl
  exact dnd_of (ok_Cyclo___eq__ F D.gs (t_Cyclo_key D)) D.q.s2 (D.meth 112) (F.bindsN fun _ _ _ _ _ _ us hl => match us, hl with | [_, _], _ => rfl)
theorem o_Cyclo___add__ (D : Hd h K mg base) : Dnd P w K mg base (clK K) 8 2 "__add__" 2 m_Cyclo___add__ := by
  obtain ⟨fd, F⟩ : ∃ fd, FunD K "__add__" "Cyclo.__add__" (defArgs (cst 58 3)) (defBody (cst 58 3)) (defScope (cst 58 3)) [] [] (He.fAd K d_Cyclo___add__.at_) fd := D.q.says.def_ 46 (d := d_Cyclo___add__) rfl
  exact dnd_of (ok_Cyclo___add__ F D.gs (c_multiple D) (k_Cyclo___init__ D)) D.q.s2 (D.meth 113) (F.bindsN fun _ _ _ _ _ _ us hl => match us, hl with | [_, _], _ => rfl)
theorem t_Cyclo_scaled (D : Hd h K mg base) : Met P w K mg base (clK K) 8 2 "scaled" 2 m_Cyclo_scaled := by
  obtain ⟨fd, F⟩ : ∃ fd, FunD K "scaled" "Cyclo.scaled" (defArgs (cst 58 9)) (defBody (cst 58 9)) (defScope (cst 58 9)) [] [] (He.fAd K d_Cyclo_scaled.at_) fd := D.q.says.def_ 47 (d := d_Cyclo_scaled) rfl
  exact met_of (ok_Cyclo_scaled F D.gs (k_Cyclo___init__ D)) (D.clsk 2 (by decide)) (D.meth 114) (F.bindsN fun _ _ _ _ _ _ us hl => match us, hl with | [_, _], _ => rfl)
theorem c_root (D : Hd h K mg base) : Cal P w K mg base (clK K) 8 "root" 2 [] m_root := by
  obtain ⟨fd, F⟩ : ∃ fd, FunD K "root" "root" (defArgs (top 59)) (defBody (top 59)) (defScope (top 59)) [.int 1] [] (He.fAd K d_root.at_) fd := D.q.says.def_ 48 (d := d_root) rfl
  obtain ⟨ds, rv, b⟩ := F.binds1 (ps := ["e", "k"]) 2 1 (by decide) (by decide) fun _ _ _ _ _ _ _ us its hl hi => match us, its, hl, hi with | [_, _], [_], _, _ => ⟨_, rfl, rfl⟩
  cases rv
  exact cal_of (ok_root F D.gs (c_is_integer D) (kd_Cyclo___init__ D)) (D.glo 33) F.kp b
theorem c_of_integer (D : Hd h K mg base) : Cal P w K mg base (clK K) 8 "of_integer" 1 [] m_of_integer := by
  obtain ⟨fd, F⟩ : ∃ fd, FunD K "of_integer" "of_integer" (defArgs (top 60)) (defBody (top 60)) (defScope (top 60)) [] [] (He.fAd K d_of_integer.at_) fd := D.q.says.def_ 49 (d := d_of_integer) rfl
  exact cal_of (ok_of_integer F D.gs (kd_Cyclo___init__ D)) (D.glo 34) F.kp (F.bindsN fun _ _ _ _ _ _ us hl => match us, hl with | [_], _ => rfl)
theorem c_added (D : Hd h K mg base) : Cal P w K mg base (clK K) 9 "added" 1 [] m_added := by
  obtain ⟨fd, F⟩ : ∃ fd, FunD K "added" "added" (defArgs (top 61)) (defBody (top 61)) (defScope (top 61)) [] [] (He.fAd K d_added.at_) fd := D.q.says.def_ 50 (d := d_added) rfl
  exact cal_of (ok_added F D.gs (c_of_integer D) (o_Cyclo___add__ D)) (D.glo 35) F.kp (F.bindsN fun _ _ _ _ _ _ us hl => match us, hl with | [_], _ => rfl)
theorem c_cleared (D : Hd h K mg base) : Cal P w K mg base (clK K) 1 "cleared" 4 [] m_cleared := by
  obtain ⟨fd, F⟩ : ∃ fd, FunD K "cleared" "cleared" (defArgs (top 64)) (defBody (top 64)) (defScope (top 64)) [] [] (He.fAd K d_cleared.at_) fd := D.q.says.def_ 51 (d := d_cleared) rfl
  exact cal_of (ok_cleared F D.gs ) (D.glo 36) F.kp (F.bindsN fun _ _ _ _ _ _ us hl => match us, hl with | [_, _, _, _], _ => rfl)
theorem c_reduced (D : Hd h K mg base) : Cal P w K mg base (clK K) 2 "reduced" 3 [] m_reduced := by
  obtain ⟨fd, F⟩ : ∃ fd, FunD K "reduced" "reduced" (defArgs (top 63)) (defBody (top 63)) (defScope (top 63)) [] [] (He.fAd K d_reduced.at_) fd := D.q.says.def_ 52 (d := d_reduced) rfl
  exact cal_of (ok_reduced F D.gs (c_inverse_modulo D) (c_cleared D)) (D.glo 37) F.kp (F.bindsN fun _ _ _ _ _ _ us hl => match us, hl with | [_, _, _], _ => rfl)
theorem c_kernel_modular (D : Hd h K mg base) : Cal P w K mg base (clK K) 3 "kernel_modular" 3 [] m_kernel_modular := by
  obtain ⟨fd, F⟩ : ∃ fd, FunD K "kernel" "kernel" (defArgs (top 65)) (defBody (top 65)) (defScope (top 65)) [] [] (He.fAd K d_kernel_modular.at_) fd := D.q.says.def_ 53 (d := d_kernel_modular) rfl
  exact cal_of (ok_kernel_modular F D.gs (c_reduced D)) (D.glo 38) F.kp (F.bindsN fun _ _ _ _ _ _ us hl => match us, hl with | [_, _, _], _ => rfl)
theorem c_times (D : Hd h K mg base) : Cal P w K mg base (clK K) 1 "times" 3 [] m_times := by
  obtain ⟨fd, F⟩ : ∃ fd, FunD K "times" "times" (defArgs (top 67)) (defBody (top 67)) (defScope (top 67)) [] [] (He.fAd K d_times.at_) fd := D.q.says.def_ 54 (d := d_times) rfl
  exact cal_of (ok_times F D.gs ) (D.glo 39) F.kp (F.bindsN fun _ _ _ _ _ _ us hl => match us, hl with | [_, _, _], _ => rfl)
theorem c_before (D : Hd h K mg base) : Cal P w K mg base (clK K) 1 "before" 4 [] m_before := by
  obtain ⟨fd, F⟩ : ∃ fd, FunD K "before" "before" (defArgs (top 68)) (defBody (top 68)) (defScope (top 68)) [] [] (He.fAd K d_before.at_) fd := D.q.says.def_ 55 (d := d_before) rfl
  exact cal_of (ok_before F D.gs ) (D.glo 40) F.kp (F.bindsN fun _ _ _ _ _ _ us hl => match us, hl with | [_, _, _, _], _ => rfl)
theorem c_prime_of (D : Hd h K mg base) : Cal P w K mg base (clK K) 4 "prime_of" 2 [] m_prime_of := by
  obtain ⟨fd, F⟩ : ∃ fd, FunD K "prime_of" "prime_of" (defArgs (top 70)) (defBody (top 70)) (defScope (top 70)) [] [] (He.fAd K d_prime_of.at_) fd := D.q.says.def_ 56 (d := d_prime_of) rfl
  exact cal_of (ok_prime_of F D.gs (c_root_floor D) (c_prime_above D)) (D.glo 41) F.kp (F.bindsN fun _ _ _ _ _ _ us hl => match us, hl with | [_, _], _ => rfl)
theorem c_root_of (D : Hd h K mg base) : Cal P w K mg base (clK K) 3 "root_of" 2 [] m_root_of := by
  obtain ⟨fd, F⟩ : ∃ fd, FunD K "root_of" "root_of" (defArgs (top 71)) (defBody (top 71)) (defScope (top 71)) [] [] (He.fAd K d_root_of.at_) fd := D.q.says.def_ 57 (d := d_root_of) rfl
  exact cal_of (ok_root_of F D.gs (c_power_modulo D) (c_divisors D)) (D.glo 42) F.kp (F.bindsN fun _ _ _ _ _ _ us hl => match us, hl with | [_, _], _ => rfl)
theorem c_modulo (D : Hd h K mg base) : Cal P w K mg base (clK K) 1 "modulo" 2 [] m_modulo := by
  obtain ⟨fd, F⟩ : ∃ fd, FunD K "modulo" "modulo" (defArgs (top 72)) (defBody (top 72)) (defScope (top 72)) [] [] (He.fAd K d_modulo.at_) fd := D.q.says.def_ 58 (d := d_modulo) rfl
  exact cal_of (ok_modulo F D.gs ) (D.glo 43) F.kp (F.bindsN fun _ _ _ _ _ _ us hl => match us, hl with | [_, _], _ => rfl)
theorem c_parts (D : Hd h K mg base) : Cal P w K mg base (clK K) 4 "parts" 3 [] m_parts := by
  obtain ⟨fd, F⟩ : ∃ fd, FunD K "parts" "parts" (defArgs (top 73)) (defBody (top 73)) (defScope (top 73)) [] [] (He.fAd K d_parts.at_) fd := D.q.says.def_ 59 (d := d_parts) rfl
  exact cal_of (ok_parts F D.gs (c_times D) (c_kernel_modular D) (c_before D)) (D.glo 44) F.kp (F.bindsN fun _ _ _ _ _ _ us hl => match us, hl with | [_, _, _], _ => rfl)
theorem c_normalised (D : Hd h K mg base) : Cal P w K mg base (clK K) 2 "normalised" 2 [] m_normalised := by
  obtain ⟨fd, F⟩ : ∃ fd, FunD K "normalised" "normalised" (defArgs (top 74)) (defBody (top 74)) (defScope (top 74)) [] [] (He.fAd K d_normalised.at_) fd := D.q.says.def_ 60 (d := d_normalised) rfl
  exact cal_of (ok_normalised F D.gs (c_inverse_modulo D)) (D.glo 45) F.kp (F.bindsN fun _ _ _ _ _ _ us hl => match us, hl with | [_, _], _ => rfl)
theorem c_split (D : Hd h K mg base) : Cal P w K mg base (clK K) 5 "split" 2 [] m_split := by
  obtain ⟨fd, F⟩ : ∃ fd, FunD K "split" "split" (defArgs (top 75)) (defBody (top 75)) (defScope (top 75)) [] [] (He.fAd K d_split.at_) fd := D.q.says.def_ 61 (d := d_split) rfl
  exact cal_of (ok_split F D.gs (c_modulo D) (c_parts D) (c_normalised D)) (D.glo 46) F.kp (F.bindsN fun _ _ _ _ _ _ us hl => match us, hl with | [_, _], _ => rfl)
theorem c_modular_rows (D : Hd h K mg base) : Cal P w K mg base (clK K) 6 "modular_rows" 1 [] m_modular_rows := by
  obtain ⟨fd, F⟩ : ∃ fd, FunD K "modular_rows" "modular_rows" (defArgs (top 76)) (defBody (top 76)) (defScope (top 76)) [] [] (He.fAd K d_modular_rows.at_) fd := D.q.says.def_ 62 (d := d_modular_rows) rfl
  exact cal_of (ok_modular_rows F D.gs (t_Group_exponent D) (o_Group___len__ D) (c_prime_of D) (c_class_matrices D) (c_split D)) (D.glo 47) F.kp (F.bindsN fun _ _ _ _ _ _ us hl => match us, hl with | [_], _ => rfl)
theorem c_inverse_sum (D : Hd h K mg base) : Cal P w K mg base (clK K) 6 "inverse_sum" 4 [] m_inverse_sum := by
  obtain ⟨fd, F⟩ : ∃ fd, FunD K "inverse_sum" "inverse_sum" (defArgs (top 77)) (defBody (top 77)) (defScope (top 77)) [] [] (He.fAd K d_inverse_sum.at_) fd := D.q.says.def_ 63 (d := d_inverse_sum) rfl
  exact cal_of (ok_inverse_sum F D.gs (c_inverse_classes D) (c_inverse_modulo D)) (D.glo 48) F.kp (F.bindsN fun _ _ _ _ _ _ us hl => match us, hl with | [_, _, _, _], _ => rfl)
theorem c_degree_of (D : Hd h K mg base) : Cal P w K mg base (clK K) 7 "degree_of" 3 [] m_degree_of := by
  obtain ⟨fd, F⟩ : ∃ fd, FunD K "degree_of" "degree_of" (defArgs (top 79)) (defBody (top 79)) (defScope (top 79)) [] [] (He.fAd K d_degree_of.at_) fd := D.q.says.def_ 64 (d := d_degree_of) rfl
  exact cal_of (ok_degree_of F D.gs (c_class_sizes D) (c_inverse_sum D) (o_Group___len__ D)) (D.glo 49) F.kp (F.bindsN fun _ _ _ _ _ _ us hl => match us, hl with | [_, _, _], _ => rfl)
theorem c_modular_character (D : Hd h K mg base) : Cal P w K mg base (clK K) 8 "modular_character" 3 [] m_modular_character := by
  obtain ⟨fd, F⟩ : ∃ fd, FunD K "modular_character" "modular_character" (defArgs (top 80)) (defBody (top 80)) (defScope (top 80)) [] [] (He.fAd K d_modular_character.at_) fd := D.q.says.def_ 65 (d := d_modular_character) rfl
  exact cal_of (ok_modular_character F D.gs (c_degree_of D) (c_class_sizes D) (c_inverse_modulo D)) (D.glo 50) F.kp (F.bindsN fun _ _ _ _ _ _ us hl => match us, hl with | [_, _, _], _ => rfl)
theorem c_multiplicities (D : Hd h K mg base) : Cal P w K mg base (clK K) 6 "multiplicities" 4 [] m_multiplicities := by
  obtain ⟨fd, F⟩ : ∃ fd, FunD K "multiplicities" "multiplicities" (defArgs (top 81)) (defBody (top 81)) (defScope (top 81)) [] [] (He.fAd K d_multiplicities.at_) fd := D.q.says.def_ 66 (d := d_multiplicities) rfl
  exact cal_of (ok_multiplicities F D.gs (t_Group_order_of D) (c_classes D) (t_Group_exponent D) (c_root_of D) (c_power_modulo D) (c_class_of_power D) (c_inverse_modulo D)) (D.glo 51) F.kp (F.bindsN fun _ _ _ _ _ _ us hl => match us, hl with | [_, _, _, _], _ => rfl)
theorem c_lifted (D : Hd h K mg base) : Cal P w K mg base (clK K) 10 "lifted" 3 [] m_lifted := by
  obtain ⟨fd, F⟩ : ∃ fd, FunD K "lifted" "lifted" (defArgs (top 82)) (defBody (top 82)) (defScope (top 82)) [] [] (He.fAd K d_lifted.at_) fd := D.q.says.def_ 67 (d := d_lifted) rfl
  exact cal_of (ok_lifted F D.gs (c_multiplicities D) (c_root D) (t_Cyclo_scaled D) (c_added D)) (D.glo 52) F.kp (F.bindsN fun _ _ _ _ _ _ us hl => match us, hl with | [_, _, _], _ => rfl)
theorem c_characters (D : Hd h K mg base) : Cal P w K mg base (clK K) 11 "characters" 1 [] m_characters := by
  obtain ⟨fd, F⟩ : ∃ fd, FunD K "characters" "characters" (defArgs (top 83)) (defBody (top 83)) (defScope (top 83)) [] [] (He.fAd K d_characters.at_) fd := D.q.says.def_ 68 (d := d_characters) rfl
  exact cal_of (ok_characters F D.gs (c_modular_rows D) (c_modular_character D) (c_lifted D) (c_degree_of D)) (D.glo 53) F.kp (F.bindsN fun _ _ _ _ _ _ us hl => match us, hl with | [_], _ => rfl)
theorem k_CharacterTable___init__ (D : Hd h K mg base) : Mak P w K mg base (clK K) 1 3 "CharacterTable" 3 [] m_CharacterTable___init__ := by
  obtain ⟨fd, F⟩ : ∃ fd, FunD K "__init__" "CharacterTable.__init__" (defArgs (cst 85 0)) (defBody (cst 85 0)) (defScope (cst 85 0)) [] [] (He.fAd K d_CharacterTable___init__.at_) fd := D.q.says.def_ 69 (d := d_CharacterTable___init__) rfl
  exact mak_of (ok_CharacterTable___init__ F D.gs ) (D.mkr 100) (D.glo 69) (F.bindsN fun _ _ _ _ _ _ us hl => match us, hl with | [_, _, _], _ => rfl)
theorem o_CharacterTable___len__ (D : Hd h K mg base) : Dnd P w K mg base (clK K) 1 3 "__len__" 1 m_CharacterTable___len__ := by
  obtain ⟨fd, F⟩ : ∃ fd, FunD K "__len__" "CharacterTable.__len__" (defArgs (cst 85 1)) (defBody (cst 85 1)) (defScope (cst 85 1)) [] [] (He.fAd K d_CharacterTable___len__.at_) fd := D.q.says.def_ 70 (d := d_CharacterTable___len__) rfl
  exact dnd_of (ok_CharacterTable___len__ F D.gs ) D.q.s3 (D.meth 115) (F.bindsN fun _ _ _ _ _ _ us hl => match us, hl with | [_], _ => rfl)
theorem c_row_key (D : Hd h K mg base) : Cal P w K mg base (clK K) 2 "row_key" 1 [] m_row_key := by
  obtain ⟨fd, F⟩ : ∃ fd, FunD K "row_key" "row_key" (defArgs (top 86)) (defBody (top 86)) (defScope (top 86)) [] [] (He.fAd K d_row_key.at_) fd := D.q.says.def_ 71 (d := d_row_key) rfl
  exact cal_of (ok_row_key F D.gs (t_Cyclo_key D)) (D.glo 54) F.kp (F.bindsN fun _ _ _ _ _ _ us hl => match us, hl with | [_], _ => rfl)
theorem c_kernel_normal (D : Hd h K mg base) : Cal P w K mg base (clK K) 3 "kernel_normal" 2 [] m_kernel_normal := by
  obtain ⟨fd, F⟩ : ∃ fd, FunD K "kernel" "kernel" (defArgs (top 33)) (defBody (top 33)) (defScope (top 33)) [] [] (He.fAd K d_kernel_normal.at_) fd := D.q.says.def_ 72 (d := d_kernel_normal) rfl
  exact cal_of (ok_kernel_normal F D.gs (o_Cyclo___eq__ D)) (D.glo 55) F.kp (F.bindsN fun _ _ _ _ _ _ us hl => match us, hl with | [_, _], _ => rfl)
theorem c_shared (D : Hd h K mg base) : Cal P w K mg base (clK K) 1 "shared" 2 [] m_shared := by
  obtain ⟨fd, F⟩ : ∃ fd, FunD K "shared" "shared" (defArgs (top 35)) (defBody (top 35)) (defScope (top 35)) [] [] (He.fAd K d_shared.at_) fd := D.q.says.def_ 73 (d := d_shared) rfl
  exact cal_of (ok_shared F D.gs ) (D.glo 56) F.kp (F.bindsN fun _ _ _ _ _ _ us hl => match us, hl with | [_, _], _ => rfl)
theorem c__law_closed (D : Hd h K mg base) : Cal P w K mg base (clK K) 1 "_law_closed" 3 [] m__law_closed := by
  obtain ⟨fd, F⟩ : ∃ fd, FunD K "_law_closed" "_law_closed" (defArgs (top 93)) (defBody (top 93)) (defScope (top 93)) [] [] (He.fAd K d__law_closed.at_) fd := D.q.says.def_ 74 (d := d__law_closed) rfl
  exact cal_of (ok__law_closed F D.gs ) (D.glo 57) F.kp (F.bindsN fun _ _ _ _ _ _ us hl => match us, hl with | [_, _, _], _ => rfl)
theorem c__law_sets (D : Hd h K mg base) : Cal P w K mg base (clK K) 1 "_law_sets" 1 [] m__law_sets := by
  obtain ⟨fd, F⟩ : ∃ fd, FunD K "_law_sets" "_law_sets" (defArgs (top 94)) (defBody (top 94)) (defScope (top 94)) [] [] (He.fAd K d__law_sets.at_) fd := D.q.says.def_ 75 (d := d__law_sets) rfl
  exact cal_of (ok__law_sets F D.gs ) (D.glo 58) F.kp (F.bindsN fun _ _ _ _ _ _ us hl => match us, hl with | [_], _ => rfl)
theorem n_normal_subgroups (D : Hd h K mg base) : CalN P w K mg base (clK K) (TL (tabAd K "normal_subgroups") (tabAd K "character_table")) 12 "normal_subgroups" m_normal_subgroups := by
  obtain ⟨fd, F⟩ : ∃ fd, FunD K "normal_subgroups" "normal_subgroups" (defArgs (top 36)) (defBody (top 36)) (defScope (top 36)) [] [] (He.fAd K d_normal_subgroups.at_) fd := D.q.says.def_ 76 (d := d_normal_subgroups) rfl
  exact caln_of ((ok_normal_subgroups F (code_of F D.q.t1 rfl) D.t1 D.q.ne D.gs (c_class_sizes D) (o_CharacterTable___len__ D) (c_kernel_normal D) (c_shared D)).mono (by decide)) (D.glo 59) F.kp (F.bindsN fun _ _ _ _ _ _ us hl => match us, hl with | [_], _ => rfl)
theorem n_character_table (D : Hd h K mg base) : CalN P w K mg base (clK K) (TL (tabAd K "normal_subgroups") (tabAd K "character_table")) 12 "character_table" m_character_table := by
  obtain ⟨fd, F⟩ : ∃ fd, FunD K "character_table" "character_table" (defArgs (top 87)) (defBody (top 87)) (defScope (top 87)) [] [] (He.fAd K d_character_table.at_) fd := D.q.says.def_ 77 (d := d_character_table) rfl
  exact caln_of ((ok_character_table F (code_of F D.q.t2 rfl) D.t2 D.q.ne D.gs (k_CharacterTable___init__ D) (c_row_key D) (o_Cyclo___eq__ D) (c_of_integer D) (c_characters D)).mono (by decide)) (D.glo 60) F.kp (F.bindsN fun _ _ _ _ _ _ us hl => match us, hl with | [_], _ => rfl)
theorem s_law_numbers (D : Hd h K mg base) : CalS P w K mg base 1 "_law_numbers" (spNumbers K) := by
  obtain ⟨fd, F⟩ : ∃ fd, FunD K "_law_numbers" "_law_numbers" (defArgs (top 89)) (defBody (top 89)) (defScope (top 89)) [] [] (He.fAd K d__law_numbers.at_) fd := D.q.says.def_ 78 (d := d__law_numbers) rfl
  exact cals_of (ok_law_numbers (D.free 84) F D.gs) (D.glo 61) F.kp (F.bindsN fun _ _ _ _ _ _ us hl => match us, hl with | [_], _ => rfl)
theorem s_law_next (D : Hd h K mg base) : CalS P w K mg base 1 "_law_next" spNext := by
  obtain ⟨fd, F⟩ : ∃ fd, FunD K "_law_next" "_law_next" (defArgs (top 90)) (defBody (top 90)) (defScope (top 90)) [] [] (He.fAd K d__law_next.at_) fd := D.q.says.def_ 79 (d := d__law_next) rfl
  exact cals_of (ok_law_next F D.gs) (D.glo 62) F.kp (F.bindsN fun _ _ _ _ _ _ us hl => match us, hl with | [_, _], _ => rfl)
theorem s_law_images (D : Hd h K mg base) : CalS P w K mg base 2 "_law_images" spImages := by
  obtain ⟨fd, F⟩ : ∃ fd, FunD K "_law_images" "_law_images" (defArgs (top 91)) (defBody (top 91)) (defScope (top 91)) [] [] (He.fAd K d__law_images.at_) fd := D.q.says.def_ 80 (d := d__law_images) rfl
  exact cals_of (ok_law_images F D.gs (s_law_next D)) (D.glo 63) F.kp (F.bindsN fun _ _ _ _ _ _ us hl => match us, hl with | [_, _], _ => rfl)
theorem s_law_group (D : Hd h K mg base) : CalS P w K mg base 7 "_law_group" (spGroup (clK K)) := by
  obtain ⟨fd, F⟩ : ∃ fd, FunD K "_law_group" "_law_group" (defArgs (top 92)) (defBody (top 92)) (defScope (top 92)) [] [] (He.fAd K d__law_group.at_) fd := D.q.says.def_ 81 (d := d__law_group) rfl
  exact cals_of (ok_law_group F D.gs evG (s_law_next D) (s_law_images D) (c_cyclic D) (c_direct D) (c_from_permutations D) (k_Permutation___init__ D)) (D.glo 64) F.kp (F.bindsN fun _ _ _ _ _ _ us hl => match us, hl with | [_], _ => rfl)
theorem law_ok (D : Hd h K mg base) {fd : FuncData} (F : FunD K "law" "law" (defArgs (top 95)) (defBody (top 95)) (defScope (top 95)) [] [] (He.ga K "law") fd) :
    FnOk P w K mg base CX0 13 (He.ga K "law") fd ["_law_script"] (spLaw K (TL (tabAd K "normal_subgroups") (tabAd K "character_table"))) :=
  ok_law (cl := clK K) F ev_law (s_law_numbers D) (s_law_group D) fun cdv A outer s H E hr => tl_law D.gs (c__law_sets D) (o_Group___len__ D) (c__law_closed D) (c_classes D) (n_character_table D) (n_normal_subgroups D) cdv A outer s H E hr
end
theorem law_at (l : PySem.W.OpenLaw) (w : World) (mg : Str → Option Value) (fa : Addr) (h : Heap) (K : PySem.W.Frag) (q : Sx faL fnL h K) (G : h.Ns mainGlobals mg) (hfa : mg ("law" : Str) = some (.ref fa)) : LawAtS l w K CX0 13 63 "_law_script" mg fa h := by
  have e := hfa.symm.trans (He.glo_ok q.X G (q.says.fact 65 (f := .glo "law") rfl))
  cases e
  obtain ⟨fd, F⟩ : ∃ fd, FunD K "law" "law" (defArgs (top 95)) (defBody (top 95)) (defScope (top 95)) [] [] (He.ga K "law") fd := q.says.def_ 82 (d := d_law) rfl
  have b := FunD.bindsA (ps := ["_law_script"]) F fun _ _ _ _ _ _ us hl => match us, hl with | [_], _ => rfl
  refine ⟨fd, [(codeAd K "normal_subgroups", tabAd K "normal_subgroups"), (codeAd K "character_table", tabAd K "character_table")], spLaw K (TL (tabAd K "normal_subgroups") (tabAd K "character_table")), fun p hp => ?_, fun p hp => ?_, fun p hp => ?_, fun s u => b s [u] rfl, fun H a ns hl _ hT hS => ?_, fun base X G2 TB => ?_⟩
  · rcases List.mem_cons.mp hp with rfl | hp
    · exact q.t1.tab
    · rw [List.mem_singleton.mp hp]
      exact q.t2.tab
  · rcases List.mem_cons.mp hp with rfl | hp
    · exact q.t1.no
    · rw [List.mem_singleton.mp hp]
      exact q.t2.no
  · rcases List.mem_cons.mp hp with rfl | hp
    · exact q.t1.hd
    · rw [List.mem_singleton.mp hp]
      exact q.t2.hd
  · refine ⟨a, ns, rfl, hS, Nat.lt_of_le_of_lt hl (by decide), fun p hp => ?_, fun _ => rfl⟩
    rcases List.mem_cons.mp hp with rfl | hp
    · exact TabS.nil (hT _ (List.mem_cons_self ..))
    · rw [List.mem_singleton.mp hp]
      exact TabS.nil (hT _ (List.mem_cons_of_mem _ (List.mem_cons_self ..)))
  · exact law_ok ⟨q, G, TB _ (List.mem_cons_self ..), TB _ (List.mem_cons_of_mem _ (List.mem_cons_self ..))⟩ F
end Ct
end
end
set_option Elab.async false
set_option linter.all false
set_option maxRecDepth 100000
set_option maxHeartbeats 0
open PySem PySem.W PySem.Calls PyProof.Rows
theorem PySem.Challenge.cw_classtable_k38_whole_normal_subgroups_holds : PySem.Challenge.rw_classtable_k38_whole_normal_subgroups.Holds := by
  w_on; o_law
  refine HandSHeadRun.head_imp (r := OpenLaw.row PySem.Challenge.rw_classtable_k38_whole_normal_subgroups) (q := view (OpenLaw.row PySem.Challenge.rw_classtable_k38_whole_normal_subgroups).prog [0, 95]) (H := Ch.hkL) (ob := Ch.obL) (M := 12000) (loose := Ch.names) (d := HandSHeadRun.topDef (OpenLaw.row PySem.Challenge.rw_classtable_k38_whole_normal_subgroups).prog 95) (kwd := []) Ch.obL_eq
    Ch.runL (by kernel_rfl) (by kernel_rfl) (by kernel_rfl) (by rfl) (by first | assumption | decide +kernel) (by decide +kernel) ⟨rfl, rfl, rfl, rfl, rfl, by decide +kernel⟩ ?hw ?hc
  case hw => w_witness2
  case hc =>
    refine LamX.walk_ofTsE (l := PySem.Challenge.rw_classtable_k38_whole_normal_subgroups) (n := 63) (k := 13) (x := "_law_script") (CX := fun _ => L2.CX0) rfl (by decide) (by kernel_rfl) ⟨rfl, by decide, by decide⟩ ?F (fun _ _ _ _ _ z => z)
    intro w mg fa h Y G hmg0
    obtain ⟨K, q⟩ := Y
    have hmg : mg ("law" : PySem.Str) = some (.ref fa) := by
      have e : (HandSHeadRun.topDef (OpenLaw.row PySem.Challenge.rw_classtable_k38_whole_normal_subgroups).prog 95).name = ("law" : PySem.Str) := by kernel_rfl
      rw [← e]
      exact hmg0
    exact ⟨K, q.X, Ct.law_at _ w mg fa h K q G hmg⟩
