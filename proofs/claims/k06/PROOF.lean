import PyProof.Rows.All
import Wide.All
import OpenK.AllK
import Wide.FinOn
import HandS.Head0
import HandS.Head1
import HandS.Head2
import HandS.HeadEnd
import HandS.HeadHook1
import HandS.HeadHook2
import HandS.Property
import HandS.Defaults
import HandS.Words
import HandS.ExcField
import HandS.Exc
import HandS.ForMost
import HandS.ForExc
import HandS.Wide
import HandS.IsInst
import HandS.Zip
import HandS.Rev
import HandS.Conv
import HandS.More
import HandS.TryOnly
import HandS.ExcIs
import KE.KExcIs
import HandS.Deep
import HandS.TupLe
import KE.SortData
import HandS.ExcInit
import KE.DatumOrd
import PySem.Challenge.RW_nearestword_k06_polynomial_arithmetic
set_option Elab.async false
set_option linter.all false
set_option maxRecDepth 100000
set_option maxHeartbeats 9100000
/-! What the head's run looks at. -/
namespace Dl
open PySem PySem.Spec PyProof.Rows L2
def tupAt (K : PySem.W.Frag) (a : Addr) (ns : List Int) : Bool := match K.lookup a with
  | some ⟨.type c, _, .seq its _, _⟩ => decide (c = "tuple") && (decide (its.size ≤ sizeLine) && He.relAll (ns.map V.int) its.toList)
  | _ => false
def excCB (K : PySem.W.Frag) (D : Addr) : Bool := decide (PySem.W.findIn K (.ref D) "__getattribute__" = some (some (.builtin "BaseException.__getattribute__")) ∧ PySem.W.findIn K (.ref D) "__getattr__" = some none ∧ PySem.W.subIn K (.ref D) (.type "BaseException") = some true ∧ PySem.W.hasDictIn K D = true ∧
  PySem.W.findIn K (.ref D) "__class__" = some (some (.builtin "object.__class__")) ∧ PySem.W.specialIn K (.builtin "object.__class__") "__get__" = some (some (.builtin "getset_descriptor.__get__")) ∧ PySem.W.takesIn K (.builtin "object.__class__") = some true ∧ PySem.W.mroIn K D (.type "object") = some true)
def exmAll (K : PySem.W.Frag) (y : Value) (l : List (Str × Bool)) : Bool := l.all fun p => (He.Fa.glo p.1).ok K && decide (PySem.W.exmOne K (.ref (He.ga K p.1)) y = some p.2)
def kitAll (K : PySem.W.Frag) (y : Value) (l : List (Str × Bool)) : Bool := l.all fun p => (He.Fa.glo p.1).ok K && (excCB K (He.ga K p.1) && decide (PySem.W.kitOne K (.ref (He.ga K p.1)) y = some p.2))
/-! ## getters in the head -/
/-- the getter of the property m of the class x -/
def prA (K : PySem.W.Frag) (x m : Str) : Addr := match PySem.W.findIn K (.ref (He.ga K x)) m with
  | some (some (.ref q)) => (match PySem.W.recIn K q "property" with
    | some (.ref g :: _) => g
    | _ => 0)
  | _ => 0
def prQ (K : PySem.W.Frag) (x m : Str) : Addr := match PySem.W.findIn K (.ref (He.ga K x)) m with
  | some (some (.ref q)) => q
  | _ => 0
def prB (K : PySem.W.Frag) (x m : Str) : Bool := He.eqO (PySem.W.findIn K (.ref (He.ga K x)) m) (some (some (.ref (prQ K x m)))) && (He.eqO (PySem.W.specialIn K (.ref (prQ K x m)) "__get__") (some (some (.builtin "property.__get__"))) && (decide (PySem.W.takesIn K (.ref (prQ K x m)) = some true) &&
  (match PySem.W.recIn K (prQ K x m) "property" with
    | some (.ref g :: _) => decide (g = prA K x m)
    | _ => false)))
theorem prB_ok {K : PySem.W.Frag} {x m : Str} (h : prB K x m = true) : PropOf K (He.ga K x) m (prQ K x m) (prA K x m) := by
  obtain ⟨h1, h⟩ := He.ba h
  obtain ⟨h2, h⟩ := He.ba h
  obtain ⟨h3, h⟩ := He.ba h
  refine ⟨He.eqO_ok h1, He.eqO_ok h2, of_decide_eq_true h3, ?_⟩
  split at h
  · rename_i g r e
    have : g = prA K x m := of_decide_eq_true h
    subst this
    exact ⟨r, e⟩
  · cases h
def fnA (K : PySem.W.Frag) (a : Addr) : He.FnW := match K.lookup a with
  | some ⟨_, _, .func fd, _⟩ => some (fd.name, fd.qualname, fd.params, fd.body, fd.scope, fd.globals, fd.closure, fd.builtins)
  | _ => none
/-- a getter's text: the class, the property -/
structure PrD where
  cls : Str
  name : Str
  qual : Str
  params : Arguments
  body : List Stmt
  scope : Scope
def PrD.val (d : PrD) : He.FnW := some (d.name, d.qual, d.params, .stmts d.body, d.scope, mainGlobals, [], builtinsNs)
def PrD.ok (K : PySem.W.Frag) (d : PrD) : Bool := prB K d.cls d.name && (PySem.W.keepIn K (.ref (prA K d.cls d.name)) && (match K.lookup (prA K d.cls d.name) with
  | some ⟨_, _, .func fd, _⟩ => PySem.W.codeIn K fd.code d.qual && (He.dflB K fd.defaults [] && He.kwdB K fd.kwdefaults [])
  | _ => false))
theorem PrD.funD {K : PySem.W.Frag} {d : PrD} (e : fnA K (prA K d.cls d.name) = d.val) (c : d.ok K = true) : PropOf K (He.ga K d.cls) d.name (prQ K d.cls d.name) (prA K d.cls d.name) ∧ ∃ fd, FunD K d.name d.qual d.params d.body d.scope [] [] (prA K d.cls d.name) fd := by
  obtain ⟨k0, c⟩ := He.ba c
  refine ⟨prB_ok k0, ?_⟩
  obtain ⟨kp, c2⟩ := He.ba c
  unfold fnA at e
  cases q : K.lookup (prA K d.cls d.name) with
  | none =>
    rw [q] at c2
    cases c2
  | some o =>
    obtain ⟨oc, od, dt, osl⟩ := o
    rw [q] at c2 e
    cases dt with
    | func fd =>
      obtain ⟨n1, n2, n3, n4, n5, n6, n7, n8, n9, n10, n11, n12, n13, n14, n15⟩ := fd
      have e2 : (some (n1, n2, n3, n4, n5, n6, n7, n15) : He.FnW) = some (d.name, d.qual, d.params, .stmts d.body, d.scope, mainGlobals, [], builtinsNs) := e
      simp only [Option.some.injEq, Prod.mk.injEq] at e2
      obtain ⟨h1, h2, h3, h4, h5, h6, h7, h8⟩ := e2
      subst h1 h2 h3 h4 h5 h6 h7 h8
      have c3 : (PySem.W.codeIn K n13 d.qual && (He.dflB K n8 [] && He.kwdB K n9 [])) = true := c2
      obtain ⟨k1, k2⟩ := He.ba c3
      obtain ⟨k3, k4⟩ := He.ba k2
      exact ⟨_, ⟨oc, od, n8, n9, n10, n11, n12, n13, n14, osl, rfl, q, k1, He.dflB_ok k3, He.kwdB_ok k4⟩, kp⟩
    | _ => cases c2
abbrev AlP : Type := He.AlD × List He.FnW × Bool
def obsP (fa : List He.Fa) (fn : List He.DefD) (pr : List PrD) (ex : PySem.W.Frag → Bool) (K : PySem.W.Frag) : AlP := (He.obsD fa fn K, pr.map fun d => fnA K (prA K d.cls d.name), ex K && pr.all fun d => d.ok K)
def obsPG (n : Nat) (fa : List He.Fa) (fn : List He.DefD) (pr : List PrD) (ex : PySem.W.Frag → Bool) (g : Addr → Option Obj) : AlP := obsP fa fn pr ex (He.frG g (He.asD g n))
structure SaysP (fa : List He.Fa) (fn : List He.DefD) (pr : List PrD) (ex : PySem.W.Frag → Bool) (K : PySem.W.Frag) : Prop where
  d : He.SaysD fa fn K
  p : pr.map (fun d => fnA K (prA K d.cls d.name)) = pr.map PrD.val
  e : (ex K && pr.all fun d => d.ok K) = true
theorem SaysP.ex {fa : List He.Fa} {fn : List He.DefD} {pr : List PrD} {ex : PySem.W.Frag → Bool} {K : PySem.W.Frag} (c : SaysP fa fn pr ex K) : ex K = true := (He.ba c.e).1
theorem SaysP.prop {fa : List He.Fa} {fn : List He.DefD} {pr : List PrD} {ex : PySem.W.Frag → Bool} {K : PySem.W.Frag} (c : SaysP fa fn pr ex K) (i : Nat) {d : PrD} (h : pr[i]? = some d := by rfl) :
    PropOf K (He.ga K d.cls) d.name (prQ K d.cls d.name) (prA K d.cls d.name) ∧ ∃ fd, FunD K d.name d.qual d.params d.body d.scope [] [] (prA K d.cls d.name) fd := by
  refine PrD.funD ?_ (List.all_eq_true.mp (He.ba c.e).2 d (List.mem_of_getElem? h))
  have z := congrArg (fun l => l[i]?) c.p
  simp only [List.getElem?_map, h, Option.map_some] at z
  exact Option.some.inj z
def hookP (n : Nat) (fa : List He.Fa) (fn : List He.DefD) (pr : List PrD) (ex : PySem.W.Frag → Bool) : PySem.W.Hook where
  α := AlP
  obs := fun z => obsPG n fa fn pr ex z.heap.get?
  val := fun _ => (He.valD fn, pr.map PrD.val, true)
  says := fun _ h => ∃ K : PySem.W.Frag, K.In h ∧ SaysP fa fn pr ex K
  of := fun _ _ e => ⟨_, He.frG_in, ⟨congrArg (fun z : AlP => z.1) e, congrArg (fun z : AlP => z.2.1) e, congrArg (fun z : AlP => z.2.2) e⟩⟩
  keeps := fun _ _ _ ⟨K, hK, c⟩ k => ⟨K, hK.keeps k, c⟩
theorem obsPG_eq {n : Nat} {fa : List He.Fa} {fn : List He.DefD} {pr : List PrD} {ex : PySem.W.Frag → Bool} {g : Addr → Option Obj} {z : Shared} (h : ∀ a, g a = z.heap.get? a) : obsPG n fa fn pr ex g = (hookP n fa fn pr ex).obs z := by
  have e : g = z.heap.get? := funext h
  rw [e] <;> rfl
/-! ## exceptions with a field -/
def oexB (K : PySem.W.Frag) (C : Addr) : Bool := (match K.lookup C with
  | some ⟨.type t, _, .cls ⟨_, _, .ref C' :: bm, _, _, true, _, _, _, _, false⟩, sl⟩ => decide (t = "type") && (decide (C' = C) && (HandSPX.refsVE bm && (match sl.toList with
    | [_, _, _, _, some (.builtin b), _] => decide (b = "ValueError.__new__")
    | _ => false)))
  | _ => false) && (decide (PySem.W.findIn K (.ref C) "__setattr__" = some (some (.builtin "object.__setattr__"))) && (decide (PySem.W.subIn K (.ref C) (.type "BaseException") = some true) && (decide (PySem.W.typeIn K (.ref C) = some (.type "type")) && PySem.W.keepIn K (.ref C))))
/-- the __init__ of the exception class x, its field f -/
def oexAll (K : PySem.W.Frag) (x f : Str) : Bool := oexB K (He.ga K x) && (decide (PySem.W.findIn K (.ref (He.ga K x)) f = some none) && (decide (PySem.W.findIn K (.ref (He.ga K x)) "__init__" = some (some (.ref (He.fAd K (x, some "__init__"))))) && decide (PySem.W.typeIn K (.ref (He.fAd K (x, some "__init__"))) = some (.type "function"))))
def xfAll (K : PySem.W.Frag) (f : Str) (cs : List Str) : Bool := cs.all fun c => (He.Fa.glo c).ok K && (xfB K (He.ga K c) && decide (PySem.W.findIn K (.ref (He.ga K c)) f = some none))
/-! ## .. over a given list of addresses -/
def obsL (as : List Addr) (fa : List He.Fa) (fn : List He.DefD) (pr : List PrD) (ex : PySem.W.Frag → Bool) (g : Addr → Option Obj) : AlP := obsP fa fn pr ex (He.frG g as)
def hookL (as : List Addr) (fa : List He.Fa) (fn : List He.DefD) (pr : List PrD) (ex : PySem.W.Frag → Bool) : PySem.W.Hook where
  α := AlP
  obs := fun z => obsL as fa fn pr ex z.heap.get?
  val := fun _ => (He.valD fn, pr.map PrD.val, true)
  says := fun _ h => ∃ K : PySem.W.Frag, K.In h ∧ SaysP fa fn pr ex K
  of := fun _ _ e => ⟨_, He.frG_in, ⟨congrArg (fun z : AlP => z.1) e, congrArg (fun z : AlP => z.2.1) e, congrArg (fun z : AlP => z.2.2) e⟩⟩
  keeps := fun _ _ _ ⟨K, hK, c⟩ k => ⟨K, hK.keeps k, c⟩
theorem obsL_eq {as : List Addr} {fa : List He.Fa} {fn : List He.DefD} {pr : List PrD} {ex : PySem.W.Frag → Bool} {g : Addr → Option Obj} {z : Shared} (h : ∀ a, g a = z.heap.get? a) : obsL as fa fn pr ex g = (hookL as fa fn pr ex).obs z := by
  have e : g = z.heap.get? := funext h
  rw [e] <;> rfl
theorem trip {σ α β γ : Type} {o : Option σ} {f : σ → α} {g : σ → β} {k : σ → γ} {a : α} {b : β} {c : γ} (h1 : o.map f = some a) (h2 : o.map g = some b) (h3 : o.map k = some c) : o.map (fun s => (f s, g s, k s)) = some (a, b, c) := by
  cases o with
  | none => cases h1
  | some s =>
    have h1 : some (f s) = some a := h1
    have h2 : some (g s) = some b := h2
    have h3 : some (k s) = some c := h3
    rw [← Option.some.inj h1, ← Option.some.inj h2, ← Option.some.inj h3]
    rfl
end Dl

namespace Nw
open PySem
end Nw

namespace Nw
open PySem PySem.Spec PyProof.Rows L2 Dl
def top (i : Nat) : Stmt := PySem.Challenge.pw_nearestword_k06_polynomial_arithmetic.main.body.getD i (.Pass ⟨0, 0, 0, 0⟩)
abbrev s__law_count : Stmt := top 28
abbrev s__law_digits : Stmt := top 29
abbrev s__law_element : Stmt := top 30
abbrev s__law_times : Stmt := top 33
abbrev s__law_trim : Stmt := top 34
abbrev s__law_derivative : Stmt := top 40
abbrev s__law_is_poly : Stmt := top 38
abbrev s__law_plus : Stmt := top 31
abbrev s__law_value : Stmt := top 37
abbrev s_base_digits : Stmt := top 9
abbrev s_Field_digits : Stmt := inClass (top 13) 1
abbrev s_Field_element : Stmt := inClass (top 13) 2
abbrev s_Field_plus : Stmt := inClass (top 13) 4
abbrev s_coefficient : Stmt := top 17
abbrev s_poly_trim : Stmt := top 16
abbrev s_poly_add : Stmt := top 18
abbrev s_integer_remainder : Stmt := top 10
abbrev s_Field_times : Stmt := inClass (top 13) 7
abbrev s_poly_derivative : Stmt := top 23
abbrev s_poly_evaluate : Stmt := top 22
abbrev s_poly_multiply : Stmt := top 21
abbrev s__law_deep : Stmt := top 42
abbrev s__law_field : Stmt := top 27
abbrev s__law_row : Stmt := top 25
abbrev s__law_numbers : Stmt := top 26
abbrev s__law_minus : Stmt := top 32
abbrev s__law_poly_minus : Stmt := top 35
abbrev s__law_poly_times : Stmt := top 36
abbrev s_poly_scale : Stmt := top 20
abbrev s_Field_negative : Stmt := inClass (top 13) 5
abbrev s_Field_minus : Stmt := inClass (top 13) 6
abbrev s_poly_subtract : Stmt := top 19
abbrev s__law_plain : Stmt := top 41
abbrev s__law_poly : Stmt := top 39
abbrev s_degree_of : Stmt := top 15
abbrev s_int_power : Stmt := top 7
abbrev s_is_irreducible : Stmt := top 11
abbrev s_is_modulus : Stmt := top 12
abbrev s_is_prime : Stmt := top 8
abbrev s_Field_init : Stmt := inClass (top 13) 0
abbrev s_law : Stmt := top 43
open He in
def fa : List He.Fa := [.glo "_law_count", .free "len", .free "range", .glo "_law_digits", .free "int", .glo "_law_element", .glo "_law_times", .glo "_law_trim", .free "list", .glo "_law_derivative", .glo "_law_is_poly", .free "bool", .free "isinstance", .glo "_law_plus", .glo "_law_value", .glo "base_digits", .glo "Field", .meth "Field" "digits", .meth "Field" "element", .free "reversed", .meth "Field" "plus", .glo "coefficient", .glo "poly_trim", .glo "poly_add", .free "max", .glo "integer_remainder", .meth "Field" "times", .glo "poly_derivative", .glo "poly_evaluate", .glo "poly_multiply", .glo "_law_deep", .glo "_law_field", .glo "_law_row", .free "abs", .glo "_law_numbers", .glo "_law_minus", .glo "_law_poly_minus", .glo "_law_poly_times", .glo "poly_scale", .meth "Field" "negative", .meth "Field" "minus", .glo "poly_subtract", .glo "_law_plain", .glo "_law_poly", .glo "degree_of", .glo "int_power", .glo "is_irreducible", .glo "is_modulus", .int "LARGEST_ORDER" 256, .glo "is_prime", .glo "InvalidField", .exc "InvalidField", .int "LARGEST_PRIME" 31, .glo "law", .cls "Field", .noat "Field" "prime", .noat "Field" "modulus", .noat "Field" "degree", .noat "Field" "order", .mkr "Field"]
def d__law_count : He.DefD := ⟨("_law_count", none), "_law_count", "_law_count", defArgs s__law_count, defBody s__law_count, defScope s__law_count, [], []⟩
def d__law_digits : He.DefD := ⟨("_law_digits", none), "_law_digits", "_law_digits", defArgs s__law_digits, defBody s__law_digits, defScope s__law_digits, [], []⟩
def d__law_element : He.DefD := ⟨("_law_element", none), "_law_element", "_law_element", defArgs s__law_element, defBody s__law_element, defScope s__law_element, [], []⟩
def d__law_times : He.DefD := ⟨("_law_times", none), "_law_times", "_law_times", defArgs s__law_times, defBody s__law_times, defScope s__law_times, [], []⟩
def d__law_trim : He.DefD := ⟨("_law_trim", none), "_law_trim", "_law_trim", defArgs s__law_trim, defBody s__law_trim, defScope s__law_trim, [], []⟩
def d__law_derivative : He.DefD := ⟨("_law_derivative", none), "_law_derivative", "_law_derivative", defArgs s__law_derivative, defBody s__law_derivative, defScope s__law_derivative, [], []⟩
def d__law_is_poly : He.DefD := ⟨("_law_is_poly", none), "_law_is_poly", "_law_is_poly", defArgs s__law_is_poly, defBody s__law_is_poly, defScope s__law_is_poly, [], []⟩
def d__law_plus : He.DefD := ⟨("_law_plus", none), "_law_plus", "_law_plus", defArgs s__law_plus, defBody s__law_plus, defScope s__law_plus, [], []⟩
def d__law_value : He.DefD := ⟨("_law_value", none), "_law_value", "_law_value", defArgs s__law_value, defBody s__law_value, defScope s__law_value, [], []⟩
def d_base_digits : He.DefD := ⟨("base_digits", none), "base_digits", "base_digits", defArgs s_base_digits, defBody s_base_digits, defScope s_base_digits, [], []⟩
def d_Field_digits : He.DefD := ⟨("Field", some "digits"), "digits", "Field.digits", defArgs s_Field_digits, defBody s_Field_digits, defScope s_Field_digits, [], []⟩
def d_Field_element : He.DefD := ⟨("Field", some "element"), "element", "Field.element", defArgs s_Field_element, defBody s_Field_element, defScope s_Field_element, [], []⟩
def d_Field_plus : He.DefD := ⟨("Field", some "plus"), "plus", "Field.plus", defArgs s_Field_plus, defBody s_Field_plus, defScope s_Field_plus, [], []⟩
def d_coefficient : He.DefD := ⟨("coefficient", none), "coefficient", "coefficient", defArgs s_coefficient, defBody s_coefficient, defScope s_coefficient, [], []⟩
def d_poly_trim : He.DefD := ⟨("poly_trim", none), "poly_trim", "poly_trim", defArgs s_poly_trim, defBody s_poly_trim, defScope s_poly_trim, [], []⟩
def d_poly_add : He.DefD := ⟨("poly_add", none), "poly_add", "poly_add", defArgs s_poly_add, defBody s_poly_add, defScope s_poly_add, [], []⟩
def d_integer_remainder : He.DefD := ⟨("integer_remainder", none), "integer_remainder", "integer_remainder", defArgs s_integer_remainder, defBody s_integer_remainder, defScope s_integer_remainder, [], []⟩
def d_Field_times : He.DefD := ⟨("Field", some "times"), "times", "Field.times", defArgs s_Field_times, defBody s_Field_times, defScope s_Field_times, [], []⟩
def d_poly_derivative : He.DefD := ⟨("poly_derivative", none), "poly_derivative", "poly_derivative", defArgs s_poly_derivative, defBody s_poly_derivative, defScope s_poly_derivative, [], []⟩
def d_poly_evaluate : He.DefD := ⟨("poly_evaluate", none), "poly_evaluate", "poly_evaluate", defArgs s_poly_evaluate, defBody s_poly_evaluate, defScope s_poly_evaluate, [], []⟩
def d_poly_multiply : He.DefD := ⟨("poly_multiply", none), "poly_multiply", "poly_multiply", defArgs s_poly_multiply, defBody s_poly_multiply, defScope s_poly_multiply, [], []⟩
def d__law_deep : He.DefD := ⟨("_law_deep", none), "_law_deep", "_law_deep", defArgs s__law_deep, defBody s__law_deep, defScope s__law_deep, [], []⟩
def d__law_field : He.DefD := ⟨("_law_field", none), "_law_field", "_law_field", defArgs s__law_field, defBody s__law_field, defScope s__law_field, [], []⟩
def d__law_row : He.DefD := ⟨("_law_row", none), "_law_row", "_law_row", defArgs s__law_row, defBody s__law_row, defScope s__law_row, [], []⟩
def d__law_numbers : He.DefD := ⟨("_law_numbers", none), "_law_numbers", "_law_numbers", defArgs s__law_numbers, defBody s__law_numbers, defScope s__law_numbers, [], []⟩
def d__law_minus : He.DefD := ⟨("_law_minus", none), "_law_minus", "_law_minus", defArgs s__law_minus, defBody s__law_minus, defScope s__law_minus, [], []⟩
def d__law_poly_minus : He.DefD := ⟨("_law_poly_minus", none), "_law_poly_minus", "_law_poly_minus", defArgs s__law_poly_minus, defBody s__law_poly_minus, defScope s__law_poly_minus, [], []⟩
def d__law_poly_times : He.DefD := ⟨("_law_poly_times", none), "_law_poly_times", "_law_poly_times", defArgs s__law_poly_times, defBody s__law_poly_times, defScope s__law_poly_times, [], []⟩
def d_poly_scale : He.DefD := ⟨("poly_scale", none), "poly_scale", "poly_scale", defArgs s_poly_scale, defBody s_poly_scale, defScope s_poly_scale, [], []⟩
def d_Field_negative : He.DefD := ⟨("Field", some "negative"), "negative", "Field.negative", defArgs s_Field_negative, defBody s_Field_negative, defScope s_Field_negative, [], []⟩
def d_Field_minus : He.DefD := ⟨("Field", some "minus"), "minus", "Field.minus", defArgs s_Field_minus, defBody s_Field_minus, defScope s_Field_minus, [], []⟩
def d_poly_subtract : He.DefD := ⟨("poly_subtract", none), "poly_subtract", "poly_subtract", defArgs s_poly_subtract, defBody s_poly_subtract, defScope s_poly_subtract, [], []⟩
def d__law_plain : He.DefD := ⟨("_law_plain", none), "_law_plain", "_law_plain", defArgs s__law_plain, defBody s__law_plain, defScope s__law_plain, [], []⟩
def d__law_poly : He.DefD := ⟨("_law_poly", none), "_law_poly", "_law_poly", defArgs s__law_poly, defBody s__law_poly, defScope s__law_poly, [], []⟩
def d_degree_of : He.DefD := ⟨("degree_of", none), "degree_of", "degree_of", defArgs s_degree_of, defBody s_degree_of, defScope s_degree_of, [], []⟩
def d_int_power : He.DefD := ⟨("int_power", none), "int_power", "int_power", defArgs s_int_power, defBody s_int_power, defScope s_int_power, [], []⟩
def d_is_irreducible : He.DefD := ⟨("is_irreducible", none), "is_irreducible", "is_irreducible", defArgs s_is_irreducible, defBody s_is_irreducible, defScope s_is_irreducible, [], []⟩
def d_is_modulus : He.DefD := ⟨("is_modulus", none), "is_modulus", "is_modulus", defArgs s_is_modulus, defBody s_is_modulus, defScope s_is_modulus, [], []⟩
def d_is_prime : He.DefD := ⟨("is_prime", none), "is_prime", "is_prime", defArgs s_is_prime, defBody s_is_prime, defScope s_is_prime, [], []⟩
def d_Field_init : He.DefD := ⟨("Field", some "__init__"), "__init__", "Field.__init__", defArgs s_Field_init, defBody s_Field_init, defScope s_Field_init, [.adr (He.dflAt ("Field", some "__init__") 0)], []⟩
def d_law : He.DefD := ⟨("law", none), "law", "law", defArgs s_law, defBody s_law, defScope s_law, [], []⟩
def fn : List He.DefD := [d__law_count, d__law_digits, d__law_element, d__law_times, d__law_trim, d__law_derivative, d__law_is_poly, d__law_plus, d__law_value, d_base_digits, d_Field_digits, d_Field_element, d_Field_plus, d_coefficient, d_poly_trim, d_poly_add, d_integer_remainder, d_Field_times, d_poly_derivative, d_poly_evaluate, d_poly_multiply, d__law_deep, d__law_field, d__law_row, d__law_numbers, d__law_minus, d__law_poly_minus, d__law_poly_times, d_poly_scale, d_Field_negative, d_Field_minus, d_poly_subtract, d__law_plain, d__law_poly, d_degree_of, d_int_power, d_is_irreducible, d_is_modulus, d_is_prime, d_Field_init, d_law]
def pr : List PrD := []
def exl (K : PySem.W.Frag) : List Bool := [tupAt K (He.dflAt ("Field", some "__init__") 0 K) [0, 1]]
def ex (K : PySem.W.Frag) : Bool := (exl K).all id
abbrev R : PySem.W.OpenRow := PySem.W.OpenLaw.row PySem.Challenge.rw_nearestword_k06_polynomial_arithmetic
def as : List Addr := [3, 31, 44, 201, 24, 30, 37, 43, 91, 200, 52, 53, 59, 60, 66, 67, 73, 74, 80, 81, 87, 88, 96, 97, 103, 104, 110, 111, 117, 118, 129, 130, 134, 135, 141, 142, 148, 149, 211, 212, 218, 219, 225, 226, 230, 231, 235, 236, 240, 241, 247, 248, 254, 255, 259, 260, 266, 267, 273, 274, 280, 281, 287, 288, 294, 295, 301, 302, 306, 307, 311, 312, 316, 317, 323, 324, 328, 329, 335, 336, 342, 343, 349, 350, 354, 355, 361, 362, 368, 369, 373, 374, 378, 379]
abbrev hk : PySem.W.Hook := hookL as fa fn pr ex
def ob (s : PySem.W.SharedT) : AlP := obsL as fa fn pr ex (HandSHeadRun.getT s)
theorem ob_eq (s : PySem.W.SharedT) : ob s = hk.obs s.abs := obsL_eq (HandSHeadRun.getT_eq s)
def names0 : List Str := ["_wall", "CodeError", "InvalidField", "LARGEST_PRIME", "LARGEST_ORDER", "int_power", "is_prime", "base_digits", "integer_remainder", "is_irreducible", "is_modulus", "Field", "degree_of", "poly_trim", "coefficient", "poly_add", "poly_subtract", "poly_scale", "poly_multiply", "poly_evaluate", "poly_derivative", "_law_row", "_law_numbers", "_law_field", "_law_count", "_law_digits", "_law_element", "_law_plus", "_law_minus", "_law_times"]
def names1 : List Str := ["_law_trim", "_law_poly_minus", "_law_poly_times", "_law_value", "_law_is_poly", "_law_poly", "_law_derivative", "_law_plain", "_law_deep"]
def names : List Str := names0 ++ names1
section
open PySem PySem.W PySem.Calls PyProof.Rows HandSHeadRun
theorem run1 (w : World) : ∀ os : OsState, (endF (stepQ (denQ tabQ) R.prog w) 12000 R.prog w os).map (fun s => looksF R.prog (boot_heap w.params) s.abs) = some true := by
  intro os
  kernel_rfl
theorem run2 (w : World) : ∀ os : OsState, (endF (stepQ (denQ tabQ) R.prog w) 12000 R.prog w os).map (fun s => seenQ (view R.prog [43]) names (importedModules R.prog.main.body) (fun s => xlAt (view R.prog [43]) [] s && recOk R.toRowW.records s) s.abs) = some (openGood (view R.prog [43]) names) := by
  intro os
  kernel_rfl
theorem run3 (w : World) : ∀ os : OsState, (endF (stepQ (denQ tabQ) R.prog w) 12000 R.prog w os).map (fun s => ob s) = some (hk.val w) := by
  intro os
  kernel_rfl
end
theorem run (w : World) : HandSHeadRun.RunEq R (PySem.W.view R.prog [43]) hk ob 12000 names w := fun os => trip (run1 w os) (run2 w os) (run3 w os)
end Nw

namespace Dl
open PySem PySem.Spec PyProof.Rows L2

/-! ## data -/
/-- a class of the program: its name, its fields in the order in which __init__ lays them -/
structure Cl where
  name : Str
  fields : List Str
  deriving DecidableEq
inductive D where
  | non
  | bl (b : Bool)
  | int (i : Int)
  | str (x : Str)
  | lst (xs : List D)
  | tup (xs : List D)
  | obj (c : Cl) (ds : List D)
  | exc (c : Str) (a : Addr)
  /-- an exception with fields, its dict at dd -/
  | xcp (c : Str) (a dd : Addr) (ns : List Str) (ds : List D)
  /-- a list that is not the program's own: the script -/
  | fl (xs : List D)
def D.atom : D → Bool
  | .lst _ => false
  | .tup _ => false
  | .obj _ _ => false
  | .fl _ => false
  | .xcp _ _ _ _ _ => false
  | _ => true
/-- frozen (never changed again), own (a list or an object that one place alone holds), borrowed (the list that a place owns, looked at) -/
inductive Kd where
  | frz | own | bor | old
  deriving DecidableEq
structure TV where
  k : Kd
  fr : Bool
  d : D
abbrev Sta := List (Option TV)
/-- what is raised: the class, the fields that its __init__ laid (all of them new?) -/
structure Ec where
  n : Str
  x : Option (Bool × List Str × List D)
instance : Coe Str Ec := ⟨fun s => ⟨s, none⟩⟩
instance : Coe String Ec := ⟨fun s => ⟨Str.ofString s, none⟩⟩
inductive Res (α : Type) where
  | ok (a : α)
  | err (c : Ec) (st : Sta)
  | stuck
structure Gm where
  K : PySem.W.Frag
  mg : Str → Option Value

/-! ## how data lies in the heap -/
mutual
def Rep (Γ : Gm) (F : Hp) : D → V → Prop
  | .non, v => v = .non
  | .bl b, v => v = .bl b
  | .int i, v => v = .int i
  | .str x, v => v = .str x
  | .lst xs, v => ∃ p vs, v = .ref p ∧ F p = some (.lst vs) ∧ RepL Γ F xs vs
  | .tup xs, v => ∃ p vs, v = .ref p ∧ SqT Γ.K F p vs ∧ RepL Γ F xs vs
  | .obj c ds, v => ∃ p C dx vs, v = .ref p ∧ Γ.mg c.name = some (.ref C) ∧ F p = some (.ins C dx (c.fields.zip vs)) ∧ ds.length ≤ c.fields.length ∧ RepL Γ F ds vs
  | .exc _ a, v => v = .ref a
  | .xcp _ a dd ns ds, v => v = .ref a ∧ ∃ vs, F dd = some (.xd (ns.zip vs)) ∧ ds.length = ns.length ∧ RepL Γ F ds vs
  | .fl xs, v => ∃ p vs, v = .ref p ∧ SqL Γ.K F p vs ∧ RepL Γ F xs vs
def RepL (Γ : Gm) (F : Hp) : List D → List V → Prop
  | [], vs => vs = []
  | d :: ds, vs => ∃ v r, vs = v :: r ∧ Rep Γ F d v ∧ RepL Γ F ds r
end
mutual
theorem Rep.mono {Γ : Gm} {F F' : Hp} (e : Same F F') : ∀ {d : D} {v : V}, Rep Γ F d v → Rep Γ F' d v
  | .non, v, h => by simpa only [Rep] using h
  | .bl b, v, h => by simpa only [Rep] using h
  | .int i, v, h => by simpa only [Rep] using h
  | .str x, v, h => by simpa only [Rep] using h
  | .lst xs, v, h => by
    simp only [Rep] at h ⊢
    obtain ⟨p, vs, h1, h2, h3⟩ := h
    exact ⟨p, vs, h1, e _ _ h2, RepL.mono e h3⟩
  | .tup xs, v, h => by
    simp only [Rep] at h ⊢
    obtain ⟨p, vs, h1, h2, h3⟩ := h
    refine ⟨p, vs, h1, ?_, RepL.mono e h3⟩
    rcases h2 with (h | ⟨o, h⟩) | h
    · exact .inl (.inl (e _ _ h))
    · exact .inl (.inr ⟨o, e _ _ h⟩)
    · exact .inr h
  | .obj c ds, v, h => by
    simp only [Rep] at h ⊢
    obtain ⟨p, C, dx, vs, h1, h2, h3, h4, h5⟩ := h
    exact ⟨p, C, dx, vs, h1, h2, e _ _ h3, h4, RepL.mono e h5⟩
  | .exc c a, v, h => by simpa only [Rep] using h
  | .xcp c a dd ns ds, v, h => by
    simp only [Rep] at h ⊢
    obtain ⟨h1, vs, h2, h3, h4⟩ := h
    exact ⟨h1, vs, e _ _ h2, h3, RepL.mono e h4⟩
  | .fl xs, v, h => by
    simp only [Rep] at h ⊢
    obtain ⟨p, vs, h1, h2, h3⟩ := h
    exact ⟨p, vs, h1, e.seq h2, RepL.mono e h3⟩
theorem RepL.mono {Γ : Gm} {F F' : Hp} (e : Same F F') : ∀ {ds : List D} {vs : List V}, RepL Γ F ds vs → RepL Γ F' ds vs
  | [], vs, h => by simpa only [RepL] using h
  | d :: ds, vs, h => by
    simp only [RepL] at h ⊢
    obtain ⟨v, r, h1, h2, h3⟩ := h
    exact ⟨v, r, h1, Rep.mono e h2, RepL.mono e h3⟩
end
section
variable {Γ : Gm} {F F' : Hp}
theorem RepL.nil : RepL Γ F [] [] := by simp only [RepL]
theorem RepL.cons {d : D} {v : V} {ds : List D} {vs : List V} (h : Rep Γ F d v) (t : RepL Γ F ds vs) : RepL Γ F (d :: ds) (v :: vs) := by
  simp only [RepL]
  exact ⟨v, vs, rfl, h, t⟩
theorem RepL.nil_inv {vs : List V} (h : RepL Γ F [] vs) : vs = [] := by simpa only [RepL] using h
theorem RepL.cons_inv {d : D} {ds : List D} {vs : List V} (h : RepL Γ F (d :: ds) vs) : ∃ v r, vs = v :: r ∧ Rep Γ F d v ∧ RepL Γ F ds r := by simpa only [RepL] using h
theorem RepL.length : ∀ {ds : List D} {vs : List V}, RepL Γ F ds vs → ds.length = vs.length
  | [], vs, h => by rw [h.nil_inv]; rfl
  | d :: ds, vs, h => by
    obtain ⟨v, r, rfl, _, h2⟩ := h.cons_inv
    rw [List.length_cons, List.length_cons, RepL.length h2]
theorem RepL.get : ∀ {ds : List D} {vs : List V} {i : Nat} {d : D}, RepL Γ F ds vs → ds[i]? = some d → ∃ v, vs[i]? = some v ∧ Rep Γ F d v
  | [], vs, i, d, h, e => by simp at e
  | d :: ds, vs, 0, d', h, e => by
    obtain ⟨v, r, rfl, h1, h2⟩ := h.cons_inv
    have : d = d' := by simpa using e
    subst this
    exact ⟨v, rfl, h1⟩
  | d :: ds, vs, i + 1, d', h, e => by
    obtain ⟨v, r, rfl, h1, h2⟩ := h.cons_inv
    obtain ⟨w, e1, e2⟩ := RepL.get (i := i) h2 (by simpa using e)
    exact ⟨w, by simpa using e1, e2⟩
theorem RepL.get' : ∀ {ds : List D} {vs : List V} {i : Nat} {v : V}, RepL Γ F ds vs → vs[i]? = some v → ∃ d, ds[i]? = some d ∧ Rep Γ F d v
  | [], vs, i, v, h, e => by rw [h.nil_inv] at e; simp at e
  | d :: ds, vs, 0, v', h, e => by
    obtain ⟨v, r, rfl, h1, h2⟩ := h.cons_inv
    have : v = v' := by simpa using e
    subst this
    exact ⟨d, rfl, h1⟩
  | d :: ds, vs, i + 1, v', h, e => by
    obtain ⟨v, r, rfl, h1, h2⟩ := h.cons_inv
    obtain ⟨w, e1, e2⟩ := RepL.get' (i := i) h2 (by simpa using e)
    exact ⟨w, by simpa using e1, e2⟩
theorem RepL.set : ∀ {ds : List D} {vs : List V} {d : D} {v : V} (i : Nat), RepL Γ F ds vs → Rep Γ F d v → RepL Γ F (ds.set i d) (vs.set i v)
  | [], vs, d, v, i, h, e => by rw [h.nil_inv]; exact RepL.nil
  | d :: ds, vs, d', v', 0, h, e => by
    obtain ⟨v, r, rfl, h1, h2⟩ := h.cons_inv
    exact RepL.cons e h2
  | d :: ds, vs, d', v', i + 1, h, e => by
    obtain ⟨v, r, rfl, h1, h2⟩ := h.cons_inv
    exact RepL.cons h1 (RepL.set i h2 e)
theorem RepL.append : ∀ {ds es : List D} {vs us : List V}, RepL Γ F ds vs → RepL Γ F es us → RepL Γ F (ds ++ es) (vs ++ us)
  | [], es, vs, us, h, e => by rw [h.nil_inv]; exact e
  | d :: ds, es, vs, us, h, e => by
    obtain ⟨v, r, rfl, h1, h2⟩ := h.cons_inv
    exact RepL.cons h1 (RepL.append h2 e)
theorem RepL.take : ∀ {ds : List D} {vs : List V} (n : Nat), RepL Γ F ds vs → RepL Γ F (ds.take n) (vs.take n)
  | ds, vs, 0, h => RepL.nil
  | [], vs, n + 1, h => by rw [h.nil_inv]; exact RepL.nil
  | d :: ds, vs, n + 1, h => by
    obtain ⟨v, r, rfl, h1, h2⟩ := h.cons_inv
    exact RepL.cons h1 (RepL.take n h2)
theorem RepL.drop : ∀ {ds : List D} {vs : List V} (n : Nat), RepL Γ F ds vs → RepL Γ F (ds.drop n) (vs.drop n)
  | ds, vs, 0, h => h
  | [], vs, n + 1, h => by rw [h.nil_inv]; exact RepL.nil
  | d :: ds, vs, n + 1, h => by
    obtain ⟨v, r, rfl, h1, h2⟩ := h.cons_inv
    exact RepL.drop n h2
theorem RepL.rep {ds : List D} {vs : List V} (h : RepL Γ F ds vs) : ∀ k : Nat, RepL Γ F (List.replicate k ds).flatten (List.replicate k vs).flatten
  | 0 => RepL.nil
  | k + 1 => by
    simp only [List.replicate_succ, List.flatten_cons]
    exact h.append (RepL.rep h k)
theorem RepL.reverse : ∀ {ds : List D} {vs : List V}, RepL Γ F ds vs → RepL Γ F ds.reverse vs.reverse
  | [], vs, h => by rw [h.nil_inv]; exact RepL.nil
  | d :: ds, vs, h => by
    obtain ⟨v, r, rfl, h1, h2⟩ := h.cons_inv
    rw [List.reverse_cons, List.reverse_cons]
    exact (RepL.reverse h2).append (RepL.cons h1 RepL.nil)
theorem RepL.dropLast {ds : List D} {vs : List V} (h : RepL Γ F ds vs) : RepL Γ F ds.dropLast vs.dropLast := by
  rw [List.dropLast_eq_take, List.dropLast_eq_take, h.length]
  exact h.take _
theorem RepL.eraseIdx : ∀ {ds : List D} {vs : List V} (i : Nat), RepL Γ F ds vs → RepL Γ F (ds.eraseIdx i) (vs.eraseIdx i)
  | [], vs, i, h => by rw [h.nil_inv]; exact RepL.nil
  | d :: ds, vs, 0, h => by
    obtain ⟨v, r, rfl, h1, h2⟩ := h.cons_inv
    exact h2
  | d :: ds, vs, i + 1, h => by
    obtain ⟨v, r, rfl, h1, h2⟩ := h.cons_inv
    exact RepL.cons h1 (RepL.eraseIdx i h2)
theorem RepL.ints : ∀ {ns : List Int} {vs : List V}, RepL Γ F (ns.map D.int) vs → vs = ns.map V.int
  | [], vs, h => h.nil_inv
  | n :: ns, vs, h => by
    obtain ⟨v, r, rfl, h1, h2⟩ := h.cons_inv
    rw [RepL.ints h2]
    simp only [Rep] at h1
    rw [h1]
    rfl
theorem repL_ints : ∀ (ns : List Int), RepL Γ F (ns.map D.int) (ns.map V.int)
  | [] => RepL.nil
  | n :: ns => RepL.cons (by simp only [Rep]) (repL_ints ns)
/-- an atom asks no heap -/
theorem Rep.atom {d : D} {v : V} (h : Rep Γ F d v) (a : d.atom = true) : Rep Γ F' d v := by
  cases d with
  | lst xs => cases a
  | tup xs => cases a
  | obj c ds => cases a
  | fl xs => cases a
  | xcp c x dd ns ds => cases a
  | _ => simpa only [Rep] using h
end

/-! ## heaps -/
/-- F without what stood in B -/
def minus (F B : Hp) : Hp := fun a => match B a with
  | none => F a
  | some _ => none
/-- both -/
def join (F G : Hp) : Hp := fun a => match F a with
  | none => G a
  | some o => some o
def sel (fr : Bool) (B F : Hp) : Hp := match fr with
  | true => minus F B
  | false => F
/-- what of F stood in B already -/
def meet (F B : Hp) : Hp := fun a => match B a with
  | none => none
  | some _ => F a
theorem meet_same {F B : Hp} : Same (meet F B) F := fun a o h => by
  unfold meet at h
  cases q : B a with
  | none => rw [q] at h; cases h
  | some u => rw [q] at h; exact h
theorem meet_mono {F F' B : Hp} (e : Same F F') : Same (meet F B) (meet F' B) := fun a o h => by
  unfold meet at h ⊢
  cases q : B a with
  | none => rw [q] at h; cases h
  | some u => rw [q] at h; exact e _ _ h
theorem minus_same {F B : Hp} : Same (minus F B) F := fun a o h => by
  unfold minus at h
  cases q : B a with
  | none => rw [q] at h; exact h
  | some u => rw [q] at h; cases h
theorem sel_same {fr : Bool} {B F : Hp} : Same (sel fr B F) F := by
  cases fr with
  | true => exact minus_same
  | false => exact Same.refl _
theorem minus_mono {F F' B : Hp} (e : Same F F') : Same (minus F B) (minus F' B) := fun a o h => by
  unfold minus at h ⊢
  cases q : B a with
  | none => rw [q] at h; exact e _ _ h
  | some u => rw [q] at h; cases h
theorem sel_mono {fr : Bool} {F F' B : Hp} (e : Same F F') : Same (sel fr B F) (sel fr B F') := by
  cases fr with
  | true => exact minus_mono e
  | false => exact e
theorem minus_mono2 {F B B' : Hp} (e : Same B B') : Same (minus F B') (minus F B) := fun a o h => by
  unfold minus at h ⊢
  cases q : B a with
  | none =>
    cases q' : B' a with
    | none => rw [q'] at h; exact h
    | some u => rw [q'] at h; cases h
  | some u => rw [e _ _ q] at h; cases h
theorem sel_mono2 {fr : Bool} {F B B' : Hp} (e : Same B B') : Same (sel fr B' F) (sel fr B F) := by
  cases fr with
  | true => exact minus_mono2 e
  | false => exact Same.refl _
theorem sel_weak {fr : Bool} {B F : Hp} : Same (minus F B) (sel fr B F) := by
  cases fr with
  | true => exact Same.refl _
  | false => exact minus_same
theorem same_upd_new {H : Hp} {p : Addr} {o : HO} (h : H p = none) : Same H (upd H p o) := fun a u e => by
  rw [upd_ne (ne_of_none e h)]
  exact e
theorem join_l {F G : Hp} : Same F (join F G) := fun a o h => by
  unfold join
  rw [h]

/-! ## the state -/
/-- v bears the value t -/
def Ent (Γ : Gm) (B F H : Hp) : TV → V → Prop
  | ⟨.frz, fr, d⟩, v => Rep Γ (sel fr B F) d v
  | ⟨.own, fr, .lst ds⟩, v => ∃ p vs, v = .ref p ∧ H p = some (.lst vs) ∧ F p = none ∧ B p = none ∧ RepL Γ (sel fr B F) ds vs
  | ⟨.own, fr, .obj c ds⟩, v => ∃ p C dx vs, v = .ref p ∧ Γ.mg c.name = some (.ref C) ∧ H p = some (.ins C dx (c.fields.zip vs)) ∧ ds.length ≤ c.fields.length ∧ F p = none ∧ B p = none ∧ RepL Γ (sel fr B F) ds vs
  | ⟨.own, _, _⟩, _ => False
  | ⟨.bor, fr, .lst ds⟩, v => ∃ p vs, v = .ref p ∧ H p = some (.lst vs) ∧ RepL Γ (sel fr B F) ds vs
  | ⟨.bor, fr, .obj c ds⟩, v => ∃ p C dx vs, v = .ref p ∧ Γ.mg c.name = some (.ref C) ∧ H p = some (.ins C dx (c.fields.zip vs)) ∧ ds.length ≤ c.fields.length ∧ RepL Γ (sel fr B F) ds vs
  | ⟨.bor, _, _⟩, _ => False
  | ⟨.old, false, d⟩, v => Rep Γ (meet F B) d v
  | ⟨.old, true, _⟩, _ => False
/-- what of the entry's heap is read; the object that is being made -/
structure Ao where
  h : Hp
  o : Option Addr
def OwnAt (vs : List (Option V)) (ts : Sta) (i : Nat) (a : Addr) : Prop := ∃ fr d, ts[i]? = some (some ⟨.own, fr, d⟩) ∧ vs[i]? = some (some (.ref a))
/-- B: the heap at the entry; A: what of it is read; F: what is frozen; H: the heap now -/
structure SR (Γ : Gm) (B : Hp) (A : Ao) (F H : Hp) (vs : List (Option V)) (ts : Sta) : Prop where
  ln : vs.length = ts.length
  bh : Same B H
  fh : Same F H
  ab : Same A.h B
  af : Same A.h F
  fb : ∀ a o, F a = some o → A.h a = some o ∨ B a = none
  en : ∀ (i : Nat) (t : TV), ts[i]? = some (some t) → ∃ v, vs[i]? = some (some v) ∧ Ent Γ B F H t v
  dj : ∀ (i j : Nat) (a : Addr), OwnAt vs ts i a → OwnAt vs ts j a → i = j
  oo : ∀ (i : Nat) (fr : Bool) (c : Cl) (ds : List D) (a : Addr), ts[i]? = some (some ⟨.own, fr, .obj c ds⟩) → vs[i]? = some (some (.ref a)) → A.o = some a
section
variable {Γ : Gm} {B F F' H H' : Hp} {A : Ao} {vs : List (Option V)} {ts : Sta} {t : TV} {v : V}
theorem Ent.unold {fr : Bool} {d : D} (h : Ent Γ B F H ⟨.old, fr, d⟩ v) : Ent Γ B F H ⟨.frz, fr, d⟩ v := by
  cases fr with
  | true => exact h.elim
  | false => exact Rep.mono meet_same h
/-- an own entry's address -/
theorem Ent.own {fr : Bool} {d : D} (h : Ent Γ B F H ⟨.own, fr, d⟩ v) : ∃ p o, v = .ref p ∧ H p = some o ∧ F p = none ∧ B p = none := by
  cases d with
  | lst ds =>
    obtain ⟨p, vs, h1, h2, h3, h4, _⟩ := h
    exact ⟨p, _, h1, h2, h3, h4⟩
  | obj c ds =>
    obtain ⟨p, C, dx, vs, h1, _, h2, _, h3, h4, _⟩ := h
    exact ⟨p, _, h1, h2, h3, h4⟩
  | _ => exact h.elim
/-- an entry stays where the frozen part grows and its own or borrowed cell stays -/
theorem Ent.stay (h : Ent Γ B F H t v) (e : Same F F') (hk : ∀ p, v = .ref p → ∀ o, H p = some o → t.k ≠ .frz ∧ t.k ≠ .old → H' p = some o) (hn : ∀ p, v = .ref p → t.k = .own → F p = none → F' p = none) : Ent Γ B F' H' t v := by
  obtain ⟨k, fr, d⟩ := t
  cases k with
  | frz => exact Rep.mono (sel_mono e) h
  | own =>
    cases d with
    | lst ds =>
      obtain ⟨p, vs, h1, h2, h3, h4, h5⟩ := h
      exact ⟨p, vs, h1, hk p h1 _ h2 ⟨(by intro z; cases z), (by intro z; cases z)⟩, hn p h1 rfl h3, h4, RepL.mono (sel_mono e) h5⟩
    | obj c ds =>
      obtain ⟨p, C, dx, vs, h1, h2, h3, h4, h5, h6, h7⟩ := h
      exact ⟨p, C, dx, vs, h1, h2, hk p h1 _ h3 ⟨(by intro z; cases z), (by intro z; cases z)⟩, h4, hn p h1 rfl h5, h6, RepL.mono (sel_mono e) h7⟩
    | _ => exact h.elim
  | old =>
    cases fr with
    | true => exact h.elim
    | false => exact Rep.mono (meet_mono e) h
  | bor =>
    cases d with
    | lst ds =>
      obtain ⟨p, vs, h1, h2, h5⟩ := h
      exact ⟨p, vs, h1, hk p h1 _ h2 ⟨(by intro z; cases z), (by intro z; cases z)⟩, RepL.mono (sel_mono e) h5⟩
    | obj c ds =>
      obtain ⟨p, C, dx, vs, h1, h2, h3, h4, h5⟩ := h
      exact ⟨p, C, dx, vs, h1, h2, hk p h1 _ h3 ⟨(by intro z; cases z), (by intro z; cases z)⟩, h4, RepL.mono (sel_mono e) h5⟩
    | _ => exact h.elim
theorem OwnAt.cons_inv {x : Option V} {y : Option TV} {i : Nat} {a : Addr} (h : OwnAt (x :: vs) (y :: ts) (i + 1) a) : OwnAt vs ts i a := by
  obtain ⟨fr, d, h1, h2⟩ := h
  exact ⟨fr, d, by simpa using h1, by simpa using h2⟩
theorem OwnAt.cons {x : Option V} {y : Option TV} {i : Nat} {a : Addr} (h : OwnAt vs ts i a) : OwnAt (x :: vs) (y :: ts) (i + 1) a := by
  obtain ⟨fr, d, h1, h2⟩ := h
  exact ⟨fr, d, by simpa using h1, by simpa using h2⟩
/-- the top is dropped -/
theorem SR.pop {x : Option V} {y : Option TV} (s : SR Γ B A F H (x :: vs) (y :: ts)) : SR Γ B A F H vs ts :=
  ⟨by simpa using s.ln, s.bh, s.fh, s.ab, s.af, s.fb, fun i t h => by
    obtain ⟨v, h1, h2⟩ := s.en (i + 1) t (by simpa using h)
    exact ⟨v, by simpa using h1, h2⟩, fun i j a h1 h2 => Nat.succ.inj (s.dj _ _ a h1.cons h2.cons), fun i fr c ds a h1 h2 => s.oo (i + 1) fr c ds a (by simpa using h1) (by simpa using h2)⟩
theorem SR.top (s : SR Γ B A F H (some v :: vs) (some t :: ts)) : Ent Γ B F H t v := by
  obtain ⟨w, h1, h2⟩ := s.en 0 t rfl
  have : v = w := by simpa using h1
  subst this
  exact h2
/-- a value that owns nothing is pushed -/
theorem SR.push (s : SR Γ B A F H vs ts) (h : Ent Γ B F H t v) (k : t.k ≠ .own) : SR Γ B A F H (some v :: vs) (some t :: ts) where
  ln := by simpa using s.ln
  bh := s.bh
  fh := s.fh
  ab := s.ab
  af := s.af
  fb := s.fb
  en := fun i t' e => by
    cases i with
    | zero =>
      have : t = t' := by simpa using e
      subst this
      exact ⟨v, rfl, h⟩
    | succ i =>
      obtain ⟨v', h1, h2⟩ := s.en i t' (by simpa using e)
      exact ⟨v', by simpa using h1, h2⟩
  dj := fun i j a h1 h2 => by
    have n0 : ∀ {b}, ¬ OwnAt (some v :: vs) (some t :: ts) 0 b := fun ⟨fr, d, e1, _⟩ => by
      have : t = ⟨.own, fr, d⟩ := by simpa using e1
      rw [this] at k
      exact k rfl
    cases i with
    | zero => exact (n0 h1).elim
    | succ i =>
      cases j with
      | zero => exact (n0 h2).elim
      | succ j => rw [s.dj i j a h1.cons_inv h2.cons_inv]
  oo := fun i fr c ds a h1 h2 => by
    cases i with
    | zero =>
      have : t = ⟨.own, fr, .obj c ds⟩ := by simpa using h1
      rw [this] at k
      exact (k rfl).elim
    | succ i => exact s.oo i fr c ds a (by simpa using h1) (by simpa using h2)
/-- the heap grows, what is frozen grows: calls, new objects -/
theorem SR.grow (s : SR Γ B A F H vs ts) (e : Same H H') (f : Same F F') (fh : Same F' H') (fb : ∀ a o, F' a = some o → F a = some o ∨ H a = none) : SR Γ B A F' H' vs ts where
  ln := s.ln
  bh := s.bh.trans e
  fh := fh
  ab := s.ab
  af := s.af.trans f
  fb := fun a o h => by
    rcases fb a o h with h | h
    · exact s.fb a o h
    · exact .inr (s.bh.free h)
  en := fun i t h => by
    obtain ⟨v, h1, h2⟩ := s.en i t h
    refine ⟨v, h1, h2.stay f (fun p _ o ho _ => e _ _ ho) fun p hp ho hn => ?_⟩
    obtain ⟨k, fr, d⟩ := t
    have ho : k = .own := ho
    subst ho
    obtain ⟨q, o, e1, e2, _⟩ := h2.own
    have : p = q := by rw [hp] at e1; injection e1
    subst this
    cases q' : F' p with
    | none => rfl
    | some u =>
      rcases fb p u q' with z | z
      · rw [hn] at z; cases z
      · rw [e2] at z; cases z
  dj := s.dj
  oo := s.oo
/-- an own value, new, is pushed -/
theorem SR.pushOwn (s : SR Γ B A F H vs ts) (n : ∀ i b, OwnAt vs ts i b → v ≠ .ref b) {fr : Bool} {d : D} (h : Ent Γ B F H ⟨.own, fr, d⟩ v) (ho : ∀ c xs a, d = .obj c xs → v = .ref a → A.o = some a) : SR Γ B A F H (some v :: vs) (some ⟨.own, fr, d⟩ :: ts) := by
  refine ⟨by simpa using s.ln, s.bh, s.fh, s.ab, s.af, s.fb, fun i t' e => ?_, fun i j a h1 h2 => ?_, fun i fr2 c xs a h1 h2 => ?_⟩
  · cases i with
    | zero =>
      have : (⟨.own, fr, d⟩ : TV) = t' := by simpa using e
      subst this
      exact ⟨v, rfl, h⟩
    | succ i =>
      obtain ⟨v', h1, h2⟩ := s.en i t' (by simpa using e)
      exact ⟨v', by simpa using h1, h2⟩
  · have z0 : ∀ b : Addr, OwnAt (some v :: vs) (some (⟨.own, fr, d⟩ : TV) :: ts) 0 b → v = .ref b := fun b ⟨_, _, _, e2⟩ => by simpa using e2
    cases i with
    | zero =>
      cases j with
      | zero => rfl
      | succ j => exact (n _ _ h2.cons_inv (z0 _ h1)).elim
    | succ i =>
      cases j with
      | zero => exact (n _ _ h1.cons_inv (z0 _ h2)).elim
      | succ j => rw [s.dj i j a h1.cons_inv h2.cons_inv]
  · cases i with
    | zero =>
      have h1 : (⟨.own, fr, d⟩ : TV) = ⟨.own, fr2, .obj c xs⟩ := by simpa using h1
      have h2 : v = .ref a := by simpa using h2
      injection h1 with _ _ h1
      exact ho c xs a h1 h2
    | succ i => exact s.oo i fr2 c xs a (by simpa using h1) (by simpa using h2)
/-- an own cell is there -/
theorem SR.owned (s : SR Γ B A F H vs ts) {i : Nat} {b : Addr} (o : OwnAt vs ts i b) : ∃ u, H b = some u ∧ F b = none ∧ B b = none := by
  obtain ⟨fr', d, e1, e2⟩ := o
  obtain ⟨w, e3, e4⟩ := s.en i _ e1
  rw [e2] at e3
  have : V.ref b = w := by simpa using e3
  subst this
  obtain ⟨q, o, e5, e6, e7, e8⟩ := e4.own
  injection e5 with e5
  subst e5
  exact ⟨o, e6, e7, e8⟩
theorem SR.newNe (s : SR Γ B A F H vs ts) {p : Addr} (hp : H p = none) : ∀ i b, OwnAt vs ts i b → V.ref p ≠ .ref b := fun i b o z => by
  injection z with z
  subst z
  obtain ⟨u, hu, _⟩ := s.owned o
  rw [hp] at hu
  cases hu
/-- a new own list -/
theorem SR.alloc (s : SR Γ B A F H vs ts) {p : Addr} {ds : List D} {us : List V} {fr : Bool} (hp : H p = none) (h : RepL Γ (sel fr B F) ds us) : SR Γ B A F (upd H p (.lst us)) (some (.ref p) :: vs) (some ⟨.own, fr, .lst ds⟩ :: ts) :=
  (s.grow (same_upd_new hp) (Same.refl _) (s.fh.trans (same_upd_new hp)) fun a o h => .inl h).pushOwn (s.newNe hp) ⟨p, us, rfl, upd_same, s.fh.free hp, s.bh.free hp, h⟩ (fun _ _ _ z => nomatch z)
/-- a new tuple -/
theorem SR.allocT (s : SR Γ B A F H vs ts) {p : Addr} {ds : List D} {us : List V} {fr : Bool} (hp : H p = none) (h : RepL Γ (sel fr B F) ds us) : SR Γ B A (upd F p (.tup us)) (upd H p (.tup us)) (some (.ref p) :: vs) (some ⟨.frz, fr, .tup ds⟩ :: ts) := by
  have np : F p = none := s.fh.free hp
  have bp : B p = none := s.bh.free hp
  have f : Same F (upd F p (.tup us)) := same_upd_new np
  refine (s.grow (same_upd_new hp) f (fun a o h => ?_) fun a o h => ?_).push ?_ (by intro z; cases z)
  · by_cases e : a = p
    · subst e; rw [upd_same] at h ⊢; exact h
    · rw [upd_ne e] at h ⊢; exact s.fh _ _ h
  · by_cases e : a = p
    · subst e; exact .inr hp
    · rw [upd_ne e] at h; exact .inl h
  · show Rep Γ (sel fr B (upd F p (.tup us))) (.tup ds) (.ref p)
    simp only [Rep]
    refine ⟨p, us, rfl, .inl (.inl ?_), RepL.mono (sel_mono f) h⟩
    cases fr with
    | true =>
      show minus (upd F p (.tup us)) B p = _
      unfold minus
      rw [bp, upd_same]
    | false => exact upd_same
theorem get_set_cases {α : Type} {l : List α} {i j : Nat} {x y : α} (h : (l.set i x)[j]? = some y) : (i = j ∧ x = y) ∨ (i ≠ j ∧ l[j]? = some y) := by
  by_cases e : i = j
  · subst e
    rw [List.getElem?_set] at h
    rw [if_pos rfl] at h
    split at h
    · exact .inl ⟨rfl, Option.some.inj h⟩
    · cases h
  · rw [List.getElem?_set_ne e] at h
    exact .inr ⟨e, h⟩
/-- an entry is forgotten -/
theorem SR.clear (s : SR Γ B A F H vs ts) (i : Nat) : SR Γ B A F H vs (ts.set i none) :=
  ⟨by rw [List.length_set]; exact s.ln, s.bh, s.fh, s.ab, s.af, s.fb, fun j t e => by
    rcases get_set_cases e with ⟨_, z⟩ | ⟨_, z⟩
    · cases z
    · exact s.en j t z, fun j k a h1 h2 => by
    have o : ∀ {j : Nat}, OwnAt vs (ts.set i none) j a → OwnAt vs ts j a := fun {j} ⟨fr, d, e1, e2⟩ => by
      rcases get_set_cases e1 with ⟨_, z⟩ | ⟨_, z⟩
      · cases z
      · exact ⟨fr, d, z, e2⟩
    exact s.dj j k a (o h1) (o h2), fun j fr c ds a h1 h2 => by
    rcases get_set_cases h1 with ⟨_, z⟩ | ⟨_, z⟩
    · cases z
    · exact s.oo j fr c ds a z h2⟩
/-- the top value goes into place i -/
theorem SR.store (s : SR Γ B A F H (some v :: vs) (some t :: ts)) (i : Nat) : SR Γ B A F H (vs.set i (some v)) (ts.set i (some t)) := by
  have sp := s.pop
  have hl : vs.length = ts.length := sp.ln
  refine ⟨by rw [List.length_set, List.length_set]; exact hl, s.bh, s.fh, s.ab, s.af, s.fb, fun j t' e => ?_, fun j k a h1 h2 => ?_, fun j fr c ds a h1 h2 => ?_⟩
  · by_cases ij : i = j
    · subst ij
      have hi : i < ts.length := by
        have := (List.getElem?_eq_some_iff.mp e).1
        rwa [List.length_set] at this
      rw [List.getElem?_set_self hi] at e
      have : t = t' := by simpa using e
      subst this
      exact ⟨v, by rw [List.getElem?_set_self (by omega)], s.top⟩
    · rw [List.getElem?_set_ne ij] at e
      obtain ⟨w, h1, h2⟩ := sp.en j t' e
      exact ⟨w, by rw [List.getElem?_set_ne ij]; exact h1, h2⟩
  · have o : ∀ {j : Nat}, OwnAt (vs.set i (some v)) (ts.set i (some t)) j a → OwnAt (some v :: vs) (some t :: ts) (if i = j then 0 else j + 1) a := fun {j} ⟨fr, d, e1, e2⟩ => by
      by_cases ij : i = j
      · subst ij
        rw [if_pos rfl]
        have hi : i < ts.length := by
          have := (List.getElem?_eq_some_iff.mp e1).1
          rwa [List.length_set] at this
        rw [List.getElem?_set_self hi] at e1
        rw [List.getElem?_set_self (by omega)] at e2
        exact ⟨fr, d, by simpa using e1, by simpa using e2⟩
      · rw [if_neg ij]
        rw [List.getElem?_set_ne ij] at e1 e2
        exact ⟨fr, d, by simpa using e1, by simpa using e2⟩
    have z := s.dj _ _ a (o h1) (o h2)
    by_cases h1 : i = j
    · rw [if_pos h1] at z
      by_cases h2 : i = k
      · omega
      · rw [if_neg h2] at z; omega
    · rw [if_neg h1] at z
      by_cases h2 : i = k
      · rw [if_pos h2] at z; omega
      · rw [if_neg h2] at z; omega
  · by_cases ij : i = j
    · subst ij
      have hi : i < ts.length := by
        have := (List.getElem?_eq_some_iff.mp h1).1
        rwa [List.length_set] at this
      rw [List.getElem?_set_self hi] at h1
      rw [List.getElem?_set_self (by omega)] at h2
      exact s.oo 0 fr c ds a (by simpa using h1) (by simpa using h2)
    · rw [List.getElem?_set_ne ij] at h1 h2
      exact sp.oo j fr c ds a h1 h2
/-- an own entry is frozen -/
theorem SR.freeze (s : SR Γ B A F H vs ts) {i : Nat} {fr : Bool} {d : D} (e : ts[i]? = some (some ⟨.own, fr, d⟩)) : ∃ F', Same F F' ∧ SR Γ B A F' H vs (ts.set i (some ⟨.frz, fr, d⟩)) := by
  obtain ⟨v, ev, he⟩ := s.en i _ e
  have key : ∀ (p : Addr) (o : HO), v = .ref p → H p = some o → F p = none → B p = none → Same F (upd F p o) → Rep Γ (sel fr B (upd F p o)) d v → ∃ F', Same F F' ∧ SR Γ B A F' H vs (ts.set i (some ⟨.frz, fr, d⟩)) := by
    intro p o hv hp np bp f hr
    subst hv
    refine ⟨upd F p o, f, by rw [List.length_set]; exact s.ln, s.bh, fun a u h => ?_, s.ab, s.af.trans f, fun a u h => ?_, fun j t' e' => ?_, fun j k a h1 h2 => ?_, fun j fr2 c ds a h1 h2 => ?_⟩
    · by_cases z : a = p
      · subst z; rw [upd_same] at h; rw [hp]; exact h
      · rw [upd_ne z] at h; exact s.fh _ _ h
    · by_cases z : a = p
      · subst z; exact .inr bp
      · rw [upd_ne z] at h; exact s.fb _ _ h
    · rcases get_set_cases e' with ⟨z, z2⟩ | ⟨ij, z⟩
      · subst z
        cases z2
        exact ⟨_, ev, hr⟩
      · obtain ⟨w, h1, h2⟩ := s.en j t' z
        refine ⟨w, h1, h2.stay f (fun _ _ _ ho _ => ho) fun q hq ho hn => ?_⟩
        subst hq
        rw [upd_ne]
        · exact hn
        · rintro rfl
          obtain ⟨k', fr', d'⟩ := t'
          have ho : k' = .own := ho
          subst ho
          exact ij (s.dj i j q ⟨fr, d, e, ev⟩ ⟨fr', d', z, h1⟩)
    · have o : ∀ {j : Nat}, OwnAt vs (ts.set i (some ⟨.frz, fr, d⟩)) j a → OwnAt vs ts j a := fun {j} ⟨fr', d', e1, e2⟩ => by
        rcases get_set_cases e1 with ⟨_, z⟩ | ⟨_, z⟩
        · cases z
        · exact ⟨fr', d', z, e2⟩
      exact s.dj j k a (o h1) (o h2)
    · rcases get_set_cases h1 with ⟨_, z⟩ | ⟨_, z⟩
      · cases z
      · exact s.oo j fr2 c ds a z h2
  cases d with
  | lst ds =>
    obtain ⟨p, us, hv, hp, np, bp, hr⟩ := he
    have f : Same F (upd F p (.lst us)) := same_upd_new np
    refine key p _ hv hp np bp f ?_
    simp only [Rep]
    refine ⟨p, us, hv, ?_, RepL.mono (sel_mono f) hr⟩
    cases fr with
    | true =>
      show minus _ B p = _
      unfold minus
      rw [bp, upd_same]
    | false => exact upd_same
  | obj c ds =>
    obtain ⟨p, C, dx, us, hv, hC, hp, hl, np, bp, hr⟩ := he
    have f : Same F (upd F p (.ins C dx (c.fields.zip us))) := same_upd_new np
    refine key p _ hv hp np bp f ?_
    simp only [Rep]
    refine ⟨p, C, dx, us, hv, hC, ?_, hl, RepL.mono (sel_mono f) hr⟩
    cases fr with
    | true =>
      show minus _ B p = _
      unfold minus
      rw [bp, upd_same]
    | false => exact upd_same
  | _ => exact he.elim
def noBor (ts : Sta) : Prop := ∀ (j : Nat) (t : TV), ts[j]? = some (some t) → t.k ≠ .bor
/-- an own list is changed -/
theorem SR.updL' (s : SR Γ B A F H vs ts) {i : Nat} {fr fr' : Bool} {d : D} {p : Addr} {us : List V} {ds' : List D} (nb : ∀ (j : Nat) (t : TV), ts[j]? = some (some t) → t.k = .bor → vs[j]? ≠ some (some (.ref p))) (e : ts[i]? = some (some ⟨.own, fr, d⟩)) (ev : vs[i]? = some (some (.ref p))) (hr : RepL Γ (sel fr' B F) ds' us) :
    SR Γ B A F (upd H p (.lst us)) vs (ts.set i (some ⟨.own, fr', .lst ds'⟩)) := by
  have ow : OwnAt vs ts i p := ⟨fr, d, e, ev⟩
  obtain ⟨u0, hp, np, bp⟩ := s.owned ow
  refine ⟨by rw [List.length_set]; exact s.ln, fun a u h => ?_, fun a u h => ?_, s.ab, s.af, s.fb, fun j t' e' => ?_, fun j k a h1 h2 => ?_, fun j fr2 c2 ds2 a h1 h2 => ?_⟩
  · rw [upd_ne]
    · exact s.bh _ _ h
    · rintro rfl; rw [bp] at h; cases h
  · rw [upd_ne]
    · exact s.fh _ _ h
    · rintro rfl; rw [np] at h; cases h
  · rcases get_set_cases e' with ⟨z, z2⟩ | ⟨ij, z⟩
    · subst z
      cases z2
      exact ⟨_, ev, p, us, rfl, upd_same, np, bp, hr⟩
    · obtain ⟨w, h1, h2⟩ := s.en j t' z
      refine ⟨w, h1, h2.stay (Same.refl _) (fun q hq o ho hk => ?_) fun _ _ _ hn => hn⟩
      rw [upd_ne]
      · exact ho
      · rintro rfl
        subst hq
        obtain ⟨k', fr2, d2⟩ := t'
        cases k' with
        | frz => exact hk.1 rfl
        | old => exact hk.2 rfl
        | bor => exact nb j _ z rfl h1
        | own => exact ij (s.dj i j q ow ⟨fr2, d2, z, h1⟩)
  · have o : ∀ {j : Nat}, OwnAt vs (ts.set i (some ⟨.own, fr', .lst ds'⟩)) j a → OwnAt vs ts j a := fun {j} ⟨fr2, d2, e1, e2⟩ => by
      rcases get_set_cases e1 with ⟨z, _⟩ | ⟨_, z⟩
      · subst z
        exact ⟨fr, d, e, e2⟩
      · exact ⟨fr2, d2, z, e2⟩
    exact s.dj j k a (o h1) (o h2)
  · rcases get_set_cases h1 with ⟨_, z⟩ | ⟨_, z⟩
    · cases z
    · exact s.oo j fr2 c2 ds2 a z h2
theorem SR.updL (s : SR Γ B A F H vs ts) (nb : noBor ts) {i : Nat} {fr fr' : Bool} {d : D} {p : Addr} {us : List V} {ds' : List D} (e : ts[i]? = some (some ⟨.own, fr, d⟩)) (ev : vs[i]? = some (some (.ref p))) (hr : RepL Γ (sel fr' B F) ds' us) :
    SR Γ B A F (upd H p (.lst us)) vs (ts.set i (some ⟨.own, fr', .lst ds'⟩)) := s.updL' (fun j t e k => (nb j t e k).elim) e ev hr
/-- an own object gets a field more -/
theorem SR.updO (s : SR Γ B A F H vs ts) (nb : noBor ts) {i : Nat} {fr fr' : Bool} {c0 : Cl} {ds0 : List D} {p C dx : Addr} {c : Cl} {us : List V} {ds' : List D} (e : ts[i]? = some (some ⟨.own, fr, .obj c0 ds0⟩)) (ev : vs[i]? = some (some (.ref p))) (hC : Γ.mg c.name = some (.ref C)) (hl : ds'.length ≤ c.fields.length) (hr : RepL Γ (sel fr' B F) ds' us) :
    SR Γ B A F (upd H p (.ins C dx (c.fields.zip us))) vs (ts.set i (some ⟨.own, fr', .obj c ds'⟩)) := by
  have ow : OwnAt vs ts i p := ⟨fr, _, e, ev⟩
  obtain ⟨u0, hp, np, bp⟩ := s.owned ow
  refine ⟨by rw [List.length_set]; exact s.ln, fun a u h => ?_, fun a u h => ?_, s.ab, s.af, s.fb, fun j t' e' => ?_, fun j k a h1 h2 => ?_, fun j fr2 c2 ds2 a h1 h2 => ?_⟩
  · rw [upd_ne]
    · exact s.bh _ _ h
    · rintro rfl; rw [bp] at h; cases h
  · rw [upd_ne]
    · exact s.fh _ _ h
    · rintro rfl; rw [np] at h; cases h
  · rcases get_set_cases e' with ⟨z, z2⟩ | ⟨ij, z⟩
    · subst z
      cases z2
      exact ⟨_, ev, p, C, dx, us, rfl, hC, upd_same, hl, np, bp, hr⟩
    · obtain ⟨w, h1, h2⟩ := s.en j t' z
      refine ⟨w, h1, h2.stay (Same.refl _) (fun q hq o ho hk => ?_) fun _ _ _ hn => hn⟩
      rw [upd_ne]
      · exact ho
      · rintro rfl
        subst hq
        obtain ⟨k', fr2, d2⟩ := t'
        cases k' with
        | frz => exact hk.1 rfl
        | old => exact hk.2 rfl
        | bor => exact nb j _ z rfl
        | own => exact ij (s.dj i j q ow ⟨fr2, d2, z, h1⟩)
  · have o : ∀ {j : Nat}, OwnAt vs (ts.set i (some ⟨.own, fr', .obj c ds'⟩)) j a → OwnAt vs ts j a := fun {j} ⟨fr2, d2, e1, e2⟩ => by
      rcases get_set_cases e1 with ⟨z, _⟩ | ⟨_, z⟩
      · subst z
        exact ⟨fr, _, e, e2⟩
      · exact ⟨fr2, d2, z, e2⟩
    exact s.dj j k a (o h1) (o h2)
  · rcases get_set_cases h1 with ⟨z, z2⟩ | ⟨_, z⟩
    · subst z
      rw [ev] at h2
      have h2 : p = a := by simpa using h2
      subst h2
      exact s.oo i fr c0 ds0 p e ev
    · exact s.oo j fr2 c2 ds2 a z h2
/-- what may be handed back: nothing borrowed, no object that is being made -/
def okRet : TV → Bool
  | ⟨.bor, _, _⟩ => false
  | ⟨.old, _, _⟩ => false
  | ⟨.own, _, .lst _⟩ => true
  | ⟨.own, _, _⟩ => false
  | _ => true
/-- what an exception bears: its dict at d -/
def Pay (Γ : Gm) (B F : Hp) (c : Ec) (d : Option Addr) : Prop := match c.x with
  | none => d = none
  | some (fr, ns, ds) => ∃ dd vs, d = some dd ∧ F dd = some (.xd (ns.zip vs)) ∧ B dd = none ∧ ds.length = ns.length ∧ RepL Γ (sel fr B F) ds vs
theorem Pay.of {c : Ec} {d : Option Addr} {B' : Hp} (h : Pay Γ B F c d) (k : ∀ fr ns ds dd vs, c.x = some (fr, ns, ds) → F dd = some (.xd (ns.zip vs)) → B dd = none → RepL Γ (sel fr B F) ds vs → F' dd = some (.xd (ns.zip vs)) ∧ B' dd = none ∧ RepL Γ (sel fr B' F') ds vs) : Pay Γ B' F' c d := by
  unfold Pay at h ⊢
  cases e : c.x with
  | none => simp only [e] at h ⊢; exact h
  | some q =>
    obtain ⟨fr, ns, ds⟩ := q
    simp only [e] at h ⊢
    obtain ⟨dd, vs, h1, h2, h3, h4, h5⟩ := h
    obtain ⟨k1, k2, k3⟩ := k fr ns ds dd vs e h2 h3 h5
    exact ⟨dd, vs, h1, k1, k2, h4, k3⟩
theorem Pay.mono {c : Ec} {d : Option Addr} (h : Pay Γ B F c d) (e : Same F F') : Pay Γ B F' c d := h.of fun fr ns ds dd vs _ h2 h3 h5 => ⟨e _ _ h2, h3, RepL.mono (sel_mono e) h5⟩
theorem Pay.plain {n : Str} : Pay Γ B F ⟨n, none⟩ none := rfl
/-- what a callee hands back, its arguments frozen -/
theorem SR.ret (s : SR Γ B A F H vs ts) (e : Same H H') (f : Same F F') (fh : Same F' H') (fb : ∀ a o, F' a = some o → F a = some o ∨ H a = none) (h : Ent Γ H F' H' t v) (nb : okRet t = true) : SR Γ B A F' H' (some v :: vs) (some t :: ts) := by
  have s1 := s.grow e f fh fb
  have wk : ∀ {fr : Bool}, Same (sel fr H F') (sel fr B F') := fun {fr} => by
    cases fr with
    | true => exact minus_mono2 s.bh
    | false => exact Same.refl _
  obtain ⟨k, fr, d⟩ := t
  cases k with
  | frz => exact s1.push (t := ⟨.frz, fr, d⟩) (Rep.mono wk h) (by intro z; cases z)
  | bor => cases nb
  | old => cases nb
  | own =>
    obtain ⟨p, o, rfl, _, _, hp⟩ := h.own
    refine s1.pushOwn (s.newNe hp) ?_ (fun c xs a z => by subst z; cases nb)
    cases d with
    | lst ds =>
      obtain ⟨q, us, h1, h2, h3, h4, h5⟩ := h
      exact ⟨q, us, h1, h2, h3, s.bh.free h4, RepL.mono wk h5⟩
    | obj c ds =>
      obtain ⟨q, C, dx, us, h1, h2, h3, h4, h5, h6, h7⟩ := h
      exact ⟨q, C, dx, us, h1, h2, h3, h4, h5, s.bh.free h6, RepL.mono wk h7⟩
    | _ => exact h.elim
/-- what is new joins what is frozen -/
theorem SR.joinNew (s : SR Γ B A F H vs ts) (e : Same H H') (fh : Same F' H') : SR Γ B A (join F (minus F' H)) H' vs ts ∧ Same (minus F' H) (minus (join F (minus F' H)) B) := by
  have f1 : Same F (join F (minus F' H)) := join_l
  have in1 : ∀ a o, minus F' H a = some o → H a = none ∧ F' a = some o := fun a o z => by
    unfold minus at z
    cases q : H a with
    | none => rw [q] at z; exact ⟨rfl, z⟩
    | some u => rw [q] at z; cases z
  have s1 : SR Γ B A (join F (minus F' H)) H' vs ts := by
    refine s.grow e f1 (fun a o z => ?_) fun a o z => ?_
    · unfold join at z
      cases q : F a with
      | none => rw [q] at z; exact fh _ _ (in1 _ _ z).2
      | some u => rw [q] at z; exact e _ _ (s.fh _ _ (q.trans z))
    · unfold join at z
      cases q : F a with
      | none => rw [q] at z; exact .inr (in1 _ _ z).1
      | some u => rw [q] at z; exact .inl z
  refine ⟨s1, fun a o z => ?_⟩
  obtain ⟨z1, z2⟩ := in1 a o z
  show (match B a with | none => join F (minus F' H) a | some _ => none) = some o
  rw [s.bh.free z1]
  show join F (minus F' H) a = some o
  unfold join
  rw [s.fh.free z1]
  exact z
/-- .. all of it new, whatever the arguments are -/
theorem SR.retNew (s : SR Γ B A F H vs ts) (e : Same H H') (fh : Same F' H') {k : Kd} {d : D} (h : Ent Γ H F' H' ⟨k, true, d⟩ v) (nb : okRet ⟨k, true, d⟩ = true) : ∃ F1, Same F F1 ∧ SR Γ B A F1 H' (some v :: vs) (some ⟨k, true, d⟩ :: ts) := by
  have f1 : Same F (join F (minus F' H)) := join_l
  have in1 : ∀ a o, minus F' H a = some o → H a = none ∧ F' a = some o := fun a o z => by
    unfold minus at z
    cases q : H a with
    | none => rw [q] at z; exact ⟨rfl, z⟩
    | some u => rw [q] at z; cases z
  have s1 : SR Γ B A (join F (minus F' H)) H' vs ts := by
    refine s.grow e f1 (fun a o z => ?_) fun a o z => ?_
    · unfold join at z
      cases q : F a with
      | none => rw [q] at z; exact fh _ _ (in1 _ _ z).2
      | some u => rw [q] at z; exact e _ _ (s.fh _ _ (q.trans z))
    · unfold join at z
      cases q : F a with
      | none => rw [q] at z; exact .inr (in1 _ _ z).1
      | some u => rw [q] at z; exact .inl z
  have wk : Same (minus F' H) (minus (join F (minus F' H)) B) := fun a o z => by
    obtain ⟨z1, z2⟩ := in1 a o z
    show (match B a with | none => join F (minus F' H) a | some _ => none) = some o
    rw [s.bh.free z1]
    show join F (minus F' H) a = some o
    unfold join
    rw [s.fh.free z1]
    exact z
  refine ⟨_, f1, ?_⟩
  cases k with
  | frz => exact s1.push (t := ⟨.frz, true, d⟩) (Rep.mono wk h) (by intro z; cases z)
  | bor => cases nb
  | old => cases nb
  | own =>
    obtain ⟨p, o, rfl, _, np, hp⟩ := h.own
    have jp : join F (minus F' H) p = none := by
      unfold join
      rw [s.fh.free hp]
      show minus F' H p = none
      unfold minus
      rw [hp]
      exact np
    refine s1.pushOwn (s.newNe hp) ?_ (fun c xs a z => by subst z; cases nb)
    cases d with
    | lst ds =>
      obtain ⟨q, us, h1, h2, h3, h4, h5⟩ := h
      cases h1
      exact ⟨p, us, rfl, h2, jp, s.bh.free h4, RepL.mono wk h5⟩
    | obj c ds =>
      obtain ⟨q, C, dx, us, h1, h2, h3, h4, h5, h6, h7⟩ := h
      cases h1
      exact ⟨p, C, dx, us, rfl, h2, h3, h4, jp, s.bh.free h6, RepL.mono wk h7⟩
    | _ => exact h.elim
end
end Dl

namespace Dl
open PySem PySem.Spec PyProof.Rows L2

/-! ## equality of data -/
mutual
def D.pd : D → PyData
  | .non => .none
  | .bl b => .bool b
  | .int i => .int i
  | .str x => .str x
  | .lst xs => .list (D.pdL xs)
  | .tup xs => .tuple (D.pdL xs)
  | .obj _ _ => .dict []
  | .exc _ _ => .dict []
  | .xcp _ _ _ _ _ => .dict []
  | .fl _ => .dict []
def D.pdL : List D → List PyData
  | [] => []
  | d :: ds => d.pd :: D.pdL ds
end
/-- data that == tells apart: at most n deep -/
def D.plain : Nat → D → Bool
  | _, .non => true
  | _, .bl _ => true
  | _, .int _ => true
  | _, .str x => PyData.strOk x
  | n + 1, .lst xs => xs.all (D.plain n)
  | n + 1, .tup xs => xs.all (D.plain n)
  | _, _ => false
mutual
def D.eqv : D → D → Bool
  | .non, .non => true
  | .bl a, .bl b => a == b
  | .bl a, .int j => (if a then 1 else 0) == j
  | .int i, .bl b => i == (if b then 1 else 0)
  | .int i, .int j => i == j
  | .str x, .str y => x == y
  | .lst xs, .lst ys => D.eqvL xs ys
  | .tup xs, .tup ys => D.eqvL xs ys
  | _, _ => false
def D.eqvL : List D → List D → Bool
  | [], [] => true
  | x :: xs, y :: ys => D.eqv x y && D.eqvL xs ys
  | _, _ => false
end
mutual
theorem eqv_pd : ∀ (d e : D) (n : Nat), d.plain n = true → e.plain n = true → PyData.eqv d.pd e.pd = d.eqv e
  | .lst xs, e, n, h, h2 => by
    cases n with
    | zero => cases e <;> first | rfl | (unfold D.plain at h; cases h)
    | succ n =>
      cases e with
      | lst ys =>
        simp only [D.pd, PyData.eqv, D.eqv]
        simp only [D.plain] at h h2
        exact eqvL_pd xs ys n h h2
      | obj c ds => unfold D.plain at h2; cases h2
      | exc c a => unfold D.plain at h2; cases h2
      | xcp c a dd ns ds => unfold D.plain at h2; cases h2
      | fl c => unfold D.plain at h2; cases h2
      | _ => simp only [D.pd, PyData.eqv, D.eqv]
  | .tup xs, e, n, h, h2 => by
    cases n with
    | zero => cases e <;> first | rfl | (unfold D.plain at h; cases h)
    | succ n =>
      cases e with
      | tup ys =>
        simp only [D.pd, PyData.eqv, D.eqv]
        simp only [D.plain] at h h2
        exact eqvL_pd xs ys n h h2
      | obj c ds => unfold D.plain at h2; cases h2
      | exc c a => unfold D.plain at h2; cases h2
      | xcp c a dd ns ds => unfold D.plain at h2; cases h2
      | fl c => unfold D.plain at h2; cases h2
      | _ => simp only [D.pd, PyData.eqv, D.eqv]
  | .non, e, n, h, h2 => by cases e <;> simp only [D.pd, PyData.eqv, D.eqv]
  | .bl a, e, n, h, h2 => by cases e <;> simp only [D.pd, PyData.eqv, D.eqv]
  | .int a, e, n, h, h2 => by cases e <;> simp only [D.pd, PyData.eqv, D.eqv]
  | .str a, e, n, h, h2 => by cases e <;> simp only [D.pd, PyData.eqv, D.eqv]
  | .obj c ds, e, n, h, h2 => by unfold D.plain at h; cases h
  | .exc c a, e, n, h, h2 => by unfold D.plain at h; cases h
  | .xcp c a dd ns ds, e, n, h, h2 => by unfold D.plain at h; cases h
  | .fl c, e, n, h, h2 => by unfold D.plain at h; cases h
theorem eqvL_pd : ∀ (xs ys : List D) (n : Nat), xs.all (D.plain n) = true → ys.all (D.plain n) = true → PyData.eqvAll (D.pdL xs) (D.pdL ys) = D.eqvL xs ys
  | [], [], n, h, h2 => by simp only [D.pdL, PyData.eqvAll, D.eqvL]
  | [], y :: ys, n, h, h2 => by simp only [D.pdL, PyData.eqvAll, D.eqvL]
  | x :: xs, [], n, h, h2 => by simp only [D.pdL, PyData.eqvAll, D.eqvL]
  | x :: xs, y :: ys, n, h, h2 => by
    simp only [List.all_cons, Bool.and_eq_true] at h h2
    simp only [D.pdL, PyData.eqvAll, D.eqvL]
    rw [eqv_pd x y n h.1 h2.1, eqvL_pd xs ys n h.2 h2.2]
end
mutual
theorem plain_pd : ∀ (d : D) (n : Nat), d.plain n = true → d.pd.canLay0 = true ∧ d.pd.depth ≤ n
  | .lst xs, n, h => by
    cases n with
    | zero => unfold D.plain at h; cases h
    | succ n =>
      simp only [D.plain] at h
      obtain ⟨h1, h2⟩ := plainL_pd xs n h
      simp only [D.pd, PyData.canLay0, PyData.depth]
      exact ⟨h1, by omega⟩
  | .tup xs, n, h => by
    cases n with
    | zero => unfold D.plain at h; cases h
    | succ n =>
      simp only [D.plain] at h
      obtain ⟨h1, h2⟩ := plainL_pd xs n h
      simp only [D.pd, PyData.canLay0, PyData.depth]
      exact ⟨h1, by omega⟩
  | .non, n, h => by simp only [D.pd, PyData.canLay0, PyData.depth]; exact ⟨trivial, Nat.zero_le _⟩
  | .bl a, n, h => by simp only [D.pd, PyData.canLay0, PyData.depth]; exact ⟨trivial, Nat.zero_le _⟩
  | .int a, n, h => by simp only [D.pd, PyData.canLay0, PyData.depth]; exact ⟨trivial, Nat.zero_le _⟩
  | .str a, n, h => by
    simp only [D.pd, PyData.canLay0, PyData.depth]
    refine ⟨?_, Nat.zero_le _⟩
    cases n <;> simpa only [D.plain] using h
  | .obj c ds, n, h => by unfold D.plain at h; cases h
  | .exc c a, n, h => by unfold D.plain at h; cases h
  | .xcp c a dd ns ds, n, h => by unfold D.plain at h; cases h
  | .fl c, n, h => by unfold D.plain at h; cases h
theorem plainL_pd : ∀ (xs : List D) (n : Nat), xs.all (D.plain n) = true → PyData.canLayAll0 (D.pdL xs) = true ∧ PyData.depthAll (D.pdL xs) ≤ n
  | [], n, h => by simp only [D.pdL, PyData.canLayAll0, PyData.depthAll]; exact ⟨trivial, Nat.zero_le _⟩
  | x :: xs, n, h => by
    simp only [List.all_cons, Bool.and_eq_true] at h
    obtain ⟨h1, h2⟩ := plain_pd x n h.1
    obtain ⟨h3, h4⟩ := plainL_pd xs n h.2
    simp only [D.pdL, PyData.canLayAll0, PyData.depthAll, h1, h3, Bool.and_self, true_and]
    omega
end
mutual
theorem rep_dp {Γ : Gm} {F : Hp} : ∀ (d : D) (n : Nat) (v : V), d.plain n = true → Rep Γ F d v → Dp Γ.K F v d.pd
  | .lst xs, n, v, h, r => by
    cases n with
    | zero => unfold D.plain at h; cases h
    | succ n =>
      simp only [D.plain] at h
      simp only [Rep] at r
      obtain ⟨p, vs, rfl, h1, h2⟩ := r
      simp only [D.pd]
      exact .lst (SqL.of h1) (repL_dp xs n vs h h2)
  | .tup xs, n, v, h, r => by
    cases n with
    | zero => unfold D.plain at h; cases h
    | succ n =>
      simp only [D.plain] at h
      simp only [Rep] at r
      obtain ⟨p, vs, rfl, h1, h2⟩ := r
      simp only [D.pd]
      exact .tup h1 (repL_dp xs n vs h h2)
  | .non, n, v, h, r => by simp only [Rep] at r; subst r; simp only [D.pd]; exact .non
  | .bl a, n, v, h, r => by simp only [Rep] at r; subst r; simp only [D.pd]; exact .bl _
  | .int a, n, v, h, r => by simp only [Rep] at r; subst r; simp only [D.pd]; exact .int _
  | .str a, n, v, h, r => by simp only [Rep] at r; subst r; simp only [D.pd]; exact .str _
  | .obj c ds, n, v, h, r => by unfold D.plain at h; cases h
  | .exc c a, n, v, h, r => by unfold D.plain at h; cases h
  | .xcp c a dd ns ds, n, v, h, r => by unfold D.plain at h; cases h
  | .fl c, n, v, h, r => by unfold D.plain at h; cases h
theorem repL_dp {Γ : Gm} {F : Hp} : ∀ (ds : List D) (n : Nat) (vs : List V), ds.all (D.plain n) = true → RepL Γ F ds vs → DpAll Γ.K F vs (D.pdL ds)
  | [], n, vs, h, r => by rw [r.nil_inv]; simp only [D.pdL]; exact .nil
  | d :: ds, n, vs, h, r => by
    simp only [List.all_cons, Bool.and_eq_true] at h
    obtain ⟨v, u, rfl, h1, h2⟩ := r.cons_inv
    simp only [D.pdL]
    exact .cons (rep_dp d n v h.1 h1) (repL_dp ds n u h.2 h2)
end
theorem plain_shaped {d : D} (h : d.plain 64 = true) : SeqAt.shaped d.pd = true := by
  obtain ⟨h1, h2⟩ := plain_pd d 64 h
  unfold SeqAt.shaped
  rw [h1, Bool.true_and]
  exact decide_eq_true h2
/-- a value read as data, whatever kind -/
theorem Ent.rep {Γ : Gm} {B F H : Hp} {t : TV} {v : V} (e : Ent Γ B F H t v) (fh : Same F H) : Rep Γ H t.d v := by
  have w : ∀ {fr : Bool}, Same (sel fr B F) H := fun {fr} => sel_same.trans fh
  obtain ⟨k, fr, d⟩ := t
  cases k with
  | frz => exact Rep.mono w e
  | old => exact Rep.mono w e.unold
  | own =>
    cases d with
    | lst ds =>
      obtain ⟨p, us, h1, h2, h3, h4, h5⟩ := e
      simp only [Rep]
      exact ⟨p, us, h1, h2, RepL.mono w h5⟩
    | obj c ds =>
      obtain ⟨p, C, dx, us, h1, h2, h3, h4, h5, h6, h7⟩ := e
      simp only [Rep]
      exact ⟨p, C, dx, us, h1, h2, h3, h4, RepL.mono w h7⟩
    | _ => exact e.elim
  | bor =>
    cases d with
    | lst ds =>
      obtain ⟨p, us, h1, h2, h5⟩ := e
      simp only [Rep]
      exact ⟨p, us, h1, h2, RepL.mono w h5⟩
    | obj c ds =>
      obtain ⟨p, C, dx, us, h1, h2, h3, h4, h7⟩ := e
      simp only [Rep]
      exact ⟨p, C, dx, us, h1, h2, h3, h4, RepL.mono w h7⟩
    | _ => exact e.elim

/-! ## mirrors -/
abbrev ME := Sta → Res (TV × Sta)
abbrev MT := Sta → Res (Bool × Sta)
abbrev MA := Sta → Res (List TV × Sta)
inductive Ctl where
  | next | brk | cont
  | ret (t : TV)
abbrev MS := Sta → Res (Ctl × Sta)
def Res.bind {α β : Type} (r : Res α) (f : α → Res β) : Res β := match r with
  | .ok a => f a
  | .err c s => .err c s
  | .stuck => .stuck
def TV.i (i : Int) : TV := ⟨.frz, true, .int i⟩
def TV.b (b : Bool) : TV := ⟨.frz, true, .bl b⟩
def TV.n : TV := ⟨.frz, true, .non⟩
def TV.s (x : Str) : TV := ⟨.frz, true, .str x⟩
/-- an item of a list or a tuple -/
def TV.el (fr : Bool) (d : D) : TV := ⟨.frz, fr || d.atom, d⟩

section
variable {Γ : Gm} {W : WX} {B F F' H H' : Hp} {A : Ao} {τ τ' : List (Option V)} {ds ds' : Sta} {σ : L2.St} {st : Sta}
/-- what is known behind a run: P of what it gives; W of what it raises -/
def rPost {α : Type} (Γ : Gm) (W : WX) (B : Hp) (A : Ao) (τ : List (Option V)) (ds : Sta) (σ : L2.St) (P : α → Sta → Hp → Prop) (F : Hp) (r : Res (α × Sta)) : Prop := match r with
  | .ok (a, st') => P a st' F
  | .err c st' => ∀ C d H' F', Γ.mg c.n = some (.ref C) → Same F F' → Pay Γ B F' c d → SR Γ B A F' H' (τ ++ σ) (ds ++ st') → W (.ref C) d σ H'
  | .stuck => False
def eP (Γ : Gm) (B : Hp) (A : Ao) (τ : List (Option V)) (ds : Sta) (σ : L2.St) (Q : VK) : TV → Sta → Hp → Prop := fun t st' F => ∀ v H' F', Same F F' → SR Γ B A F' H' (some v :: (τ ++ σ)) (some t :: (ds ++ st')) → Q v H'
def tP (Γ : Gm) (B : Hp) (A : Ao) (τ : List (Option V)) (ds : Sta) (σ : L2.St) (Q : Bool → Hp → Prop) : Bool → Sta → Hp → Prop := fun b st' F => ∀ H' F', Same F F' → SR Γ B A F' H' (τ ++ σ) (ds ++ st') → Q b H'
def tpush (ts : List TV) (ds : Sta) : Sta := (ts.map some).reverse ++ ds
def vpush (vs : List V) (τ : List (Option V)) : List (Option V) := (vs.map some).reverse ++ τ
def aP (Γ : Gm) (B : Hp) (A : Ao) (τ : List (Option V)) (ds : Sta) (σ : L2.St) (Q : List V → Hp → Prop) : List TV → Sta → Hp → Prop := fun ts st' F => ∀ vs H' F', vs.length = ts.length → Same F F' → SR Γ B A F' H' (vpush vs τ ++ σ) (tpush ts ds ++ st') → Q vs H'
def teOf (Γ : Gm) (W : WX) (m : ME) : TE := fun σ H Q => ∃ B A F τ ds st, τ.length = ds.length ∧ SR Γ B A F H (τ ++ σ) (ds ++ st) ∧ rPost Γ W B A τ ds σ (eP Γ B A τ ds σ Q) F (m st)
def ttOf (Γ : Gm) (W : WX) (m : MT) : TT := fun σ H Q => ∃ B A F τ ds st, τ.length = ds.length ∧ SR Γ B A F H (τ ++ σ) (ds ++ st) ∧ rPost Γ W B A τ ds σ (tP Γ B A τ ds σ Q) F (m st)
def taOf (Γ : Gm) (W : WX) (m : MA) : TA := fun σ H Q => ∃ B A F τ ds st, τ.length = ds.length ∧ SR Γ B A F H (τ ++ σ) (ds ++ st) ∧ rPost Γ W B A τ ds σ (aP Γ B A τ ds σ Q) F (m st)
def Mono {α : Type} (P : α → Sta → Hp → Prop) : Prop := ∀ a st F F', Same F F' → P a st F → P a st F'
theorem eP.mono {Q : VK} : Mono (eP Γ B A τ ds σ Q) := fun t st F F' e h v H' F2 e2 s => h v H' F2 (e.trans e2) s
theorem tP.mono {Q : Bool → Hp → Prop} : Mono (tP Γ B A τ ds σ Q) := fun t st F F' e h H' F2 e2 s => h H' F2 (e.trans e2) s
theorem aP.mono {Q : List V → Hp → Prop} : Mono (aP Γ B A τ ds σ Q) := fun t st F F' e h vs H' F2 l e2 s => h vs H' F2 l (e.trans e2) s
theorem rPost.mono {α : Type} {P : α → Sta → Hp → Prop} (m : Mono P) {r : Res (α × Sta)} (e : Same F F') (h : rPost Γ W B A τ ds σ P F r) : rPost Γ W B A τ ds σ P F' r := by
  cases r with
  | ok p => exact m _ _ _ _ e h
  | err c st' => exact fun C d H' F2 g e2 y s => h C d H' F2 g (e.trans e2) y s
  | stuck => exact h
theorem rPost.mono' {α : Type} {P P' : α → Sta → Hp → Prop} {r : Res (α × Sta)} (h : rPost Γ W B A τ ds σ P F r) (k : ∀ a st' F, P a st' F → P' a st' F) : rPost Γ W B A τ ds σ P' F r := by
  cases r with
  | ok p => exact k _ _ _ h
  | err c st' => exact h
  | stuck => exact h
/-- a run, then k -/
theorem rPost.bind {α β : Type} {m : Res (α × Sta)} {k : α × Sta → Res (β × Sta)} {P : β → Sta → Hp → Prop} {P' : α → Sta → Hp → Prop} (dn : ∀ F H st, SR Γ B A F H (τ' ++ σ) (ds' ++ st) → SR Γ B A F H (τ ++ σ) (ds ++ st))
    (h : rPost Γ W B A τ ds σ P F (m.bind k)) (ok : ∀ a st1, m = .ok (a, st1) → rPost Γ W B A τ ds σ P F (k (a, st1)) → P' a st1 F) : rPost Γ W B A τ' ds' σ P' F m := by
  cases m with
  | ok p => exact ok p.1 p.2 rfl h
  | err c st1 => exact fun C d H2 F2 g f2 y s2 => h C d H2 F2 g f2 y (dn _ _ _ s2)
  | stuck => exact h
theorem te_in {α : Type} {m : ME} {k : TV × Sta → Res (α × Sta)} {P : α → Sta → Hp → Prop} (mo : Mono P) {Q' : VK} (hl : τ'.length = ds'.length) (dn : ∀ F H st, SR Γ B A F H (τ' ++ σ) (ds' ++ st) → SR Γ B A F H (τ ++ σ) (ds ++ st)) (s : SR Γ B A F H (τ' ++ σ) (ds' ++ st))
    (h : rPost Γ W B A τ ds σ P F ((m st).bind k)) (ok : ∀ t st1 v H1 F1, Same F F1 → SR Γ B A F1 H1 (some v :: (τ' ++ σ)) (some t :: (ds' ++ st1)) → rPost Γ W B A τ ds σ P F1 (k (t, st1)) → Q' v H1) : teOf Γ W m σ H Q' :=
  ⟨B, A, F, τ', ds', st, hl, s, h.bind dn fun t st1 _ q v H1 F1 f s1 => ok t st1 v H1 F1 f s1 (q.mono mo f)⟩
theorem tt_in {α : Type} {m : MT} {k : Bool × Sta → Res (α × Sta)} {P : α → Sta → Hp → Prop} (mo : Mono P) {Q' : Bool → Hp → Prop} (hl : τ'.length = ds'.length) (dn : ∀ F H st, SR Γ B A F H (τ' ++ σ) (ds' ++ st) → SR Γ B A F H (τ ++ σ) (ds ++ st)) (s : SR Γ B A F H (τ' ++ σ) (ds' ++ st))
    (h : rPost Γ W B A τ ds σ P F ((m st).bind k)) (ok : ∀ b st1 H1 F1, Same F F1 → SR Γ B A F1 H1 (τ' ++ σ) (ds' ++ st1) → rPost Γ W B A τ ds σ P F1 (k (b, st1)) → Q' b H1) : ttOf Γ W m σ H Q' :=
  ⟨B, A, F, τ', ds', st, hl, s, h.bind dn fun b st1 _ q H1 F1 f s1 => ok b st1 H1 F1 f s1 (q.mono mo f)⟩
theorem ta_in {α : Type} {m : MA} {k : List TV × Sta → Res (α × Sta)} {P : α → Sta → Hp → Prop} (mo : Mono P) {Q' : List V → Hp → Prop} (hl : τ'.length = ds'.length) (dn : ∀ F H st, SR Γ B A F H (τ' ++ σ) (ds' ++ st) → SR Γ B A F H (τ ++ σ) (ds ++ st)) (s : SR Γ B A F H (τ' ++ σ) (ds' ++ st))
    (h : rPost Γ W B A τ ds σ P F ((m st).bind k)) (ok : ∀ ts st1 vs H1 F1, vs.length = ts.length → Same F F1 → SR Γ B A F1 H1 (vpush vs τ' ++ σ) (tpush ts ds' ++ st1) → rPost Γ W B A τ ds σ P F1 (k (ts, st1)) → Q' vs H1) : taOf Γ W m σ H Q' :=
  ⟨B, A, F, τ', ds', st, hl, s, h.bind dn fun ts st1 _ q vs H1 F1 l f s1 => ok ts st1 vs H1 F1 l f s1 (q.mono mo f)⟩
theorem pe_imp {X : Cx} {e : Expr} {t t' : TE} (h : PE X e t) (k : ∀ σ H Q, t' σ H Q → t σ H Q) : PE X e t' := ⟨fun pins s σ H Q I q => h.run pins s σ H Q I (k _ _ _ q)⟩
theorem pt_imp {X : Cx} {e : Expr} {t t' : TT} (h : PT X e t) (k : ∀ σ H Q, t' σ H Q → t σ H Q) : PT X e t' := ⟨fun pins s σ H Q I q => h.run pins s σ H Q I (k _ _ _ q)⟩
theorem pa_imp {X : Cx} {e : List Expr} {t t' : TA} (h : PA X e t) (k : ∀ σ H Q, t' σ H Q → t σ H Q) : PA X e t' := ⟨fun po pins s σ H Q I q => h.run po pins s σ H Q I (k _ _ _ q)⟩
theorem pw_imp {X : Cx} {e : Expr} {t t' : TT} (h : PW X e t) (k : ∀ σ H Q, t' σ H Q → t σ H Q) : PW X e t' := ⟨fun wh pins s σ H Q I q => h.run wh pins s σ H Q I (k _ _ _ q)⟩
theorem ps_imp {X : Cx} {e : Stmt} {t t' : TS} (h : PS X e t) (k : ∀ D σ H, t' D σ H → t D σ H) : PS X e t' := ⟨fun pins s σ H D I q => h.run pins s σ H D I (k _ _ _ q)⟩
theorem pss_imp {X : Cx} {e : List Stmt} {t t' : TS} (h : PSs X e t) (k : ∀ D σ H, t' D σ H → t D σ H) : PSs X e t' := ⟨fun pins s σ H D I q => h.run pins s σ H D I (k _ _ _ q)⟩

/-! ## places -/
def getS : Sta → Nat → Option TV
  | [], _ => none
  | x :: _, 0 => x
  | _ :: r, n + 1 => getS r n
def setS : Sta → Nat → Option TV → Sta
  | [], _, _ => []
  | _ :: r, 0, y => y :: r
  | x :: r, n + 1, y => x :: setS r n y
theorem getS_get : ∀ {st : Sta} {i : Nat} {t : TV}, getS st i = some t → st[i]? = some (some t)
  | x :: _, 0, t, h => by simpa [getS] using h
  | _ :: r, n + 1, t, h => by simpa using getS_get (st := r) (i := n) (by simpa [getS] using h)
theorem setS_set : ∀ (st : Sta) (i : Nat) (y : Option TV), setS st i y = st.set i y
  | [], _, _ => rfl
  | _ :: r, 0, y => rfl
  | x :: r, n + 1, y => by
    show x :: setS r n y = x :: r.set n y
    rw [setS_set r n y]
theorem at_slot (hl : τ.length = ds.length) {i : Nat} {t : TV} (h : getS st i = some t) : (ds ++ st)[ds.length + i]? = some (some t) := by
  rw [List.getElem?_append_right (by omega), Nat.add_sub_cancel_left]
  exact getS_get h
theorem val_slot (hl : τ.length = ds.length) {i : Nat} {v : V} (h : (τ ++ σ)[ds.length + i]? = some (some v)) : σ[i]? = some (some v) := by
  rw [List.getElem?_append_right (by omega), hl, Nat.add_sub_cancel_left] at h
  exact h
theorem set_slot {α : Type} (l r : List α) (i : Nat) (y : α) : (l ++ r).set (l.length + i) y = l ++ r.set i y := by
  induction l with
  | nil => simp
  | cons a l ih =>
    rw [List.cons_append, List.cons_append, List.length_cons, show l.length + 1 + i = (l.length + i) + 1 from by omega, List.set_cons_succ, ih]
end
end Dl

namespace Dl
open PySem PySem.Spec PyProof.Rows L2
section
variable {Γ : Gm} {W : WX} {B F F' H H' : Hp} {A : Ao} {τ τ' : List (Option V)} {ds ds' : Sta} {σ : L2.St} {st : Sta}
def ofO {α : Type} (o : Option α) (st : Sta) : Res (α × Sta) := match o with
  | some a => .ok (a, st)
  | none => .stuck
theorem rPost.ofO {α : Type} {P : α → Sta → Hp → Prop} {o : Option α} (h : rPost Γ W B A τ ds σ P F (ofO o st)) : ∃ a, o = some a ∧ P a st F := by
  cases o with
  | none => exact h.elim
  | some a => exact ⟨a, rfl, h⟩

/-! ## constants, names -/
def mC (t : TV) : ME := fun st => .ok (t, st)
def TV.c : TV → V
  | ⟨_, _, .int i⟩ => .int i
  | ⟨_, _, .bl b⟩ => .bl b
  | ⟨_, _, .str x⟩ => .str x
  | _ => .non
theorem te_const {t : TV} {v : V} (ht : ∀ B F H, Ent Γ B F H t v) (k : t.k ≠ .own) {H : Hp} {Q : VK} (h : teOf Γ W (mC t) σ H Q) : tC v σ H Q := by
  obtain ⟨B, A, F, τ, ds, st, hl, s, q⟩ := h
  exact q v H F (Same.refl _) (s.push (ht _ _ _) k)
theorem ent_atom {d : D} {v : V} {fr : Bool} (h : Rep Γ F' d v) (a : d.atom = true) : Ent Γ B F H ⟨.frz, fr, d⟩ v := Rep.atom h a
theorem ent_i {i : Int} : Ent Γ B F H (.i i) (.int i) := by
  show Rep Γ _ _ _
  simp only [Rep]
theorem ent_b {i : Bool} : Ent Γ B F H (.b i) (.bl i) := by
  show Rep Γ _ _ _
  simp only [Rep]
theorem ent_n : Ent Γ B F H .n .non := by
  show Rep Γ _ _ _
  simp only [Rep]
theorem ent_s {i : Str} : Ent Γ B F H (.s i) (.str i) := by
  show Rep Γ _ _ _
  simp only [Rep]
theorem qe_int {X : Cx} {i j pos} : PE X (.Constant (.int i) j pos) (teOf Γ W (mC (.i i))) := pe_imp pe_int fun _ _ _ h => te_const (fun _ _ _ => ent_i) (by intro z; cases z) h
theorem qe_bl {X : Cx} {i j pos} : PE X (.Constant (.bool i) j pos) (teOf Γ W (mC (.b i))) := pe_imp pe_bl fun _ _ _ h => te_const (fun _ _ _ => ent_b) (by intro z; cases z) h
theorem qe_non {X : Cx} {j pos} : PE X (.Constant .none j pos) (teOf Γ W (mC .n)) := pe_imp pe_non fun _ _ _ h => te_const (fun _ _ _ => ent_n) (by intro z; cases z) h
theorem qe_str {X : Cx} {i j pos} : PE X (.Constant (.str i) j pos) (teOf Γ W (mC (.s i))) := pe_imp pe_str fun _ _ _ h => te_const (fun _ _ _ => ent_s) (by intro z; cases z) h
/-- a name, looked at -/
def bor : TV → Option TV
  | ⟨.own, fr, .lst ds⟩ => some ⟨.bor, fr, .lst ds⟩
  | ⟨.own, fr, .obj c ds⟩ => some ⟨.bor, fr, .obj c ds⟩
  | ⟨.own, _, _⟩ => none
  | ⟨.old, fr, d⟩ => some ⟨.frz, fr, d⟩
  | t => some t
def mVB (i : Nat) : ME := fun st => match getS st i with
  | some t => ofO (bor t) st
  | none => .stuck
/-- a name, its value frozen -/
def mVF (i : Nat) : ME := fun st => match getS st i with
  | some ⟨.own, fr, d⟩ => .ok (⟨.frz, fr, d⟩, setS st i (some ⟨.frz, fr, d⟩))
  | some ⟨.frz, fr, d⟩ => .ok (⟨.frz, fr, d⟩, st)
  | some ⟨.old, fr, d⟩ => .ok (⟨.frz, fr, d⟩, st)
  | _ => .stuck
theorem SR.slot (hl : τ.length = ds.length) (s : SR Γ B A F H (τ ++ σ) (ds ++ st)) {i : Nat} {t : TV} (h : getS st i = some t) : ∃ v, σ[i]? = some (some v) ∧ (τ ++ σ)[ds.length + i]? = some (some v) ∧ Ent Γ B F H t v := by
  obtain ⟨v, e1, e2⟩ := s.en _ _ (at_slot hl h)
  exact ⟨v, val_slot hl e1, e1, e2⟩
theorem te_vb {i : Nat} {H : Hp} {Q : VK} (h : teOf Γ W (mVB i) σ H Q) : tVar i σ H Q := by
  obtain ⟨B, A, F, τ, ds, st, hl, s, q⟩ := h
  unfold mVB at q
  cases e : getS st i with
  | none => rw [e] at q; exact q.elim
  | some t =>
    rw [e] at q
    obtain ⟨v, e1, e0, e2⟩ := s.slot hl e
    obtain ⟨t', et, q⟩ := rPost.ofO q
    refine ⟨v, e1, q v H F (Same.refl _) (s.push ?_ ?_)⟩
    · obtain ⟨k, fr, d⟩ := t
      cases k with
      | own =>
        cases d with
        | lst xs =>
          cases et
          obtain ⟨p, us, h1, h2, h3, h4, h5⟩ := e2
          exact ⟨p, us, h1, h2, h5⟩
        | obj c xs =>
          cases et
          obtain ⟨p, C, dx, us, h1, h2, h3, h4, h5, h6, h7⟩ := e2
          exact ⟨p, C, dx, us, h1, h2, h3, h4, h7⟩
        | _ => cases et
      | frz => cases et; exact e2
      | old => cases et; exact e2.unold
      | bor => cases et; exact e2
    · obtain ⟨k, fr, d⟩ := t
      cases k with
      | own => cases d <;> cases et <;> (intro z; cases z)
      | frz => cases et; intro z; cases z
      | old => cases et; intro z; cases z
      | bor => cases et; intro z; cases z
theorem te_vf {i : Nat} {H : Hp} {Q : VK} (h : teOf Γ W (mVF i) σ H Q) : tVar i σ H Q := by
  obtain ⟨B, A, F, τ, ds, st, hl, s, q⟩ := h
  unfold mVF at q
  cases e : getS st i with
  | none => rw [e] at q; exact q.elim
  | some t =>
    rw [e] at q
    obtain ⟨v, e1, e0, e2⟩ := s.slot hl e
    obtain ⟨k, fr, d⟩ := t
    cases k with
    | bor => exact q.elim
    | frz => exact ⟨v, e1, q v H F (Same.refl _) (s.push e2 (by intro z; cases z))⟩
    | old => exact ⟨v, e1, q v H F (Same.refl _) (s.push e2.unold (by intro z; cases z))⟩
    | own =>
      obtain ⟨F1, f1, s1⟩ := s.freeze (at_slot hl e)
      refine ⟨v, e1, q v H F1 f1 ?_⟩
      obtain ⟨w, w1, w2⟩ := s1.en (ds.length + i) ⟨.frz, fr, d⟩ (by
        rw [List.getElem?_set_self]
        exact (List.getElem?_eq_some_iff.mp (at_slot hl e)).1)
      rw [e0] at w1
      have : v = w := by simpa using w1
      subst this
      rw [set_slot, ← setS_set] at s1
      exact s1.push w2 (by intro z; cases z)
theorem qe_vb {X : Cx} (i : Nat) {x : Str} {pos : Pos} (h : PE X (.Name x pos) (tVar i)) : PE X (.Name x pos) (teOf Γ W (mVB i)) := pe_imp h fun _ _ _ => te_vb
theorem qe_vf {X : Cx} (i : Nat) {x : Str} {pos : Pos} (h : PE X (.Name x pos) (tVar i)) : PE X (.Name x pos) (teOf Γ W (mVF i)) := pe_imp h fun _ _ _ => te_vf
/-- a value that will be kept somewhere: frozen -/
def mFz (m : ME) : ME := fun st => (m st).bind fun p => match p.1 with
  | ⟨.bor, _, _⟩ => .stuck
  | ⟨_, fr, d⟩ => .ok (⟨.frz, fr, d⟩, p.2)
theorem SR.freezeTop {vs : List (Option V)} {ts : Sta} {k : Kd} {fr : Bool} {d : D} {v : V} (nb : k ≠ .bor) (s : SR Γ B A F H (some v :: vs) (some ⟨k, fr, d⟩ :: ts)) : ∃ F', Same F F' ∧ SR Γ B A F' H (some v :: vs) (some ⟨.frz, fr, d⟩ :: ts) := by
  cases k with
  | frz => exact ⟨F, Same.refl _, s⟩
  | old => exact ⟨F, Same.refl _, s.pop.push s.top.unold (by intro z; cases z)⟩
  | bor => exact (nb rfl).elim
  | own => exact s.freeze (i := 0) rfl
theorem te_fz {m : ME} {H : Hp} {Q : VK} (h : teOf Γ W (mFz m) σ H Q) : teOf Γ W m σ H Q := by
  obtain ⟨B, A, F, τ, ds, st, hl, s, q⟩ := h
  refine te_in (τ := τ) (ds := ds) eP.mono hl (fun _ _ _ s => s) s q fun t st1 v H1 F1 f1 s1 q1 => ?_
  obtain ⟨k, fr, d⟩ := t
  cases k with
  | bor => exact q1.elim
  | frz => exact q1 v H1 F1 (Same.refl _) s1
  | old => exact q1 v H1 F1 (Same.refl _) (s1.pop.push s1.top.unold (by intro z; cases z))
  | own =>
    obtain ⟨F2, f2, s2⟩ := s1.freezeTop (by intro z; cases z)
    exact q1 v H1 F2 f2 s2
theorem qe_fz {X : Cx} {e : Expr} {m : ME} (h : PE X e (teOf Γ W m)) : PE X e (teOf Γ W (mFz m)) := pe_imp h fun _ _ _ => te_fz

/-! ## operators -/
def mBin (f : TV → TV → Option TV) (ma mb : ME) : ME := fun st => (ma st).bind fun p => (mb p.2).bind fun q => ofO (f p.1 q.1) q.2
def mUn (f : TV → Option TV) (ma : ME) : ME := fun st => (ma st).bind fun p => ofO (f p.1) p.2
/-- r does what f says -/
def Does2 (Γ : Gm) (f : TV → TV → Option TV) (r : R2) : Prop := ∀ (B : Hp) (A : Ao) (F H : Hp) (vs : List (Option V)) (ts : Sta) (x y : V) (a b t : TV), SR Γ B A F H (some y :: some x :: vs) (some b :: some a :: ts) → f a b = some t →
  ∀ Q : VK, (∀ v H' F', Same F F' → SR Γ B A F' H' (some v :: vs) (some t :: ts) → Q v H') → r x y H Q
def Does1 (Γ : Gm) (f : TV → Option TV) (r : V → Hp → VK → Prop) : Prop := ∀ (B : Hp) (A : Ao) (F H : Hp) (vs : List (Option V)) (ts : Sta) (x : V) (a t : TV), SR Γ B A F H (some x :: vs) (some a :: ts) → f a = some t →
  ∀ Q : VK, (∀ v H' F', Same F F' → SR Γ B A F' H' (some v :: vs) (some t :: ts) → Q v H') → r x H Q
theorem te_bin {f : TV → TV → Option TV} {r : R2} (d : Does2 Γ f r) {ma mb : ME} {H : Hp} {Q : VK} (h : teOf Γ W (mBin f ma mb) σ H Q) : tOp r (teOf Γ W ma) (teOf Γ W mb) σ H Q := by
  obtain ⟨B, A, F, τ, ds, st, hl, s, q⟩ := h
  refine te_in (τ := τ) (ds := ds) eP.mono hl (fun _ _ _ s => s) s q fun t st1 v H1 F1 f1 s1 q1 => ?_
  refine te_in (τ := τ) (ds := ds) (τ' := some v :: τ) (ds' := some t :: ds) eP.mono (by simpa using hl) (fun _ _ _ s => s.pop) s1 q1 fun t2 st2 v2 H2 F2 f2 s2 q2 => ?_
  obtain ⟨t3, e3, q3⟩ := rPost.ofO q2
  exact d B A F2 H2 _ _ v v2 t t2 t3 s2 e3 Q q3
theorem te_un {f : TV → Option TV} {r : V → Hp → VK → Prop} (d : Does1 Γ f r) {ma : ME} {H : Hp} {Q : VK} (h : teOf Γ W (mUn f ma) σ H Q) : tUn r (teOf Γ W ma) σ H Q := by
  obtain ⟨B, A, F, τ, ds, st, hl, s, q⟩ := h
  refine te_in (τ := τ) (ds := ds) eP.mono hl (fun _ _ _ s => s) s q fun t st1 v H1 F1 f1 s1 q1 => ?_
  obtain ⟨t3, e3, q3⟩ := rPost.ofO q1
  exact d B A F1 H1 _ _ v t t3 s1 e3 Q q3
/-- two ints -/
theorem Ent.int {k : Kd} {fr : Bool} {i : Int} {v : V} (h : Ent Γ B F H ⟨k, fr, .int i⟩ v) : v = .int i := by
  cases k with
  | frz =>
    have h : Rep Γ (sel fr B F) (.int i) v := h
    simpa only [Rep] using h
  | old =>
    have h : Rep Γ (sel fr B F) (.int i) v := h.unold
    simpa only [Rep] using h
  | own => exact h.elim
  | bor => exact h.elim
theorem Ent.bl {k : Kd} {fr : Bool} {i : Bool} {v : V} (h : Ent Γ B F H ⟨k, fr, .bl i⟩ v) : v = .bl i := by
  cases k with
  | frz =>
    have h : Rep Γ (sel fr B F) (.bl i) v := h
    simpa only [Rep] using h
  | old =>
    have h : Rep Γ (sel fr B F) (.bl i) v := h.unold
    simpa only [Rep] using h
  | own => exact h.elim
  | bor => exact h.elim
theorem Ent.str {k : Kd} {fr : Bool} {i : Str} {v : V} (h : Ent Γ B F H ⟨k, fr, .str i⟩ v) : v = .str i := by
  cases k with
  | frz =>
    have h : Rep Γ (sel fr B F) (.str i) v := h
    simpa only [Rep] using h
  | old =>
    have h : Rep Γ (sel fr B F) (.str i) v := h.unold
    simpa only [Rep] using h
  | own => exact h.elim
  | bor => exact h.elim
theorem Ent.lst {k : Kd} {fr : Bool} {xs : List D} {v : V} (h : Ent Γ B F H ⟨k, fr, .lst xs⟩ v) (fh : Same F H) : ∃ p vs, v = .ref p ∧ H p = some (.lst vs) ∧ RepL Γ (sel fr B F) xs vs := by
  cases k with
  | frz =>
    have h : Rep Γ _ (.lst xs) v := h
    simp only [Rep] at h
    obtain ⟨p, vs, h1, h2, h3⟩ := h
    exact ⟨p, vs, h1, fh _ _ (sel_same _ _ h2), h3⟩
  | old =>
    have h : Rep Γ (sel fr B F) (.lst xs) v := h.unold
    simp only [Rep] at h
    obtain ⟨p, vs, h1, h2, h3⟩ := h
    exact ⟨p, vs, h1, fh _ _ (sel_same _ _ h2), h3⟩
  | own =>
    obtain ⟨p, vs, h1, h2, h3, h4, h5⟩ := h
    exact ⟨p, vs, h1, h2, h5⟩
  | bor =>
    obtain ⟨p, vs, h1, h2, h5⟩ := h
    exact ⟨p, vs, h1, h2, h5⟩
theorem sqT_mono {K : PySem.W.Frag} {p : Addr} {vs : List V} (e : Same F H) (h : SqT K F p vs) : SqT K H p vs := by
  rcases h with (h | ⟨o, h⟩) | h
  · exact .inl (.inl (e _ _ h))
  · exact .inl (.inr ⟨o, e _ _ h⟩)
  · exact .inr h
theorem Ent.tup {k : Kd} {fr : Bool} {xs : List D} {v : V} (h : Ent Γ B F H ⟨k, fr, .tup xs⟩ v) (fh : Same F H) : ∃ p vs, v = .ref p ∧ SqT Γ.K H p vs ∧ RepL Γ (sel fr B F) xs vs := by
  cases k with
  | frz =>
    have h : Rep Γ _ (.tup xs) v := h
    simp only [Rep] at h
    obtain ⟨p, vs, h1, h2, h3⟩ := h
    exact ⟨p, vs, h1, sqT_mono (sel_same.trans fh) h2, h3⟩
  | old =>
    have h : Rep Γ (sel fr B F) (.tup xs) v := h.unold
    simp only [Rep] at h
    obtain ⟨p, vs, h1, h2, h3⟩ := h
    exact ⟨p, vs, h1, sqT_mono (sel_same.trans fh) h2, h3⟩
  | own => exact h.elim
  | bor => exact h.elim
theorem Ent.fl {k : Kd} {fr : Bool} {xs : List D} {v : V} (h : Ent Γ B F H ⟨k, fr, .fl xs⟩ v) (fh : Same F H) : ∃ p vs, v = .ref p ∧ SqL Γ.K H p vs ∧ RepL Γ (sel fr B F) xs vs := by
  cases k with
  | frz =>
    have h : Rep Γ _ (.fl xs) v := h
    simp only [Rep] at h
    obtain ⟨p, vs, h1, h2, h3⟩ := h
    exact ⟨p, vs, h1, (sel_same.trans fh).seq h2, h3⟩
  | old =>
    have h : Rep Γ (sel fr B F) (.fl xs) v := h.unold
    simp only [Rep] at h
    obtain ⟨p, vs, h1, h2, h3⟩ := h
    exact ⟨p, vs, h1, (sel_same.trans fh).seq h2, h3⟩
  | own => exact h.elim
  | bor => exact h.elim
theorem ent_el {fr : Bool} {d : D} {v : V} (h : Rep Γ (sel fr B F) d v) : Ent Γ B F H (.el fr d) v := by
  show Rep Γ (sel (fr || d.atom) B F) d v
  cases fr with
  | true => exact h
  | false =>
    cases e : d.atom with
    | true => exact h.atom e
    | false => exact h
theorem does_int {C : Int → Int → Prop} [∀ i j, Decidable (C i j)] {g : Int → Int → Int} : Does2 Γ (fun a b => match a.d, b.d with
  | .int i, .int j => if C i j then some (.i (g i j)) else none
  | _, _ => none) (rI C fun i j => .int (g i j)) := by
  intro B A F H vs ts x y a b t s e Q q
  obtain ⟨ka, fa, da⟩ := a
  obtain ⟨kb, fb, db⟩ := b
  cases da <;> cases db <;> try (cases e)
  rename_i i j
  have e : (if C i j then some (TV.i (g i j)) else none) = some t := e
  split at e
  · rename_i c
    cases e
    have hx := s.pop.top.int
    have hy := s.top.int
    exact ⟨i, j, hx, hy, c, q _ H F (Same.refl _) (s.pop.pop.push ent_i (by intro z; cases z))⟩
  · cases e
theorem does_int0 {g : Int → Int → Int} : Does2 Γ (fun a b => match a.d, b.d with
  | .int i, .int j => some (.i (g i j))
  | _, _ => none) (rI0 fun i j => .int (g i j)) := by
  intro B A F H vs ts x y a b t s e Q q
  obtain ⟨ka, fa, da⟩ := a
  obtain ⟨kb, fb, db⟩ := b
  cases da <;> cases db <;> try (cases e)
  rename_i i j
  exact ⟨i, j, s.pop.top.int, s.top.int, q _ H F (Same.refl _) (s.pop.pop.push ent_i (by intro z; cases z))⟩
theorem does_cmp {g : Int → Int → Bool} : Does2 Γ (fun a b => match a.d, b.d with
  | .int i, .int j => some (.b (g i j))
  | _, _ => none) (rI0 fun i j => .bl (g i j)) := by
  intro B A F H vs ts x y a b t s e Q q
  obtain ⟨ka, fa, da⟩ := a
  obtain ⟨kb, fb, db⟩ := b
  cases da <;> cases db <;> try (cases e)
  rename_i i j
  exact ⟨i, j, s.pop.top.int, s.top.int, q _ H F (Same.refl _) (s.pop.pop.push ent_b (by intro z; cases z))⟩
/-- + of ints, lists, tuples, texts -/
def fAdd (a b : TV) : Option TV := match a.d, b.d with
  | .int i, .int j => some (.i (i + j))
  | .lst xs, .lst ys => if xs.length + ys.length ≤ 16777216 then some ⟨.own, a.fr && b.fr, .lst (xs ++ ys)⟩ else none
  | .tup xs, .tup ys => if xs ≠ [] ∧ ys ≠ [] ∧ xs.length + ys.length ≤ 16777216 then some ⟨.frz, a.fr && b.fr, .tup (xs ++ ys)⟩ else none
  | .str x, .str y => if x.length + y.length ≤ 16777216 then some (.s (x ++ y)) else none
  | _, _ => none

theorem sizeL {n : Nat} (h : n ≤ 16777216) : n ≤ sizeLine := by rw [sizeLine_eq]; exact h
theorem repsel {fr gr : Bool} {xs : List D} {vs : List V} (h : RepL Γ (sel fr B F) xs vs) (e : gr = true → fr = true) : RepL Γ (sel gr B F) xs vs := by
  cases fr with
  | true => exact RepL.mono sel_weak h
  | false =>
    cases gr with
    | true => cases e rfl
    | false => exact h
theorem and1 {a b : Bool} (h : (a && b) = true) : a = true := by cases a <;> simp_all
theorem and2 {a b : Bool} (h : (a && b) = true) : b = true := by cases a <;> simp_all
def rAddU (K : PySem.W.Frag) : R2 := fun x y H Q => (rI0 fun i j => .int (i + j)) x y H Q ∨ rCat x y H Q ∨ rCatT K x y H Q ∨ (∃ i j, x = .str i ∧ y = .str j ∧ i.length + j.length ≤ sizeLine ∧ Q (.str (i ++ j)) H)
theorem op_addU {X : Cx} : OpR X (binaryOp .Add) (rAddU X.K) := OpR.or op_add (OpR.or op_cat (OpR.or op_catT op_add_str))
theorem does_add : Does2 Γ fAdd (rAddU Γ.K) := by
  intro B A F H vs ts x y a b t s e Q q
  obtain ⟨ka, fa, da⟩ := a
  obtain ⟨kb, fb, db⟩ := b
  cases da with
  | int i =>
    cases db with
    | int j =>
      cases e
      exact .inl ⟨i, j, s.pop.top.int, s.top.int, q _ H F (Same.refl _) (s.pop.pop.push ent_i (by intro z; cases z))⟩
    | _ => cases e
  | lst xs =>
    cases db with
    | lst ys =>
      have e : (if xs.length + ys.length ≤ 16777216 then some (⟨.own, fa && fb, .lst (xs ++ ys)⟩ : TV) else none) = some t := e
      split at e
      · rename_i c
        cases e
        obtain ⟨p, us, h1, h2, h3⟩ := s.pop.top.lst s.fh
        obtain ⟨p', us', h1', h2', h3'⟩ := s.top.lst s.fh
        refine .inr (.inl ⟨p, p', us, us', h1, h1', h2, h2', ?_, fun l hl => q _ _ F (Same.refl _) (s.pop.pop.alloc hl ?_)⟩)
        · rw [← h3.length, ← h3'.length]
          exact sizeL c
        · exact (repsel h3 and1).append (repsel h3' and2)
      · cases e
    | _ => cases e
  | tup xs =>
    cases db with
    | tup ys =>
      have e : (if xs ≠ [] ∧ ys ≠ [] ∧ xs.length + ys.length ≤ 16777216 then some (⟨.frz, fa && fb, .tup (xs ++ ys)⟩ : TV) else none) = some t := e
      split at e
      · rename_i c
        cases e
        obtain ⟨c1, c2, c3⟩ := c
        obtain ⟨p, us, h1, h2, h3⟩ := s.pop.top.tup s.fh
        obtain ⟨p', us', h1', h2', h3'⟩ := s.top.tup s.fh
        have l1 := h3.length
        have l2 := h3'.length
        have n1 : us ≠ [] := by
          rintro rfl
          exact c1 (List.length_eq_zero_iff.mp l1)
        have n2 : us' ≠ [] := by
          rintro rfl
          exact c2 (List.length_eq_zero_iff.mp l2)
        refine .inr (.inr (.inl ⟨p, p', us, us', h1, h1', h2, h2', n1, ?_, fun z => (n2 z).elim, fun _ l hl => q _ _ _ (same_upd_new (s.fh.free hl)) (s.pop.pop.allocT hl ?_)⟩))
        · rw [← h3.length, ← h3'.length]
          exact sizeL c3
        · exact (repsel h3 and1).append (repsel h3' and2)
      · cases e
    | _ => cases e
  | str i =>
    cases db with
    | str j =>
      have e : (if i.length + j.length ≤ 16777216 then some (TV.s (i ++ j)) else none) = some t := e
      split at e
      · rename_i c
        cases e
        exact .inr (.inr (.inr ⟨i, j, s.pop.top.str, s.top.str, sizeL c, q _ H F (Same.refl _) (s.pop.pop.push ent_s (by intro z; cases z))⟩))
      · cases e
    | _ => cases e
  | _ => cases e
def fSub (a b : TV) : Option TV := match a.d, b.d with
  | .int i, .int j => some (.i (i - j))
  | _, _ => none
/-- * of ints (one of them below 2 ^ 64), a list times an int -/
def mulOk (i j : Int) : Bool := decide (-18446744073709551616 < i ∧ i < 18446744073709551616) || decide (-18446744073709551616 < j ∧ j < 18446744073709551616)
def fMul (a b : TV) : Option TV := match a.d, b.d with
  | .int i, .int j => if mulOk i j = true then some (.i (i * j)) else none
  | .lst xs, .int k => if k ≤ 9223372036854775807 ∧ -9223372036854775808 ≤ k ∧ xs.length * k.toNat ≤ 16777216 then some ⟨.own, a.fr, .lst (List.replicate k.toNat xs).flatten⟩ else none
  | _, _ => none
def rMulU : R2 := fun x y H Q => (rI CMul fun i j => .int (i * j)) x y H Q ∨ rRep x y H Q
theorem op_mulU {X : Cx} : OpR X (binaryOp .Mult) rMulU := OpR.or op_mul op_rep
theorem mulOk_c {i j : Int} (h : mulOk i j = true) : CMul i j := by
  unfold mulOk at h
  rw [Bool.or_eq_true, decide_eq_true_eq, decide_eq_true_eq] at h
  unfold CMul
  have e : (2 : Int) ^ 64 = 18446744073709551616 := by decide
  rw [e]
  exact h
theorem does_mul : Does2 Γ fMul rMulU := by
  intro B A F H vs ts x y a b t s e Q q
  obtain ⟨ka, fa, da⟩ := a
  obtain ⟨kb, fb, db⟩ := b
  cases da with
  | int i =>
    cases db with
    | int j =>
      have e : (if mulOk i j = true then some (TV.i (i * j)) else none) = some t := e
      split at e
      · rename_i c
        cases e
        exact .inl ⟨i, j, s.pop.top.int, s.top.int, mulOk_c c, q _ H F (Same.refl _) (s.pop.pop.push ent_i (by intro z; cases z))⟩
      · cases e
    | _ => cases e
  | lst xs =>
    cases db with
    | int k =>
      have e : (if k ≤ 9223372036854775807 ∧ -9223372036854775808 ≤ k ∧ xs.length * k.toNat ≤ 16777216 then some (⟨.own, fa, .lst (List.replicate k.toNat xs).flatten⟩ : TV) else none) = some t := e
      split at e
      · rename_i c
        cases e
        obtain ⟨c1, c2, c3⟩ := c
        obtain ⟨p, us, h1, h2, h3⟩ := s.pop.top.lst s.fh
        refine .inr ⟨p, k, us, h1, s.top.int, h2, by omega, by omega, ?_, fun l hl => q _ _ F (Same.refl _) (s.pop.pop.alloc hl (h3.rep _))⟩
        rw [← h3.length]
        exact sizeL c3
      · cases e
    | _ => cases e
  | _ => cases e
def fDiv (a b : TV) : Option TV := match a.d, b.d with
  | .int i, .int j => if 0 < j ∧ j < 1073741824 then some (.i (i / j)) else none
  | _, _ => none
def fMod (a b : TV) : Option TV := match a.d, b.d with
  | .int i, .int j => if 0 < j then some (.i (i % j)) else none
  | _, _ => none
def fPow (a b : TV) : Option TV := match a.d, b.d with
  | .int i, .int j => if 0 ≤ j ∧ j ≤ 1000000 ∧ i.natAbs < 18446744073709551616 then some (.i (i ^ j.toNat)) else none
  | _, _ => none
theorem does_sub : Does2 Γ fSub (rI0 fun i j => .int (i - j)) := does_int0
instance : ∀ i j : Int, Decidable (CDiv i j) := fun i j => by unfold CDiv; infer_instance
theorem does_div : Does2 Γ fDiv (rI CDiv fun i j => .int (i / j)) := does_int (C := CDiv) (g := fun i j => i / j)
theorem does_mod : Does2 Γ fMod (rI (fun _ j => 0 < j) fun i j => .int (i % j)) := does_int (C := fun _ j => 0 < j) (g := fun i j => i % j)
theorem does_pow : Does2 Γ fPow (rI CPow fun i j => .int (i ^ j.toNat)) := by
  intro B A F H vs ts x y a b t s e Q q
  obtain ⟨ka, fa, da⟩ := a
  obtain ⟨kb, fb, db⟩ := b
  cases da <;> cases db <;> try (cases e)
  rename_i i j
  have e : (if 0 ≤ j ∧ j ≤ 1000000 ∧ i.natAbs < 18446744073709551616 then some (TV.i (i ^ j.toNat)) else none) = some t := e
  split at e
  · rename_i c
    cases e
    exact ⟨i, j, s.pop.top.int, s.top.int, ⟨c.1, c.2.1, by have e : (2 : Nat) ^ 64 = 18446744073709551616 := by decide
                                                           rw [e]; exact c.2.2⟩, q _ H F (Same.refl _) (s.pop.pop.push ent_i (by intro z; cases z))⟩
  · cases e
def fNeg (a : TV) : Option TV := match a.d with
  | .int i => some (.i (-i))
  | _ => none
theorem does_neg : Does1 Γ fNeg (rU fun i => .int (-i)) := by
  intro B A F H vs ts x a t s e Q q
  obtain ⟨ka, fa, da⟩ := a
  cases da <;> try (cases e)
  rename_i i
  exact ⟨i, s.top.int, q _ H F (Same.refl _) (s.pop.push ent_i (by intro z; cases z))⟩
def fLt (a b : TV) : Option TV := match a.d, b.d with
  | .int i, .int j => some (.b (decide (i < j)))
  | _, _ => none
def fLe (a b : TV) : Option TV := match a.d, b.d with
  | .int i, .int j => some (.b (decide (i ≤ j)))
  | _, _ => none
def fGt (a b : TV) : Option TV := match a.d, b.d with
  | .int i, .int j => some (.b (decide (j < i)))
  | _, _ => none
def fGe (a b : TV) : Option TV := match a.d, b.d with
  | .int i, .int j => some (.b (decide (j ≤ i)))
  | _, _ => none
theorem does_lt : Does2 Γ fLt (rI0 fun i j => .bl (decide (i < j))) := does_cmp
theorem does_le : Does2 Γ fLe (rI0 fun i j => .bl (decide (i ≤ j))) := does_cmp
theorem does_gt : Does2 Γ fGt (rI0 fun i j => .bl (decide (j < i))) := does_cmp
theorem does_ge : Does2 Γ fGe (rI0 fun i j => .bl (decide (j ≤ i))) := does_cmp
def fEq (a b : TV) : Option TV := if a.d.plain 64 = true ∧ b.d.plain 64 = true then some (.b (a.d.eqv b.d)) else none
def fNe (a b : TV) : Option TV := if a.d.plain 64 = true ∧ b.d.plain 64 = true then some (.b (!a.d.eqv b.d)) else none
theorem does_eq : Does2 Γ fEq (rEqD Γ.K) := by
  intro B A F H vs ts x y a b t s e Q q
  unfold fEq at e
  split at e
  · rename_i c
    cases e
    have hx := s.pop.top.rep s.fh
    have hy := s.top.rep s.fh
    refine ⟨a.d.pd, b.d.pd, rep_dp _ 64 _ c.1 hx, rep_dp _ 64 _ c.2 hy, plain_shaped c.1, plain_shaped c.2, ?_⟩
    rw [eqv_pd _ _ 64 c.1 c.2]
    exact q _ H F (Same.refl _) (s.pop.pop.push ent_b (by intro z; cases z))
  · cases e
theorem does_ne : Does2 Γ fNe (rNeD Γ.K) := by
  intro B A F H vs ts x y a b t s e Q q
  unfold fNe at e
  split at e
  · rename_i c
    cases e
    have hx := s.pop.top.rep s.fh
    have hy := s.top.rep s.fh
    refine ⟨a.d.pd, b.d.pd, rep_dp _ 64 _ c.1 hx, rep_dp _ 64 _ c.2 hy, plain_shaped c.1, plain_shaped c.2, ?_⟩
    rw [eqv_pd _ _ 64 c.1 c.2]
    exact q _ H F (Same.refl _) (s.pop.pop.push ent_b (by intro z; cases z))
  · cases e
def D.isNone : D → Bool
  | .non => true
  | _ => false
theorem rep_none {d : D} {v : V} (h : Rep Γ F d v) : decide (v = .non) = d.isNone := by
  cases d with
  | non => simp only [Rep] at h; subst h; rfl
  | bl b => simp only [Rep] at h; subst h; rfl
  | int b => simp only [Rep] at h; subst h; rfl
  | str b => simp only [Rep] at h; subst h; rfl
  | lst b => simp only [Rep] at h; obtain ⟨p, vs, h, _⟩ := h; subst h; rfl
  | tup b => simp only [Rep] at h; obtain ⟨p, vs, h, _⟩ := h; subst h; rfl
  | obj c b => simp only [Rep] at h; obtain ⟨p, C, dx, vs, h, _⟩ := h; subst h; rfl
  | exc c a => simp only [Rep] at h; subst h; rfl
  | xcp c a dd ns ds => simp only [Rep] at h; obtain ⟨h, _⟩ := h; subst h; rfl
  | fl b => simp only [Rep] at h; obtain ⟨p, vs, h, _⟩ := h; subst h; rfl
def fIsN (a : TV) : Option TV := some (.b a.d.isNone)
def fNotN (a : TV) : Option TV := some (.b (!a.d.isNone))
theorem te_isN {f : TV → Option TV} {r : R2} {ma : ME} {H : Hp} {Q : VK} (g : Bool → Bool) (hf : ∀ a, f a = some (.b (g a.d.isNone))) (hr : ∀ x H Q, Q (.bl (g (decide (x = .non)))) H → r x .non H Q) (h : teOf Γ W (mUn f ma) σ H Q) : tOp r (teOf Γ W ma) (tC .non) σ H Q := by
  obtain ⟨B, A, F, τ, ds, st, hl, s, q⟩ := h
  refine te_in (τ := τ) (ds := ds) eP.mono hl (fun _ _ _ s => s) s q fun t st1 v H1 F1 f1 s1 q1 => ?_
  obtain ⟨t3, e3, q3⟩ := rPost.ofO q1
  rw [hf] at e3
  cases e3
  refine hr v H1 Q ?_
  rw [rep_none (s1.top.rep s1.fh)]
  exact q3 _ H1 F1 (Same.refl _) (s1.pop.push ent_b (by intro z; cases z))
section
variable {X : Cx} {a b : Expr} {ma mb : ME} {pos : Pos}
theorem qe_add (hK : X.K = Γ.K) (ha : PE X a (teOf Γ W ma)) (hb : PE X b (teOf Γ W mb)) : PE X (.BinOp a .Add b pos) (teOf Γ W (mBin fAdd ma mb)) := pe_imp (pe_op (hK ▸ op_addU) ha hb) fun _ _ _ => te_bin does_add
theorem qe_sub (ha : PE X a (teOf Γ W ma)) (hb : PE X b (teOf Γ W mb)) : PE X (.BinOp a .Sub b pos) (teOf Γ W (mBin fSub ma mb)) := pe_imp (pe_op op_sub ha hb) fun _ _ _ => te_bin does_sub
theorem qe_mul (ha : PE X a (teOf Γ W ma)) (hb : PE X b (teOf Γ W mb)) : PE X (.BinOp a .Mult b pos) (teOf Γ W (mBin fMul ma mb)) := pe_imp (pe_op op_mulU ha hb) fun _ _ _ => te_bin does_mul
theorem qe_div (ha : PE X a (teOf Γ W ma)) (hb : PE X b (teOf Γ W mb)) : PE X (.BinOp a .FloorDiv b pos) (teOf Γ W (mBin fDiv ma mb)) := pe_imp (pe_op op_fdiv ha hb) fun _ _ _ => te_bin does_div
theorem qe_mod (ha : PE X a (teOf Γ W ma)) (hb : PE X b (teOf Γ W mb)) : PE X (.BinOp a .Mod b pos) (teOf Γ W (mBin fMod ma mb)) := pe_imp (pe_op op_mod ha hb) fun _ _ _ => te_bin does_mod
theorem qe_pow (ha : PE X a (teOf Γ W ma)) (hb : PE X b (teOf Γ W mb)) : PE X (.BinOp a .Pow b pos) (teOf Γ W (mBin fPow ma mb)) := pe_imp (pe_op op_pow ha hb) fun _ _ _ => te_bin does_pow
theorem qe_neg (ha : PE X a (teOf Γ W ma)) : PE X (.UnaryOp .USub a pos) (teOf Γ W (mUn fNeg ma)) := pe_imp (pe_un un_neg ha) fun _ _ _ => te_un does_neg
theorem qe_lt (ha : PE X a (teOf Γ W ma)) (hb : PE X b (teOf Γ W mb)) : PE X (.Compare a [.Lt] [b] pos) (teOf Γ W (mBin fLt ma mb)) := pe_imp (pe_cmpR op_lt ha hb (nomark _)) fun _ _ _ => te_bin does_lt
theorem qe_le (ha : PE X a (teOf Γ W ma)) (hb : PE X b (teOf Γ W mb)) : PE X (.Compare a [.LtE] [b] pos) (teOf Γ W (mBin fLe ma mb)) := pe_imp (pe_cmpR op_le ha hb (nomark _)) fun _ _ _ => te_bin does_le
theorem qe_gt (ha : PE X a (teOf Γ W ma)) (hb : PE X b (teOf Γ W mb)) : PE X (.Compare a [.Gt] [b] pos) (teOf Γ W (mBin fGt ma mb)) := pe_imp (pe_cmpR op_gt ha hb (nomark _)) fun _ _ _ => te_bin does_gt
theorem qe_ge (ha : PE X a (teOf Γ W ma)) (hb : PE X b (teOf Γ W mb)) : PE X (.Compare a [.GtE] [b] pos) (teOf Γ W (mBin fGe ma mb)) := pe_imp (pe_cmpR op_ge ha hb (nomark _)) fun _ _ _ => te_bin does_ge
theorem qe_eq (hK : X.K = Γ.K) (hu : X.A.units + 64 < cLine) (ha : PE X a (teOf Γ W ma)) (hb : PE X b (teOf Γ W mb)) : PE X (.Compare a [.Eq] [b] pos) (teOf Γ W (mBin fEq ma mb)) := pe_imp (pe_cmpR (hK ▸ op_eqD hu) ha hb (nomark _)) fun _ _ _ => te_bin does_eq
theorem qe_ne (hK : X.K = Γ.K) (hu : X.A.units + 64 < cLine) (ha : PE X a (teOf Γ W ma)) (hb : PE X b (teOf Γ W mb)) : PE X (.Compare a [.NotEq] [b] pos) (teOf Γ W (mBin fNe ma mb)) := pe_imp (pe_cmpR (hK ▸ op_neD hu) ha hb (nomark _)) fun _ _ _ => te_bin does_ne
theorem qe_isN {j p2} (ha : PE X a (teOf Γ W ma)) : PE X (.Compare a [.Is] [.Constant .none j p2] pos) (teOf Γ W (mUn fIsN ma)) := pe_imp (pe_cmpR op_isN ha pe_non (nomark _)) fun _ _ _ h => te_isN (fun b => b) (fun _ => rfl) (fun _ _ _ q => ⟨rfl, q⟩) h
theorem qe_notN {j p2} (ha : PE X a (teOf Γ W ma)) : PE X (.Compare a [.IsNot] [.Constant .none j p2] pos) (teOf Γ W (mUn fNotN ma)) := pe_imp (pe_cmpR op_notN ha pe_non (nomark _)) fun _ _ _ h => te_isN (fun b => !b) (fun _ => rfl) (fun _ _ _ q => ⟨rfl, q⟩) h
end
end
end Dl

namespace Dl
open PySem PySem.Spec PyProof.Rows L2
section
variable {Γ : Gm} {W : WX} {B F F' H H' : Hp} {A : Ao} {τ τ' : List (Option V)} {ds ds' : Sta} {σ : L2.St} {st : Sta}

theorem Res.bind_assoc {α β γ : Type} (r : Res α) (f : α → Res β) (g : β → Res γ) : (r.bind f).bind g = r.bind fun a => (f a).bind g := by cases r <;> rfl
/-! ## tests -/
def D.asB : D → Option Bool
  | .bl b => some b
  | _ => none
def mT (m : ME) : MT := fun st => (m st).bind fun p => ofO p.1.d.asB p.2
theorem te_t {m : ME} {H : Hp} {Q : Bool → Hp → Prop} (h : ttOf Γ W (mT m) σ H Q) : teOf Γ W m σ H (fun x H' => ∃ k, x = .bl k ∧ Q k H') := by
  obtain ⟨B, A, F, τ, ds, st, hl, s, q⟩ := h
  refine te_in (τ := τ) (ds := ds) tP.mono hl (fun _ _ _ s => s) s q fun t st1 v H1 F1 f1 s1 q1 => ?_
  obtain ⟨k, fr, d⟩ := t
  obtain ⟨b, e, q2⟩ := rPost.ofO q1
  cases d with
  | bl c =>
    have e : c = b := Option.some.inj e
    subst e
    exact ⟨c, s1.top.bl, q2 H1 F1 (Same.refl _) s1.pop⟩
  | _ => cases e
def mAnd (a b : MT) : MT := fun st => (a st).bind fun p => match p.1 with
  | true => b p.2
  | false => .ok (false, p.2)
def mOr (a b : MT) : MT := fun st => (a st).bind fun p => match p.1 with
  | true => .ok (true, p.2)
  | false => b p.2
def mNot (a : MT) : MT := fun st => (a st).bind fun p => .ok (!p.1, p.2)
/-- a test as a value -/
def mTV (a : MT) : ME := fun st => (a st).bind fun p => .ok (.b p.1, p.2)
def mIfE (c : MT) (a b : ME) : ME := fun st => (c st).bind fun p => match p.1 with
  | true => a p.2
  | false => b p.2
theorem te_and {a b : MT} {H : Hp} {Q : Bool → Hp → Prop} (h : ttOf Γ W (mAnd a b) σ H Q) : tAnd (ttOf Γ W a) (ttOf Γ W b) σ H Q := by
  obtain ⟨B, A, F, τ, ds, st, hl, s, q⟩ := h
  refine tt_in (τ := τ) (ds := ds) tP.mono hl (fun _ _ _ s => s) s q fun c st1 H1 F1 f1 s1 q1 => ?_
  cases c with
  | true => exact ⟨B, A, F1, τ, ds, st1, hl, s1, q1⟩
  | false => exact q1 H1 F1 (Same.refl _) s1
theorem te_or {a b : MT} {H : Hp} {Q : Bool → Hp → Prop} (h : ttOf Γ W (mOr a b) σ H Q) : tOr (ttOf Γ W a) (ttOf Γ W b) σ H Q := by
  obtain ⟨B, A, F, τ, ds, st, hl, s, q⟩ := h
  refine tt_in (τ := τ) (ds := ds) tP.mono hl (fun _ _ _ s => s) s q fun c st1 H1 F1 f1 s1 q1 => ?_
  cases c with
  | false => exact ⟨B, A, F1, τ, ds, st1, hl, s1, q1⟩
  | true => exact q1 H1 F1 (Same.refl _) s1
theorem te_not {a : MT} {H : Hp} {Q : Bool → Hp → Prop} (h : ttOf Γ W (mNot a) σ H Q) : tNot (ttOf Γ W a) σ H Q := by
  obtain ⟨B, A, F, τ, ds, st, hl, s, q⟩ := h
  exact tt_in (τ := τ) (ds := ds) tP.mono hl (fun _ _ _ s => s) s q fun c st1 H1 F1 f1 s1 q1 => q1 H1 F1 (Same.refl _) s1
/-- as values: a is bool-valued by mT -/
theorem te_andV {a : ME} {b : MT} {mb : ME} {H : Hp} {Q : VK} (hb : ∀ H Q, teOf Γ W (mTV b) σ H Q → teOf Γ W mb σ H Q) (h : teOf Γ W (mTV (mAnd (mT a) b)) σ H Q) : tAndV (teOf Γ W a) (teOf Γ W mb) σ H Q := by
  obtain ⟨B, A, F, τ, ds, st, hl, s, q⟩ := h
  have q' : rPost Γ W B A τ ds σ (eP Γ B A τ ds σ Q) F ((a st).bind fun p => (ofO p.1.d.asB p.2).bind fun p => (match p.1 with
    | true => b p.2
    | false => .ok (false, p.2)).bind fun p => .ok (.b p.1, p.2)) := by
    have e : mTV (mAnd (mT a) b) st = ((a st).bind fun p => (ofO p.1.d.asB p.2).bind fun p => (match p.1 with
    | true => b p.2
    | false => .ok (false, p.2)).bind fun p => .ok (.b p.1, p.2)) := by
      unfold mTV mAnd mT
      rw [Res.bind_assoc, Res.bind_assoc]
    rw [← e]
    exact q
  refine te_in (τ := τ) (ds := ds) eP.mono hl (fun _ _ _ s => s) s q' fun t st1 v H1 F1 f1 s1 q1 => ?_
  obtain ⟨k, fr, d⟩ := t
  cases d with
  | bl c =>
    refine ⟨c, s1.top.bl, ?_⟩
    cases c with
    | true => exact hb _ _ ⟨B, A, F1, τ, ds, st1, hl, s1.pop, q1⟩
    | false => exact q1 _ H1 F1 (Same.refl _) (s1.pop.push ent_b (by intro z; cases z))
  | _ => exact q1.elim
theorem te_orV {a : ME} {b : MT} {mb : ME} {H : Hp} {Q : VK} (hb : ∀ H Q, teOf Γ W (mTV b) σ H Q → teOf Γ W mb σ H Q) (h : teOf Γ W (mTV (mOr (mT a) b)) σ H Q) : tOrV (teOf Γ W a) (teOf Γ W mb) σ H Q := by
  obtain ⟨B, A, F, τ, ds, st, hl, s, q⟩ := h
  have q' : rPost Γ W B A τ ds σ (eP Γ B A τ ds σ Q) F ((a st).bind fun p => (ofO p.1.d.asB p.2).bind fun p => (match p.1 with
    | true => Res.ok (true, p.2)
    | false => b p.2).bind fun p => .ok (.b p.1, p.2)) := by
    have e : mTV (mOr (mT a) b) st = ((a st).bind fun p => (ofO p.1.d.asB p.2).bind fun p => (match p.1 with
    | true => Res.ok (true, p.2)
    | false => b p.2).bind fun p => .ok (.b p.1, p.2)) := by
      unfold mTV mOr mT
      rw [Res.bind_assoc, Res.bind_assoc]
    rw [← e]
    exact q
  refine te_in (τ := τ) (ds := ds) eP.mono hl (fun _ _ _ s => s) s q' fun t st1 v H1 F1 f1 s1 q1 => ?_
  obtain ⟨k, fr, d⟩ := t
  cases d with
  | bl c =>
    refine ⟨c, s1.top.bl, ?_⟩
    cases c with
    | false => exact hb _ _ ⟨B, A, F1, τ, ds, st1, hl, s1.pop, q1⟩
    | true => exact q1 _ H1 F1 (Same.refl _) (s1.pop.push ent_b (by intro z; cases z))
  | _ => exact q1.elim
theorem te_notV {a : ME} {H : Hp} {Q : VK} (h : teOf Γ W (mTV (mNot (mT a))) σ H Q) : tNotV (teOf Γ W a) σ H Q := by
  obtain ⟨B, A, F, τ, ds, st, hl, s, q⟩ := h
  have q' : rPost Γ W B A τ ds σ (eP Γ B A τ ds σ Q) F ((a st).bind fun p => (ofO p.1.d.asB p.2).bind fun p => .ok (.b (!p.1), p.2)) := by
    have e : mTV (mNot (mT a)) st = ((a st).bind fun p => (ofO p.1.d.asB p.2).bind fun p => .ok (.b (!p.1), p.2)) := by
      unfold mTV mNot mT
      rw [Res.bind_assoc, Res.bind_assoc]
      rfl
    rw [← e]
    exact q
  refine te_in (τ := τ) (ds := ds) eP.mono hl (fun _ _ _ s => s) s q' fun t st1 v H1 F1 f1 s1 q1 => ?_
  obtain ⟨k, fr, d⟩ := t
  cases d with
  | bl c => exact ⟨c, s1.top.bl, q1 _ H1 F1 (Same.refl _) (s1.pop.push ent_b (by intro z; cases z))⟩
  | _ => exact q1.elim
/-- bool-valued -/
theorem te_tv {m : ME} {H : Hp} {Q : VK} (h : teOf Γ W (mTV (mT m)) σ H Q) : teOf Γ W m σ H Q := by
  obtain ⟨B, A, F, τ, ds, st, hl, s, q⟩ := h
  have q' : rPost Γ W B A τ ds σ (eP Γ B A τ ds σ Q) F ((m st).bind fun p => (ofO p.1.d.asB p.2).bind fun p => .ok (.b p.1, p.2)) := by
    have e : mTV (mT m) st = ((m st).bind fun p => (ofO p.1.d.asB p.2).bind fun p => .ok (.b p.1, p.2)) := by
      unfold mTV mT
      rw [Res.bind_assoc]
    rw [← e]
    exact q
  refine te_in (τ := τ) (ds := ds) eP.mono hl (fun _ _ _ s => s) s q' fun t st1 v H1 F1 f1 s1 q1 => ?_
  obtain ⟨k, fr, d⟩ := t
  cases d with
  | bl c =>
    have e := s1.top.bl
    subst e
    exact q1 _ H1 F1 (Same.refl _) (s1.pop.push ent_b (by intro z; cases z))
  | _ => exact q1.elim
theorem te_ifE {c : MT} {a b : ME} {H : Hp} {Q : VK} (h : teOf Γ W (mIfE c a b) σ H Q) : tIf (ttOf Γ W c) (teOf Γ W a) (teOf Γ W b) σ H Q := by
  obtain ⟨B, A, F, τ, ds, st, hl, s, q⟩ := h
  refine tt_in (τ := τ) (ds := ds) eP.mono hl (fun _ _ _ s => s) s q fun c st1 H1 F1 f1 s1 q1 => ?_
  cases c with
  | true => exact ⟨B, A, F1, τ, ds, st1, hl, s1, q1⟩
  | false => exact ⟨B, A, F1, τ, ds, st1, hl, s1, q1⟩
/-- a < b < c of ints -/
def mChain (f g : TV → TV → Option TV) (ma mb mc : ME) : ME := fun st => (ma st).bind fun p => (mb p.2).bind fun q => match p.1.d, q.1.d with
  | .int i, .int j => (ofO ((f (.i i) (.i j)).bind fun t => t.d.asB) q.2).bind fun b => match b.1 with
    | true => (mc b.2).bind fun r => ofO (g (.i j) r.1) r.2
    | false => .ok (.b false, b.2)
  | _, _ => .stuck
theorem te_chain {f g : TV → TV → Option TV} {r r' : R2} (df : Does2 Γ f r) (dg : Does2 Γ g r') {ma mb mc : ME} {H : Hp} {Q : VK} (h : teOf Γ W (mChain f g ma mb mc) σ H Q) : tChain r r' (teOf Γ W ma) (teOf Γ W mb) (teOf Γ W mc) σ H Q := by
  obtain ⟨B, A, F, τ, ds, st, hl, s, q⟩ := h
  refine te_in (τ := τ) (ds := ds) eP.mono hl (fun _ _ _ s => s) s q fun t st1 v H1 F1 f1 s1 q1 => ?_
  refine te_in (τ := τ) (ds := ds) (τ' := some v :: τ) (ds' := some t :: ds) eP.mono (by simpa using hl) (fun _ _ _ s => s.pop) s1 q1 fun t2 st2 v2 H2 F2 f2 s2 q2 => ?_
  obtain ⟨k1, fr1, d1⟩ := t
  obtain ⟨k2, fr2, d2⟩ := t2
  cases d1 with
  | int i =>
    cases d2 with
    | int j =>
      have e1 := s2.pop.top.int
      have e2 := s2.top.int
      subst e1
      subst e2
      have s3 : SR Γ B A F2 H2 (some (.int j) :: some (.int i) :: (τ ++ σ)) (some (.i j) :: some (.i i) :: (ds ++ st2)) := (s2.pop.pop.push ent_i (by intro z; cases z)).push ent_i (by intro z; cases z)
      have q2 : rPost Γ W B A τ ds σ (eP Γ B A τ ds σ Q) F2 ((ofO ((f (.i i) (.i j)).bind fun t => t.d.asB) st2).bind fun b => match b.1 with
        | true => (mc b.2).bind fun r => ofO (g (.i j) r.1) r.2
        | false => .ok (.b false, b.2)) := q2
      cases e3 : f (.i i) (.i j) with
      | none => rw [e3] at q2; exact q2.elim
      | some t3 =>
        rw [e3] at q2
        refine df B A F2 H2 _ _ _ _ _ _ t3 s3 e3 _ fun v3 H3 F3 f3 s4 => ?_
        obtain ⟨k3, fr3, d3⟩ := t3
        cases d3 with
        | bl c =>
          refine ⟨c, s4.top.bl, ?_⟩
          cases c with
          | true =>
            have q3 : rPost Γ W B A τ ds σ (eP Γ B A τ ds σ Q) F2 ((mc st2).bind fun r => ofO (g (.i j) r.1) r.2) := q2
            have s5 : SR Γ B A F3 H3 (some (.int j) :: (τ ++ σ)) (some (.i j) :: (ds ++ st2)) := s4.pop.push ent_i (by intro z; cases z)
            refine te_in (τ := τ) (ds := ds) (τ' := some (.int j) :: τ) (ds' := some (.i j) :: ds) eP.mono (by simpa using hl) (fun _ _ _ s => s.pop) s5 (q3.mono eP.mono f3) fun t4 st4 v4 H4 F4 f4 s6 q4 => ?_
            obtain ⟨t5, e5, q5⟩ := rPost.ofO q4
            exact dg B A F4 H4 _ _ _ _ _ _ t5 s6 e5 Q q5
          | false =>
            have q3 : eP Γ B A τ ds σ Q (.b false) st2 F2 := q2
            exact q3 _ H3 F3 f3 (s4.pop.push ent_b (by intro z; cases z))
        | _ => exact q2.elim
    | _ => exact q2.elim
  | _ => exact q2.elim

/-! ## items, slices, fields -/
def ixD (ds : List D) (i : Int) : Option D := if 0 ≤ i then ds[i.toNat]? else if -(ds.length : Int) ≤ i then ds[(i + ds.length).toNat]? else none
theorem ixD_at {xs : List D} {vs : List V} {i : Int} {d : D} (h : ixD xs i = some d) (r : RepL Γ F xs vs) : ∃ v, atI vs i = some v ∧ Rep Γ F d v := by
  have hl := r.length
  unfold ixD at h
  split at h
  · rename_i c
    obtain ⟨v, h1, h2⟩ := r.get h
    refine ⟨v, ?_, h2⟩
    have : i = ((i.toNat : Nat) : Int) := by omega
    rw [this]
    exact atI_nat h1
  · rename_i c
    split at h
    · rename_i c2
      obtain ⟨v, h1, h2⟩ := r.get h
      refine ⟨v, ?_, h2⟩
      unfold atI ixN
      rw [if_neg c, if_pos (by omega), ← hl]
      exact h1
    · cases h
def fIx (a b : TV) : Option TV := match a.d, b.d with
  | .lst xs, .int i => (ixD xs i).map (.el a.fr)
  | .tup xs, .int i => (ixD xs i).map (.el a.fr)
  | .fl xs, .int i => (ixD xs i).map (.el a.fr)
  | _, _ => none
theorem does_ix : Does2 Γ fIx (rIx Γ.K) := by
  intro B A F H vs ts x y a b t s e Q q
  obtain ⟨ka, fa, da⟩ := a
  obtain ⟨kb, fb, db⟩ := b
  have fin : ∀ {xs us : List V} {d : D} {v : V} , Rep Γ (sel fa B F) d v → t = .el fa d → Q v H := fun {xs us d v} hv et => by
    subst et
    exact q v H F (Same.refl _) (s.pop.pop.push (ent_el hv) (by intro z; cases z))
  cases db with
  | int i =>
    have hy := s.top.int
    cases da with
    | lst xs =>
      obtain ⟨d, e1, e2⟩ := Option.map_eq_some_iff.mp (show (ixD xs i).map (TV.el fa) = some t from e)
      obtain ⟨p, us, h1, h2, h3⟩ := s.pop.top.lst s.fh
      obtain ⟨v, h4, h5⟩ := ixD_at e1 h3
      exact .inl ⟨p, us, i, v, h1, hy, SqL.of h2, h4, fin (xs := us) (us := us) h5 e2.symm⟩
    | fl xs =>
      obtain ⟨d, e1, e2⟩ := Option.map_eq_some_iff.mp (show (ixD xs i).map (TV.el fa) = some t from e)
      obtain ⟨p, us, h1, h2, h3⟩ := s.pop.top.fl s.fh
      obtain ⟨v, h4, h5⟩ := ixD_at e1 h3
      exact .inl ⟨p, us, i, v, h1, hy, h2, h4, fin (xs := us) (us := us) h5 e2.symm⟩
    | tup xs =>
      obtain ⟨d, e1, e2⟩ := Option.map_eq_some_iff.mp (show (ixD xs i).map (TV.el fa) = some t from e)
      obtain ⟨p, us, h1, h2, h3⟩ := s.pop.top.tup s.fh
      obtain ⟨v, h4, h5⟩ := ixD_at e1 h3
      exact .inr (.inl ⟨p, us, i, v, h1, hy, h2, h4, fin (xs := us) (us := us) h5 e2.symm⟩)
    | _ => cases e
  | _ => cases da <;> cases e
/-- a slice's ends -/
abbrev MO := Sta → Res (Option Int × Sta)
def mO0 : MO := fun st => .ok (none, st)
def D.asI : D → Option Int
  | .int i => some i
  | _ => none
def mO1 (m : ME) : MO := fun st => (m st).bind fun p => match p.1.d with
  | .int i => .ok (some i, p.2)
  | _ => .stuck
def cutD (xs : List D) (lo hi : Option Int) : List D := (xs.drop (HT.sIx xs.length 0 lo)).take (HT.sIx xs.length xs.length hi - HT.sIx xs.length 0 lo)
theorem cutD_rep {xs : List D} {vs : List V} (r : RepL Γ F xs vs) (lo hi : Option Int) : RepL Γ F (cutD xs lo hi) (cutV vs lo hi) := by
  unfold cutD cutV
  rw [r.length]
  exact (r.drop _).take _
def fSl (a : TV) (lo hi : Option Int) : Option TV := match a.d with
  | .lst xs => some ⟨.own, a.fr, .lst (cutD xs lo hi)⟩
  | .fl xs => some ⟨.own, a.fr, .lst (cutD xs lo hi)⟩
  | .tup xs => if HT.sIx xs.length 0 lo = 0 ∧ HT.sIx xs.length xs.length hi = xs.length then none else some ⟨.frz, a.fr, .tup (cutD xs lo hi)⟩
  | _ => none
def mSl (ma : ME) (ml mh : MO) : ME := fun st => (ma st).bind fun p => (ml p.2).bind fun q => (mh q.2).bind fun r => ofO (fSl p.1 q.1 r.1) r.2
def oP (Γ : Gm) (B : Hp) (A : Ao) (τ : List (Option V)) (ds : Sta) (σ : L2.St) (Q : Option Int → Hp → Prop) : Option Int → Sta → Hp → Prop := fun b st' F => ∀ H' F', Same F F' → SR Γ B A F' H' (τ ++ σ) (ds ++ st') → Q b H'
def toOf (Γ : Gm) (W : WX) (m : MO) : TO := fun σ H Q => ∃ B A F τ ds st, τ.length = ds.length ∧ SR Γ B A F H (τ ++ σ) (ds ++ st) ∧ rPost Γ W B A τ ds σ (oP Γ B A τ ds σ Q) F (m st)
theorem po_imp {X : Cx} {e : Option Expr} {t t' : TO} (h : PO X e t) (k : ∀ σ H Q, t' σ H Q → t σ H Q) : PO X e t' := ⟨fun pins s σ H Q I q => h.run pins s σ H Q I (k _ _ _ q)⟩
theorem oP.mono {Q : Option Int → Hp → Prop} : Mono (oP Γ B A τ ds σ Q) := fun t st F F' e h H' F2 e2 s => h H' F2 (e.trans e2) s
theorem qo_none {X : Cx} : PO X none (toOf Γ W mO0) := po_imp po_none fun σ H Q ⟨B, A, F, τ, ds, st, hl, s, q⟩ => q H F (Same.refl _) s
theorem qo_some {X : Cx} {e : Expr} {m : ME} (h : PE X e (teOf Γ W m)) : PO X (some e) (toOf Γ W (mO1 m)) := po_imp (po_some h) fun σ H Q ⟨B, A, F, τ, ds, st, hl, s, q⟩ => by
  refine te_in (τ := τ) (ds := ds) oP.mono hl (fun _ _ _ s => s) s q fun t st1 v H1 F1 f1 s1 q1 => ?_
  obtain ⟨k, fr, d⟩ := t
  cases d with
  | int i => exact ⟨i, s1.top.int, q1 H1 F1 (Same.refl _) s1.pop⟩
  | _ => exact q1.elim
theorem to_in {α : Type} {m : MO} {k : Option Int × Sta → Res (α × Sta)} {P : α → Sta → Hp → Prop} (mo : Mono P) {Q' : Option Int → Hp → Prop} (hl : τ'.length = ds'.length) (dn : ∀ F H st, SR Γ B A F H (τ' ++ σ) (ds' ++ st) → SR Γ B A F H (τ ++ σ) (ds ++ st)) (s : SR Γ B A F H (τ' ++ σ) (ds' ++ st))
    (h : rPost Γ W B A τ ds σ P F ((m st).bind k)) (ok : ∀ b st1 H1 F1, Same F F1 → SR Γ B A F1 H1 (τ' ++ σ) (ds' ++ st1) → rPost Γ W B A τ ds σ P F1 (k (b, st1)) → Q' b H1) : toOf Γ W m σ H Q' :=
  ⟨B, A, F, τ', ds', st, hl, s, h.bind dn fun b st1 _ q H1 F1 f s1 => ok b st1 H1 F1 f s1 (q.mono mo f)⟩
def rSlU (K : PySem.W.Frag) : V → Option Int → Option Int → Hp → VK → Prop := fun x lo hi H Q => rSlL K x lo hi H Q ∨ rSlT K x lo hi H Q
theorem te_sl {ma : ME} {ml mh : MO} {H : Hp} {Q : VK} (h : teOf Γ W (mSl ma ml mh) σ H Q) : tSl (rSlU Γ.K) (teOf Γ W ma) (toOf Γ W ml) (toOf Γ W mh) σ H Q := by
  obtain ⟨B, A, F, τ, ds, st, hl, s, q⟩ := h
  refine te_in (τ := τ) (ds := ds) eP.mono hl (fun _ _ _ s => s) s q fun t st1 v H1 F1 f1 s1 q1 => ?_
  have hl' : (some v :: τ).length = (some t :: ds).length := by simpa using hl
  refine to_in (τ := τ) (ds := ds) (τ' := some v :: τ) (ds' := some t :: ds) eP.mono hl' (fun _ _ _ s => s.pop) s1 q1 fun lo st2 H2 F2 f2 s2 q2 => ?_
  refine to_in (τ := τ) (ds := ds) (τ' := some v :: τ) (ds' := some t :: ds) eP.mono hl' (fun _ _ _ s => s.pop) s2 q2 fun hi st3 H3 F3 f3 s3 q3 => ?_
  obtain ⟨t4, e4, q4⟩ := rPost.ofO q3
  obtain ⟨k, fr, d⟩ := t
  cases d with
  | lst xs =>
    cases e4
    obtain ⟨p, us, h1, h2, h3⟩ := s3.top.lst s3.fh
    exact .inl ⟨p, us, h1, SqL.of h2, fun l hl => q4 _ _ F3 (Same.refl _) (s3.pop.alloc hl (cutD_rep h3 lo hi))⟩
  | fl xs =>
    cases e4
    obtain ⟨p, us, h1, h2, h3⟩ := s3.top.fl s3.fh
    exact .inl ⟨p, us, h1, h2, fun l hl => q4 _ _ F3 (Same.refl _) (s3.pop.alloc hl (cutD_rep h3 lo hi))⟩
  | tup xs =>
    have e : (if HT.sIx xs.length 0 lo = 0 ∧ HT.sIx xs.length xs.length hi = xs.length then none else some (⟨.frz, fr, .tup (cutD xs lo hi)⟩ : TV)) = some t4 := e4
    split at e
    · cases e
    · rename_i c
      cases e
      obtain ⟨p, us, h1, h2, h3⟩ := s3.top.tup s3.fh
      rw [h3.length] at c
      exact .inr ⟨p, us, h1, h2, c, fun l hl => q4 _ _ _ (same_upd_new (s3.fh.free hl)) (s3.pop.allocT hl (cutD_rep h3 lo hi))⟩
  | _ => cases e4
/-- what a class's objects want, to be read -/
structure ClsOk (Γ : Gm) (c : Cl) : Prop where
  ok : ∀ C, Γ.mg c.name = some (.ref C) → Cls Γ.K C ∧ ∀ f ∈ c.fields, NoAttr Γ.K C f
  nd : c.fields.Nodup
def fFld (c : Cl) (k : Nat) (a : TV) : Option TV := match a.d with
  | .obj c' ds => if c' = c then (ds[k]?).map (.el a.fr) else none
  | _ => none
theorem lookup_zip {f : Str} {v : V} : ∀ {fs : List Str} {vs : List V} {k : Nat}, fs.Nodup → fs[k]? = some f → vs[k]? = some v → (fs.zip vs).lookup f = some v
  | [], _, _, _, h, _ => by simp at h
  | _ :: _, [], _, _, _, h => by simp at h
  | g :: fs, w :: vs, 0, nd, h1, h2 => by
    simp at h1 h2
    subst h1
    subst h2
    simp [List.lookup]
  | g :: fs, w :: vs, k + 1, nd, h1, h2 => by
    have h1' : fs[k]? = some f := by simpa using h1
    have ne : f ≠ g := fun z => (List.nodup_cons.mp nd).1 (z ▸ List.mem_of_getElem? h1')
    have hb : (f == g) = false := beq_eq_false_iff_ne.mpr ne
    rw [List.zip_cons_cons]
    show List.lookup f ((g, w) :: fs.zip vs) = some v
    simp only [List.lookup, hb]
    exact lookup_zip (List.nodup_cons.mp nd).2 h1' (by simpa using h2)
theorem lookup_zip_none {f : Str} : ∀ {fs : List Str} {vs : List V}, f ∉ fs → (fs.zip vs).lookup f = none
  | [], _, _ => rfl
  | _ :: _, [], _ => rfl
  | g :: fs, w :: vs, h => by
    have hb : (f == g) = false := beq_eq_false_iff_ne.mpr fun z => h (by rw [z]; exact List.mem_cons_self)
    rw [List.zip_cons_cons]
    show List.lookup f ((g, w) :: fs.zip vs) = none
    simp only [List.lookup, hb]
    exact lookup_zip_none fun z => h (List.mem_cons_of_mem _ z)
theorem Ent.obj {k : Kd} {fr : Bool} {c : Cl} {xs : List D} {v : V} (h : Ent Γ B F H ⟨k, fr, .obj c xs⟩ v) (fh : Same F H) : ∃ p C dx vs, v = .ref p ∧ Γ.mg c.name = some (.ref C) ∧ H p = some (.ins C dx (c.fields.zip vs)) ∧ xs.length ≤ c.fields.length ∧ RepL Γ (sel fr B F) xs vs := by
  cases k with
  | frz =>
    have h : Rep Γ (sel fr B F) (.obj c xs) v := h
    simp only [Rep] at h
    obtain ⟨p, C, dx, vs, h1, h2, h3, h4, h5⟩ := h
    exact ⟨p, C, dx, vs, h1, h2, fh _ _ (sel_same _ _ h3), h4, h5⟩
  | old =>
    have h : Rep Γ (sel fr B F) (.obj c xs) v := h.unold
    simp only [Rep] at h
    obtain ⟨p, C, dx, vs, h1, h2, h3, h4, h5⟩ := h
    exact ⟨p, C, dx, vs, h1, h2, fh _ _ (sel_same _ _ h3), h4, h5⟩
  | own =>
    obtain ⟨p, C, dx, vs, h1, h2, h3, h4, h5, h6, h7⟩ := h
    exact ⟨p, C, dx, vs, h1, h2, h3, h4, h7⟩
  | bor => exact h
theorem te_fld {c : Cl} {k : Nat} {f : Str} (cl : ClsOk Γ c) (hk : c.fields[k]? = some f) {ma : ME} {H : Hp} {Q : VK} (h : teOf Γ W (mUn (fFld c k) ma) σ H Q) : tFld Γ.K (teOf Γ W ma) f σ H Q := by
  obtain ⟨B, A, F, τ, ds, st, hl, s, q⟩ := h
  refine te_in (τ := τ) (ds := ds) eP.mono hl (fun _ _ _ s => s) s q fun t st1 v H1 F1 f1 s1 q1 => ?_
  obtain ⟨t3, e3, q3⟩ := rPost.ofO q1
  obtain ⟨kk, fr, d⟩ := t
  cases d with
  | obj c' xs =>
    have e3 : (if c' = c then (xs[k]?).map (TV.el fr) else none) = some t3 := e3
    by_cases ec : c' = c
    · subst ec
      rw [if_pos rfl] at e3
      obtain ⟨d, e4, e5⟩ := Option.map_eq_some_iff.mp e3
      obtain ⟨p, C, dx, vs, h1, h2, h3, h4, h5⟩ := s1.top.obj s1.fh
      obtain ⟨w, h6, h7⟩ := h5.get e4
      obtain ⟨k1, k2⟩ := cl.ok C h2
      subst e5
      exact ⟨p, C, dx, _, w, h1, h3, k1, k2 f (List.mem_of_getElem? hk), lookup_zip cl.nd hk h6, q3 w H1 F1 (Same.refl _) (s1.pop.push (ent_el h7) (by intro z; cases z))⟩
    · rw [if_neg ec] at e3
      cases e3
  | _ => cases e3

/-! ## lists of values -/
def mA0 : MA := fun st => .ok ([], st)
def mAc (m : ME) (r : MA) : MA := fun st => (m st).bind fun p => (r p.2).bind fun q => .ok (p.1 :: q.1, q.2)
theorem vpush_cons {v : V} {vs : List V} : vpush (v :: vs) τ = vpush vs (some v :: τ) := by
  unfold vpush
  simp
theorem tpush_cons {t : TV} {ts : List TV} : tpush (t :: ts) ds = tpush ts (some t :: ds) := by
  unfold tpush
  simp
theorem ta_nil {H : Hp} {Q : List V → Hp → Prop} (h : taOf Γ W mA0 σ H Q) : tNil σ H Q := by
  obtain ⟨B, A, F, τ, ds, st, hl, s, q⟩ := h
  exact q [] H F rfl (Same.refl _) s
theorem ta_cons {m : ME} {r : MA} {H : Hp} {Q : List V → Hp → Prop} (h : taOf Γ W (mAc m r) σ H Q) : tCons (teOf Γ W m) (taOf Γ W r) σ H Q := by
  obtain ⟨B, A, F, τ, ds, st, hl, s, q⟩ := h
  refine te_in (τ := τ) (ds := ds) aP.mono hl (fun _ _ _ s => s) s q fun t st1 v H1 F1 f1 s1 q1 => ?_
  have hl' : (some v :: τ).length = (some t :: ds).length := by simpa using hl
  refine ta_in (τ := τ) (ds := ds) (τ' := some v :: τ) (ds' := some t :: ds) aP.mono hl' (fun _ _ _ s => s.pop) s1 q1 fun ts st2 vs H2 F2 hlen f2 s2 q2 => ?_
  refine q2 (v :: vs) H2 F2 (by simpa using hlen) (Same.refl _) ?_
  rw [vpush_cons, tpush_cons]
  exact s2
theorem SR.popV : ∀ {vs : List V} {ts : List TV} {τ : List (Option V)} {ds : Sta}, vs.length = ts.length → SR Γ B A F H (vpush vs τ ++ σ) (tpush ts ds ++ st) → SR Γ B A F H (τ ++ σ) (ds ++ st)
  | [], [], τ, ds, _, s => s
  | [], _ :: _, τ, ds, h, s => by cases h
  | _ :: _, [], τ, ds, h, s => by cases h
  | v :: vs, t :: ts, τ, ds, h, s => by
    rw [vpush_cons, tpush_cons] at s
    have s1 := SR.popV (vs := vs) (ts := ts) (τ := some v :: τ) (ds := some t :: ds) (by simpa using h) s
    exact s1.pop
/-- all frozen: data of the frozen part -/
theorem SR.args : ∀ {vs : List V} {ts : List TV} {τ : List (Option V)} {ds : Sta}, vs.length = ts.length → SR Γ B A F H (vpush vs τ ++ σ) (tpush ts ds ++ st) → (∀ t ∈ ts, t.k = .frz) → RepL Γ F (ts.map (·.d)) vs
  | [], [], τ, ds, _, s, _ => RepL.nil
  | [], _ :: _, τ, ds, h, s, _ => by cases h
  | _ :: _, [], τ, ds, h, s, _ => by cases h
  | v :: vs, t :: ts, τ, ds, h, s, k => by
    rw [vpush_cons, tpush_cons] at s
    have h' : vs.length = ts.length := by simpa using h
    refine RepL.cons ?_ (SR.args h' s fun t m => k t (List.mem_cons_of_mem _ m))
    have e := (SR.popV h' s).top
    have k1 := k t List.mem_cons_self
    obtain ⟨kk, fr, d⟩ := t
    have k1 : kk = .frz := k1
    subst k1
    exact Rep.mono sel_same (show Rep Γ (sel fr B F) d v from e)
theorem SR.argsFr (fr : Bool) : ∀ {vs : List V} {ts : List TV} {τ : List (Option V)} {ds : Sta}, vs.length = ts.length → SR Γ B A F H (vpush vs τ ++ σ) (tpush ts ds ++ st) → (∀ t ∈ ts, t.k = .frz ∧ (fr = true → t.fr = true)) → RepL Γ (sel fr B F) (ts.map (·.d)) vs
  | [], [], τ, ds, _, s, _ => RepL.nil
  | [], _ :: _, τ, ds, h, s, _ => by cases h
  | _ :: _, [], τ, ds, h, s, _ => by cases h
  | v :: vs, t :: ts, τ, ds, h, s, k => by
    rw [vpush_cons, tpush_cons] at s
    have h' : vs.length = ts.length := by simpa using h
    refine RepL.cons ?_ (SR.argsFr fr h' s fun t m => k t (List.mem_cons_of_mem _ m))
    have e := (SR.popV h' s).top
    obtain ⟨k1, k2⟩ := k t List.mem_cons_self
    obtain ⟨kk, fr', d⟩ := t
    have k1 : kk = .frz := k1
    subst k1
    have e : Rep Γ (sel fr' B F) d v := e
    cases fr' with
    | true => exact Rep.mono sel_weak e
    | false =>
      cases fr with
      | true => cases k2 rfl
      | false => exact e
theorem SR.argsH : ∀ {vs : List V} {ts : List TV} {τ : List (Option V)} {ds : Sta}, vs.length = ts.length → SR Γ B A F H (vpush vs τ ++ σ) (tpush ts ds ++ st) → RepL Γ H (ts.map (·.d)) vs
  | [], [], τ, ds, _, s => RepL.nil
  | [], _ :: _, τ, ds, h, s => by cases h
  | _ :: _, [], τ, ds, h, s => by cases h
  | v :: vs, t :: ts, τ, ds, h, s => by
    rw [vpush_cons, tpush_cons] at s
    have h' : vs.length = ts.length := by simpa using h
    exact RepL.cons ((SR.popV h' s).top.rep s.fh) (SR.argsH h' s)
def allFrz (ts : List TV) : Bool := ts.all fun t => match t.k with
  | .frz => true
  | _ => false
def allFr (ts : List TV) : Bool := ts.all (·.fr)
theorem allFrz_of {ts : List TV} (h : allFrz ts = true) : ∀ t ∈ ts, t.k = .frz := fun t m => by
  have := List.all_eq_true.mp h t m
  cases e : t.k with
  | frz => rfl
  | own => rw [e] at this; cases this
  | bor => rw [e] at this; cases this
  | old => rw [e] at this; cases this
/-- [a, b, ..], (a, b, ..) -/
def mLst (ms : MA) : ME := fun st => (ms st).bind fun p => if allFrz p.1 = true ∧ p.1.length ≤ 16777216 then .ok (⟨.own, allFr p.1, .lst (p.1.map (·.d))⟩, p.2) else .stuck
def mTup (ms : MA) : ME := fun st => (ms st).bind fun p => if allFrz p.1 = true ∧ p.1.length ≤ 16777216 then .ok (⟨.frz, allFr p.1, .tup (p.1.map (·.d))⟩, p.2) else .stuck
theorem te_lst {ms : MA} {H : Hp} {Q : VK} (h : teOf Γ W (mLst ms) σ H Q) : tLst (taOf Γ W ms) σ H Q := by
  obtain ⟨B, A, F, τ, ds, st, hl, s, q⟩ := h
  refine ta_in (τ := τ) (ds := ds) eP.mono hl (fun _ _ _ s => s) s q fun ts st1 vs H1 F1 hlen f1 s1 q1 => ?_
  have q1 : rPost Γ W B A τ ds σ (eP Γ B A τ ds σ Q) F1 (if allFrz ts = true ∧ ts.length ≤ 16777216 then .ok (⟨.own, allFr ts, .lst (ts.map (·.d))⟩, st1) else .stuck) := q1
  split at q1
  · rename_i c
    refine ⟨by rw [hlen]; exact sizeL c.2, fun p hp => ?_⟩
    refine q1 _ _ F1 (Same.refl _) ((SR.popV hlen s1).alloc hp ?_)
    exact SR.argsFr _ hlen s1 fun t m => ⟨allFrz_of c.1 t m, fun z => List.all_eq_true.mp z t m⟩
  · exact q1.elim
theorem te_tup {ms : MA} {H : Hp} {Q : VK} (h : teOf Γ W (mTup ms) σ H Q) : tTup (taOf Γ W ms) σ H Q := by
  obtain ⟨B, A, F, τ, ds, st, hl, s, q⟩ := h
  refine ta_in (τ := τ) (ds := ds) eP.mono hl (fun _ _ _ s => s) s q fun ts st1 vs H1 F1 hlen f1 s1 q1 => ?_
  have q1 : rPost Γ W B A τ ds σ (eP Γ B A τ ds σ Q) F1 (if allFrz ts = true ∧ ts.length ≤ 16777216 then .ok (⟨.frz, allFr ts, .tup (ts.map (·.d))⟩, st1) else .stuck) := q1
  split at q1
  · rename_i c
    refine ⟨by rw [hlen]; exact sizeL c.2, fun p hp => ?_⟩
    refine q1 _ _ _ (same_upd_new (s1.fh.free hp)) ((SR.popV hlen s1).allocT hp ?_)
    exact SR.argsFr _ hlen s1 fun t m => ⟨allFrz_of c.1 t m, fun z => List.all_eq_true.mp z t m⟩
  · exact q1.elim
section
variable {X : Cx} {a b c : Expr} {ma mb mc : ME} {pos : Pos} {es : List Expr} {ms : MA} {ta tb : MT} {rest : List Expr}
theorem qt_cmp {op : CmpOp} {f : TV → TV → Option TV} {r : R2} (o : OpR X (compareOp op) r) (d : Does2 Γ f r) (hm : behindInMarks op b = false) (ha : PE X a (teOf Γ W ma)) (hb : PE X b (teOf Γ W mb)) : PT X (.Compare a [op] [b] pos) (ttOf Γ W (mT (mBin f ma mb))) :=
  pt_imp (pt_cmpR o ha hb hm) fun σ H Q h => te_bin d (te_t h)
theorem qt_lt (ha : PE X a (teOf Γ W ma)) (hb : PE X b (teOf Γ W mb)) : PT X (.Compare a [.Lt] [b] pos) (ttOf Γ W (mT (mBin fLt ma mb))) := qt_cmp op_lt does_lt (nomark _) ha hb
theorem qt_le (ha : PE X a (teOf Γ W ma)) (hb : PE X b (teOf Γ W mb)) : PT X (.Compare a [.LtE] [b] pos) (ttOf Γ W (mT (mBin fLe ma mb))) := qt_cmp op_le does_le (nomark _) ha hb
theorem qt_gt (ha : PE X a (teOf Γ W ma)) (hb : PE X b (teOf Γ W mb)) : PT X (.Compare a [.Gt] [b] pos) (ttOf Γ W (mT (mBin fGt ma mb))) := qt_cmp op_gt does_gt (nomark _) ha hb
theorem qt_ge (ha : PE X a (teOf Γ W ma)) (hb : PE X b (teOf Γ W mb)) : PT X (.Compare a [.GtE] [b] pos) (ttOf Γ W (mT (mBin fGe ma mb))) := qt_cmp op_ge does_ge (nomark _) ha hb
theorem qt_eq (hK : X.K = Γ.K) (hu : X.A.units + 64 < cLine) (ha : PE X a (teOf Γ W ma)) (hb : PE X b (teOf Γ W mb)) : PT X (.Compare a [.Eq] [b] pos) (ttOf Γ W (mT (mBin fEq ma mb))) := qt_cmp (hK ▸ op_eqD hu) does_eq (nomark _) ha hb
theorem qt_ne (hK : X.K = Γ.K) (hu : X.A.units + 64 < cLine) (ha : PE X a (teOf Γ W ma)) (hb : PE X b (teOf Γ W mb)) : PT X (.Compare a [.NotEq] [b] pos) (ttOf Γ W (mT (mBin fNe ma mb))) := qt_cmp (hK ▸ op_neD hu) does_ne (nomark _) ha hb
theorem qt_isN {j p2} (ha : PE X a (teOf Γ W ma)) : PT X (.Compare a [.Is] [.Constant .none j p2] pos) (ttOf Γ W (mT (mUn fIsN ma))) := pt_imp (pt_cmpR op_isN ha pe_non (nomark _)) fun _ _ _ h => te_isN (fun b => b) (fun _ => rfl) (fun _ _ _ q => ⟨rfl, q⟩) (te_t h)
theorem qt_notN {j p2} (ha : PE X a (teOf Γ W ma)) : PT X (.Compare a [.IsNot] [.Constant .none j p2] pos) (ttOf Γ W (mT (mUn fNotN ma))) := pt_imp (pt_cmpR op_notN ha pe_non (nomark _)) fun _ _ _ h => te_isN (fun b => !b) (fun _ => rfl) (fun _ _ _ q => ⟨rfl, q⟩) (te_t h)
/-- a call, a name as a test -/
theorem qt_val (ha : PE X a (teOf Γ W ma)) (he : ∀ whole, isTrue a X.env whole = (do let v ← whole; standAt a.pos; holding [v] (truthy v)) := by intro _; rfl) : PT X a (ttOf Γ W (mT ma)) := pt_imp (pt_val ha he) fun _ _ _ h => te_t h
theorem qw_and1 (ha : PT X a (ttOf Γ W ta)) : PW X (.BoolOp .And [a] pos) (ttOf Γ W ta) := pw_and1 ha
theorem qw_or1 (ha : PT X a (ttOf Γ W ta)) : PW X (.BoolOp .Or [a] pos) (ttOf Γ W ta) := pw_or1 ha
theorem qw_and (ha : PT X a (ttOf Γ W ta)) (hb : PW X (.BoolOp .And (b :: rest) pos) (ttOf Γ W tb)) : PW X (.BoolOp .And (a :: b :: rest) pos) (ttOf Γ W (mAnd ta tb)) := pw_imp (pw_and ha hb) fun _ _ _ => te_and
theorem qw_or (ha : PT X a (ttOf Γ W ta)) (hb : PW X (.BoolOp .Or (b :: rest) pos) (ttOf Γ W tb)) : PW X (.BoolOp .Or (a :: b :: rest) pos) (ttOf Γ W (mOr ta tb)) := pw_imp (pw_or ha hb) fun _ _ _ => te_or
theorem qt_not (ha : PT X a (ttOf Γ W ta)) : PT X (.UnaryOp .Not a pos) (ttOf Γ W (mNot ta)) := pt_imp (pt_not ha) fun _ _ _ => te_not
theorem qe_one {op} (ha : PE X a (teOf Γ W ma)) : PE X (.BoolOp op [a] pos) (teOf Γ W (mTV (mT ma))) := pe_imp (pe_one ha) fun _ _ _ => te_tv
theorem qe_and (ha : PE X a (teOf Γ W ma)) (hb : PE X (.BoolOp .And (b :: rest) pos) (teOf Γ W (mTV tb))) : PE X (.BoolOp .And (a :: b :: rest) pos) (teOf Γ W (mTV (mAnd (mT ma) tb))) := pe_imp (pe_and ha hb) fun _ _ _ => te_andV fun _ _ h => h
theorem qe_or (ha : PE X a (teOf Γ W ma)) (hb : PE X (.BoolOp .Or (b :: rest) pos) (teOf Γ W (mTV tb))) : PE X (.BoolOp .Or (a :: b :: rest) pos) (teOf Γ W (mTV (mOr (mT ma) tb))) := pe_imp (pe_or ha hb) fun _ _ _ => te_orV fun _ _ h => h
theorem qe_not (ha : PE X a (teOf Γ W ma)) : PE X (.UnaryOp .Not a pos) (teOf Γ W (mTV (mNot (mT ma)))) := pe_imp (pe_not ha) fun _ _ _ => te_notV
theorem qe_ifE (hc : PT X c (ttOf Γ W ta)) (ha : PE X a (teOf Γ W ma)) (hb : PE X b (teOf Γ W mb)) : PE X (.IfExp c a b pos) (teOf Γ W (mIfE ta ma mb)) := pe_imp (pe_ifExp hc ha hb) fun _ _ _ => te_ifE
theorem qe_chain {op op' : CmpOp} {f g : TV → TV → Option TV} {r r' : R2} (ho : OpR X (compareOp op) r) (ho' : OpR X (compareOp op') r') (df : Does2 Γ f r) (dg : Does2 Γ g r') (ha : PE X a (teOf Γ W ma)) (hb : PE X b (teOf Γ W mb)) (hc : PE X c (teOf Γ W mc))
    (hm : lastMarks [op, op'] [b, c] = false := by with_unfolding_all rfl) : PE X (.Compare a [op, op'] [b, c] pos) (teOf Γ W (mChain f g ma mb mc)) := pe_imp (pe_chain ho ho' ha hb hc hm) fun _ _ _ => te_chain df dg
theorem qt_chain {op op' : CmpOp} {f g : TV → TV → Option TV} {r r' : R2} (ho : OpR X (compareOp op) r) (ho' : OpR X (compareOp op') r') (df : Does2 Γ f r) (dg : Does2 Γ g r') (ha : PE X a (teOf Γ W ma)) (hb : PE X b (teOf Γ W mb)) (hc : PE X c (teOf Γ W mc))
    (hm : lastMarks [op, op'] [b, c] = false := by with_unfolding_all rfl) : PT X (.Compare a [op, op'] [b, c] pos) (ttOf Γ W (mT (mChain f g ma mb mc))) := pt_imp (pt_chain ho ho' ha hb hc hm) fun _ _ _ h => te_chain df dg (te_t h)
theorem qe_ix (hK : X.K = Γ.K) (ha : PE X a (teOf Γ W ma)) (hb : PE X b (teOf Γ W mb)) (hs : PlainIx b) : PE X (.Subscript a b pos) (teOf Γ W (mBin fIx ma mb)) := pe_imp (pe_ix (hK ▸ ix_seq) ha hb hs) fun _ _ _ => te_bin does_ix
theorem qe_sl {lo hi : Option Expr} {ml mh : MO} {p2 : Pos} (hK : X.K = Γ.K) (ha : PE X a (teOf Γ W ma)) (hl : PO X lo (toOf Γ W ml)) (hh : PO X hi (toOf Γ W mh)) : PE X (.Subscript a (.Slice lo hi none p2) pos) (teOf Γ W (mSl ma ml mh)) :=
  pe_imp (pe_slice (r := rSlU Γ.K) (hK ▸ SlR.or sl_list sl_tup) ha hl hh) fun _ _ _ => te_sl
theorem qe_fld {c : Cl} {k : Nat} {f : Str} (hK : X.K = Γ.K) (cl : ClsOk Γ c) (hk : c.fields[k]? = some f) (ha : PE X a (teOf Γ W ma)) (hb : attributeBase a f X.env (eval a X.env) = eval a X.env) : PE X (.Attribute a f pos) (teOf Γ W (mUn (fFld c k) ma)) :=
  pe_imp (pe_fld ha hb) fun _ _ _ h => by rw [hK]; exact te_fld cl hk h
theorem qa_nil : PA X [] (taOf Γ W mA0) := pa_imp pa_nil fun _ _ _ => ta_nil
theorem qa_cons (ha : PE X a (teOf Γ W ma)) (hr : PA X es (taOf Γ W ms)) (hs : starEach (a :: es) X.env = (false, eval a X.env) :: starEach es X.env := by rfl) : PA X (a :: es) (taOf Γ W (mAc ma ms)) := pa_imp (pa_cons ha hr hs) fun _ _ _ => ta_cons
theorem qe_lst (h : PA X es (taOf Γ W ms)) : PE X (.List es pos) (teOf Γ W (mLst ms)) := pe_imp (pe_lst h) fun _ _ _ => te_lst
theorem qe_tup {x1} (h : PA X es (taOf Γ W ms)) : PE X (.Tuple es x1 pos) (teOf Γ W (mTup ms)) := pe_imp (pe_tup h) fun _ _ _ => te_tup
end
end
end Dl

namespace Dl
open PySem PySem.Spec PyProof.Rows L2
section
variable {Γ : Gm} {W : WX} {B F F' H H' : Hp} {A : Ao} {τ τ' : List (Option V)} {ds ds' : Sta} {σ : L2.St} {st : Sta}

/-! ## calls of built-ins -/
def mB (f : List TV → Option TV) (ms : MA) : ME := fun st => (ms st).bind fun p => ofO (f p.1) p.2
def DoesA (Γ : Gm) (f : List TV → Option TV) (r : List V → Hp → VK → Prop) : Prop := ∀ (B : Hp) (A : Ao) (F H : Hp) (vs : List V) (as : List TV) (τ : List (Option V)) (ds : Sta) (t : TV), vs.length = as.length → SR Γ B A F H (vpush vs τ) (tpush as ds) → f as = some t →
  ∀ Q : VK, (∀ v H' F', Same F F' → SR Γ B A F' H' (some v :: τ) (some t :: ds) → Q v H') → r vs H Q
theorem vpush_app {vs : List V} : vpush vs τ ++ σ = vpush vs (τ ++ σ) := by
  unfold vpush
  rw [List.append_assoc]
theorem tpush_app {ts : List TV} : tpush ts ds ++ st = tpush ts (ds ++ st) := by
  unfold tpush
  rw [List.append_assoc]
theorem te_b {f : List TV → Option TV} {r : List V → Hp → VK → Prop} (d : DoesA Γ f r) {ms : MA} {H : Hp} {Q : VK} (h : teOf Γ W (mB f ms) σ H Q) : tCB r (taOf Γ W ms) σ H Q := by
  obtain ⟨B, A, F, τ, ds, st, hl, s, q⟩ := h
  refine ta_in (τ := τ) (ds := ds) eP.mono hl (fun _ _ _ s => s) s q fun ts st1 vs H1 F1 hlen f1 s1 q1 => ?_
  obtain ⟨t3, e3, q3⟩ := rPost.ofO q1
  rw [vpush_app, tpush_app] at s1
  exact d B A F1 H1 vs ts _ _ t3 hlen s1 e3 Q q3
/-- of one argument -/
theorem doesA1 {f : TV → Option TV} {g : List TV → Option TV} {r : V → Hp → VK → Prop} {ra : List V → Hp → VK → Prop} (d : Does1 Γ f r) (hg : ∀ as t, g as = some t → ∃ a, as = [a] ∧ f a = some t) (hr : ∀ x H Q, r x H Q → ra [x] H Q) : DoesA Γ g ra := by
  intro B A F H vs as τ ds t hlen s e Q q
  obtain ⟨a, rfl, ea⟩ := hg as t e
  match vs, hlen with
  | [v], _ => exact hr v H Q (d B A F H τ ds v a t s ea Q q)
theorem doesA2 {f : TV → TV → Option TV} {g : List TV → Option TV} {r : R2} {ra : List V → Hp → VK → Prop} (d : Does2 Γ f r) (hg : ∀ as t, g as = some t → ∃ a b, as = [a, b] ∧ f a b = some t) (hr : ∀ x y H Q, r x y H Q → ra [x, y] H Q) : DoesA Γ g ra := by
  intro B A F H vs as τ ds t hlen s e Q q
  obtain ⟨a, b, rfl, ea⟩ := hg as t e
  match vs, hlen with
  | [v, w], _ => exact hr v w H Q (d B A F H τ ds v w a b t s ea Q q)
def g1 (f : TV → Option TV) : List TV → Option TV
  | [a] => f a
  | _ => none
def g2 (f : TV → TV → Option TV) : List TV → Option TV
  | [a, b] => f a b
  | _ => none
theorem g1_of {f : TV → Option TV} (as : List TV) (t : TV) (h : g1 f as = some t) : ∃ a, as = [a] ∧ f a = some t := by
  match as, h with
  | [a], h => exact ⟨a, rfl, h⟩
theorem g2_of {f : TV → TV → Option TV} (as : List TV) (t : TV) (h : g2 f as = some t) : ∃ a b, as = [a, b] ∧ f a b = some t := by
  match as, h with
  | [a, b], h => exact ⟨a, b, rfl, h⟩
def fLen (a : TV) : Option TV := match a.d with
  | .lst xs => some (.i xs.length)
  | .tup xs => some (.i xs.length)
  | .fl xs => some (.i xs.length)
  | .str x => if x.length ≤ 16777216 then some (.i x.length) else none
  | _ => none
theorem does_len : DoesA Γ (g1 fLen) (fun xs H Q => ∃ x n, xs = [x] ∧ LenV Γ.K x H n ∧ Q (.int n) H) := by
  refine doesA1 (f := fLen) (r := fun x H Q => ∃ n, LenV Γ.K x H n ∧ Q (.int n) H) ?_ g1_of (fun x H Q ⟨n, h, q⟩ => ⟨x, n, rfl, h, q⟩)
  intro B A F H vs ts x a t s e Q q
  obtain ⟨ka, fa, da⟩ := a
  cases da with
  | lst xs =>
    cases e
    obtain ⟨p, us, h1, h2, h3⟩ := s.top.lst s.fh
    subst h1
    refine ⟨xs.length, .inl ⟨us, SqL.of h2, h3.length⟩, q _ H F (Same.refl _) (s.pop.push ent_i (by intro z; cases z))⟩
  | fl xs =>
    cases e
    obtain ⟨p, us, h1, h2, h3⟩ := s.top.fl s.fh
    subst h1
    refine ⟨xs.length, .inl ⟨us, h2, h3.length⟩, q _ H F (Same.refl _) (s.pop.push ent_i (by intro z; cases z))⟩
  | tup xs =>
    cases e
    obtain ⟨p, us, h1, h2, h3⟩ := s.top.tup s.fh
    subst h1
    refine ⟨xs.length, .inr ⟨us, h2, h3.length⟩, q _ H F (Same.refl _) (s.pop.push ent_i (by intro z; cases z))⟩
  | str y =>
    have e : (if y.length ≤ 16777216 then some (TV.i y.length) else none) = some t := e
    split at e
    · rename_i c
      cases e
      have h1 := s.top.str
      subst h1
      exact ⟨y.length, ⟨sizeL c, rfl⟩, q _ H F (Same.refl _) (s.pop.push ent_i (by intro z; cases z))⟩
    · cases e
  | _ => cases e
def fAbs (a : TV) : Option TV := match a.d with
  | .int i => some (.i (if i < 0 then -i else i))
  | _ => none
theorem does_abs : DoesA Γ (g1 fAbs) (fun xs H Q => ∃ i, xs = [.int i] ∧ Q (.int (if i < 0 then -i else i)) H) := by
  refine doesA1 (f := fAbs) (r := fun x H Q => ∃ i, x = .int i ∧ Q (.int (if i < 0 then -i else i)) H) ?_ g1_of (fun x H Q ⟨n, h, q⟩ => ⟨n, by rw [h], q⟩)
  intro B A F H vs ts x a t s e Q q
  obtain ⟨ka, fa, da⟩ := a
  cases da <;> try (cases e)
  exact ⟨_, s.top.int, q _ H F (Same.refl _) (s.pop.push ent_i (by intro z; cases z))⟩
def fInt (a : TV) : Option TV := match a.d with
  | .int i => some (.i i)
  | .bl b => some (.i (if b then 1 else 0))
  | _ => none
theorem does_intc : DoesA Γ (g1 fInt) (fun xs H Q => (∃ i, xs = [.int i] ∧ Q (.int i) H) ∨ ∃ k, xs = [.bl k] ∧ Q (.int (if k then 1 else 0)) H) := by
  refine doesA1 (f := fInt) (r := fun x H Q => (∃ i, x = .int i ∧ Q (.int i) H) ∨ ∃ k, x = .bl k ∧ Q (.int (if k then 1 else 0)) H) ?_ g1_of (fun x H Q h => ?_)
  · intro B A F H vs ts x a t s e Q q
    obtain ⟨ka, fa, da⟩ := a
    cases da <;> try (cases e)
    · exact .inr ⟨_, s.top.bl, q _ H F (Same.refl _) (s.pop.push ent_i (by intro z; cases z))⟩
    · exact .inl ⟨_, s.top.int, q _ H F (Same.refl _) (s.pop.push ent_i (by intro z; cases z))⟩
  · rcases h with ⟨i, h, q⟩ | ⟨i, h, q⟩
    · exact .inl ⟨i, by rw [h], q⟩
    · exact .inr ⟨i, by rw [h], q⟩
def fMax (a b : TV) : Option TV := match a.d, b.d with
  | .int i, .int j => some (.i (if j > i then j else i))
  | _, _ => none
def fMin (a b : TV) : Option TV := match a.d, b.d with
  | .int i, .int j => some (.i (if j < i then j else i))
  | _, _ => none
theorem does_max : DoesA Γ (g2 fMax) (fun xs H Q => ∃ i j, xs = [.int i, .int j] ∧ Q (.int (if j > i then j else i)) H) :=
  doesA2 (f := fMax) (r := rI0 fun i j => .int (if j > i then j else i)) (does_int0 (g := fun i j => if j > i then j else i)) g2_of (fun x y H Q ⟨i, j, h1, h2, q⟩ => ⟨i, j, by rw [h1, h2], q⟩)
theorem does_min : DoesA Γ (g2 fMin) (fun xs H Q => ∃ i j, xs = [.int i, .int j] ∧ Q (.int (if j < i then j else i)) H) :=
  doesA2 (f := fMin) (r := rI0 fun i j => .int (if j < i then j else i)) (does_int0 (g := fun i j => if j < i then j else i)) g2_of (fun x y H Q ⟨i, j, h1, h2, q⟩ => ⟨i, j, by rw [h1, h2], q⟩)
def fList (a : TV) : Option TV := match a.d with
  | .lst xs => some ⟨.own, a.fr, .lst xs⟩
  | .tup xs => some ⟨.own, a.fr, .lst xs⟩
  | .fl xs => some ⟨.own, a.fr, .lst xs⟩
  | _ => none
def rListOf (K : PySem.W.Frag) : List V → Hp → VK → Prop := fun xs H Q => ∃ p ys, xs = [.ref p] ∧ (SqL K H p ys ∨ SqT K H p ys) ∧ ∀ l, H l = none → Q (.ref l) (upd H l (.lst ys))
theorem does_list : DoesA Γ (g1 fList) (rListOf Γ.K) := by
  refine doesA1 (f := fList) (r := fun x H Q => ∃ p ys, x = .ref p ∧ (SqL Γ.K H p ys ∨ SqT Γ.K H p ys) ∧ ∀ l, H l = none → Q (.ref l) (upd H l (.lst ys))) ?_ g1_of (fun x H Q ⟨p, ys, h, r⟩ => ⟨p, ys, by rw [h], r⟩)
  intro B A F H vs ts x a t s e Q q
  obtain ⟨ka, fa, da⟩ := a
  cases da with
  | lst xs =>
    cases e
    obtain ⟨p, us, h1, h2, h3⟩ := s.top.lst s.fh
    exact ⟨p, us, h1, .inl (SqL.of h2), fun l hl => q _ _ F (Same.refl _) (s.pop.alloc hl h3)⟩
  | fl xs =>
    cases e
    obtain ⟨p, us, h1, h2, h3⟩ := s.top.fl s.fh
    exact ⟨p, us, h1, .inl h2, fun l hl => q _ _ F (Same.refl _) (s.pop.alloc hl h3)⟩
  | tup xs =>
    cases e
    obtain ⟨p, us, h1, h2, h3⟩ := s.top.tup s.fh
    exact ⟨p, us, h1, .inr h2, fun l hl => q _ _ F (Same.refl _) (s.pop.alloc hl h3)⟩
  | _ => cases e
def fTuple (a : TV) : Option TV := match a.d with
  | .lst xs => some ⟨.frz, a.fr, .tup xs⟩
  | .fl xs => some ⟨.frz, a.fr, .tup xs⟩
  | _ => none
def rTupOf (K : PySem.W.Frag) : List V → Hp → VK → Prop := fun xs H Q => ∃ p ys, xs = [.ref p] ∧ ((SqL K H p ys ∧ ∀ l, H l = none → Q (.ref l) (upd H l (.tup ys))) ∨ (SqT K H p ys ∧ Q (.ref p) H))
theorem does_tuple : DoesA Γ (g1 fTuple) (rTupOf Γ.K) := by
  refine doesA1 (f := fTuple) (r := fun x H Q => ∃ p ys, x = .ref p ∧ ((SqL Γ.K H p ys ∧ ∀ l, H l = none → Q (.ref l) (upd H l (.tup ys))) ∨ (SqT Γ.K H p ys ∧ Q (.ref p) H))) ?_ g1_of (fun x H Q ⟨p, ys, h, r⟩ => ⟨p, ys, by rw [h], r⟩)
  intro B A F H vs ts x a t s e Q q
  obtain ⟨ka, fa, da⟩ := a
  cases da with
  | lst xs =>
    cases e
    obtain ⟨p, us, h1, h2, h3⟩ := s.top.lst s.fh
    exact ⟨p, us, h1, .inl ⟨SqL.of h2, fun l hl => q _ _ _ (same_upd_new (s.fh.free hl)) (s.pop.allocT hl h3)⟩⟩
  | fl xs =>
    cases e
    obtain ⟨p, us, h1, h2, h3⟩ := s.top.fl s.fh
    exact ⟨p, us, h1, .inl ⟨h2, fun l hl => q _ _ _ (same_upd_new (s.fh.free hl)) (s.pop.allocT hl h3)⟩⟩
  | _ => cases e
/-- sum of ints -/
def D.ints : List D → Option (List Int)
  | [] => some []
  | .int i :: r => (D.ints r).map (i :: ·)
  | _ :: _ => none
theorem D.ints_of : ∀ {xs : List D} {ns : List Int}, D.ints xs = some ns → xs = ns.map D.int
  | [], ns, h => by cases h; rfl
  | .int i :: r, ns, h => by
    obtain ⟨m, h1, h2⟩ := Option.map_eq_some_iff.mp (show (D.ints r).map (i :: ·) = some ns from h)
    rw [← h2, D.ints_of h1]
    rfl
  | .non :: _, _, h => by cases h
  | .bl _ :: _, _, h => by cases h
  | .str _ :: _, _, h => by cases h
  | .lst _ :: _, _, h => by cases h
  | .tup _ :: _, _, h => by cases h
  | .obj _ _ :: _, _, h => by cases h
  | .exc _ _ :: _, _, h => by cases h
  | .xcp _ _ _ _ _ :: _, _, h => by cases h
  | .fl _ :: _, _, h => by cases h
theorem ints_map : ∀ ns : List Int, D.ints (ns.map D.int) = some ns
  | [] => rfl
  | n :: ns => by
    show (D.ints (ns.map D.int)).map (n :: ·) = _
    rw [ints_map ns]
    rfl
def fSum (a : TV) : Option TV := match a.d with
  | .lst xs => (D.ints xs).map fun ns => .i ns.sum
  | _ => none
theorem does_sum : DoesA Γ (g1 fSum) (rSum Γ.K) := by
  refine doesA1 (f := fSum) (r := fun x H Q => ∃ (a : Addr) (ns : List Int), x = V.ref a ∧ SqL Γ.K H a (ns.map V.int) ∧ Q (.int ns.sum) H) ?_ g1_of (fun x H Q ⟨p, ys, h, r⟩ => ⟨p, ys, by rw [h], r⟩)
  intro B A F H vs ts x a t s e Q q
  obtain ⟨ka, fa, da⟩ := a
  cases da with
  | lst xs =>
    obtain ⟨ns, e1, e2⟩ := Option.map_eq_some_iff.mp (show (D.ints xs).map (fun ns => TV.i ns.sum) = some t from e)
    have e3 := D.ints_of e1
    subst e3
    subst e2
    obtain ⟨p, us, h1, h2, h3⟩ := s.top.lst s.fh
    rw [h3.ints] at h2
    exact ⟨p, ns, h1, SqL.of h2, q _ H F (Same.refl _) (s.pop.push ent_i (by intro z; cases z))⟩
  | _ => cases e
/-- isinstance of data and a built-in class -/
def fIsi (b : String) (a : TV) : Option TV := match a.d with
  | .non => (kitB "NoneType" b).map .b
  | .bl _ => (kitB "bool" b).map .b
  | .int _ => (kitB "int" b).map .b
  | .str _ => (kitB "str" b).map .b
  | .lst _ => (kitB "list" b).map .b
  | .tup _ => (kitB "tuple" b).map .b
  | _ => none
def fIsi2 (b : String) : List TV → Option TV
  | [a, c] => fIsi b a
  | _ => none
end
end Dl

namespace Dl
open PySem PySem.Spec PyProof.Rows L2
section
variable {Γ : Gm} {W : WX} {B F F' H H' : Hp} {A : Ao} {τ τ' : List (Option V)} {ds ds' : Sta} {σ : L2.St} {st : Sta}
theorem te_isi {b : String} {ma : ME} {H : Hp} {Q : VK} (h : teOf Γ W (mUn (fIsi b) ma) σ H Q) : tCB (rIsi Γ.K) (tCons (teOf Γ W ma) (tCons (tC (.ty b)) tNil)) σ H Q := by
  obtain ⟨B, A, F, τ, ds, st, hl, s, q⟩ := h
  refine te_in (τ := τ) (ds := ds) eP.mono hl (fun _ _ _ s => s) s q fun t st1 v H1 F1 f1 s1 q1 => ?_
  obtain ⟨t3, e3, q3⟩ := rPost.ofO q1
  obtain ⟨k, fr, d⟩ := t
  have fin : ∀ {a : String}, TyX Γ.K H1 v (.type a) → (kitB a b).map TV.b = some t3 → tCons (fun σ H Q => Q v H) (tCons (tC (.ty b)) tNil) σ H1 (fun vs H2 => rIsi Γ.K vs H2 Q) := fun {a} ty e => by
    obtain ⟨r, e1, e2⟩ := Option.map_eq_some_iff.mp e
    subst e2
    exact ⟨v, .ty b, .type a, .type b, r, rfl, .ty b, ty, kit_ty e1, q3 _ H1 F1 (Same.refl _) (s1.pop.push ent_b (by intro z; cases z))⟩
  cases d with
  | non =>
    have e : v = .non := by
      have r : Rep Γ H1 .non v := s1.top.rep s1.fh
      simpa only [Rep] using r
    subst e
    exact fin (.base .non) e3
  | bl c =>
    have e := s1.top.bl
    subst e
    exact fin (.base (.bl _)) e3
  | int c =>
    have e := s1.top.int
    subst e
    exact fin (.base (.int _)) e3
  | str c =>
    have e := s1.top.str
    subst e
    exact fin (.base (.str _)) e3
  | lst xs =>
    obtain ⟨p, us, h1, h2, h3⟩ := s1.top.lst s1.fh
    subst h1
    exact fin (.base (.lst h2)) e3
  | tup xs =>
    obtain ⟨p, us, h1, h2, h3⟩ := s1.top.tup s1.fh
    subst h1
    rcases h2 with (h2 | ⟨ob, h2⟩) | ⟨o, its, n, h2, h4, _⟩
    · exact fin (.base (.tup h2)) e3
    · exact fin (.fTuple h2) e3
    · exact fin (.kTuple h2 h4) e3
  | _ => cases e3
section
variable {X : Cx} {a b : Expr} {ma mb : ME} {pos p p2 : Pos} {es : List Expr} {ms : MA} {x : Str}
theorem qe_b {id : String} {f : List TV → Option TV} {r : List V → Hp → VK → Prop} {e : Expr} (hc : CallR X (.builtin id) r) (d : DoesA Γ f r) (hg : Gl X x) (hm : X.mg x = none) (hv : bootBuiltins x = some (.builtin id)) (ha : PA X (e :: es) (taOf Γ W ms)) (hn : x ≠ "__name__" := by decide) (hdb : (x == ("__debug__" : Str)) = false := by decide)
    (he : starEach (e :: es) X.env = (false, eval e X.env) :: starEach es X.env := by rfl) (hpl : (backTo pos (starEach es X.env)).any (·.1) = false := by rfl) : PE X (.Call (.Name x p) (e :: es) [] pos) (teOf Γ W (mB f ms)) :=
  pe_imp (pe_callB hc hg hm hv ha hn hdb he hpl) fun _ _ _ => te_b d
theorem qe_ty {T : String} {f : List TV → Option TV} {r : List V → Hp → VK → Prop} {e : Expr} (hc : CallR X (.type T) r) (d : DoesA Γ f r) (hg : Gl X x) (hm : X.mg x = none) (hv : bootBuiltins x = some (.type T)) (ha : PA X (e :: es) (taOf Γ W ms)) (hn : x ≠ "__name__" := by decide) (hdb : (x == ("__debug__" : Str)) = false := by decide)
    (he : starEach (e :: es) X.env = (false, eval e X.env) :: starEach es X.env := by rfl) (hpl : (backTo pos (starEach es X.env)).any (·.1) = false := by rfl) : PE X (.Call (.Name x p) (e :: es) [] pos) (teOf Γ W (mB f ms)) :=
  pe_imp (pe_callTy hc hg hm hv ha hn hdb he hpl) fun _ _ _ => te_b d
theorem qe_isi {T : String} {y : Str} (hK : X.K = Γ.K) (hg : Gl X "isinstance") (hm : X.mg "isinstance" = none) (hgy : Gl X y) (hmy : X.mg y = none) (hvy : bootBuiltins y = some (.type T)) (ha : PE X a (teOf Γ W ma)) (hn : y ≠ "__name__" := by decide) (hdb : (y == ("__debug__" : Str)) = false := by decide)
    (he : starEach [a, .Name y p2] X.env = (false, eval a X.env) :: starEach [.Name y p2] X.env := by rfl) (he2 : starEach [.Name y p2] X.env = (false, eval (.Name y p2) X.env) :: starEach [] X.env := by rfl) (hpl : (backTo pos (starEach [.Name y p2] X.env)).any (·.1) = false := by rfl) :
    PE X (.Call (.Name "isinstance" p) [a, .Name y p2] [] pos) (teOf Γ W (mUn (fIsi T) ma)) :=
  pe_imp (pe_callB (hK ▸ call_isi) hg hm (by decide +kernel) (pa_cons ha (pa_cons (pe_bltn (v := .ty T) hgy hmy hvy rfl hn hdb) pa_nil he2) he) (by decide) (by decide) he hpl) fun _ _ _ h => te_isi h
end

/-! ## the program's own defs -/
inductive Out where
  | ok (t : TV)
  | err (c : Ec)
  | stuck
def outR (o : Out) (st : Sta) : Res (TV × Sta) := match o with
  | .ok t => .ok (t, st)
  | .err c => .err c st
  | .stuck => .stuck
def Kd.isBor : Kd → Bool
  | .bor => true
  | _ => false
/-- what a def hands back -/
def outP (Γ : Gm) (A H : Hp) (Q : VK) (E : XK) : Out → Prop
  | .ok t => okRet t = true ∧ ∀ v H' F', Same H H' → Same A F' → Same F' H' → (∀ a o, F' a = some o → A a = some o ∨ H a = none) → Ent Γ H F' H' t v → Q v H'
  | .err c => ∀ C d H' F', Γ.mg c.n = some (.ref C) → Same H H' → Same A F' → Same F' H' → (∀ a o, F' a = some o → A a = some o ∨ H a = none) → Pay Γ H F' c d → E (.ref C) d H'
  | .stuck => False
def spD (Γ : Gm) (n : Nat) (g : List D → Out) : Sp := fun vs H Q E => vs.length = n ∧ ∃ A ds, Same A H ∧ RepL Γ A ds vs ∧ outP Γ A H Q E (g ds)
/-- fields of an exception: all new, or the arguments frozen -/
def errOk (f : Bool) (c : Ec) : Bool := match c.x with
  | none => true
  | some (fr, _, _) => f || fr
def callR (g : List D → Out) (ts : List TV) (st : Sta) : Res (TV × Sta) := match g (ts.map (·.d)) with
  | .ok t => if okRet t = true ∧ (allFrz ts || t.fr) = true then .ok (t, st) else .stuck
  | .err c => if errOk (allFrz ts) c = true then .err c st else .stuck
  | .stuck => .stuck
def mCall (g : List D → Out) (ms : MA) : ME := fun st => (ms st).bind fun p => callR g p.1 p.2
def mMeth (g : List D → Out) (c : Cl) (mo : ME) (ms : MA) : ME := fun st => (mo st).bind fun p => match p.1.d with
  | .obj c' _ => if c' = c then (ms p.2).bind fun q => callR g (p.1 :: q.1) q.2 else .stuck
  | _ => .stuck
/-- in the heap H behind the arguments -/
theorem call_sp {g : List D → Out} {ts : List TV} {vs : List V} {Q : VK} (hlen : vs.length = ts.length) (s : SR Γ B A F H (vpush vs τ ++ σ) (tpush ts ds ++ st)) (q : rPost Γ W B A τ ds σ (eP Γ B A τ ds σ Q) F (callR g ts st)) : spD Γ vs.length g vs H Q (fun cls d H => W cls d σ H) := by
  have sp := SR.popV hlen s
  refine ⟨rfl, ?_⟩
  unfold callR at q
  cases e : g (ts.map (·.d)) with
  | ok t =>
    rw [e] at q
    have q : rPost Γ W B A τ ds σ (eP Γ B A τ ds σ Q) F (if okRet t = true ∧ (allFrz ts || t.fr) = true then .ok (t, st) else .stuck) := q
    by_cases hc : okRet t = true ∧ (allFrz ts || t.fr) = true
    · rw [if_pos hc] at q
      by_cases hf : allFrz ts = true
      · refine ⟨F, ts.map (·.d), s.fh, SR.args hlen s (allFrz_of hf), ?_⟩
        rw [e]
        exact ⟨hc.1, fun v H' F' h1 h2 h3 h4 h5 => q v H' F' h2 (sp.ret h1 h2 h3 h4 h5 hc.1)⟩
      · refine ⟨H, ts.map (·.d), Same.refl _, SR.argsH hlen s, ?_⟩
        rw [e]
        refine ⟨hc.1, fun v H' F' h1 h2 h3 h4 h5 => ?_⟩
        obtain ⟨k, fr, d⟩ := t
        have hfr : fr = true := by
          have z := hc.2
          have hf' : allFrz ts = false := by simpa using hf
          rw [hf', Bool.false_or] at z
          exact z
        subst hfr
        obtain ⟨F1, f1, s1⟩ := sp.retNew h1 h3 h5 hc.1
        exact q v H' F1 f1 s1
    · rw [if_neg hc] at q
      exact q.elim
  | err c =>
    rw [e] at q
    have q : rPost Γ W B A τ ds σ (eP Γ B A τ ds σ Q) F (if errOk (allFrz ts) c = true then .err c st else .stuck) := q
    by_cases hc : errOk (allFrz ts) c = true
    · rw [if_pos hc] at q
      by_cases hf : allFrz ts = true
      · refine ⟨F, ts.map (·.d), s.fh, SR.args hlen s (allFrz_of hf), ?_⟩
        rw [e]
        exact fun C d H' F' g h1 h2 h3 h4 y => q C d H' F' g h2 (y.of fun fr ns xs dd us _ y2 y3 y5 => ⟨y2, sp.bh.free y3, RepL.mono (sel_mono2 sp.bh) y5⟩) (sp.grow h1 h2 h3 h4)
      · refine ⟨H, ts.map (·.d), Same.refl _, SR.argsH hlen s, ?_⟩
        rw [e]
        intro C d H' F' g h1 h2 h3 h4 y
        obtain ⟨s1, wk⟩ := sp.joinNew h1 h3
        refine q C d H' _ g join_l (y.of fun fr ns xs dd us ex y2 y3 y5 => ?_) s1
        have hfr : fr = true := by
          unfold errOk at hc
          rw [ex] at hc
          have hf' : allFrz ts = false := by simpa using hf
          rw [hf'] at hc
          simpa using hc
        subst hfr
        have m1 : minus F' H dd = some (.xd (ns.zip us)) := by
          unfold minus
          rw [y3]
          exact y2
        exact ⟨minus_same _ _ (wk _ _ m1), sp.bh.free y3, RepL.mono wk y5⟩
    · rw [if_neg hc] at q
      exact q.elim
  | stuck => rw [e] at q; exact q.elim
theorem te_call {g : List D → Out} {n : Nat} {ms : MA} {H : Hp} {Q : VK} {dvs : List V} (hn : ∀ ts st st', ms st = .ok (ts, st') → ts.length = n) (h : teOf Γ W (mCall g ms) σ H Q) : tCallS (spD Γ n g) (fun σ cls d H => W cls d σ H) (taOf Γ W ms) σ H Q := by
  obtain ⟨B, A, F, τ, ds, st, hl, s, q⟩ := h
  refine ⟨B, A, F, τ, ds, st, hl, s, rPost.bind (fun _ _ _ s => s) q fun ts st1 e q1 vs H1 F1 hlen f1 s1 => ?_⟩
  have z := call_sp hlen s1 (q1.mono eP.mono f1)
  rw [hlen, hn ts st st1 e] at z
  exact z
theorem obj_of {k : Kd} {fr : Bool} {c : Cl} {xs : List D} {v : V} (h : Ent Γ B F H ⟨k, fr, .obj c xs⟩ v) (fh : Same F H) : ∃ p C dx vs, v = .ref p ∧ Γ.mg c.name = some (.ref C) ∧ H p = some (.ins C dx (c.fields.zip vs)) := by
  obtain ⟨p, C, dx, vs, h1, h2, h3, _⟩ := h.obj fh
  exact ⟨p, C, dx, vs, h1, h2, h3⟩
/-- o.m(..), E by the slots -/
def tMethS (C : Addr) (m : Str) (sp : Sp) (E : L2.St → XK) (ta : TE) (t : TA) : TE := fun σ H Q => ta σ H fun x H1 => ∃ a dx fs, x = .ref a ∧ H1 a = some (.ins C dx fs) ∧ fs.lookup m = none ∧ t σ H1 fun vs H2 => sp (x :: vs) H2 Q (E σ)
theorem te_meth {g : List D → Out} {c : Cl} {C : Addr} {m : Str} {n : Nat} {mo : ME} {ms : MA} {H : Hp} {Q : VK} (hC : Γ.mg c.name = some (.ref C)) (hm : m ∉ c.fields) (hn : ∀ ts st st', ms st = .ok (ts, st') → ts.length = n) (h : teOf Γ W (mMeth g c mo ms) σ H Q) :
    tMethS C m (spD Γ (n + 1) g) (fun σ cls d H => W cls d σ H) (teOf Γ W mo) (taOf Γ W ms) σ H Q := by
  obtain ⟨B, A, F, τ, ds, st, hl, s, q⟩ := h
  refine te_in (τ := τ) (ds := ds) eP.mono hl (fun _ _ _ s => s) s q fun t st1 v H1 F1 f1 s1 q1 => ?_
  obtain ⟨k, fr, d⟩ := t
  have hl' : (some v :: τ).length = (some (⟨k, fr, d⟩ : TV) :: ds).length := by simpa using hl
  cases d with
  | obj c' xs =>
    have q1 : rPost Γ W B A τ ds σ (eP Γ B A τ ds σ Q) F1 (if c' = c then (ms st1).bind fun q => callR g (⟨k, fr, .obj c' xs⟩ :: q.1) q.2 else .stuck) := q1
    by_cases ec : c' = c
    · subst ec
      rw [if_pos rfl] at q1
      obtain ⟨p, C', dx, us, h1, h2, h3⟩ := obj_of s1.top s1.fh
      rw [hC] at h2
      injection h2 with h2
      injection h2 with h2
      subst h2
      refine ⟨p, dx, _, h1, h3, lookup_zip_none hm, ?_⟩
      refine ⟨B, A, F1, some v :: τ, some ⟨k, fr, .obj c' xs⟩ :: ds, st1, hl', s1, rPost.bind (fun _ _ _ s => s.pop) q1 fun ts st2 e q2 vs H2 F2 hlen f2 s2 => ?_⟩
      have s3 : SR Γ B A F2 H2 (vpush (v :: vs) τ ++ σ) (tpush (⟨k, fr, .obj c' xs⟩ :: ts) ds ++ st2) := by
        rw [vpush_cons, tpush_cons]
        exact s2
      have z := call_sp (vs := v :: vs) (ts := ⟨k, fr, .obj c' xs⟩ :: ts) (by simpa using hlen) s3 (q2.mono eP.mono f2)
      rw [List.length_cons, hlen, hn ts st1 st2 e] at z
      exact z
    · rw [if_neg ec] at q1
      exact q1.elim
  | _ => exact q1.elim

/-! ## a new object -/
inductive OutO where
  | ok (fr : Bool) (ds : List D)
  | err (c : Str)
  | stuck
/-- what __init__ does: B the heap without the object at p -/
def spI (Γ : Gm) (c : Cl) (n : Nat) (g : List D → OutO) : Sp := fun vs H Q E => ∃ B A p C dx us ds, vs = .ref p :: us ∧ us.length = n ∧ Γ.mg c.name = some (.ref C) ∧ B p = none ∧ H = upd B p (.ins C dx []) ∧ Same A B ∧ RepL Γ A ds us ∧ match g ds with
  | .ok fr fds => ∀ H' F' vs' dx', Same B H' → Same A F' → Same F' H' → (∀ a o, F' a = some o → A a = some o ∨ B a = none) → F' p = none → H' p = some (.ins C dx' (c.fields.zip vs')) → fds.length ≤ c.fields.length → RepL Γ (sel fr B F') fds vs' → Q .non H'
  | .err e => ∀ C H', Γ.mg e = some (.ref C) → Same B H' → E (.ref C) none H'
  | .stuck => False
def tMakeS (C : Addr) (sp : Sp) (dvs : List V) (E : L2.St → XK) (t : TA) : TE := fun σ H Q => t σ H fun vs H1 => ∀ x dx, H1 x = none → H1 dx = none → dx ≠ x →
  sp (.ref x :: (vs ++ dvs)) (upd (upd H1 dx (.own x)) x (.ins C dx [])) (fun v H2 => v = .non ∧ Q (.ref x) H2) (E σ)
def mMake (g : List D → OutO) (c : Cl) (dd : List D) (ms : MA) : ME := fun st => (ms st).bind fun p => if allFrz p.1 = true then (match g (p.1.map (·.d) ++ dd) with
  | .ok fr fds => .ok (⟨.frz, fr, .obj c fds⟩, p.2)
  | .err e => .err ⟨e, none⟩ p.2
  | .stuck => .stuck) else .stuck
theorem te_make {g : List D → OutO} {c : Cl} {C : Addr} {n : Nat} {ms : MA} {H : Hp} {Q : VK} {dd : List D} {dvs : List V} (hC : Γ.mg c.name = some (.ref C)) (hd : ∀ F, RepL Γ F dd dvs) (hn : ∀ ts st st', ms st = .ok (ts, st') → ts.length + dd.length = n) (h : teOf Γ W (mMake g c dd ms) σ H Q) :
    tMakeS C (spI Γ c n g) dvs (fun σ cls d H => W cls d σ H) (taOf Γ W ms) σ H Q := by
  obtain ⟨B, A, F, τ, ds, st, hl, s, q⟩ := h
  refine ⟨B, A, F, τ, ds, st, hl, s, rPost.bind (fun _ _ _ s => s) q fun ts st1 e q1 vs H1 F1 hlen f1 s1 x dx hx hdx hne => ?_⟩
  have q1 := q1.mono eP.mono f1
  have q1 : rPost Γ W B A τ ds σ (eP Γ B A τ ds σ Q) F1 (if allFrz ts = true then (match g (ts.map (·.d) ++ dd) with
    | .ok fr fds => .ok (⟨.frz, fr, .obj c fds⟩, st1)
    | .err e => .err ⟨e, none⟩ st1
    | .stuck => .stuck) else .stuck) := q1
  have sp := SR.popV hlen s1
  by_cases hf : allFrz ts = true
  · rw [if_pos hf] at q1
    have ra := SR.args hlen s1 (allFrz_of hf)
    have hb : Same H1 (upd H1 dx (.own x)) := same_upd_new hdx
    have hbx : upd H1 dx (.own x) x = none := by rw [upd_ne (Ne.symm hne)]; exact hx
    refine ⟨upd H1 dx (.own x), F1, x, C, dx, vs ++ dvs, ts.map (·.d) ++ dd, rfl, ?_, hC, hbx, rfl, s1.fh.trans hb, ra.append (hd _), ?_⟩
    · have l1 := ra.length
      have l2 := (hd F1).length
      rw [List.length_append, ← l1, ← l2, List.length_map]
      exact hn ts st st1 e
    · cases eg : g (ts.map (·.d) ++ dd) with
      | ok fr fds =>
        rw [eg] at q1
        intro H' F' vs' dx' h1 h2 h3 h4 h5 h6 h7 h8
        refine ⟨rfl, q1 (.ref x) H' (upd F' x (.ins C dx' (c.fields.zip vs'))) (h2.trans (same_upd_new h5)) ?_⟩
        have nx : F1 x = none := s1.fh.free hx
        have bx : B x = none := s1.bh.free hx
        have ff : Same F' (upd F' x (.ins C dx' (c.fields.zip vs'))) := same_upd_new h5
        refine (sp.grow (hb.trans h1) (h2.trans ff) (fun a o z => ?_) fun a o z => ?_).push ?_ (by intro z; cases z)
        · by_cases ea : a = x
          · subst ea; rw [upd_same] at z; rw [h6]; exact z
          · rw [upd_ne ea] at z; exact h3 _ _ z
        · by_cases ea : a = x
          · subst ea; exact .inr hx
          · rw [upd_ne ea] at z
            rcases h4 a o z with z | z
            · exact .inl z
            · exact .inr (hb.free z)
        · show Rep Γ (sel fr B (upd F' x (.ins C dx' (c.fields.zip vs')))) (.obj c fds) (.ref x)
          simp only [Rep]
          refine ⟨x, C, dx', vs', rfl, hC, ?_, h7, RepL.mono (fun a o z => ?_) h8⟩
          · cases fr with
            | true =>
              show minus _ B x = _
              unfold minus
              rw [bx, upd_same]
            | false => exact upd_same
          · cases fr with
            | true => exact minus_mono ff _ _ (minus_mono2 (s1.bh.trans hb) _ _ z)
            | false => exact ff _ _ z
      | err c2 =>
        rw [eg] at q1
        exact fun C' H' g1 h1 => q1 C' none H' F1 g1 (Same.refl _) Pay.plain (sp.grow (hb.trans h1) (Same.refl _) ((sp.fh.trans hb).trans h1) fun _ _ z => .inl z)
      | stuck => rw [eg] at q1; exact q1.elim
  · rw [if_neg hf] at q1
    exact q1.elim
end
end Dl

namespace Dl
open PySem PySem.Spec PyProof.Rows L2
section
variable {X : Cx} {k : Nat} {f C : Addr} {fd : FuncData} {ps : List Str} {sp : Sp} {dvs : List V} {dus : List Value} {x m : Str} {p pos apos : Pos} {e o : Expr} {es : List Expr} {ta : TE} {t : TA}
/-- the callee runs, its wish told at the slots σ -/
theorem run_at {E : XK} {pins : List (Addr × Obj)} {σ : L2.St} {H : Hp} {s : Shared} {Q : VK} {us : List Value} {vs : List V}
    (G : FnOk X.prog X.w X.K X.mg X.base (L2.CX X.prog X.w) k f fd ps sp) (hr : Room k X.A) (hb : Binds X.K fd ps dus)
    (hd : Vals dvs dus) (hx : PassesAt (L2.CX X.prog X.w) X σ E) (I : Inv X pins σ H s) (r : Vals vs us) (h : sp (vs ++ dvs) H Q E) :
    wpAny (model X.prog X.w) X.A (call (.ref f) us) (EP X pins σ Q) X.xe s := by
  have rr : Vals (vs ++ dvs) (us ++ dus) := r.append hd
  have ll : (us ++ dus).length = ps.length := rr.length.symm.trans (G.len _ _ _ _ h)
  refine wpAny_call (codeAny_mono (G.run _ X.stack s H ⟨us, []⟩ (us ++ dus) (vs ++ dvs) Q E hr I.env0 (hb s us I.kIn ll) rr h) ?_)
  intro res s' hq
  match res, hq with
  | .error e, hq => exact hx pins H s e s' I hq
  | .ok (.ret u), hq => exact I.after hq
/-- f(e, ..) -/
theorem pe_callG {E : L2.St → XK} (G : FnOk X.prog X.w X.K X.mg X.base (L2.CX X.prog X.w) k f fd ps sp) (hr : Room k X.A) (hg : Gl X x) (hm : X.mg x = some (.ref f))
    (hk : PySem.W.keepIn X.K (.ref f) = true) (hb : Binds X.K fd ps dus) (hd : Vals dvs dus) (hx : ∀ σ, PassesAt (L2.CX X.prog X.w) X σ (E σ)) (ha : PA X (e :: es) t)
    (hdb : (x == ("__debug__" : Str)) = false := by decide) (he : starEach (e :: es) X.env = (false, eval e X.env) :: starEach es X.env := by rfl)
    (hpl : (backTo pos (starEach es X.env)).any (·.1) = false := by rfl) : PE X (.Call (.Name x p) (e :: es) [] pos) (tCallS (fun vs => sp (vs ++ dvs)) E t) := by
  constructor
  intro pins s σ H Q I h
  refine wpAny_Call_Name_kw (ld_glob I hg hm ?_ hdb)
  refine PySem.W.callWith_K (h₀ := X.base) I.ok.mod.kin hk (thn (ha.run pos pins s σ H _ I h) ?_) he hpl
  rintro us s1 ⟨vs, H1, I1, r, q⟩
  exact ⟨I1.kIn, run_at G hr hb hd (hx σ) I1 r q⟩
theorem pe_callG0 {E : L2.St → XK} (G : FnOk X.prog X.w X.K X.mg X.base (L2.CX X.prog X.w) k f fd ps sp) (hr : Room k X.A) (hg : Gl X x) (hm : X.mg x = some (.ref f))
    (hk : PySem.W.keepIn X.K (.ref f) = true) (hb : Binds X.K fd ps dus) (hd : Vals dvs dus) (hx : ∀ σ, PassesAt (L2.CX X.prog X.w) X σ (E σ))
    (hdb : (x == ("__debug__" : Str)) = false := by decide) : PE X (.Call (.Name x p) [] [] pos) (tCallS (fun vs => sp (vs ++ dvs)) E tNil) := by
  constructor
  intro pins s σ H Q I h
  refine wpAny_Call_Name_kw (ld_glob I hg hm ?_ hdb)
  exact PySem.W.callWith_K0 I.kIn hk (run_at (us := []) G hr hb hd (hx σ) I .nil h)
/-- o.m(e, ..), o.m() -/
theorem pe_methG {pl : Sem Bool} {E : L2.St → XK} (ho : PE X o ta) (c : Cls X.K C) (hm : Meth X.K C m f) (G : FnOk X.prog X.w X.K X.mg X.base (L2.CX X.prog X.w) k f fd ps sp) (hr : Room k X.A) (hb : Binds X.K fd ps [])
    (hx : ∀ σ, PassesAt (L2.CX X.prog X.w) X σ (E σ)) (ha : PA X (e :: es) t)
    (hst : starEach (e :: es) X.env = (false, eval e X.env) :: starEach es X.env := by rfl) (hpl : (backTo pos (starEach es X.env)).any (·.1) = false := by rfl)
    (ht : eval (.Call (.Attribute o m apos) (e :: es) [] pos) X.env = (do
      let ov ← eval o X.env
      standAt apos.atName
      let (fn, first) ← holding [ov] (getMethod ov m pl)
      callWith pos fn first (backTo pos (starEach (e :: es) X.env)) (backToKw pos (keywordEach [] X.env))) := by rfl) :
    PE X (.Call (.Attribute o m apos) (e :: es) [] pos) (tMethS C m sp E ta t) := by
  constructor
  intro pins s σ H Q I h
  refine PySem.W.methodCall_KW (pl := pl) (thn (ho.run pins s σ H _ I h) ?_) ht
  rintro u s1 ⟨x, H1, I1, rx, a, dx, fs, ex, ea, l, q⟩
  subst ex
  obtain rfl : u = Value.ref a := rx
  refine getmeth_ok I1 ea c hm l (PySem.W.callWith_K (first := [.ref a]) (h₀ := X.base) I.ok.mod.kin hm.kp (thn (ha.run pos pins s1 σ H1 _ I1 q) ?_) hst hpl)
  rintro us s2 ⟨vs, H2, I2, r, q2⟩
  exact ⟨I2.kIn, run_at (us := .ref a :: us) (vs := .ref a :: vs) (dvs := []) G hr hb .nil (hx σ) I2 (.cons rfl r) (by rw [List.append_nil]; exact q2)⟩
theorem pe_methG0 {pl : Sem Bool} {E : L2.St → XK} (ho : PE X o ta) (c : Cls X.K C) (hm : Meth X.K C m f) (G : FnOk X.prog X.w X.K X.mg X.base (L2.CX X.prog X.w) k f fd ps sp) (hr : Room k X.A) (hb : Binds X.K fd ps [])
    (hx : ∀ σ, PassesAt (L2.CX X.prog X.w) X σ (E σ))
    (ht : eval (.Call (.Attribute o m apos) [] [] pos) X.env = (do
      let ov ← eval o X.env
      standAt apos.atName
      let (fn, first) ← holding [ov] (getMethod ov m pl)
      callWith pos fn first (backTo pos (starEach [] X.env)) (backToKw pos (keywordEach [] X.env))) := by rfl) :
    PE X (.Call (.Attribute o m apos) [] [] pos) (tMethS C m sp E ta tNil) := by
  constructor
  intro pins s σ H Q I h
  refine PySem.W.methodCall_KW (pl := pl) (thn (ho.run pins s σ H _ I h) ?_) ht
  rintro u s1 ⟨x, H1, I1, rx, a, dx, fs, ex, ea, l, q⟩
  subst ex
  obtain rfl : u = Value.ref a := rx
  exact getmeth_ok I1 ea c hm l (PySem.W.callWith_K0 (first := [.ref a]) I1.kIn hm.kp (run_at (us := [.ref a]) (vs := [.ref a]) (dvs := []) G hr hb .nil (hx σ) I1 (.cons rfl .nil) q))
/-- C(e, ..) -/
theorem run_makeG {E : XK} {pins : List (Addr × Obj)} {σ : L2.St} {H : Hp} {s : Shared} {Q : VK} {us : List Value} {vs : List V} (M : Mk X.K C f)
    (G : FnOk X.prog X.w X.K X.mg X.base (L2.CX X.prog X.w) k f fd ps sp) (hr : Room (k + 1) X.A) (hb : Binds X.K fd ps dus) (hd : Vals dvs dus) (hx : PassesAt (L2.CX X.prog X.w) X σ E) (I : Inv X pins σ H s) (r : Vals vs us)
    (h : ∀ x dx, H x = none → H dx = none → dx ≠ x → sp (.ref x :: (vs ++ dvs)) (upd (upd H dx (.own x)) x (.ins C dx [])) (fun v H2 => v = .non ∧ Q (.ref x) H2) E) :
    wpAny (model X.prog X.w) X.A (call (.ref C) us) (EP X pins σ Q) X.xe s := by
  have hq := h (s.heap.objs.size + 1) s.heap.objs.size (I.hok.fresh (Nat.le_succ _)) (I.hok.fresh (Nat.le_refl _)) (Nat.ne_of_lt (Nat.lt_succ_self _))
  have J := Inv.made (C := C) I
  have rr : Vals (V.ref (s.heap.objs.size + 1) :: (vs ++ dvs)) (Value.ref (s.heap.objs.size + 1) :: (us ++ dus)) := .cons rfl (r.append hd)
  have ll : (Value.ref (s.heap.objs.size + 1) :: us ++ dus).length = ps.length := rr.length.symm.trans (G.len _ _ _ _ hq)
  refine wpAny_call (make_map (f := f) I.kIn M.makes M.init (beq_iff_eq.mp M.fn) (codeAny_mono (G.run _ X.stack _ _ ⟨Value.ref (s.heap.objs.size + 1) :: us, []⟩
    (Value.ref (s.heap.objs.size + 1) :: (us ++ dus)) _ _ E (hr.make C us []) (J.env0.make C us []) (hb _ (Value.ref (s.heap.objs.size + 1) :: us) J.kIn ll) rr hq) ?_))
  intro res s' hq'
  match res, hq' with
  | .error e, hq' => exact hx pins _ _ e s' J hq'
  | .ok (.ret u), hq' =>
    obtain ⟨v, H', I3, rv, ev, q3⟩ := J.after hq'
    subst ev
    exact ⟨rv, ⟨V.ref (s.heap.objs.size + 1), H', I3, rfl, q3⟩⟩
theorem pe_makeG {E : L2.St → XK} (M : Mk X.K C f) (G : FnOk X.prog X.w X.K X.mg X.base (L2.CX X.prog X.w) k f fd ps sp) (hr : Room (k + 1) X.A) (hg : Gl X x) (hm : X.mg x = some (.ref C)) (hb : Binds X.K fd ps dus) (hd : Vals dvs dus)
    (hx : ∀ σ, PassesAt (L2.CX X.prog X.w) X σ (E σ)) (ha : PA X (e :: es) t)
    (hdb : (x == ("__debug__" : Str)) = false := by decide) (he : starEach (e :: es) X.env = (false, eval e X.env) :: starEach es X.env := by rfl)
    (hpl : (backTo pos (starEach es X.env)).any (·.1) = false := by rfl) : PE X (.Call (.Name x p) (e :: es) [] pos) (tMakeS C sp dvs E t) := by
  constructor
  intro pins s σ H Q I h
  refine wpAny_Call_Name_kw (ld_glob I hg hm ?_ hdb)
  refine PySem.W.callWith_K (h₀ := X.base) I.ok.mod.kin M.kp (thn (ha.run pos pins s σ H _ I h) ?_) he hpl
  rintro us s1 ⟨vs, H1, I1, r, q⟩
  exact ⟨I1.kIn, run_makeG M G hr hb hd (hx σ) I1 r q⟩
end

/-! ## what the text has: defs, methods, classes -/
section
variable (Γ : Gm) (P : Program) (w : World) (base : Heap)
/-- a def -/
structure DefOk (k : Nat) (x : Str) (ps : List Str) (g : List D → Out) : Prop where
  ok : ∃ f fd, Γ.mg x = some (.ref f) ∧ PySem.W.keepIn Γ.K (.ref f) = true ∧ Binds Γ.K fd ps [] ∧ FnOk P w Γ.K Γ.mg base (L2.CX P w) k f fd ps (spD Γ ps.length g)
/-- a method of the class c -/
structure MethOk (k : Nat) (c : Cl) (m : Str) (ps : List Str) (g : List D → Out) : Prop where
  no : m ∉ c.fields
  ok : ∃ C f fd, Γ.mg c.name = some (.ref C) ∧ Cls Γ.K C ∧ Meth Γ.K C m f ∧ Binds Γ.K fd ps [] ∧ FnOk P w Γ.K Γ.mg base (L2.CX P w) k f fd ps (spD Γ ps.length g)
/-- a class's making; dd: the defaults that fill up -/
structure MakeOk (k : Nat) (c : Cl) (ps : List Str) (dd : List D) (g : List D → OutO) : Prop where
  ok : ∃ C f fd dvs dus, Γ.mg c.name = some (.ref C) ∧ Mk Γ.K C f ∧ Binds Γ.K fd ("self" :: ps) dus ∧ Vals dvs dus ∧ (∀ F, RepL Γ F dd dvs) ∧ FnOk P w Γ.K Γ.mg base (L2.CX P w) k f fd ("self" :: ps) (spI Γ c ps.length g)
end
section
variable {Γ : Gm} {W : WX} {X : Cx} {k j : Nat} {x m : Str} {p pos apos : Pos} {e o : Expr} {es : List Expr} {mo : ME} {ms : MA} {ps : List Str} {c : Cl}
/-- how many values -/
structure Len (ms : MA) (n : Nat) : Prop where
  eq : ∀ ts st st', ms st = .ok (ts, st') → ts.length = n
theorem len0 : Len mA0 0 := ⟨fun ts st st' h => by cases h; rfl⟩
theorem lenC {m : ME} {r : MA} {n : Nat} (h : Len r n) : Len (mAc m r) (n + 1) := ⟨fun ts st st' e => by
  unfold mAc at e
  cases e1 : m st with
  | ok q =>
    rw [e1] at e
    have e : ((r q.2).bind fun u => Res.ok (q.1 :: u.1, u.2)) = .ok (ts, st') := e
    cases e2 : r q.2 with
    | ok u =>
      rw [e2] at e
      cases e
      rw [List.length_cons, h.eq u.1 q.2 u.2 e2]
    | err a b => rw [e2] at e; cases e
    | stuck => rw [e2] at e; cases e
  | err a b => rw [e1] at e; cases e
  | stuck => rw [e1] at e; cases e⟩
/-- what the context of a body has to do with Γ -/
structure Fit (Γ : Gm) (W : WX) (X : Cx) : Prop where
  K : X.K = Γ.K
  mg : X.mg = Γ.mg
  tk : Takes X W
theorem Fit.at (f : Fit Γ W X) : ∀ σ, PassesAt (L2.CX X.prog X.w) X σ (fun cls d H => W cls d σ H) := fun σ => passAt f.tk σ
theorem qe_call {g : List D → Out} (h : DefOk Γ X.prog X.w X.base k x ps g) (ft : Fit Γ W X) (hr : Room j X.A) (kj : k ≤ j) (hg : Gl X x) (ha : PA X (e :: es) (taOf Γ W ms)) (hl : Len ms ps.length)
    (hdb : (x == ("__debug__" : Str)) = false := by decide) (he : starEach (e :: es) X.env = (false, eval e X.env) :: starEach es X.env := by rfl)
    (hpl : (backTo pos (starEach es X.env)).any (·.1) = false := by rfl) : PE X (.Call (.Name x p) (e :: es) [] pos) (teOf Γ W (mCall g ms)) := by
  obtain ⟨f, fd, h1, h2, h3, h4⟩ := h.ok
  rw [← ft.K, ← ft.mg] at h4
  refine pe_imp (pe_callG (dvs := []) h4 (hr.mono kj) hg (by rw [ft.mg]; exact h1) (by rw [ft.K]; exact h2) (by rw [ft.K]; exact h3) .nil ft.at ha hdb he hpl) fun σ H Q q => ?_
  have z := te_call (dvs := []) hl.eq q
  have e1 : (fun vs => spD Γ ps.length g (vs ++ [])) = spD Γ ps.length g := by
    funext vs
    rw [List.append_nil]
  rw [e1]
  exact z
theorem qe_call0 {g : List D → Out} (h : DefOk Γ X.prog X.w X.base k x [] g) (ft : Fit Γ W X) (hr : Room j X.A) (kj : k ≤ j) (hg : Gl X x) (hdb : (x == ("__debug__" : Str)) = false := by decide) : PE X (.Call (.Name x p) [] [] pos) (teOf Γ W (mCall g mA0)) := by
  obtain ⟨f, fd, h1, h2, h3, h4⟩ := h.ok
  rw [← ft.K, ← ft.mg] at h4
  refine pe_imp (pe_callG0 (dvs := []) h4 (hr.mono kj) hg (by rw [ft.mg]; exact h1) (by rw [ft.K]; exact h2) (by rw [ft.K]; exact h3) .nil ft.at hdb) fun σ H Q q => ?_
  obtain ⟨B, A, F, τ, ds, st, hl, s, q⟩ := te_call (dvs := []) (Len.eq len0) q
  exact q [] H F rfl (Same.refl _) s
theorem qe_meth {pl : Sem Bool} {g : List D → Out} {s0 : Str} (h : MethOk Γ X.prog X.w X.base k c m (s0 :: ps) g) (ft : Fit Γ W X) (hr : Room j X.A) (kj : k ≤ j) (ho : PE X o (teOf Γ W mo)) (ha : PA X (e :: es) (taOf Γ W ms)) (hl : Len ms ps.length)
    (hst : starEach (e :: es) X.env = (false, eval e X.env) :: starEach es X.env := by rfl) (hpl : (backTo pos (starEach es X.env)).any (·.1) = false := by rfl)
    (ht : eval (.Call (.Attribute o m apos) (e :: es) [] pos) X.env = (do
      let ov ← eval o X.env
      standAt apos.atName
      let (fn, first) ← holding [ov] (getMethod ov m pl)
      callWith pos fn first (backTo pos (starEach (e :: es) X.env)) (backToKw pos (keywordEach [] X.env))) := by rfl) :
    PE X (.Call (.Attribute o m apos) (e :: es) [] pos) (teOf Γ W (mMeth g c mo ms)) := by
  obtain ⟨C, f, fd, h1, h2, h3, h4, h5⟩ := h.ok
  rw [← ft.K, ← ft.mg] at h5
  exact pe_imp (pe_methG (pl := pl) ho (ft.K ▸ h2) (ft.K ▸ h3) h5 (hr.mono kj) (ft.K ▸ h4) ft.at ha hst hpl ht) fun σ H Q q => te_meth (n := ps.length) h1 h.no hl.eq q
theorem qe_meth0 {pl : Sem Bool} {g : List D → Out} {s0 : Str} (h : MethOk Γ X.prog X.w X.base k c m [s0] g) (ft : Fit Γ W X) (hr : Room j X.A) (kj : k ≤ j) (ho : PE X o (teOf Γ W mo))
    (ht : eval (.Call (.Attribute o m apos) [] [] pos) X.env = (do
      let ov ← eval o X.env
      standAt apos.atName
      let (fn, first) ← holding [ov] (getMethod ov m pl)
      callWith pos fn first (backTo pos (starEach [] X.env)) (backToKw pos (keywordEach [] X.env))) := by rfl) :
    PE X (.Call (.Attribute o m apos) [] [] pos) (teOf Γ W (mMeth g c mo mA0)) := by
  obtain ⟨C, f, fd, h1, h2, h3, h4, h5⟩ := h.ok
  rw [← ft.K, ← ft.mg] at h5
  refine pe_imp (pe_methG0 (pl := pl) ho (ft.K ▸ h2) (ft.K ▸ h3) h5 (hr.mono kj) (ft.K ▸ h4) ft.at ht) fun σ H Q q => ?_
  have z := te_meth (n := 0) h1 h.no (Len.eq len0) q
  obtain ⟨B, A, F, τ, ds, st, hl, s, q⟩ := z
  refine ⟨B, A, F, τ, ds, st, hl, s, ?_⟩
  refine rPost.mono' q fun t st1 F1 q v H1 F2 f2 s1 => ?_
  obtain ⟨a, dx, fs, e1, e2, e3, B', A', F', τ', ds', st', hl', s', q'⟩ := q v H1 F2 f2 s1
  exact ⟨a, dx, fs, e1, e2, e3, q' [] H1 F' rfl (Same.refl _) s'⟩
theorem qe_make {g : List D → OutO} {dd : List D} {n : Nat} (h : MakeOk Γ X.prog X.w X.base k c ps dd g) (ft : Fit Γ W X) (hr : Room j X.A) (kj : k + 1 ≤ j) (hg : Gl X c.name) (ha : PA X (e :: es) (taOf Γ W ms)) (hl : Len ms n) (hn : n + dd.length = ps.length)
    (hdb : (c.name == ("__debug__" : Str)) = false := by decide) (he : starEach (e :: es) X.env = (false, eval e X.env) :: starEach es X.env := by rfl)
    (hpl : (backTo pos (starEach es X.env)).any (·.1) = false := by rfl) : PE X (.Call (.Name c.name p) (e :: es) [] pos) (teOf Γ W (mMake g c dd ms)) := by
  obtain ⟨C, f, fd, dvs, dus, h1, h2, h3, h4, h5, h6⟩ := h.ok
  rw [← ft.K, ← ft.mg] at h6
  exact pe_imp (pe_makeG (ft.K ▸ h2) h6 (hr.mono kj) hg (by rw [ft.mg]; exact h1) (ft.K ▸ h3) h4 ft.at ha hdb he hpl) fun σ H Q q => te_make h1 h5 (fun ts st st' e => by rw [hl.eq ts st st' e]; exact hn) q
end
end Dl

namespace Dl
open PySem PySem.Spec PyProof.Rows L2
section
variable {Γ : Gm} {W : WX} {B F F' H H' : Hp} {A : Ao} {τ τ' : List (Option V)} {ds ds' : Sta} {σ : L2.St} {st : Sta}
/-! ## statements -/
def sPost (Γ : Gm) (W : WX) (B : Hp) (A : Ao) (τ : List (Option V)) (ds : Sta) {α : Type} (P : α → Sta → Hp → Prop) (F : Hp) (r : Res (α × Sta)) : Prop := match r with
  | .ok (a, st') => P a st' F
  | .err c st' => ∀ C d σ' H' F', Γ.mg c.n = some (.ref C) → Same F F' → Pay Γ B F' c d → SR Γ B A F' H' (τ ++ σ') (ds ++ st') → W (.ref C) d σ' H'
  | .stuck => False
def sP (Γ : Gm) (B : Hp) (A : Ao) (τ : List (Option V)) (ds : Sta) (D : Ends) : Ctl → Sta → Hp → Prop := fun c st' F => match c with
  | .next => ∀ σ' H' F', Same F F' → SR Γ B A F' H' (τ ++ σ') (ds ++ st') → D.nx σ' H'
  | .brk => ∀ σ' H' F', Same F F' → SR Γ B A F' H' (τ ++ σ') (ds ++ st') → D.bk σ' H'
  | .cont => ∀ σ' H' F', Same F F' → SR Γ B A F' H' (τ ++ σ') (ds ++ st') → D.ct σ' H'
  | .ret t => okRet t = true ∧ ∀ v σ' H' F', Same F F' → SR Γ B A F' H' (some v :: (τ ++ σ')) (some t :: (ds ++ st')) → D.rt v H'
theorem sP.mono {D : Ends} : Mono (sP Γ B A τ ds D) := fun c st F F' e h => by
  cases c with
  | next => exact fun σ' H' F2 e2 s => h σ' H' F2 (e.trans e2) s
  | brk => exact fun σ' H' F2 e2 s => h σ' H' F2 (e.trans e2) s
  | cont => exact fun σ' H' F2 e2 s => h σ' H' F2 (e.trans e2) s
  | ret t => exact ⟨h.1, fun v σ' H' F2 e2 s => h.2 v σ' H' F2 (e.trans e2) s⟩
theorem sPost.mono {α : Type} {P : α → Sta → Hp → Prop} (m : Mono P) {r : Res (α × Sta)} (e : Same F F') (h : sPost Γ W B A τ ds P F r) : sPost Γ W B A τ ds P F' r := by
  cases r with
  | ok p => exact m _ _ _ _ e h
  | err c st' => exact fun C d σ' H' F2 g e2 y s => h C d σ' H' F2 g (e.trans e2) y s
  | stuck => exact h
def noBorD (ds : Sta) : Prop := noBor ds
def msOf (Γ : Gm) (W : WX) (m : MS) : TS := fun D σ H => ∃ B A F τ ds st, τ.length = ds.length ∧ noBor ds ∧ SR Γ B A F H (τ ++ σ) (ds ++ st) ∧ sPost Γ W B A τ ds (sP Γ B A τ ds D) F (m st)
theorem sPost.bind {α β : Type} {m : Res (α × Sta)} {k : α × Sta → Res (β × Sta)} {P : β → Sta → Hp → Prop} {P' : α → Sta → Hp → Prop} (dn : ∀ F H σ st, SR Γ B A F H (τ' ++ σ) (ds' ++ st) → SR Γ B A F H (τ ++ σ) (ds ++ st))
    (h : sPost Γ W B A τ ds P F (m.bind k)) (ok : ∀ a st1, m = .ok (a, st1) → sPost Γ W B A τ ds P F (k (a, st1)) → P' a st1 F) : rPost Γ W B A τ' ds' σ P' F m := by
  cases m with
  | ok p => exact ok p.1 p.2 rfl h
  | err c st1 => exact fun C d H2 F2 g f2 y s2 => h C d σ H2 F2 g f2 y (dn _ _ _ _ s2)
  | stuck => exact h
theorem se_in {β : Type} {m : ME} {k : TV × Sta → Res (β × Sta)} {P : β → Sta → Hp → Prop} (mo : Mono P) {Q' : VK} (hl : τ'.length = ds'.length) (dn : ∀ F H σ st, SR Γ B A F H (τ' ++ σ) (ds' ++ st) → SR Γ B A F H (τ ++ σ) (ds ++ st)) (s : SR Γ B A F H (τ' ++ σ) (ds' ++ st))
    (h : sPost Γ W B A τ ds P F ((m st).bind k)) (ok : ∀ t st1 v H1 F1, Same F F1 → SR Γ B A F1 H1 (some v :: (τ' ++ σ)) (some t :: (ds' ++ st1)) → sPost Γ W B A τ ds P F1 (k (t, st1)) → Q' v H1) : teOf Γ W m σ H Q' :=
  ⟨B, A, F, τ', ds', st, hl, s, h.bind dn fun t st1 _ q v H1 F1 f s1 => ok t st1 v H1 F1 f s1 (q.mono mo f)⟩
theorem st_in {β : Type} {m : MT} {k : Bool × Sta → Res (β × Sta)} {P : β → Sta → Hp → Prop} (mo : Mono P) {Q' : Bool → Hp → Prop} (hl : τ'.length = ds'.length) (dn : ∀ F H σ st, SR Γ B A F H (τ' ++ σ) (ds' ++ st) → SR Γ B A F H (τ ++ σ) (ds ++ st)) (s : SR Γ B A F H (τ' ++ σ) (ds' ++ st))
    (h : sPost Γ W B A τ ds P F ((m st).bind k)) (ok : ∀ b st1 H1 F1, Same F F1 → SR Γ B A F1 H1 (τ' ++ σ) (ds' ++ st1) → sPost Γ W B A τ ds P F1 (k (b, st1)) → Q' b H1) : ttOf Γ W m σ H Q' :=
  ⟨B, A, F, τ', ds', st, hl, s, h.bind dn fun b st1 _ q H1 F1 f s1 => ok b st1 H1 F1 f s1 (q.mono mo f)⟩
theorem sa_in {β : Type} {m : MA} {k : List TV × Sta → Res (β × Sta)} {P : β → Sta → Hp → Prop} (mo : Mono P) {Q' : List V → Hp → Prop} (hl : τ'.length = ds'.length) (dn : ∀ F H σ st, SR Γ B A F H (τ' ++ σ) (ds' ++ st) → SR Γ B A F H (τ ++ σ) (ds ++ st)) (s : SR Γ B A F H (τ' ++ σ) (ds' ++ st))
    (h : sPost Γ W B A τ ds P F ((m st).bind k)) (ok : ∀ ts st1 vs H1 F1, vs.length = ts.length → Same F F1 → SR Γ B A F1 H1 (vpush vs τ' ++ σ) (tpush ts ds' ++ st1) → sPost Γ W B A τ ds P F1 (k (ts, st1)) → Q' vs H1) : taOf Γ W m σ H Q' :=
  ⟨B, A, F, τ', ds', st, hl, s, h.bind dn fun ts st1 _ q vs H1 F1 l f s1 => ok ts st1 vs H1 F1 l f s1 (q.mono mo f)⟩
def mSeq (a b : MS) : MS := fun st => (a st).bind fun p => match p.1 with
  | .next => b p.2
  | c => .ok (c, p.2)
def mPass : MS := fun st => .ok (.next, st)
def mBrk : MS := fun st => .ok (.brk, st)
def mCont : MS := fun st => .ok (.cont, st)
def mIf (c : MT) (a b : MS) : MS := fun st => (c st).bind fun p => match p.1 with
  | true => a p.2
  | false => b p.2
def stored (t : TV) (i : Nat) (st : Sta) : Res (Ctl × Sta) := match t.k with
  | .bor => .stuck
  | _ => .ok (.next, setS st i (some t))
def mSet (i : Nat) (m : ME) : MS := fun st => (m st).bind fun p => stored p.1 i p.2
def mExpr (m : ME) : MS := fun st => (m st).bind fun p => .ok (.next, p.2)
def mRet (m : ME) : MS := fun st => (m st).bind fun p => if okRet p.1 = true then .ok (.ret p.1, p.2) else .stuck
def mRetN : MS := fun st => .ok (.ret .n, st)
theorem se_seq {a b : MS} {D : Ends} {H : Hp} (h : msOf Γ W (mSeq a b) D σ H) : tSeq (msOf Γ W a) (msOf Γ W b) D σ H := by
  obtain ⟨B, A, F, τ, ds, st, hl, nb, s, q⟩ := h
  refine ⟨B, A, F, τ, ds, st, hl, nb, s, ?_⟩
  have q : sPost Γ W B A τ ds (sP Γ B A τ ds D) F ((a st).bind fun p => match p.1 with
    | .next => b p.2
    | c => .ok (c, p.2)) := q
  cases e : a st with
  | ok p =>
    obtain ⟨c, st1⟩ := p
    rw [e] at q
    cases c with
    | next =>
      intro σ' H' F' f s1
      exact ⟨B, A, F', τ, ds, st1, hl, nb, s1, sPost.mono sP.mono f q⟩
    | brk => exact q
    | cont => exact q
    | ret t => exact q
  | err c st1 => rw [e] at q; exact q
  | stuck => rw [e] at q; exact q
theorem se_if {c : MT} {a b : MS} {D : Ends} {H : Hp} (h : msOf Γ W (mIf c a b) D σ H) : tIfS (ttOf Γ W c) (msOf Γ W a) (msOf Γ W b) D σ H := by
  obtain ⟨B, A, F, τ, ds, st, hl, nb, s, q⟩ := h
  refine st_in (τ := τ) (ds := ds) sP.mono hl (fun _ _ _ _ s => s) s q fun c st1 H1 F1 f1 s1 q1 => ?_
  cases c with
  | true => exact ⟨B, A, F1, τ, ds, st1, hl, nb, s1, q1⟩
  | false => exact ⟨B, A, F1, τ, ds, st1, hl, nb, s1, q1⟩
theorem SR.store_at (hl : τ.length = ds.length) {v : V} {t : TV} (s : SR Γ B A F H (some v :: (τ ++ σ)) (some t :: (ds ++ st))) (i : Nat) : SR Γ B A F H (τ ++ σ.set i (some v)) (ds ++ setS st i (some t)) := by
  have z := s.store (ds.length + i)
  have e : (τ ++ σ).set (ds.length + i) (some v) = τ ++ σ.set i (some v) := by rw [← hl]; exact set_slot _ _ _ _
  rw [e, set_slot, ← setS_set] at z
  exact z
theorem se_set {i : Nat} {m : ME} {D : Ends} {H : Hp} (h : msOf Γ W (mSet i m) D σ H) : tAsg (teOf Γ W m) (gName i) D σ H := by
  obtain ⟨B, A, F, τ, ds, st, hl, nb, s, q⟩ := h
  refine se_in (τ := τ) (ds := ds) sP.mono hl (fun _ _ _ _ s => s) s q fun t st1 v H1 F1 f1 s1 q1 => ?_
  obtain ⟨k, fr, d⟩ := t
  cases k with
  | bor => exact q1.elim
  | frz => exact q1 _ H1 F1 (Same.refl _) (s1.store_at hl i)
  | old => exact q1 _ H1 F1 (Same.refl _) (s1.store_at hl i)
  | own => exact q1 _ H1 F1 (Same.refl _) (s1.store_at hl i)
theorem se_expr {m : ME} {D : Ends} {H : Hp} (h : msOf Γ W (mExpr m) D σ H) : tDrop (teOf Γ W m) D σ H := by
  obtain ⟨B, A, F, τ, ds, st, hl, nb, s, q⟩ := h
  refine se_in (τ := τ) (ds := ds) sP.mono hl (fun _ _ _ _ s => s) s q fun t st1 v H1 F1 f1 s1 q1 => q1 _ H1 F1 (Same.refl _) s1.pop
theorem se_ret {m : ME} {D : Ends} {H : Hp} (h : msOf Γ W (mRet m) D σ H) : tRet (teOf Γ W m) D σ H := by
  obtain ⟨B, A, F, τ, ds, st, hl, nb, s, q⟩ := h
  refine se_in (τ := τ) (ds := ds) sP.mono hl (fun _ _ _ _ s => s) s q fun t st1 v H1 F1 f1 s1 q1 => ?_
  have q1 : sPost Γ W B A τ ds (sP Γ B A τ ds D) F1 (if okRet t = true then .ok (.ret t, st1) else .stuck) := q1
  by_cases c : okRet t = true
  · rw [if_pos c] at q1
    exact q1.2 _ _ H1 F1 (Same.refl _) s1
  · rw [if_neg c] at q1
    exact q1.elim
/-- a, b, .. = a tuple -/
def setEach (fr : Bool) : List Nat → List D → Sta → Option Sta
  | [], [], st => some st
  | i :: is, d :: ds, st => setEach fr is ds (setS st i (some (.el fr d)))
  | _, _, _ => none
def tgTup (is : List Nat) (t : TV) (st : Sta) : Option Sta := match t.d with
  | .tup xs => setEach t.fr is xs st
  | _ => none
def tgLst (is : List Nat) (t : TV) (st : Sta) : Option Sta := match t.d with
  | .lst xs => setEach t.fr is xs st
  | _ => none
def tgName (i : Nat) (t : TV) (st : Sta) : Option Sta := match t.k with
  | .bor => none
  | _ => some (setS st i (some t))
def TgD (Γ : Gm) (g : TG) (f : TV → Sta → Option Sta) : Prop := ∀ (B : Hp) (A : Ao) (F H : Hp) (τ : List (Option V)) (ds : Sta) (σ : L2.St) (st st' : Sta) (v : V) (t : TV), τ.length = ds.length → SR Γ B A F H (some v :: (τ ++ σ)) (some t :: (ds ++ st)) → f t st = some st' →
  ∀ Q : L2.St → Hp → Prop, (∀ σ', SR Γ B A F H (τ ++ σ') (ds ++ st') → Q σ' H) → g v σ H Q
theorem tg_name {i : Nat} : TgD Γ (gName i) (tgName i) := by
  intro B A F H τ ds σ st st' v t hl s e Q q
  obtain ⟨k, fr, d⟩ := t
  cases k with
  | bor => cases e
  | frz => cases e; exact q _ (s.store_at hl i)
  | old => cases e; exact q _ (s.store_at hl i)
  | own => cases e; exact q _ (s.store_at hl i)
def gNames : List Nat → TGs
  | [] => gNil
  | i :: is => gCons (gName i) (gNames is)
theorem set_each {fr : Bool} : ∀ {is : List Nat} {xs : List D} {us : List V} {st st' : Sta} {σ : L2.St}, τ.length = ds.length → SR Γ B A F H (τ ++ σ) (ds ++ st) → RepL Γ (sel fr B F) xs us → setEach fr is xs st = some st' →
    ∀ Q : L2.St → Hp → Prop, (∀ σ', SR Γ B A F H (τ ++ σ') (ds ++ st') → Q σ' H) → gNames is us σ H Q
  | [], [], us, st, st', σ, hl, s, r, e, Q, q => by
    cases e
    exact ⟨r.nil_inv, q _ s⟩
  | i :: is, d :: xs, us, st, st', σ, hl, s, r, e, Q, q => by
    obtain ⟨v, u, rfl, h1, h2⟩ := r.cons_inv
    refine ⟨v, u, rfl, ?_⟩
    have s1 := (s.push (t := .el fr d) (ent_el h1) (by intro z; cases z)).store_at hl i
    exact set_each hl s1 h2 e Q q
  | [], _ :: _, _, _, _, _, _, _, _, e, _, _ => by cases e
  | _ :: _, [], _, _, _, _, _, _, _, e, _, _ => by cases e
theorem setEach_len {fr : Bool} : ∀ {is : List Nat} {xs : List D} {st st' : Sta}, setEach fr is xs st = some st' → xs.length = is.length
  | [], [], _, _, _ => rfl
  | i :: is, d :: xs, st, st', e => by
    have z := setEach_len (is := is) (xs := xs) (st := setS st i (some (.el fr d))) (st' := st') e
    simp only [List.length_cons, z]
  | [], _ :: _, _, _, e => by cases e
  | _ :: _, [], _, _, e => by cases e
theorem tg_tup {is : List Nat} : TgD Γ (gTup Γ.K is.length (gNames is)) (tgTup is) := by
  intro B A F H τ ds σ st st' v t hl s e Q q
  obtain ⟨k, fr, d⟩ := t
  cases d with
  | tup xs =>
    obtain ⟨p, us, h1, h2, h3⟩ := s.top.tup s.fh
    have e : setEach fr is xs st = some st' := e
    exact ⟨p, us, h1, h2, by rw [← h3.length]; exact setEach_len e, set_each hl s.pop h3 e Q q⟩
  | _ => cases e
/-- target = value -/
def mAsg (f : TV → Sta → Option Sta) (m : ME) : MS := fun st => (m st).bind fun p => match f p.1 p.2 with
  | some st' => .ok (.next, st')
  | none => .stuck
theorem se_asg {f : TV → Sta → Option Sta} {g : TG} (tg : TgD Γ g f) {m : ME} {D : Ends} {H : Hp} (h : msOf Γ W (mAsg f m) D σ H) : tAsg (teOf Γ W m) g D σ H := by
  obtain ⟨B, A, F, τ, ds, st, hl, nb, s, q⟩ := h
  refine se_in (τ := τ) (ds := ds) sP.mono hl (fun _ _ _ _ s => s) s q fun t st1 v H1 F1 f1 s1 q1 => ?_
  have q1 : sPost Γ W B A τ ds (sP Γ B A τ ds D) F1 (match f t st1 with
    | some st' => .ok (.next, st')
    | none => .stuck) := q1
  cases e : f t st1 with
  | none => rw [e] at q1; exact q1.elim
  | some st2 =>
    rw [e] at q1
    exact tg B A F1 H1 τ ds σ st1 st2 v t hl s1 e _ fun σ' s2 => q1 σ' H1 F1 (Same.refl _) s2
/-- a, b = x, y -/
def mPar (i j : Nat) (ms : MA) : MS := fun st => (ms st).bind fun p => match p.1 with
  | [a, b] => if allFrz [a, b] = true then .ok (.next, setS (setS p.2 i (some a)) j (some b)) else .stuck
  | _ => .stuck
theorem se_par {i j : Nat} {ms : MA} {D : Ends} {H : Hp} (h : msOf Γ W (mPar i j ms) D σ H) : tPar i j (taOf Γ W ms) D σ H := by
  obtain ⟨B, A, F, τ, ds, st, hl, nb, s, q⟩ := h
  refine sa_in (τ := τ) (ds := ds) sP.mono hl (fun _ _ _ _ s => s) s q fun ts st1 vs H1 F1 hlen f1 s1 q1 => ?_
  match ts, vs, hlen with
  | [a, b], [v, u], hlen =>
    have q1 : sPost Γ W B A τ ds (sP Γ B A τ ds D) F1 (if allFrz [a, b] = true then .ok (.next, setS (setS st1 i (some a)) j (some b)) else .stuck) := q1
    by_cases hf : allFrz [a, b] = true
    · rw [if_pos hf] at q1
      refine ⟨v, u, rfl, ?_⟩
      have s1 : SR Γ B A F1 H1 (some u :: some v :: (τ ++ σ)) (some b :: some a :: (ds ++ st1)) := s1
      have eb := s1.top
      have s2 := s1.pop.store_at hl i
      have kb : b.k = .frz := allFrz_of hf b (by simp)
      have s3 := (s2.push eb (by rw [kb]; intro z; cases z)).store_at hl j
      exact q1 _ H1 F1 (Same.refl _) s3
    · rw [if_neg hf] at q1
      exact q1.elim
  | [], _, _ => exact q1.elim
  | [_], _, _ => exact q1.elim
  | _ :: _ :: _ :: _, _, _ => exact q1.elim
/-- x += e of ints -/
def mAug (i : Nat) (f : Int → Int → Int) (m : ME) : MS := fun st => match getS st i with
  | some ⟨_, _, .int a⟩ => (m st).bind fun p => match p.1.d with
    | .int b => .ok (.next, setS p.2 i (some (.i (f a b))))
    | _ => .stuck
  | _ => .stuck
theorem se_aug {i : Nat} {f : Int → Int → Int} {m : ME} {D : Ends} {H : Hp} (h : msOf Γ W (mAug i f m) D σ H) : tAug i (teOf Γ W m) (ipI f) D σ H := by
  obtain ⟨B, A, F, τ, ds, st, hl, nb, s, q⟩ := h
  unfold mAug at q
  cases e : getS st i with
  | none => rw [e] at q; exact q.elim
  | some t0 =>
    rw [e] at q
    obtain ⟨v, e1, e0, e2⟩ := s.slot hl e
    obtain ⟨k0, fr0, d0⟩ := t0
    cases d0 with
    | int a =>
      refine ⟨v, e1, ?_⟩
      have q : sPost Γ W B A τ ds (sP Γ B A τ ds D) F ((m st).bind fun p => match p.1.d with
        | .int b => .ok (.next, setS p.2 i (some (.i (f a b))))
        | _ => .stuck) := q
      refine se_in (τ := τ) (ds := ds) sP.mono hl (fun _ _ _ _ s => s) s q fun t st1 v1 H1 F1 f1 s1 q1 => ?_
      obtain ⟨k, fr, d⟩ := t
      cases d with
      | int b => exact ⟨a, b, e2.int, s1.top.int, q1 _ H1 F1 (Same.refl _) ((s1.pop.push (t := .i (f a b)) ent_i (by intro z; cases z)).store_at hl i)⟩
      | _ => exact q1.elim
    | _ => exact q.elim
/-! ## own lists changed -/
theorem SR.upd_at (hl : τ.length = ds.length) (s : SR Γ B A F H (τ ++ σ) (ds ++ st)) (nb : noBor (ds ++ st)) {i : Nat} {fr fr' : Bool} {d : D} {p : Addr} {us : List V} {xs : List D} (e : getS st i = some ⟨.own, fr, d⟩) (ev : σ[i]? = some (some (.ref p))) (hr : RepL Γ (sel fr' B F) xs us) :
    SR Γ B A F (upd H p (.lst us)) (τ ++ σ) (ds ++ setS st i (some ⟨.own, fr', .lst xs⟩)) := by
  have e0 : (τ ++ σ)[ds.length + i]? = some (some (.ref p)) := by
    rw [List.getElem?_append_right (by omega), hl, Nat.add_sub_cancel_left]
    exact ev
  have z := s.updL nb (at_slot hl e) e0 hr
  rw [set_slot, ← setS_set] at z
  exact z
theorem noBor_push {t : TV} (nb : noBor ds) (k : t.k ≠ .bor) : noBor (some t :: ds) := fun j u e => by
  cases j with
  | zero =>
    have : t = u := by simpa using e
    subst this
    exact k
  | succ j => exact nb j u (by simpa using e)
/-- no place holds what is borrowed -/
def okS : Sta → Bool
  | [] => true
  | none :: r => okS r
  | some ⟨.bor, _, _⟩ :: _ => false
  | some _ :: r => okS r
theorem okS_of : ∀ {st : Sta}, okS st = true → noBor st
  | [], _ => fun j t e => by simp at e
  | none :: r, h => fun j t e => by
    cases j with
    | zero => simp at e
    | succ j => exact okS_of (st := r) h j t (by simpa using e)
  | some ⟨.bor, _, _⟩ :: r, h => by cases h
  | some ⟨.frz, fr, d⟩ :: r, h => noBor_push (okS_of (st := r) h) (by intro z; cases z)
  | some ⟨.old, fr, d⟩ :: r, h => noBor_push (okS_of (st := r) h) (by intro z; cases z)
  | some ⟨.own, fr, d⟩ :: r, h => noBor_push (okS_of (st := r) h) (by intro z; cases z)
theorem noBor_app : ∀ {ds st : Sta}, noBor ds → noBor st → noBor (ds ++ st)
  | [], st, _, h => h
  | x :: ds, st, h1, h2 => fun j t e => by
    cases j with
    | zero => exact h1 0 t (by simpa using e)
    | succ j => exact noBor_app (ds := ds) (fun j t e => h1 (j + 1) t (by simpa using e)) h2 j t (by simpa using e)
/-- x[i] = e, x an own list in place k -/
def setIx (xs : List D) (i : Int) (d : D) : Option (List D) := if 0 ≤ i then (if i < xs.length then some (xs.set i.toNat d) else none) else if -(xs.length : Int) ≤ i then some (xs.set (i + xs.length).toNat d) else none
theorem setIx_ix {xs ys : List D} {i : Int} {d : D} (h : setIx xs i d = some ys) : ∃ j, ixN xs.length i = some j ∧ ys = xs.set j d := by
  unfold setIx at h
  unfold ixN
  split at h
  · rename_i c
    rw [if_pos c]
    split at h
    · rename_i c2
      rw [if_pos c2]
      exact ⟨_, rfl, (Option.some.inj h).symm⟩
    · cases h
  · rename_i c
    rw [if_neg c]
    split at h
    · rename_i c2
      rw [if_pos c2]
      exact ⟨_, rfl, (Option.some.inj h).symm⟩
    · cases h
def mSetIx (k : Nat) (mi me : ME) : MS := fun st => (me st).bind fun p => match getS p.2 k with
  | some ⟨.own, _, .lst _⟩ => (mi p.2).bind fun q => match getS q.2 k, q.1.d with
    | some ⟨.own, fr, .lst xs⟩, .int i => if p.1.k = .frz ∧ okS q.2 = true then (match setIx xs i p.1.d with
      | some ys => .ok (.next, setS q.2 k (some ⟨.own, fr && p.1.fr, .lst ys⟩))
      | none => .stuck) else .stuck
    | _, _ => .stuck
  | _ => .stuck
theorem se_setIx {k : Nat} {mi me : ME} {D : Ends} {H : Hp} (h : msOf Γ W (mSetIx k mi me) D σ H) : tAsg (teOf Γ W me) (gSub (tVar k) (teOf Γ W mi) rSetL) D σ H := by
  obtain ⟨B, A, F, τ, ds, st, hl, nb, s, q⟩ := h
  refine se_in (τ := τ) (ds := ds) sP.mono hl (fun _ _ _ _ s => s) s q fun t st1 v1 H1 F1 f1 s1 q1 => ?_
  have hl' : (some v1 :: τ).length = (some t :: ds).length := by simpa using hl
  have q1 : sPost Γ W B A τ ds (sP Γ B A τ ds D) F1 (match getS st1 k with
    | some ⟨.own, _, .lst _⟩ => (mi st1).bind fun q => match getS q.2 k, q.1.d with
      | some ⟨.own, fr, .lst xs⟩, .int i => if t.k = .frz ∧ okS q.2 = true then (match setIx xs i t.d with
        | some ys => .ok (.next, setS q.2 k (some ⟨.own, fr && t.fr, .lst ys⟩))
        | none => .stuck) else .stuck
      | _, _ => .stuck
    | _ => .stuck) := q1
  cases e : getS st1 k with
  | none => rw [e] at q1; exact q1.elim
  | some t0 =>
    rw [e] at q1
    obtain ⟨w, w1, w0, w2⟩ := SR.slot hl' s1 e
    obtain ⟨k0, fr0, d0⟩ := t0
    cases k0 with
    | own =>
      cases d0 with
      | lst xs0 =>
        refine ⟨w, w1, ?_⟩
        refine se_in (τ := τ) (ds := ds) (τ' := some v1 :: τ) (ds' := some t :: ds) sP.mono hl' (fun _ _ _ _ s => s.pop) s1 q1 fun t2 st2 v2 H2 F2 f2 s2 q2 => ?_
        obtain ⟨k2, fr2, d2⟩ := t2
        cases e2 : getS st2 k with
        | none => rw [e2] at q2; exact q2.elim
        | some t3 =>
          rw [e2] at q2
          obtain ⟨k3, fr3, d3⟩ := t3
          cases k3 with
          | own =>
            cases d3 with
            | lst xs =>
              cases d2 with
              | int i =>
                have q2 : sPost Γ W B A τ ds (sP Γ B A τ ds D) F2 (if t.k = .frz ∧ okS st2 = true then (match setIx xs i t.d with
                  | some ys => .ok (.next, setS st2 k (some ⟨.own, fr3 && t.fr, .lst ys⟩))
                  | none => .stuck) else .stuck) := q2
                by_cases c : t.k = .frz ∧ okS st2 = true
                · rw [if_pos c] at q2
                  cases e3 : setIx xs i t.d with
                  | none => rw [e3] at q2; exact q2.elim
                  | some ys =>
                    rw [e3] at q2
                    obtain ⟨j, j1, j2⟩ := setIx_ix e3
                    have s3 := s2.pop
                    obtain ⟨w', w1', w0', w2'⟩ := SR.slot hl' s3 e2
                    rw [w1] at w1'
                    have : w = w' := by simpa using w1'
                    subst this
                    obtain ⟨p, us, h1, h2, h3, h4, h5⟩ := w2'
                    subst h1
                    have et := s3.top
                    obtain ⟨kt, frt, dt⟩ := t
                    have c1 : kt = .frz := c.1
                    subst c1
                    have rt : Rep Γ (sel frt B F2) dt v1 := et
                    refine ⟨p, us, i, j, rfl, s2.top.int, h2, by rw [← h5.length]; exact j1, ?_⟩
                    refine q2 σ _ F2 (Same.refl _) (s3.pop.upd_at hl (noBor_app nb (okS_of c.2)) e2 w1 ?_)
                    rw [j2]
                    exact (repsel h5 and1).set j (by
                      cases frt with
                      | true => exact Rep.mono sel_weak rt
                      | false =>
                        rw [Bool.and_false]
                        exact rt)
                · rw [if_neg c] at q2
                  exact q2.elim
              | _ => exact q2.elim
            | _ => exact q2.elim
          | _ => exact q2.elim
      | _ => exact q1.elim
    | _ => exact q1.elim
/-- x.append(e) -/
def mApp (k : Nat) (me : ME) : MS := fun st => match getS st k with
  | some ⟨.own, _, .lst _⟩ => (me st).bind fun p => match getS p.2 k with
    | some ⟨.own, fr, .lst xs⟩ => if p.1.k = .frz ∧ okS p.2 = true ∧ xs.length < 16777216 then .ok (.next, setS p.2 k (some ⟨.own, fr && p.1.fr, .lst (xs ++ [p.1.d])⟩)) else .stuck
    | _ => .stuck
  | _ => .stuck
theorem se_app {k : Nat} {me : ME} {D : Ends} {H : Hp} (h : msOf Γ W (mApp k me) D σ H) : tDrop (tBM Γ.K "list" rAppend (tVar k) (tCons (teOf Γ W me) tNil)) D σ H := by
  obtain ⟨B, A, F, τ, ds, st, hl, nb, s, q⟩ := h
  unfold mApp at q
  cases e : getS st k with
  | none => rw [e] at q; exact q.elim
  | some t0 =>
    rw [e] at q
    obtain ⟨w, w1, w0, w2⟩ := SR.slot hl s e
    obtain ⟨k0, fr0, d0⟩ := t0
    cases k0 with
    | own =>
      cases d0 with
      | lst xs0 =>
        obtain ⟨p, us0, g1, g2, g3, g4, g5⟩ := w2
        subst g1
        refine ⟨_, w1, .inl ⟨rfl, us0, SqL.of g2⟩, ?_⟩
        have q : sPost Γ W B A τ ds (sP Γ B A τ ds D) F ((me st).bind fun p => match getS p.2 k with
          | some ⟨.own, fr, .lst xs⟩ => if p.1.k = .frz ∧ okS p.2 = true ∧ xs.length < 16777216 then .ok (.next, setS p.2 k (some ⟨.own, fr && p.1.fr, .lst (xs ++ [p.1.d])⟩)) else .stuck
          | _ => .stuck) := q
        refine se_in (τ := τ) (ds := ds) sP.mono hl (fun _ _ _ _ s => s) s q fun t st2 v2 H2 F2 f2 s2 q2 => ?_
        cases e2 : getS st2 k with
        | none => rw [e2] at q2; exact q2.elim
        | some t3 =>
          rw [e2] at q2
          obtain ⟨k3, fr3, d3⟩ := t3
          cases k3 with
          | own =>
            cases d3 with
            | lst xs =>
              have q2 : sPost Γ W B A τ ds (sP Γ B A τ ds D) F2 (if t.k = .frz ∧ okS st2 = true ∧ xs.length < 16777216 then .ok (.next, setS st2 k (some ⟨.own, fr3 && t.fr, .lst (xs ++ [t.d])⟩)) else .stuck) := q2
              by_cases c : t.k = .frz ∧ okS st2 = true ∧ xs.length < 16777216
              · rw [if_pos c] at q2
                obtain ⟨w', w1', w0', w2'⟩ := SR.slot hl s2.pop e2
                rw [w1] at w1'
                have : V.ref p = w' := by simpa using w1'
                subst this
                obtain ⟨p', us, h1, h2, h3, h4, h5⟩ := w2'
                cases h1
                have et := s2.top
                obtain ⟨kt, frt, dt⟩ := t
                have c1 : kt = .frz := c.1
                subst c1
                have rt : Rep Γ (sel frt B F2) dt v2 := et
                refine ⟨p, us, v2, rfl, rfl, h2, by rw [← h5.length, sizeLine_eq]; exact c.2.2, ?_⟩
                refine q2 σ _ F2 (Same.refl _) (s2.pop.upd_at hl (noBor_app nb (okS_of c.2.1)) e2 w1 ?_)
                refine (repsel h5 and1).append (RepL.cons ?_ RepL.nil)
                cases frt with
                | true => exact Rep.mono sel_weak rt
                | false =>
                  rw [Bool.and_false]
                  exact rt
              · rw [if_neg c] at q2
                exact q2.elim
            | _ => exact q2.elim
          | _ => exact q2.elim
      | _ => exact q.elim
    | _ => exact q.elim
/-- x.pop() -/
def mPop (k : Nat) : MS := fun st => match getS st k with
  | some ⟨.own, fr, .lst xs⟩ => if xs ≠ [] ∧ okS st = true then .ok (.next, setS st k (some ⟨.own, fr, .lst xs.dropLast⟩)) else .stuck
  | _ => .stuck
theorem se_pop {k : Nat} {D : Ends} {H : Hp} (h : msOf Γ W (mPop k) D σ H) : tDrop (tBM0 Γ.K "list" rPop (tVar k)) D σ H := by
  obtain ⟨B, A, F, τ, ds, st, hl, nb, s, q⟩ := h
  unfold mPop at q
  cases e : getS st k with
  | none => rw [e] at q; exact q.elim
  | some t0 =>
    rw [e] at q
    obtain ⟨w, w1, w0, w2⟩ := SR.slot hl s e
    obtain ⟨k0, fr0, d0⟩ := t0
    cases k0 with
    | own =>
      cases d0 with
      | lst xs =>
        obtain ⟨p, us, g1, g2, g3, g4, g5⟩ := w2
        subst g1
        have q : sPost Γ W B A τ ds (sP Γ B A τ ds D) F (if xs ≠ [] ∧ okS st = true then .ok (.next, setS st k (some ⟨.own, fr0, .lst xs.dropLast⟩)) else .stuck) := q
        by_cases c : xs ≠ [] ∧ okS st = true
        · rw [if_pos c] at q
          have n1 : us ≠ [] := by
            rintro rfl
            exact c.1 (List.length_eq_zero_iff.mp g5.length)
          have hlt : us.length - 1 < us.length := by
            have : us.length ≠ 0 := fun z => n1 (List.length_eq_zero_iff.mp z)
            omega
          refine ⟨_, w1, .inl ⟨rfl, us, SqL.of g2⟩, p, us, us[us.length - 1], rfl, rfl, g2, List.getElem?_eq_getElem hlt, ?_⟩
          exact q σ _ F (Same.refl _) (s.upd_at hl (noBor_app nb (okS_of c.2)) e w1 g5.dropLast)
        · rw [if_neg c] at q
          exact q.elim
      | _ => exact q.elim
    | _ => exact q.elim
/-- x.reverse() -/
def mRev (k : Nat) : MS := fun st => match getS st k with
  | some ⟨.own, fr, .lst xs⟩ => if okS st = true then .ok (.next, setS st k (some ⟨.own, fr, .lst xs.reverse⟩)) else .stuck
  | _ => .stuck
theorem se_rev {k : Nat} {D : Ends} {H : Hp} (h : msOf Γ W (mRev k) D σ H) : tDrop (tBM0 Γ.K "list" rReverse (tVar k)) D σ H := by
  obtain ⟨B, A, F, τ, ds, st, hl, nb, s, q⟩ := h
  unfold mRev at q
  cases e : getS st k with
  | none => rw [e] at q; exact q.elim
  | some t0 =>
    rw [e] at q
    obtain ⟨w, w1, w0, w2⟩ := SR.slot hl s e
    obtain ⟨k0, fr0, d0⟩ := t0
    cases k0 with
    | own =>
      cases d0 with
      | lst xs =>
        obtain ⟨p, us, g1, g2, g3, g4, g5⟩ := w2
        subst g1
        have q : sPost Γ W B A τ ds (sP Γ B A τ ds D) F (if okS st = true then .ok (.next, setS st k (some ⟨.own, fr0, .lst xs.reverse⟩)) else .stuck) := q
        by_cases c : okS st = true
        · rw [if_pos c] at q
          refine ⟨_, w1, .inl ⟨rfl, us, SqL.of g2⟩, p, us, rfl, rfl, g2, ?_⟩
          exact q σ _ F (Same.refl _) (s.upd_at hl (noBor_app nb (okS_of c)) e w1 g5.reverse)
        · rw [if_neg c] at q
          exact q.elim
      | _ => exact q.elim
    | _ => exact q.elim
/-- self.f = e, in __init__ -/
def mFldSet (i : Nat) (c : Cl) (k : Nat) (me : ME) : MS := fun st => (me st).bind fun p => match getS p.2 i with
  | some ⟨.own, fr, .obj c' xs⟩ => if c' = c ∧ p.1.k = .frz ∧ okS p.2 = true ∧ k ≤ xs.length ∧ k < 900 ∧ xs.length < 900 then .ok (.next, setS p.2 i (some ⟨.own, fr && p.1.fr, .obj c (if k < xs.length then xs.set k p.1.d else xs ++ [p.1.d])⟩)) else .stuck
  | _ => .stuck
theorem putF_zip {f : Str} {v : V} : ∀ {fs : List Str} {vs : List V} {k : Nat}, fs.Nodup → fs[k]? = some f → k ≤ vs.length → vs.length ≤ fs.length → putF f v (fs.zip vs) = fs.zip (if k < vs.length then vs.set k v else vs ++ [v])
  | [], _, _, _, h, _, _ => by simp at h
  | g :: fs, [], k, nd, h, hk, _ => by
    have : k = 0 := by simpa using hk
    subst this
    have : g = f := by simpa using h
    subst this
    rw [if_neg (by simp)]
    simp [putF]
  | g :: fs, w :: vs, 0, nd, h, hk, _ => by
    have : g = f := by simpa using h
    subst this
    rw [if_pos (by simp)]
    show (if g = g then (g, v) :: fs.zip vs else (g, w) :: putF g v (fs.zip vs)) = _
    rw [if_pos rfl]
    rfl
  | g :: fs, w :: vs, k + 1, nd, h, hk, hl => by
    have h1 : fs[k]? = some f := by simpa using h
    have ne : ¬ g = f := fun z => (List.nodup_cons.mp nd).1 (z ▸ List.mem_of_getElem? h1)
    show (if g = f then (g, v) :: fs.zip vs else (g, w) :: putF f v (fs.zip vs)) = _
    rw [if_neg ne, putF_zip (List.nodup_cons.mp nd).2 h1 (by simpa using hk) (by simpa using hl)]
    by_cases c : k < vs.length
    · rw [if_pos c, if_pos (by simpa using c)]
      rfl
    · rw [if_neg c, if_neg (by simpa using c)]
      rfl
theorem se_fldSet {i : Nat} {c : Cl} {k : Nat} {f : Str} (cl : ClsOk Γ c) (hk : c.fields[k]? = some f) {me : ME} {D : Ends} {H : Hp} (h : msOf Γ W (mFldSet i c k me) D σ H) : sFld Γ.K (tVar i) (teOf Γ W me) f D σ H := by
  obtain ⟨B, A, F, τ, ds, st, hl, nb, s, q⟩ := h
  refine se_in (τ := τ) (ds := ds) sP.mono hl (fun _ _ _ _ s => s) s q fun t st2 v2 H2 F2 f2 s2 q2 => ?_
  have q2 : sPost Γ W B A τ ds (sP Γ B A τ ds D) F2 (match getS st2 i with
    | some ⟨.own, fr, .obj c' xs⟩ => if c' = c ∧ t.k = .frz ∧ okS st2 = true ∧ k ≤ xs.length ∧ k < 900 ∧ xs.length < 900 then .ok (.next, setS st2 i (some ⟨.own, fr && t.fr, .obj c (if k < xs.length then xs.set k t.d else xs ++ [t.d])⟩)) else .stuck
    | _ => .stuck) := q2
  cases e2 : getS st2 i with
  | none => rw [e2] at q2; exact q2.elim
  | some t3 =>
    rw [e2] at q2
    obtain ⟨k3, fr3, d3⟩ := t3
    cases k3 with
    | own =>
      cases d3 with
      | obj c' xs =>
        have q2 : sPost Γ W B A τ ds (sP Γ B A τ ds D) F2 (if c' = c ∧ t.k = .frz ∧ okS st2 = true ∧ k ≤ xs.length ∧ k < 900 ∧ xs.length < 900 then .ok (.next, setS st2 i (some ⟨.own, fr3 && t.fr, .obj c (if k < xs.length then xs.set k t.d else xs ++ [t.d])⟩)) else .stuck) := q2
        by_cases cc : c' = c ∧ t.k = .frz ∧ okS st2 = true ∧ k ≤ xs.length ∧ k < 900 ∧ xs.length < 900
        · rw [if_pos cc] at q2
          obtain ⟨c1, c2, c3, c4, c5, c6⟩ := cc
          subst c1
          obtain ⟨w, w1, w0, w2⟩ := SR.slot hl s2.pop e2
          obtain ⟨p, C, dx, us, h1, h2, h3, h4, h5, h6, h7⟩ := w2
          subst h1
          have lu := h7.length
          have kf : k < c'.fields.length := (List.getElem?_eq_some_iff.mp hk).1
          obtain ⟨kt, frt, dt⟩ := t
          have c2 : kt = .frz := c2
          subst c2
          have rt : Rep Γ (sel frt B F2) dt v2 := s2.top
          have rt' : Rep Γ (sel (fr3 && frt) B F2) dt v2 := by
            cases frt with
            | true => exact Rep.mono sel_weak rt
            | false =>
              rw [Bool.and_false]
              exact rt
          obtain ⟨k1, k2⟩ := cl.ok C h2
          refine ⟨_, w1, p, C, dx, _, rfl, h3, k1, k2 f (List.mem_of_getElem? hk), ?_, ?_⟩
          · rw [List.length_zip]
            omega
          · rw [putF_zip cl.nd hk (by omega) (by omega)]
            have e0 : (τ ++ σ)[ds.length + i]? = some (some (.ref p)) := w0
            have z := (s2.pop).updO (C := C) (dx := dx) (c := c') (us := if k < us.length then us.set k v2 else us ++ [v2]) (ds' := if k < xs.length then xs.set k dt else xs ++ [dt]) (fr' := fr3 && frt) (noBor_app nb (okS_of c3)) (at_slot hl e2) e0 h2 (by
              split
              · rw [List.length_set]; exact h4
              · rw [List.length_append, List.length_singleton]; omega) (by
              rw [lu]
              split
              · exact (repsel h7 and1).set k rt'
              · exact (repsel h7 and1).append (RepL.cons rt' RepL.nil))
            rw [set_slot, ← setS_set] at z
            exact q2 σ _ F2 (Same.refl _) z
        · rw [if_neg cc] at q2
          exact q2.elim
      | _ => exact q2.elim
    | _ => exact q2.elim
end
end Dl

namespace Dl
open PySem PySem.Spec PyProof.Rows L2
section
variable {Γ : Gm} {W : WX} {B F F' H H' : Hp} {A : Ao} {τ τ' : List (Option V)} {ds ds' : Sta} {σ : L2.St} {st : Sta}
/-! ## while -/
def whileD (c : MT) (b : MS) : Nat → Sta → Res (Ctl × Sta)
  | 0, _ => .stuck
  | n + 1, st => (c st).bind fun p => match p.1 with
    | false => .ok (.next, p.2)
    | true => (b p.2).bind fun q => match q.1 with
      | .next => whileD c b n q.2
      | .cont => whileD c b n q.2
      | .brk => .ok (.next, q.2)
      | .ret t => .ok (.ret t, q.2)
def mWhile (n : Nat) (c : MT) (b : MS) : MS := whileD c b n
theorem se_while {n : Nat} {c : MT} {b : MS} {D : Ends} {H : Hp} (h : msOf Γ W (mWhile n c b) D σ H) : tWhile (ttOf Γ W c) (msOf Γ W b) D σ H := by
  obtain ⟨B, A, F, τ, ds, st, hl, nb, s, q⟩ := h
  refine ⟨fun m σ H => ∃ F st, SR Γ B A F H (τ ++ σ) (ds ++ st) ∧ sPost Γ W B A τ ds (sP Γ B A τ ds D) F (whileD c b m st), ⟨n, F, st, s, q⟩, ?_⟩
  rintro m σ H ⟨F, st, s, q⟩
  cases m with
  | zero => exact q.elim
  | succ m =>
    refine st_in (τ := τ) (ds := ds) sP.mono hl (fun _ _ _ _ s => s) s q fun c' st1 H1 F1 f1 s1 q1 => ?_
    cases c' with
    | false =>
      rw [if_neg Bool.false_ne_true]
      exact q1 σ H1 F1 (Same.refl _) s1
    | true =>
      rw [if_pos rfl]
      refine ⟨fun σ' H' => ∃ F st, SR Γ B A F H' (τ ++ σ') (ds ++ st) ∧ sPost Γ W B A τ ds (sP Γ B A τ ds D) F (whileD c b m st), fun σ' H' ⟨F, st, s, q⟩ => ⟨m, Nat.lt_succ_self m, F, st, s, q⟩, ?_⟩
      refine ⟨B, A, F1, τ, ds, st1, hl, nb, s1, ?_⟩
      have q1 : sPost Γ W B A τ ds (sP Γ B A τ ds D) F1 ((b st1).bind fun q => match q.1 with
        | .next => whileD c b m q.2
        | .cont => whileD c b m q.2
        | .brk => .ok (.next, q.2)
        | .ret t => .ok (.ret t, q.2)) := q1
      cases e : b st1 with
      | ok p =>
        obtain ⟨c2, st2⟩ := p
        rw [e] at q1
        cases c2 with
        | next => exact fun σ' H' F' f s2 => ⟨F', st2, s2, sPost.mono sP.mono f q1⟩
        | cont => exact fun σ' H' F' f s2 => ⟨F', st2, s2, sPost.mono sP.mono f q1⟩
        | brk => exact q1
        | ret t => exact q1
      | err c2 st2 => rw [e] at q1; exact q1
      | stuck => rw [e] at q1; exact q1

/-! ## what is walked -/
structure WalkD (Γ : Gm) (B : Hp) (J : It) (its : List TV) (inv : Hp → Prop) : Prop where
  stop : ∀ F H, inv F → Same F H → J.stop its.length H
  go : ∀ F H (i : Nat) (t : TV), inv F → Same F H → its[i]? = some t → J.go i H
  yld : ∀ (A : Ao) (F H : Hp) (vs : List (Option V)) (ts : Sta) (i : Nat) (t : TV) (x : V) (H' : Hp), inv F → SR Γ B A F H vs ts → its[i]? = some t → J.yld i H x H' → ∃ F', Same F F' ∧ SR Γ B A F' H' (some x :: vs) (some t :: ts)
abbrev MI := Sta → Res (List TV × Sta)
def iP (Γ : Gm) (B : Hp) (A : Ao) (τ : List (Option V)) (ds : Sta) (σ : L2.St) (R : It → Hp → Prop) : List TV → Sta → Hp → Prop := fun its st' F => ∀ J H' F' (inv : Hp → Prop), Same F F' → SR Γ B A F' H' (τ ++ σ) (ds ++ st') → inv F' → (∀ F1 F2, Same F1 F2 → inv F1 → inv F2) → WalkD Γ B J its inv → R J H'
theorem iP.mono {R : It → Hp → Prop} : Mono (iP Γ B A τ ds σ R) := fun its st F F' e h J H' F2 inv e2 s i m w => h J H' F2 inv (e.trans e2) s i m w
def tiOf (Γ : Gm) (W : WX) (m : MI) : TI := fun σ H R => ∃ B A F τ ds st, τ.length = ds.length ∧ SR Γ B A F H (τ ++ σ) (ds ++ st) ∧ rPost Γ W B A τ ds σ (iP Γ B A τ ds σ R) F (m st)
theorem pi_imp {X : Cx} {tg e : Expr} {t t' : TI} (h : PI X tg e t) (k : ∀ σ H Q, t' σ H Q → t σ H Q) : PI X tg e t' := ⟨fun pins s σ H Q I q => h.run pins s σ H Q I (k _ _ _ q)⟩
/-- a list, a tuple -/
def itOf (t : TV) : Option (List TV) := match t.k, t.d with
  | .frz, .lst xs => some (xs.map (.el t.fr))
  | _, .tup xs => some (xs.map (.el t.fr))
  | _, .fl xs => some (xs.map (.el t.fr))
  | _, _ => none
def mIt (m : ME) : MI := fun st => (m st).bind fun p => ofO (itOf p.1) p.2
def sqInv (Γ : Gm) (B : Hp) (fr : Bool) (p : Addr) (us : List V) (xs : List D) : Hp → Prop := fun F => SqL Γ.K F p us ∧ RepL Γ (sel fr B F) xs us
def stInv (Γ : Gm) (B : Hp) (fr : Bool) (p : Addr) (us : List V) (xs : List D) : Hp → Prop := fun F => SqT Γ.K F p us ∧ RepL Γ (sel fr B F) xs us
theorem sqInv.mono {fr : Bool} {p : Addr} {us : List V} {xs : List D} : ∀ F1 F2, Same F1 F2 → sqInv Γ B fr p us xs F1 → sqInv Γ B fr p us xs F2 := fun F1 F2 e h => ⟨e.seq h.1, RepL.mono (sel_mono e) h.2⟩
theorem stInv.mono {fr : Bool} {p : Addr} {us : List V} {xs : List D} : ∀ F1 F2, Same F1 F2 → stInv Γ B fr p us xs F1 → stInv Γ B fr p us xs F2 := fun F1 F2 e h => ⟨sqT_mono e h.1, RepL.mono (sel_mono e) h.2⟩
theorem its_get {fr : Bool} {xs : List D} {i : Nat} {t : TV} (h : (xs.map (TV.el fr))[i]? = some t) : ∃ d, xs[i]? = some d ∧ t = .el fr d := by
  rw [List.getElem?_map] at h
  obtain ⟨d, h1, h2⟩ := Option.map_eq_some_iff.mp h
  exact ⟨d, h1, h2.symm⟩
theorem walk_lst {fr : Bool} {p : Addr} {us : List V} {xs : List D} : WalkD Γ B (Itl Γ.K p) (xs.map (TV.el fr)) (sqInv Γ B fr p us xs) where
  stop := fun F H h e => ⟨us, e.seq h.1, by rw [List.length_map, h.2.length]; exact Nat.le_refl _⟩
  go := fun F H i t h e g => by
    obtain ⟨d, h1, _⟩ := its_get g
    obtain ⟨v, h2, _⟩ := h.2.get h1
    exact ⟨us, v, e.seq h.1, h2⟩
  yld := fun A F H vs ts i t x H' h s g y => by
    obtain ⟨e, y⟩ := y
    subst e
    obtain ⟨d, h1, h3⟩ := its_get g
    obtain ⟨v, h2, h4⟩ := h.2.get h1
    have := y us (s.fh.seq h.1)
    rw [h2] at this
    cases this
    subst h3
    exact ⟨F, Same.refl _, s.push (ent_el h4) (by intro z; cases z)⟩
theorem walk_tup {fr : Bool} {p : Addr} {us : List V} {xs : List D} : WalkD Γ B (Itt Γ.K p) (xs.map (TV.el fr)) (stInv Γ B fr p us xs) where
  stop := fun F H h e => ⟨us, sqT_mono e h.1, by rw [List.length_map, h.2.length]; exact Nat.le_refl _⟩
  go := fun F H i t h e g => by
    obtain ⟨d, h1, _⟩ := its_get g
    obtain ⟨v, h2, _⟩ := h.2.get h1
    exact ⟨us, v, sqT_mono e h.1, h2⟩
  yld := fun A F H vs ts i t x H' h s g y => by
    obtain ⟨e, y⟩ := y
    subst e
    obtain ⟨d, h1, h3⟩ := its_get g
    obtain ⟨v, h2, h4⟩ := h.2.get h1
    have := y us (sqT_mono s.fh h.1)
    rw [h2] at this
    cases this
    subst h3
    exact ⟨F, Same.refl _, s.push (ent_el h4) (by intro z; cases z)⟩
theorem rev_get {α : Type} {xs : List α} {i : Nat} {d : α} (h : xs.reverse[i]? = some d) : i < xs.length ∧ xs[xs.length - 1 - i]? = some d := by
  have hi : i < xs.length := by
    have := (List.getElem?_eq_some_iff.mp h).1
    rwa [List.length_reverse] at this
  rw [List.getElem?_reverse hi] at h
  exact ⟨hi, h⟩
theorem walk_revL {fr : Bool} {p : Addr} {us : List V} {xs : List D} : WalkD Γ B (Itv Γ.K p us.length) (xs.reverse.map (TV.el fr)) (sqInv Γ B fr p us xs) where
  stop := fun F H h e => by
    show us.length ≤ _
    rw [List.length_map, List.length_reverse, h.2.length]
    exact Nat.le_refl _
  go := fun F H i t h e g => by
    obtain ⟨d, h1, _⟩ := its_get g
    obtain ⟨h5, h6⟩ := rev_get h1
    obtain ⟨v, h2, _⟩ := h.2.get h6
    rw [h.2.length] at h5 h2
    exact ⟨h5, us, v, e.seq h.1, h2⟩
  yld := fun A F H vs ts i t x H' h s g y => by
    obtain ⟨e, y⟩ := y
    subst e
    obtain ⟨d, h1, h3⟩ := its_get g
    obtain ⟨h5, h6⟩ := rev_get h1
    obtain ⟨v, h2, h4⟩ := h.2.get h6
    have := y us (s.fh.seq h.1)
    rw [h.2.length] at h2
    rw [h2] at this
    cases this
    subst h3
    exact ⟨F, Same.refl _, s.push (ent_el h4) (by intro z; cases z)⟩
theorem walk_revT {fr : Bool} {p : Addr} {us : List V} {xs : List D} : WalkD Γ B (RT.ItvT Γ.K p us.length) (xs.reverse.map (TV.el fr)) (stInv Γ B fr p us xs) where
  stop := fun F H h e => by
    show us.length ≤ _
    rw [List.length_map, List.length_reverse, h.2.length]
    exact Nat.le_refl _
  go := fun F H i t h e g => by
    obtain ⟨d, h1, _⟩ := its_get g
    obtain ⟨h5, h6⟩ := rev_get h1
    obtain ⟨v, h2, _⟩ := h.2.get h6
    rw [h.2.length] at h5 h2
    exact ⟨h5, us, v, sqT_mono e h.1, h2⟩
  yld := fun A F H vs ts i t x H' h s g y => by
    obtain ⟨e, y⟩ := y
    subst e
    obtain ⟨d, h1, h3⟩ := its_get g
    obtain ⟨h5, h6⟩ := rev_get h1
    obtain ⟨v, h2, h4⟩ := h.2.get h6
    have := y us (sqT_mono s.fh h.1)
    rw [h.2.length] at h2
    rw [h2] at this
    cases this
    subst h3
    exact ⟨F, Same.refl _, s.push (ent_el h4) (by intro z; cases z)⟩
def rangeD (lo : Int) (n : Nat) : List TV := (List.range n).map fun (k : Nat) => .i (lo + (k : Int))
theorem range_get {lo : Int} {n i : Nat} {t : TV} (h : (rangeD lo n)[i]? = some t) : i < n ∧ t = .i (lo + (i : Int)) := by
  unfold rangeD at h
  rw [List.getElem?_map] at h
  obtain ⟨k, h1, h2⟩ := Option.map_eq_some_iff.mp h
  have hi : i < n := by
    have := (List.getElem?_eq_some_iff.mp h1).1
    rwa [List.length_range] at this
  rw [List.getElem?_range hi] at h1
  cases h1
  exact ⟨hi, h2.symm⟩
theorem walk_range {lo : Int} {n : Nat} : WalkD Γ B (Itr lo n) (rangeD lo n) (fun _ => True) where
  stop := fun F H h e => by
    show n ≤ _
    unfold rangeD
    rw [List.length_map, List.length_range]
    exact Nat.le_refl _
  go := fun F H i t h e g => (range_get g).1
  yld := fun A F H vs ts i t x H' h s g y => by
    obtain ⟨e, y⟩ := y
    subst e
    subst y
    rw [(range_get g).2]
    exact ⟨F, Same.refl _, s.push ent_i (by intro z; cases z)⟩
/-- pairs -/
def zipD (fa fb : Bool) (xs ys : List D) : List TV := (xs.zip ys).map fun p => ⟨.frz, (fa || p.1.atom) && (fb || p.2.atom), .tup [p.1, p.2]⟩
theorem zip_get {fa fb : Bool} {xs ys : List D} {i : Nat} {t : TV} (h : (zipD fa fb xs ys)[i]? = some t) : ∃ a b, xs[i]? = some a ∧ ys[i]? = some b ∧ t = ⟨.frz, (fa || a.atom) && (fb || b.atom), .tup [a, b]⟩ := by
  unfold zipD at h
  rw [List.getElem?_map] at h
  obtain ⟨p, h1, h2⟩ := Option.map_eq_some_iff.mp h
  obtain ⟨h3, h4⟩ := List.getElem?_zip_eq_some.mp h1
  exact ⟨p.1, p.2, h3, h4, h2.symm⟩
theorem rep_or {fr : Bool} {d : D} {v : V} (h : Rep Γ (sel fr B F) d v) : Rep Γ (sel (fr || d.atom) B F) d v := ent_el (H := F) h
theorem rep_and {a b : Bool} {d : D} {v : V} (h : Rep Γ (sel a B F) d v) (e : b = true → a = true) : Rep Γ (sel b B F) d v := by
  cases a with
  | true => exact Rep.mono sel_weak h
  | false =>
    cases b with
    | true => cases e rfl
    | false => exact h
theorem walk_zip {fa fb : Bool} {p q : Addr} {us ws : List V} {xs ys : List D} : WalkD Γ B (Itz Γ.K p q) (zipD fa fb xs ys) (fun F => sqInv Γ B fa p us xs F ∧ sqInv Γ B fb q ws ys F) where
  stop := fun F H h e => by
    refine ⟨us, ws, e.seq h.1.1, e.seq h.2.1, ?_⟩
    unfold zipD
    rw [List.length_map, List.length_zip, h.1.2.length, h.2.2.length]
    omega
  go := fun F H i t h e g => by
    obtain ⟨a, b, h1, h2, _⟩ := zip_get g
    obtain ⟨v, h3, _⟩ := h.1.2.get h1
    obtain ⟨u, h4, _⟩ := h.2.2.get h2
    exact ⟨us, ws, v, u, e.seq h.1.1, e.seq h.2.1, h3, h4⟩
  yld := fun A F H vs ts i t x H' h s g y => by
    obtain ⟨T, v, u, e1, hT, e2, y1, y2⟩ := y
    subst e1
    subst e2
    obtain ⟨a, b, h1, h2, h5⟩ := zip_get g
    obtain ⟨v', h3, r1⟩ := h.1.2.get h1
    obtain ⟨u', h4, r2⟩ := h.2.2.get h2
    have z1 := y1 us (s.fh.seq h.1.1)
    have z2 := y2 ws (s.fh.seq h.2.1)
    rw [h3] at z1
    rw [h4] at z2
    cases z1
    cases z2
    subst h5
    exact ⟨_, same_upd_new (s.fh.free hT), s.allocT hT (RepL.cons (rep_and (rep_or r1) and1) (RepL.cons (rep_and (rep_or r2) and2) RepL.nil))⟩
def enumD (fr : Bool) (xs : List D) : List TV := (List.range xs.length).zip xs |>.map fun p => ⟨.frz, fr || p.2.atom, .tup [.int (p.1 : Nat), p.2]⟩
theorem enum_get {fr : Bool} {xs : List D} {i : Nat} {t : TV} (h : (enumD fr xs)[i]? = some t) : ∃ a, xs[i]? = some a ∧ t = ⟨.frz, fr || a.atom, .tup [.int (i : Nat), a]⟩ := by
  unfold enumD at h
  rw [List.getElem?_map] at h
  obtain ⟨p, h1, h2⟩ := Option.map_eq_some_iff.mp h
  obtain ⟨h3, h4⟩ := List.getElem?_zip_eq_some.mp h1
  have hi : i < xs.length := (List.getElem?_eq_some_iff.mp h4).1
  rw [List.getElem?_range hi] at h3
  have h3 : i = p.1 := by simpa using h3
  refine ⟨p.2, h4, ?_⟩
  rw [h3]
  exact h2.symm
theorem walk_enum {fr : Bool} {p : Addr} {us : List V} {xs : List D} : WalkD Γ B (Ite Γ.K p) (enumD fr xs) (sqInv Γ B fr p us xs) where
  stop := fun F H h e => by
    refine ⟨us, e.seq h.1, ?_⟩
    unfold enumD
    rw [List.length_map, List.length_zip, List.length_range, h.2.length]
    omega
  go := fun F H i t h e g => by
    obtain ⟨a, h1, _⟩ := enum_get g
    obtain ⟨v, h3, _⟩ := h.2.get h1
    exact ⟨us, v, e.seq h.1, h3⟩
  yld := fun A F H vs ts i t x H' h s g y => by
    obtain ⟨T, v, e1, hT, e2, y1⟩ := y
    subst e1
    subst e2
    obtain ⟨a, h1, h5⟩ := enum_get g
    obtain ⟨v', h3, r1⟩ := h.2.get h1
    have z1 := y1 us (s.fh.seq h.1)
    rw [h3] at z1
    cases z1
    subst h5
    refine ⟨_, same_upd_new (s.fh.free hT), s.allocT hT (RepL.cons ?_ (RepL.cons (rep_or r1) RepL.nil))⟩
    simp only [Rep]
theorem te_it {m : ME} {H : Hp} {R : It → Hp → Prop} (h : tiOf Γ W (mIt m) σ H R) : iList Γ.K (teOf Γ W m) σ H R ∨ iTup Γ.K (teOf Γ W m) σ H R := by
  obtain ⟨B, A, F, τ, ds, st, hl, s, q⟩ := h
  have base : ∀ R' : VK, (∀ t st1 v H1 F1, m st = .ok (t, st1) → Same F F1 → SR Γ B A F1 H1 (some v :: (τ ++ σ)) (some t :: (ds ++ st1)) → rPost Γ W B A τ ds σ (iP Γ B A τ ds σ R) F1 (ofO (itOf t) st1) → R' v H1) → teOf Γ W m σ H R' := fun R' k =>
    ⟨B, A, F, τ, ds, st, hl, s, rPost.bind (fun _ _ _ s => s) q fun t st1 e q1 v H1 F1 f1 s1 => k t st1 v H1 F1 e f1 s1 (q1.mono iP.mono f1)⟩
  cases e : m st with
  | ok p =>
    obtain ⟨t, st1⟩ := p
    obtain ⟨k, fr, d⟩ := t
    have unk : itOf ⟨k, fr, d⟩ = none → iList Γ.K (teOf Γ W m) σ H R := fun en => base _ fun t' st' v H1 F1 e' f1 s1 q1 => by
      rw [e] at e'
      cases e'
      rw [en] at q1
      exact q1.elim
    cases d with
    | tup xs =>
      refine .inr (base _ fun t' st' v H1 F1 e' f1 s1 q1 => ?_)
      rw [e] at e'
      cases e'
      obtain ⟨its, e1, q1⟩ := rPost.ofO q1
      have e1 : its = xs.map (.el fr) := by
        have : itOf ⟨k, fr, .tup xs⟩ = some (xs.map (.el fr)) := by cases k <;> rfl
        rw [this] at e1
        exact (Option.some.inj e1).symm
      subst e1
      cases k with
      | frz =>
        have r : Rep Γ (sel fr B F1) (.tup xs) v := s1.top
        simp only [Rep] at r
        obtain ⟨p, us, h1, h2, h3⟩ := r
        exact ⟨p, h1, ⟨us, sqT_mono (sel_same.trans s1.fh) h2⟩, q1 _ H1 F1 _ (Same.refl _) s1.pop ⟨sqT_mono sel_same h2, h3⟩ stInv.mono walk_tup⟩
      | old =>
        have r : Rep Γ (sel fr B F1) (.tup xs) v := s1.top.unold
        simp only [Rep] at r
        obtain ⟨p, us, h1, h2, h3⟩ := r
        exact ⟨p, h1, ⟨us, sqT_mono (sel_same.trans s1.fh) h2⟩, q1 _ H1 F1 _ (Same.refl _) s1.pop ⟨sqT_mono sel_same h2, h3⟩ stInv.mono walk_tup⟩
      | own => exact s1.top.elim
      | bor => exact s1.top.elim
    | fl xs =>
      refine .inl (base _ fun t' st' v H1 F1 e' f1 s1 q1 => ?_)
      rw [e] at e'
      cases e'
      obtain ⟨its, e1, q1⟩ := rPost.ofO q1
      have e1 : its = xs.map (.el fr) := by
        have : itOf ⟨k, fr, .fl xs⟩ = some (xs.map (.el fr)) := by cases k <;> rfl
        rw [this] at e1
        exact (Option.some.inj e1).symm
      subst e1
      cases k with
      | frz =>
        have r : Rep Γ (sel fr B F1) (.fl xs) v := s1.top
        simp only [Rep] at r
        obtain ⟨p, us, h1, h2, h3⟩ := r
        exact ⟨p, h1, ⟨us, (sel_same.trans s1.fh).seq h2⟩, q1 _ H1 F1 _ (Same.refl _) s1.pop ⟨sel_same.seq h2, h3⟩ sqInv.mono walk_lst⟩
      | old =>
        have r : Rep Γ (sel fr B F1) (.fl xs) v := s1.top.unold
        simp only [Rep] at r
        obtain ⟨p, us, h1, h2, h3⟩ := r
        exact ⟨p, h1, ⟨us, (sel_same.trans s1.fh).seq h2⟩, q1 _ H1 F1 _ (Same.refl _) s1.pop ⟨sel_same.seq h2, h3⟩ sqInv.mono walk_lst⟩
      | own => exact s1.top.elim
      | bor => exact s1.top.elim
    | lst xs =>
      cases k with
      | frz =>
        refine .inl (base _ fun t' st' v H1 F1 e' f1 s1 q1 => ?_)
        rw [e] at e'
        cases e'
        obtain ⟨its, e1, q1⟩ := rPost.ofO q1
        cases e1
        have r : Rep Γ (sel fr B F1) (.lst xs) v := s1.top
        simp only [Rep] at r
        obtain ⟨p, us, h1, h2, h3⟩ := r
        exact ⟨p, h1, ⟨us, SqL.of (s1.fh _ _ (sel_same _ _ h2))⟩, q1 _ H1 F1 _ (Same.refl _) s1.pop ⟨SqL.of (sel_same _ _ h2), h3⟩ sqInv.mono walk_lst⟩
      | own => exact .inl (unk rfl)
      | old => exact .inl (unk rfl)
      | bor => exact .inl (unk rfl)
    | non => exact .inl (unk (by cases k <;> rfl))
    | bl b => exact .inl (unk (by cases k <;> rfl))
    | int b => exact .inl (unk (by cases k <;> rfl))
    | str b => exact .inl (unk (by cases k <;> rfl))
    | obj c b => exact .inl (unk (by cases k <;> rfl))
    | exc c a => exact .inl (unk (by cases k <;> rfl))
    | xcp c a dd ns ds => exact .inl (unk (by cases k <;> rfl))
  | err c st1 => exact .inl (base _ fun t' st' v H1 F1 e' => by rw [e] at e'; cases e')
  | stuck => exact .inl (base _ fun t' st' v H1 F1 e' => by rw [e] at e'; cases e')
def one1 : List TV → Option TV
  | [t] => some t
  | _ => none
def two2 : List TV → Option (TV × TV)
  | [a, b] => some (a, b)
  | _ => none
theorem one_of {ts : List TV} {t : TV} (h : one1 ts = some t) : ts = [t] := by
  match ts, h with
  | [u], h => rw [Option.some.inj h]
theorem two_of {ts : List TV} {p : TV × TV} (h : two2 ts = some p) : ts = [p.1, p.2] := by
  match ts, h with
  | [a, b], h =>
    have := Option.some.inj h
    subst this
    rfl
theorem asI_of {d : D} {i : Int} (h : d.asI = some i) : d = .int i := by
  cases d <;> cases h
  rfl
def small (j : Int) : Bool := decide (-4611686018427387904 ≤ j) && decide (j < 4611686018427387904)
theorem small_of {j : Int} (h : small j = true) : -(2 ^ 62) ≤ j ∧ j < 2 ^ 62 := by
  have e : (2 : Int) ^ 62 = 4611686018427387904 := by decide
  rw [e]
  exact ⟨of_decide_eq_true (and1 h), of_decide_eq_true (and2 h)⟩
def fRng1 (ts : List TV) : Option (List TV) := (one1 ts).bind fun t => t.d.asI.bind fun j => if small j = true then some (rangeD 0 j.toNat) else none
def fRng2 (ts : List TV) : Option (List TV) := (two2 ts).bind fun p => p.1.d.asI.bind fun i => p.2.d.asI.bind fun j => if (small i && small j) = true then some (rangeD i (j - i).toNat) else none
def mIA (f : List TV → Option (List TV)) (m : MA) : MI := fun st => (m st).bind fun p => ofO (f p.1) p.2
def mRng1 (m : MA) : MI := mIA fRng1 m
def mRng2 (m : MA) : MI := mIA fRng2 m
theorem te_rng1 {m : MA} {H : Hp} {R : It → Hp → Prop} (h : tiOf Γ W (mRng1 m) σ H R) : iRng1 (taOf Γ W m) σ H R := by
  obtain ⟨B, A, F, τ, ds, st, hl, s, q⟩ := h
  refine ta_in (τ := τ) (ds := ds) iP.mono hl (fun _ _ _ s => s) s q fun ts st1 vs H1 F1 hlen f1 s1 q1 => ?_
  obtain ⟨its, e1, q1⟩ := rPost.ofO q1
  obtain ⟨t, e2, e1⟩ := Option.bind_eq_some_iff.mp e1
  obtain ⟨j, e3, e1⟩ := Option.bind_eq_some_iff.mp e1
  by_cases c : small j = true
  · rw [if_pos c] at e1
    cases e1
    have et := one_of e2
    subst et
    match vs, hlen with
    | [v], hlen =>
      have s2 : SR Γ B A F1 H1 (some v :: (τ ++ σ)) (some t :: (ds ++ st1)) := s1
      obtain ⟨k, fr, d⟩ := t
      have ed : d = .int j := asI_of e3
      subst ed
      have ev := s2.top.int
      subst ev
      exact ⟨j, rfl, (small_of c).1, (small_of c).2, q1 _ H1 F1 (fun _ => True) (Same.refl _) s2.pop trivial (fun _ _ _ h => h) walk_range⟩
  · rw [if_neg c] at e1
    cases e1
theorem te_rng2 {m : MA} {H : Hp} {R : It → Hp → Prop} (h : tiOf Γ W (mRng2 m) σ H R) : iRng2 (taOf Γ W m) σ H R := by
  obtain ⟨B, A, F, τ, ds, st, hl, s, q⟩ := h
  refine ta_in (τ := τ) (ds := ds) iP.mono hl (fun _ _ _ s => s) s q fun ts st1 vs H1 F1 hlen f1 s1 q1 => ?_
  obtain ⟨its, e1, q1⟩ := rPost.ofO q1
  obtain ⟨t, e2, e1⟩ := Option.bind_eq_some_iff.mp e1
  obtain ⟨i, e3, e1⟩ := Option.bind_eq_some_iff.mp e1
  obtain ⟨j, e4, e1⟩ := Option.bind_eq_some_iff.mp e1
  by_cases c : (small i && small j) = true
  · rw [if_pos c] at e1
    cases e1
    have et := two_of e2
    subst et
    match vs, hlen with
    | [v, u], hlen =>
      obtain ⟨⟨k, fr, d⟩, ⟨k2, fr2, d2⟩⟩ := t
      have s2 : SR Γ B A F1 H1 (some u :: some v :: (τ ++ σ)) (some ⟨k2, fr2, d2⟩ :: some ⟨k, fr, d⟩ :: (ds ++ st1)) := s1
      have ed : d = .int i := asI_of e3
      have ed2 : d2 = .int j := asI_of e4
      subst ed
      subst ed2
      have ev := s2.pop.top.int
      have eu := s2.top.int
      subst ev
      subst eu
      have c1 := small_of (and1 c)
      have c2 := small_of (and2 c)
      exact ⟨i, j, rfl, ⟨c1.1, c1.2, c2.1, c2.2⟩, q1 _ H1 F1 (fun _ => True) (Same.refl _) s2.pop.pop trivial (fun _ _ _ h => h) walk_range⟩
  · rw [if_neg c] at e1
    cases e1
/-- reversed -/
def revOf (t : TV) : Option (List TV) := match t.k, t.d with
  | .frz, .lst xs => some (xs.reverse.map (.el t.fr))
  | .frz, .tup xs => some (xs.reverse.map (.el t.fr))
  | _, _ => none
def mRevIt (m : ME) : MI := fun st => (m st).bind fun p => ofO (revOf p.1) p.2
theorem te_rev {m : ME} {H : Hp} {R : It → Hp → Prop} (h : tiOf Γ W (mRevIt m) σ H R) : RT.iRevA Γ.K (teOf Γ W m) σ H R := by
  obtain ⟨B, A, F, τ, ds, st, hl, s, q⟩ := h
  refine te_in (τ := τ) (ds := ds) iP.mono hl (fun _ _ _ s => s) s q fun t st1 v H1 F1 f1 s1 q1 => ?_
  obtain ⟨its, e1, q1⟩ := rPost.ofO q1
  obtain ⟨k, fr, d⟩ := t
  cases k with
  | frz =>
    cases d with
    | lst xs =>
      cases e1
      have r : Rep Γ (sel fr B F1) (.lst xs) v := s1.top
      simp only [Rep] at r
      obtain ⟨p, us, h1, h2, h3⟩ := r
      exact ⟨p, us, h1, .inl ⟨SqL.of (s1.fh _ _ (sel_same _ _ h2)), q1 _ H1 F1 _ (Same.refl _) s1.pop ⟨SqL.of (sel_same _ _ h2), h3⟩ sqInv.mono walk_revL⟩⟩
    | tup xs =>
      cases e1
      have r : Rep Γ (sel fr B F1) (.tup xs) v := s1.top
      simp only [Rep] at r
      obtain ⟨p, us, h1, h2, h3⟩ := r
      exact ⟨p, us, h1, .inr ⟨sqT_mono (sel_same.trans s1.fh) h2, q1 _ H1 F1 _ (Same.refl _) s1.pop ⟨sqT_mono sel_same h2, h3⟩ stInv.mono walk_revT⟩⟩
    | _ => cases e1
  | own => cases e1
  | old => cases e1
  | bor => cases e1
/-- zip of two lists -/
def fL (t : TV) : Option (Bool × List D) := match t.k, t.d with
  | .frz, .lst xs => some (t.fr, xs)
  | _, _ => none
theorem fL_of {t : TV} {p : Bool × List D} (h : fL t = some p) : t = ⟨.frz, p.1, .lst p.2⟩ := by
  obtain ⟨k, fr, d⟩ := t
  cases k <;> cases d <;> cases h
  rfl
def fZip (ts : List TV) : Option (List TV) := (two2 ts).bind fun p => (fL p.1).bind fun a => (fL p.2).bind fun b => some (zipD a.1 b.1 a.2 b.2)
def mZip (m : MA) : MI := mIA fZip m
theorem te_zip {m : MA} {H : Hp} {R : It → Hp → Prop} (h : tiOf Γ W (mZip m) σ H R) : iZip Γ.K (taOf Γ W m) σ H R := by
  obtain ⟨B, A, F, τ, ds, st, hl, s, q⟩ := h
  refine ta_in (τ := τ) (ds := ds) iP.mono hl (fun _ _ _ s => s) s q fun ts st1 vs H1 F1 hlen f1 s1 q1 => ?_
  obtain ⟨its, e1, q1⟩ := rPost.ofO q1
  obtain ⟨t, e2, e1⟩ := Option.bind_eq_some_iff.mp e1
  obtain ⟨⟨fa, xs⟩, e3, e1⟩ := Option.bind_eq_some_iff.mp e1
  obtain ⟨⟨fb, ys⟩, e4, e1⟩ := Option.bind_eq_some_iff.mp e1
  cases e1
  have et := two_of e2
  subst et
  match vs, hlen with
  | [v, u], hlen =>
    obtain ⟨t1, t2⟩ := t
    have ea := fL_of e3
    have eb := fL_of e4
    dsimp only at ea eb
    subst ea
    subst eb
    have s2 : SR Γ B A F1 H1 (some u :: some v :: (τ ++ σ)) (some ⟨.frz, fb, .lst ys⟩ :: some ⟨.frz, fa, .lst xs⟩ :: (ds ++ st1)) := s1
    have r1 : Rep Γ (sel fa B F1) (.lst xs) v := s2.pop.top
    have r2 : Rep Γ (sel fb B F1) (.lst ys) u := s2.top
    simp only [Rep] at r1 r2
    obtain ⟨p, us, h1, h2, h3⟩ := r1
    obtain ⟨p', us', h1', h2', h3'⟩ := r2
    subst h1
    subst h1'
    exact ⟨p, p', us, us', rfl, SqL.of (s1.fh _ _ (sel_same _ _ h2)), SqL.of (s1.fh _ _ (sel_same _ _ h2')), q1 _ H1 F1 _ (Same.refl _) s2.pop.pop ⟨⟨SqL.of (sel_same _ _ h2), h3⟩, ⟨SqL.of (sel_same _ _ h2'), h3'⟩⟩ (fun F1 F2 e h => ⟨sqInv.mono F1 F2 e h.1, sqInv.mono F1 F2 e h.2⟩) walk_zip⟩

/-! ## for -/
def forI (f : TV → Sta → Res (Ctl × Sta)) : List TV → Sta → Res (Ctl × Sta)
  | [], st => .ok (.next, st)
  | t :: ts, st => (f t st).bind fun p => match p.1 with
    | .next => forI f ts p.2
    | .cont => forI f ts p.2
    | .brk => .ok (.next, p.2)
    | .ret t => .ok (.ret t, p.2)
def turnF (g : TV → Sta → Option Sta) (b : MS) (t : TV) (st : Sta) : Res (Ctl × Sta) := match g t st with
  | some st' => b st'
  | none => .stuck
def mFor (g : TV → Sta → Option Sta) (i : MI) (b : MS) : MS := fun st => (i st).bind fun p => forI (turnF g b) p.1 p.2
theorem se_for {gf : TV → Sta → Option Sta} {g : TG} (tg : TgD Γ g gf) {i : MI} {b : MS} {D : Ends} {H : Hp} (h : msOf Γ W (mFor gf i b) D σ H) : tFor (tiOf Γ W i) g (msOf Γ W b) D σ H := by
  obtain ⟨B, A, F, τ, ds, st, hl, nb, s, q⟩ := h
  refine ⟨B, A, F, τ, ds, st, hl, s, sPost.bind (fun _ _ _ _ s => s) q fun its st1 e q1 J H1 F1 inv f1 s1 i1 mo wk => ?_⟩
  have q1 := sPost.mono sP.mono f1 q1
  refine ⟨fun i m σ H => m = its.length - i ∧ i ≤ its.length ∧ ∃ F st, inv F ∧ SR Γ B A F H (τ ++ σ) (ds ++ st) ∧ sPost Γ W B A τ ds (sP Γ B A τ ds D) F (forI (turnF gf b) (its.drop i) st), ⟨_, rfl, Nat.zero_le _, F1, st1, i1, s1, q1⟩, ?_⟩
  rintro i m σ H ⟨rfl, hi, F, st, iv, s, q⟩
  by_cases hlt : i < its.length
  · have eg : its[i]? = some its[i] := List.getElem?_eq_getElem hlt
    have ed : its.drop i = its[i] :: its.drop (i + 1) := List.drop_eq_getElem_cons hlt
    rw [ed] at q
    refine .inr ⟨wk.go F H i _ iv s.fh eg, fun σ' H' => ∃ F st, inv F ∧ SR Γ B A F H' (τ ++ σ') (ds ++ st) ∧ sPost Γ W B A τ ds (sP Γ B A τ ds D) F (forI (turnF gf b) (its.drop (i + 1)) st), fun σ' H' n => ⟨_, ?_, rfl, hlt, n⟩, fun x H' y => ?_⟩
    · omega
    · obtain ⟨F2, f2, s2⟩ := wk.yld A F H _ _ i _ x H' iv s eg y
      have q : sPost Γ W B A τ ds (sP Γ B A τ ds D) F ((turnF gf b its[i] st).bind fun p => match p.1 with
        | .next => forI (turnF gf b) (its.drop (i + 1)) p.2
        | .cont => forI (turnF gf b) (its.drop (i + 1)) p.2
        | .brk => .ok (.next, p.2)
        | .ret t => .ok (.ret t, p.2)) := q
      have q := sPost.mono sP.mono f2 q
      have iv2 := mo _ _ f2 iv
      cases e1 : gf its[i] st with
      | none =>
        unfold turnF at q
        rw [e1] at q
        exact q.elim
      | some st2 =>
        refine tg B A F2 H' τ ds σ st st2 x _ hl s2 e1 _ fun σ' s3 => ?_
        refine ⟨B, A, F2, τ, ds, st2, hl, nb, s3, ?_⟩
        unfold turnF at q
        rw [e1] at q
        have q : sPost Γ W B A τ ds (sP Γ B A τ ds D) F2 ((b st2).bind fun p => match p.1 with
          | .next => forI (turnF gf b) (its.drop (i + 1)) p.2
          | .cont => forI (turnF gf b) (its.drop (i + 1)) p.2
          | .brk => .ok (.next, p.2)
          | .ret t => .ok (.ret t, p.2)) := q
        cases e2 : b st2 with
        | ok p =>
          obtain ⟨c2, st3⟩ := p
          rw [e2] at q
          cases c2 with
          | next => exact fun σ' H' F' f s4 => ⟨F', st3, mo _ _ f iv2, s4, sPost.mono sP.mono f q⟩
          | cont => exact fun σ' H' F' f s4 => ⟨F', st3, mo _ _ f iv2, s4, sPost.mono sP.mono f q⟩
          | brk => exact q
          | ret t => exact q
        | err c2 st3 => rw [e2] at q; exact q
        | stuck => rw [e2] at q; exact q
  · have e : i = its.length := by omega
    subst e
    rw [List.drop_length] at q
    exact .inl ⟨wk.stop F H iv s.fh, q σ H F (Same.refl _) s⟩
end
end Dl

namespace Dl
open PySem PySem.Spec PyProof.Rows L2
section
variable {Γ : Gm} {W : WX} {B F F' H H' : Hp} {A : Ao} {τ τ' : List (Option V)} {ds ds' : Sta} {σ : L2.St} {st : Sta}
/-! ## comprehensions -/
abbrev W0 : WX := fun _ _ _ _ => False
def wipeS (st : Sta) : List Nat → Sta
  | [] => st
  | v :: vs => setS (wipeS st vs) v none
def compI (g : TV → Sta → Option Sta) (c : MT) (e : ME) (vs : List Nat) : List TV → Sta → Bool → List D → Option (Bool × List D × Sta)
  | [], st, fr, acc => some (fr, acc, st)
  | t :: ts, st, fr, acc => (g t st).bind fun st1 => match c st1 with
    | .ok (false, st2) => compI g c e vs ts (wipeS st2 vs) fr acc
    | .ok (true, st2) => (match e st2 with
      | .ok (⟨.frz, f2, d⟩, st3) => if acc.length < 16777216 ∧ okS st3 = true then compI g c e vs ts (wipeS st3 vs) (fr && f2) (acc ++ [d]) else none
      | _ => none)
    | _ => none
def mComp (g : TV → Sta → Option Sta) (i : MI) (c : MT) (e : ME) (vs : List Nat) : ME := fun st => (i st).bind fun p => match compI g c e vs p.1 (wipeS p.2 vs) true [] with
  | some (fr, acc, st') => .ok (⟨.own, fr, .lst acc⟩, st')
  | none => .stuck
def mYes : MT := fun st => .ok (true, st)
/-- a target within a comprehension: its own slots vs alone -/
def TgW (Γ : Gm) (g : TG) (f : TV → Sta → Option Sta) (vs : List Nat) : Prop := ∀ (B : Hp) (A : Ao) (F H : Hp) (τ : List (Option V)) (ds : Sta) (σ : L2.St) (st st' : Sta) (v : V) (t : TV), τ.length = ds.length → SR Γ B A F H (some v :: (τ ++ wipe σ vs)) (some t :: (ds ++ st)) → f t st = some st' →
  ∀ Q : L2.St → Hp → Prop, (∀ σ', SR Γ B A F H (τ ++ σ') (ds ++ st') → wipe σ' vs = wipe σ vs → Q σ' H) → g v (wipe σ vs) H Q
theorem wipe_set_in {x : Option V} {i : Nat} : ∀ {vs : List Nat} {σ : L2.St}, i ∈ vs → wipe (σ.set i x) vs = wipe σ vs
  | v :: vs, σ, h => by
    show (wipe (σ.set i x) vs).set v none = (wipe σ vs).set v none
    by_cases e : i ∈ vs
    · rw [wipe_set_in e]
    · have : i = v := by
        rcases List.mem_cons.mp h with z | z
        · exact z
        · exact (e z).elim
      subst this
      have out : ∀ {vs : List Nat} {σ : L2.St}, i ∉ vs → wipe (σ.set i x) vs = (wipe σ vs).set i x := by
        intro vs
        induction vs with
        | nil => intro σ _; rfl
        | cons w ws ih =>
          intro σ hn
          show (wipe (σ.set i x) ws).set w none = ((wipe σ ws).set w none).set i x
          rw [ih fun z => hn (List.mem_cons_of_mem _ z), List.set_comm]
          rintro rfl
          exact hn List.mem_cons_self
      rw [out e, List.set_set]
theorem wipe_wipe : ∀ {us vs : List Nat} {σ : L2.St}, (∀ i ∈ us, i ∈ vs) → wipe (wipe σ us) vs = wipe σ vs
  | [], vs, σ, _ => rfl
  | u :: us, vs, σ, h => by
    show wipe ((wipe σ us).set u none) vs = _
    rw [wipe_set_in (h u List.mem_cons_self), wipe_wipe fun i hi => h i (List.mem_cons_of_mem _ hi)]
theorem tw_name {i : Nat} : TgW Γ (gName i) (tgName i) [i] := by
  intro B A F H τ ds σ st st' v t hl s e Q q
  have z := s.store_at hl i
  have w : wipe ((wipe σ [i]).set i (some v)) [i] = wipe σ [i] := by
    rw [wipe_set_in (List.mem_cons_self), wipe_wipe fun _ h => h]
  obtain ⟨k, fr, d⟩ := t
  cases k with
  | bor => cases e
  | frz => cases e; exact q _ z w
  | old => cases e; exact q _ z w
  | own => cases e; exact q _ z w
theorem set_eachW {fr : Bool} {ws : List Nat} : ∀ {is : List Nat} {xs : List D} {us : List V} {st st' : Sta} {σ : L2.St}, (∀ i ∈ is, i ∈ ws) → τ.length = ds.length → SR Γ B A F H (τ ++ σ) (ds ++ st) → RepL Γ (sel fr B F) xs us → setEach fr is xs st = some st' →
    ∀ Q : L2.St → Hp → Prop, (∀ σ', SR Γ B A F H (τ ++ σ') (ds ++ st') → wipe σ' ws = wipe σ ws → Q σ' H) → gNames is us σ H Q
  | [], [], us, st, st', σ, hw, hl, s, r, e, Q, q => by
    cases e
    exact ⟨r.nil_inv, q _ s rfl⟩
  | i :: is, d :: xs, us, st, st', σ, hw, hl, s, r, e, Q, q => by
    obtain ⟨v, u, rfl, h1, h2⟩ := r.cons_inv
    refine ⟨v, u, rfl, ?_⟩
    have s1 := (s.push (t := .el fr d) (ent_el h1) (by intro z; cases z)).store_at hl i
    refine set_eachW (fun j hj => hw j (List.mem_cons_of_mem _ hj)) hl s1 h2 e Q fun σ' s2 w => q σ' s2 ?_
    rw [w, wipe_set_in (hw i List.mem_cons_self)]
  | [], _ :: _, _, _, _, _, _, _, _, _, e, _, _ => by cases e
  | _ :: _, [], _, _, _, _, _, _, _, _, e, _, _ => by cases e
theorem tw_tup {is : List Nat} : TgW Γ (gTup Γ.K is.length (gNames is)) (tgTup is) is := by
  intro B A F H τ ds σ st st' v t hl s e Q q
  obtain ⟨k, fr, d⟩ := t
  cases d with
  | tup xs =>
    obtain ⟨p, us, h1, h2, h3⟩ := s.top.tup s.fh
    have e : setEach fr is xs st = some st' := e
    refine ⟨p, us, h1, h2, by rw [← h3.length]; exact setEach_len e, set_eachW (ws := is) (fun _ h => h) hl s.pop h3 e Q fun σ' s2 w => q σ' s2 ?_⟩
    rw [w, wipe_wipe fun _ h => h]
  | _ => cases e
/-- dead places: their values may be anything -/
theorem SR.dead {vs vs' : List (Option V)} {ts : Sta} (s : SR Γ B A F H vs ts) (hl : vs'.length = vs.length) (h : ∀ (i : Nat) (t : TV), ts[i]? = some (some t) → vs'[i]? = vs[i]?) : SR Γ B A F H vs' ts where
  ln := hl.trans s.ln
  bh := s.bh
  fh := s.fh
  ab := s.ab
  af := s.af
  fb := s.fb
  en := fun i t e => by
    rw [h i t e]
    exact s.en i t e
  dj := fun i j a h1 h2 => by
    have o : ∀ {k : Nat}, OwnAt vs' ts k a → OwnAt vs ts k a := fun {k} ⟨fr, d, e1, e2⟩ => ⟨fr, d, e1, by rw [← h k _ e1]; exact e2⟩
    exact s.dj i j a (o h1) (o h2)
  oo := fun i fr c ds a h1 h2 => s.oo i fr c ds a h1 (by rw [← h i _ h1]; exact h2)
theorem wipeS_len : ∀ {vs : List Nat} {st : Sta}, (wipeS st vs).length = st.length
  | [], st => rfl
  | v :: vs, st => by
    show (setS (wipeS st vs) v none).length = _
    rw [setS_set, List.length_set, wipeS_len]
theorem wipeS_none : ∀ {vs : List Nat} {st : Sta} {i : Nat} {t : TV}, (wipeS st vs)[i]? = some (some t) → i ∉ vs ∧ st[i]? = some (some t)
  | [], st, i, t, h => ⟨by simp, h⟩
  | v :: vs, st, i, t, h => by
    have h : (setS (wipeS st vs) v none)[i]? = some (some t) := h
    rw [setS_set] at h
    rcases get_set_cases h with ⟨_, z⟩ | ⟨ne, z⟩
    · cases z
    · obtain ⟨h1, h2⟩ := wipeS_none z
      exact ⟨by simp only [List.mem_cons, not_or]; exact ⟨fun e => ne e.symm, h1⟩, h2⟩
theorem SR.wipeE : ∀ {vs : List Nat} {st : Sta}, SR Γ B A F H (τ ++ σ) (ds ++ st) → SR Γ B A F H (τ ++ σ) (ds ++ wipeS st vs)
  | [], st, s => s
  | v :: vs, st, s => by
    have z := (SR.wipeE (vs := vs) s).clear (ds.length + v)
    rw [set_slot, ← setS_set] at z
    exact z
theorem wipe_get {vs : List Nat} {i : Nat} (h : i ∉ vs) : (wipe σ vs)[i]? = σ[i]? := wipe_out h
theorem app_get {α : Type} {τ : List α} {σ : List α} {i : Nat} : (τ ++ σ)[τ.length + i]? = σ[i]? := by
  rw [List.getElem?_append_right (by omega), Nat.add_sub_cancel_left]
theorem SR.wipeV {vs : List Nat} {σ' : L2.St} (hl : τ.length = ds.length) (s : SR Γ B A F H (τ ++ σ) (ds ++ wipeS st vs)) (h : wipe σ vs = wipe σ' vs) : SR Γ B A F H (τ ++ σ') (ds ++ wipeS st vs) := by
  have hs : σ'.length = σ.length := by
    have := congrArg List.length h
    rw [wipe_length, wipe_length] at this
    exact this.symm
  refine s.dead (by rw [List.length_append, List.length_append, hs]) fun i t e => ?_
  by_cases c : i < τ.length
  · rw [List.getElem?_append_left c, List.getElem?_append_left c]
  · have hi : i = τ.length + (i - τ.length) := by omega
    rw [hi] at e ⊢
    rw [app_get, app_get]
    have e' : (wipeS st vs)[i - τ.length]? = some (some t) := by
      rw [hl] at e
      rw [app_get] at e
      rw [hl]
      exact e
    have n := (wipeS_none e').1
    rw [← wipe_get (σ := σ') n, ← wipe_get (σ := σ) n, h]
theorem te_comp {gf : TV → Sta → Option Sta} {g : TG} {vs : List Nat} (tg : TgW Γ g gf vs) {i : MI} {c : MT} {e : ME} {H : Hp} {Q : VK} (h : teOf Γ W (mComp gf i c e vs) σ H Q) : tLc (tiOf Γ W i) g (ttOf Γ W0 c) (teOf Γ W0 e) vs σ H Q := by
  obtain ⟨B, A, F, τ, ds, st, hl, s, q⟩ := h
  refine ⟨B, A, F, τ, ds, st, hl, s, rPost.bind (fun _ _ _ s => s) q fun its st1 _ q1 J H1 F1 inv f1 s1 i1 mo wk D hD => ?_⟩
  have q1 := q1.mono eP.mono f1
  have q1 : rPost Γ W B A τ ds σ (eP Γ B A τ ds σ Q) F1 (match compI gf c e vs its (wipeS st1 vs) true [] with
    | some (fr, acc, st') => .ok (⟨.own, fr, .lst acc⟩, st')
    | none => .stuck) := q1
  cases er : compI gf c e vs its (wipeS st1 vs) true [] with
  | none => rw [er] at q1; exact q1.elim
  | some r =>
    obtain ⟨frE, accE, stE⟩ := r
    rw [er] at q1
    have nD : ∀ (j : Nat) (t : TV), (ds ++ st1)[j]? = some (some t) → t.k = .bor → (τ ++ σ)[j]? ≠ some (some (.ref D)) := fun j t ej kj z => by
      obtain ⟨v, h1, h2⟩ := s1.en j t ej
      rw [z] at h1
      have : V.ref D = v := by simpa using h1
      subst this
      obtain ⟨k, fr, d⟩ := t
      have kj : k = .bor := kj
      subst kj
      cases d with
      | lst xs =>
        obtain ⟨p, us, e1, e2, _⟩ := h2
        cases e1
        rw [hD] at e2
        cases e2
      | obj cc xs =>
        obtain ⟨p, C, dx, us, e1, _, e2, _⟩ := h2
        cases e1
        rw [hD] at e2
        cases e2
      | _ => exact h2.elim
    have nDt : ∀ (j : Nat) (t : TV), ds[j]? = some (some t) → t.k = .bor → τ[j]? ≠ some (some (.ref D)) := fun j t ej kj z => by
      have jl : j < ds.length := (List.getElem?_eq_some_iff.mp ej).1
      refine nD j t ?_ kj ?_
      · rw [List.getElem?_append_left jl]; exact ej
      · rw [List.getElem?_append_left (by omega)]; exact z
    have hl1 : (some (V.ref D) :: τ).length = (some (⟨.own, true, .lst []⟩ : TV) :: ds).length := by simpa using hl
    have sA : SR Γ B A F1 (upd H1 D (.lst [])) (some (.ref D) :: (τ ++ σ)) (some ⟨.own, true, .lst []⟩ :: (ds ++ st1)) := s1.alloc hD RepL.nil
    have sB : SR Γ B A F1 (upd H1 D (.lst [])) (some (.ref D) :: (τ ++ wipe σ vs)) (some ⟨.own, true, .lst []⟩ :: (ds ++ wipeS st1 vs)) :=
      SR.wipeV (τ := some (V.ref D) :: τ) (ds := some (⟨.own, true, .lst []⟩ : TV) :: ds) hl1 (SR.wipeE (τ := some (V.ref D) :: τ) (ds := some (⟨.own, true, .lst []⟩ : TV) :: ds) sA) (wipe_wipe fun _ h => h).symm
    refine ⟨fun i m H => m = its.length - i ∧ i ≤ its.length ∧ ∃ F st fr acc, Same F1 F ∧ inv F ∧ (∃ st0, st = wipeS st0 vs) ∧ SR Γ B A F H (some (.ref D) :: (τ ++ wipe σ vs)) (some ⟨.own, fr, .lst acc⟩ :: (ds ++ st)) ∧ compI gf c e vs (its.drop i) st fr acc = some (frE, accE, stE), ⟨_, rfl, Nat.zero_le _, F1, _, _, _, Same.refl _, i1, ⟨_, rfl⟩, sB, er⟩, ?_⟩
    · rintro i m H ⟨rfl, hi, F, st, fr, acc, fF, iv, ⟨st0, rfl⟩, s, ec⟩
      by_cases hlt : i < its.length
      · have eg : its[i]? = some its[i] := List.getElem?_eq_getElem hlt
        have ed : its.drop i = its[i] :: its.drop (i + 1) := List.drop_eq_getElem_cons hlt
        rw [ed] at ec
        refine .inr ⟨wk.go F H i _ iv s.fh eg, fun H' => i + 1 ≤ its.length ∧ ∃ F st fr acc, Same F1 F ∧ inv F ∧ (∃ st0, st = wipeS st0 vs) ∧ SR Γ B A F H' (some (.ref D) :: (τ ++ wipe σ vs)) (some ⟨.own, fr, .lst acc⟩ :: (ds ++ st)) ∧ compI gf c e vs (its.drop (i + 1)) st fr acc = some (frE, accE, stE), fun H' n => ⟨_, ?_, rfl, n.1, n.2⟩, fun x H' y => ?_⟩
        · have := n.1
          omega
        · obtain ⟨F2, f2, s2⟩ := wk.yld A F H _ _ i _ x H' iv s eg y
          have iv2 := mo _ _ f2 iv
          obtain ⟨st2, e2, ec⟩ := Option.bind_eq_some_iff.mp ec
          have hl2 : (some (V.ref D) :: τ).length = (some (⟨.own, fr, .lst acc⟩ : TV) :: ds).length := by simpa using hl
          refine tg B A F2 H' (some (.ref D) :: τ) (some ⟨.own, fr, .lst acc⟩ :: ds) σ (wipeS st0 vs) st2 x _ hl2 s2 e2 _ fun σ' s3 ew => ⟨ew, ?_⟩
          refine ⟨B, A, F2, some (.ref D) :: τ, some ⟨.own, fr, .lst acc⟩ :: ds, st2, hl2, s3, ?_⟩
          cases e3 : c st2 with
          | err c2 s4 => rw [e3] at ec; cases ec
          | stuck => rw [e3] at ec; cases ec
          | ok p =>
            obtain ⟨b, st3⟩ := p
            rw [e3] at ec
            intro H3 F3 f3 s4
            have back : ∀ {F : Hp} {H : Hp} {st : Sta} {fr : Bool} {acc : List Dl.D}, SR Γ B A F H (some (.ref D) :: (τ ++ σ')) (some ⟨.own, fr, .lst acc⟩ :: (ds ++ st)) → SR Γ B A F H (some (.ref D) :: (τ ++ wipe σ vs)) (some ⟨.own, fr, .lst acc⟩ :: (ds ++ wipeS st vs)) := fun {F H st fr acc} z =>
              SR.wipeV (τ := some (V.ref D) :: τ) (ds := some (⟨.own, fr, .lst acc⟩ : TV) :: ds) (by simpa using hl) (SR.wipeE (τ := some (V.ref D) :: τ) (ds := some (⟨.own, fr, .lst acc⟩ : TV) :: ds) z) (ew.trans (wipe_wipe fun _ h => h).symm)
            cases b with
            | false =>
              rw [if_neg Bool.false_ne_true]
              exact ⟨hlt, F3, _, fr, acc, (fF.trans f2).trans f3, mo _ _ f3 iv2, ⟨st3, rfl⟩, back s4, ec⟩
            | true =>
              rw [if_pos rfl]
              refine ⟨B, A, F3, some (.ref D) :: τ, some ⟨.own, fr, .lst acc⟩ :: ds, st3, hl2, s4, ?_⟩
              have ec : (match e st3 with
                | .ok (⟨.frz, f2, d⟩, st3) => if acc.length < 16777216 ∧ okS st3 = true then compI gf c e vs (its.drop (i + 1)) (wipeS st3 vs) (fr && f2) (acc ++ [d]) else none
                | _ => none) = some (frE, accE, stE) := ec
              cases e4 : e st3 with
              | err c2 s4 => rw [e4] at ec; cases ec
              | stuck => rw [e4] at ec; cases ec
              | ok p =>
                obtain ⟨⟨k, f5, d⟩, st4⟩ := p
                rw [e4] at ec
                cases k with
                | own => cases ec
                | old => cases ec
                | bor => cases ec
                | frz =>
                  have ec : (if acc.length < 16777216 ∧ okS st4 = true then compI gf c e vs (its.drop (i + 1)) (wipeS st4 vs) (fr && f5) (acc ++ [d]) else none) = some (frE, accE, stE) := ec
                  by_cases cc : acc.length < 16777216 ∧ okS st4 = true
                  · rw [if_pos cc] at ec
                    intro v H4 F4 f4 s5
                    have rv : Rep Γ (sel f5 B F4) d v := s5.top
                    have s6 := s5.pop
                    obtain ⟨p, us, h1, h2, h3, h4, h5⟩ := s6.top
                    cases h1
                    have nb : ∀ (j : Nat) (t : TV), (some (⟨.own, fr, .lst acc⟩ : TV) :: (ds ++ st4))[j]? = some (some t) → t.k = .bor → (some (V.ref D) :: (τ ++ σ'))[j]? ≠ some (some (.ref D)) := fun j t ej kj => by
                      cases j with
                      | zero =>
                        have : (⟨.own, fr, .lst acc⟩ : TV) = t := by simpa using ej
                        subst this
                        cases kj
                      | succ j =>
                        have ej : (ds ++ st4)[j]? = some (some t) := by simpa using ej
                        by_cases cj : j < ds.length
                        · rw [List.getElem?_append_left cj] at ej
                          have := nDt j t ej kj
                          intro z
                          apply this
                          have z : (τ ++ σ')[j]? = some (some (.ref D)) := by simpa using z
                          rwa [List.getElem?_append_left (by omega)] at z
                        · rw [List.getElem?_append_right (by omega)] at ej
                          exact (okS_of cc.2 _ t ej kj).elim
                    have s7 := s6.updL' (i := 0) (fr' := fr && f5) (ds' := acc ++ [d]) (us := us ++ [v]) nb rfl rfl ((repsel h5 and1).append (RepL.cons (by
                      cases f5 with
                      | true => exact Rep.mono sel_weak rv
                      | false =>
                        rw [Bool.and_false]
                        exact rv) RepL.nil))
                    refine ⟨us, h2, by rw [← h5.length, sizeLine_eq]; exact cc.1, hlt, F4, _, _, _, ((fF.trans f2).trans f3).trans f4, mo _ _ f4 (mo _ _ f3 iv2), ⟨st4, rfl⟩, back s7, ec⟩
                  · rw [if_neg cc] at ec
                    cases ec
      · have e0 : i = its.length := by omega
        subst e0
        rw [List.drop_length] at ec
        have ec : (fr, acc, wipeS st0 vs) = (frE, accE, stE) := Option.some.inj ec
        cases ec
        refine .inl ⟨wk.stop F H iv s.fh, q1 _ H F fF ?_⟩
        exact SR.wipeV (τ := some (V.ref D) :: τ) (ds := some (⟨.own, _, .lst _⟩ : TV) :: ds) (by simpa using hl) s (wipe_wipe fun _ h => h)
end
end Dl

namespace Dl
open PySem PySem.Spec PyProof.Rows L2
section
variable {Γ : Gm} {W : WX} {X : Cx} {a b c e : Expr} {ma mb mc me : ME} {pos pos' p p2 : Pos} {es : List Expr} {ms ma' : MA} {ta tb : MT} {rest body orelse : List Stmt} {st : Stmt} {m1 m2 : MS} {x : Str} {i k : Nat} {tg iter : Expr} {mi : MI} {D : Ends}
/-! ## statements of the text -/
theorem qss_nil : PSs X [] (msOf Γ W mPass) := pss_imp pss_nil fun D σ H ⟨B, A, F, τ, ds, st, hl, nb, s, q⟩ => q σ H F (Same.refl _) s
theorem qss_one (h : PS X st (msOf Γ W m1)) : PSs X [st] (msOf Γ W m1) := pss_one h
theorem qss_cons (h : PS X st (msOf Γ W m1)) (t : PSs X rest (msOf Γ W m2)) : PSs X (st :: rest) (msOf Γ W (mSeq m1 m2)) := pss_imp (pss_cons h t) fun _ _ _ => se_seq
theorem qs_pass : PS X (.Pass pos) (msOf Γ W mPass) := ps_imp ps_pass fun D σ H ⟨B, A, F, τ, ds, st, hl, nb, s, q⟩ => q σ H F (Same.refl _) s
theorem qs_brk : PS X (.Break pos) (msOf Γ W mBrk) := ps_imp ps_break fun D σ H ⟨B, A, F, τ, ds, st, hl, nb, s, q⟩ => q σ H F (Same.refl _) s
theorem qs_cont : PS X (.Continue pos) (msOf Γ W mCont) := ps_imp ps_continue fun D σ H ⟨B, A, F, τ, ds, st, hl, nb, s, q⟩ => q σ H F (Same.refl _) s
theorem qs_retN : PS X (.Return none pos) (msOf Γ W mRetN) := ps_imp ps_retN fun D σ H ⟨B, A, F, τ, ds, st, hl, nb, s, q⟩ => q.2 .non σ H F (Same.refl _) (s.push ent_n (by intro z; cases z))
theorem qs_ret (h : PE X e (teOf Γ W me)) : PS X (.Return (some e) pos) (msOf Γ W (mRet me)) := ps_imp (ps_ret h) fun _ _ _ => se_ret
theorem qs_expr (h : PE X e (teOf Γ W me)) (hs : swapsWith e none pos.line X.env = pure false := by rfl) : PS X (.Expr e pos) (msOf Γ W (mExpr me)) := ps_imp (ps_expr h hs) fun _ _ _ => se_expr
theorem qs_if {s1 s2 : List Stmt} (hc : PT X c (ttOf Γ W ta)) (h1 : PSs X s1 (msOf Γ W m1)) (h2 : PSs X s2 (msOf Γ W m2)) : PS X (.If c s1 s2 pos) (msOf Γ W (mIf ta m1 m2)) := ps_imp (ps_if hc h1 h2) fun _ _ _ => se_if
theorem qs_set (hN : X.N.Nodup) (hi : X.N[i]? = some x) (hx : Loc X.env.scope x) (h : PE X e (teOf Γ W me)) (hs : swapsWith e (some (.Name x pos')) pos.line X.env = pure false := by rfl) (hf : X.fn x = true ∨ X.env.scope.names.lookup x = some .local := by first | exact .inl rfl | exact .inr rfl | assumption) :
    PS X (.Assign [.Name x pos'] e pos) (msOf Γ W (mSet i me)) := ps_imp (ps_set hN hi hx h hs hf) fun _ _ _ => se_set
theorem qs_asg {g : TG} {f : TV → Sta → Option Sta} (tgd : TgD Γ g f) (hg : PG X tg g) (h : PE X e (teOf Γ W me)) (hs : swapsWithSole [tg] e pos.line X.env = pure false := by rfl) (hw : swappedStores [tg] e X.env = pure none := by rfl)
    (h1 : (assignEach [tg] X.env).map (·.2) = [assign tg X.env] := by rfl) : PS X (.Assign [tg] e pos) (msOf Γ W (mAsg f me)) := ps_imp (ps_asg h hg hs hw h1) fun _ _ _ => se_asg tgd
theorem qs_par {j : Nat} {y : Str} {px py pt pt2 : Pos} {kt k2} (hc : X.calm = true) (hN : X.N.Nodup) (hi : X.N[i]? = some x) (hj : X.N[j]? = some y) (hij : i ≠ j)
    (hx : X.env.scope.names.lookup x = some .local) (hy : X.env.scope.names.lookup y = some .local) (h : PA X [a, b] (taOf Γ W ms))
    (hw : swappedStores [.Tuple [.Name x px, .Name y py] kt pt] (.Tuple [a, b] k2 pt2) X.env = pure (some [x, y]))
    (hs : swapsWithSole [.Tuple [.Name x px, .Name y py] kt pt] (.Tuple [a, b] k2 pt2) pos.line X.env = pure false := by rfl) :
    PS X (.Assign [.Tuple [.Name x px, .Name y py] kt pt] (.Tuple [a, b] k2 pt2) pos) (msOf Γ W (mPar i j ms)) := ps_imp (ps_par hc hN hi hj hij hx hy h hw hs) fun _ _ _ => se_par
theorem qs_augA (hN : X.N.Nodup) (hi : X.N[i]? = some x) (hx : Loc X.env.scope x) (h : PE X e (teOf Γ W me)) (hf : X.fn x = true ∨ X.env.scope.names.lookup x = some .local := by first | exact .inl rfl | exact .inr rfl | assumption) :
    PS X (.AugAssign (.Name x pos') .Add e pos) (msOf Γ W (mAug i (fun a b => a + b) me)) := ps_imp (ps_aug hN hi hx h ip_add hf) fun _ _ _ => se_aug
theorem qs_augS (hN : X.N.Nodup) (hi : X.N[i]? = some x) (hx : Loc X.env.scope x) (h : PE X e (teOf Γ W me)) (hf : X.fn x = true ∨ X.env.scope.names.lookup x = some .local := by first | exact .inl rfl | exact .inr rfl | assumption) :
    PS X (.AugAssign (.Name x pos') .Sub e pos) (msOf Γ W (mAug i (fun a b => a - b) me)) := ps_imp (ps_aug hN hi hx h ip_sub hf) fun _ _ _ => se_aug
theorem qs_setIx {ix : Expr} {mi : ME} (hv : PE X (.Name x pos') (tVar k)) (hi : PE X ix (teOf Γ W mi)) (h : PE X e (teOf Γ W me))
    (hs : swapsWithSole [.Subscript (.Name x pos') ix p] e pos.line X.env = pure false := by rfl) (hw : swappedStores [.Subscript (.Name x pos') ix p] e X.env = pure none := by rfl)
    (h1 : (assignEach [.Subscript (.Name x pos') ix p] X.env).map (·.2) = [assign (.Subscript (.Name x pos') ix p) X.env] := by rfl)
    (ha : ∀ v, assign (.Subscript (.Name x pos') ix p) X.env v = (do
      let ov ← holding [v] (eval (.Name x pos') X.env)
      let iv ← holding [v, ov] (eval ix X.env)
      standAt p
      holding [v, ov, iv] (setItem ov iv v)
      release [v, ov, iv] []) := by intro _; rfl) : PS X (.Assign [.Subscript (.Name x pos') ix p] e pos) (msOf Γ W (mSetIx k mi me)) :=
  ps_imp (ps_asg h (pg_sub hv hi set_list ha) hs hw h1) fun _ _ _ => se_setIx
theorem qs_app {ap : Pos} (hK : X.K = Γ.K) (hv : PE X (.Name x p) (tVar k)) (h : PE X e (teOf Γ W me)) (hpe : PE X (.Call (.Attribute (.Name x p) "append" ap) [e] [] p2) (tBM X.K "list" rAppend (tVar k) (tCons (teOf Γ W me) tNil)))
    (hs : swapsWith (.Call (.Attribute (.Name x p) "append" ap) [e] [] p2) none pos.line X.env = pure false := by rfl) : PS X (.Expr (.Call (.Attribute (.Name x p) "append" ap) [e] [] p2) pos) (msOf Γ W (mApp k me)) :=
  ps_imp (ps_expr hpe hs) fun _ _ _ q => by rw [hK]; exact se_app q
theorem qs_pop {ap : Pos} (hK : X.K = Γ.K) (hpe : PE X (.Call (.Attribute (.Name x p) "pop" ap) [] [] p2) (tBM0 X.K "list" rPop (tVar k)))
    (hs : swapsWith (.Call (.Attribute (.Name x p) "pop" ap) [] [] p2) none pos.line X.env = pure false := by rfl) : PS X (.Expr (.Call (.Attribute (.Name x p) "pop" ap) [] [] p2) pos) (msOf Γ W (mPop k)) :=
  ps_imp (ps_expr hpe hs) fun _ _ _ q => by rw [hK]; exact se_pop q
theorem qs_rev {ap : Pos} (hK : X.K = Γ.K) (hpe : PE X (.Call (.Attribute (.Name x p) "reverse" ap) [] [] p2) (tBM0 X.K "list" rReverse (tVar k)))
    (hs : swapsWith (.Call (.Attribute (.Name x p) "reverse" ap) [] [] p2) none pos.line X.env = pure false := by rfl) : PS X (.Expr (.Call (.Attribute (.Name x p) "reverse" ap) [] [] p2) pos) (msOf Γ W (mRev k)) :=
  ps_imp (ps_expr hpe hs) fun _ _ _ q => by rw [hK]; exact se_rev q
theorem qs_fld {cc : Cl} {f : Str} {j : Nat} (hK : X.K = Γ.K) (cl : ClsOk Γ cc) (hk : cc.fields[k]? = some f) (hv : PE X (.Name x p) (tVar j)) (h : PE X e (teOf Γ W me)) (hs : swapsWith e (some (.Attribute (.Name x p) f p2)) pos.line X.env = pure false := by rfl) :
    PS X (.Assign [.Attribute (.Name x p) f p2] e pos) (msOf Γ W (mFldSet j cc k me)) := ps_imp (ps_fld hv h hs) fun _ _ _ q => by rw [hK]; exact se_fldSet cl hk q
theorem qs_while {n : Nat} (hp : PassesOwn (model X.prog X.w) X.A X.env X.xe) (hc : PT X c (ttOf Γ W ta)) (hb : PSs X body (msOf Γ W m1)) : PS X (.While c body [] pos) (msOf Γ W (mWhile n ta m1)) := ps_imp (ps_while hp hc hb) fun _ _ _ => se_while
theorem qs_for {g : TG} {f : TV → Sta → Option Sta} (tgd : TgD Γ g f) (hp : PassesOwn (model X.prog X.w) X.A X.env X.xe) (hc : X.calm = true) (hi : PI X tg iter (tiOf Γ W mi)) (hg : PG X tg g) (hb : PSs X body (msOf Γ W m1))
    (hs : ∀ x, foldedSetIterable iter X.env x = pure x := by intro _; rfl) : PS X (.For tg iter body [] pos) (msOf Γ W (mFor f mi m1)) := ps_imp (ps_for hp hc hi hg hb hs) fun _ _ _ => se_for tgd
/-! ## what is walked -/
theorem qi_it (hK : X.K = Γ.K) (h : PE X e (teOf Γ W me)) : PI X tg e (tiOf Γ W (mIt me)) :=
  ⟨fun pins s σ H R I q => by
    rcases te_it q with z | z
    · exact (pi_list h).run pins s σ H R I (by rw [hK]; exact z)
    · exact (pi_tup h).run pins s σ H R I (by rw [hK]; exact z)⟩
theorem qi_rng1 (hg : Gl X "range") (hm : X.mg "range" = none) (h : PA X [a] (taOf Γ W ms)) (hs : starEach [a] X.env = [(false, eval a X.env)] := by rfl) : PI X tg (.Call (.Name "range" p) [a] [] pos) (tiOf Γ W (mRng1 ms)) := pi_imp (pi_range1 hg hm h hs) fun _ _ _ => te_rng1
theorem qi_rng2 (hg : Gl X "range") (hm : X.mg "range" = none) (h : PA X [a, b] (taOf Γ W ms)) (hs : starEach [a, b] X.env = [(false, eval a X.env), (false, eval b X.env)] := by rfl) (hs2 : starEach [b] X.env = [(false, eval b X.env)] := by rfl) :
    PI X tg (.Call (.Name "range" p) [a, b] [] pos) (tiOf Γ W (mRng2 ms)) := pi_imp (pi_range2 hg hm h hs hs2) fun _ _ _ => te_rng2
theorem qi_rev (hK : X.K = Γ.K) (hg : Gl X "reversed") (hm : X.mg "reversed" = none) (h : PE X e (teOf Γ W me)) (hs : starEach [e] X.env = (false, eval e X.env) :: starEach [] X.env := by rfl) : PI X tg (.Call (.Name "reversed" p) [e] [] pos) (tiOf Γ W (mRevIt me)) :=
  pi_imp (RT.pi_revA hg hm h hs) fun _ _ _ q => by rw [hK]; exact te_rev q
/-! ## comprehensions -/
theorem qe_comp {elt : Expr} {ifs : List Expr} {scope : Scope} {own : List (Str × Nat)} {g : TG} {f : TV → Sta → Option Sta} (tw : TgW Γ g f (own.map (·.2))) (hc : X.calm = true) (hN : X.N.Nodup) (hi : PI X tg iter (tiOf Γ W mi)) (ok : BlkOk X.N X.env.scope scope own)
    (hg : ∀ (s : Shared) (H : Hp) (C : Addr) (cl : List (Str × Addr)) (fp : List Addr), PG (X.blk s H scope (compEnvC scope cl C X.env) fp) tg g) (ht : ∀ (s : Shared) (H : Hp) (C : Addr) (cl : List (Str × Addr)) (fp : List Addr), PTs (X.blk s H scope (compEnvC scope cl C X.env) fp) ifs (ttOf Γ W0 ta))
    (he : ∀ (s : Shared) (H : Hp) (C : Addr) (cl : List (Str × Addr)) (fp : List Addr), PE (X.blk s H scope (compEnvC scope cl C X.env) fp) elt (teOf Γ W0 me)) (hs : ∀ x, foldedSetIterable iter X.env x = pure x := by intro _; rfl) :
    PE X (.ListComp elt [⟨tg, iter, ifs, 0⟩] scope pos) (teOf Γ W (mComp f mi ta me (own.map (·.2)))) := pe_imp (pe_lc hc hN hi ok hg ht he hs) fun _ _ _ => te_comp tw
theorem qs_setComp {y : Str} {elt : Expr} {ifs : List Expr} {scope : Scope} {own : List (Str × Nat)} {g : TG} {f : TV → Sta → Option Sta} {py spos : Pos} (tw : TgW Γ g f (own.map (·.2))) (hc : X.calm = true) (hN : X.N.Nodup) (hy : X.N[i]? = some y) (hyl : X.env.scope.names.lookup y = some .local)
    (hsw : swapsWith (.ListComp elt [⟨tg, iter, ifs, 0⟩] scope pos) (some (.Name y py)) spos.line X.env = pure true) (hi : PI X tg iter (tiOf Γ W mi)) (ok : BlkOk X.N X.env.scope scope own)
    (hg : ∀ (s : Shared) (H : Hp) (C : Addr) (cl : List (Str × Addr)) (fp : List Addr), PG (X.blk s H scope (compEnvC scope cl C X.env) fp) tg g) (ht : ∀ (s : Shared) (H : Hp) (C : Addr) (cl : List (Str × Addr)) (fp : List Addr), PTs (X.blk s H scope (compEnvC scope cl C X.env) fp) ifs (ttOf Γ W0 ta))
    (he : ∀ (s : Shared) (H : Hp) (C : Addr) (cl : List (Str × Addr)) (fp : List Addr), PE (X.blk s H scope (compEnvC scope cl C X.env) fp) elt (teOf Γ W0 me)) (hs : ∀ x, foldedSetIterable iter X.env x = pure x := by intro _; rfl) :
    PS X (.Assign [.Name y py] (.ListComp elt [⟨tg, iter, ifs, 0⟩] scope pos) spos) (msOf Γ W (mSet i (mComp f mi ta me (own.map (·.2))))) :=
  ps_imp (ps_setLc hc hN hy hyl hsw hi ok hg ht he hs) fun D σ H h => by
    obtain ⟨B, A, F, τ, ds, st, hl, nb, s, q⟩ := h
    refine te_comp tw ?_
    refine se_in (τ := τ) (ds := ds) sP.mono hl (fun _ _ _ _ s => s) s q fun t st1 v H1 F1 f1 s1 q1 => ?_
    obtain ⟨k, fr, d⟩ := t
    cases k with
    | bor => exact q1.elim
    | frz => exact q1 _ H1 F1 (Same.refl _) (s1.store_at hl i)
    | old => exact q1 _ H1 F1 (Same.refl _) (s1.store_at hl i)
    | own => exact q1 _ H1 F1 (Same.refl _) (s1.store_at hl i)
theorem qts_nil : PTs X [] (ttOf Γ W mYes) := ⟨fun pins s σ H Q I ⟨B, A, F, τ, ds, st, hl, sr, q⟩ => pts_nil.run pins s σ H Q I (q H F (Same.refl _) sr)⟩
theorem qts_one (h : PT X c (ttOf Γ W ta)) : PTs X [c] (ttOf Γ W ta) := pts_one h
theorem Fit.blk (f : Fit Γ W X) {s : Shared} {H : Hp} {scope : Scope} {cenv : Env} {fp : List Addr} : Fit Γ W0 (X.blk s H scope cenv fp) := ⟨f.K, f.mg, takes0⟩
/-! ## raise -/
structure ExcOk (Γ : Gm) (x : Str) : Prop where
  ok : ∃ C, Γ.mg x = some (.ref C) ∧ PySem.W.excIn Γ.K C [.type "ValueError", .type "Exception", .type "BaseException", .type "object"] "ValueError.__new__" = true ∧ PySem.W.keepIn Γ.K (.ref C) = true ∧
    PySem.W.subIn Γ.K (.ref C) (.type "BaseException") = some true ∧ PySem.W.typeIn Γ.K (.ref C) = some (.type "type")
def mRaise (x : Str) : MS := fun st => .err ⟨x, none⟩ st
theorem qs_raise {m : Str} {j : Nat} {p3 : Pos} (h : ExcOk Γ x) (ft : Fit Γ W X) (hc : X.calm = true) (hg : Gl X x) (hdb : (x == ("__debug__" : Str)) = false := by decide) :
    PS X (.Raise (some (.Call (.Name x p) [.Constant (.str m) j p2] [] p3)) none pos) (msOf Γ W (mRaise x)) := by
  obtain ⟨C, h1, h2, h3, h4, h5⟩ := h.ok
  refine ps_imp (ps_raise hc ft.tk (pmk_own PySem.F.excBase_ValueError (ft.K ▸ h2) (by rw [ft.mg]; exact h1) (ft.K ▸ h3) (raises_own (ft.K ▸ h4) (ft.K ▸ h5)) hg hdb)) fun D σ H q => ?_
  obtain ⟨B, A, F, τ, ds, st, hl, nb, s, q⟩ := q
  exact q C none σ H F h1 (Same.refl _) Pay.plain s
end

/-! ## a def keeps its promise -/
section
variable {Γ : Gm} {P : Program} {w : World} {base : Heap}
def wE (E : XK) : WX := fun cls d _ H => E cls d H
def startD (n : Nat) (ds : List D) : Sta := ds.map (fun d => some (.el false d)) ++ List.replicate (n - ds.length) none
/-- the body m, of n places, run upon the arguments ds -/
def runD (n : Nat) (m : MS) (ds : List D) : Out := match m (startD n ds) with
  | .ok (.next, _) => .ok .n
  | .ok (.ret t, _) => .ok t
  | .err c _ => .err c
  | _ => .stuck
theorem start_get {N : List Str} {vs : List V} {i : Nat} {v : V} (h : vs[i]? = some v) : (L2.start N vs)[i]? = some (some v) := by
  unfold L2.start
  have hi : i < vs.length := (List.getElem?_eq_some_iff.mp h).1
  rw [List.getElem?_append_left (by rw [List.length_map]; exact hi), List.getElem?_map, h]
  rfl
theorem startD_get {n : Nat} {ds : List D} {i : Nat} {t : TV} (h : (startD n ds)[i]? = some (some t)) : ∃ d, ds[i]? = some d ∧ t = .el false d := by
  unfold startD at h
  by_cases c : i < ds.length
  · rw [List.getElem?_append_left (by rw [List.length_map]; exact c), List.getElem?_map] at h
    obtain ⟨d, h1, h2⟩ := Option.map_eq_some_iff.mp h
    exact ⟨d, h1, (Option.some.inj h2).symm⟩
  · rw [List.getElem?_append_right (by rw [List.length_map]; omega), List.getElem?_replicate] at h
    split at h <;> cases h
theorem sr_start {A H : Hp} {o : Option Addr} {N : List Str} {vs : List V} {ds : List D} (e : Same A H) (r : RepL Γ A ds vs) (hN : vs.length ≤ N.length) : SR Γ H ⟨A, o⟩ A H (L2.start N vs) (startD N.length ds) where
  ln := by
    have := r.length
    unfold L2.start startD
    rw [List.length_append, List.length_append, List.length_map, List.length_map, List.length_replicate, List.length_replicate]
    omega
  bh := Same.refl _
  fh := e
  ab := e
  af := Same.refl _
  fb := fun a o h => .inl h
  en := fun i t h => by
    obtain ⟨d, h1, h2⟩ := startD_get h
    obtain ⟨v, h3, h4⟩ := r.get h1
    subst h2
    exact ⟨v, start_get h3, ent_el h4⟩
  dj := fun i j a ⟨fr, d, h1, _⟩ _ => by
    obtain ⟨d', h3, h4⟩ := startD_get h1
    cases h4
  oo := fun i fr c ds a h1 _ => by
    obtain ⟨d', h3, h4⟩ := startD_get h1
    cases h4
theorem sp_len {n : Nat} {g : List D → Out} {vs : List V} {H : Hp} {Q : VK} {E : XK} (h : spD Γ n g vs H Q E) : vs.length = n := h.1
theorem body_run {N ps : List Str} {m : MS} {vs : List V} {H : Hp} {Q : VK} {E : XK} (hN : ps.length ≤ N.length) (h : spD Γ ps.length (runD N.length m) vs H Q E) : msOf Γ (wE E) m { nx := fun _ H' => Q .non H', rt := Q } (L2.start N vs) H := by
  obtain ⟨hl, A, ds, e, r, q⟩ := h
  have s0 := sr_start (N := N) (o := none) e r (by omega)
  refine ⟨H, ⟨A, none⟩, A, [], [], startD N.length ds, rfl, fun j t e => by simp at e, s0, ?_⟩
  unfold runD at q
  cases em : m (startD N.length ds) with
  | ok p =>
    obtain ⟨c, st1⟩ := p
    rw [em] at q
    cases c with
    | next => exact fun σ' H' F' f s => q.2 .non H' F' s.bh s.af s.fh s.fb ent_n
    | ret t => exact ⟨q.1, fun v σ' H' F' f s => q.2 v H' F' s.bh s.af s.fh s.fb s.top⟩
    | brk => exact q.elim
    | cont => exact q.elim
  | err c st1 =>
    rw [em] at q
    exact fun C d σ' H' F' g f y s => q C d H' F' g s.bh s.af s.fh s.fb y
  | stuck => rw [em] at q; exact q.elim
/-- __init__: the object's fields in the end -/
def runI (n : Nat) (c : Cl) (m : MS) (ds : List D) : OutO := match m (some ⟨.own, true, .obj c []⟩ :: startD (n - 1) ds) with
  | .ok (.next, some ⟨.own, fr, .obj c' fds⟩ :: _) => if c' = c then .ok fr fds else .stuck
  | .err ⟨e, none⟩ _ => .err e
  | _ => .stuck
theorem init_run {N ps : List Str} {c : Cl} {m : MS} {vs : List V} {H : Hp} {Q : VK} {E : XK} (hN : ps.length + 1 ≤ N.length) (h : spI Γ c ps.length (runI N.length c m) vs H Q E) : msOf Γ (wE E) m { nx := fun _ H' => Q .non H', rt := Q } (L2.start N vs) H := by
  obtain ⟨B, A, p, C, dx, us, ds, rfl, hl, hC, bp, rfl, ab, r, q⟩ := h
  have ln := r.length
  have ap : A p = none := ab.free bp
  have hb : Same B (upd B p (.ins C dx [])) := same_upd_new bp
  have s0 : SR Γ B ⟨A, some p⟩ A B (L2.start (N.drop 1) us) (startD (N.drop 1).length ds) := sr_start ab r (by rw [List.length_drop]; omega)
  have s1 : SR Γ B ⟨A, some p⟩ A (upd B p (.ins C dx [])) (some (.ref p) :: L2.start (N.drop 1) us) (some ⟨.own, true, .obj c []⟩ :: startD (N.drop 1).length ds) := by
    refine (s0.grow hb (Same.refl _) (ab.trans hb) fun a o z => .inl z).pushOwn (fun i b o z => ?_) ⟨p, C, dx, [], rfl, hC, by rw [upd_same, List.zip_nil_right], Nat.zero_le _, ap, bp, RepL.nil⟩ (fun c' xs a z1 z2 => by
      injection z2 with z2
      subst z2
      rfl)
    obtain ⟨fr, d, h1, _⟩ := o
    obtain ⟨d', _, h4⟩ := startD_get h1
    cases h4
  have es : L2.start N (.ref p :: us) = some (.ref p) :: L2.start (N.drop 1) us := by
    unfold L2.start
    rw [List.map_cons, List.cons_append, List.length_cons, List.length_drop]
    congr 3
    omega
  rw [es]
  rw [List.length_drop] at s1
  refine ⟨B, ⟨A, some p⟩, A, [], [], _, rfl, fun j t e => by simp at e, s1, ?_⟩
  unfold runI at q
  cases em : m (some ⟨.own, true, .obj c []⟩ :: startD (N.length - 1) ds) with
  | ok pr =>
    obtain ⟨cc, st1⟩ := pr
    rw [em] at q
    cases cc with
    | next =>
      intro σ' H' F' f s
      cases st1 with
      | nil => exact q.elim
      | cons x r1 =>
        cases x with
        | none => exact q.elim
        | some t =>
          obtain ⟨k, fr, d⟩ := t
          cases k with
          | frz => exact q.elim
          | old => exact q.elim
          | bor => exact q.elim
          | own =>
            cases d with
            | obj c' fds =>
              by_cases ec : c' = c
              · subst ec
                have q : (match (if c' = c' then OutO.ok fr fds else OutO.stuck) with
                  | .ok fr fds => ∀ H' F' vs' dx', Same B H' → Same A F' → Same F' H' → (∀ a o, F' a = some o → A a = some o ∨ B a = none) → F' p = none → H' p = some (.ins C dx' (c'.fields.zip vs')) → fds.length ≤ c'.fields.length → RepL Γ (sel fr B F') fds vs' → Q .non H'
                  | .err e => ∀ C H', Γ.mg e = some (.ref C) → Same B H' → E (.ref C) none H'
                  | .stuck => False) := q
                rw [if_pos rfl] at q
                have s : SR Γ B ⟨A, some p⟩ F' H' σ' (some ⟨.own, fr, .obj c' fds⟩ :: r1) := s
                obtain ⟨v, e1, e2⟩ := s.en 0 _ rfl
                obtain ⟨p', C', dx', us', h1, h2, h3, h4, h5, h6, h7⟩ := e2
                subst h1
                have ep := s.oo 0 fr c' fds p' rfl e1
                have ep : some p = some p' := ep
                cases ep
                rw [hC] at h2
                injection h2 with h2
                injection h2 with h2
                subst h2
                exact q H' F' us' dx' s.bh s.af s.fh s.fb h5 h3 h4 h7
              · have q : (match (if c' = c then OutO.ok fr fds else OutO.stuck) with
                  | .ok fr fds => ∀ H' F' vs' dx', Same B H' → Same A F' → Same F' H' → (∀ a o, F' a = some o → A a = some o ∨ B a = none) → F' p = none → H' p = some (.ins C dx' (c.fields.zip vs')) → fds.length ≤ c.fields.length → RepL Γ (sel fr B F') fds vs' → Q .non H'
                  | .err e => ∀ C H', Γ.mg e = some (.ref C) → Same B H' → E (.ref C) none H'
                  | .stuck => False) := q
                rw [if_neg ec] at q
                exact q.elim
            | _ => exact q.elim
    | ret t => exact q.elim
    | brk => exact q.elim
    | cont => exact q.elim
  | err c st1 =>
    rw [em] at q
    obtain ⟨cn, cx⟩ := c
    cases cx with
    | none =>
      intro C d σ' H' F' g f y s
      have y : d = none := y
      rw [y]
      exact q C H' g s.bh
    | some _ => exact q.elim
  | stuck => rw [em] at q; exact q.elim
end
end Dl

namespace Dl
open PySem PySem.Spec PyProof.Rows L2
section
variable {Γ : Gm} {W : WX} {B F F' H H' : Hp} {A : Ao} {τ τ' : List (Option V)} {ds ds' : Sta} {σ : L2.St} {st : Sta}
/-! ## a name's value moved out; dead names -/
def mVM (i : Nat) : ME := fun st => match getS st i with
  | some ⟨.own, fr, d⟩ => .ok (⟨.own, fr, d⟩, setS st i none)
  | some ⟨.frz, fr, d⟩ => .ok (⟨.frz, fr, d⟩, st)
  | some ⟨.old, fr, d⟩ => .ok (⟨.frz, fr, d⟩, st)
  | _ => .stuck
theorem SR.moved {vs : List (Option V)} {ts : Sta} (s : SR Γ B A F H vs ts) {i : Nat} {t : TV} {v : V} (e : ts[i]? = some (some t)) (ev : vs[i]? = some (some v)) : SR Γ B A F H (some v :: vs) (some t :: ts.set i none) := by
  have sc := s.clear i
  obtain ⟨w, e1, e2⟩ := s.en i t e
  rw [ev] at e1
  have : v = w := by simpa using e1
  subst this
  have old : ∀ {j : Nat} {a : Addr}, OwnAt (some v :: vs) (some t :: ts.set i none) j a → OwnAt vs ts (match j with | 0 => i | j + 1 => j) a := fun {j a} o => by
    cases j with
    | zero =>
      obtain ⟨fr, d, h1, h2⟩ := o
      have h1 : t = ⟨.own, fr, d⟩ := by simpa using h1
      have h2 : v = .ref a := by simpa using h2
      subst h1
      subst h2
      exact ⟨fr, d, e, ev⟩
    | succ j =>
      obtain ⟨fr, d, h1, h2⟩ := o.cons_inv
      rcases get_set_cases h1 with ⟨_, z⟩ | ⟨_, z⟩
      · cases z
      · exact ⟨fr, d, z, h2⟩
  have ne : ∀ {j : Nat} {a : Addr}, OwnAt vs (ts.set i none) j a → j ≠ i := fun {j a} ⟨fr, d, h1, _⟩ z => by
    rcases get_set_cases h1 with ⟨_, z2⟩ | ⟨z2, _⟩
    · cases z2
    · exact z2 z.symm
  refine ⟨by simp [s.ln], s.bh, s.fh, s.ab, s.af, s.fb, fun j t' ej => ?_, fun j k a h1 h2 => ?_, fun j fr c xs a h1 h2 => ?_⟩
  · cases j with
    | zero =>
      have : t = t' := by simpa using ej
      subst this
      exact ⟨v, rfl, e2⟩
    | succ j =>
      obtain ⟨w, h1, h2⟩ := sc.en j t' (by simpa using ej)
      exact ⟨w, by simpa using h1, h2⟩
  · have z := s.dj _ _ a (old h1) (old h2)
    cases j with
    | zero =>
      cases k with
      | zero => rfl
      | succ k => exact (ne h2.cons_inv z.symm).elim
    | succ j =>
      cases k with
      | zero => exact (ne h1.cons_inv z).elim
      | succ k => rw [show j = k from z]
  · cases j with
    | zero =>
      have h1 : t = ⟨.own, fr, .obj c xs⟩ := by simpa using h1
      have h2 : v = .ref a := by simpa using h2
      subst h1
      subst h2
      exact s.oo i fr c xs a e ev
    | succ j => exact sc.oo j fr c xs a (by simpa using h1) (by simpa using h2)
theorem te_vm {i : Nat} {H : Hp} {Q : VK} (h : teOf Γ W (mVM i) σ H Q) : tVar i σ H Q := by
  obtain ⟨B, A, F, τ, ds, st, hl, s, q⟩ := h
  unfold mVM at q
  cases e : getS st i with
  | none => rw [e] at q; exact q.elim
  | some t =>
    rw [e] at q
    obtain ⟨v, e1, e0, e2⟩ := s.slot hl e
    obtain ⟨k, fr, d⟩ := t
    cases k with
    | bor => exact q.elim
    | frz => exact ⟨v, e1, q v H F (Same.refl _) (s.push e2 (by intro z; cases z))⟩
    | old => exact ⟨v, e1, q v H F (Same.refl _) (s.push e2.unold (by intro z; cases z))⟩
    | own =>
      refine ⟨v, e1, q v H F (Same.refl _) ?_⟩
      have z := s.moved (at_slot hl e) e0
      rw [set_slot, ← setS_set] at z
      exact z
theorem qe_vm {X : Cx} (i : Nat) {x : Str} {pos : Pos} (h : PE X (.Name x pos) (tVar i)) : PE X (.Name x pos) (teOf Γ W (mVM i)) := pe_imp h fun _ _ _ => te_vm
/-- names that nobody asks again -/
def mKl (is : List Nat) (m : MS) : MS := fun st => (m st).bind fun p => .ok (p.1, wipeS p.2 is)
theorem se_kl {is : List Nat} {m : MS} {D : Ends} {H : Hp} (h : msOf Γ W (mKl is m) D σ H) : msOf Γ W m D σ H := by
  obtain ⟨B, A, F, τ, ds, st, hl, nb, s, q⟩ := h
  refine ⟨B, A, F, τ, ds, st, hl, nb, s, ?_⟩
  have q : sPost Γ W B A τ ds (sP Γ B A τ ds D) F ((m st).bind fun p => .ok (p.1, wipeS p.2 is)) := q
  cases e : m st with
  | ok p =>
    obtain ⟨c, st1⟩ := p
    rw [e] at q
    cases c with
    | next => exact fun σ' H' F' f s1 => q σ' H' F' f (SR.wipeE s1)
    | brk => exact fun σ' H' F' f s1 => q σ' H' F' f (SR.wipeE s1)
    | cont => exact fun σ' H' F' f s1 => q σ' H' F' f (SR.wipeE s1)
    | ret t => exact ⟨q.1, fun v σ' H' F' f s1 => q.2 v σ' H' F' f (SR.wipeE (τ := some v :: τ) (ds := some t :: ds) s1)⟩
  | err c st1 => rw [e] at q; exact q
  | stuck => rw [e] at q; exact q
theorem qs_kl {X : Cx} {s : Stmt} {m : MS} (is : List Nat) (h : PS X s (msOf Γ W m)) : PS X s (msOf Γ W (mKl is m)) := ps_imp h fun _ _ _ => se_kl
theorem qss_kl {X : Cx} {s : List Stmt} {m : MS} (is : List Nat) (h : PSs X s (msOf Γ W m)) : PSs X s (msOf Γ W (mKl is m)) := pss_imp h fun _ _ _ => se_kl
end
/-! ## from the head's facts -/
section
variable {P : Program} {w : World} {K : PySem.W.Frag} {mg : Str → Option Value} {base : Heap} {x qual : Str} {params : Arguments} {body : List Stmt} {scope : Scope} {dvs : List V} {f C : Addr} {fd : FuncData} {N ps : List Str} {m : MS} {k : Nat} {c : Cl}
theorem fit_cx {N : List Str} {qual : Str} {scope : Scope} {f : Addr} {cd : Value} {A : Around} {outer : List Env} {s : Shared} {H : Hp} {E : XK} : Fit ⟨K, mg⟩ (wE E) (cxOf (L2.CX P w) P w K mg base N qual scope f cd A outer s H E) :=
  ⟨rfl, rfl, takes_of rfl rfl rfl rfl⟩
theorem own_cx {N : List Str} {qual : Str} {scope : Scope} {f : Addr} {cd : Value} {A : Around} {outer : List Env} {s : Shared} {H : Hp} {E : XK} : PassesOwn (model P w) (cxOf (L2.CX P w) P w K mg base N qual scope f cd A outer s H E).A (cxOf (L2.CX P w) P w K mg base N qual scope f cd A outer s H E).env (cxOf (L2.CX P w) P w K mg base N qual scope f cd A outer s H E).xe :=
  passes_of (X := cxOf (L2.CX P w) P w K mg base N qual scope f cd A outer s H E) rfl
/-- the body of a def at an address: what the printed derivations show -/
abbrev BodyOk (P : Program) (w : World) (K : PySem.W.Frag) (mg : Str → Option Value) (base : Heap) (k : Nat) (N : List Str) (qual : Str) (scope : Scope) (body : List Stmt) (m : MS) : Prop :=
  ∀ (f : Addr) (cdv : Value) (A : Around) (outer : List Env) (s : Shared) (H : Hp) (E : XK), Room k (A.deeper (envOfC qual scope s.heap.objs.size f cdv)) → PSs (cxOf (L2.CX P w) P w K mg base N qual scope f cdv A outer s H E) body (msOf ⟨K, mg⟩ (wE E) m)
theorem fnOk_of (Fd : FunD K x qual params body scope dvs [] f fd) (S : FnScope N ps scope) (hN : ps.length ≤ N.length) (b : BodyOk P w K mg base k N qual scope body m) : FnOk P w K mg base (L2.CX P w) (k + 1) f fd ps (spD ⟨K, mg⟩ ps.length (runD N.length m)) :=
  Fd.ok S (fun _ _ _ _ h => sp_len h) fun cdv A outer s H vs Q E hr h => ⟨_, b f cdv A outer s H E hr, body_run hN h⟩
theorem defOk_of (Fd : FunD K x qual params body scope [] [] f fd) (gx : mg x = some (.ref f)) (S : FnScope N ps scope) (hN : ps.length ≤ N.length)
    (hb : ∀ (kV doc pm : Value) (an : Option Addr) (cdv ct : Value) (us : List Value), us.length = ps.length → bindArgs (PySem.W.fnOf x qual params body scope .none kV doc pm an cdv ct) ⟨us, []⟩ = pure (ps.zip us)) (b : BodyOk P w K mg base k N qual scope body m) : DefOk ⟨K, mg⟩ P w base (k + 1) x ps (runD N.length m) :=
  ⟨f, fd, gx, Fd.kp, Fd.bindsN hb, fnOk_of Fd S hN b⟩
theorem methOk_of (Fd : FunD K x qual params body scope [] [] f fd) (gc : mg c.name = some (.ref C)) (cl : Cls K C) (mt : Meth K C x f) (no : x ∉ c.fields) (S : FnScope N ps scope) (hN : ps.length ≤ N.length)
    (hb : ∀ (kV doc pm : Value) (an : Option Addr) (cdv ct : Value) (us : List Value), us.length = ps.length → bindArgs (PySem.W.fnOf x qual params body scope .none kV doc pm an cdv ct) ⟨us, []⟩ = pure (ps.zip us)) (b : BodyOk P w K mg base k N qual scope body m) : MethOk ⟨K, mg⟩ P w base (k + 1) c x ps (runD N.length m) :=
  ⟨no, C, f, fd, gc, cl, mt, Fd.bindsN hb, fnOk_of Fd S hN b⟩
theorem makeOk_of {ps : List Str} (Fd : FunD K x qual params body scope dvs [] f fd) (gc : mg c.name = some (.ref C)) (mk : Mk K C f) (S : FnScope N ("self" :: ps) scope) (hN : ps.length + 1 ≤ N.length) (hb : Binds K fd ("self" :: ps) [])
    (b : BodyOk P w K mg base k N qual scope body m) : MakeOk ⟨K, mg⟩ P w base (k + 1) c ps [] (runI N.length c m) :=
  ⟨C, f, fd, [], [], gc, mk, hb, .nil, fun _ => RepL.nil, Fd.ok S (fun vs H Q E h => by
    obtain ⟨B, A, p, C, dx, us, ds, e, hl, _⟩ := h
    rw [e, List.length_cons, hl]
    rfl) fun cdv A outer s H vs Q E hr h => ⟨_, b f cdv A outer s H E hr, init_run hN h⟩⟩
theorem clsOk_of {c : Cl} (gc : mg c.name = some (.ref C)) (cl : Cls K C) (na : ∀ f ∈ c.fields, NoAttr K C f) (nd : c.fields.Nodup) : ClsOk ⟨K, mg⟩ c :=
  ⟨fun C' h => by
    have h : mg c.name = some (.ref C') := h
    rw [gc] at h
    injection h with h
    injection h with h
    subst h
    exact ⟨cl, na⟩, nd⟩
theorem excOk_of {x : Str} (gx : mg x = some (.ref C)) (h : PySem.W.excIn K C He.veBase "ValueError.__new__" = true ∧ PySem.W.keepIn K (.ref C) = true ∧ PySem.W.subIn K (.ref C) (.type "BaseException") = some true ∧ PySem.W.typeIn K (.ref C) = some (.type "type")) : ExcOk ⟨K, mg⟩ x :=
  ⟨C, gx, h.1, h.2.1, h.2.2.1, h.2.2.2⟩
/-- the law's own promise -/
def spLawD (K : PySem.W.Frag) : Sp := fun vs H Q _ => ∃ (a : Addr) (ns : List Int), vs = [.ref a] ∧ SqL K H a (ns.map V.int) ∧ ns.length ≤ 63 ∧ ∀ H', Q (.bl true) H'
theorem law_sp {g : List D → Out} (hg : ∀ ns : List Int, ns.length ≤ 63 → ∃ fr, g [.fl (ns.map D.int)] = .ok ⟨.frz, fr, .bl true⟩) {vs : List V} {H : Hp} {Q : VK} {E : XK} (h : spLawD K vs H Q E) : spD ⟨K, mg⟩ 1 g vs H Q E := by
  obtain ⟨a, ns, rfl, hS, hl, k⟩ := h
  refine ⟨rfl, H, [.fl (ns.map D.int)], Same.refl _, RepL.cons ?_ RepL.nil, ?_⟩
  · simp only [Rep]
    exact ⟨a, _, rfl, hS, repL_ints ns⟩
  · obtain ⟨fr, e⟩ := hg ns hl
    rw [e]
    refine ⟨rfl, fun v H' F' h1 h2 h3 h4 h5 => ?_⟩
    have ev := h5.bl
    subst ev
    exact k H'
theorem law_ok {g : List D → Out} (hg : ∀ ns : List Int, ns.length ≤ 63 → ∃ fr, g [.fl (ns.map D.int)] = .ok ⟨.frz, fr, .bl true⟩) {fd : FuncData} (h : FnOk P w K mg base (L2.CX P w) k f fd ["_law_script"] (spD ⟨K, mg⟩ 1 g)) : FnOk P w K mg base (L2.CX P w) k f fd ["_law_script"] (spLawD K) :=
  h.imp fun vs H Q E q => law_sp hg q
end
end Dl
namespace Dl
open PySem PySem.Spec PyProof.Rows L2
section
variable {Γ : Gm} {W : WX} {B F F' H H' : Hp} {A : Ao} {τ τ' : List (Option V)} {ds ds' : Sta} {σ : L2.St} {st : Sta}
/-! ## list(range(..)) -/
def fRgL (a b : Int) : Option TV := if (small a && small b && decide ((b - a).toNat ≤ 16777216)) = true then some ⟨.own, true, .lst ((List.range (b - a).toNat).map fun (i : Nat) => .int (a + (i : Int)))⟩ else none
def fRg1 (t : TV) : Option TV := t.d.asI.bind fun n => fRgL 0 n
def fRg2 (t u : TV) : Option TV := t.d.asI.bind fun a => u.d.asI.bind fun b => fRgL a b
theorem rg_rep {a b : Int} : RepL Γ F ((List.range (b - a).toNat).map fun (i : Nat) => D.int (a + (i : Int))) (rgV a b) := by
  unfold rgV
  generalize (b - a).toNat = n
  have z := repL_ints (Γ := Γ) (F := F) ((List.range n).map fun (i : Nat) => a + (i : Int))
  rw [List.map_map, List.map_map] at z
  exact z
theorem fRgL_ok {a b : Int} {t : TV} (h : fRgL a b = some t) : RgOk a b ∧ t = ⟨.own, true, .lst ((List.range (b - a).toNat).map fun (i : Nat) => .int (a + (i : Int)))⟩ := by
  unfold fRgL at h
  by_cases c : (small a && small b && decide ((b - a).toNat ≤ 16777216)) = true
  · rw [if_pos c] at h
    have c1 := small_of (and1 (and1 c))
    have c2 := small_of (and2 (and1 c))
    have c3 := of_decide_eq_true (and2 c)
    exact ⟨⟨c1.1, c1.2, c2.1, c2.2, c3⟩, (Option.some.inj h).symm⟩
  · rw [if_neg c] at h
    cases h
theorem te_rg1 {ma : ME} {H : Hp} {Q : VK} (h : teOf Γ W (mUn fRg1 ma) σ H Q) : tLstRg (tRg1 (teOf Γ W ma)) σ H Q := by
  obtain ⟨B, A, F, τ, ds, st, hl, s, q⟩ := h
  refine te_in (τ := τ) (ds := ds) eP.mono hl (fun _ _ _ s => s) s q fun t st1 v H1 F1 f1 s1 q1 => ?_
  obtain ⟨t3, e3, q3⟩ := rPost.ofO q1
  obtain ⟨n, e1, e2⟩ := Option.bind_eq_some_iff.mp e3
  obtain ⟨k, fr, d⟩ := t
  have ed : d = .int n := asI_of e1
  subst ed
  obtain ⟨h1, h2⟩ := fRgL_ok e2
  subst h2
  exact ⟨n, s1.top.int, h1, fun p hp => q3 _ _ F1 (Same.refl _) (s1.pop.alloc hp rg_rep)⟩
theorem te_rg2 {ma mb : ME} {H : Hp} {Q : VK} (h : teOf Γ W (mBin fRg2 ma mb) σ H Q) : tLstRg (tRg2 (teOf Γ W ma) (teOf Γ W mb)) σ H Q := by
  obtain ⟨B, A, F, τ, ds, st, hl, s, q⟩ := h
  refine te_in (τ := τ) (ds := ds) eP.mono hl (fun _ _ _ s => s) s q fun t st1 v H1 F1 f1 s1 q1 => ?_
  refine te_in (τ := τ) (ds := ds) (τ' := some v :: τ) (ds' := some t :: ds) eP.mono (by simpa using hl) (fun _ _ _ s => s.pop) s1 q1 fun t2 st2 v2 H2 F2 f2 s2 q2 => ?_
  obtain ⟨t3, e3, q3⟩ := rPost.ofO q2
  obtain ⟨a, e1, e2⟩ := Option.bind_eq_some_iff.mp e3
  obtain ⟨b, e4, e5⟩ := Option.bind_eq_some_iff.mp e2
  obtain ⟨k, fr, d⟩ := t
  obtain ⟨k2, fr2, d2⟩ := t2
  have ed : d = .int a := asI_of e1
  have ed2 : d2 = .int b := asI_of e4
  subst ed
  subst ed2
  obtain ⟨h1, h2⟩ := fRgL_ok e5
  subst h2
  exact ⟨a, b, s2.pop.top.int, s2.top.int, h1, fun p hp => q3 _ _ F2 (Same.refl _) (s2.pop.pop.alloc hp rg_rep)⟩
section
variable {X : Cx} {a b : Expr} {ma mb : ME} {p p2 pos pos2 : Pos} {x : Str}
theorem qe_lrg1 (hc : X.calm = true) (hl : Gl X "list") (ml : X.mg "list" = none) (hg : Gl X "range") (hm : X.mg "range" = none) (ha : PE X a (teOf Γ W ma)) (na : starEach [a] X.env = (false, eval a X.env) :: starEach [] X.env := by rfl)
    (nr : starEach [.Call (.Name "range" p) [a] [] pos] X.env = (false, eval (.Call (.Name "range" p) [a] [] pos) X.env) :: starEach [] X.env := by rfl) : PE X (.Call (.Name "list" p2) [.Call (.Name "range" p) [a] [] pos] [] pos2) (teOf Γ W (mUn fRg1 ma)) :=
  pe_imp (pe_listRg hc hl ml (prg_1 hg hm ha na) nr) fun _ _ _ => te_rg1
end
/-- a module's int -/
theorem qe_gint {X : Cx} {x : Str} {i : Int} {pos : Pos} (ft : Fit Γ W X) (hg : Gl X x) (h : ∃ t, Γ.mg x = some (.int i t)) (hd : (x == ("__debug__" : Str)) = false := by decide) : PE X (.Name x pos) (teOf Γ W (mC (.i i))) := by
  obtain ⟨t, h⟩ := h
  exact pe_imp (pe_glob (v := .int i) hg (by rw [ft.mg]; exact h) ⟨t, rfl⟩ hd) fun _ _ _ h => te_const (fun _ _ _ => ent_i) (by intro z; cases z) h
end
end Dl

namespace Dl
open PySem PySem.Spec PyProof.Rows L2
section
variable {Γ : Gm} {W : WX} {B F F' H H' : Hp} {A : Ao} {τ τ' : List (Option V)} {ds ds' : Sta} {σ : L2.St} {st : Sta} {X : Cx} {i : Nat} {tg iter : Expr} {pos p p2 : Pos} {mi : MI} {ta : MT} {me : ME} {ms : MA}
/-- fuel of a while -/
def fuel0 : Nat := 1000000000
/-- x = [.. for ..], shared from then on -/
theorem qs_setCompF {y : Str} {elt : Expr} {ifs : List Expr} {scope : Scope} {own : List (Str × Nat)} {g : TG} {f : TV → Sta → Option Sta} {py spos : Pos} (tw : TgW Γ g f (own.map (·.2))) (hc : X.calm = true) (hN : X.N.Nodup) (hy : X.N[i]? = some y) (hyl : X.env.scope.names.lookup y = some .local)
    (hsw : swapsWith (.ListComp elt [⟨tg, iter, ifs, 0⟩] scope pos) (some (.Name y py)) spos.line X.env = pure true) (hi : PI X tg iter (tiOf Γ W mi)) (ok : BlkOk X.N X.env.scope scope own)
    (hg : ∀ (s : Shared) (H : Hp) (C : Addr) (cl : List (Str × Addr)) (fp : List Addr), PG (X.blk s H scope (compEnvC scope cl C X.env) fp) tg g) (ht : ∀ (s : Shared) (H : Hp) (C : Addr) (cl : List (Str × Addr)) (fp : List Addr), PTs (X.blk s H scope (compEnvC scope cl C X.env) fp) ifs (ttOf Γ W0 ta))
    (he : ∀ (s : Shared) (H : Hp) (C : Addr) (cl : List (Str × Addr)) (fp : List Addr), PE (X.blk s H scope (compEnvC scope cl C X.env) fp) elt (teOf Γ W0 me)) (hs : ∀ x, foldedSetIterable iter X.env x = pure x := by intro _; rfl) :
    PS X (.Assign [.Name y py] (.ListComp elt [⟨tg, iter, ifs, 0⟩] scope pos) spos) (msOf Γ W (mSet i (mFz (mComp f mi ta me (own.map (·.2)))))) :=
  ps_imp (ps_setLc hc hN hy hyl hsw hi ok hg ht he hs) fun D σ H h => by
    obtain ⟨B, A, F, τ, ds, st, hl, nb, s, q⟩ := h
    refine te_comp tw (te_fz ?_)
    refine se_in (τ := τ) (ds := ds) sP.mono hl (fun _ _ _ _ s => s) s q fun t st1 v H1 F1 f1 s1 q1 => ?_
    obtain ⟨k, fr, d⟩ := t
    cases k with
    | bor => exact q1.elim
    | frz => exact q1 _ H1 F1 (Same.refl _) (s1.store_at hl i)
    | old => exact q1 _ H1 F1 (Same.refl _) (s1.store_at hl i)
    | own => exact q1 _ H1 F1 (Same.refl _) (s1.store_at hl i)
/-! ## zip, enumerate walked -/
theorem qi_zip {e e2 : Expr} {tpos : Pos} {elts : List Expr} {kk : Nat} (hK : X.K = Γ.K) (hg : Gl X "zip") (hm : X.mg "zip" = none) (h : PA X [e, e2] (taOf Γ W ms)) (hs : starEach [e, e2] X.env = (false, eval e X.env) :: starEach [e2] X.env := by rfl)
    (hpl : (backTo pos (starEach [e2] X.env)).any (·.1) = false := by rfl) : PI X (.Tuple elts kk tpos) (.Call (.Name "zip" p) [e, e2] [] pos) (tiOf Γ W (mZip ms)) :=
  pi_imp (pi_zip hg hm h hs hpl) fun _ _ _ q => by rw [hK]; exact te_zip q
def fEnum (ts : List TV) : Option (List TV) := match ts with
  | [t] => (fL t).bind fun a => some (enumD a.1 a.2)
  | _ => none
def mEnum (m : MA) : MI := mIA fEnum m
theorem te_enum {m : MA} {H : Hp} {R : It → Hp → Prop} (h : tiOf Γ W (mEnum m) σ H R) : iEnum Γ.K (taOf Γ W m) σ H R := by
  obtain ⟨B, A, F, τ, ds, st, hl, s, q⟩ := h
  refine ta_in (τ := τ) (ds := ds) iP.mono hl (fun _ _ _ s => s) s q fun ts st1 vs H1 F1 hlen f1 s1 q1 => ?_
  obtain ⟨its, e1, q1⟩ := rPost.ofO q1
  match ts, vs, hlen, e1 with
  | [t], [v], hlen, e1 =>
    have e1 : (fL t).bind (fun a => some (enumD a.1 a.2)) = some its := e1
    obtain ⟨⟨fa, xs⟩, e3, e1⟩ := Option.bind_eq_some_iff.mp e1
    cases e1
    have ea := fL_of e3
    subst ea
    have s2 : SR Γ B A F1 H1 (some v :: (τ ++ σ)) (some ⟨.frz, fa, .lst xs⟩ :: (ds ++ st1)) := s1
    have r1 : Rep Γ (sel fa B F1) (.lst xs) v := s2.top
    simp only [Rep] at r1
    obtain ⟨p, us, h1, h2, h3⟩ := r1
    subst h1
    exact ⟨p, us, rfl, SqL.of (s1.fh _ _ (sel_same _ _ h2)), q1 _ H1 F1 _ (Same.refl _) s2.pop ⟨SqL.of (sel_same _ _ h2), h3⟩ sqInv.mono walk_enum⟩
theorem qi_enum {e : Expr} {tpos : Pos} {elts : List Expr} {kk : Nat} (hK : X.K = Γ.K) (hg : Gl X "enumerate") (hm : X.mg "enumerate" = none) (h : PA X [e] (taOf Γ W ms)) (hs : starEach [e] X.env = [(false, eval e X.env)] := by rfl) :
    PI X (.Tuple elts kk tpos) (.Call (.Name "enumerate" p) [e] [] pos) (tiOf Γ W (mEnum ms)) :=
  pi_imp (pi_enum hg hm h hs) fun _ _ _ q => by rw [hK]; exact te_enum q
end
/-! ## the head -/
abbrev AlB : Type := He.AlD × Bool
def obsB (fa : List He.Fa) (fn : List He.DefD) (ex : PySem.W.Frag → Bool) (K : PySem.W.Frag) : AlB := (He.obsD fa fn K, ex K)
def obsBG (n : Nat) (fa : List He.Fa) (fn : List He.DefD) (ex : PySem.W.Frag → Bool) (g : Addr → Option Obj) : AlB := obsB fa fn ex (He.frG g (He.asD g n))
def hookB (n : Nat) (fa : List He.Fa) (fn : List He.DefD) (ex : PySem.W.Frag → Bool) : PySem.W.Hook where
  α := AlB
  obs := fun z => obsBG n fa fn ex z.heap.get?
  val := fun _ => (He.valD fn, true)
  says := fun _ h => ∃ K : PySem.W.Frag, K.In h ∧ (He.SaysD fa fn K ∧ ex K = true)
  of := fun _ _ e => ⟨_, He.frG_in, congrArg (fun z : AlB => z.1) e, congrArg (fun z : AlB => z.2) e⟩
  keeps := fun _ _ _ ⟨K, hK, c⟩ k => ⟨K, hK.keeps k, c⟩
theorem obsBG_eq {n : Nat} {fa : List He.Fa} {fn : List He.DefD} {ex : PySem.W.Frag → Bool} {g : Addr → Option Obj} {z : Shared} (h : ∀ a, g a = z.heap.get? a) : obsBG n fa fn ex g = (hookB n fa fn ex).obs z := by
  have e : g = z.heap.get? := funext h
  rw [e] <;> rfl
theorem tupAt_ok {K : PySem.W.Frag} {a : Addr} {ns : List Int} (h : tupAt K a ns = true) (H : Hp) : SqT K H a (ns.map V.int) := by
  unfold tupAt at h
  split at h
  · rename_i c od its n osl q
    obtain ⟨h1, h2⟩ := He.ba h
    obtain ⟨h3, h4⟩ := He.ba h2
    have h1 := of_decide_eq_true h1
    subst h1
    exact .inr ⟨_, its, n, q, rfl, rfl, of_decide_eq_true h3, He.relAll_ok h4⟩
  · cases h
theorem tupAt_rep {K : PySem.W.Frag} {mg : Str → Option Value} {a : Addr} {ns : List Int} {F : Hp} (h : tupAt K a ns = true) : Rep ⟨K, mg⟩ F (.tup (ns.map D.int)) (.ref a) := by
  simp only [Rep]
  exact ⟨a, _, rfl, tupAt_ok h F, repL_ints ns⟩
section
variable {P : Program} {w : World} {K : PySem.W.Frag} {mg : Str → Option Value} {base : Heap} {x qual : Str} {params : Arguments} {body : List Stmt} {scope : Scope} {dvs : List V} {f C : Addr} {fd : FuncData} {N ps : List Str} {m : MS} {k : Nat} {c : Cl}
/-- a class whose __init__ has defaults: n values written, the defaults from the j-th on fill up -/
theorem makeOk_j (n j : Nat) {dd : List D} (Fd : FunD K x qual params body scope dvs [] f fd) (hd : dvs ≠ []) (hn : n + (dvs.length - j) = (("self" : Str) :: ps).length) (hr : ∀ F : Hp, RepL ⟨K, mg⟩ F dd (dvs.drop j)) (gc : mg c.name = some (.ref C)) (mk : Mk K C f) (S : FnScope N ("self" :: ps) scope) (hN : ps.length + 1 ≤ N.length)
    (h : ∀ (T : Addr) (kV doc pm : Value) (an : Option Addr) (cdv ct : Value) (us its : List Value), us.length = n → its.length = dvs.length →
      ∃ kk, bindArgs (PySem.W.fnOf x qual params body scope (.ref T) kV doc pm an cdv ct) ⟨us, []⟩ = seqItems? (.ref T) >>= kk ∧ kk (some its.toArray) = pure ((("self" : Str) :: ps).zip (us ++ its.drop j)))
    (b : BodyOk P w K mg base k N qual scope body m) : MakeOk ⟨K, mg⟩ P w base (k + 1) c ps dd (runI N.length c m) := by
  obtain ⟨dus, hv, hb⟩ := Fd.binds1 (ps := ("self" : Str) :: ps) n j hd hn h
  exact ⟨C, f, fd, dvs.drop j, dus, gc, mk, hb, hv, hr, Fd.ok S (fun vs H Q E h => by
    obtain ⟨B, A, p, C, dx, us, ds, e, hl, _⟩ := h
    rw [e, List.length_cons, hl]
    rfl) fun cdv A outer s H vs Q E hr h => ⟨_, b f cdv A outer s H E hr, init_run hN h⟩⟩
end
end Dl
namespace Dl
open PySem PySem.Spec PyProof.Rows L2
/-! ## the end: what is let out, of any world -/
def CXw (P : Program) : CXT := fun outer H z E e z' => ∃ w : World, L2.CX P w outer H z E e z'
theorem fnOk_w {P : Program} {w : World} {K : PySem.W.Frag} {mg : Str → Option Value} {base : Heap} {k : Nat} {f : Addr} {fd : FuncData} {ps : List Str} {sp : Sp} (F : FnOk P w K mg base (L2.CX P w) k f fd ps sp) : FnOk P w K mg base (CXw P) k f fd ps sp :=
  ⟨F.len, fun A outer z H args us vs Q E hr e0 hb r hs => codeAny_mono (F.run A outer z H args us vs Q E hr e0 hb r hs) fun r z' hq => by
    cases r with
    | error e => exact ⟨w, hq⟩
    | ok fl => cases fl <;> exact hq⟩
theorem cxw_no {P : Program} {H : Hp} {z : Shared} {e : Value} {z' : Shared} (q : CXw P [] H z (fun _ _ _ => False) e z') : False := by
  obtain ⟨w, a, B, H', cls, d, h1, h2, h3, h4, h5, h6, h7, h8⟩ := q
  exact h8
end Dl

namespace Dl
open PySem PySem.Spec PyProof.Rows L2
section
variable {Γ : Gm} {W : WX} {B F F' H H' : Hp} {A : Ao} {τ τ' : List (Option V)} {ds ds' : Sta} {σ : L2.St} {st : Sta}
/-! ## try .. except -/
/-- what comes out whatever address the exception has -/
noncomputable def allA {α : Type} (f : Addr → Res α) : Res α := open Classical in if h : ∃ r, ∀ a, f a = r then h.choose else .stuck
theorem allA_e {α : Type} {r : Res α} : allA (fun _ => r) = r := by
  unfold allA
  have h : ∃ r', ∀ _ : Addr, r = r' := ⟨r, fun _ => rfl⟩
  rw [dif_pos h]
  exact (h.choose_spec 0).symm
theorem allA_of {α : Type} {f : Addr → Res α} {r : Res α} (h : ∀ a, f a = r) : allA f = r := by
  rw [show f = fun _ => r from funext h]
  exact allA_e
def noErr {α : Type} (r : Res α) : Res α := match r with
  | .err _ _ => .stuck
  | r => r
theorem sPost.noErr {α : Type} {P : α → Sta → Hp → Prop} {r : Res (α × Sta)} (h : sPost Γ W B A τ ds P F (noErr r)) : sPost Γ W0 B A τ ds P F r := by
  cases r with
  | ok p => exact h
  | err c st' => exact h.elim
  | stuck => exact h
theorem sPost.allA {α : Type} {P : α → Sta → Hp → Prop} {f : Addr → Res (α × Sta)} (h : sPost Γ W B A τ ds P F (allA f)) (a : Addr) : sPost Γ W B A τ ds P F (f a) := by
  unfold Dl.allA at h
  by_cases c : ∃ r, ∀ a, f a = r
  · rw [dif_pos c] at h
    rw [c.choose_spec a]
    exact h
  · rw [dif_neg c] at h
    exact h.elim
/-- which classes stand under the class value cv -/
def SubOk (Γ : Gm) (sub : Str → Option Bool) (cv : Value) : Prop := ∀ c b C, sub c = some b → Γ.mg c = some (.ref C) → PySem.W.exmOne Γ.K (.ref C) cv = some b
/-- how the name's place sees the exception -/
def excD (c : Ec) (a dd : Addr) : TV := match c.x with
  | none => ⟨.frz, true, .exc c.n a⟩
  | some (fr, ns, ds) => ⟨.frz, fr, .xcp c.n a dd ns ds⟩
/-- the exception's dict -/
def Ec.dict (c : Ec) (dd : Addr) : Option Addr := match c.x with
  | none => none
  | some _ => some dd
def tsOf (Γ : Gm) (suite : Ec → Addr → Addr → MS) (a : Addr) (cls : Value) (d : Option Addr) : TS := fun D σ H => ∃ c C dd, cls = .ref C ∧ d = c.dict dd ∧ Γ.mg c.n = some (.ref C) ∧ msOf Γ W0 (suite c a dd) D σ H
/-- .. as x: the name's place bears the exception while the suite runs -/
def mAs (i : Nat) (suite : Ec → Addr → Addr → MS) (c : Ec) (a dd : Addr) : MS := fun st => (suite c a dd (setS st i (some (excD c a dd)))).bind fun p => .ok (p.1, setS p.2 i none)
theorem SR.wipe1 (hl : τ.length = ds.length) {i : Nat} (s : SR Γ B A F H (τ ++ σ) (ds ++ st)) : SR Γ B A F H (τ ++ σ.set i none) (ds ++ setS st i none) := by
  have s1 := SR.wipeE (vs := [i]) s
  exact SR.wipeV (vs := [i]) hl s1 (wipe_set_in (vs := [i]) (by simp)).symm
theorem excD_ent {c : Ec} {a dd : Addr} {d : Option Addr} (y : Pay Γ B F c d) (e : d = c.dict dd) : Ent Γ B F H (excD c a dd) (.ref a) := by
  unfold excD
  unfold Pay at y
  unfold Ec.dict at e
  cases ex : c.x with
  | none =>
    show Rep Γ (sel true B F) (.exc c.n a) (.ref a)
    simp only [Rep]
  | some q =>
    obtain ⟨fr, ns, ds⟩ := q
    simp only [ex] at y e ⊢
    obtain ⟨dd', vs, h1, h2, h3, h4, h5⟩ := y
    rw [e] at h1
    cases h1
    show Rep Γ (sel fr B F) (.xcp c.n a dd ns ds) _
    simp only [Rep]
    refine ⟨trivial, vs, ?_, h4, h5⟩
    cases fr with
    | true =>
      show minus F B dd = _
      unfold minus
      rw [h3]
      exact h2
    | false => exact h2
theorem excD_frz {c : Ec} {a dd : Addr} : (excD c a dd).k = .frz := by
  unfold excD
  cases c.x with
  | none => rfl
  | some q => obtain ⟨fr, ns, ds⟩ := q; rfl
theorem se_as {i : Nat} {suite : Ec → Addr → Addr → MS} {c : Ec} {a dd : Addr} {D : Ends} {d : Option Addr} (hl : τ.length = ds.length) (nb : noBor ds) (s : SR Γ B A F H (τ ++ σ) (ds ++ st)) (y : Pay Γ B F c d) (e : d = c.dict dd) (q : sPost Γ W B A τ ds (sP Γ B A τ ds D) F (mAs i suite c a dd st)) :
    msOf Γ W (suite c a dd) { nx := fun σ' H' => D.nx (σ'.set i none) H', rt := D.rt, bk := fun σ' H' => D.bk (σ'.set i none) H', ct := fun σ' H' => D.ct (σ'.set i none) H' } (σ.set i (some (.ref a))) H := by
  have s1 : SR Γ B A F H (some (.ref a) :: (τ ++ σ)) (some (excD c a dd) :: (ds ++ st)) := s.push (excD_ent y e) (by rw [excD_frz]; intro z; cases z)
  refine ⟨B, A, F, τ, ds, setS st i (some (excD c a dd)), hl, nb, s1.store_at hl i, ?_⟩
  have q : sPost Γ W B A τ ds (sP Γ B A τ ds D) F ((suite c a dd (setS st i (some (excD c a dd)))).bind fun p => .ok (p.1, setS p.2 i none)) := q
  cases e : suite c a dd (setS st i (some (excD c a dd))) with
  | stuck => rw [e] at q; exact q
  | err c2 st2 => rw [e] at q; exact q
  | ok p =>
    obtain ⟨ct, st2⟩ := p
    rw [e] at q
    cases ct with
    | next => exact fun σ' H' F' f s2 => q _ H' F' f (SR.wipe1 hl s2)
    | brk => exact fun σ' H' F' f s2 => q _ H' F' f (SR.wipe1 hl s2)
    | cont => exact fun σ' H' F' f s2 => q _ H' F' f (SR.wipe1 hl s2)
    | ret t => exact ⟨q.1, fun v σ' H' F' f s2 => q.2 v _ H' F' f (SR.wipe1 (τ := some v :: τ) (ds := some t :: ds) (by simpa using hl) s2)⟩
/-! ### the derivations -/
theorem Fit.tr {X : Cx} (f : Fit Γ W X) {W' : WX} {pn : List (Addr × Obj)} {xe : Value → Shared → Prop} (tk : Takes (X.tr pn xe) W') : Fit Γ W' (X.tr pn xe) := ⟨f.K, f.mg, tk⟩
theorem Fit.suite {X : Cx} (f : Fit Γ W X) {a : Addr} {pn : List (Addr × Obj)} : Fit Γ W0 (X.suite a pn) := ⟨f.K, f.mg, fun u s' h => by
  obtain ⟨_, _, _, _, _, _, _, _, _, _, _, _, _, _, _, _, w⟩ := h
  exact w.elim⟩
/-! ### isinstance(e, c) in a suite -/
def exN : D → Option (Str × Addr × Option Addr)
  | .exc c a => some (c, a, none)
  | .xcp c a dd _ _ => some (c, a, some dd)
  | _ => none
def mIsE (c : Ec) (a dd : Addr) (sub : Str → Option Bool) (m : ME) : ME := fun st => (m st).bind fun p => if exN p.1.d = some (c.n, a, c.dict dd) then ofO ((sub c.n).map TV.b) p.2 else .stuck
/-- .. of the classes that sub knows -/
def IsOk (Γ : Gm) (sub : Str → Option Bool) (cv : Value) : Prop := ∀ c b C, sub c = some b → Γ.mg c = some (.ref C) → ExcC Γ.K C ∧ PySem.W.kitOne Γ.K (.ref C) cv = some b
/-- isinstance(e, c), e the exception that the suite holds, its dict at d -/
def rIsED (K : PySem.W.Frag) (D a : Addr) (d : Option Addr) : List V → Hp → VK → Prop := fun xs H Q => ∃ (c : V) (cv : Value) (b : Bool), xs = [.ref a, c] ∧ (∀ u, RelV c u → u = cv) ∧ PySem.W.kitOne K (.ref D) cv = some b ∧ (∀ dd, d = some dd → ∃ fs, H dd = some (.xd fs)) ∧ Q (.bl b) H
theorem call_isED {X : Cx} {a D : Addr} {d : Option Addr} {oe : Obj} {pn : List (Addr × Obj)} (C : ExcC X.K D) (hz : Zc (.ref D) d oe) (hf : ∃ vs, oe.data = .fields vs) : CallR (X.suite a ((a, oe) :: pn)) (.builtin "isinstance") (rIsED X.K D a d) := by
  intro pins s σ H xs us Q I r h
  obtain ⟨c, cv, b, rfl, hcv, e, hd, q⟩ := h
  cases r with
  | cons rx rr =>
    cases rr with
    | cons rt rr =>
      cases rr
      cases rx
      have ec := hcv _ rt
      subst ec
      obtain ⟨hget, _⟩ := I.pin (a, oe) (List.mem_append.mpr (.inl List.mem_cons_self))
      obtain ⟨vs, hv⟩ := hf
      have hcl : (PySem.W.clsIn X.K D).isSome = true := by
        obtain ⟨cd, hc, _⟩ := PySem.W.any_some C.hd
        rw [hc]
        rfl
      have J : ∃ od, PySem.W.InstAt s.heap a oe D od := by
        cases d with
        | none =>
          obtain ⟨oc, od, oda, osl⟩ := oe
          obtain ⟨h1, h2⟩ := hz
          dsimp only at h1 h2 hv
          subst h1 h2 hv
          exact ⟨none, hget, rfl, rfl, trivial⟩
        | some dd =>
          obtain ⟨fs, hdd⟩ := hd dd rfl
          have hx : ObjOk X.prog X.w H s.heap dd (.xd fs) := I.hok dd _ hdd
          obtain ⟨mA, hns, hr⟩ := hx
          obtain ⟨od, ho, hl⟩ := lookIn_ns hns
          exact ⟨some od, hget, hz.1, by unfold PySem.W.notCls; rw [hv] <;> rfl, by rw [hz.2]; exact ho⟩
      obtain ⟨od, J⟩ := J
      exact PySem.W.kia_one (PySem.W.kitx_exc hcl C.hg C.hk C.hs C.ha C.hn C.ht C.hm) I.kIn J e (fun z => nomatch z) fun tk => ⟨.bl b, H, I.kept (t' := tk) fun _ _ z => z, rfl, q⟩
theorem te_isE {c : Ec} {a dd C : Addr} {sub : Str → Option Bool} {m : ME} {v : V} {cv : Value} {H : Hp} {Q : VK} (hk : ∀ b, sub c.n = some b → PySem.W.kitOne Γ.K (.ref C) cv = some b) (hv : ∀ u, RelV v u → u = cv) (h : teOf Γ W (mIsE c a dd sub m) σ H Q) :
    tCB (rIsED Γ.K C a (c.dict dd)) (tCons (teOf Γ W m) (tCons (tC v) tNil)) σ H Q := by
  obtain ⟨B, A, F, τ, ds, st, hl, s, q⟩ := h
  refine te_in (τ := τ) (ds := ds) eP.mono hl (fun _ _ _ s => s) s q fun t st1 v1 H1 F1 f1 s1 q1 => ?_
  obtain ⟨k, fr, d⟩ := t
  have q5 : rPost Γ W B A τ ds σ (eP Γ B A τ ds σ Q) F1 (if exN d = some (c.n, a, c.dict dd) then ofO ((sub c.n).map TV.b) st1 else .stuck) := q1
  by_cases hc : exN d = some (c.n, a, c.dict dd)
  · rw [if_pos hc] at q5
    obtain ⟨t3, e3, q3⟩ := rPost.ofO q5
    obtain ⟨b, e4, e5⟩ := Option.map_eq_some_iff.mp e3
    subst e5
    have r : Rep Γ H1 d v1 := s1.top.rep s1.fh
    have ev : v1 = .ref a ∧ ∀ x, c.dict dd = some x → ∃ fs, H1 x = some (.xd fs) := by
      cases d with
      | exc c' a' =>
        have hc : some (c', a', (none : Option Addr)) = some (c.n, a, c.dict dd) := hc
        simp only [Option.some.injEq, Prod.mk.injEq] at hc
        obtain ⟨h1, h2, h3⟩ := hc
        simp only [Rep] at r
        exact ⟨by rw [r, h2], fun x hx => by rw [← h3] at hx; cases hx⟩
      | xcp c' a' dd' ns xs =>
        have hc : some (c', a', some dd') = some (c.n, a, c.dict dd) := hc
        simp only [Option.some.injEq, Prod.mk.injEq] at hc
        obtain ⟨h1, h2, h3⟩ := hc
        simp only [Rep] at r
        obtain ⟨r1, vs, r2, _⟩ := r
        exact ⟨by rw [r1, h2], fun x hx => by rw [← h3] at hx; cases hx; exact ⟨_, r2⟩⟩
      | _ => cases hc
    obtain ⟨ev, hd⟩ := ev
    subst ev
    exact ⟨v, cv, b, rfl, hv, hk b e4, hd, q3 _ H1 F1 (Same.refl _) (s1.pop.push ent_b (by intro z; cases z))⟩
  · rw [if_neg hc] at q5
    exact q5.elim
theorem te_isE_none {c : Ec} {a dd : Addr} {sub : Str → Option Bool} {i : Nat} {H : Hp} {Q : VK} (e : sub c.n = none) (h : teOf Γ W (mIsE c a dd sub (mVB i)) σ H Q) : False := by
  obtain ⟨B, A, F, τ, ds, st, hl, s, q⟩ := h
  have q : rPost Γ W B A τ ds σ (eP Γ B A τ ds σ Q) F ((mVB i st).bind fun p => if exN p.1.d = some (c.n, a, c.dict dd) then ofO ((sub c.n).map TV.b) p.2 else .stuck) := q
  have key : ∀ o : Option TV, rPost Γ W B A τ ds σ (eP Γ B A τ ds σ Q) F ((ofO o st).bind fun p => if exN p.1.d = some (c.n, a, c.dict dd) then ofO ((sub c.n).map TV.b) p.2 else .stuck) → False := fun o q => by
    cases o with
    | none => exact q
    | some t =>
      rw [e] at q
      have q2 : rPost Γ W B A τ ds σ (eP Γ B A τ ds σ Q) F (if exN t.d = some (c.n, a, c.dict dd) then ofO ((none : Option Bool).map TV.b) st else .stuck) := q
      by_cases hc : exN t.d = some (c.n, a, c.dict dd)
      · rw [if_pos hc] at q2
        exact q2
      · rw [if_neg hc] at q2
        exact q2
  unfold mVB at q
  cases e2 : getS st i with
  | none => rw [e2] at q; exact q
  | some t => rw [e2] at q; exact key _ q
section
variable {X : Cx} {a dd C : Addr} {oe : Obj} {i : Nat} {z : Str} {p5 : Pos} {pn : List (Addr × Obj)} {c : Ec} {y : Str} {e : Expr} {sub : Str → Option Bool} {m : ME} {p p2 pos : Pos}
/-- isinstance(e, Y), Y a class of the module -/
theorem qe_isE {Cy : Addr} (ft : Fit Γ W0 (X.suite a ((a, oe) :: pn))) (g : Γ.mg c.n = some (.ref C)) (hz : Zc (.ref C) (c.dict dd) oe) (hf : ∃ vs, oe.data = .fields vs) (hs : IsOk Γ sub (.ref Cy)) (hg : Gl X "isinstance") (hm : X.mg "isinstance" = none) (hgy : Gl X y) (hmy : Γ.mg y = some (.ref Cy))
    (ha : PE (X.suite a ((a, oe) :: pn)) (.Name z p5) (teOf Γ W0 (mVB i))) (hdb : (y == ("__debug__" : Str)) = false := by decide) (he : starEach [.Name z p5, .Name y p2] X.env = (false, eval (.Name z p5) X.env) :: starEach [.Name y p2] X.env := by rfl) (he2 : starEach [.Name y p2] X.env = (false, eval (.Name y p2) X.env) :: starEach [] X.env := by rfl)
    (hpl : (backTo pos (starEach [.Name y p2] X.env)).any (·.1) = false := by rfl) : PE (X.suite a ((a, oe) :: pn)) (.Call (.Name "isinstance" p) [.Name z p5, .Name y p2] [] pos) (teOf Γ W0 (mIsE c a dd sub (mVB i))) := by
  by_cases hd : sub c.n = none
  · exact ⟨fun pins s σ H Q I h => (te_isE_none hd h).elim⟩
  obtain ⟨b, hb⟩ := Option.ne_none_iff_exists'.mp hd
  have hx := (hs c.n b C hb g).1
  have eK : X.K = Γ.K := ft.K
  have em : X.mg = Γ.mg := ft.mg
  refine pe_imp (pe_callB (call_isED (by rw [eK]; exact hx) hz hf) hg hm (by decide +kernel) (pa_cons ha (pa_cons (pe_glob (v := .ref Cy) hgy (by show X.mg y = _; rw [em]; exact hmy) rfl hdb) pa_nil he2) he) (by decide) (by decide) he hpl) fun _ _ _ h => ?_
  show tCB (rIsED X.K C a (c.dict dd)) _ _ _ _
  rw [eK]
  exact te_isE (fun b hb => (hs c.n b C hb g).2) (fun u hu => hu) h
/-- .. a built-in class -/
theorem qe_isEb {T : String} (ft : Fit Γ W0 (X.suite a ((a, oe) :: pn))) (g : Γ.mg c.n = some (.ref C)) (hz : Zc (.ref C) (c.dict dd) oe) (hf : ∃ vs, oe.data = .fields vs) (hs : IsOk Γ sub (.type T)) (hg : Gl X "isinstance") (hm : X.mg "isinstance" = none) (hgy : Gl X y) (hmy : X.mg y = none) (hvy : bootBuiltins y = some (.type T))
    (ha : PE (X.suite a ((a, oe) :: pn)) (.Name z p5) (teOf Γ W0 (mVB i))) (hn : y ≠ "__name__" := by decide) (hdb : (y == ("__debug__" : Str)) = false := by decide) (he : starEach [.Name z p5, .Name y p2] X.env = (false, eval (.Name z p5) X.env) :: starEach [.Name y p2] X.env := by rfl) (he2 : starEach [.Name y p2] X.env = (false, eval (.Name y p2) X.env) :: starEach [] X.env := by rfl)
    (hpl : (backTo pos (starEach [.Name y p2] X.env)).any (·.1) = false := by rfl) : PE (X.suite a ((a, oe) :: pn)) (.Call (.Name "isinstance" p) [.Name z p5, .Name y p2] [] pos) (teOf Γ W0 (mIsE c a dd sub (mVB i))) := by
  by_cases hd : sub c.n = none
  · exact ⟨fun pins s σ H Q I h => (te_isE_none hd h).elim⟩
  obtain ⟨b, hb⟩ := Option.ne_none_iff_exists'.mp hd
  have hx := (hs c.n b C hb g).1
  have eK : X.K = Γ.K := ft.K
  refine pe_imp (pe_callB (call_isED (by rw [eK]; exact hx) hz hf) hg hm (by decide +kernel) (pa_cons ha (pa_cons (pe_bltn (v := .ty T) hgy hmy hvy rfl hn hdb) pa_nil he2) he) (by decide) (by decide) he hpl) fun _ _ _ h => ?_
  show tCB (rIsED X.K C a (c.dict dd)) _ _ _ _
  rw [eK]
  exact te_isE (fun b hb => (hs c.n b C hb g).2) (fun u hu => hu) h
end
end
end Dl

namespace Dl
open PySem PySem.Spec PyProof.Rows L2
/-! ## classes of exceptions: from the head -/
def subT (l : List (Str × Bool)) (c : Str) : Option Bool := l.lookup c
theorem excCB_ok {K : PySem.W.Frag} {D : Addr} (h : excCB K D = true) : ExcC K D := by
  obtain ⟨h1, h2, h3, h4, h5, h6, h7, h8⟩ := of_decide_eq_true h
  exact ⟨h1, h2, h3, h4, h5, h6, h7, h8⟩
theorem lookup_mem {l : List (Str × Bool)} {c : Str} {b : Bool} (h : l.lookup c = some b) : (c, b) ∈ l := by
  induction l with
  | nil => cases h
  | cons p l ih =>
    obtain ⟨k, v⟩ := p
    rw [List.lookup_cons] at h
    cases e : (c == k) with
    | true =>
      rw [e] at h
      have ev : v = b := Option.some.inj h
      subst ev
      rw [beq_iff_eq.mp e]
      exact List.mem_cons_self ..
    | false =>
      rw [e] at h
      exact List.mem_cons_of_mem _ (ih h)
section
variable {K : PySem.W.Frag} {h : Heap} {mg : Str → Option Value} {y : Value} {l : List (Str × Bool)}
theorem subOk_of (X : K.In h) (G : h.Ns mainGlobals mg) (e : exmAll K y l = true) : SubOk ⟨K, mg⟩ (subT l) y := fun c b C hc hC => by
  obtain ⟨h1, h2⟩ := He.ba (List.all_eq_true.mp e _ (lookup_mem hc))
  have h3 := He.glo_ok X G h1
  have h4 : (some (Value.ref C)) = some (.ref (He.ga K c)) := hC.symm.trans h3
  injection h4 with h4
  injection h4 with h4
  subst h4
  exact of_decide_eq_true h2
theorem isOk_of (X : K.In h) (G : h.Ns mainGlobals mg) (e : kitAll K y l = true) : IsOk ⟨K, mg⟩ (subT l) y := fun c b C hc hC => by
  obtain ⟨h1, h2⟩ := He.ba (List.all_eq_true.mp e _ (lookup_mem hc))
  obtain ⟨h5, h6⟩ := He.ba h2
  have h3 := He.glo_ok X G h1
  have h4 : (some (Value.ref C)) = some (.ref (He.ga K c)) := hC.symm.trans h3
  injection h4 with h4
  injection h4 with h4
  subst h4
  exact ⟨excCB_ok h5, of_decide_eq_true h6⟩
theorem all_get {l : List Bool} (e : l.all id = true) (i : Nat) {b : Bool} (hi : l[i]? = some b) : b = true := List.all_eq_true.mp e b (List.mem_of_getElem? hi)
end
end Dl

namespace Dl
open PySem PySem.Spec PyProof.Rows L2
/-! ## try with any clauses, named or not, and an else -/
section
variable {X : Cx} {pins : List (Addr × Obj)} {σ : L2.St} {H : Hp} {s0 s1 : Shared} {B : Heap} {a : Addr} {cls : Value} {d : Option Addr} {h : Heap}
/-- an exception that has come down to a try of X: s0 the state it left, s1 where it is now (but its heap: h) -/
structure Air (X : Cx) (pins : List (Addr × Obj)) (σ : L2.St) (H : Hp) (s0 s1 : Shared) (B : Heap) (a : Addr) (cls : Value) (d : Option Addr) (h : Heap) : Prop where
  fl : HandSPX.FlyingZ B (X.env :: X.outer) a (Zc cls d) h
  iv : Inv X pins σ H s0
  nb : ∀ b o, s0.heap.get? b = some o → b ∉ frs X.stack → B.get? b = some o
  up : s0.heap.UpToSlots h
  na : H a = none
  os : s1.os = s0.os
  ag : AllBare s1.gens
theorem Air.inv (x : Air X pins σ H s0 s1 B a cls d h) : Inv X pins σ H { s1 with heap := h } := x.iv.landed x.nb x.fl.1 x.up x.os x.ag
theorem Air.su (x : Air X pins σ H s0 s1 B a cls d h) (hf : X.env.frame = some X.env.locals) : ∃ oe, h.get? a = some oe ∧ Zc cls d oe ∧ (∃ vs, oe.data = .fields vs) ∧ Inv (X.suite a ((a, oe) :: (X.pn ++ pins))) [] σ H { s1 with heap := h } := by
  obtain ⟨oe, vs, g, z, dd⟩ := x.fl.there
  have out : a ∉ frs (X.env :: X.outer) := fun hm => by
    obtain ⟨_, ob, g2, no⟩ := x.fl.2.2.1.mem hm
    have eo : oe = ob := Option.some.inj (g.symm.trans g2)
    subst eo
    exact no _ dd
  refine ⟨oe, g, z, ⟨vs, dd⟩, x.inv.suite g dd x.na (fun e => out ?_) fun hm => out ?_⟩
  · exact List.mem_filterMap.mpr ⟨X.env, List.mem_cons_self, by rw [hf, e]⟩
  · obtain ⟨en, h1, h2⟩ := List.mem_filterMap.mp hm
    exact List.mem_filterMap.mpr ⟨en, List.mem_cons_of_mem _ h1, h2⟩
/-- no clause takes it: on its way again -/
theorem Air.on {W : WX} {D : Ends} (x : Air X pins σ H s0 s1 B a cls d h) (hs : X.stack = X.env :: X.outer) (hf : X.env.frame = some X.env.locals) (tk : Takes X W) (w : W cls d σ H) : wpAny (model X.prog X.w) X.A (handleBy (.ref a) X.env []) (SP X pins D) X.xe { s1 with heap := h } := by
  obtain ⟨_, _, _, oe, vs, T, oT, rest, g, z, dd, e1, r⟩ := id x.fl
  have away : wpAny (model X.prog X.w) X.A (setFlight (.ref a) X.env.frame) (fun _ z => wpAny (model X.prog X.w) X.A (throw (.ref a) : Sem Flow) (SP X pins D) X.xe z) X.xe { s1 with heap := h } := by
    rw [hf]
    exact HandSPX.setFlight_upZ x.fl fun h5 hh u5 => wpAny_throw (tk _ _ ⟨a, B, s0, pins, σ, H, cls, d, rfl, x.iv, x.nb, x.up.trans u5, .inr (.inr (hs ▸ hh)), x.na, x.os, x.ag, w⟩)
  refine wpAny_handleBy_nil ?_
  unfold PySem.passOn
  refine wpAny_bind (wpAny_field g dd e1 ?_)
  rw [if_neg (by simp)]
  first
    | exact wpAny_bind (wpAny_pure (wpAny_bind away))
    | exact wpAny_bind away
/-- the ends of a clause whose name is i's -/
def cutE (D : Ends) (i : Nat) : Ends := { nx := fun z G => D.nx (z.set i none) G, rt := D.rt, bk := fun z G => D.bk (z.set i none) G, ct := fun z G => D.ct (z.set i none) G }
abbrev Clause := Value × Option Nat × (Addr → Value → Option Addr → TS)
def Clause.does (c : Clause) (a : Addr) (cls : Value) (d : Option Addr) (D : Ends) (σ : L2.St) (H : Hp) : Prop := match c.2.1 with
  | none => c.2.2 a cls d D σ H
  | some i => c.2.2 a cls d (cutE D i) (σ.set i (some (.ref a))) H
def wC (K : PySem.W.Frag) (W : WX) (D : Ends) : List Clause → WX
  | [] => W
  | c :: r => fun cls d σ H => ∃ b, PySem.W.exmOne K cls c.1 = some b ∧ (b = true → ∀ a, H a = none → c.does a cls d D σ H) ∧ (b = false → wC K W D r cls d σ H)
inductive HC (X : Cx) : List ExceptHandler → List Clause → Prop
  | nil : HC X [] []
  | one {x : Str} {c : Value} {ts : Addr → Value → Option Addr → TS} {b₀ : Stmt} {su : List Stmt} {np p : Pos} {hds : List ExceptHandler} {l : List Clause} (hc : Names X x c)
      (hsu : ∀ (a : Addr) (oe : Obj) (cls : Value) (d : Option Addr) (pn : List (Addr × Obj)), Zc cls d oe → (∃ vs, oe.data = .fields vs) → PSs (X.suite a ((a, oe) :: pn)) (b₀ :: su) (ts a cls d)) (r : HC X hds l) : HC X (.ExceptHandler (some (.Name x np)) none (b₀ :: su) p :: hds) ((c, none, ts) :: l)
  | as {x n : Str} {c : Value} {i : Nat} {ts : Addr → Value → Option Addr → TS} {b₀ : Stmt} {su : List Stmt} {np p : Pos} {hds : List ExceptHandler} {l : List Clause} (hi : X.N[i]? = some n) (hl : X.env.kindOf n = some .local) (hc : Names X x c)
      (hsu : ∀ (a : Addr) (oe : Obj) (cls : Value) (d : Option Addr) (pn : List (Addr × Obj)), Zc cls d oe → (∃ vs, oe.data = .fields vs) → PSs (X.suite a ((a, oe) :: pn)) (b₀ :: su) (ts a cls d)) (r : HC X hds l) : HC X (.ExceptHandler (some (.Name x np)) (some n) (b₀ :: su) p :: hds) ((c, some i, ts) :: l)
/-- the clause's class is asked -/
theorem Air.ask {c : Value} {x : Str} {np : Pos} {b : Bool} {R : Result → Shared → Prop} {p : Pos} (y : Air X pins σ H s0 s1 B a cls d h) (hf : X.env.frame = some X.env.locals) (hc : Names X x c) (hb : PySem.W.exmOne X.K cls c = some b) (k : R (.ok (if b then .brk else .next)) { s1 with heap := h }) :
    codeAny (model X.prog X.w) (X.A.mark (some (.ref a))) (.handlers (.ref a) [.ExceptHandler (some (.Name x np)) none [] p] X.env) R { s1 with heap := h } := by
  obtain ⟨oe, g, z, _, S⟩ := y.su hf
  have ty : PySem.W.Looks (model X.prog X.w) h (typeOf (.ref a)) cls := fun A Q E z2 kk q => wpAny_typeOf_ref (kk _ _ g) (by rw [z.1]; exact q)
  have m := (PySem.W.exm_one (M := model X.prog X.w) y.inv.kIn ty hb).here (A := X.A.mark (some (.ref a))) (Q := fun b z => R (.ok (if b then .brk else .next)) z) (E := notedBy (model X.prog X.w) (X.A.mark (some (.ref a))) X.env fun x z => R (.error x) z) (s := { s1 with heap := h }) k
  refine codeAny_handlers_test ?_
  obtain ⟨hg, hdb, e | ⟨e, hv, hn⟩⟩ := hc
  · exact ld_glob (X := X.suite a ((a, oe) :: (X.pn ++ pins))) S hg e m hdb
  · exact ld_blt (X := X.suite a ((a, oe) :: (X.pn ++ pins))) S hg e hv m hn hdb
/-- the clauses, one behind the other -/
theorem Air.go {W : WX} {D : Ends} {hds : List ExceptHandler} {l : List Clause} (hs : X.stack = X.env :: X.outer) (hf : X.env.frame = some X.env.locals) (hN : X.N.Nodup) (okX : X.Ok) (tk : Takes X W) (c : HC X hds l) : wC X.K W D l cls d σ H → Air X pins σ H s0 s1 B a cls d h →
    wpAny (model X.prog X.w) X.A (handleBy (.ref a) X.env hds) (SP X pins D) X.xe { s1 with heap := h } := by
  induction c with
  | nil => exact fun w y => y.on hs hf tk w
  | @one x c ts b₀ su np p hds l hc hsu r ih =>
    intro w y
    obtain ⟨b, hb, yes, no⟩ := w
    refine wpAny_handleBy_cons (y.ask hf hc hb ?_) (by intro q; cases q)
    cases b with
    | false => exact ih (no rfl) y
    | true =>
      refine codeAny_handlers_suite (HandSPX.lands_againZ y.fl fun h4 fl4 u4 => ?_)
      have y4 : Air X pins σ H s0 s1 B a cls d h4 := ⟨fl4, y.iv, y.nb, y.up.trans u4, y.na, y.os, y.ag⟩
      obtain ⟨oe, g, z, v, S⟩ := y4.su hf
      refine wpAny_mono ((hsu a oe cls d _ z v).run [] _ _ H _ S (yes rfl a y.na)) (fun f s6 q => ?_) (fun _ _ z => z.elim)
      cases f with
      | next =>
        obtain ⟨z1, z2, z3, z4⟩ := q
        exact ⟨z1, z2, z3.unsuite okX, z4⟩
      | brk =>
        obtain ⟨z1, z2, z3, z4⟩ := q
        exact ⟨z1, z2, z3.unsuite okX, z4⟩
      | cont =>
        obtain ⟨z1, z2, z3, z4⟩ := q
        exact ⟨z1, z2, z3.unsuite okX, z4⟩
      | ret u =>
        obtain ⟨z0, z1, z2, z3, z4, z5⟩ := q
        exact ⟨z0, z1, z2, z3.unsuite okX, z4, z5⟩
  | @as x n c i ts b₀ su np p hds l hi hl hc hsu r ih =>
    intro w y
    obtain ⟨b, hb, yes, no⟩ := w
    refine wpAny_handleBy_cons (y.ask hf hc hb ?_) (by intro q; cases q)
    cases b with
    | false => exact ih (no rfl) y
    | true =>
      refine codeAny_handlers_suite_as (HandSPX.lands_againZ y.fl fun h4 fl4 u4 => ?_)
      have y4 : Air X pins σ H s0 s1 B a cls d h4 := ⟨fl4, y.iv, y.nb, y.up.trans u4, y.na, y.os, y.ag⟩
      obtain ⟨oe, g, z, v, S⟩ := y4.su hf
      refine store_ok (X := X.suite a ((a, oe) :: (X.pn ++ pins))) (v := .ref a) S hN hi (.inl hl) rfl (fun s5 S5 => ?_) (.inr hl)
      refine wpAny_mono ((hsu a oe cls d _ z v).run [] s5 _ H _ S5 (yes rfl a y.na)) (fun f s6 q => ?_) (fun _ _ z => z.elim)
      have off : ∀ {z1 : L2.St} {z2 : Hp} {Q : Shared → Prop}, Inv (X.suite a ((a, oe) :: (X.pn ++ pins))) [] z1 z2 s6 → (∀ s7, Inv X pins (z1.set i none) z2 s7 → Q s7) → wpAny (model X.prog X.w) X.A (do bindName X.env n .none; unbindBehindTheSuite X.env n p) (fun _ s7 => Q s7) X.xe s6 :=
        fun S6 k => gone_ok (S6.unsuite okX) hN hi hl k
      cases f with
      | next =>
        obtain ⟨z1, z2, z3, z4⟩ := q
        exact off z3 fun s7 z5 => ⟨_, _, z5, z4⟩
      | brk =>
        obtain ⟨z1, z2, z3, z4⟩ := q
        exact off z3 fun s7 z5 => ⟨_, _, z5, z4⟩
      | cont =>
        obtain ⟨z1, z2, z3, z4⟩ := q
        exact off z3 fun s7 z5 => ⟨_, _, z5, z4⟩
      | ret u =>
        obtain ⟨z0, z1, z2, z3, z4, z5⟩ := q
        exact off z3 fun s7 z6 => ⟨_, _, _, z6, z4, z5⟩
end
section
variable {X : Cx} {body orelse : List Stmt} {h₀ : ExceptHandler} {hds : List ExceptHandler} {l : List Clause} {pos : Pos} {tb : WX → TS} {u : TS} {W : WX}
theorem ps_tryC (ho : PSs X orelse u) (hs : X.stack = X.env :: X.outer) (hf : X.env.frame = some X.env.locals) (hN : X.N.Nodup) (tk : Takes X W) (hb : ∀ (W' : WX) (pn : List (Addr × Obj)) (xe : Value → Shared → Prop), Takes (X.tr pn xe) W' → PassesOwn (model X.prog X.w) X.A X.env xe → PSs (X.tr pn xe) body (tb W'))
    (hh : HC X (h₀ :: hds) l) : PS X (.Try body (h₀ :: hds) orelse [] pos) (fun D σ H => tb (wC X.K W D l) { D with nx := u D } σ H) := by
  refine ⟨fun pins z σ H D I q => wpAny_Try_except ?_⟩
  have okX := I.ok
  have hfr : X.A.frames = some (X.env :: X.outer) := okX.frames.trans (congrArg some hs)
  refine wpAny_mono ((hb (wC X.K W D l) (X.pn ++ pins) (fun e z1 => wpAny (model X.prog X.w) X.A (noteFrame e X.env) (fun _ z2 => wpAny (model X.prog X.w) X.A (setFlight e none) (fun _ z3 => wpAny (model X.prog X.w) X.A (handleBy e X.env (h₀ :: hds)) (SP X pins D) X.xe z3) X.xe z2) X.xe z1)
    (fun v z' hx => ?_) PassesOwn.looking).run [] z σ H { D with nx := u D } (I.toTry _) q) (fun f z1 hq => ?_) fun _ _ hx => hx
  · obtain ⟨a, B, s0, pn, σ', H', cls, d, rfl, J, nb, up, sky, na, os, ag, w⟩ := hx
    exact Sky.land Zc.steady hfr hf (by rw [← hs]; exact sky) fun h3 fl u3 => Air.go hs hf hN okX tk hh w ⟨fl, J.ofTry okX, nb, up.trans u3, na, os, ag⟩
  · cases f with
    | next =>
      obtain ⟨z1, z2, z3, z4⟩ := hq
      exact ho.run pins _ _ _ D (z3.ofTry okX) z4
    | brk =>
      obtain ⟨z1, z2, z3, z4⟩ := hq
      exact ⟨z1, z2, z3.ofTry okX, z4⟩
    | cont =>
      obtain ⟨z1, z2, z3, z4⟩ := hq
      exact ⟨z1, z2, z3.ofTry okX, z4⟩
    | ret v =>
      obtain ⟨z0, z1, z2, z3, z4, z5⟩ := hq
      exact ⟨z0, z1, z2, z3.ofTry okX, z4, z5⟩
end
end Dl

namespace Dl
open PySem PySem.Spec PyProof.Rows L2
section
variable {Γ : Gm} {W : WX} {B F F' H H' : Hp} {A : Ao} {τ τ' : List (Option V)} {ds ds' : Sta} {σ : L2.St} {st : Sta}
/-! ## try: any clauses, an else -/
/-- a clause: which classes it takes, its name's place, its suite -/
structure MCl where
  cl : Str → Option Bool
  nm : Option Nat
  su : Ec → Addr → Addr → MS
def MCl.run (m : MCl) (c : Ec) (a dd : Addr) : MS := match m.nm with
  | none => m.su c a dd
  | some i => mAs i m.su c a dd
noncomputable def pickC : List MCl → Ec → Sta → Res (Ctl × Sta)
  | [], c, st => .err c st
  | m :: r, c, st => match m.cl c.n with
    | some true => allA fun a => allA fun dd => noErr (m.run c a dd st)
    | some false => pickC r c st
    | none => .stuck
noncomputable def mTryC (body : MS) (ms : List MCl) (els : MS) : MS := fun st => match body st with
  | .ok (.next, st') => els st'
  | .err c st' => pickC ms c st'
  | r => r
inductive CR (Γ : Gm) : List MCl → List Clause → Prop
  | nil : CR Γ [] []
  | cons {m : MCl} {ms : List MCl} {l : List Clause} {cv : Value} (s : SubOk Γ m.cl cv) (r : CR Γ ms l) : CR Γ (m :: ms) ((cv, m.nm, tsOf Γ m.su) :: l)
theorem pick_w {ms : List MCl} {l : List Clause} {D : Ends} {c : Ec} {C : Addr} {d : Option Addr} (r : CR Γ ms l) (g : Γ.mg c.n = some (.ref C)) : ∀ {st : Sta} {σ : L2.St} {H F : Hp}, τ.length = ds.length → noBor ds → SR Γ B A F H (τ ++ σ) (ds ++ st) → Pay Γ B F c d → sPost Γ W B A τ ds (sP Γ B A τ ds D) F (pickC ms c st) → wC Γ.K W D l (.ref C) d σ H := by
  induction r with
  | nil => exact fun {st σ H F} hl nb s y q => q C d σ H F g (Same.refl _) y s
  | @cons m ms l cv sb r ih =>
    intro st σ H F hl nb s y q
    have q : sPost Γ W B A τ ds (sP Γ B A τ ds D) F (match m.cl c.n with
      | some true => allA fun a => allA fun dd => noErr (m.run c a dd st)
      | some false => pickC ms c st
      | none => .stuck) := q
    cases e : m.cl c.n with
    | none =>
      simp only [e] at q
      exact q.elim
    | some b =>
      cases b with
      | false =>
        simp only [e] at q
        exact ⟨false, sb c.n false C e g, fun z => (by cases z), fun _ => ih hl nb s y q⟩
      | true =>
        simp only [e] at q
        have hdd : ∃ dd, d = c.dict dd := by
          unfold Pay at y
          unfold Ec.dict
          cases ex : c.x with
          | none =>
            simp only [ex] at y ⊢
            exact ⟨0, y⟩
          | some z =>
            obtain ⟨fr, ns, xs⟩ := z
            simp only [ex] at y ⊢
            obtain ⟨dd, vs, h1, _⟩ := y
            exact ⟨dd, h1⟩
        obtain ⟨dd, ed⟩ := hdd
        refine ⟨true, sb c.n true C e g, fun _ a ha => ?_, fun z => by cases z⟩
        have q3 := (sPost.allA (sPost.allA q a) dd).noErr
        obtain ⟨cl, nm, su⟩ := m
        cases nm with
        | none => exact ⟨c, C, dd, rfl, ed, g, B, A, F, τ, ds, st, hl, nb, s, q3⟩
        | some i => exact ⟨c, C, dd, rfl, ed, g, se_as hl nb s y ed q3⟩
theorem se_tryC {body els : MS} {ms : List MCl} {l : List Clause} {D : Ends} {H : Hp} (r : CR Γ ms l) (h : msOf Γ W (mTryC body ms els) D σ H) : msOf Γ (wC Γ.K W D l) body { D with nx := msOf Γ W els D } σ H := by
  obtain ⟨B, A, F, τ, ds, st, hl, nb, s, q⟩ := h
  refine ⟨B, A, F, τ, ds, st, hl, nb, s, ?_⟩
  have q : sPost Γ W B A τ ds (sP Γ B A τ ds D) F (match body st with
    | .ok (.next, st') => els st'
    | .err c st' => pickC ms c st'
    | r => r) := q
  cases e : body st with
  | stuck => rw [e] at q; exact q
  | ok p =>
    obtain ⟨ct, st1⟩ := p
    rw [e] at q
    cases ct with
    | next => exact fun σ' H' F' f s1 => ⟨B, A, F', τ, ds, st1, hl, nb, s1, sPost.mono sP.mono f q⟩
    | brk => exact q
    | cont => exact q
    | ret t => exact q
  | err c st1 =>
    rw [e] at q
    exact fun C d σ' H' F' g f y s1 => pick_w r g hl nb s1 y (sPost.mono sP.mono f q)
inductive HM (Γ : Gm) (X : Cx) : List ExceptHandler → List MCl → Prop
  | nil : HM Γ X [] []
  | one {x : Str} {cv : Value} {cl : Str → Option Bool} {su : Ec → Addr → Addr → MS} {b₀ : Stmt} {ss : List Stmt} {np p : Pos} {hds : List ExceptHandler} {ms : List MCl} (hc : Names X x cv) (sb : SubOk Γ cl cv)
      (hsu : ∀ (a : Addr) (oe : Obj) (pn : List (Addr × Obj)) (c : Ec) (C dd : Addr), Γ.mg c.n = some (.ref C) → Zc (.ref C) (c.dict dd) oe → (∃ vs, oe.data = .fields vs) → PSs (X.suite a ((a, oe) :: pn)) (b₀ :: ss) (msOf Γ W0 (su c a dd))) (r : HM Γ X hds ms) :
      HM Γ X (.ExceptHandler (some (.Name x np)) none (b₀ :: ss) p :: hds) (⟨cl, none, su⟩ :: ms)
  | as {x n : Str} {cv : Value} {cl : Str → Option Bool} {i : Nat} {su : Ec → Addr → Addr → MS} {b₀ : Stmt} {ss : List Stmt} {np p : Pos} {hds : List ExceptHandler} {ms : List MCl} (hi : X.N[i]? = some n) (hl : X.env.kindOf n = some .local) (hc : Names X x cv) (sb : SubOk Γ cl cv)
      (hsu : ∀ (a : Addr) (oe : Obj) (pn : List (Addr × Obj)) (c : Ec) (C dd : Addr), Γ.mg c.n = some (.ref C) → Zc (.ref C) (c.dict dd) oe → (∃ vs, oe.data = .fields vs) → PSs (X.suite a ((a, oe) :: pn)) (b₀ :: ss) (msOf Γ W0 (su c a dd))) (r : HM Γ X hds ms) :
      HM Γ X (.ExceptHandler (some (.Name x np)) (some n) (b₀ :: ss) p :: hds) (⟨cl, some i, su⟩ :: ms)
theorem su_ts {X : Cx} {su : Ec → Addr → Addr → MS} {ss : List Stmt} (hsu : ∀ (a : Addr) (oe : Obj) (pn : List (Addr × Obj)) (c : Ec) (C dd : Addr), Γ.mg c.n = some (.ref C) → Zc (.ref C) (c.dict dd) oe → (∃ vs, oe.data = .fields vs) → PSs (X.suite a ((a, oe) :: pn)) ss (msOf Γ W0 (su c a dd)))
    (a : Addr) (oe : Obj) (cls : Value) (d : Option Addr) (pn : List (Addr × Obj)) (hz : Zc cls d oe) (hv : ∃ vs, oe.data = .fields vs) : PSs (X.suite a ((a, oe) :: pn)) ss (tsOf Γ su a cls d) := ⟨fun pins z σ H D I h => by
  obtain ⟨c, C, dd, e1, e2, g, h⟩ := h
  subst e1
  subst e2
  exact (hsu a oe pn c C dd g hz hv).run pins z σ H D I h⟩
theorem HM.hc {X : Cx} {hds : List ExceptHandler} {ms : List MCl} (m : HM Γ X hds ms) : ∃ l, HC X hds l ∧ CR Γ ms l := by
  induction m with
  | nil => exact ⟨[], .nil, .nil⟩
  | one hc sb hsu _ ih =>
    obtain ⟨l, h1, h2⟩ := ih
    exact ⟨_, .one hc (su_ts hsu) h1, .cons sb h2⟩
  | as hi hl hc sb hsu _ ih =>
    obtain ⟨l, h1, h2⟩ := ih
    exact ⟨_, .as hi hl hc (su_ts hsu) h1, .cons sb h2⟩
theorem qs_tryC {X : Cx} {body orelse : List Stmt} {h₀ : ExceptHandler} {hds : List ExceptHandler} {pos : Pos} {mb me : MS} {ms : List MCl} (ft : Fit Γ W X) (hs : X.stack = X.env :: X.outer) (hf : X.env.frame = some X.env.locals) (hN : X.N.Nodup)
    (hb : ∀ (W' : WX) (pn : List (Addr × Obj)) (xe : Value → Shared → Prop), Fit Γ W' (X.tr pn xe) → PassesOwn (model X.prog X.w) X.A X.env xe → PSs (X.tr pn xe) body (msOf Γ W' mb)) (hm : HM Γ X (h₀ :: hds) ms) (he : PSs X orelse (msOf Γ W me)) :
    PS X (.Try body (h₀ :: hds) orelse [] pos) (msOf Γ W (mTryC mb ms me)) := by
  obtain ⟨l, h1, h2⟩ := hm.hc
  exact ps_imp (ps_tryC (tb := fun W' => msOf Γ W' mb) (W := W) he hs hf hN ft.tk (fun W' pn xe tk ow => hb W' pn xe (ft.tr tk) ow) h1) fun D σ H h => by rw [ft.K]; exact se_tryC h2 h
end
end Dl

namespace Dl
open PySem PySem.Spec PyProof.Rows L2
section
variable {Γ : Gm} {W : WX} {B F F' H H' : Hp} {A : Ao} {τ τ' : List (Option V)} {ds ds' : Sta} {σ : L2.St} {st : Sta}
/-! ## targets that are items -/
/-- the target g does what m does with the value -/
def TgM (Γ : Gm) (W : WX) (g : TG) (m : TV → MS) : Prop := ∀ (B : Hp) (A : Ao) (F H : Hp) (τ : List (Option V)) (ds : Sta) (σ : L2.St) (st : Sta) (v : V) (t : TV) (D : Ends), τ.length = ds.length → noBor ds → SR Γ B A F H (some v :: (τ ++ σ)) (some t :: (ds ++ st)) →
  sPost Γ W B A τ ds (sP Γ B A τ ds D) F (m t st) → g v σ H D.nx
/-- x[i] = the value -/
def mSetAt (k : Nat) (mi : ME) (t : TV) : MS := fun st1 => match getS st1 k with
    | some ⟨.own, _, .lst _⟩ => (mi st1).bind fun q => match getS q.2 k, q.1.d with
      | some ⟨.own, fr, .lst xs⟩, .int i => if t.k = .frz ∧ okS q.2 = true then (match setIx xs i t.d with
        | some ys => .ok (.next, setS q.2 k (some ⟨.own, fr && t.fr, .lst ys⟩))
        | none => .stuck) else .stuck
      | _, _ => .stuck
    | _ => .stuck
theorem tg_sub {k : Nat} {mi : ME} : TgM Γ W (gSub (tVar k) (teOf Γ W mi) rSetL) (mSetAt k mi) := by
  intro B A F1 H1 τ ds σ st1 v1 t D hl nb s1 q1
  have hl' : (some v1 :: τ).length = (some t :: ds).length := by simpa using hl
  unfold mSetAt at q1
  cases e : getS st1 k with
  | none => rw [e] at q1; exact q1.elim
  | some t0 =>
    rw [e] at q1
    obtain ⟨w, w1, w0, w2⟩ := SR.slot hl' s1 e
    obtain ⟨k0, fr0, d0⟩ := t0
    cases k0 with
    | own =>
      cases d0 with
      | lst xs0 =>
        refine ⟨w, w1, ?_⟩
        refine se_in (τ := τ) (ds := ds) (τ' := some v1 :: τ) (ds' := some t :: ds) sP.mono hl' (fun _ _ _ _ s => s.pop) s1 q1 fun t2 st2 v2 H2 F2 f2 s2 q2 => ?_
        obtain ⟨k2, fr2, d2⟩ := t2
        cases e2 : getS st2 k with
        | none => rw [e2] at q2; exact q2.elim
        | some t3 =>
          rw [e2] at q2
          obtain ⟨k3, fr3, d3⟩ := t3
          cases k3 with
          | own =>
            cases d3 with
            | lst xs =>
              cases d2 with
              | int i =>
                have q2 : sPost Γ W B A τ ds (sP Γ B A τ ds D) F2 (if t.k = .frz ∧ okS st2 = true then (match setIx xs i t.d with
                  | some ys => .ok (.next, setS st2 k (some ⟨.own, fr3 && t.fr, .lst ys⟩))
                  | none => .stuck) else .stuck) := q2
                by_cases c : t.k = .frz ∧ okS st2 = true
                · rw [if_pos c] at q2
                  cases e3 : setIx xs i t.d with
                  | none => rw [e3] at q2; exact q2.elim
                  | some ys =>
                    rw [e3] at q2
                    obtain ⟨j, j1, j2⟩ := setIx_ix e3
                    have s3 := s2.pop
                    obtain ⟨w', w1', w0', w2'⟩ := SR.slot hl' s3 e2
                    rw [w1] at w1'
                    have : w = w' := by simpa using w1'
                    subst this
                    obtain ⟨p, us, h1, h2, h3, h4, h5⟩ := w2'
                    subst h1
                    have et := s3.top
                    obtain ⟨kt, frt, dt⟩ := t
                    have c1 : kt = .frz := c.1
                    subst c1
                    have rt : Rep Γ (sel frt B F2) dt v1 := et
                    refine ⟨p, us, i, j, rfl, s2.top.int, h2, by rw [← h5.length]; exact j1, ?_⟩
                    refine q2 σ _ F2 (Same.refl _) (s3.pop.upd_at hl (noBor_app nb (okS_of c.2)) e2 w1 ?_)
                    rw [j2]
                    exact (repsel h5 and1).set j (by
                      cases frt with
                      | true => exact Rep.mono sel_weak rt
                      | false =>
                        rw [Bool.and_false]
                        exact rt)
                · rw [if_neg c] at q2
                  exact q2.elim
              | _ => exact q2.elim
            | _ => exact q2.elim
          | _ => exact q2.elim
      | _ => exact q1.elim
    | _ => exact q1.elim
def mTgName (i : Nat) (t : TV) : MS := fun st => match t.k with
  | .bor => .stuck
  | _ => .ok (.next, setS st i (some t))
theorem tg_nameM {i : Nat} : TgM Γ W (gName i) (mTgName i) := by
  intro B A F H τ ds σ st v t D hl nb s q
  obtain ⟨k, fr, d⟩ := t
  cases k with
  | bor => exact q.elim
  | frz => exact q _ H F (Same.refl _) (s.store_at hl i)
  | old => exact q _ H F (Same.refl _) (s.store_at hl i)
  | own => exact q _ H F (Same.refl _) (s.store_at hl i)

/-- several targets, from the left -/
def mEach (fr : Bool) : List (TV → MS) → List D → MS
  | [], [] => mPass
  | m :: ms, d :: xs => fun st => (m (.el fr d) st).bind fun p => match p.1 with
    | .next => mEach fr ms xs p.2
    | _ => .stuck
  | _, _ => fun _ => .stuck
inductive TgMs (Γ : Gm) (W : WX) : TGs → List (TV → MS) → Prop where
  | nil : TgMs Γ W gNil []
  | cons {t : TG} {u : TGs} {m : TV → MS} {ms : List (TV → MS)} (h : TgM Γ W t m) (r : TgMs Γ W u ms) : TgMs Γ W (gCons t u) (m :: ms)
theorem tgMs_run {fr : Bool} {Z : Ends} (hl : τ.length = ds.length) (nb : noBor ds) : ∀ {u : TGs} {ms : List (TV → MS)}, TgMs Γ W u ms → ∀ {xs : List D} {us : List V} {st : Sta} {σ : L2.St} {F H : Hp}, SR Γ B A F H (τ ++ σ) (ds ++ st) → RepL Γ (sel fr B F) xs us →
    sPost Γ W B A τ ds (sP Γ B A τ ds Z) F (mEach fr ms xs st) → u us σ H Z.nx := by
  intro u ms h
  induction h with
  | nil =>
    intro xs us st σ F H s r q
    cases xs with
    | nil => exact ⟨r.nil_inv, q σ H F (Same.refl _) s⟩
    | cons d xs => exact q.elim
  | cons h0 h1 ih =>
    rename_i t u m ms
    intro xs us st σ F H s r q
    cases xs with
    | nil => exact q.elim
    | cons d xs =>
      obtain ⟨v, us', rfl, r1, r2⟩ := r.cons_inv
      refine ⟨v, us', rfl, ?_⟩
      have s1 := s.push (t := .el fr d) (ent_el r1) (by intro z; cases z)
      have q : sPost Γ W B A τ ds (sP Γ B A τ ds Z) F ((m (.el fr d) st).bind fun p => match p.1 with
        | .next => mEach fr ms xs p.2
        | _ => .stuck) := q
      refine h0 B A F H τ ds σ st v (.el fr d) { Z with nx := fun σ' H' => u us' σ' H' Z.nx } hl nb s1 ?_
      cases e : m (.el fr d) st with
      | stuck => rw [e] at q; exact q
      | err c st1 => rw [e] at q; exact q
      | ok p =>
        obtain ⟨c, st1⟩ := p
        rw [e] at q
        cases c with
        | next => exact fun σ' H' F' f s2 => ih s2 (RepL.mono (sel_mono f) r2) (sPost.mono sP.mono f q)
        | brk => exact q.elim
        | cont => exact q.elim
        | ret t => exact q.elim
theorem TgMs.len {u : TGs} {ms : List (TV → MS)} (h : TgMs Γ W u ms) : ∀ {fr : Bool} {xs : List D} {st : Sta} {r : Ctl × Sta}, mEach fr ms xs st = .ok r → xs.length = ms.length := by
  induction h with
  | nil =>
    intro fr xs st r e
    cases xs with
    | nil => rfl
    | cons d xs => cases e
  | cons h0 h1 ih =>
    rename_i t u m ms
    intro fr xs st r e
    cases xs with
    | nil => cases e
    | cons d xs =>
      have e : ((m (.el fr d) st).bind fun p => match p.1 with
        | .next => mEach fr ms xs p.2
        | _ => .stuck) = .ok r := e
      cases e2 : m (.el fr d) st with
      | stuck => rw [e2] at e; cases e
      | err c st1 => rw [e2] at e; cases e
      | ok p =>
        obtain ⟨c, st1⟩ := p
        rw [e2] at e
        cases c with
        | next => simp only [List.length_cons, ih e]
        | brk => cases e
        | cont => cases e
        | ret t => cases e
def mTgTup (ms : List (TV → MS)) (t : TV) : MS := match t.d with
  | .tup xs => if xs.length = ms.length then mEach t.fr ms xs else fun _ => .stuck
  | _ => fun _ => .stuck
theorem tg_tupM {u : TGs} {ms : List (TV → MS)} {n : Nat} (h : TgMs Γ W u ms) (hn : ms.length = n) : TgM Γ W (gTup Γ.K n u) (mTgTup ms) := by
  intro B A F H τ ds σ st v t D hl nb s q
  obtain ⟨k, fr, d⟩ := t
  cases d with
  | tup xs =>
    obtain ⟨p, us, h1, h2, h3⟩ := s.top.tup s.fh
    have q : sPost Γ W B A τ ds (sP Γ B A τ ds D) F ((if xs.length = ms.length then mEach fr ms xs else fun _ => .stuck) st) := q
    by_cases c : xs.length = ms.length
    · rw [if_pos c] at q
      exact ⟨p, us, h1, h2, by rw [← h3.length, c, hn], tgMs_run hl nb h s.pop h3 q⟩
    · rw [if_neg c] at q
      exact q.elim
  | _ => exact q.elim
def mAsgM (f : TV → MS) (m : ME) : MS := fun st => (m st).bind fun p => f p.1 p.2
theorem se_asgM {f : TV → MS} {g : TG} (tg : TgM Γ W g f) {m : ME} {D : Ends} {H : Hp} (h : msOf Γ W (mAsgM f m) D σ H) : tAsg (teOf Γ W m) g D σ H := by
  obtain ⟨B, A, F, τ, ds, st, hl, nb, s, q⟩ := h
  exact se_in (τ := τ) (ds := ds) sP.mono hl (fun _ _ _ _ s => s) s q fun t st1 v H1 F1 f1 s1 q1 => tg B A F1 H1 τ ds σ st1 v t D hl nb s1 q1
/-! ## in, not in; is True -/
def fIn (a b : TV) : Option TV := match b.d with
  | .lst ys => if a.d.plain 63 = true ∧ (D.lst ys).plain 64 = true then some (.b (ys.any fun z => z.eqv a.d)) else none
  | _ => none
def fNotIn (a b : TV) : Option TV := match b.d with
  | .lst ys => if a.d.plain 63 = true ∧ (D.lst ys).plain 64 = true then some (.b (!ys.any fun z => z.eqv a.d)) else none
  | _ => none
theorem plain_up : ∀ {d : D} {n : Nat}, d.plain n = true → d.plain (n + 1) = true := by
  intro d n
  induction n generalizing d with
  | zero => cases d <;> first | exact fun h => h | exact fun h => (by unfold D.plain at h; cases h)
  | succ n ih =>
    cases d with
    | lst xs =>
      intro h
      simp only [D.plain, List.all_eq_true] at h ⊢
      exact fun x hx => ih (h x hx)
    | tup xs =>
      intro h
      simp only [D.plain, List.all_eq_true] at h ⊢
      exact fun x hx => ih (h x hx)
    | obj c ds => intro h; unfold D.plain at h; cases h
    | exc c a => intro h; unfold D.plain at h; cases h
    | xcp c a dd ns ds => intro h; unfold D.plain at h; cases h
    | fl c => intro h; unfold D.plain at h; cases h
    | _ => exact fun h => h
theorem any_pd {d : D} {n : Nat} (hd : d.plain n = true) : ∀ ys : List D, ys.all (D.plain n) = true → ((D.pdL ys).any fun z => PyData.eqv z d.pd) = ys.any fun z => z.eqv d
  | [], _ => rfl
  | y :: ys, h => by
    simp only [List.all_cons, Bool.and_eq_true] at h
    simp only [D.pdL, List.any_cons]
    rw [eqv_pd y d n h.1 hd, any_pd hd ys h.2]
theorem does_in : Does2 Γ fIn (rInD Γ.K) := by
  intro B A F H vs ts x y a b t s e Q q
  obtain ⟨kb, frb, db⟩ := b
  cases db with
  | lst ys =>
    have e : (if a.d.plain 63 = true ∧ (D.lst ys).plain 64 = true then some (TV.b (ys.any fun z => z.eqv a.d)) else none) = some t := e
    by_cases c : a.d.plain 63 = true ∧ (D.lst ys).plain 64 = true
    · rw [if_pos c] at e
      cases e
      have hx := s.pop.top.rep s.fh
      have hy := s.top.rep s.fh
      have c2 : ys.all (D.plain 63) = true := by simpa only [D.plain] using c.2
      refine ⟨a.d.pd, D.pdL ys, rep_dp _ 64 _ (plain_up c.1) hx, ?_, plain_shaped (plain_up c.1), ?_, ?_⟩
      · have z := rep_dp _ 64 _ c.2 hy
        simpa only [D.pd] using z
      · have z := plain_shaped c.2
        simpa only [D.pd] using z
      · rw [any_pd c.1 ys c2]
        exact q _ H F (Same.refl _) (s.pop.pop.push ent_b (by intro z; cases z))
    · rw [if_neg c] at e
      cases e
  | _ => cases e
theorem does_notIn : Does2 Γ fNotIn (rNotInD Γ.K) := by
  intro B A F H vs ts x y a b t s e Q q
  obtain ⟨kb, frb, db⟩ := b
  cases db with
  | lst ys =>
    have e : (if a.d.plain 63 = true ∧ (D.lst ys).plain 64 = true then some (TV.b (!ys.any fun z => z.eqv a.d)) else none) = some t := e
    by_cases c : a.d.plain 63 = true ∧ (D.lst ys).plain 64 = true
    · rw [if_pos c] at e
      cases e
      have hx := s.pop.top.rep s.fh
      have hy := s.top.rep s.fh
      have c2 : ys.all (D.plain 63) = true := by simpa only [D.plain] using c.2
      refine ⟨a.d.pd, D.pdL ys, rep_dp _ 64 _ (plain_up c.1) hx, ?_, plain_shaped (plain_up c.1), ?_, ?_⟩
      · have z := rep_dp _ 64 _ c.2 hy
        simpa only [D.pd] using z
      · have z := plain_shaped c.2
        simpa only [D.pd] using z
      · rw [any_pd c.1 ys c2]
        exact q _ H F (Same.refl _) (s.pop.pop.push ent_b (by intro z; cases z))
    · rw [if_neg c] at e
      cases e
  | _ => cases e
def fIsB (a b : TV) : Option TV := match a.d, b.d with
  | .bl x, .bl y => some (.b (decide (x = y)))
  | _, _ => none
def fNotB (a b : TV) : Option TV := match a.d, b.d with
  | .bl x, .bl y => some (.b (!decide (x = y)))
  | _, _ => none
theorem does_isB : Does2 Γ fIsB (fun x y H Q => ∃ a b, x = .bl a ∧ y = .bl b ∧ Q (.bl (decide (a = b))) H) := by
  intro B A F H vs ts x y a b t s e Q q
  obtain ⟨k, fr, d⟩ := a
  obtain ⟨k2, fr2, d2⟩ := b
  cases d <;> cases d2 <;> first | (cases e; exact ⟨_, _, s.pop.top.bl, s.top.bl, q _ H F (Same.refl _) (s.pop.pop.push ent_b (by intro z; cases z))⟩) | cases e
theorem does_notB : Does2 Γ fNotB (fun x y H Q => ∃ a b, x = .bl a ∧ y = .bl b ∧ Q (.bl (!decide (a = b))) H) := by
  intro B A F H vs ts x y a b t s e Q q
  obtain ⟨k, fr, d⟩ := a
  obtain ⟨k2, fr2, d2⟩ := b
  cases d <;> cases d2 <;> first | (cases e; exact ⟨_, _, s.pop.top.bl, s.top.bl, q _ H F (Same.refl _) (s.pop.pop.push ent_b (by intro z; cases z))⟩) | cases e
/-! ## range of three -/
theorem Ent_three {k k2 k3 : Kd} : True := trivial
def stepD (lo c : Int) (n : Nat) : List TV := (List.range n).map fun (k : Nat) => .i (lo + (k : Int) * c)
theorem step_get {lo c : Int} {n i : Nat} {t : TV} (h : (stepD lo c n)[i]? = some t) : i < n ∧ t = .i (lo + (i : Int) * c) := by
  unfold stepD at h
  rw [List.getElem?_map] at h
  obtain ⟨k, h1, h2⟩ := Option.map_eq_some_iff.mp h
  have hi : i < n := by
    have := (List.getElem?_eq_some_iff.mp h1).1
    rwa [List.length_range] at this
  rw [List.getElem?_range hi] at h1
  cases h1
  exact ⟨hi, h2.symm⟩
theorem walk_step {lo c : Int} {n : Nat} : WalkD Γ B (Itc lo c n) (stepD lo c n) (fun _ => True) where
  stop := fun F H h e => by
    show n ≤ _
    unfold stepD
    rw [List.length_map, List.length_range]
    exact Nat.le_refl _
  go := fun F H i t h e g => (step_get g).1
  yld := fun A F H vs ts i t x H' h s g y => by
    obtain ⟨e, y⟩ := y
    subst e
    subst y
    rw [(step_get g).2]
    exact ⟨F, Same.refl _, s.push ent_i (by intro z; cases z)⟩
/-- a step of -1 alone -/
def fRng3 (ts : List TV) : Option (List TV) := match ts with
  | [a, b, c] => a.d.asI.bind fun i => b.d.asI.bind fun j => c.d.asI.bind fun k => if (small i && small j && decide (k = -1)) = true then some (stepD i (-1) (i - j).toNat) else none
  | _ => none
def mRng3 (m : MA) : MI := mIA fRng3 m
theorem te_rng3 {m : MA} {H : Hp} {R : It → Hp → Prop} (h : tiOf Γ W (mRng3 m) σ H R) : iRng3 (taOf Γ W m) σ H R := by
  obtain ⟨B, A, F, τ, ds, st, hl, s, q⟩ := h
  refine ta_in (τ := τ) (ds := ds) iP.mono hl (fun _ _ _ s => s) s q fun ts st1 vs H1 F1 hlen f1 s1 q1 => ?_
  obtain ⟨its, e1, q1⟩ := rPost.ofO q1
  match ts, vs, hlen with
  | [a, b, c], [v, u, w], hlen =>
    obtain ⟨i, e3, e1⟩ := Option.bind_eq_some_iff.mp (show (a.d.asI.bind fun i => b.d.asI.bind fun j => c.d.asI.bind fun k => if (small i && small j && decide (k = -1)) = true then some (stepD i (-1) (i - j).toNat) else none) = some its from e1)
    obtain ⟨j, e4, e1⟩ := Option.bind_eq_some_iff.mp e1
    obtain ⟨k, e5, e1⟩ := Option.bind_eq_some_iff.mp e1
    by_cases c0 : (small i && small j && decide (k = -1)) = true
    · rw [if_pos c0] at e1
      cases e1
      have hk : k = -1 := of_decide_eq_true (and2 c0)
      subst hk
      obtain ⟨⟨ka, fa, da⟩, ⟨kb, fb, db⟩, ⟨kc, fc, dc⟩⟩ := (⟨a, b, c⟩ : TV × TV × TV)
      have s2 : SR Γ B A F1 H1 (some w :: some u :: some v :: (τ ++ σ)) (some c :: some b :: some a :: (ds ++ st1)) := s1
      have ec : c.d = .int (-1) := asI_of e5
      have eb : b.d = .int j := asI_of e4
      have ea : a.d = .int i := asI_of e3
      obtain ⟨k1, f1', d1⟩ := a
      obtain ⟨k2, f2', d2⟩ := b
      obtain ⟨k3, f3', d3⟩ := c
      have ec : d3 = .int (-1) := ec
      have eb : d2 = .int j := eb
      have ea : d1 = .int i := ea
      subst ec
      subst eb
      subst ea
      have ev := s2.pop.pop.top.int
      have eu := s2.pop.top.int
      have ew := s2.top.int
      subst ev
      subst eu
      subst ew
      have c1 := small_of (and1 (and1 c0))
      have c2 := small_of (and2 (and1 c0))
      exact ⟨i, j, -1, _, rfl, RgC.neg c1.1 c1.2 c2.1 c2.2, q1 _ H1 F1 (fun _ => True) (Same.refl _) s2.pop.pop.pop trivial (fun _ _ _ h => h) walk_step⟩
    · rw [if_neg c0] at e1
      cases e1
  | [], _, _ => cases e1
  | [_], _, _ => cases e1
  | [_, _], _, _ => cases e1
  | _ :: _ :: _ :: _ :: _, _, _ => cases e1
end
section
variable {Γ : Gm} {W : WX} {X : Cx} {a b c e : Expr} {ma mb mc me : ME} {pos pos' p p2 : Pos} {ms : MA} {tg : Expr} {k j : Nat}
theorem room65 {A : Around} (r : Room k A) : A.units + 65 < cLine := by have := r.un; omega
theorem qi_rng3 (hg : Gl X "range") (hm : X.mg "range" = none) (h : PA X [a, b, c] (taOf Γ W ms)) (hs : starEach [a, b, c] X.env = (false, eval a X.env) :: starEach [b, c] X.env := by rfl) (hpl : (backTo pos (starEach [b, c] X.env)).any (·.1) = false := by rfl) :
    PI X tg (.Call (.Name "range" p) [a, b, c] [] pos) (tiOf Γ W (mRng3 ms)) := pi_imp (pi_range3 hg hm h hs hpl) fun _ _ _ => te_rng3
theorem qe_in (hK : X.K = Γ.K) (hr : Room k X.A) (ha : PE X a (teOf Γ W ma)) (hb : PE X b (teOf Γ W mb)) (hm : behindInMarks .In b = false := by with_unfolding_all rfl) : PE X (.Compare a [.In] [b] pos) (teOf Γ W (mBin fIn ma mb)) := pe_imp (pe_cmpR (hK ▸ op_inD (room65 hr)) ha hb hm) fun _ _ _ => te_bin does_in
theorem qe_notIn (hK : X.K = Γ.K) (hr : Room k X.A) (ha : PE X a (teOf Γ W ma)) (hb : PE X b (teOf Γ W mb)) (hm : behindInMarks .NotIn b = false := by with_unfolding_all rfl) : PE X (.Compare a [.NotIn] [b] pos) (teOf Γ W (mBin fNotIn ma mb)) := pe_imp (pe_cmpR (hK ▸ op_notInD (room65 hr)) ha hb hm) fun _ _ _ => te_bin does_notIn
theorem qt_in (hK : X.K = Γ.K) (hr : Room k X.A) (ha : PE X a (teOf Γ W ma)) (hb : PE X b (teOf Γ W mb)) (hm : behindInMarks .In b = false := by with_unfolding_all rfl) : PT X (.Compare a [.In] [b] pos) (ttOf Γ W (mT (mBin fIn ma mb))) := qt_cmp (hK ▸ op_inD (room65 hr)) does_in hm ha hb
theorem qt_notIn (hK : X.K = Γ.K) (hr : Room k X.A) (ha : PE X a (teOf Γ W ma)) (hb : PE X b (teOf Γ W mb)) (hm : behindInMarks .NotIn b = false := by with_unfolding_all rfl) : PT X (.Compare a [.NotIn] [b] pos) (ttOf Γ W (mT (mBin fNotIn ma mb))) := qt_cmp (hK ▸ op_notInD (room65 hr)) does_notIn hm ha hb
theorem qe_isB (ha : PE X a (teOf Γ W ma)) (hb : PE X b (teOf Γ W mb)) : PE X (.Compare a [.Is] [b] pos) (teOf Γ W (mBin fIsB ma mb)) := pe_imp (pe_cmpR op_is_bl ha hb (nomark _)) fun _ _ _ => te_bin does_isB
theorem qe_notB (ha : PE X a (teOf Γ W ma)) (hb : PE X b (teOf Γ W mb)) : PE X (.Compare a [.IsNot] [b] pos) (teOf Γ W (mBin fNotB ma mb)) := pe_imp (pe_cmpR op_isnot_bl ha hb (nomark _)) fun _ _ _ => te_bin does_notB
theorem qt_isB (ha : PE X a (teOf Γ W ma)) (hb : PE X b (teOf Γ W mb)) : PT X (.Compare a [.Is] [b] pos) (ttOf Γ W (mT (mBin fIsB ma mb))) := qt_cmp op_is_bl does_isB (nomark _) ha hb
theorem qt_notB (ha : PE X a (teOf Γ W ma)) (hb : PE X b (teOf Γ W mb)) : PT X (.Compare a [.IsNot] [b] pos) (ttOf Γ W (mT (mBin fNotB ma mb))) := qt_cmp op_isnot_bl does_notB (nomark _) ha hb
theorem pg_ix {ix : Expr} {mi : ME} {x : Str} (hv : PE X (.Name x pos') (tVar k)) (hi : PE X ix (teOf Γ W mi))
    (ha : ∀ v, assign (.Subscript (.Name x pos') ix p) X.env v = (do
      let ov ← holding [v] (eval (.Name x pos') X.env)
      let iv ← holding [v, ov] (eval ix X.env)
      standAt p
      holding [v, ov, iv] (setItem ov iv v)
      release [v, ov, iv] []) := by intro _; rfl) : PG X (.Subscript (.Name x pos') ix p) (gSub (tVar k) (teOf Γ W mi) rSetL) := pg_sub hv hi set_list ha
theorem qs_asgM {g : TG} {f : TV → MS} (tgd : TgM Γ W g f) (hg : PG X tg g) (h : PE X e (teOf Γ W me)) (hs : swapsWithSole [tg] e pos.line X.env = pure false := by rfl) (hw : swappedStores [tg] e X.env = pure none := by rfl)
    (h1 : (assignEach [tg] X.env).map (·.2) = [assign tg X.env] := by rfl) : PS X (.Assign [tg] e pos) (msOf Γ W (mAsgM f me)) := ps_imp (ps_asg h hg hs hw h1) fun _ _ _ => se_asgM tgd
end
end Dl

namespace Dl
open PySem PySem.Spec PyProof.Rows L2
/-! ## a property of an own class -/
section
variable {Γ : Gm} {W : WX} {B F F' H H' : Hp} {A : Ao} {τ τ' : List (Option V)} {ds ds' : Sta} {σ : L2.St} {st : Sta}
def mProp (g : List D → Out) (c : Cl) (mo : ME) : ME := fun st => (mo st).bind fun p => match p.1.d with
  | .obj c' _ => if c' = c then noErr (callR g [p.1] p.2) else .stuck
  | _ => .stuck
theorem rPost.noErr {α : Type} {P : α → Sta → Hp → Prop} {r : Res (α × Sta)} (h : rPost Γ W B A τ ds σ P F (noErr r)) : rPost Γ W0 B A τ ds σ P F r := by
  cases r with
  | ok p => exact h
  | err c st => exact h.elim
  | stuck => exact h.elim
structure PropOk (Γ : Gm) (P : Program) (w : World) (base : Heap) (k : Nat) (c : Cl) (m : Str) (g : List D → Out) : Prop where
  ok : ∃ C q f fd, Γ.mg c.name = some (.ref C) ∧ Cls Γ.K C ∧ PropOf Γ.K C m q f ∧ Binds Γ.K fd ["self"] [] ∧ FnOk P w Γ.K Γ.mg base (L2.CX P w) k f fd ["self"] (spD Γ 1 g)
theorem te_prop {g : List D → Out} {c : Cl} {C : Addr} {mo : ME} {H : Hp} {Q : VK} (hC : Γ.mg c.name = some (.ref C)) (h : teOf Γ W (mProp g c mo) σ H Q) :
    tProp C (spD Γ 1 g) [] (fun _ _ _ => False) (teOf Γ W mo) σ H Q := by
  obtain ⟨B, A, F, τ, ds, st, hl, s, q⟩ := h
  refine te_in (τ := τ) (ds := ds) eP.mono hl (fun _ _ _ s => s) s q fun t st1 v H1 F1 f1 s1 q1 => ?_
  obtain ⟨k, fr, d⟩ := t
  cases d with
  | obj c' xs =>
    have q1 : rPost Γ W B A τ ds σ (eP Γ B A τ ds σ Q) F1 (if c' = c then Dl.noErr (callR g [⟨k, fr, .obj c' xs⟩] st1) else .stuck) := q1
    by_cases ec : c' = c
    · subst ec
      rw [if_pos rfl] at q1
      obtain ⟨p, C', dx, us, h1, h2, h3⟩ := obj_of s1.top s1.fh
      rw [hC] at h2
      injection h2 with h2
      injection h2 with h2
      subst h2
      subst h1
      refine ⟨p, dx, _, rfl, h3, ?_⟩
      have z := call_sp (W := W0) (vs := [V.ref p]) (ts := [⟨k, fr, .obj c' xs⟩]) rfl s1 q1.noErr
      have e0 : (fun (cls : Value) (d : Option Addr) (H : Hp) => W0 cls d σ H) = fun _ _ _ => False := rfl
      rw [e0] at z
      exact z
    · rw [if_neg ec] at q1
      exact q1.elim
  | _ => exact q1.elim
end
section
variable {Γ : Gm} {W : WX} {X : Cx} {k j : Nat} {m : Str} {pos : Pos} {o : Expr} {mo : ME} {c : Cl}
theorem passF {P : Program} {w : World} {X : Cx} : Passes (L2.CX P w) X (fun _ _ _ => False) := fun _ _ _ _ _ _ _ q => by
  obtain ⟨a, B, H', cls, d, h1, h2, h3, h4, h5, h6, h7, h8⟩ := q
  exact h8.elim
theorem qe_prop {g : List D → Out} (h : PropOk Γ X.prog X.w X.base k c m g) (ft : Fit Γ W X) (hr : Room j X.A) (kj : k + 1 ≤ j) (ho : PE X o (teOf Γ W mo))
    (hab : attributeBase o m X.env (eval o X.env) = eval o X.env := by rfl) : PE X (.Attribute o m pos) (teOf Γ W (mProp g c mo)) := by
  obtain ⟨C, q, f, fd, h1, h2, h3, h4, h5⟩ := h.ok
  rw [← ft.K, ← ft.mg] at h5
  exact pe_imp (pe_prop ho (ft.K ▸ h2) (ft.K ▸ h3) h5 (hr.mono kj) (ft.K ▸ h4) .nil passF hab) fun σ H Q q => te_prop h1 q
end
section
variable {P : Program} {w : World} {K : PySem.W.Frag} {mg : Str → Option Value} {base : Heap} {x qual : Str} {params : Arguments} {body : List Stmt} {scope : Scope} {f C q : Addr} {fd : FuncData} {N : List Str} {m : MS} {k : Nat} {c : Cl}
theorem propOk_of (Fd : FunD K x qual params body scope [] [] f fd) (gc : mg c.name = some (.ref C)) (cl : Cls K C) (pr : PropOf K C x q f) (S : FnScope N ["self"] scope) (hN : (["self"] : List Str).length ≤ N.length)
    (hb : ∀ (kV doc pm : Value) (an : Option Addr) (cdv ct : Value) (us : List Value), us.length = (["self"] : List Str).length → bindArgs (PySem.W.fnOf x qual params body scope .none kV doc pm an cdv ct) ⟨us, []⟩ = pure ((["self"] : List Str).zip us)) (b : BodyOk P w K mg base k N qual scope body m) : PropOk ⟨K, mg⟩ P w base (k + 1) c x (runD N.length m) :=
  ⟨C, q, f, fd, gc, cl, pr, Fd.bindsN hb, fnOk_of Fd S hN b⟩
end
end Dl

namespace Dl
open PySem PySem.Spec PyProof.Rows L2
/-! ## a block whose end changes something that the block made, deep inside -/
def frzE : Option TV → Option TV
  | some ⟨.own, fr, .lst xs⟩ => some ⟨.frz, fr, .lst xs⟩
  | x => x
/-- how a name is seen within the block: what stood before it is old -/
def oldE : Option TV → Option TV
  | some ⟨.frz, fr, d⟩ => if d.atom = true then some ⟨.frz, fr, d⟩ else some ⟨.old, false, d⟩
  | some ⟨.own, _, .lst xs⟩ => some ⟨.old, false, .lst xs⟩
  | some ⟨.old, fr, d⟩ => some ⟨.old, fr, d⟩
  | _ => none
/-- .. and behind it: what is old has stayed; the rest is no longer known -/
def leaveE : Option TV → Option TV
  | some ⟨.old, _, d⟩ => some ⟨.frz, false, d⟩
  | some ⟨.frz, fr, d⟩ => if d.atom = true then some ⟨.frz, fr, d⟩ else none
  | _ => none
def oldS (st : Sta) : Sta := st.map oldE
def leaveS (ws : List Nat) (st : Sta) : Sta := (wipeS st ws).map leaveE
section
variable {Γ : Gm} {W : WX} {B F F' H H' : Hp} {A : Ao} {τ τ' : List (Option V)} {ds ds' : Sta} {σ : L2.St} {st : Sta}
theorem SR.frzAll {vs : List (Option V)} : ∀ (st ds : Sta) (F : Hp), SR Γ B A F H vs (ds ++ st) → ∃ F', Same F F' ∧ SR Γ B A F' H vs (ds ++ st.map frzE)
  | [], ds, F, s => ⟨F, Same.refl _, s⟩
  | x :: r, ds, F, s => by
    have go : ∀ (x' : Option TV) (F1 : Hp), Same F F1 → frzE x = x' → SR Γ B A F1 H vs (ds ++ x' :: r) → ∃ F', Same F F' ∧ SR Γ B A F' H vs (ds ++ (x :: r).map frzE) := fun x' F1 f1 ex s1 => by
      have e1 : ds ++ x' :: r = (ds ++ [x']) ++ r := by simp
      rw [e1] at s1
      obtain ⟨F2, f2, s2⟩ := SR.frzAll r (ds ++ [x']) F1 s1
      refine ⟨F2, f1.trans f2, ?_⟩
      rw [List.map_cons, ex]
      have e2 : (ds ++ [x']) ++ r.map frzE = ds ++ x' :: r.map frzE := by simp
      rw [← e2]
      exact s2
    by_cases c : ∃ fr xs, x = some ⟨.own, fr, .lst xs⟩
    · obtain ⟨fr, xs, rfl⟩ := c
      obtain ⟨F1, f1, s1⟩ := s.freeze (i := ds.length) (fr := fr) (d := .lst xs) (by simp)
      refine go (some ⟨.frz, fr, .lst xs⟩) F1 f1 rfl ?_
      have e : (ds ++ some ⟨.own, fr, .lst xs⟩ :: r).set ds.length (some (⟨.frz, fr, .lst xs⟩ : TV)) = ds ++ some ⟨.frz, fr, .lst xs⟩ :: r := by
        rw [List.set_append_right _ _ (Nat.le_refl _), Nat.sub_self]
        rfl
      rw [e] at s1
      exact s1
    · refine go x F (Same.refl _) ?_ s
      rcases x with _ | ⟨k, fr, d⟩
      · rfl
      · cases k <;> cases d <;> first | rfl | exact (c ⟨_, _, rfl⟩).elim
theorem meet_all {G : Hp} (e : Same G H) : Same G (meet G H) := fun a o h => by
  unfold meet
  rw [e _ _ h]
  exact h
theorem SR.enter (hl : τ.length = ds.length) (s : SR Γ B A F H (τ ++ σ) (ds ++ st.map frzE)) : SR Γ H ⟨F, none⟩ F H σ (oldS st) := by
  have sl : ∀ (i : Nat) (x : Option TV), st[i]? = some x → (ds ++ st.map frzE)[ds.length + i]? = some (frzE x) := fun i x h => by
    rw [List.getElem?_append_right (by omega), Nat.add_sub_cancel_left, List.getElem?_map, h]
    rfl
  have vl : ∀ i : Nat, (τ ++ σ)[ds.length + i]? = σ[i]? := fun i => by
    rw [← hl, List.getElem?_append_right (by omega), Nat.add_sub_cancel_left]
  have no : ∀ (i : Nat) (fr : Bool) (d : D), (oldS st)[i]? ≠ some (some ⟨.own, fr, d⟩) := fun i fr d h => by
    unfold oldS at h
    rw [List.getElem?_map] at h
    obtain ⟨x, h1, h2⟩ := Option.map_eq_some_iff.mp h
    rcases x with _ | ⟨k, f, d'⟩
    · cases h2
    · cases k with
      | frz =>
        have h2 : (if d'.atom = true then some (⟨.frz, f, d'⟩ : TV) else some ⟨.old, false, d'⟩) = some ⟨.own, fr, d⟩ := h2
        split at h2 <;> cases h2
      | own => cases d' <;> cases h2
      | bor => cases h2
      | old => cases h2
  refine ⟨?_, Same.refl _, s.fh, s.fh, Same.refl _, fun a o h => .inl h, fun i t h => ?_, fun i j a h1 h2 => ?_, fun i fr c xs a h1 h2 => ?_⟩
  · have := s.ln
    rw [List.length_append, List.length_append, List.length_map] at this
    unfold oldS
    rw [List.length_map]
    omega
  · unfold oldS at h
    rw [List.getElem?_map] at h
    obtain ⟨x, h1, h2⟩ := Option.map_eq_some_iff.mp h
    have e1 := sl i x h1
    rcases x with _ | ⟨k, f, d'⟩
    · cases h2
    · cases k with
      | frz =>
        have h2 : (if d'.atom = true then some (⟨.frz, f, d'⟩ : TV) else some ⟨.old, false, d'⟩) = some t := h2
        obtain ⟨v, ev, en⟩ := s.en _ ⟨.frz, f, d'⟩ e1
        rw [vl] at ev
        have r : Rep Γ (sel f B F) d' v := en
        refine ⟨v, ev, ?_⟩
        split at h2
        · rename_i ca
          cases h2
          exact Rep.atom r ca
        · cases h2
          exact Rep.mono (meet_all s.fh) (Rep.mono sel_same r)
      | own =>
        cases d' with
        | lst xs =>
          cases h2
          obtain ⟨v, ev, en⟩ := s.en _ ⟨.frz, f, .lst xs⟩ e1
          rw [vl] at ev
          exact ⟨v, ev, Rep.mono (meet_all s.fh) (Rep.mono sel_same (show Rep Γ (sel f B F) (.lst xs) v from en))⟩
        | _ => cases h2
      | bor => cases h2
      | old =>
        cases h2
        obtain ⟨v, ev, en⟩ := s.en _ ⟨.old, f, d'⟩ e1
        rw [vl] at ev
        cases f with
        | true => exact en.elim
        | false => exact ⟨v, ev, Rep.mono (meet_all s.fh) (Rep.mono meet_same en)⟩
  · obtain ⟨fr, d, z, _⟩ := h1
    exact (no i fr d z).elim
  · exact (no i fr _ h1).elim
/-- what is left of a block's end: the old values, and that nothing older was changed -/
structure LR (Γ : Gm) (F H H' : Hp) (σ : L2.St) (st : Sta) : Prop where
  ln : σ.length = st.length
  bh : Same H H'
  en : ∀ (i : Nat) (t : TV), (st.map leaveE)[i]? = some (some t) → ∃ v, σ[i]? = some (some v) ∧ ∃ fr d, t = ⟨.frz, fr, d⟩ ∧ (∀ B, Rep Γ (sel fr B F) d v)
theorem SR.leave {F1 : Hp} (s : SR Γ H ⟨F, none⟩ F1 H' σ st) : LR Γ F H H' σ st := by
  refine ⟨s.ln, s.bh, fun i t h => ?_⟩
  rw [List.getElem?_map] at h
  obtain ⟨x, h1, h2⟩ := Option.map_eq_some_iff.mp h
  rcases x with _ | ⟨k, f, d⟩
  · cases h2
  · obtain ⟨v, ev, en⟩ := s.en i _ h1
    cases k with
    | frz =>
      have h2 : (if d.atom = true then some (⟨.frz, f, d⟩ : TV) else none) = some t := h2
      split at h2
      · rename_i ca
        cases h2
        exact ⟨v, ev, f, d, rfl, fun B => Rep.atom (show Rep Γ (sel f H F1) d v from en) ca⟩
      · cases h2
    | own => cases h2
    | bor => cases h2
    | old =>
      cases h2
      cases f with
      | true => exact en.elim
      | false =>
        refine ⟨v, ev, false, d, rfl, fun B => Rep.mono (fun a o z => ?_) (show Rep Γ (meet F1 H) d v from en)⟩
        unfold meet at z
        cases q : H a with
        | none => rw [q] at z; cases z
        | some u =>
          rw [q] at z
          rcases s.fb a o z with w | w
          · exact w
          · rw [q] at w; cases w
theorem LR.wipe {σ3 : L2.St} {H3 : Hp} {ws : List Nat} (l : LR Γ F H H' σ st) (l3 : σ3.length = σ.length) (k3 : ∀ i, i ∉ ws → σ3[i]? = σ[i]?) (b3 : Same H H3) : LR Γ F H H3 σ3 (wipeS st ws) := by
  refine ⟨by rw [l3, l.ln, wipeS_len], b3, fun i t h => ?_⟩
  rw [List.getElem?_map] at h
  obtain ⟨x, h1, h2⟩ := Option.map_eq_some_iff.mp h
  rcases x with _ | t0
  · cases h2
  · obtain ⟨h3, h4⟩ := wipeS_none h1
    obtain ⟨v, ev, r⟩ := l.en i t (by rw [List.getElem?_map, h4]; exact congrArg some h2)
    exact ⟨v, by rw [k3 i h3]; exact ev, r⟩
theorem LR.back (hl : τ.length = ds.length) {σ' : L2.St} {st1 : Sta} (s : SR Γ B A F H (τ ++ σ) (ds ++ st.map frzE)) (l : LR Γ F H H' σ' st1) : SR Γ B A F H' (τ ++ σ') (ds ++ st1.map leaveE) := by
  have no : ∀ (i : Nat) (fr : Bool) (d : D), (st1.map leaveE)[i]? ≠ some (some ⟨.own, fr, d⟩) := fun i fr d h => by
    obtain ⟨v, _, fr', d', e, _⟩ := l.en i _ h
    cases e
  have low : ∀ (i : Nat) (t : TV), i < ds.length → (ds ++ st1.map leaveE)[i]? = some (some t) → (ds ++ st.map frzE)[i]? = some (some t) := fun i t hi h => by
    rw [List.getElem?_append_left hi] at h ⊢
    exact h
  have lowv : ∀ i, i < ds.length → (τ ++ σ')[i]? = (τ ++ σ)[i]? := fun i hi => by
    rw [List.getElem?_append_left (by omega), List.getElem?_append_left (by omega)]
  have ownLow : ∀ {i : Nat} {a : Addr}, OwnAt (τ ++ σ') (ds ++ st1.map leaveE) i a → OwnAt (τ ++ σ) (ds ++ st.map frzE) i a := fun {i a} ⟨fr, d, h1, h2⟩ => by
    by_cases hi : i < ds.length
    · exact ⟨fr, d, low i _ hi h1, by rw [← lowv i hi]; exact h2⟩
    · rw [List.getElem?_append_right (by omega)] at h1
      exact (no _ fr d h1).elim
  refine ⟨?_, s.bh.trans l.bh, s.fh.trans l.bh, s.ab, s.af, s.fb, fun i t h => ?_, fun i j a h1 h2 => s.dj i j a (ownLow h1) (ownLow h2), fun i fr c xs a h1 h2 => ?_⟩
  · rw [List.length_append, List.length_append, List.length_map, hl, l.ln]
  · by_cases hi : i < ds.length
    · obtain ⟨v, ev, en⟩ := s.en i t (low i t hi h)
      exact ⟨v, by rw [lowv i hi]; exact ev, en.stay (Same.refl _) (fun p _ o ho _ => l.bh _ _ ho) fun _ _ _ z => z⟩
    · rw [List.getElem?_append_right (by omega)] at h
      obtain ⟨v, ev, fr, d, e, r⟩ := l.en _ t h
      refine ⟨v, ?_, by rw [e]; exact r B⟩
      rw [List.getElem?_append_right (by omega), hl]
      exact ev
  · by_cases hi : i < ds.length
    · exact s.oo i fr c xs a (low i _ hi h1) (by rw [← lowv i hi]; exact h2)
    · rw [List.getElem?_append_right (by omega)] at h1
      exact (no _ fr _ h1).elim
/-! ### the end's own change -/
/-- at the end the statement th does a change deep inside what is new; hv says whether the state lets it -/
def Hav (Γ : Gm) (W : WX) (th : TS) (hv : MS) (ws : List Nat) : Prop := ∀ (B : Hp) (A : Ao) (F H : Hp) (σ : L2.St) (st st2 : Sta) (D : Ends), SR Γ B A F H σ st → hv st = .ok (.next, st2) →
  (∀ (σ' : L2.St) (H' : Hp), σ'.length = σ.length → (∀ i, i ∉ ws → σ'[i]? = σ[i]?) → (∀ a u, B a = some u → H' a = some u) → D.nx σ' H') → th D σ H
def mBlk (M hv : MS) (ws : List Nat) : MS := fun st => match M (oldS st) with
  | .ok (.next, st1) => (match hv st1 with
    | .ok (.next, _) => .ok (.next, leaveS ws st1)
    | _ => .stuck)
  | .ok (.ret t, st1) => if t.k = .frz ∧ t.d.atom = true then .ok (.ret t, leaveS ws st1) else .stuck
  | .ok (.brk, _) => .stuck
  | .ok (.cont, _) => .stuck
  | .err ⟨n, none⟩ st1 => .err ⟨n, none⟩ (leaveS ws st1)
  | .err ⟨_, some _⟩ _ => .stuck
  | .stuck => .stuck
/-- the block's statements, behind them T0 -/
inductive Bk (Γ : Gm) (W : WX) (T0 : TS) : MS → TS → Prop where
  | one {m : MS} : Bk Γ W T0 m (tSeq (msOf Γ W m) T0)
  | cons {m r : MS} {T : TS} (b : Bk Γ W T0 r T) : Bk Γ W T0 (mSeq m r) (tSeq (msOf Γ W m) T)
theorem ms_mono {m : MS} {D D' : Ends} (h : msOf Γ W m D σ H) (nx : ∀ σ H, D.nx σ H → D'.nx σ H) (rt : D'.rt = D.rt) (bk : D'.bk = D.bk) (ct : D'.ct = D.ct) : msOf Γ W m D' σ H := by
  obtain ⟨B, A, F, τ, ds, st, hl, nb, s, q⟩ := h
  refine ⟨B, A, F, τ, ds, st, hl, nb, s, ?_⟩
  cases e : m st with
  | stuck => rw [e] at q; exact q
  | err c st1 => rw [e] at q; exact q
  | ok p =>
    obtain ⟨c, st1⟩ := p
    rw [e] at q
    cases c with
    | next => exact fun σ' H' F' f s => nx _ _ (q σ' H' F' f s)
    | brk => exact fun σ' H' F' f s => by rw [bk]; exact q σ' H' F' f s
    | cont => exact fun σ' H' F' f s => by rw [ct]; exact q σ' H' F' f s
    | ret t => exact ⟨q.1, fun v σ' H' F' f s => by rw [rt]; exact q.2 v σ' H' F' f s⟩
theorem Bk.run {T0 : TS} {M : MS} {T : TS} (b : Bk Γ W T0 M T) : ∀ {D : Ends} {σ : L2.St} {H : Hp}, msOf Γ W M { D with nx := T0 D } σ H → T D σ H := by
  induction b with
  | one => exact fun h => h
  | cons b ih =>
    intro D σ H h
    exact ms_mono (se_seq h) (fun σ H z => ih z) rfl rfl rfl
theorem se_blk {M hv mrest : MS} {ws : List Nat} {th T : TS} (hh : Hav Γ W th hv ws) (b : Bk Γ W (tSeq th (msOf Γ W mrest)) M T) {D : Ends} (h : msOf Γ W (mSeq (mBlk M hv ws) mrest) D σ H) : T D σ H := by
  refine b.run ?_
  have h := se_seq h
  obtain ⟨B, A, F, τ, ds, st, hl, nb, s, q⟩ := h
  obtain ⟨F1, f1, s1⟩ := SR.frzAll st ds F s
  have s2 := s1.enter hl
  refine ⟨H, ⟨F1, none⟩, F1, [], [], oldS st, rfl, fun j t e => by simp at e, s2, ?_⟩
  have q : sPost Γ W B A τ ds (sP Γ B A τ ds { D with nx := msOf Γ W mrest D }) F (mBlk M hv ws st) := q
  unfold mBlk at q
  cases e : M (oldS st) with
  | stuck => rw [e] at q; exact q.elim
  | err c st1 =>
    rw [e] at q
    obtain ⟨cn, cx⟩ := c
    cases cx with
    | some _ => exact q.elim
    | none =>
      intro C d σ' H' F' g f y s3
      have s4 : SR Γ H ⟨F1, none⟩ F' H' σ' st1 := s3
      have y : d = none := y
      rw [y]
      exact q C none σ' H' F1 g f1 Pay.plain (LR.back hl s1 (s4.leave.wipe rfl (fun _ _ => rfl) s4.bh))
  | ok p =>
    obtain ⟨c, st1⟩ := p
    rw [e] at q
    cases c with
    | brk => exact q.elim
    | cont => exact q.elim
    | ret t =>
      have q : sPost Γ W B A τ ds (sP Γ B A τ ds { D with nx := msOf Γ W mrest D }) F (if t.k = .frz ∧ t.d.atom = true then .ok (.ret t, leaveS ws st1) else .stuck) := q
      by_cases c : t.k = .frz ∧ t.d.atom = true
      · rw [if_pos c] at q
        refine ⟨q.1, fun v σ' H' F' f s3 => ?_⟩
        have s3 : SR Γ H ⟨F1, none⟩ F' H' (some v :: σ') (some t :: st1) := s3
        obtain ⟨k, fr, d⟩ := t
        have c1 : k = .frz := c.1
        subst c1
        have r : Rep Γ (sel fr H F') d v := s3.top
        exact q.2 v σ' H' F1 f1 ((LR.back hl s1 ((SR.leave s3.pop).wipe rfl (fun _ _ => rfl) s3.bh)).push (t := ⟨.frz, fr, d⟩) (Rep.atom r c.2) (by intro z; cases z))
      · rw [if_neg c] at q
        exact q.elim
    | next =>
      have q : sPost Γ W B A τ ds (sP Γ B A τ ds { D with nx := msOf Γ W mrest D }) F (match hv st1 with
        | .ok (.next, _) => .ok (.next, leaveS ws st1)
        | _ => .stuck) := q
      cases e2 : hv st1 with
      | stuck => rw [e2] at q; exact q.elim
      | err c st2 => rw [e2] at q; exact q.elim
      | ok p2 =>
        obtain ⟨c2, st2⟩ := p2
        rw [e2] at q
        cases c2 with
        | brk => exact q.elim
        | cont => exact q.elim
        | ret t => exact q.elim
        | next =>
          intro σ' H' F' f s3
          have s3 : SR Γ H ⟨F1, none⟩ F' H' σ' st1 := s3
          refine hh H ⟨F1, none⟩ F' H' σ' st1 st2 _ s3 e2 fun σ3 H3 l3 k3 b3 => ?_
          exact q σ3 H3 F1 f1 (LR.back hl s1 (s3.leave.wipe l3 k3 b3))
/-- o.append(e), o new -/
def havK (t : TV) (st : Sta) : Res (Ctl × Sta) := match t with
  | ⟨.frz, true, .lst xs⟩ => if xs.length < 16777216 then .ok (.next, st) else .stuck
  | _ => .stuck
def mHavA (mo me : ME) : MS := fun st => (mo st).bind fun p => (me p.2).bind fun q => havK p.1 q.2
theorem new_lst {xs : List D} {v : V} (h : Ent Γ B F H ⟨.frz, true, .lst xs⟩ v) (fh : Same F H) : ∃ p vs, v = .ref p ∧ B p = none ∧ H p = some (.lst vs) ∧ xs.length = vs.length := by
  have h : Rep Γ (minus F B) (.lst xs) v := h
  simp only [Rep] at h
  obtain ⟨p, vs, h1, h2, h3⟩ := h
  refine ⟨p, vs, h1, ?_, fh _ _ (minus_same _ _ h2), h3.length⟩
  unfold minus at h2
  cases q : B p with
  | none => rfl
  | some u => rw [q] at h2; cases h2
theorem hav_app {mo me : ME} : Hav Γ W (tDrop (tBM Γ.K "list" rAppend (teOf Γ W mo) (tCons (teOf Γ W me) tNil))) (mHavA mo me) [] := by
  intro B A F H σ st st2 D s e k
  unfold mHavA at e
  cases e1 : mo st with
  | stuck => rw [e1] at e; cases e
  | err c st1 => rw [e1] at e; cases e
  | ok p =>
    obtain ⟨t, st1⟩ := p
    rw [e1] at e
    have e : ((me st1).bind fun q => havK t q.2) = Res.ok (Ctl.next, st2) := e
    cases e2 : me st1 with
    | stuck => rw [e2] at e; cases e
    | err c st3 => rw [e2] at e; cases e
    | ok p =>
      obtain ⟨t2, st3⟩ := p
      rw [e2] at e
      have e : havK t st3 = Res.ok (Ctl.next, st2) := e
      obtain ⟨kd, fr, d⟩ := t
      cases kd with
      | frz =>
        cases fr with
        | true =>
          cases d with
          | lst xs =>
            have e : (if xs.length < 16777216 then Res.ok (Ctl.next, st3) else .stuck) = Res.ok (Ctl.next, st2) := e
            by_cases c : xs.length < 16777216
            · refine ⟨B, A, F, [], [], st, rfl, s, ?_⟩
              rw [e1]
              intro v H1 F1 f1 s1
              have s1 : SR Γ B A F1 H1 (some v :: σ) (some ⟨.frz, true, .lst xs⟩ :: st1) := s1
              obtain ⟨p, vs, rfl, hb, hp, hl⟩ := new_lst s1.top s1.fh
              refine ⟨.inl ⟨rfl, vs, SqL.of hp⟩, ?_⟩
              refine ⟨B, A, F1, [some (.ref p)], [some ⟨.frz, true, .lst xs⟩], st1, rfl, s1, ?_⟩
              rw [e2]
              intro w H2 F2 f2 s2
              have s2 : SR Γ B A F2 H2 (some w :: some (.ref p) :: σ) (some t2 :: some ⟨.frz, true, .lst xs⟩ :: st3) := s2
              obtain ⟨p', us, e3, hb', hp', hl'⟩ := new_lst s2.pop.top s2.fh
              cases e3
              refine ⟨p, us, w, rfl, rfl, hp', by rw [← hl', sizeLine_eq]; exact c, ?_⟩
              refine k σ _ rfl (fun _ _ => rfl) fun a u h => ?_
              rw [upd_ne (fun z => by rw [z, hb] at h; cases h)]
              exact s2.bh _ _ h
            · rw [if_neg c] at e
              cases e
          | _ => cases e
        | false => cases d <;> cases e
      | own => cases d <;> cases e
      | bor => cases d <;> cases e
      | old => cases d <;> cases e
/-- o[i] = e, o new -/
def havK2 (t : TV) (d : D) (st : Sta) : Res (Ctl × Sta) := match t, d with
  | ⟨.frz, true, .lst xs⟩, .int i => if (setIx xs i .non).isSome = true then .ok (.next, st) else .stuck
  | _, _ => .stuck
def mHavS (mo mi me : ME) : MS := fun st => (me st).bind fun r => (mo r.2).bind fun p => (mi p.2).bind fun q => havK2 p.1 q.1.d q.2
theorem hav_set {mo mi me : ME} : Hav Γ W (tAsg (teOf Γ W me) (gSub (teOf Γ W mo) (teOf Γ W mi) rSetL)) (mHavS mo mi me) [] := by
  intro B A F H σ st st2 D s e k
  unfold mHavS at e
  cases e0 : me st with
  | stuck => rw [e0] at e; cases e
  | err c st1 => rw [e0] at e; cases e
  | ok p0 =>
    obtain ⟨t0, st0⟩ := p0
    rw [e0] at e
    have e : ((mo st0).bind fun p => (mi p.2).bind fun q => havK2 p.1 q.1.d q.2) = Res.ok (Ctl.next, st2) := e
    cases e1 : mo st0 with
    | stuck => rw [e1] at e; cases e
    | err c st1 => rw [e1] at e; cases e
    | ok p =>
      obtain ⟨t, st1⟩ := p
      rw [e1] at e
      have e : ((mi st1).bind fun q => havK2 t q.1.d q.2) = Res.ok (Ctl.next, st2) := e
      cases e2 : mi st1 with
      | stuck => rw [e2] at e; cases e
      | err c st3 => rw [e2] at e; cases e
      | ok p =>
        obtain ⟨⟨k2, fr2, d2⟩, st3⟩ := p
        rw [e2] at e
        have e : havK2 t d2 st3 = Res.ok (Ctl.next, st2) := e
        obtain ⟨kd, fr, d⟩ := t
        cases kd with
        | frz =>
          cases fr with
          | true =>
            cases d with
            | lst xs =>
              cases d2 with
              | int i =>
                have e : (if (setIx xs i .non).isSome = true then Res.ok (Ctl.next, st3) else .stuck) = Res.ok (Ctl.next, st2) := e
                by_cases c : (setIx xs i .non).isSome = true
                · obtain ⟨ys, ey⟩ := Option.isSome_iff_exists.mp c
                  obtain ⟨j, j1, _⟩ := setIx_ix ey
                  refine ⟨B, A, F, [], [], st, rfl, s, ?_⟩
                  rw [e0]
                  intro v0 H0 F0 f0 s0
                  refine ⟨B, A, F0, [some v0], [some t0], st0, rfl, s0, ?_⟩
                  rw [e1]
                  intro v H1 F1 f1 s1
                  have s1 : SR Γ B A F1 H1 (some v :: some v0 :: σ) (some ⟨.frz, true, .lst xs⟩ :: some t0 :: st1) := s1
                  refine ⟨B, A, F1, [some v, some v0], [some ⟨.frz, true, .lst xs⟩, some t0], st1, rfl, s1, ?_⟩
                  rw [e2]
                  intro w H2 F2 f2 s2
                  have s2 : SR Γ B A F2 H2 (some w :: some v :: some v0 :: σ) (some ⟨k2, fr2, .int i⟩ :: some ⟨.frz, true, .lst xs⟩ :: some t0 :: st3) := s2
                  obtain ⟨p, us, rfl, hb, hp, hl⟩ := new_lst s2.pop.top s2.fh
                  refine ⟨p, us, i, j, rfl, s2.top.int, hp, by rw [← hl]; exact j1, ?_⟩
                  refine k σ _ rfl (fun _ _ => rfl) fun a u h => ?_
                  rw [upd_ne (fun z => by rw [z, hb] at h; cases h)]
                  exact s2.bh _ _ h
                · rw [if_neg c] at e
                  cases e
              | _ => cases e
            | _ => cases d2 <;> cases e
          | false => cases d <;> cases d2 <;> cases e
        | own => cases d <;> cases d2 <;> cases e
        | bor => cases d <;> cases d2 <;> cases e
        | old => cases d <;> cases d2 <;> cases e
end
section
variable {Γ : Gm} {W : WX} {X : Cx} {M hv mrest : MS} {ws : List Nat} {th T : TS} {ss : List Stmt}
theorem qss_blk (hh : Hav Γ W th hv ws) (b : Bk Γ W (tSeq th (msOf Γ W mrest)) M T) (h : PSs X ss T) : PSs X ss (msOf Γ W (mSeq (mBlk M hv ws) mrest)) := pss_imp h fun _ _ _ => se_blk hh b
end
end Dl

namespace Dl
open PySem PySem.Spec PyProof.Rows L2
/-! ## sorted -/
section
variable {Γ : Gm} {W : WX} {X : Cx}
theorem room_u {j : Nat} {A : Around} (hr : Room j A) : A.units + 64 < cLine := by
  have := hr.un
  omega
/-- sorted(xs) of alike data: a new list -/
def rSortedD (K : PySem.W.Frag) : List V → Hp → VK → Prop := fun vs H Q => ∃ (a : Addr) (bs : List (V × D)), vs = [V.ref a] ∧ SqL K H a (bs.map (·.1)) ∧ (∀ b ∈ bs, Dp K H b.1 b.2.pd) ∧ PySem.W.AllAlike (bs.map fun b => b.2.pd) ∧ PySem.W.Sortable (bs.map fun b => b.2.pd) ∧ (∀ b ∈ bs, b.2.pd.depth ≤ 60) ∧
  ∀ p, H p = none → Q (.ref p) (upd H p (.lst ((bs.mergeSort (PySem.W.dataLe false fun b => b.2.pd)).map (·.1))))
theorem each_of {R : Value → V × D → Prop} : ∀ {bs : List (V × D)} {us : List Value}, Vals (bs.map (·.1)) us → (∀ b ∈ bs, ∀ u, RelV b.1 u → R u b) → PySem.W.EachIs R us bs
  | [], _, r, _ => by
    cases r
    exact .nil
  | b :: bs, _, r, h => by
    cases r with
    | cons r1 r2 => exact .cons (h b List.mem_cons_self _ r1) (each_of r2 fun c hc => h c (List.mem_cons_of_mem _ hc))
theorem of_each : ∀ {bs : List (V × D)} {us : List Value}, PySem.W.EachIs (fun u (b : V × D) => RelV b.1 u) us bs → Vals (bs.map (·.1)) us
  | _, _, .nil => .nil
  | _, _, .cons h t => .cons h (of_each t)
theorem cr_sortedD (hu : X.A.units + 64 < cLine) : CallR X (.builtin "sorted") (rSortedD X.K) := by
  intro pins s σ H vs us Q I r h
  obtain ⟨a, bs, rfl, hs, hd, hal, hk, hdep, q⟩ := h
  obtain ⟨its, rv, hl, hz⟩ := I.list hs
  rw [Vals.ref1 r]
  have hz2 : bs.length ≤ sizeLine := by rwa [List.length_map] at hz
  refine PySem.W.sorted_data (R := fun u (b : V × D) => RelV b.1 u) (enc := fun b => b.2.pd) hl.isList (each_of rv fun b _ u hu => hu) (each_of rv fun b hb u hu => Dp.reads I _ _ _ (hd b hb) hu) hal hk hz2 (fun b hb => by have := hdep b hb; omega) fun out hlen ho => ?_
  obtain ⟨ep, he'⟩ := PyProof.Rows.sortedAll_at s.heap its out.toArray
  have hlen2 : ((bs.mergeSort (PySem.W.dataLe false fun b => b.2.pd)).map (·.1)).length ≤ sizeLine := by
    rw [List.length_map, List.length_mergeSort]
    exact hz2
  exact ⟨.ref _, upd H (s.heap.objs.size + 1) (.lst ((bs.mergeSort (PySem.W.dataLe false fun b => b.2.pd)).map (·.1))), I.laid (t' := s.toks) (fun _ _ => PyProof.Rows.sortedAll_old) (Nat.le_succ _) ⟨hlen2, out, ep, of_each ho, he'⟩, rfl, q _ (I.hok.fresh (Nat.le_succ _))⟩
/-! ### on data -/
def isTup1 : D → Bool
  | .tup (_ :: _) => true
  | _ => false
def notNT : D → Bool
  | .non => false
  | .tup _ => false
  | .obj _ _ => false
  | .exc _ _ => false
  | .xcp _ _ _ _ _ => false
  | .fl _ => false
  | _ => true
def okSort (xs : List D) : Bool := (xs.all fun x => x.plain 60 && decide (x.pd.depth ≤ 60)) && ((xs.all fun x => xs.all fun y => PySem.W.alike x.pd y.pd) && (xs.all isTup1 || xs.all notNT))
def sortD (xs : List D) : List D := xs.mergeSort (PySem.W.dataLe false D.pd)
def fSorted (a : TV) : Option TV := match a.d with
  | .lst xs => if okSort xs = true then some ⟨.own, a.fr, .lst (sortD xs)⟩ else none
  | _ => none
theorem repL_zip {F : Hp} : ∀ {xs : List D} {us : List V}, RepL Γ F xs us → us.length = xs.length ∧ ∀ b ∈ us.zip xs, Rep Γ F b.2 b.1
  | [], us, h => by
    have h : us = [] := by simpa only [RepL] using h
    subst h
    exact ⟨rfl, fun b hb => by cases hb⟩
  | x :: xs, us, h => by
    simp only [RepL] at h
    obtain ⟨v, r, rfl, h1, h2⟩ := h
    obtain ⟨e, k⟩ := repL_zip h2
    refine ⟨by rw [List.length_cons, List.length_cons, e], fun b hb => ?_⟩
    rw [List.zip_cons_cons] at hb
    rcases List.mem_cons.mp hb with g | g
    · rw [g]; exact h1
    · exact k b g
theorem zip_repL {F : Hp} : ∀ {zs : List (V × D)}, (∀ b ∈ zs, Rep Γ F b.2 b.1) → RepL Γ F (zs.map (·.2)) (zs.map (·.1))
  | [], _ => by simp only [List.map_nil, RepL]
  | z :: zs, h => by
    simp only [List.map_cons, RepL]
    exact ⟨z.1, _, rfl, h z List.mem_cons_self, zip_repL fun b hb => h b (List.mem_cons_of_mem _ hb)⟩
theorem does_sorted : DoesA Γ (g1 fSorted) (rSortedD Γ.K) := by
  refine doesA1 (f := fSorted) (r := fun x H Q => ∃ (a : Addr) (bs : List (V × D)), x = V.ref a ∧ SqL Γ.K H a (bs.map (·.1)) ∧ (∀ b ∈ bs, Dp Γ.K H b.1 b.2.pd) ∧ PySem.W.AllAlike (bs.map fun b => b.2.pd) ∧ PySem.W.Sortable (bs.map fun b => b.2.pd) ∧ (∀ b ∈ bs, b.2.pd.depth ≤ 60) ∧
    ∀ p, H p = none → Q (.ref p) (upd H p (.lst ((bs.mergeSort (PySem.W.dataLe false fun b => b.2.pd)).map (·.1))))) ?_ g1_of (fun x H Q ⟨a, bs, h, r⟩ => ⟨a, bs, by rw [h], r⟩)
  intro B A F H vs ts x a t s e Q q
  obtain ⟨ka, fa, da⟩ := a
  cases da with
  | lst xs =>
    unfold fSorted at e
    dsimp only at e
    split at e
    · rename_i c
      cases e
      obtain ⟨p, us, h1, h2, h3⟩ := s.top.lst s.fh
      obtain ⟨hl, hz⟩ := repL_zip h3
      obtain ⟨c1, c2⟩ := Bool.and_eq_true_iff.mp c
      obtain ⟨c2, c3⟩ := Bool.and_eq_true_iff.mp c2
      have e1 : (us.zip xs).map (·.1) = us := List.map_fst_zip (by omega)
      have e2 : (us.zip xs).map (·.2) = xs := List.map_snd_zip (by omega)
      have mx : ∀ b ∈ us.zip xs, b.2 ∈ xs := fun b hb => (List.of_mem_zip hb).2
      have pl : ∀ b ∈ us.zip xs, b.2.plain 60 = true ∧ b.2.pd.depth ≤ 60 := fun b hb => by
        obtain ⟨k1, k2⟩ := Bool.and_eq_true_iff.mp (List.all_eq_true.mp c1 _ (mx b hb))
        exact ⟨k1, of_decide_eq_true k2⟩
      have em : (us.zip xs).map (fun b => b.2.pd) = xs.map D.pd := by
        rw [← e2, List.map_map, e2]
        rfl
      have w : Same (sel fa B F) H := sel_same.trans s.fh
      refine ⟨p, us.zip xs, h1, ?_, fun b hb => rep_dp _ 60 _ (pl b hb).1 (Rep.mono w (hz b hb)), ?_, ?_, fun b hb => (pl b hb).2, fun l hl2 => ?_⟩
      · rw [e1]
        exact SqL.of h2
      · rw [em]
        intro d hd d' hd'
        obtain ⟨x, hx, rfl⟩ := List.mem_map.mp hd
        obtain ⟨y, hy, rfl⟩ := List.mem_map.mp hd'
        exact List.all_eq_true.mp (List.all_eq_true.mp c2 x hx) y hy
      · rw [em]
        rcases Bool.or_eq_true_iff.mp c3 with g | g
        · left
          intro d hd
          obtain ⟨x, hx, rfl⟩ := List.mem_map.mp hd
          have := List.all_eq_true.mp g x hx
          cases x with
          | tup l =>
            cases l with
            | nil => cases this
            | cons y l => exact ⟨y.pd, D.pdL l, by simp only [D.pd, D.pdL]⟩
          | _ => cases this
        · right
          intro d hd
          obtain ⟨x, hx, rfl⟩ := List.mem_map.mp hd
          have := List.all_eq_true.mp g x hx
          cases x with
          | non => cases this
          | tup _ => cases this
          | obj _ _ => cases this
          | exc _ _ => cases this
          | xcp _ _ _ _ _ => cases this
          | fl _ => cases this
          | _ =>
            exact ⟨fun z => (by unfold D.pd at z; cases z), fun _ z => (by unfold D.pd at z; cases z)⟩
      · have k1 : ((us.zip xs).mergeSort (PySem.W.dataLe false fun b => b.2.pd)).map (·.2) = sortD xs := by
          have k := List.map_mergeSort (r := PySem.W.dataLe false fun b : V × D => b.2.pd) (s := PySem.W.dataLe false D.pd) (f := fun b : V × D => b.2) (l := us.zip xs) (fun _ _ _ _ => rfl)
          unfold sortD
          rw [k, e2]
        have k2 : RepL Γ (sel fa B F) (sortD xs) (((us.zip xs).mergeSort (PySem.W.dataLe false fun b => b.2.pd)).map (·.1)) := by
          rw [← k1]
          exact zip_repL fun b hb => hz b (List.mem_mergeSort.mp hb)
        exact q _ _ F (Same.refl _) (s.pop.alloc hl2 k2)
    · cases e
  | _ => cases e
/-! ### the least and the greatest of a list of integers -/
def minI : List Int → Int
  | [] => 0
  | [x] => x
  | x :: y :: r => if minI (y :: r) < x then minI (y :: r) else x
def maxI : List Int → Int
  | [] => 0
  | [x] => x
  | x :: y :: r => if x < maxI (y :: r) then maxI (y :: r) else x
theorem minI_spec : ∀ {ns : List Int}, ns ≠ [] → minI ns ∈ ns ∧ ∀ y ∈ ns, minI ns ≤ y
  | [], h => absurd rfl h
  | [x], _ => ⟨List.mem_singleton_self x, fun y hy => by rw [List.mem_singleton.mp hy]; exact Int.le_refl x⟩
  | x :: y :: r, _ => by
    obtain ⟨i1, i2⟩ := minI_spec (ns := y :: r) (by simp)
    unfold minI
    split
    · rename_i c
      refine ⟨List.mem_cons_of_mem _ i1, fun z hz => ?_⟩
      rcases List.mem_cons.mp hz with e | e
      · rw [e]; omega
      · exact i2 z e
    · rename_i c
      refine ⟨List.mem_cons_self, fun z hz => ?_⟩
      rcases List.mem_cons.mp hz with e | e
      · rw [e]; exact Int.le_refl x
      · have := i2 z e
        omega
theorem maxI_spec : ∀ {ns : List Int}, ns ≠ [] → maxI ns ∈ ns ∧ ∀ y ∈ ns, y ≤ maxI ns
  | [], h => absurd rfl h
  | [x], _ => ⟨List.mem_singleton_self x, fun y hy => by rw [List.mem_singleton.mp hy]; exact Int.le_refl x⟩
  | x :: y :: r, _ => by
    obtain ⟨i1, i2⟩ := maxI_spec (ns := y :: r) (by simp)
    unfold maxI
    split
    · rename_i c
      refine ⟨List.mem_cons_of_mem _ i1, fun z hz => ?_⟩
      rcases List.mem_cons.mp hz with e | e
      · rw [e]; omega
      · exact i2 z e
    · rename_i c
      refine ⟨List.mem_cons_self, fun z hz => ?_⟩
      rcases List.mem_cons.mp hz with e | e
      · rw [e]; exact Int.le_refl x
      · have := i2 z e
        omega
def fMinL (a : TV) : Option TV := match a.d with
  | .lst xs => (D.ints xs).bind fun ns => if ns ≠ [] then some (.i (minI ns)) else none
  | _ => none
def fMaxL (a : TV) : Option TV := match a.d with
  | .lst xs => (D.ints xs).bind fun ns => if ns ≠ [] then some (.i (maxI ns)) else none
  | _ => none
theorem does_minL : DoesA Γ (g1 fMinL) (rMin Γ.K) := by
  refine doesA1 (f := fMinL) (r := fun x H Q => ∃ (a : Addr) (ns : List Int), x = V.ref a ∧ SqL Γ.K H a (ns.map V.int) ∧ 0 < ns.length ∧ ∀ m, m ∈ ns → (∀ y, y ∈ ns → m ≤ y) → Q (.int m) H) ?_ g1_of (fun x H Q ⟨p, ys, h, r⟩ => ⟨p, ys, by rw [h], r⟩)
  intro B A F H vs ts x a t s e Q q
  obtain ⟨ka, fa, da⟩ := a
  cases da with
  | lst xs =>
    obtain ⟨ns, e1, e2⟩ := Option.bind_eq_some_iff.mp (show (D.ints xs).bind (fun ns => if ns ≠ [] then some (TV.i (minI ns)) else none) = some t from e)
    split at e2
    · rename_i c
      have e3 := D.ints_of e1
      subst e3
      cases e2
      obtain ⟨p, us, h1, h2, h3⟩ := s.top.lst s.fh
      rw [h3.ints] at h2
      obtain ⟨k1, k2⟩ := minI_spec c
      refine ⟨p, ns, h1, SqL.of h2, List.length_pos_iff.mpr c, fun m hm hy => ?_⟩
      have em : m = minI ns := Int.le_antisymm (hy _ k1) (k2 _ hm)
      rw [em]
      exact q _ H F (Same.refl _) (s.pop.push ent_i (by intro z; cases z))
    · cases e2
  | _ => cases e
theorem does_maxL : DoesA Γ (g1 fMaxL) (rMax Γ.K) := by
  refine doesA1 (f := fMaxL) (r := fun x H Q => ∃ (a : Addr) (ns : List Int), x = V.ref a ∧ SqL Γ.K H a (ns.map V.int) ∧ 0 < ns.length ∧ ∀ m, m ∈ ns → (∀ y, y ∈ ns → y ≤ m) → Q (.int m) H) ?_ g1_of (fun x H Q ⟨p, ys, h, r⟩ => ⟨p, ys, by rw [h], r⟩)
  intro B A F H vs ts x a t s e Q q
  obtain ⟨ka, fa, da⟩ := a
  cases da with
  | lst xs =>
    obtain ⟨ns, e1, e2⟩ := Option.bind_eq_some_iff.mp (show (D.ints xs).bind (fun ns => if ns ≠ [] then some (TV.i (maxI ns)) else none) = some t from e)
    split at e2
    · rename_i c
      have e3 := D.ints_of e1
      subst e3
      cases e2
      obtain ⟨p, us, h1, h2, h3⟩ := s.top.lst s.fh
      rw [h3.ints] at h2
      obtain ⟨k1, k2⟩ := maxI_spec c
      refine ⟨p, ns, h1, SqL.of h2, List.length_pos_iff.mpr c, fun m hm hy => ?_⟩
      have em : m = maxI ns := Int.le_antisymm (k2 _ hm) (hy _ k1)
      rw [em]
      exact q _ H F (Same.refl _) (s.pop.push ent_i (by intro z; cases z))
    · cases e2
  | _ => cases e
end
end Dl

namespace Dl
open PySem PySem.Spec PyProof.Rows L2
/-! ## what the law never comes to: nothing is said of it -/
def mStuck : MS := fun _ => .stuck
def mStuckE : ME := fun _ => .stuck
section
variable {Γ : Gm} {W : WX} {X : Cx}
theorem qs_stuck {s : Stmt} : PS X s (msOf Γ W mStuck) := ⟨fun pins s σ H D I h => by
  obtain ⟨B, A, F, τ, ds, st, hl, nb, sr, q⟩ := h
  exact q.elim⟩
theorem qe_stuck {e : Expr} : PE X e (teOf Γ W mStuckE) := ⟨fun pins s σ H Q I h => by
  obtain ⟨B, A, F, τ, ds, st, hl, sr, q⟩ := h
  exact q.elim⟩
/-! ## i & j -/
def fAnd (a b : TV) : Option TV := match a.d, b.d with
  | .int i, .int j => some (.i (Builtin.bitAnd i j))
  | _, _ => none
theorem does_and : Does2 Γ fAnd (rI0 fun i j => .int (Builtin.bitAnd i j)) := does_int0
theorem qe_band {a b : Expr} {ma mb : ME} {pos : Pos} (ha : PE X a (teOf Γ W ma)) (hb : PE X b (teOf Γ W mb)) : PE X (.BinOp a .BitAnd b pos) (teOf Γ W (mBin fAnd ma mb)) := pe_imp (pe_op op_and ha hb) fun _ _ _ => te_bin does_and
end
end Dl

namespace Dl
open PySem PySem.Spec PyProof.Rows L2
/-! ## the field of a caught exception -/
section
variable {Γ : Gm} {W : WX} {B F F' H H' : Hp} {A : Ao} {τ τ' : List (Option V)} {ds ds' : Sta} {σ : L2.St} {st : Sta}
def XfOk (Γ : Gm) (f : Str) (cs : List Str) : Prop := ∀ c ∈ cs, ∀ C, Γ.mg c = some (.ref C) → XfC Γ.K C ∧ PySem.W.findIn Γ.K (.ref C) f = some none
def xfK (c : Ec) (a dd : Addr) (cs : List Str) (f : Str) (p : TV × Sta) : Res (TV × Sta) := match p.1.d with
  | .xcp c' a' dd' ns xs => if (c' = c.n ∧ a' = a ∧ some dd' = c.dict dd) ∧ c.n ∈ cs then ofO (((ns.zip xs).lookup f).map (TV.el p.1.fr)) p.2 else .stuck
  | _ => .stuck
def mXf (c : Ec) (a dd : Addr) (cs : List Str) (f : Str) (m : ME) : ME := fun st => (m st).bind (xfK c a dd cs f)
theorem repL_lookup {G : Hp} {f : Str} {d : D} : ∀ {ns : List Str} {xs : List D} {vs : List V}, RepL Γ G xs vs → (ns.zip xs).lookup f = some d → ∃ v, (ns.zip vs).lookup f = some v ∧ Rep Γ G d v
  | [], xs, vs, _, e => by cases e
  | n :: ns, [], vs, _, e => by cases e
  | n :: ns, x :: xs, vs, r, e => by
    obtain ⟨v, us, rfl, r1, r2⟩ := r.cons_inv
    rw [List.zip_cons_cons, List.lookup_cons] at e
    rw [List.zip_cons_cons]
    by_cases c : (f == n) = true
    · rw [c] at e
      cases e
      exact ⟨v, by rw [List.lookup_cons, c], r1⟩
    · have c : (f == n) = false := by simpa using c
      rw [c] at e
      obtain ⟨v', h1, h2⟩ := repL_lookup r2 e
      exact ⟨v', by rw [List.lookup_cons, c]; exact h1, h2⟩
theorem te_xf {c : Ec} {a dd C : Addr} {cs : List Str} {f : Str} {m : ME} {H : Hp} {Q : VK} (h : teOf Γ W (mXf c a dd cs f m) σ H Q) : tXf a (.ref C) (c.dict dd) C f (teOf Γ W m) σ H Q := by
  obtain ⟨B, A, F, τ, ds, st, hl, s, q⟩ := h
  refine te_in (τ := τ) (ds := ds) eP.mono hl (fun _ _ _ s => s) s q fun t st1 v1 H1 F1 f1 s1 q1 => ?_
  obtain ⟨k, fr, d⟩ := t
  cases d with
  | xcp c' a' dd' ns xs =>
    have q5 : rPost Γ W B A τ ds σ (eP Γ B A τ ds σ Q) F1 (if (c' = c.n ∧ a' = a ∧ some dd' = c.dict dd) ∧ c.n ∈ cs then ofO (((ns.zip xs).lookup f).map (TV.el fr)) st1 else .stuck) := q1
    by_cases hc : (c' = c.n ∧ a' = a ∧ some dd' = c.dict dd) ∧ c.n ∈ cs
    · rw [if_pos hc] at q5
      obtain ⟨t3, e3, q3⟩ := rPost.ofO q5
      obtain ⟨⟨h1, h2, h3⟩, _⟩ := hc
      subst h2
      obtain ⟨d, e4, e5⟩ := Option.map_eq_some_iff.mp e3
      subst e5
      have key : ∀ G : Hp, Same G H1 → Rep Γ G (.xcp c' a' dd' ns xs) v1 → (∀ v, Rep Γ G d v → ∀ (x : HO), True) → v1 = .ref a' ∧ ∃ fs v, H1 dd' = some (.xd fs) ∧ fs.lookup f = some v ∧ Rep Γ G d v := fun G hG r _ => by
        simp only [Rep] at r
        obtain ⟨r1, vs, r2, r3, r4⟩ := r
        obtain ⟨v, l1, l2⟩ := repL_lookup r4 e4
        exact ⟨r1, _, v, hG _ _ r2, l1, l2⟩
      cases k with
      | frz =>
        obtain ⟨r1, fs, v, r2, r3, r4⟩ := key (sel fr B F1) (sel_same.trans s1.fh) s1.top (fun _ _ _ => trivial)
        exact ⟨r1, rfl, dd', fs, v, h3.symm, r2, r3, q3 v H1 F1 (Same.refl _) (s1.pop.push (t := TV.el fr d) (ent_el r4) (by intro z; cases z))⟩
      | old =>
        obtain ⟨r1, fs, v, r2, r3, r4⟩ := key (sel fr B F1) (sel_same.trans s1.fh) s1.top.unold (fun _ _ _ => trivial)
        exact ⟨r1, rfl, dd', fs, v, h3.symm, r2, r3, q3 v H1 F1 (Same.refl _) (s1.pop.push (t := TV.el fr d) (ent_el r4) (by intro z; cases z))⟩
      | own => exact s1.top.elim
      | bor => exact s1.top.elim
    · rw [if_neg hc] at q5
      exact q5.elim
  | _ => exact q1.elim
section
variable {X : Cx} {a dd C : Addr} {oe : Obj} {i : Nat} {z : Str} {p5 : Pos} {pn : List (Addr × Obj)} {c : Ec} {cs : List Str} {f : Str} {pos : Pos}
theorem qe_xf (ft : Fit Γ W0 (X.suite a ((a, oe) :: pn))) (g : Γ.mg c.n = some (.ref C)) (hz : Zc (.ref C) (c.dict dd) oe) (hf : ∃ vs, oe.data = .fields vs) (hx : XfOk Γ f cs)
    (ha : PE (X.suite a ((a, oe) :: pn)) (.Name z p5) (teOf Γ W0 (mVB i))) (hb : attributeBase (.Name z p5) f X.env (eval (.Name z p5) X.env) = eval (.Name z p5) X.env := by rfl) :
    PE (X.suite a ((a, oe) :: pn)) (.Attribute (.Name z p5) f pos) (teOf Γ W0 (mXf c a dd cs f (mVB i))) := by
  have eK : X.K = Γ.K := ft.K
  by_cases hc : c.n ∈ cs
  · obtain ⟨T, hno⟩ := hx c.n hc C g
    exact pe_imp (pe_xf (by rw [eK]; exact T) (by rw [eK]; exact hno) hz hf ha hb) fun _ _ _ h => te_xf h
  · refine ⟨fun pins s σ H Q I h => ?_⟩
    obtain ⟨B, A, F, τ, ds, st, hl, s, q⟩ := h
    have q : rPost Γ W0 B A τ ds σ (eP Γ B A τ ds σ Q) F ((mVB i st).bind (xfK c a dd cs f)) := q
    have key : ∀ o : Option TV, rPost Γ W0 B A τ ds σ (eP Γ B A τ ds σ Q) F ((ofO o st).bind (xfK c a dd cs f)) → False := fun o q => by
      cases o with
      | none => exact q
      | some t =>
        obtain ⟨k, fr, d⟩ := t
        cases d with
        | xcp c' a' dd' ns xs =>
          have q2 : rPost Γ W0 B A τ ds σ (eP Γ B A τ ds σ Q) F (if (c' = c.n ∧ a' = a ∧ some dd' = c.dict dd) ∧ c.n ∈ cs then ofO (((ns.zip xs).lookup f).map (TV.el fr)) st else .stuck) := q
          rw [if_neg fun z => hc z.2] at q2
          exact q2
        | _ => exact q
    unfold mVB at q
    cases e2 : getS st i with
    | none => rw [e2] at q; exact q.elim
    | some t => rw [e2] at q; exact (key _ q).elim
end
/-! ## an exception whose __init__ lays one field -/
/-- the field's value -/
def iniE (n : Nat) (m : ME) (ds : List D) : Option (Bool × D) := match m (none :: startD (n - 1) ds) with
  | .ok (⟨.frz, fr, d⟩, _) => some (fr, d)
  | _ => none
/-- what such an __init__ keeps: B the heap without the exception -/
def spE (Γ : Gm) (f : Str) (n : Nat) (g : List D → Option (Bool × D)) : Sp := fun vs H Q _ => ∃ B A a C us ds, vs = .ref a :: us ∧ us.length = n ∧ OexC Γ.K C ∧ PySem.W.findIn Γ.K (.ref C) f = some none ∧ B a = none ∧ H = upd B a (exo a C none) ∧ Same A B ∧ RepL Γ A ds us ∧ match g ds with
  | some (fr, d) => ∀ H2 F' dx v, Same (upd B a (exo a C none)) H2 → Same A F' → Same F' H2 → (∀ x o, F' x = some o → A x = some o ∨ B x = none) → F' a = none → H2 dx = none → dx ≠ a → Rep Γ (sel fr B F') d v → Q .non (upd (upd H2 dx (exd dx [(f, v)])) a (exo a C (some dx)))
  | none => False
structure OexOk (Γ : Gm) (P : Program) (w : World) (base : Heap) (k : Nat) (x f : Str) (ps : List Str) (g : List D → Option (Bool × D)) : Prop where
  ok : ∃ C fI fd, Γ.mg x = some (.ref C) ∧ OexC Γ.K C ∧ PySem.W.findIn Γ.K (.ref C) f = some none ∧ PySem.W.findIn Γ.K (.ref C) "__init__" = some (some (.ref fI)) ∧ PySem.W.typeIn Γ.K (.ref fI) = some (.type "function") ∧ Binds Γ.K fd ("self" :: ps) [] ∧ FnOk P w Γ.K Γ.mg base (L2.CX P w) k fI fd ("self" :: ps) (spE Γ f ps.length g)
def mRaiseX (x f : Str) (g : List D → Option (Bool × D)) (ms : MA) : MS := fun st => (ms st).bind fun p => if allFrz p.1 = true ∧ p.1.length ≤ 1000 then (match g (p.1.map (·.d)) with
  | some (fr, d) => .err ⟨x, some (fr, [f], [d])⟩ p.2
  | none => .stuck) else .stuck
theorem se_raiseX {x f : Str} {C : Addr} {n : Nat} {g : List D → Option (Bool × D)} {ms : MA} {D : Ends} {H : Hp} (hC : Γ.mg x = some (.ref C)) (T : OexC Γ.K C) (hno : PySem.W.findIn Γ.K (.ref C) f = some none) (hn : ∀ ts st st', ms st = .ok (ts, st') → ts.length = n) (h : msOf Γ W (mRaiseX x f g ms) D σ H) :
    tMkO C (spE Γ f n g) [] (taOf Γ W ms) σ H fun cls d H => W cls d σ H := by
  obtain ⟨B, A, F, τ, ds, st, hl, nb, s, q⟩ := h
  refine ⟨B, A, F, τ, ds, st, hl, s, sPost.bind (fun _ _ _ _ s => s) q fun ts st1 em q1 vs H1 F1 hlen f1 s1 => ?_⟩
  have q5 : sPost Γ W B A τ ds (sP Γ B A τ ds D) F1 (if allFrz ts = true ∧ ts.length ≤ 1000 then (match g (ts.map (·.d)) with
    | some (fr, d) => .err ⟨x, some (fr, [f], [d])⟩ st1
    | none => .stuck) else .stuck) := q1.mono sP.mono f1
  have sp := SR.popV hlen s1
  by_cases hc : allFrz ts = true ∧ ts.length ≤ 1000
  · rw [if_pos hc] at q5
    refine ⟨by omega, fun a ha => ?_⟩
    have hb : Same H1 (upd H1 a (exo a C none)) := same_upd_new ha
    refine ⟨H1, F1, a, C, vs ++ [], ts.map (·.d), rfl, by rw [List.append_nil, hlen]; exact hn ts st st1 em, T, hno, ha, rfl, sp.fh, by rw [List.append_nil]; exact SR.args hlen s1 (allFrz_of hc.1), ?_⟩
    cases eg : g (ts.map (·.d)) with
    | none => rw [eg] at q5; exact q5.elim
    | some p =>
      obtain ⟨fr, d⟩ := p
      rw [eg] at q5
      intro H2 F' dx v e1 e2 e3 e4 e5 e6 e7 r
      have h1x : H1 dx = none := by
        have z := e1.free e6
        rw [upd_ne e7] at z
        exact z
      have at_ : ∀ y o, H1 y = some o → upd (del (upd (upd H2 dx (exd dx [(f, v)])) a (exo a C (some dx))) a) dx (.xd [(f, v)]) y = some o := fun y o hy => by
        have ya : y ≠ a := fun z => by rw [z, ha] at hy; cases hy
        have yx : y ≠ dx := fun z => by rw [z, h1x] at hy; cases hy
        rw [upd_ne yx, del_ne ya, upd_ne ya, upd_ne yx]
        exact e1 _ _ (by rw [upd_ne ya]; exact hy)
      refine ⟨rfl, dx, [(f, v)], upd_same, by rw [upd_ne e7, upd_same], h1x, ?_⟩
      refine q5 C (some dx) σ _ (upd F' dx (.xd [(f, v)])) hC (e2.trans (same_upd_new (e3.free e6))) ?_ (sp.grow at_ (e2.trans (same_upd_new (e3.free e6))) (fun y o hy => ?_) fun y o hy => ?_)
      · refine ⟨dx, [v], rfl, ?_, sp.bh.free h1x, rfl, RepL.cons (Rep.mono ?_ r) RepL.nil⟩
        · rw [upd_same]; rfl
        · exact (sel_mono2 sp.bh).trans (sel_mono (same_upd_new (e3.free e6)))
      · by_cases c : y = dx
        · subst c
          rw [upd_same] at hy ⊢
          exact hy
        · rw [upd_ne c] at hy
          have ya : y ≠ a := fun z => by rw [z, e5] at hy; cases hy
          rw [upd_ne c, del_ne ya, upd_ne ya, upd_ne c]
          exact e3 _ _ hy
      · by_cases c : y = dx
        · subst c
          exact .inr h1x
        · rw [upd_ne c] at hy
          exact e4 _ _ hy
  · rw [if_neg hc] at q5
    exact q5.elim
section
variable {X : Cx} {x f : Str} {e : Expr} {es : List Expr} {p p3 pos : Pos} {k j : Nat} {ps : List Str} {g : List D → Option (Bool × D)} {ms : MA}
theorem qs_raiseX (h : OexOk Γ X.prog X.w X.base k x f ps g) (ft : Fit Γ W X) (hr : Room j X.A) (kj : k + 1 ≤ j) (hc : X.calm = true) (hg : Gl X x) (ha : PA X (e :: es) (taOf Γ W ms)) (hn : Len ms ps.length) (hdb : (x == ("__debug__" : Str)) = false := by decide)
    (he : starEach (e :: es) X.env = (false, eval e X.env) :: starEach es X.env := by rfl) (hpl : (backTo p3 (starEach es X.env)).any (·.1) = false := by rfl) :
    PS X (.Raise (some (.Call (.Name x p) (e :: es) [] p3)) none pos) (msOf Γ W (mRaiseX x f g ms)) := by
  obtain ⟨C, fI, fd, h1, h2, h3, h4, h5, h6, h7⟩ := h.ok
  rw [← ft.K, ← ft.mg] at h7
  exact ps_imp (ps_raise hc ft.tk (pmk_oex (ft.K ▸ h2) (ft.K ▸ h4) (ft.K ▸ h5) h7 (hr.mono kj) (ft.K ▸ h6) .nil passF hg (by rw [ft.mg]; exact h1) ha hdb he hpl)) fun D σ H q => se_raiseX h1 h2 h3 hn.1 q
end
/-! ### its __init__ -/
theorem xini_run {N ps : List Str} {f : Str} {m : ME} {vs : List V} {H : Hp} {Q : VK} {E : XK} (hN : ps.length + 1 ≤ N.length) (h : spE Γ f ps.length (iniE N.length m) vs H Q E) : tOst Γ.K f (tVar 0) (teOf Γ (wE E) m) { nx := fun _ H' => Q .non H', rt := Q } (L2.start N vs) H := by
  obtain ⟨B, A, a, C, us, ds, rfl, hl, T, hno, ba, rfl, ab, r, q⟩ := h
  have ln := r.length
  have hb : Same B (upd B a (exo a C none)) := same_upd_new ba
  have s0 : SR Γ (upd B a (exo a C none)) ⟨A, none⟩ A (upd B a (exo a C none)) (L2.start (N.drop 1) us) (startD (N.drop 1).length ds) := sr_start (ab.trans hb) r (by rw [List.length_drop]; omega)
  have s1 := (s0.push (t := ⟨.frz, true, .exc "" a⟩) (v := .ref a) (show Rep Γ (sel true (upd B a (exo a C none)) A) (.exc "" a) (.ref a) from by simp only [Rep]) (by intro z; cases z)).clear 0
  have es : L2.start N (.ref a :: us) = some (.ref a) :: L2.start (N.drop 1) us := by
    unfold L2.start
    rw [List.map_cons, List.cons_append, List.length_cons, List.length_drop]
    congr 3
    omega
  rw [es]
  rw [List.length_drop] at s1
  unfold iniE at q
  refine ⟨upd B a (exo a C none), ⟨A, none⟩, A, [], [], _, rfl, s1, ?_⟩
  show rPost Γ (wE E) _ _ [] [] _ _ A (m (none :: startD (N.length - 1) ds))
  cases em : m (none :: startD (N.length - 1) ds) with
  | stuck => rw [em] at q; exact q.elim
  | err c st1 => rw [em] at q; exact q.elim
  | ok pr =>
    obtain ⟨⟨k, fr, d⟩, st1⟩ := pr
    rw [em] at q
    cases k with
    | frz =>
      intro v H1 F' f1 s
      have s : SR Γ (upd B a (exo a C none)) ⟨A, none⟩ F' H1 (some v :: (some (.ref a) :: L2.start (N.drop 1) us)) (some ⟨.frz, fr, d⟩ :: st1) := s
      have fa : F' a = none := by
        cases z : F' a with
        | none => rfl
        | some o =>
          rcases s.fb a o z with w | w
          · have w : A a = some o := w
            rw [ab.free ba] at w; cases w
          · rw [upd_same] at w; cases w
      refine ⟨.ref a, rfl, a, C, rfl, T, hno, .inl ⟨s.bh _ _ upd_same, fun dx hx hne => ?_⟩⟩
      refine q H1 F' dx v s.bh s.af s.fh (fun y o hy => ?_) fa hx hne (Rep.mono (sel_mono2 hb) s.top)
      rcases s.fb y o hy with w | w
      · exact .inl w
      · exact .inr (hb.free w)
    | own => exact q.elim
    | bor => exact q.elim
    | old => exact q.elim
end
/-! ### in the head -/
section
variable {P : Program} {w : World} {K : PySem.W.Frag} {mg : Str → Option Value} {base : Heap} {x qual : Str} {params : Arguments} {scope : Scope} {f : Str} {C fI : Addr} {fd : FuncData} {N ps : List Str} {m : ME} {k : Nat} {e : Expr} {p1 p2 p3 : Pos}
/-- the body of such an __init__ -/
def OexBody (P : Program) (w : World) (K : PySem.W.Frag) (mg : Str → Option Value) (base : Heap) (k : Nat) (N : List Str) (qual : Str) (scope : Scope) (body : List Stmt) (f : Str) (m : ME) : Prop := ∃ p1 p2 p3 e, body = [.Assign [.Attribute (.Name "self" p1) f p2] e p3] ∧
  ∀ (f' : Addr) (cdv : Value) (A : Around) (outer : List Env) (s : Shared) (H : Hp) (E : XK), Room k (A.deeper (envOfC qual scope s.heap.objs.size f' cdv)) → PE (cxOf (L2.CX P w) P w K mg base N qual scope f' cdv A outer s H E) e (teOf ⟨K, mg⟩ (wE E) m) ∧ PE (cxOf (L2.CX P w) P w K mg base N qual scope f' cdv A outer s H E) (.Name "self" p1) (tVar 0) ∧ swapsWith e (some (.Attribute (.Name "self" p1) f p2)) p3.line (cxOf (L2.CX P w) P w K mg base N qual scope f' cdv A outer s H E).env = pure false
theorem oexOk_of {y : Str} {body : List Stmt} (Fd : FunD K y qual params body scope [] [] fI fd) (gx : mg x = some (.ref C)) (T : OexC K C) (hno : PySem.W.findIn K (.ref C) f = some none) (iC : PySem.W.findIn K (.ref C) "__init__" = some (some (.ref fI))) (tI : PySem.W.typeIn K (.ref fI) = some (.type "function")) (S : FnScope N ("self" :: ps) scope) (hN : ps.length + 1 ≤ N.length)
    (hb : Binds K fd ("self" :: ps) []) (bd : OexBody P w K mg base k N qual scope body f m) : OexOk ⟨K, mg⟩ P w base (k + 1) x f ps (iniE N.length m) := by
  obtain ⟨p1, p2, p3, e, rfl, b⟩ := bd
  exact ⟨C, fI, fd, gx, T, hno, iC, tI, hb, Fd.ok S (fun vs H Q E h => by
    obtain ⟨B, A, a, C, us, ds, e, hl, _⟩ := h
    rw [e, List.length_cons, hl]
    rfl) fun cdv A outer s H vs Q E hr h => ⟨_, by
      obtain ⟨b1, b2, b3⟩ := b fI cdv A outer s H E hr
      exact pss_one (ps_ost b2 b1 b3), xini_run hN h⟩⟩
theorem oexB_ok (h : oexB K C = true) : OexC K C := by
  obtain ⟨h1, h⟩ := He.ba h
  obtain ⟨h2, h⟩ := He.ba h
  obtain ⟨h3, h⟩ := He.ba h
  obtain ⟨h4, h5⟩ := He.ba h
  refine ⟨?_, of_decide_eq_true h2, of_decide_eq_true h3, of_decide_eq_true h4, h5⟩
  split at h1
  · rename_i t dct nm bs C' bm ns q sn sb ab col sl e
    obtain ⟨g1, g⟩ := He.ba h1
    obtain ⟨g2, g⟩ := He.ba g
    obtain ⟨g3, g4⟩ := He.ba g
    have g1 := of_decide_eq_true g1
    have g2 := of_decide_eq_true g2
    subst g1 g2
    split at g4
    · rename_i k0 k1 k2 k3 b k5 es
      have g4 := of_decide_eq_true g4
      subst g4
      have es : sl = #[k0, k1, k2, k3, some (.builtin "ValueError.__new__"), k5] := Array.toList_inj.mp es
      subst es
      exact ⟨nm, q, ns, bs, bm, sn, sb, ab, col, dct, k0, k1, k2, k3, k5, e, g3⟩
    · cases g4
  · cases h1
theorem oexAll_ok {x f : Str} (h : oexAll K x f = true) : OexC K (He.ga K x) ∧ PySem.W.findIn K (.ref (He.ga K x)) f = some none ∧ PySem.W.findIn K (.ref (He.ga K x)) "__init__" = some (some (.ref (He.fAd K (x, some "__init__")))) ∧ PySem.W.typeIn K (.ref (He.fAd K (x, some "__init__"))) = some (.type "function") := by
  obtain ⟨h1, h⟩ := He.ba h
  obtain ⟨h2, h⟩ := He.ba h
  obtain ⟨h3, h4⟩ := He.ba h
  exact ⟨oexB_ok h1, of_decide_eq_true h2, of_decide_eq_true h3, of_decide_eq_true h4⟩
theorem xfOk_of {h : Heap} {f : Str} {cs : List Str} (X : K.In h) (G : h.Ns mainGlobals mg) (e : xfAll K f cs = true) : XfOk ⟨K, mg⟩ f cs := fun c hc C hC => by
  obtain ⟨h1, h2⟩ := He.ba (List.all_eq_true.mp e c hc)
  obtain ⟨h3, h4⟩ := He.ba h2
  have gc := He.glo_ok X G h1
  have hC : mg c = some (.ref C) := hC
  rw [gc] at hC
  injection hC with hC
  injection hC with hC
  subst hC
  exact ⟨xfB_ok h3, of_decide_eq_true h4⟩
end
end Dl

namespace Dl
open PySem PySem.Spec PyProof.Rows L2
/-! ## a window: a value is made (stage 1), other values are made (stage 2), then the first one is changed deep inside -/
/-- stage 2: what the window holds is old; what is older avoids the window -/
def winE : Option TV → Option TV
  | some ⟨.frz, true, d⟩ => if d.atom = true then some ⟨.frz, true, d⟩ else some ⟨.old, false, d⟩
  | some ⟨.frz, false, d⟩ => some ⟨.frz, false, d⟩
  | some ⟨.old, false, d⟩ => some ⟨.frz, true, d⟩
  | _ => none
def winS (st : Sta) : Sta := (st.map frzE).map winE
/-- behind the window -/
def outE : Option TV → Option TV
  | some ⟨.frz, fr, d⟩ => if d.atom = true then some ⟨.frz, fr, d⟩ else if fr = true then some ⟨.frz, false, d⟩ else none
  | _ => none
def outS (ws : List Nat) (st : Sta) : Sta := (wipeS (st.map frzE) ws).map outE
/-- as the change sees it -/
def hvE : Option TV → Option TV
  | some ⟨.frz, fr, d⟩ => if d.atom = true then some ⟨.frz, fr, d⟩ else some ⟨.frz, false, d⟩
  | some ⟨.old, false, d⟩ => some ⟨.frz, true, d⟩
  | _ => none
def hvS (st : Sta) : Sta := (st.map frzE).map hvE
section
variable {Γ : Gm} {W : WX} {B F F' H H' : Hp} {A : Ao} {τ τ' : List (Option V)} {ds ds' : Sta} {σ : L2.St} {st : Sta}
theorem minus_at {F B : Hp} {a : Addr} {o} (h : minus F B a = some o) : B a = none ∧ F a = some o := by
  unfold minus at h
  cases q : B a with
  | none => rw [q] at h; exact ⟨rfl, h⟩
  | some u => rw [q] at h; cases h
theorem minus_in {F B : Hp} {a : Addr} {o} (h1 : B a = none) (h2 : F a = some o) : minus F B a = some o := by
  unfold minus
  rw [h1]
  exact h2
theorem meet_at {F B : Hp} {a : Addr} {o} (h : meet F B a = some o) : (∃ u, B a = some u) ∧ F a = some o := by
  unfold meet at h
  cases q : B a with
  | none => rw [q] at h; cases h
  | some u => rw [q] at h; exact ⟨⟨u, rfl⟩, h⟩
theorem meet_in {F B : Hp} {a : Addr} {o u} (h1 : B a = some u) (h2 : F a = some o) : meet F B a = some o := by
  unfold meet
  rw [h1]
  exact h2
theorem no_own (f : Option TV → Option TV) (hf : ∀ x fr d, f x ≠ some ⟨.own, fr, d⟩) (st : Sta) (i : Nat) (fr : Bool) (d : D) : (st.map f)[i]? ≠ some (some ⟨.own, fr, d⟩) := fun h => by
  rw [List.getElem?_map] at h
  obtain ⟨x, _, h2⟩ := Option.map_eq_some_iff.mp h
  exact hf x fr d h2
theorem winE_own (x : Option TV) (fr : Bool) (d : D) : winE x ≠ some ⟨.own, fr, d⟩ := fun h => by
  rcases x with _ | ⟨k, f, d'⟩
  · cases h
  · cases k <;> cases f <;> first | cases h | skip
    have h : (if d'.atom = true then some (⟨.frz, true, d'⟩ : TV) else some ⟨.old, false, d'⟩) = some ⟨.own, fr, d⟩ := h
    split at h <;> cases h
theorem hvE_own (x : Option TV) (fr : Bool) (d : D) : hvE x ≠ some ⟨.own, fr, d⟩ := fun h => by
  rcases x with _ | ⟨k, f, d'⟩
  · cases h
  · cases k with
    | frz =>
      have h : (if d'.atom = true then some (⟨.frz, f, d'⟩ : TV) else some ⟨.frz, false, d'⟩) = some ⟨.own, fr, d⟩ := h
      split at h <;> cases h
    | own => cases h
    | bor => cases h
    | old => cases f <;> cases h
/-- into stage 2: F the frozen heap before the window, H the heap before it -/
theorem SR.enter2 {F1 H1 : Hp} (s : SR Γ H ⟨F, none⟩ F1 H1 σ (st.map frzE)) : SR Γ (minus H1 F) ⟨minus F1 H, none⟩ F1 H1 σ (winS st) := by
  have old_in : Same (meet F1 H) (minus F1 (minus H1 F)) := fun a o h => by
    obtain ⟨⟨u, hu⟩, h2⟩ := meet_at h
    refine minus_in ?_ h2
    rcases s.fb a o h2 with w | w
    · cases q : minus H1 F a with
      | none => rfl
      | some z =>
        have := (minus_at q).1
        rw [show F a = some o from w] at this
        cases this
    · rw [hu] at w; cases w
  have win_in : Same (minus F1 H) (meet F1 (minus H1 F)) := fun a o h => by
    obtain ⟨h1, h2⟩ := minus_at h
    have f0 : F a = none := by
      cases q : F a with
      | none => rfl
      | some z =>
        have := s.ab a z q
        rw [h1] at this
        cases this
    exact meet_in (minus_in f0 (s.fh a o h2)) h2
  refine ⟨?_, minus_same, s.fh, fun a o h => ?_, minus_same, fun a o h => ?_, fun i t h => ?_, fun i j a h1 h2 => ?_, fun i fr c xs a h1 h2 => ?_⟩
  · have := s.ln
    unfold winS
    rw [List.length_map]
    exact this
  · obtain ⟨h1, h2⟩ := minus_at h
    refine minus_in ?_ (s.fh a o h2)
    cases q : F a with
    | none => rfl
    | some z =>
      have := s.ab a z q
      rw [h1] at this
      cases this
  · by_cases c : H a = none
    · exact .inl (minus_in c h)
    · right
      rcases s.fb a o h with w | w
      · cases q : minus H1 F a with
        | none => rfl
        | some z =>
          have := (minus_at q).1
          rw [show F a = some o from w] at this
          cases this
      · exact (c w).elim
  · unfold winS at h
    rw [List.getElem?_map] at h
    obtain ⟨x, h1, h2⟩ := Option.map_eq_some_iff.mp h
    rcases x with _ | ⟨k, f, d'⟩
    · cases h2
    · obtain ⟨v, ev, en⟩ := s.en i _ h1
      refine ⟨v, ev, ?_⟩
      cases k with
      | frz =>
        cases f with
        | true =>
          have h2 : (if d'.atom = true then some (⟨.frz, true, d'⟩ : TV) else some ⟨.old, false, d'⟩) = some t := h2
          have r : Rep Γ (minus F1 H) d' v := en
          split at h2
          · rename_i ca
            cases h2
            exact Rep.atom r ca
          · cases h2
            exact Rep.mono win_in r
        | false =>
          cases h2
          exact (show Rep Γ F1 d' v from en)
      | own => cases f <;> cases h2
      | bor => cases f <;> cases h2
      | old =>
        cases f with
        | true => cases h2
        | false =>
          cases h2
          exact Rep.mono old_in (show Rep Γ (meet F1 H) d' v from en)
  · obtain ⟨fr, d, z, _⟩ := h1
    exact (no_own winE winE_own _ i fr d z).elim
  · exact (no_own winE winE_own _ i fr _ h1).elim
/-- the change's view: B the heap without the window -/
theorem SR.seen {F0 F1 H0 H1 F2 H2 : Hp} (s : SR Γ (minus H1 F0) ⟨minus F1 H0, none⟩ F2 H2 σ (st.map frzE)) : SR Γ (minus H2 (minus F1 H0)) ⟨meet F2 (minus H2 (minus F1 H0)), none⟩ F2 H2 σ (hvS st) := by
  have win_in : Same (meet F2 (minus H1 F0)) (minus F2 (minus H2 (minus F1 H0))) := fun a o h => by
    obtain ⟨⟨u, hu⟩, h2⟩ := meet_at h
    refine minus_in ?_ h2
    rcases s.fb a o h2 with w | w
    · cases q : minus H2 (minus F1 H0) a with
      | none => rfl
      | some z =>
        have := (minus_at q).1
        rw [show minus F1 H0 a = some o from w] at this
        cases this
    · rw [hu] at w; cases w
  refine ⟨?_, minus_same, s.fh, fun a o h => ?_, meet_same, fun a o h => ?_, fun i t h => ?_, fun i j a h1 h2 => ?_, fun i fr c xs a h1 h2 => ?_⟩
  · have := s.ln
    unfold hvS
    rw [List.length_map]
    exact this
  · obtain ⟨⟨u, hu⟩, h2⟩ := meet_at h
    have e := (minus_at hu)
    exact minus_in e.1 (s.fh a o h2)
  · cases q : minus H2 (minus F1 H0) a with
    | none => exact .inr rfl
    | some z => exact .inl (meet_in q h)
  · unfold hvS at h
    rw [List.getElem?_map] at h
    obtain ⟨x, h1, h2⟩ := Option.map_eq_some_iff.mp h
    rcases x with _ | ⟨k, f, d'⟩
    · cases h2
    · obtain ⟨v, ev, en⟩ := s.en i _ h1
      refine ⟨v, ev, ?_⟩
      cases k with
      | frz =>
        have h2 : (if d'.atom = true then some (⟨.frz, f, d'⟩ : TV) else some ⟨.frz, false, d'⟩) = some t := h2
        have r : Rep Γ (sel f (minus H1 F0) F2) d' v := en
        split at h2
        · rename_i ca
          cases h2
          exact Rep.atom r ca
        · cases h2
          exact Rep.mono sel_same r
      | own => cases f <;> cases h2
      | bor => cases f <;> cases h2
      | old =>
        cases f with
        | true => cases h2
        | false =>
          cases h2
          exact Rep.mono win_in (show Rep Γ (meet F2 (minus H1 F0)) d' v from en)
  · obtain ⟨fr, d, z, _⟩ := h1
    exact (no_own hvE hvE_own _ i fr d z).elim
  · exact (no_own hvE hvE_own _ i fr _ h1).elim
/-- what is left: frozen values in G -/
structure LRG (Γ : Gm) (G : Hp) (σ : L2.St) (st : Sta) : Prop where
  ln : σ.length = st.length
  en : ∀ (i : Nat) (t : TV), st[i]? = some (some t) → ∃ v, σ[i]? = some (some v) ∧ ∃ fr d, t = ⟨.frz, fr, d⟩ ∧ (∀ B, Rep Γ (sel fr B G) d v)
theorem SR.out {F0 F1 H0 H1 F2 H2 : Hp} {X : Sta} (s : SR Γ (minus H1 F0) ⟨minus F1 H0, none⟩ F2 H2 σ X) : LRG Γ (minus F2 (minus H1 F0)) σ (X.map outE) := by
  refine ⟨by rw [List.length_map]; exact s.ln, fun i t h => ?_⟩
  rw [List.getElem?_map] at h
  obtain ⟨x, h1, h2⟩ := Option.map_eq_some_iff.mp h
  rcases x with _ | ⟨k, f, d⟩
  · cases h2
  · obtain ⟨v, ev, en⟩ := s.en i _ h1
    cases k with
    | frz =>
      have h2 : (if d.atom = true then some (⟨.frz, f, d⟩ : TV) else if f = true then some ⟨.frz, false, d⟩ else none) = some t := h2
      split at h2
      · rename_i ca
        cases h2
        exact ⟨v, ev, f, d, rfl, fun B => Rep.atom (show Rep Γ (sel f (minus H1 F0) F2) d v from en) ca⟩
      · split at h2
        · rename_i cf
          cases h2
          subst cf
          exact ⟨v, ev, false, d, rfl, fun B => (show Rep Γ (minus F2 (minus H1 F0)) d v from en)⟩
        · cases h2
    | own => cases h2
    | bor => cases h2
    | old => cases h2
theorem LRG.wipe {G : Hp} {X : Sta} {σ3 : L2.St} {ws : List Nat} (l : LRG Γ G σ (X.map outE)) (l3 : σ3.length = σ.length) (k3 : ∀ i, i ∉ ws → σ3[i]? = σ[i]?) : LRG Γ G σ3 ((wipeS X ws).map outE) := by
  refine ⟨by rw [l3, l.ln, List.length_map, List.length_map, wipeS_len], fun i t h => ?_⟩
  rw [List.getElem?_map] at h
  obtain ⟨x, h1, h2⟩ := Option.map_eq_some_iff.mp h
  rcases x with _ | t0
  · cases h2
  · obtain ⟨h3, h4⟩ := wipeS_none h1
    obtain ⟨v, ev, r⟩ := l.en i t (by rw [List.getElem?_map, h4]; exact congrArg some h2)
    exact ⟨v, by rw [k3 i h3]; exact ev, r⟩
theorem LRG.back {G : Hp} {σ' : L2.St} {stf : Sta} (hl : τ.length = ds.length) (s : SR Γ B A G H' (τ ++ σ) (ds ++ st)) (l : LRG Γ G σ' stf) : SR Γ B A G H' (τ ++ σ') (ds ++ stf) := by
  have no : ∀ (i : Nat) (fr : Bool) (d : D), stf[i]? ≠ some (some ⟨.own, fr, d⟩) := fun i fr d h => by
    obtain ⟨v, _, fr', d', e, _⟩ := l.en i _ h
    cases e
  have low : ∀ (i : Nat) (t : TV), i < ds.length → (ds ++ stf)[i]? = some (some t) → (ds ++ st)[i]? = some (some t) := fun i t hi h => by
    rw [List.getElem?_append_left hi] at h ⊢
    exact h
  have lowv : ∀ i, i < ds.length → (τ ++ σ')[i]? = (τ ++ σ)[i]? := fun i hi => by
    rw [List.getElem?_append_left (by omega), List.getElem?_append_left (by omega)]
  have ownLow : ∀ {i : Nat} {a : Addr}, OwnAt (τ ++ σ') (ds ++ stf) i a → OwnAt (τ ++ σ) (ds ++ st) i a := fun {i a} ⟨fr, d, h1, h2⟩ => by
    by_cases hi : i < ds.length
    · exact ⟨fr, d, low i _ hi h1, by rw [← lowv i hi]; exact h2⟩
    · rw [List.getElem?_append_right (by omega)] at h1
      exact (no _ fr d h1).elim
  refine ⟨?_, s.bh, s.fh, s.ab, s.af, s.fb, fun i t h => ?_, fun i j a h1 h2 => s.dj i j a (ownLow h1) (ownLow h2), fun i fr c xs a h1 h2 => ?_⟩
  · rw [List.length_append, List.length_append, hl, l.ln]
  · by_cases hi : i < ds.length
    · obtain ⟨v, ev, en⟩ := s.en i t (low i t hi h)
      exact ⟨v, by rw [lowv i hi]; exact ev, en⟩
    · rw [List.getElem?_append_right (by omega)] at h
      obtain ⟨v, ev, fr, d, e, r⟩ := l.en _ t h
      refine ⟨v, ?_, by rw [e]; exact r B⟩
      rw [List.getElem?_append_right (by omega), hl]
      exact ev
  · by_cases hi : i < ds.length
    · exact s.oo i fr c xs a (low i _ hi h1) (by rw [← lowv i hi]; exact h2)
    · rw [List.getElem?_append_right (by omega)] at h1
      exact (no _ fr _ h1).elim
/-- the two stages and the change -/
def mWin (M1 M2 hv : MS) (ws : List Nat) : MS := fun st => match M1 (oldS st) with
  | .ok (.next, st1) => (match M2 (winS st1) with
    | .ok (.next, st2) => (match hv (hvS st2) with
      | .ok (.next, _) => .ok (.next, outS ws st2)
      | _ => .stuck)
    | .ok (.ret t, st2) => if t.k = .frz ∧ t.d.atom = true then .ok (.ret t, outS [] st2) else .stuck
    | .ok (.brk, _) => .stuck
    | .ok (.cont, _) => .stuck
    | .err ⟨n, none⟩ st2 => .err ⟨n, none⟩ (outS [] st2)
    | .err ⟨_, some _⟩ _ => .stuck
    | .stuck => .stuck)
  | _ => .stuck
theorem se_win {M1 M2 hv mrest : MS} {ws : List Nat} {th T2 T : TS} (hh : Hav Γ W th hv ws) (b2 : Bk Γ W (tSeq th (msOf Γ W mrest)) M2 T2) (b1 : Bk Γ W T2 M1 T) {D : Ends} (h : msOf Γ W (mSeq (mWin M1 M2 hv ws) mrest) D σ H) : T D σ H := by
  refine b1.run ?_
  have h := se_seq h
  obtain ⟨B, A, F, τ, ds, st, hl, nb, s, q⟩ := h
  obtain ⟨F0, f0, s1⟩ := SR.frzAll st ds F s
  have s2 := s1.enter hl
  refine ⟨H, ⟨F0, none⟩, F0, [], [], oldS st, rfl, fun j t e => by simp at e, s2, ?_⟩
  have q : sPost Γ W B A τ ds (sP Γ B A τ ds { D with nx := msOf Γ W mrest D }) F (mWin M1 M2 hv ws st) := q
  unfold mWin at q
  cases e : M1 (oldS st) with
  | stuck => rw [e] at q; exact q.elim
  | err c st1 => rw [e] at q; exact q.elim
  | ok p =>
    obtain ⟨c, st1⟩ := p
    rw [e] at q
    cases c with
    | brk => exact q.elim
    | cont => exact q.elim
    | ret t => exact q.elim
    | next =>
      intro σ1 H1 F1' f1' s3
      have s3 : SR Γ H ⟨F0, none⟩ F1' H1 σ1 st1 := s3
      refine b2.run ?_
      obtain ⟨F1, f1, s4⟩ := SR.frzAll st1 [] F1' s3
      have s4 : SR Γ H ⟨F0, none⟩ F1 H1 σ1 (st1.map frzE) := s4
      have s5 := SR.enter2 (st := st1) s4
      have f01 : Same F0 F1 := f1'.trans f1
      have back : ∀ {F2 H2 H' : Hp} {σ2 : L2.St} {stf : Sta}, Same F1 F2 → Same (minus F2 (minus H1 F0)) H' → Same H H' → LRG Γ (minus F2 (minus H1 F0)) σ2 stf → Same F (minus F2 (minus H1 F0)) ∧ SR Γ B A (minus F2 (minus H1 F0)) H' (τ ++ σ2) (ds ++ stf) := fun {F2 H2 H' σ2 stf} f12 gh hh' l => by
        have fg : Same F0 (minus F2 (minus H1 F0)) := fun a o z => by
          refine minus_in ?_ (f12 a o (f01 a o z))
          cases q : minus H1 F0 a with
          | none => rfl
          | some u =>
            have := (minus_at q).1
            rw [z] at this
            cases this
        refine ⟨f0.trans fg, LRG.back hl (s1.grow hh' fg gh fun a o z => ?_) l⟩
        obtain ⟨z1, z2⟩ := minus_at z
        by_cases c : F0 a = none
        · right
          cases q : H a with
          | none => rfl
          | some u =>
            have w := minus_in (F := H1) c (s4.bh a u q)
            rw [z1] at w
            cases w
        · left
          obtain ⟨u, hu⟩ := Option.ne_none_iff_exists'.mp c
          have := f12 a u (f01 a u hu)
          rw [z2] at this
          rw [hu]
          exact this.symm
      have q : sPost Γ W B A τ ds (sP Γ B A τ ds { D with nx := msOf Γ W mrest D }) F (match M2 (winS st1) with
        | .ok (.next, st2) => (match hv (hvS st2) with
          | .ok (.next, _) => .ok (.next, outS ws st2)
          | _ => .stuck)
        | .ok (.ret t, st2) => if t.k = .frz ∧ t.d.atom = true then .ok (.ret t, outS [] st2) else .stuck
        | .ok (.brk, _) => .stuck
        | .ok (.cont, _) => .stuck
        | .err ⟨n, none⟩ st2 => .err ⟨n, none⟩ (outS [] st2)
        | .err ⟨_, some _⟩ _ => .stuck
        | .stuck => .stuck) := q
      -- what is older than the window is there at stage 2's end
      have hh2 : ∀ {F2 H2 : Hp}, Same F1 F2 → Same F2 H2 → Same (minus H1 F0) H2 → Same H H2 := fun {F2 H2} f12 fh2 bh2 a o z => by
        have z1 := s4.bh a o z
        by_cases c : F0 a = none
        · exact bh2 a o (minus_in c z1)
        · obtain ⟨u, hu⟩ := Option.ne_none_iff_exists'.mp c
          have w := s1.fh a u hu
          rw [z] at w
          cases w
          exact fh2 a o (f12 a o (f01 a o hu))
      refine ⟨minus H1 F0, ⟨minus F1 H, none⟩, F1, [], [], winS st1, rfl, fun j t e => by simp at e, s5, ?_⟩
      cases e2 : M2 (winS st1) with
      | stuck => rw [e2] at q; exact q.elim
      | err c st2 =>
        rw [e2] at q
        obtain ⟨cn, cx⟩ := c
        cases cx with
        | some _ => exact q.elim
        | none =>
          intro C d σ2 H2 F2 g f y s6
          have s6 : SR Γ (minus H1 F0) ⟨minus F1 H, none⟩ F2 H2 σ2 st2 := s6
          have y : d = none := y
          rw [y]
          obtain ⟨F3, f3, s7⟩ := SR.frzAll st2 [] F2 s6
          have s7 : SR Γ (minus H1 F0) ⟨minus F1 H, none⟩ F3 H2 σ2 (st2.map frzE) := s7
          have f13 := f.trans f3
          obtain ⟨k1, k2⟩ := back (H2 := H2) f13 (minus_same.trans s7.fh) (hh2 f13 s7.fh s7.bh) (s7.out.wipe (ws := []) rfl (fun _ _ => rfl))
          exact q C none σ2 H2 _ g k1 Pay.plain k2
      | ok p2 =>
        obtain ⟨c2, st2⟩ := p2
        rw [e2] at q
        cases c2 with
        | brk => exact q.elim
        | cont => exact q.elim
        | ret t =>
          have q : sPost Γ W B A τ ds (sP Γ B A τ ds { D with nx := msOf Γ W mrest D }) F (if t.k = .frz ∧ t.d.atom = true then .ok (.ret t, outS [] st2) else .stuck) := q
          by_cases c : t.k = .frz ∧ t.d.atom = true
          · rw [if_pos c] at q
            refine ⟨q.1, fun v σ2 H2 F2 f s6 => ?_⟩
            have s6 : SR Γ (minus H1 F0) ⟨minus F1 H, none⟩ F2 H2 (some v :: σ2) (some t :: st2) := s6
            obtain ⟨k, fr, d⟩ := t
            have c1 : k = .frz := c.1
            subst c1
            have r : Rep Γ (sel fr (minus H1 F0) F2) d v := s6.top
            obtain ⟨F3, f3, s7⟩ := SR.frzAll st2 [] F2 s6.pop
            have s7 : SR Γ (minus H1 F0) ⟨minus F1 H, none⟩ F3 H2 σ2 (st2.map frzE) := s7
            have f13 := f.trans f3
            obtain ⟨k1, k2⟩ := back (H2 := H2) f13 (minus_same.trans s7.fh) (hh2 f13 s7.fh s7.bh) (s7.out.wipe (ws := []) rfl (fun _ _ => rfl))
            exact q.2 v σ2 H2 _ k1 (k2.push (t := ⟨.frz, fr, d⟩) (Rep.atom r c.2) (by intro z; cases z))
          · rw [if_neg c] at q
            exact q.elim
        | next =>
          have q : sPost Γ W B A τ ds (sP Γ B A τ ds { D with nx := msOf Γ W mrest D }) F (match hv (hvS st2) with
            | .ok (.next, _) => .ok (.next, outS ws st2)
            | _ => .stuck) := q
          cases e3 : hv (hvS st2) with
          | stuck => rw [e3] at q; exact q.elim
          | err c st3 => rw [e3] at q; exact q.elim
          | ok p3 =>
            obtain ⟨c3, st3⟩ := p3
            rw [e3] at q
            cases c3 with
            | brk => exact q.elim
            | cont => exact q.elim
            | ret t => exact q.elim
            | next =>
              intro σ2 H2 F2 f s6
              have s6 : SR Γ (minus H1 F0) ⟨minus F1 H, none⟩ F2 H2 σ2 st2 := s6
              obtain ⟨F3, f3, s7⟩ := SR.frzAll st2 [] F2 s6
              have s7 : SR Γ (minus H1 F0) ⟨minus F1 H, none⟩ F3 H2 σ2 (st2.map frzE) := s7
              have f13 := f.trans f3
              refine hh _ _ F3 H2 σ2 (hvS st2) st3 _ s7.seen e3 fun σ3 H3 l3 k3 b3 => ?_
              have gh : Same (minus F3 (minus H1 F0)) H3 := fun a o z => by
                obtain ⟨z1, z2⟩ := minus_at z
                refine b3 a o (minus_in ?_ (s7.fh a o z2))
                cases q : minus F1 H a with
                | none => rfl
                | some u =>
                  have := s7.ab a u q
                  rw [z1] at this
                  cases this
              have hH : Same H H3 := fun a o z => by
                refine b3 a o (minus_in ?_ (hh2 f13 s7.fh s7.bh a o z))
                cases q : minus F1 H a with
                | none => rfl
                | some u =>
                  have := (minus_at q).1
                  rw [z] at this
                  cases this
              obtain ⟨k1, k2⟩ := back (H2 := H2) f13 gh hH (s7.out.wipe l3 k3)
              exact q σ3 H3 _ k1 k2
end
section
variable {Γ : Gm} {W : WX} {X : Cx} {M1 M2 hv mrest : MS} {ws : List Nat} {th T2 T : TS}
theorem qss_win {ss : List Stmt} (hh : Hav Γ W th hv ws) (b2 : Bk Γ W (tSeq th (msOf Γ W mrest)) M2 T2) (b1 : Bk Γ W T2 M1 T) (h : PSs X ss T) : PSs X ss (msOf Γ W (mSeq (mWin M1 M2 hv ws) mrest)) := pss_imp h fun _ _ _ => se_win hh b2 b1
end
end Dl

namespace Dl
open PySem PySem.Spec PyProof.Rows L2
/-! ## two changes in turn, by paths -/
/-- t yields v and leaves the heap alone -/
def Yld (t : TE) (σ : L2.St) (H : Hp) (v : V) : Prop := ∀ Q : VK, Q v H → t σ H Q
def tPath (K : PySem.W.Frag) (t : TE) : List Int → TE
  | [] => t
  | k :: ks => tPath K (tOp (rIx K) t (tC (.int k))) ks
def pthD : D → List Int → Option D
  | d, [] => some d
  | .lst xs, k :: ks => (ixD xs k).bind fun d => pthD d ks
  | .tup xs, k :: ks => (ixD xs k).bind fun d => pthD d ks
  | _, _ => none
/-- over tuples only -/
def pthT : D → List Int → Option D
  | d, [] => some d
  | .tup xs, k :: ks => (ixD xs k).bind fun d => pthT d ks
  | _, _ => none
def ArgOk (te : TE) : Prop := ∀ σ H (Q : VK), (∀ w H', Same H H' → Q w H') → te σ H Q
def tApp (K : PySem.W.Frag) (t te : TE) : TS := tDrop (tBM K "list" rAppend t (tCons te tNil))
section
variable {Γ : Gm} {W : WX} {F F' H H' : Hp} {σ : L2.St} {t te : TE} {K : PySem.W.Frag} {v w : V} {p : Addr} {us : List V} {k : Int}
theorem argOk_c : ArgOk (tC v) := fun _ _ _ h => h _ _ (Same.refl _)
theorem argOk_l : ArgOk (tLst tNil) := fun _ H _ h => ⟨Nat.zero_le _, fun p hp => h _ _ fun a o z => by
  rw [upd_ne (fun e => by rw [e, hp] at z; cases z)]
  exact z⟩
theorem Yld.tup (y : Yld t σ H (.ref p)) (h : SqT K H p us) (e : atI us k = some w) : Yld (tOp (rIx K) t (tC (.int k))) σ H w := fun Q q => y _ (.inr (.inl ⟨p, us, k, w, rfl, rfl, h, e, q⟩))
theorem Yld.lst (y : Yld t σ H (.ref p)) (h : H p = some (.lst us)) (e : atI us k = some w) : Yld (tOp (rIx K) t (tC (.int k))) σ H w := fun Q q => y _ (.inl ⟨p, us, k, w, rfl, rfl, SqL.of h, e, q⟩)
theorem rep_tup {xs : List D} (r : Rep Γ F (.tup xs) v) (fh : Same F H) : ∃ p us, v = .ref p ∧ SqT Γ.K H p us ∧ RepL Γ F xs us := by
  simp only [Rep] at r
  obtain ⟨p, vs, h1, h2, h3⟩ := r
  exact ⟨p, vs, h1, sqT_mono fh h2, h3⟩
theorem rep_lst {xs : List D} (r : Rep Γ F (.lst xs) v) (fh : Same F H) : ∃ p us, v = .ref p ∧ F p = some (.lst us) ∧ RepL Γ F xs us := by
  simp only [Rep] at r
  obtain ⟨p, vs, h1, h2, h3⟩ := r
  exact ⟨p, vs, h1, h2, h3⟩
theorem yld_pth : ∀ {ks : List Int} {t : TE} {d d' : D} {v : V}, Yld t σ H v → Rep Γ F d v → Same F H → pthD d ks = some d' → ∃ w, Rep Γ F d' w ∧ Yld (tPath Γ.K t ks) σ H w
  | [], t, d, d', v, y, r, _, e => by
    cases d <;> cases e <;> exact ⟨v, r, y⟩
  | k :: ks, t, d, d', v, y, r, fh, e => by
    cases d with
    | lst xs =>
      have e : ((ixD xs k).bind fun d => pthD d ks) = some d' := e
      obtain ⟨d1, e1, e2⟩ := Option.bind_eq_some_iff.mp e
      obtain ⟨p, us, rfl, h2, h3⟩ := rep_lst r fh
      obtain ⟨w, h4, h5⟩ := ixD_at e1 h3
      have z := yld_pth (y.lst (K := Γ.K) (fh _ _ h2) h4) h5 fh e2
      exact z
    | tup xs =>
      have e : ((ixD xs k).bind fun d => pthD d ks) = some d' := e
      obtain ⟨d1, e1, e2⟩ := Option.bind_eq_some_iff.mp e
      obtain ⟨p, us, rfl, h2, h3⟩ := rep_tup r fh
      obtain ⟨w, h4, h5⟩ := ixD_at e1 h3
      have z := yld_pth (y.tup (K := Γ.K) h2 h4) h5 fh e2
      exact z
    | _ => cases e
/-- in a later heap that has kept the tuples -/
theorem yld_pthT (kp : ∀ p us, SqT Γ.K H p us → SqT Γ.K H' p us) : ∀ {ks : List Int} {t : TE} {d d' : D} {v : V}, Yld t σ H' v → Rep Γ F d v → Same F H → pthT d ks = some d' → ∃ w, Rep Γ F d' w ∧ Yld (tPath Γ.K t ks) σ H' w
  | [], t, d, d', v, y, r, _, e => by
    cases d <;> cases e <;> exact ⟨v, r, y⟩
  | k :: ks, t, d, d', v, y, r, fh, e => by
    cases d with
    | tup xs =>
      have e : ((ixD xs k).bind fun d => pthT d ks) = some d' := e
      obtain ⟨d1, e1, e2⟩ := Option.bind_eq_some_iff.mp e
      obtain ⟨p, us, rfl, h2, h3⟩ := rep_tup r fh
      obtain ⟨w, h4, h5⟩ := ixD_at e1 h3
      have z := yld_pthT kp (y.tup (K := Γ.K) (kp _ _ h2) h4) h5 fh e2
      exact z
    | _ => cases e
theorem app_run {D : Ends} (y : Yld t σ H (.ref p)) (hp : H p = some (.lst us)) (hl : us.length < sizeLine) (ha : ArgOk te) (q : ∀ H', (∀ a o, a ≠ p → H a = some o → H' a = some o) → (∃ w, H' p = some (.lst (us ++ [w]))) → D.nx σ H') : tApp K t te D σ H := by
  refine y _ ⟨.inl ⟨rfl, us, SqL.of hp⟩, ha _ _ _ fun w H1 e => ?_⟩
  refine ⟨p, us, w, rfl, rfl, e _ _ hp, hl, q _ (fun a o ne z => ?_) ⟨w, upd_same⟩⟩
  rw [upd_ne ne]
  exact e _ _ z
end
/-- the slot's value, changed at ks1, then at ks2 -/
def mHav2 (i : Nat) (ks1 ks2 : List Int) : MS := fun st => match st[i]? with
  | some (some ⟨.frz, true, d⟩) => (match pthD d ks1, pthT d ks2 with
    | some (.lst xs), some (.lst ys) => if xs.length < 16777216 ∧ ys.length + 1 < 16777216 then .ok (.next, st) else .stuck
    | _, _ => .stuck)
  | _ => .stuck
def mHav1 (i : Nat) (ks1 : List Int) : MS := fun st => match st[i]? with
  | some (some ⟨.frz, true, d⟩) => (match pthD d ks1 with
    | some (.lst xs) => if xs.length < 16777216 then .ok (.next, st) else .stuck
    | _ => .stuck)
  | _ => .stuck
section
variable {Γ : Gm} {W : WX} {te1 te2 : TE} {i : Nat} {ks1 ks2 : List Int}
theorem hav_one (h1 : ArgOk te1) : Hav Γ W (tApp Γ.K (tPath Γ.K (tVar i) ks1) te1) (mHav1 i ks1) [] := by
  intro B A F H σ st st2 D s e k
  unfold mHav1 at e
  split at e
  · rename_i d hi
    split at e
    · rename_i xs e1
      split at e
      · rename_i c
        obtain ⟨v, ev, en⟩ := s.en i _ hi
        have r : Rep Γ (minus F B) d v := en
        obtain ⟨w, r1, y1⟩ := yld_pth (σ := σ) (H := H) (t := tVar i) (fun Q q => ⟨v, ev, q⟩) r (minus_same.trans s.fh) e1
        obtain ⟨p, us, rfl, h2, h3⟩ := rep_lst r1 (minus_same.trans s.fh)
        obtain ⟨b1, b2⟩ := minus_at h2
        refine app_run y1 (s.fh _ _ b2) (by rw [← h3.length, sizeLine_eq]; exact c) h1 fun H' q1 q2 => ?_
        exact k σ H' rfl (fun _ _ => rfl) fun a u z => q1 a u (fun e => by rw [e, b1] at z; cases z) (s.bh _ _ z)
      · cases e
    · cases e
  · cases e
theorem hav_two (h1 : ArgOk te1) (h2 : ArgOk te2) : Hav Γ W (tSeq (tApp Γ.K (tPath Γ.K (tVar i) ks1) te1) (tApp Γ.K (tPath Γ.K (tVar i) ks2) te2)) (mHav2 i ks1 ks2) [] := by
  intro B A F H σ st st2 D s e k
  unfold mHav2 at e
  split at e
  · rename_i d hi
    split at e
    · rename_i xs ys e1 e2
      split at e
      · rename_i c
        obtain ⟨v, ev, en⟩ := s.en i _ hi
        have r : Rep Γ (minus F B) d v := en
        have fh : Same (minus F B) H := minus_same.trans s.fh
        obtain ⟨w, r1, y1⟩ := yld_pth (σ := σ) (H := H) (t := tVar i) (fun Q q => ⟨v, ev, q⟩) r fh e1
        obtain ⟨p, us, rfl, g2, g3⟩ := rep_lst r1 fh
        obtain ⟨b1, b2⟩ := minus_at g2
        have hp := s.fh _ _ b2
        refine app_run (D := { D with nx := tApp Γ.K (tPath Γ.K (tVar i) ks2) te2 D }) y1 hp (by rw [← g3.length, sizeLine_eq]; exact c.1) h1 fun H' q1 q2 => ?_
        have kp : ∀ p' us', SqT Γ.K H p' us' → SqT Γ.K H' p' us' := fun p' us' z => by
          rcases z with (z | ⟨o, z⟩) | z
          · exact .inl (.inl (q1 _ _ (fun e => by rw [e, hp] at z; cases z) z))
          · exact .inl (.inr ⟨o, q1 _ _ (fun e => by rw [e, hp] at z; cases z) z⟩)
          · exact .inr z
        obtain ⟨w2, r2, y2⟩ := yld_pthT (σ := σ) (t := tVar i) kp (fun Q q => ⟨v, ev, q⟩) r fh e2
        obtain ⟨p2, us2, rfl, g4, g5⟩ := rep_lst r2 fh
        obtain ⟨b3, b4⟩ := minus_at g4
        have hp2 := s.fh _ _ b4
        have bk : ∀ H'' : Hp, (∀ a o, a ≠ p2 → H' a = some o → H'' a = some o) → ∀ a u, B a = some u → H'' a = some u := fun H'' q3 a u z => q3 a u (fun e => by rw [e, b3] at z; cases z) (q1 a u (fun e => by rw [e, b1] at z; cases z) (s.bh _ _ z))
        by_cases c2 : p2 = p
        · obtain ⟨w, q2⟩ := q2
          rw [← c2] at q2 hp
          rw [hp2] at hp
          cases hp
          refine app_run y2 q2 (by rw [List.length_append, ← g5.length, sizeLine_eq]; exact c.2) h2 fun H'' q3 q4 => ?_
          exact k σ H'' rfl (fun _ _ => rfl) (bk H'' q3)
        · refine app_run y2 (q1 _ _ c2 hp2) (by rw [← g5.length, sizeLine_eq]; have := c.2; omega) h2 fun H'' q3 q4 => ?_
          exact k σ H'' rfl (fun _ _ => rfl) (bk H'' q3)
      · cases e
    · cases e
  · cases e
theorem qss_win2 {X : Cx} {M1 M2 hv mrest : MS} {ws : List Nat} {thA thB T2 T : TS} {ss : List Stmt} (hh : Hav Γ W (tSeq thA thB) hv ws) (b2 : Bk Γ W (tSeq thA (tSeq thB (msOf Γ W mrest))) M2 T2) (b1 : Bk Γ W T2 M1 T) (h : PSs X ss T) : PSs X ss (msOf Γ W (mSeq (mWin M1 M2 hv ws) mrest)) := qss_win hh (show Bk Γ W (tSeq (tSeq thA thB) (msOf Γ W mrest)) M2 T2 from b2) b1 h
end
end Dl

namespace Dl
open PySem PySem.Spec PyProof.Rows L2
/-! ## a new list of atoms is all new -/
def frT : TV → TV
  | ⟨.own, fr, .lst xs⟩ => ⟨.own, fr || xs.all D.atom, .lst xs⟩
  | t => t
def mFr (m : ME) : ME := fun st => (m st).bind fun p => .ok (frT p.1, p.2)
section
variable {Γ : Gm} {W : WX} {B F F' H H' : Hp} {A : Ao} {σ : L2.St} {st : Sta} {vs : List (Option V)} {ts : Sta} {v : V} {fr : Bool} {xs : List D}
theorem RepL.atoms {F F' : Hp} : ∀ {xs : List D} {us : List V}, RepL Γ F xs us → xs.all D.atom = true → RepL Γ F' xs us
  | [], us, r, _ => by
    have := r.length
    cases us with
    | nil => exact RepL.nil
    | cons u us => simp at this
  | x :: xs, us, r, a => by
    obtain ⟨v, ws, rfl, r1, r2⟩ := r.cons_inv
    rw [List.all_cons, Bool.and_eq_true_iff] at a
    exact RepL.cons (Rep.atom r1 a.1) (RepL.atoms r2 a.2)
theorem SR.flag (s : SR Γ B A F H (some v :: vs) (some ⟨.own, fr, .lst xs⟩ :: ts)) (ha : xs.all D.atom = true) : SR Γ B A F H (some v :: vs) (some ⟨.own, true, .lst xs⟩ :: ts) := by
  have back : ∀ {i : Nat} {a : Addr}, OwnAt (some v :: vs) (some ⟨.own, true, .lst xs⟩ :: ts) i a → OwnAt (some v :: vs) (some ⟨.own, fr, .lst xs⟩ :: ts) i a := fun {i a} ⟨f, d, h1, h2⟩ => by
    cases i with
    | zero => exact ⟨fr, .lst xs, rfl, h2⟩
    | succ i => exact ⟨f, d, h1, h2⟩
  refine ⟨by simpa using s.ln, s.bh, s.fh, s.ab, s.af, s.fb, fun i t h => ?_, fun i j a h1 h2 => s.dj i j a (back h1) (back h2), fun i f c ds a h1 h2 => ?_⟩
  · cases i with
    | zero =>
      obtain ⟨v', e1, e2⟩ := s.en 0 _ rfl
      have h : t = ⟨.own, true, .lst xs⟩ := by simpa using h.symm
      subst h
      refine ⟨v', e1, ?_⟩
      obtain ⟨p, us, g1, g2, g3, g4, g5⟩ := e2
      exact ⟨p, us, g1, g2, g3, g4, RepL.atoms g5 ha⟩
    | succ i => exact s.en (i + 1) t h
  · cases i with
    | zero => cases h1
    | succ i => exact s.oo (i + 1) f c ds a h1 h2
theorem te_fr {m : ME} {H : Hp} {Q : VK} (h : teOf Γ W (mFr m) σ H Q) : teOf Γ W m σ H Q := by
  obtain ⟨B, A, F, τ, ds, st, hl, s, q⟩ := h
  refine te_in (τ := τ) (ds := ds) eP.mono hl (fun _ _ _ s => s) s q fun t st1 v H1 F1 f1 s1 q1 => ?_
  have same : ∀ t' : TV, frT t = t' → t' = t → Q v H1 := fun t' e1 e2 => by
    have q1 : eP Γ B A τ ds σ Q (frT t) st1 F1 := q1
    rw [e1, e2] at q1
    exact q1 v H1 F1 (Same.refl _) s1
  obtain ⟨k, fr, d⟩ := t
  cases k with
  | own =>
    cases d with
    | lst xs =>
      cases fr with
      | true => exact same _ rfl rfl
      | false =>
        by_cases c : xs.all D.atom = true
        · have q1 : eP Γ B A τ ds σ Q ⟨.own, false || xs.all D.atom, .lst xs⟩ st1 F1 := q1
          rw [c] at q1
          exact q1 v H1 F1 (Same.refl _) (SR.flag s1 c)
        · exact same _ (show (⟨.own, false || xs.all D.atom, .lst xs⟩ : TV) = ⟨.own, false, .lst xs⟩ by rw [Bool.not_eq_true] at c; rw [c]; rfl) rfl
    | _ => exact same _ rfl rfl
  | _ => exact same _ rfl rfl
theorem qe_fr {X : Cx} {e : Expr} {m : ME} (h : PE X e (teOf Γ W m)) : PE X e (teOf Γ W (mFr m)) := pe_imp h fun _ _ _ => te_fr
end
end Dl

namespace Dl
open PySem PySem.Spec PyProof.Rows L2
/-! ## changes deep inside a window, in general: blocks as trees -/
/-- the statements T do what M tells: at M's end T0 follows, at M's `continue` T1 -/
def BkS (Γ : Gm) (W : WX) (T0 T1 : TS) (M : MS) (T : TS) : Prop := ∀ (D : Ends) (σ : L2.St) (H : Hp), msOf Γ W M { D with nx := T0 D, ct := T1 D } σ H → T D σ H
def mSeqN (a b : MS) : MS := fun st => (a st).bind fun p => match p.1 with
  | .next => b p.2
  | .ret t => .ok (.ret t, p.2)
  | _ => .stuck
section
variable {Γ : Gm} {W : WX} {T0 T1 T Ta Tb R : TS} {m r a b M : MS} {mt : MT}
theorem bk_nil : BkS Γ W T0 T1 mPass T0 := fun D σ H h => by
  obtain ⟨B, A, F, τ, ds, st, hl, nb, s, q⟩ := h
  exact q σ H F (Same.refl _) s
theorem bk_cont : BkS Γ W T0 T1 mCont T1 := fun D σ H h => by
  obtain ⟨B, A, F, τ, ds, st, hl, nb, s, q⟩ := h
  exact q σ H F (Same.refl _) s
theorem bk_of : BkS Γ W tNext tCont m (msOf Γ W m) := fun _ _ _ h => h
theorem bk_seq : BkS Γ W tNext tCont (mSeq a b) (tSeq (msOf Γ W a) (msOf Γ W b)) := fun _ _ _ h => se_seq h
theorem bk_seqT {Tb : TS} (hb : BkS Γ W tNext tCont b Tb) : BkS Γ W tNext tCont (mSeq a b) (tSeq (msOf Γ W a) Tb) := fun D σ H h => ms_mono (se_seq h) (fun σ H z => hb D σ H z) rfl rfl rfl
theorem bk_cons (hb : BkS Γ W T0 T1 r T) : BkS Γ W T0 T1 (mSeqN m r) (tSeq (msOf Γ W m) T) := fun D σ H h => by
  obtain ⟨B, A, F, τ, ds, st, hl, nb, s, q⟩ := h
  refine ⟨B, A, F, τ, ds, st, hl, nb, s, ?_⟩
  have q : sPost Γ W B A τ ds (sP Γ B A τ ds { D with nx := T0 D, ct := T1 D }) F ((m st).bind fun p => match p.1 with
    | .next => r p.2
    | .ret t => .ok (.ret t, p.2)
    | _ => .stuck) := q
  cases e : m st with
  | stuck => rw [e] at q; exact q
  | err c st1 => rw [e] at q; exact q
  | ok p =>
    obtain ⟨c, st1⟩ := p
    rw [e] at q
    cases c with
    | next => exact fun σ' H' F' f s' => hb D σ' H' ⟨B, A, F', τ, ds, st1, hl, nb, s', sPost.mono sP.mono f q⟩
    | brk => exact q.elim
    | cont => exact q.elim
    | ret t => exact q
theorem bk_if (ha : BkS Γ W T0 T1 a Ta) (hb : BkS Γ W T0 T1 b Tb) : BkS Γ W T0 T1 (mIf mt a b) (tIfS (ttOf Γ W mt) Ta Tb) := fun D σ H h => by
  obtain ⟨B, A, F, τ, ds, st, hl, nb, s, q⟩ := h
  refine st_in (τ := τ) (ds := ds) sP.mono hl (fun _ _ _ _ s => s) s q fun c st1 H1 F1 f1 s1 q1 => ?_
  cases c with
  | true => exact ha D σ H1 ⟨B, A, F1, τ, ds, st1, hl, nb, s1, q1⟩
  | false => exact hb D σ H1 ⟨B, A, F1, τ, ds, st1, hl, nb, s1, q1⟩
theorem bk_then (h : BkS Γ W T0 T1 M T) : BkS Γ W (tSeq T0 R) (tSeq T1 R) M (tSeq T R) := fun D σ H z => h { D with nx := R D } σ H z
theorem qss_bk {X : Cx} {ss : List Stmt} (hb : BkS Γ W tNext tCont M T) (h : PSs X ss T) : PSs X ss (msOf Γ W M) := pss_imp h fun D σ H z => hb D σ H z
end
/-- stage 1 makes the values that will be changed, stage 2 makes others; then the change and Rn, or (`continue`) no change and Rc -/
def mWinT (M1 M2 hv : MS) (ws : List Nat) (Rn Rc : MS) : MS := fun st => match M1 (oldS st) with
  | .ok (.next, st1) => (match M2 (winS st1) with
    | .ok (.next, st2) => (match hv (hvS st2) with
      | .ok (.next, _) => Rn (outS ws st2)
      | _ => .stuck)
    | .ok (.cont, st2) => Rc (outS [] st2)
    | .ok (.ret t, st2) => if t.k = .frz ∧ t.d.atom = true then .ok (.ret t, outS [] st2) else .stuck
    | .ok (.brk, _) => .stuck
    | .err ⟨n, none⟩ st2 => .err ⟨n, none⟩ (outS [] st2)
    | .err ⟨_, some _⟩ _ => .stuck
    | .stuck => .stuck)
  | .ok (.ret t, st1) => if t.k = .frz ∧ t.d.atom = true then .ok (.ret t, leaveS [] st1) else .stuck
  | .ok (.brk, _) => .stuck
  | .ok (.cont, _) => .stuck
  | .err ⟨n, none⟩ st1 => .err ⟨n, none⟩ (leaveS [] st1)
  | .err ⟨_, some _⟩ _ => .stuck
  | .stuck => .stuck
section
variable {Γ : Gm} {W : WX}
theorem bk_win {T0 T1 TRn TRc T2 T th : TS} {Rn Rc M1 M2 hv : MS} {ws : List Nat} (hh : Hav Γ W th hv ws) (bn : BkS Γ W T0 T1 Rn TRn) (bc : BkS Γ W T0 T1 Rc TRc) (b2 : BkS Γ W (tSeq th TRn) TRc M2 T2) (b1 : BkS Γ W T2 tNever M1 T) : BkS Γ W T0 T1 (mWinT M1 M2 hv ws Rn Rc) T := by
  intro D σ H h
  refine b1 D σ H ?_
  obtain ⟨B, A, F, τ, ds, st, hl, nb, s, q⟩ := h
  obtain ⟨F0, f0, s1⟩ := SR.frzAll st ds F s
  have s2 := s1.enter hl
  refine ⟨H, ⟨F0, none⟩, F0, [], [], oldS st, rfl, fun j t e => by simp at e, s2, ?_⟩
  have q : sPost Γ W B A τ ds (sP Γ B A τ ds { D with nx := T0 D, ct := T1 D }) F (mWinT M1 M2 hv ws Rn Rc st) := q
  unfold mWinT at q
  cases e : M1 (oldS st) with
  | stuck => rw [e] at q; exact q.elim
  | err c st1 =>
    rw [e] at q
    obtain ⟨cn, cx⟩ := c
    cases cx with
    | some _ => exact q.elim
    | none =>
      intro C d σ' H' F' g f y s3
      have s4 : SR Γ H ⟨F0, none⟩ F' H' σ' st1 := s3
      have y : d = none := y
      rw [y]
      exact q C none σ' H' F0 g f0 Pay.plain (LR.back hl s1 (s4.leave.wipe rfl (fun _ _ => rfl) s4.bh))
  | ok p =>
    obtain ⟨c, st1⟩ := p
    rw [e] at q
    cases c with
    | brk => exact q.elim
    | cont => exact q.elim
    | ret t =>
      have q : sPost Γ W B A τ ds (sP Γ B A τ ds { D with nx := T0 D, ct := T1 D }) F (if t.k = .frz ∧ t.d.atom = true then .ok (.ret t, leaveS [] st1) else .stuck) := q
      by_cases c : t.k = .frz ∧ t.d.atom = true
      · rw [if_pos c] at q
        refine ⟨q.1, fun v σ' H' F' f s3 => ?_⟩
        have s3 : SR Γ H ⟨F0, none⟩ F' H' (some v :: σ') (some t :: st1) := s3
        obtain ⟨k, fr, d⟩ := t
        have c1 : k = .frz := c.1
        subst c1
        have r : Rep Γ (sel fr H F') d v := s3.top
        exact q.2 v σ' H' F0 f0 ((LR.back hl s1 ((SR.leave s3.pop).wipe rfl (fun _ _ => rfl) s3.bh)).push (t := ⟨.frz, fr, d⟩) (Rep.atom r c.2) (by intro z; cases z))
      · rw [if_neg c] at q
        exact q.elim
    | next =>
      intro σ1 H1 F1' f1' s3
      have s3 : SR Γ H ⟨F0, none⟩ F1' H1 σ1 st1 := s3
      refine b2 D σ1 H1 ?_
      obtain ⟨F1, f1, s4⟩ := SR.frzAll st1 [] F1' s3
      have s4 : SR Γ H ⟨F0, none⟩ F1 H1 σ1 (st1.map frzE) := s4
      have s5 := SR.enter2 (st := st1) s4
      have f01 : Same F0 F1 := f1'.trans f1
      have back : ∀ {F2 H2 H' : Hp} {σ2 : L2.St} {stf : Sta}, Same F1 F2 → Same (minus F2 (minus H1 F0)) H' → Same H H' → LRG Γ (minus F2 (minus H1 F0)) σ2 stf → Same F (minus F2 (minus H1 F0)) ∧ SR Γ B A (minus F2 (minus H1 F0)) H' (τ ++ σ2) (ds ++ stf) := fun {F2 H2 H' σ2 stf} f12 gh hh' l => by
        have fg : Same F0 (minus F2 (minus H1 F0)) := fun a o z => by
          refine minus_in ?_ (f12 a o (f01 a o z))
          cases q : minus H1 F0 a with
          | none => rfl
          | some u =>
            have := (minus_at q).1
            rw [z] at this
            cases this
        refine ⟨f0.trans fg, LRG.back hl (s1.grow hh' fg gh fun a o z => ?_) l⟩
        obtain ⟨z1, z2⟩ := minus_at z
        by_cases c : F0 a = none
        · right
          cases q : H a with
          | none => rfl
          | some u =>
            have w := minus_in (F := H1) c (s4.bh a u q)
            rw [z1] at w
            cases w
        · left
          obtain ⟨u, hu⟩ := Option.ne_none_iff_exists'.mp c
          have := f12 a u (f01 a u hu)
          rw [z2] at this
          rw [hu]
          exact this.symm
      have q : sPost Γ W B A τ ds (sP Γ B A τ ds { D with nx := T0 D, ct := T1 D }) F (match M2 (winS st1) with
        | .ok (.next, st2) => (match hv (hvS st2) with
          | .ok (.next, _) => Rn (outS ws st2)
          | _ => .stuck)
        | .ok (.cont, st2) => Rc (outS [] st2)
        | .ok (.ret t, st2) => if t.k = .frz ∧ t.d.atom = true then .ok (.ret t, outS [] st2) else .stuck
        | .ok (.brk, _) => .stuck
        | .err ⟨n, none⟩ st2 => .err ⟨n, none⟩ (outS [] st2)
        | .err ⟨_, some _⟩ _ => .stuck
        | .stuck => .stuck) := q
      -- what is older than the window is there at stage 2's end
      have hh2 : ∀ {F2 H2 : Hp}, Same F1 F2 → Same F2 H2 → Same (minus H1 F0) H2 → Same H H2 := fun {F2 H2} f12 fh2 bh2 a o z => by
        have z1 := s4.bh a o z
        by_cases c : F0 a = none
        · exact bh2 a o (minus_in c z1)
        · obtain ⟨u, hu⟩ := Option.ne_none_iff_exists'.mp c
          have w := s1.fh a u hu
          rw [z] at w
          cases w
          exact fh2 a o (f12 a o (f01 a o hu))
      refine ⟨minus H1 F0, ⟨minus F1 H, none⟩, F1, [], [], winS st1, rfl, fun j t e => by simp at e, s5, ?_⟩
      cases e2 : M2 (winS st1) with
      | stuck => rw [e2] at q; exact q.elim
      | err c st2 =>
        rw [e2] at q
        obtain ⟨cn, cx⟩ := c
        cases cx with
        | some _ => exact q.elim
        | none =>
          intro C d σ2 H2 F2 g f y s6
          have s6 : SR Γ (minus H1 F0) ⟨minus F1 H, none⟩ F2 H2 σ2 st2 := s6
          have y : d = none := y
          rw [y]
          obtain ⟨F3, f3, s7⟩ := SR.frzAll st2 [] F2 s6
          have s7 : SR Γ (minus H1 F0) ⟨minus F1 H, none⟩ F3 H2 σ2 (st2.map frzE) := s7
          have f13 := f.trans f3
          obtain ⟨k1, k2⟩ := back (H2 := H2) f13 (minus_same.trans s7.fh) (hh2 f13 s7.fh s7.bh) (s7.out.wipe (ws := []) rfl (fun _ _ => rfl))
          exact q C none σ2 H2 _ g k1 Pay.plain k2
      | ok p2 =>
        obtain ⟨c2, st2⟩ := p2
        rw [e2] at q
        cases c2 with
        | brk => exact q.elim
        | cont =>
          intro σ2 H2 F2 f s6
          have s6 : SR Γ (minus H1 F0) ⟨minus F1 H, none⟩ F2 H2 σ2 st2 := s6
          refine bc D σ2 H2 ?_
          obtain ⟨F3, f3, s7⟩ := SR.frzAll st2 [] F2 s6
          have s7 : SR Γ (minus H1 F0) ⟨minus F1 H, none⟩ F3 H2 σ2 (st2.map frzE) := s7
          have f13 := f.trans f3
          obtain ⟨k1, k2⟩ := back (H2 := H2) f13 (minus_same.trans s7.fh) (hh2 f13 s7.fh s7.bh) (s7.out.wipe (ws := []) rfl (fun _ _ => rfl))
          exact ⟨B, A, _, τ, ds, _, hl, nb, k2, sPost.mono sP.mono k1 q⟩
        | ret t =>
          have q : sPost Γ W B A τ ds (sP Γ B A τ ds { D with nx := T0 D, ct := T1 D }) F (if t.k = .frz ∧ t.d.atom = true then .ok (.ret t, outS [] st2) else .stuck) := q
          by_cases c : t.k = .frz ∧ t.d.atom = true
          · rw [if_pos c] at q
            refine ⟨q.1, fun v σ2 H2 F2 f s6 => ?_⟩
            have s6 : SR Γ (minus H1 F0) ⟨minus F1 H, none⟩ F2 H2 (some v :: σ2) (some t :: st2) := s6
            obtain ⟨k, fr, d⟩ := t
            have c1 : k = .frz := c.1
            subst c1
            have r : Rep Γ (sel fr (minus H1 F0) F2) d v := s6.top
            obtain ⟨F3, f3, s7⟩ := SR.frzAll st2 [] F2 s6.pop
            have s7 : SR Γ (minus H1 F0) ⟨minus F1 H, none⟩ F3 H2 σ2 (st2.map frzE) := s7
            have f13 := f.trans f3
            obtain ⟨k1, k2⟩ := back (H2 := H2) f13 (minus_same.trans s7.fh) (hh2 f13 s7.fh s7.bh) (s7.out.wipe (ws := []) rfl (fun _ _ => rfl))
            exact q.2 v σ2 H2 _ k1 (k2.push (t := ⟨.frz, fr, d⟩) (Rep.atom r c.2) (by intro z; cases z))
          · rw [if_neg c] at q
            exact q.elim
        | next =>
          have q : sPost Γ W B A τ ds (sP Γ B A τ ds { D with nx := T0 D, ct := T1 D }) F (match hv (hvS st2) with
            | .ok (.next, _) => Rn (outS ws st2)
            | _ => .stuck) := q
          cases e3 : hv (hvS st2) with
          | stuck => rw [e3] at q; exact q.elim
          | err c st3 => rw [e3] at q; exact q.elim
          | ok p3 =>
            obtain ⟨c3, st3⟩ := p3
            rw [e3] at q
            cases c3 with
            | brk => exact q.elim
            | cont => exact q.elim
            | ret t => exact q.elim
            | next =>
              intro σ2 H2 F2 f s6
              have s6 : SR Γ (minus H1 F0) ⟨minus F1 H, none⟩ F2 H2 σ2 st2 := s6
              obtain ⟨F3, f3, s7⟩ := SR.frzAll st2 [] F2 s6
              have s7 : SR Γ (minus H1 F0) ⟨minus F1 H, none⟩ F3 H2 σ2 (st2.map frzE) := s7
              have f13 := f.trans f3
              refine hh _ _ F3 H2 σ2 (hvS st2) st3 _ s7.seen e3 fun σ3 H3 l3 k3 b3 => ?_
              have gh : Same (minus F3 (minus H1 F0)) H3 := fun a o z => by
                obtain ⟨z1, z2⟩ := minus_at z
                refine b3 a o (minus_in ?_ (s7.fh a o z2))
                cases q : minus F1 H a with
                | none => rfl
                | some u =>
                  have := s7.ab a u q
                  rw [z1] at this
                  cases this
              have hH : Same H H3 := fun a o z => by
                refine b3 a o (minus_in ?_ (hh2 f13 s7.fh s7.bh a o z))
                cases q : minus F1 H a with
                | none => rfl
                | some u =>
                  have := (minus_at q).1
                  rw [z] at this
                  cases this
              obtain ⟨k1, k2⟩ := back (H2 := H2) f13 gh hH (s7.out.wipe l3 k3)
              exact bn D σ3 H3 ⟨B, A, _, τ, ds, _, hl, nb, k2, sPost.mono sP.mono k1 q⟩
end
end Dl

namespace Dl
open PySem PySem.Spec PyProof.Rows L2
/-! ## changes deep inside a window: appends, stores, loops of these -/
def flatV : D → Bool
  | .non => true
  | .bl _ => true
  | .int _ => true
  | .str _ => true
  | _ => false
def deepV : D → Bool
  | .lst _ => true
  | .tup _ => true
  | _ => false
def pthH : D → List Int → Option D
  | d, [] => some d
  | .lst xs, k :: ks => if 0 ≤ k then (xs[k.toNat]?).bind fun d => pthH d ks else none
  | .tup xs, k :: ks => if 0 ≤ k then (xs[k.toNat]?).bind fun d => pthH d ks else none
  | _, _ => none
/-- H is a heap whose lists in G have only grown, by m items at most; their references are where they were (ni: their ints are ints) -/
structure HI (ni : Bool) (B G : Hp) (m : Nat) (H : Hp) : Prop where
  b : ∀ a u, B a = some u → H a = some u
  l : ∀ a vs, G a = some (.lst vs) → ∃ vs', H a = some (.lst vs') ∧ vs.length ≤ vs'.length ∧ vs'.length ≤ vs.length + m ∧ (∀ (j : Nat) p, vs[j]? = some (.ref p) → vs'[j]? = some (.ref p)) ∧ (ni = true → ∀ (j : Nat) i, vs[j]? = some (.int i) → ∃ i', vs'[j]? = some (.int i'))
  o : ∀ a o, G a = some o → (∀ vs, o ≠ .lst vs) → H a = some o
def Agr (ws : List Nat) (σ σ' : L2.St) : Prop := σ'.length = σ.length ∧ ∀ i, i ∉ ws → σ'[i]? = σ[i]?
/-- lists of references stay -/
def Kp (G H H' : Hp) : Prop := ∀ a p r, G a = some (.lst (.ref p :: r)) → H' a = H a
def HT (ni : Bool) (B G : Hp) (σ0 : L2.St) (ws : List Nat) (fl z : Bool) (n : Nat) (th : TS) : Prop := ∀ (m : Nat) (σ : L2.St) (H : Hp) (D : Ends), m + n ≤ 8388608 → (z = true → m = 0) → Agr ws σ0 σ → HI ni B G m H →
  (∀ σ' H', Agr ws σ0 σ' → HI ni B G (m + n) H' → (fl = true → Kp G H H') → D.nx σ' H') → th D σ H
/-- what is stored: it yields something and leaves the heap -/
def ArgV (ni : Bool) (te : TE) : Prop := ∀ σ H (Q : VK), (∀ w H', Same H H' → (ni = true → ∃ i, w = .int i) → Q w H') → te σ H Q
section
variable {Γ : Gm} {W : WX} {ni : Bool} {B G F H H' : Hp} {σ σ0 : L2.St} {t te : TE} {v w : V} {d d' : D} {m n n1 n2 i x : Nat} {ws : List Nat} {ks : List Int} {k : Int} {fl z z1 z2 : Bool} {xs : List D} {th t1 t2 : TS}
theorem argV_c {c : Int} : ArgV ni (tC (.int c)) := fun _ _ _ h => h _ _ (Same.refl _) fun _ => ⟨c, rfl⟩
theorem argV_n : ArgV false (tC .non) := fun _ _ _ h => h _ _ (Same.refl _) fun e => by cases e
theorem rep_deep (r : Rep Γ G d v) (h : deepV d = true) : ∃ p, v = .ref p := by
  cases d with
  | lst xs =>
    simp only [Rep] at r
    obtain ⟨p, vs, h1, _⟩ := r
    exact ⟨p, h1⟩
  | tup xs =>
    simp only [Rep] at r
    obtain ⟨p, vs, h1, _⟩ := r
    exact ⟨p, h1⟩
  | _ => cases h
theorem rep_flat {p : Addr} (r : Rep Γ G d (.ref p)) (h : flatV d = true) : False := by
  cases d with
  | non => simp only [Rep] at r; cases r
  | bl b => simp only [Rep] at r; cases r
  | int i => simp only [Rep] at r; cases r
  | str s => simp only [Rep] at r; cases r
  | _ => cases h
theorem pthH_deep : ∀ {ks : List Int} {d d' : D}, pthH d ks = some d' → deepV d' = true → deepV d = true
  | [], d, d', e, h => by
    have e : d = d' := by cases d <;> exact Option.some.inj e
    rw [e]; exact h
  | k :: ks, d, d', e, h => by
    cases d with
    | lst xs => rfl
    | tup xs => rfl
    | _ => cases e
theorem HI.sqT {p : Addr} {us : List V} (hi : HI ni B G m H) (h : SqT Γ.K G p us) : SqT Γ.K H p us := by
  rcases h with (h | ⟨o, h⟩) | h
  · exact .inl (.inl (hi.o _ _ h fun vs e => by cases e))
  · exact .inl (.inr ⟨o, hi.o _ _ h fun vs e => by cases e⟩)
  · exact .inr h
theorem HI.same (hi : HI ni B G m H) (e : Same H H') : HI ni B G m H' := by
  refine ⟨fun a u h => e _ _ (hi.b a u h), fun a vs h => ?_, fun a o h n => e _ _ (hi.o a o h n)⟩
  obtain ⟨vs', h1, h2⟩ := hi.l a vs h
  exact ⟨vs', e _ _ h1, h2⟩
theorem ixN_n {n j : Nat} (hj : j < n) : ixN n (j : Int) = some j := by
  unfold ixN
  rw [if_pos (by omega), if_pos (by omega)]
  simp
theorem atI_of {us : List V} {k : Int} (h0 : 0 ≤ k) (h : us[k.toNat]? = some w) : atI us k = some w := by
  have hl := (List.getElem?_eq_some_iff.mp h).1
  have e : k = ((k.toNat : Nat) : Int) := by omega
  unfold atI
  rw [e, ixN_n hl]
  exact h
theorem yld_H (hi : HI ni B G m H) : ∀ {ks : List Int} {t : TE} {d d' : D} {v : V}, Yld t σ H v → Rep Γ G d v → pthH d ks = some d' → deepV d' = true → ∃ w, Rep Γ G d' w ∧ Yld (tPath Γ.K t ks) σ H w
  | [], t, d, d', v, y, r, e, _ => by
    have e : d = d' := by cases d <;> exact Option.some.inj e
    subst e
    exact ⟨v, r, y⟩
  | k :: ks, t, d, d', v, y, r, e, hd => by
    cases d with
    | lst xs =>
      have e : (if 0 ≤ k then (xs[k.toNat]?).bind fun d => pthH d ks else none) = some d' := e
      split at e
      · rename_i h0
        obtain ⟨d1, e1, e2⟩ := Option.bind_eq_some_iff.mp e
        obtain ⟨p, us, rfl, h2, h3⟩ := rep_lst r (Same.refl _)
        obtain ⟨v1, g1, g2⟩ := h3.get e1
        obtain ⟨p1, rfl⟩ := rep_deep g2 (pthH_deep e2 hd)
        obtain ⟨us', q1, q2, q3, q4, q5⟩ := hi.l p us h2
        have z := yld_H hi (y.lst (K := Γ.K) q1 (atI_of h0 (q4 _ _ g1))) g2 e2 hd
        exact z
      · cases e
    | tup xs =>
      have e : (if 0 ≤ k then (xs[k.toNat]?).bind fun d => pthH d ks else none) = some d' := e
      split at e
      · rename_i h0
        obtain ⟨d1, e1, e2⟩ := Option.bind_eq_some_iff.mp e
        obtain ⟨p, us, rfl, h2, h3⟩ := rep_tup r (Same.refl G)
        obtain ⟨v1, g1, g2⟩ := h3.get e1
        have z := yld_H hi (y.tup (K := Γ.K) (hi.sqT h2) (atI_of h0 g1)) g2 e2 hd
        exact z
      · cases e
    | _ => cases e
theorem kp_ne {p q : Addr} {us : List V} {a : Addr} {r : List V} (h1 : G p = some (.lst us)) (h3 : RepL Γ G xs us) (hx : xs.all flatV = true) (h : G a = some (.lst (.ref q :: r))) : a ≠ p := fun e => by
  rw [e, h1] at h
  cases h
  cases xs with
  | nil => cases h3.nil_inv
  | cons x xs =>
    obtain ⟨v, r', e, r1, _⟩ := h3.cons_inv
    cases e
    rw [List.all_cons, Bool.and_eq_true_iff] at hx
    exact rep_flat r1 hx.1
theorem app_run2 {K : PySem.W.Frag} {p : Addr} {us : List V} {D : Ends} (y : Yld t σ H (.ref p)) (hp : H p = some (.lst us)) (hl : us.length < sizeLine) (ha : ∀ Q : VK, (∀ w H', Same H H' → Q w H') → te σ H Q) (q : ∀ H', (∀ a o, a ≠ p → H a = some o → H' a = some o) → (∃ w, H' p = some (.lst (us ++ [w]))) → D.nx σ H') : tApp K t te D σ H := by
  refine y _ ⟨.inl ⟨rfl, us, SqL.of hp⟩, ha _ fun w H1 e => ?_⟩
  refine ⟨p, us, w, rfl, rfl, e _ _ hp, hl, q _ (fun a o ne z => ?_) ⟨w, upd_same⟩⟩
  rw [upd_ne ne]
  exact e _ _ z
theorem ht_app (gb : ∀ a o, G a = some o → B a = none) (hw : i ∉ ws) (ev : σ0[i]? = some (some v)) (r : Rep Γ G d v) (e : pthH d ks = some (.lst xs)) (hl : xs.length ≤ 4194304) (ha : ∀ m σ H (Q : VK), Agr ws σ0 σ → HI ni B G m H → (∀ w H', Same H H' → Q w H') → te σ H Q) (hf : fl = true → xs.all flatV = true) :
    HT ni B G σ0 ws fl z 1 (tApp Γ.K (tPath Γ.K (tVar i) ks) te) := by
  intro m σ H D hm _ ag hi k
  obtain ⟨w, r1, y1⟩ := yld_H (σ := σ) hi (t := tVar i) (fun Q q => ⟨v, by rw [ag.2 i hw]; exact ev, q⟩) r e rfl
  obtain ⟨p, us, rfl, h2, h3⟩ := rep_lst r1 (Same.refl G)
  obtain ⟨us', q1, q2, q3, q4, q5⟩ := hi.l p us h2
  refine app_run2 y1 q1 (by have := h3.length; rw [sizeLine_eq]; omega) (fun Q q => ha m σ H Q ag hi q) fun H' g1 ⟨w, g2⟩ => k σ H' ag ⟨fun a u h => ?_, fun a vs h => ?_, fun a o h n => ?_⟩ fun hfl a q r h => ?_
  · exact g1 a u (fun e => by rw [e, gb _ _ h2] at h; cases h) (hi.b a u h)
  · by_cases c : a = p
    · subst c
      rw [h2] at h
      cases h
      refine ⟨us' ++ [w], g2, by rw [List.length_append]; omega, by rw [List.length_append, List.length_singleton]; omega, fun j q h => ?_, fun hn j i h => ?_⟩
      · have := q4 j q h
        rw [List.getElem?_append_left (List.getElem?_eq_some_iff.mp this).1]
        exact this
      · obtain ⟨i', this⟩ := q5 hn j i h
        exact ⟨i', by rw [List.getElem?_append_left (List.getElem?_eq_some_iff.mp this).1]; exact this⟩
    · obtain ⟨vs', w1, w2, w3, w4⟩ := hi.l a vs h
      exact ⟨vs', g1 _ _ c w1, w2, by omega, w4⟩
  · refine g1 a o (fun e => ?_) (hi.o a o h n)
    rw [e, h2] at h
    cases h
    exact n us rfl
  · have c := kp_ne h2 h3 (hf hfl) h
    obtain ⟨vs', w1, _⟩ := hi.l a _ h
    rw [w1]
    exact g1 _ _ c w1
theorem ht_set (gb : ∀ a o, G a = some o → B a = none) (hw : i ∉ ws) (ev : σ0[i]? = some (some v)) (r : Rep Γ G d v) (e : pthH d ks = some (.lst xs)) (h0 : 0 ≤ k) {dk : D} (hk : xs[k.toNat]? = some dk) (hdk : flatV dk = true) (ha : ∀ m σ H (Q : VK), Agr ws σ0 σ → HI ni B G m H → (∀ w H', Same H H' → (ni = true → ∃ i, w = .int i) → Q w H') → te σ H Q) (hf : fl = true → xs.all flatV = true) :
    HT ni B G σ0 ws fl z 0 (tAsg te (gSub (tPath Γ.K (tVar i) ks) (tC (.int k)) rSetL)) := by
  intro m σ H D hm _ ag hi kk
  refine ha m σ H _ ag hi fun w H1 sm hin => ?_
  have hi1 := hi.same sm
  obtain ⟨w0, r1, y1⟩ := yld_H (σ := σ) hi1 (t := tVar i) (fun Q q => ⟨v, by rw [ag.2 i hw]; exact ev, q⟩) r e rfl
  obtain ⟨p, us, rfl, h2, h3⟩ := rep_lst r1 (Same.refl G)
  obtain ⟨us', q1, q2, q3, q4, q5⟩ := hi1.l p us h2
  obtain ⟨vk, e1, e2⟩ := h3.get hk
  have lk : k.toNat < us'.length := Nat.lt_of_lt_of_le (List.getElem?_eq_some_iff.mp e1).1 q2
  refine y1 _ ⟨p, us', k, k.toNat, rfl, rfl, q1, ?_, kk σ _ ag ⟨fun a u h => ?_, fun a vs h => ?_, fun a o h n => ?_⟩ fun hfl a q r h => ?_⟩
  · have e : ((k.toNat : Nat) : Int) = k := by omega
    have e2 := ixN_n lk
    rw [e] at e2
    exact e2
  · rw [upd_ne (fun e => by rw [e, gb _ _ h2] at h; cases h)]
    exact hi1.b a u h
  · by_cases c : a = p
    · subst c
      rw [h2] at h
      cases h
      refine ⟨us'.set k.toNat w, upd_same, by rw [List.length_set]; exact q2, by rw [List.length_set]; omega, fun j q h => ?_, fun hn j i h => ?_⟩
      · have c : j ≠ k.toNat := fun e => by
          rw [e, e1] at h
          cases h
          exact rep_flat e2 hdk
        rw [List.getElem?_set_ne (fun e => c e.symm)]
        exact q4 j q h
      · by_cases c : j = k.toNat
        · obtain ⟨i', ei⟩ := hin hn
          exact ⟨i', by rw [c, List.getElem?_set_self lk, ei]⟩
        · rw [List.getElem?_set_ne (fun e => c e.symm)]
          exact q5 hn j i h
    · obtain ⟨vs', w1, w2, w3, w4⟩ := hi1.l a vs h
      exact ⟨vs', by rw [upd_ne c]; exact w1, w2, by omega, w4⟩
  · rw [upd_ne (fun e => by rw [e, h2] at h; cases h; exact n us rfl)]
    exact hi1.o a o h n
  · have c := kp_ne h2 h3 (hf hfl) h
    obtain ⟨vs', w1, _⟩ := hi.l a _ h
    rw [upd_ne c, w1]
    exact sm _ _ w1
theorem ht_seq (h1 : HT ni B G σ0 ws fl z1 n1 t1) (h2 : HT ni B G σ0 ws fl z2 n2 t2) (hz : z2 = true → n1 = 0) : HT ni B G σ0 ws fl (z1 || z2) (n1 + n2) (tSeq t1 t2) := by
  intro m σ H D hm hz0 ag hi k
  refine h1 m σ H { D with nx := t2 D } (by omega) (fun e => hz0 (by rw [e]; rfl)) ag hi fun σ1 H1 ag1 hi1 k1 => ?_
  refine h2 (m + n1) σ1 H1 D (by omega) (fun e => by rw [hz e, hz0 (by rw [e, Bool.or_true])]) ag1 hi1 fun σ2 H2 ag2 hi2 k2 => ?_
  refine k σ2 H2 ag2 (by rw [← Nat.add_assoc]; exact hi2) fun hfl a p r h => ?_
  rw [k2 hfl a p r h, k1 hfl a p r h]
theorem ht_each {nb : Nat} {Tb : TS} (gb : ∀ a o, G a = some o → B a = none) (hw : i ∉ ws) (hx : x ∈ ws) (ev : σ0[i]? = some (some v)) (r : Rep Γ G d v) (e : pthH d ks = some (.lst xs)) (hd : xs.all deepV = true) (xl : x < σ0.length)
    (body : ∀ σ1 dx u, dx ∈ xs → Rep Γ G dx u → σ1[x]? = some (some u) → HT ni B G σ1 [] true false nb Tb) : HT ni B G σ0 ws false true (xs.length * nb) (tFor (iList Γ.K (tPath Γ.K (tVar i) ks)) (gName x) Tb) := by
  intro m σ H D hm hz ag hi kk
  have m0 := hz rfl
  subst m0
  obtain ⟨w0, r1, y1⟩ := yld_H (σ := σ) hi (t := tVar i) (fun Q q => ⟨v, by rw [ag.2 i hw]; exact ev, q⟩) r e rfl
  obtain ⟨p, us, rfl, h2, h3⟩ := rep_lst r1 (Same.refl G)
  obtain ⟨us', q1, q2, q3, q4, q5⟩ := hi.l p us h2
  have lx := h3.length
  have rf : ∀ (j : Nat) (u : V), us[j]? = some u → ∃ q, u = .ref q := fun j u h => by
    obtain ⟨dj, e1, e2⟩ := h3.get' h
    exact rep_deep e2 (List.all_eq_true.mp hd dj (List.mem_of_getElem? e1))
  have eu : us' = us := by
    refine List.ext_getElem? fun j => ?_
    by_cases c : j < us.length
    · have e1 : us[j]? = some us[j] := List.getElem?_eq_getElem c
      obtain ⟨q, eq⟩ := rf j _ e1
      rw [eq] at e1
      rw [e1]
      exact q4 j q e1
    · rw [List.getElem?_eq_none (by omega), List.getElem?_eq_none (by omega)]
  subst eu
  refine y1 _ ⟨p, rfl, ⟨us', SqL.of q1⟩, fun j mm σ' H' => mm = us'.length - j ∧ j ≤ us'.length ∧ Agr ws σ0 σ' ∧ HI ni B G (j * nb) H' ∧ H' p = some (.lst us'), ⟨_, rfl, Nat.zero_le _, ag, by rw [Nat.zero_mul]; exact hi, q1⟩, ?_⟩
  rintro j mm σ' H' ⟨rfl, hj, ag', hi', hp'⟩
  by_cases hlt : j < us'.length
  · have eg : us'[j]? = some us'[j] := List.getElem?_eq_getElem hlt
    have jn : j * nb + nb ≤ xs.length * nb := by
      have := Nat.mul_le_mul_right nb (show j + 1 ≤ xs.length by omega)
      rw [Nat.succ_mul] at this
      exact this
    refine .inr ⟨⟨us', us'[j], SqL.of hp', eg⟩, fun σ2 H2 => Agr ws σ0 σ2 ∧ HI ni B G ((j + 1) * nb) H2 ∧ H2 p = some (.lst us'), fun σ2 H2 ⟨n1, n2, n3⟩ => ⟨_, ?_, rfl, hlt, n1, n2, n3⟩, fun xv H2 ⟨y2, y3⟩ => ?_⟩
    · omega
    · subst y2
      have ex := y3 us' (SqL.of hp')
      obtain ⟨dx, e1, e2⟩ := h3.get' ex
      have xl' : x < σ'.length := by rw [ag'.1]; exact xl
      refine body (σ'.set x (some xv)) dx xv (List.mem_of_getElem? e1) e2 (by rw [List.getElem?_set_self xl']) (j * nb) (σ'.set x (some xv)) H2 _ (by omega) (fun e => by cases e) ⟨rfl, fun _ _ => rfl⟩ hi' fun σ2 H3 ag2 hi2 kp => ?_
      refine ⟨⟨by rw [ag2.1, List.length_set, ag'.1], fun l hl => ?_⟩, by rw [Nat.succ_mul]; exact hi2, ?_⟩
      · rw [ag2.2 l (by simp), List.getElem?_set_ne (fun e => hl (by rw [← e]; exact hx))]
        exact ag'.2 l hl
      · have : ∃ q r, us' = .ref q :: r := by
          cases us' with
          | nil => simp at hlt
          | cons u r =>
            obtain ⟨q, eq⟩ := rf 0 u rfl
            exact ⟨q, r, by rw [eq]⟩
        obtain ⟨q, r, eq⟩ := this
        rw [kp rfl p q r (by rw [← eq]; exact h2)]
        exact hp'
  · have ej : j = us'.length := by omega
    refine .inl ⟨⟨us', SqL.of hp', by omega⟩, kk σ' H' ag' ?_ fun e => by cases e⟩
    rw [Nat.zero_add, lx, ← ej]
    exact hi'
end
/-! ### the checks -/
def flatW (ni : Bool) : D → Bool := fun d => flatV d
/-- a change of one value (a loop's turn) -/
def HbS (Γ : Gm) (ni : Bool) (x : Nat) (chk : D → Bool) (n : Nat) (Tb : TS) : Prop := ∀ (B G : Hp) (σ1 : L2.St) (d : D) (u : V), (∀ a o, G a = some o → B a = none) → Rep Γ G d u → σ1[x]? = some (some u) → chk d = true → HT ni B G σ1 [] true false n Tb
def chkA (ks : List Int) (d : D) : Bool := match pthH d ks with
  | some (.lst xs) => decide (xs.length ≤ 4194304) && xs.all flatV
  | _ => false
def chkS (ks : List Int) (k : Int) (d : D) : Bool := match pthH d ks with
  | some (.lst xs) => decide (0 ≤ k) && decide (k.toNat < xs.length) && xs.all flatV
  | _ => false
def HvS (Γ : Gm) (ni : Bool) (ws : List Nat) (chk : Sta → Option Nat) (z : Bool) (th : TS) : Prop := ∀ (B : Hp) (A : Ao) (F H : Hp) (σ : L2.St) (st : Sta) (n : Nat), SR Γ B A F H σ st → chk st = some n → HT ni B (minus F B) σ ws false z n th
def slotH (ws : List Nat) (i : Nat) (ks : List Int) (st : Sta) : Option (List D) := if ws.contains i = true then none else match st[i]? with
  | some (some ⟨.frz, true, d⟩) => (match pthH d ks with
    | some (.lst xs) => some xs
    | _ => none)
  | _ => none
def cApp (ws : List Nat) (i : Nat) (ks : List Int) (st : Sta) : Option Nat := (slotH ws i ks st).bind fun xs => if xs.length ≤ 4194304 then some 1 else none
def cAppP (ws : List Nat) (i : Nat) (ks : List Int) (i2 : Nat) (ks2 : List Int) (st : Sta) : Option Nat := (slotH ws i ks st).bind fun xs => (slotH ws i2 ks2 st).bind fun _ => if xs.length ≤ 4194304 then some 1 else none
def cSet (ws : List Nat) (i : Nat) (ks : List Int) (k : Int) (st : Sta) : Option Nat := (slotH ws i ks st).bind fun xs => if 0 ≤ k then (match xs[k.toNat]? with
  | some d => if flatV d = true then some 0 else none
  | none => none) else none
def cEach (ws : List Nat) (i : Nat) (ks : List Int) (x : Nat) (chk : D → Bool) (n : Nat) (st : Sta) : Option Nat := if ws.contains x = true ∧ x < st.length then (slotH ws i ks st).bind fun xs => if xs.all deepV = true ∧ xs.all chk = true then some (xs.length * n) else none else none
def cSeq (c1 c2 : Sta → Option Nat) (z2 : Bool) (st : Sta) : Option Nat := match c1 st, c2 st with
  | some a, some b => if z2 = true then (if a = 0 then some b else none) else some (a + b)
  | _, _ => none
def mHv (c : Sta → Option Nat) : MS := fun st => match c st with
  | some n => if n ≤ 8388608 then .ok (.next, st) else .stuck
  | none => .stuck
section
variable {Γ : Gm} {W : WX} {ni : Bool} {te : TE} {i x : Nat} {ws : List Nat} {ks : List Int} {k : Int} {z z1 z2 : Bool} {c c1 c2 : Sta → Option Nat} {th t1 t2 : TS} {n n1 n2 : Nat} {chk chk1 chk2 : D → Bool} {Tb : TS}
theorem slotH_some {B : Hp} {A : Ao} {F H : Hp} {σ : L2.St} {st : Sta} {xs : List D} (s : SR Γ B A F H σ st) (h : slotH ws i ks st = some xs) : i ∉ ws ∧ ∃ d v, σ[i]? = some (some v) ∧ Rep Γ (minus F B) d v ∧ pthH d ks = some (.lst xs) := by
  unfold slotH at h
  split at h
  · cases h
  · rename_i hw
    refine ⟨fun e => hw (List.contains_iff_mem.mpr e), ?_⟩
    split at h
    · rename_i d hs
      split at h
      · rename_i ys hp
        cases h
        obtain ⟨v, ev, en⟩ := s.en i _ hs
        exact ⟨d, v, ev, en, hp⟩
      · cases h
    · cases h
theorem minus_b {F B : Hp} : ∀ a o, minus F B a = some o → B a = none := fun a o h => (minus_at h).1
theorem hs_app (ha : ArgOk te) : HvS Γ ni ws (cApp ws i ks) false (tApp Γ.K (tPath Γ.K (tVar i) ks) te) := by
  intro B A F H σ st n s e
  unfold cApp at e
  obtain ⟨xs, e1, e2⟩ := Option.bind_eq_some_iff.mp e
  obtain ⟨hw, d, v, ev, r, hp⟩ := slotH_some s e1
  split at e2
  · rename_i hl
    cases e2
    exact ht_app minus_b hw ev r hp hl (fun _ σ H Q _ _ q => ha σ H Q q) fun e => by cases e
  · cases e2
theorem hs_appP {i2 : Nat} {ks2 : List Int} : HvS Γ ni ws (cAppP ws i ks i2 ks2) false (tApp Γ.K (tPath Γ.K (tVar i) ks) (tPath Γ.K (tVar i2) ks2)) := by
  intro B A F H σ st n s e
  unfold cAppP at e
  obtain ⟨xs, e1, e2⟩ := Option.bind_eq_some_iff.mp e
  obtain ⟨ys, e3, e2⟩ := Option.bind_eq_some_iff.mp e2
  obtain ⟨hw, d, v, ev, r, hp⟩ := slotH_some s e1
  obtain ⟨hw2, d2, v2, ev2, r2, hp2⟩ := slotH_some s e3
  split at e2
  · rename_i hl
    cases e2
    refine ht_app minus_b hw ev r hp hl (fun m σ' H' Q ag hi q => ?_) fun e => by cases e
    obtain ⟨w, _, y⟩ := yld_H (σ := σ') hi (t := tVar i2) (fun Q q => ⟨v2, by rw [ag.2 i2 hw2]; exact ev2, q⟩) r2 hp2 rfl
    exact y Q (q w H' (Same.refl _))
  · cases e2
theorem hs_set (ha : ArgV ni te) : HvS Γ ni ws (cSet ws i ks k) false (tAsg te (gSub (tPath Γ.K (tVar i) ks) (tC (.int k)) rSetL)) := by
  intro B A F H σ st n s e
  unfold cSet at e
  obtain ⟨xs, e1, e2⟩ := Option.bind_eq_some_iff.mp e
  obtain ⟨hw, d, v, ev, r, hp⟩ := slotH_some s e1
  split at e2
  · rename_i h0
    split at e2
    · rename_i dk hk
      split at e2
      · rename_i hd
        cases e2
        exact ht_set minus_b hw ev r hp h0 hk hd (fun _ σ H Q _ _ q => ha σ H Q q) fun e => by cases e
      · cases e2
    · cases e2
  · cases e2
theorem hb_app (ha : ArgOk te) : HbS Γ ni x (chkA ks) 1 (tApp Γ.K (tPath Γ.K (tVar x) ks) te) := by
  intro B G σ1 d u gb r ev h
  unfold chkA at h
  split at h
  · rename_i xs hp
    rw [Bool.and_eq_true_iff] at h
    exact ht_app gb (by simp) ev r hp (of_decide_eq_true h.1) (fun _ σ H Q _ _ q => ha σ H Q q) fun _ => h.2
  · cases h
theorem hb_set (ha : ArgV ni te) : HbS Γ ni x (chkS ks k) 0 (tAsg te (gSub (tPath Γ.K (tVar x) ks) (tC (.int k)) rSetL)) := by
  intro B G σ1 d u gb r ev h
  unfold chkS at h
  split at h
  · rename_i xs hp
    rw [Bool.and_eq_true_iff, Bool.and_eq_true_iff] at h
    have hk : xs[k.toNat]? = some (xs[k.toNat]'(of_decide_eq_true h.1.2)) := List.getElem?_eq_getElem _
    exact ht_set gb (by simp) ev r hp (of_decide_eq_true h.1.1) hk (List.all_eq_true.mp h.2 _ (List.mem_of_getElem? hk)) (fun _ σ H Q _ _ q => ha σ H Q q) fun _ => h.2
  · cases h
theorem hb_seq (h1 : HbS Γ ni x chk1 n1 t1) (h2 : HbS Γ ni x chk2 n2 t2) : HbS Γ ni x (fun d => chk1 d && chk2 d) (n1 + n2) (tSeq t1 t2) := by
  intro B G σ1 d u gb r ev h
  rw [Bool.and_eq_true_iff] at h
  exact ht_seq (z1 := false) (h1 B G σ1 d u gb r ev h.1) (h2 B G σ1 d u gb r ev h.2) fun e => by cases e
theorem hs_each (hb : HbS Γ ni x chk n Tb) : HvS Γ ni ws (cEach ws i ks x chk n) true (tFor (iList Γ.K (tPath Γ.K (tVar i) ks)) (gName x) Tb) := by
  intro B A F H σ st n' s e
  unfold cEach at e
  split at e
  · rename_i hx
    obtain ⟨xs, e1, e2⟩ := Option.bind_eq_some_iff.mp e
    obtain ⟨hw, d, v, ev, r, hp⟩ := slotH_some s e1
    split at e2
    · rename_i hd
      cases e2
      exact ht_each minus_b hw (List.contains_iff_mem.mp hx.1) ev r hp hd.1 (by rw [s.ln]; exact hx.2) fun σ1 dx u hm r1 ev1 => hb B (minus F B) σ1 dx u minus_b r1 ev1 (List.all_eq_true.mp hd.2 dx hm)
    · cases e2
  · cases e
theorem hs_seq (h1 : HvS Γ ni ws c1 z1 t1) (h2 : HvS Γ ni ws c2 z2 t2) : HvS Γ ni ws (cSeq c1 c2 z2) (z1 || z2) (tSeq t1 t2) := by
  intro B A F H σ st n s e
  unfold cSeq at e
  split at e
  · rename_i a b e1 e2
    cases z2 with
    | true =>
      rw [if_pos rfl] at e
      split at e
      · rename_i a0
        cases e
        subst a0
        have := ht_seq (h1 B A F H σ st 0 s e1) (h2 B A F H σ st n s e2) fun _ => rfl
        rw [Nat.zero_add] at this
        exact this
      · cases e
    | false =>
      rw [if_neg Bool.false_ne_true] at e
      cases e
      exact ht_seq (h1 B A F H σ st a s e1) (h2 B A F H σ st b s e2) fun e => by cases e
  · cases e
theorem hav_hs (ni : Bool) (h : HvS Γ ni ws c z th) : Hav Γ W th (mHv c) ws := by
  intro B A F H σ st st2 D s e k
  unfold mHv at e
  split at e
  · rename_i n hn
    split at e
    · rename_i hl
      refine h B A F H σ st n s hn 0 σ H D (by omega) (fun _ => rfl) ⟨rfl, fun _ _ => rfl⟩ ⟨fun a u h => s.bh a u h, fun a vs h => ⟨vs, s.fh _ _ (minus_same _ _ h), Nat.le_refl _, Nat.le_refl _, fun _ _ h => h, fun _ _ i h => ⟨i, h⟩⟩, fun a o h _ => s.fh _ _ (minus_same _ _ h)⟩ fun σ' H' ag hi _ => ?_
      exact k σ' H' ag.1 ag.2 hi.b
    · cases e
  · cases e
end
/-! ### leaves -/
def LeafS (th R T : TS) : Prop := T = tSeq th R
section
variable {Γ : Gm} {W : WX} {a b th A R T T1 T1' Tx : TS} {M : MS}
theorem leaf1 : LeafS th R (tSeq th R) := rfl
theorem leafC (h : LeafS b R T) : LeafS (tSeq a b) R (tSeq a T) := by
  unfold LeafS at h ⊢
  rw [h]
  rfl
theorem bk_leaf (h : LeafS th R T) : BkS Γ W (tSeq th R) T1 mPass T := by
  unfold LeafS at h
  rw [h]
  exact bk_nil
theorem bk_ifth (b : BkS Γ W (tSeq th A) T1' M T) : BkS Γ W (tSeq th (tSeq A R)) (tSeq T1' R) M (tSeq T R) := bk_then b
end
end Dl

namespace Dl
open PySem
/-! # mirrors run: rules for simp only, no continuation unfolded ahead of its state -/
variable {α β : Type} {st st' st1 : Sta} {t u x y : TV}
theorem bnd_ok {a : α} {f : α → Res β} : (Res.ok a).bind f = f a := id rfl
theorem bnd_err {c : Ec} {f : α → Res β} : (Res.err c st : Res α).bind f = .err c st := id rfl
def seqK (b : MS) (p : Ctl × Sta) : Res (Ctl × Sta) := match p.1 with
  | .next => b p.2
  | c => .ok (c, p.2)
theorem seq_e {a b : MS} : mSeq a b st = (a st).bind (seqK b) := id rfl
theorem seqK_n {b : MS} : seqK b (.next, st) = b st := id rfl
theorem seqK_r {b : MS} : seqK b (.ret t, st) = .ok (.ret t, st) := id rfl
theorem seqK_b {b : MS} : seqK b (.brk, st) = .ok (.brk, st) := id rfl
theorem seqK_c {b : MS} : seqK b (.cont, st) = .ok (.cont, st) := id rfl
theorem pass_e : mPass st = .ok (.next, st) := id rfl
theorem brk_e : mBrk st = .ok (.brk, st) := id rfl
theorem cont_e : mCont st = .ok (.cont, st) := id rfl
def ifK (a b : MS) (p : Bool × Sta) : Res (Ctl × Sta) := match p.1 with
  | true => a p.2
  | false => b p.2
theorem if_e {c : MT} {a b : MS} : mIf c a b st = (c st).bind (ifK a b) := id rfl
theorem ifK_t {a b : MS} : ifK a b (true, st) = a st := id rfl
theorem ifK_f {a b : MS} : ifK a b (false, st) = b st := id rfl
def setK (i : Nat) (p : TV × Sta) : Res (Ctl × Sta) := stored p.1 i p.2
theorem set_e {i : Nat} {m : ME} : mSet i m st = (m st).bind (setK i) := id rfl
theorem setK_f {i : Nat} {fr : Bool} {d : D} : setK i (⟨.frz, fr, d⟩, st) = .ok (.next, setS st i (some ⟨.frz, fr, d⟩)) := id rfl
theorem setK_o {i : Nat} {fr : Bool} {d : D} : setK i (⟨.own, fr, d⟩, st) = .ok (.next, setS st i (some ⟨.own, fr, d⟩)) := id rfl
def retK (p : TV × Sta) : Res (Ctl × Sta) := if okRet p.1 = true then .ok (.ret p.1, p.2) else .stuck
theorem ret_e {m : ME} : mRet m st = (m st).bind retK := id rfl
theorem retK_f {fr : Bool} {d : D} : retK (⟨.frz, fr, d⟩, st) = .ok (.ret ⟨.frz, fr, d⟩, st) := id rfl
theorem retK_o {fr : Bool} {ds : List D} : retK (⟨.own, fr, .lst ds⟩, st) = .ok (.ret ⟨.own, fr, .lst ds⟩, st) := id rfl
theorem retN_e : mRetN st = .ok (.ret .n, st) := id rfl
def exK (p : TV × Sta) : Res (Ctl × Sta) := .ok (.next, p.2)
theorem expr_e {m : ME} : mExpr m st = (m st).bind exK := id rfl
theorem exK_e : exK (t, st) = .ok (.next, st) := id rfl
theorem c_e : mC t st = .ok (t, st) := id rfl
/-! names -/
def vbK (st : Sta) (o : Option TV) : Res (TV × Sta) := match o with
  | some t => ofO (bor t) st
  | none => .stuck
theorem vb_e {i : Nat} : mVB i st = vbK st (getS st i) := by unfold mVB vbK; cases getS st i <;> rfl
theorem vbK_f {fr : Bool} {d : D} : vbK st (some ⟨.frz, fr, d⟩) = .ok (⟨.frz, fr, d⟩, st) := by cases d <;> rfl
theorem vbK_o {fr : Bool} {ds : List D} : vbK st (some ⟨.own, fr, .lst ds⟩) = .ok (⟨.bor, fr, .lst ds⟩, st) := id rfl
theorem vbK_ob {fr : Bool} {c : Cl} {ds : List D} : vbK st (some ⟨.own, fr, .obj c ds⟩) = .ok (⟨.bor, fr, .obj c ds⟩, st) := id rfl
def vfK (i : Nat) (st : Sta) (o : Option TV) : Res (TV × Sta) := match o with
  | some ⟨.own, fr, d⟩ => .ok (⟨.frz, fr, d⟩, setS st i (some ⟨.frz, fr, d⟩))
  | some ⟨.frz, fr, d⟩ => .ok (⟨.frz, fr, d⟩, st)
  | some ⟨.old, fr, d⟩ => .ok (⟨.frz, fr, d⟩, st)
  | _ => .stuck
theorem vbK_l {fr : Bool} {d : D} : vbK st (some ⟨.old, fr, d⟩) = .ok (⟨.frz, fr, d⟩, st) := id rfl
theorem vf_e {i : Nat} : mVF i st = vfK i st (getS st i) := by
  unfold mVF vfK
  cases getS st i with
  | none => rfl
  | some t => obtain ⟨k, fr, d⟩ := t; cases k <;> rfl
theorem vfK_f {i : Nat} {fr : Bool} {d : D} : vfK i st (some ⟨.frz, fr, d⟩) = .ok (⟨.frz, fr, d⟩, st) := id rfl
theorem vfK_o {i : Nat} {fr : Bool} {d : D} : vfK i st (some ⟨.own, fr, d⟩) = .ok (⟨.frz, fr, d⟩, setS st i (some ⟨.frz, fr, d⟩)) := id rfl
def vmK (i : Nat) (st : Sta) (o : Option TV) : Res (TV × Sta) := match o with
  | some ⟨.own, fr, d⟩ => .ok (⟨.own, fr, d⟩, setS st i none)
  | some ⟨.frz, fr, d⟩ => .ok (⟨.frz, fr, d⟩, st)
  | some ⟨.old, fr, d⟩ => .ok (⟨.frz, fr, d⟩, st)
  | _ => .stuck
theorem vfK_l {i : Nat} {fr : Bool} {d : D} : vfK i st (some ⟨.old, fr, d⟩) = .ok (⟨.frz, fr, d⟩, st) := id rfl
theorem vm_e {i : Nat} : mVM i st = vmK i st (getS st i) := by
  unfold mVM vmK
  cases getS st i with
  | none => rfl
  | some t => obtain ⟨k, fr, d⟩ := t; cases k <;> rfl
theorem vmK_f {i : Nat} {fr : Bool} {d : D} : vmK i st (some ⟨.frz, fr, d⟩) = .ok (⟨.frz, fr, d⟩, st) := id rfl
theorem vmK_o {i : Nat} {fr : Bool} {d : D} : vmK i st (some ⟨.own, fr, d⟩) = .ok (⟨.own, fr, d⟩, setS st i none) := id rfl
theorem vmK_l {i : Nat} {fr : Bool} {d : D} : vmK i st (some ⟨.old, fr, d⟩) = .ok (⟨.frz, fr, d⟩, st) := id rfl
def fzK (p : TV × Sta) : Res (TV × Sta) := match p.1 with
  | ⟨.bor, _, _⟩ => .stuck
  | ⟨_, fr, d⟩ => .ok (⟨.frz, fr, d⟩, p.2)
theorem fz_e {m : ME} : mFz m st = (m st).bind fzK := id rfl
theorem fzK_f {fr : Bool} {d : D} : fzK (⟨.frz, fr, d⟩, st) = .ok (⟨.frz, fr, d⟩, st) := id rfl
theorem fzK_o {fr : Bool} {d : D} : fzK (⟨.own, fr, d⟩, st) = .ok (⟨.frz, fr, d⟩, st) := id rfl
/-! operators -/
def binK (f : TV → TV → Option TV) (mb : ME) (p : TV × Sta) : Res (TV × Sta) := (mb p.2).bind fun q => ofO (f p.1 q.1) q.2
def binK2 (f : TV → TV → Option TV) (x : TV) (q : TV × Sta) : Res (TV × Sta) := ofO (f x q.1) q.2
theorem bin_e {f : TV → TV → Option TV} {ma mb : ME} : mBin f ma mb st = (ma st).bind (binK f mb) := id rfl
theorem binK_e {f : TV → TV → Option TV} {mb : ME} : binK f mb (x, st) = (mb st).bind (binK2 f x) := id rfl
theorem binK2_e {f : TV → TV → Option TV} : binK2 f x (y, st) = ofO (f x y) st := id rfl
def unK (f : TV → Option TV) (p : TV × Sta) : Res (TV × Sta) := ofO (f p.1) p.2
theorem un_e {f : TV → Option TV} {ma : ME} : mUn f ma st = (ma st).bind (unK f) := id rfl
theorem unK_e {f : TV → Option TV} : unK f (x, st) = ofO (f x) st := id rfl
theorem ofO_s {a : α} : ofO (some a) st = .ok (a, st) := id rfl
theorem ti_e {i : Int} : TV.i i = ⟨.frz, true, .int i⟩ := id rfl
theorem tb_e {i : Bool} : TV.b i = ⟨.frz, true, .bl i⟩ := id rfl
theorem tn_e : TV.n = ⟨.frz, true, .non⟩ := id rfl
theorem ts_e {i : Str} : TV.s i = ⟨.frz, true, .str i⟩ := id rfl
theorem el_i {fr : Bool} {i : Int} : TV.el fr (.int i) = ⟨.frz, true, .int i⟩ := by cases fr <;> rfl
theorem el_b {fr : Bool} {i : Bool} : TV.el fr (.bl i) = ⟨.frz, true, .bl i⟩ := by cases fr <;> rfl
theorem el_n {fr : Bool} : TV.el fr .non = ⟨.frz, true, .non⟩ := by cases fr <;> rfl
theorem el_s {fr : Bool} {x : Str} : TV.el fr (.str x) = ⟨.frz, true, .str x⟩ := by cases fr <;> rfl
theorem el_l {fr : Bool} {ds : List D} : TV.el fr (.lst ds) = ⟨.frz, fr, .lst ds⟩ := by cases fr <;> rfl
theorem el_t {fr : Bool} {ds : List D} : TV.el fr (.tup ds) = ⟨.frz, fr, .tup ds⟩ := by cases fr <;> rfl
theorem el_o {fr : Bool} {c : Cl} {ds : List D} : TV.el fr (.obj c ds) = ⟨.frz, fr, .obj c ds⟩ := by cases fr <;> rfl
theorem el_f {fr : Bool} {ds : List D} : TV.el fr (.fl ds) = ⟨.frz, fr, .fl ds⟩ := by cases fr <;> rfl
section
variable {k k' : Kd} {fr fr' : Bool} {i j : Int} {xs ys : List D} {c : Cl}
theorem add_i : fAdd ⟨k, fr, .int i⟩ ⟨k', fr', .int j⟩ = some ⟨.frz, true, .int (i + j)⟩ := id rfl
theorem add_l (h : xs.length + ys.length ≤ 16777216) : fAdd ⟨k, fr, .lst xs⟩ ⟨k', fr', .lst ys⟩ = some ⟨.own, fr && fr', .lst (xs ++ ys)⟩ := if_pos h
theorem sub_i : fSub ⟨k, fr, .int i⟩ ⟨k', fr', .int j⟩ = some ⟨.frz, true, .int (i - j)⟩ := id rfl
theorem mul_i (h : mulOk i j = true) : fMul ⟨k, fr, .int i⟩ ⟨k', fr', .int j⟩ = some ⟨.frz, true, .int (i * j)⟩ := if_pos h
theorem mul_l (h : j ≤ 9223372036854775807 ∧ -9223372036854775808 ≤ j ∧ xs.length * j.toNat ≤ 16777216) : fMul ⟨k, fr, .lst xs⟩ ⟨k', fr', .int j⟩ = some ⟨.own, fr, .lst (List.replicate j.toNat xs).flatten⟩ := if_pos h
theorem div_i (h : 0 < j ∧ j < 1073741824) : fDiv ⟨k, fr, .int i⟩ ⟨k', fr', .int j⟩ = some ⟨.frz, true, .int (i / j)⟩ := if_pos h
theorem mod_i (h : 0 < j) : fMod ⟨k, fr, .int i⟩ ⟨k', fr', .int j⟩ = some ⟨.frz, true, .int (i % j)⟩ := if_pos h
theorem pow_i (h : 0 ≤ j ∧ j ≤ 1000000 ∧ i.natAbs < 18446744073709551616) : fPow ⟨k, fr, .int i⟩ ⟨k', fr', .int j⟩ = some ⟨.frz, true, .int (i ^ j.toNat)⟩ := if_pos h
theorem neg_i : fNeg ⟨k, fr, .int i⟩ = some ⟨.frz, true, .int (-i)⟩ := id rfl
theorem lt_i : fLt ⟨k, fr, .int i⟩ ⟨k', fr', .int j⟩ = some ⟨.frz, true, .bl (decide (i < j))⟩ := id rfl
theorem le_i : fLe ⟨k, fr, .int i⟩ ⟨k', fr', .int j⟩ = some ⟨.frz, true, .bl (decide (i ≤ j))⟩ := id rfl
theorem gt_i : fGt ⟨k, fr, .int i⟩ ⟨k', fr', .int j⟩ = some ⟨.frz, true, .bl (decide (j < i))⟩ := id rfl
theorem ge_i : fGe ⟨k, fr, .int i⟩ ⟨k', fr', .int j⟩ = some ⟨.frz, true, .bl (decide (j ≤ i))⟩ := id rfl
theorem plain_i {n : Nat} : (D.int i).plain n = true := by cases n <;> rfl
theorem plain_b {n : Nat} {b : Bool} : (D.bl b).plain n = true := by cases n <;> rfl
theorem plain_ints (ns : List Int) : ∀ n, ((ns.map D.int).all fun d => d.plain n) = true := fun n => by
  rw [List.all_eq_true]
  intro d hd
  obtain ⟨z, _, rfl⟩ := List.mem_map.mp hd
  exact plain_i
theorem eqvL_ints : ∀ (xs ys : List Int), D.eqvL (xs.map D.int) (ys.map D.int) = decide (xs = ys)
  | [], [] => rfl
  | [], _ :: _ => rfl
  | _ :: _, [] => rfl
  | x :: xs, y :: ys => by
    show ((D.int x).eqv (D.int y) && D.eqvL (xs.map D.int) (ys.map D.int)) = _
    rw [eqvL_ints xs ys]
    have e : (D.int x).eqv (D.int y) = decide (x = y) := by
      show (x == y) = decide (x = y)
      rw [Bool.eq_iff_iff]
      simp
    rw [e, Bool.eq_iff_iff]
    simp

theorem eq_i : fEq ⟨k, fr, .int i⟩ ⟨k', fr', .int j⟩ = some ⟨.frz, true, .bl (decide (i = j))⟩ := by
  have e : (D.int i).eqv (D.int j) = decide (i = j) := by
    show (i == j) = decide (i = j)
    rw [Bool.eq_iff_iff]
    simp
  show (if (D.int i).plain 64 = true ∧ (D.int j).plain 64 = true then some (TV.b ((D.int i).eqv (D.int j))) else none) = _
  rw [if_pos ⟨rfl, rfl⟩, e]
  rfl
theorem ne_of {a b : TV} {z : Bool} {p : Kd} (h : fEq a b = some ⟨.frz, true, .bl z⟩) : fNe a b = some ⟨.frz, true, .bl (!z)⟩ := by
  unfold fEq at h
  unfold fNe
  split at h
  · rename_i c
    rw [if_pos c]
    have h := Option.some.inj h
    unfold TV.b at h
    injection h with _ _ h
    injection h with h
    rw [h]
    rfl
  · cases h
theorem ne_i : fNe ⟨k, fr, .int i⟩ ⟨k', fr', .int j⟩ = some ⟨.frz, true, .bl (!decide (i = j))⟩ := ne_of (p := .frz) eq_i
theorem eq_b {a b : Bool} : fEq ⟨k, fr, .bl a⟩ ⟨k', fr', .bl b⟩ = some ⟨.frz, true, .bl (a == b)⟩ := id rfl
theorem eq_li {xs ys : List Int} : fEq ⟨k, fr, .lst (xs.map D.int)⟩ ⟨k', fr', .lst (ys.map D.int)⟩ = some ⟨.frz, true, .bl (decide (xs = ys))⟩ := by
  have h : ∀ zs : List Int, (D.lst (zs.map D.int)).plain 64 = true := fun zs => plain_ints zs 63
  unfold fEq
  rw [if_pos ⟨h xs, h ys⟩]
  show some (TV.b (D.eqvL (xs.map D.int) (ys.map D.int))) = _
  rw [eqvL_ints]
  rfl
theorem eq_ti {xs ys : List Int} : fEq ⟨k, fr, .tup (xs.map D.int)⟩ ⟨k', fr', .tup (ys.map D.int)⟩ = some ⟨.frz, true, .bl (decide (xs = ys))⟩ := by
  have h : ∀ zs : List Int, (D.tup (zs.map D.int)).plain 64 = true := fun zs => plain_ints zs 63
  unfold fEq
  rw [if_pos ⟨h xs, h ys⟩]
  show some (TV.b (D.eqvL (xs.map D.int) (ys.map D.int))) = _
  rw [eqvL_ints]
  rfl
theorem ne_li {xs ys : List Int} : fNe ⟨k, fr, .lst (xs.map D.int)⟩ ⟨k', fr', .lst (ys.map D.int)⟩ = some ⟨.frz, true, .bl (!decide (xs = ys))⟩ := ne_of (p := .frz) eq_li
theorem ne_ti {xs ys : List Int} : fNe ⟨k, fr, .tup (xs.map D.int)⟩ ⟨k', fr', .tup (ys.map D.int)⟩ = some ⟨.frz, true, .bl (!decide (xs = ys))⟩ := ne_of (p := .frz) eq_ti
/-! items -/
theorem ixD_n {n : Nat} : ixD xs (n : Int) = xs[n]? := by
  unfold ixD
  rw [if_pos (Int.natCast_nonneg n)]
  rfl
theorem ixD_i (h : 0 ≤ i) : ixD xs i = xs[i.toNat]? := if_pos h
theorem ix_li {xs : List Int} (h : 0 ≤ i ∧ i < xs.length) : fIx ⟨k, fr, .lst (xs.map D.int)⟩ ⟨k', fr', .int i⟩ = some ⟨.frz, true, .int (xs.getD i.toNat 0)⟩ := by
  show (ixD (xs.map D.int) i).map (TV.el fr) = _
  have e : i.toNat < xs.length := by omega
  rw [ixD_i h.1, List.getElem?_map, List.getElem?_eq_getElem e, List.getD_eq_getElem?_getD, List.getElem?_eq_getElem e]
  exact congrArg some el_i
theorem ix_ti {xs : List Int} (h : 0 ≤ i ∧ i < xs.length) : fIx ⟨k, fr, .tup (xs.map D.int)⟩ ⟨k', fr', .int i⟩ = some ⟨.frz, true, .int (xs.getD i.toNat 0)⟩ := by
  show (ixD (xs.map D.int) i).map (TV.el fr) = _
  have e : i.toNat < xs.length := by omega
  rw [ixD_i h.1, List.getElem?_map, List.getElem?_eq_getElem e, List.getD_eq_getElem?_getD, List.getElem?_eq_getElem e]
  exact congrArg some el_i
theorem ix_li1 {xs : List Int} (h : xs ≠ []) : fIx ⟨k, fr, .lst (xs.map D.int)⟩ ⟨k', fr', .int (-1)⟩ = some ⟨.frz, true, .int (xs.getD (xs.length - 1) 0)⟩ := by
  show (ixD (xs.map D.int) (-1)).map (TV.el fr) = _
  have e0 : 0 < xs.length := List.length_pos_iff.mpr h
  unfold ixD
  rw [if_neg (by omega), if_pos (by simp; omega)]
  have e : (-1 + ((xs.map D.int).length : Int)).toNat = xs.length - 1 := by simp; omega
  rw [e, List.getElem?_map, List.getElem?_eq_getElem (by omega), List.getD_eq_getElem?_getD, List.getElem?_eq_getElem (by omega)]
  exact congrArg some el_i
theorem ix_ti1 {xs : List Int} (h : xs ≠ []) : fIx ⟨k, fr, .tup (xs.map D.int)⟩ ⟨k', fr', .int (-1)⟩ = some ⟨.frz, true, .int (xs.getD (xs.length - 1) 0)⟩ := ix_li1 (k := k) (fr' := fr') (k' := k') h
theorem ix_l (h : 0 ≤ i) {d : D} (e : xs[i.toNat]? = some d) : fIx ⟨k, fr, .lst xs⟩ ⟨k', fr', .int i⟩ = some (.el fr d) := by
  show (ixD xs i).map (TV.el fr) = _
  rw [ixD_i h, e]
  rfl
theorem ix_t (h : 0 ≤ i) {d : D} (e : xs[i.toNat]? = some d) : fIx ⟨k, fr, .tup xs⟩ ⟨k', fr', .int i⟩ = some (.el fr d) := ix_l (k := k) (fr' := fr') (k' := k') h e
theorem fld_e {n : Nat} : fFld c n ⟨k, fr, .obj c xs⟩ = (xs[n]?).map (.el fr) := if_pos rfl
/-! arguments, built-ins -/
def acK (r : MA) (p : TV × Sta) : Res (List TV × Sta) := (r p.2).bind fun q => .ok (p.1 :: q.1, q.2)
def acK2 (t : TV) (q : List TV × Sta) : Res (List TV × Sta) := .ok (t :: q.1, q.2)
theorem a0_e : mA0 st = .ok ([], st) := id rfl
theorem ac_e {m : ME} {r : MA} : mAc m r st = (m st).bind (acK r) := id rfl
theorem acK_e {r : MA} : acK r (t, st) = (r st).bind (acK2 t) := id rfl
theorem acK2_e {ts : List TV} : acK2 t (ts, st) = .ok (t :: ts, st) := id rfl
def bK (f : List TV → Option TV) (p : List TV × Sta) : Res (TV × Sta) := ofO (f p.1) p.2
theorem b_e {f : List TV → Option TV} {ms : MA} : mB f ms st = (ms st).bind (bK f) := id rfl
theorem bK_e {f : List TV → Option TV} {ts : List TV} : bK f (ts, st) = ofO (f ts) st := id rfl
theorem g1_e {f : TV → Option TV} : g1 f [x] = f x := id rfl
theorem g2_e {f : TV → TV → Option TV} : g2 f [x, y] = f x y := id rfl
theorem len_l : fLen ⟨k, fr, .lst xs⟩ = some ⟨.frz, true, .int xs.length⟩ := id rfl
theorem len_t : fLen ⟨k, fr, .tup xs⟩ = some ⟨.frz, true, .int xs.length⟩ := id rfl
theorem len_f : fLen ⟨k, fr, .fl xs⟩ = some ⟨.frz, true, .int xs.length⟩ := id rfl
theorem abs_i : fAbs ⟨k, fr, .int i⟩ = some ⟨.frz, true, .int (if i < 0 then -i else i)⟩ := id rfl
theorem int_i : fInt ⟨k, fr, .int i⟩ = some ⟨.frz, true, .int i⟩ := id rfl
theorem int_b {b : Bool} : fInt ⟨k, fr, .bl b⟩ = some ⟨.frz, true, .int (if b then 1 else 0)⟩ := id rfl
theorem max_i : fMax ⟨k, fr, .int i⟩ ⟨k', fr', .int j⟩ = some ⟨.frz, true, .int (if j > i then j else i)⟩ := id rfl
theorem min_i : fMin ⟨k, fr, .int i⟩ ⟨k', fr', .int j⟩ = some ⟨.frz, true, .int (if j < i then j else i)⟩ := id rfl
theorem list_l : fList ⟨k, fr, .lst xs⟩ = some ⟨.own, fr, .lst xs⟩ := id rfl
theorem list_t : fList ⟨k, fr, .tup xs⟩ = some ⟨.own, fr, .lst xs⟩ := id rfl
theorem list_f : fList ⟨k, fr, .fl xs⟩ = some ⟨.own, fr, .lst xs⟩ := id rfl
theorem tuple_l : fTuple ⟨k, fr, .lst xs⟩ = some ⟨.frz, fr, .tup xs⟩ := id rfl
theorem sum_l {ns : List Int} : fSum ⟨k, fr, .lst (ns.map D.int)⟩ = some ⟨.frz, true, .int ns.sum⟩ := by
  show (D.ints (ns.map D.int)).map (fun ns => TV.i ns.sum) = _
  rw [ints_map]
  rfl
theorem isi_ii : fIsi "int" ⟨k, fr, .int i⟩ = some ⟨.frz, true, .bl true⟩ := id rfl
theorem isi_bi : fIsi "bool" ⟨k, fr, .int i⟩ = some ⟨.frz, true, .bl false⟩ := id rfl
theorem isi_bb {b : Bool} : fIsi "bool" ⟨k, fr, .bl b⟩ = some ⟨.frz, true, .bl true⟩ := id rfl
theorem isi_ib {b : Bool} : fIsi "int" ⟨k, fr, .bl b⟩ = some ⟨.frz, true, .bl true⟩ := id rfl
theorem isi_ll : fIsi "list" ⟨k, fr, .lst xs⟩ = some ⟨.frz, true, .bl true⟩ := id rfl
theorem isi_tt : fIsi "tuple" ⟨k, fr, .tup xs⟩ = some ⟨.frz, true, .bl true⟩ := id rfl
theorem isi_tl : fIsi "tuple" ⟨k, fr, .lst xs⟩ = some ⟨.frz, true, .bl false⟩ := id rfl
theorem isi_lt : fIsi "list" ⟨k, fr, .tup xs⟩ = some ⟨.frz, true, .bl false⟩ := id rfl
theorem rg1_e (h : small j = true ∧ j.toNat ≤ 16777216) : fRg1 ⟨k, fr, .int j⟩ = some ⟨.own, true, .lst (((List.range j.toNat).map fun (n : Nat) => (n : Int)).map D.int)⟩ := by
  show fRgL 0 j = _
  unfold fRgL
  have h0 : small 0 = true := by decide
  rw [if_pos (by simp [h0, h.1]; omega), List.map_map]
  simp [Function.comp_def]
end
end Dl

namespace Dl
open PySem
variable {α β : Type} {st st' st1 : Sta} {t u x y : TV} {k k' : Kd} {fr fr' : Bool} {i j : Int} {xs ys : List D} {c : Cl} {o1 : Option TV} {ts : List TV} {n m : Nat}
/-! places -/
theorem gs0 {a0 : Option TV} : getS (a0::st) 0 = a0 := id rfl
theorem ss0 {a0 : Option TV} : setS (a0::st) 0 o1 = o1::st := id rfl
theorem gs1 {a0 a1 : Option TV} : getS (a0::a1::st) 1 = a1 := id rfl
theorem ss1 {a0 a1 : Option TV} : setS (a0::a1::st) 1 o1 = a0::o1::st := id rfl
theorem gs2 {a0 a1 a2 : Option TV} : getS (a0::a1::a2::st) 2 = a2 := id rfl
theorem ss2 {a0 a1 a2 : Option TV} : setS (a0::a1::a2::st) 2 o1 = a0::a1::o1::st := id rfl
theorem gs3 {a0 a1 a2 a3 : Option TV} : getS (a0::a1::a2::a3::st) 3 = a3 := id rfl
theorem ss3 {a0 a1 a2 a3 : Option TV} : setS (a0::a1::a2::a3::st) 3 o1 = a0::a1::a2::o1::st := id rfl
theorem gs4 {a0 a1 a2 a3 a4 : Option TV} : getS (a0::a1::a2::a3::a4::st) 4 = a4 := id rfl
theorem ss4 {a0 a1 a2 a3 a4 : Option TV} : setS (a0::a1::a2::a3::a4::st) 4 o1 = a0::a1::a2::a3::o1::st := id rfl
theorem gs5 {a0 a1 a2 a3 a4 a5 : Option TV} : getS (a0::a1::a2::a3::a4::a5::st) 5 = a5 := id rfl
theorem ss5 {a0 a1 a2 a3 a4 a5 : Option TV} : setS (a0::a1::a2::a3::a4::a5::st) 5 o1 = a0::a1::a2::a3::a4::o1::st := id rfl
theorem gs6 {a0 a1 a2 a3 a4 a5 a6 : Option TV} : getS (a0::a1::a2::a3::a4::a5::a6::st) 6 = a6 := id rfl
theorem ss6 {a0 a1 a2 a3 a4 a5 a6 : Option TV} : setS (a0::a1::a2::a3::a4::a5::a6::st) 6 o1 = a0::a1::a2::a3::a4::a5::o1::st := id rfl
theorem gs7 {a0 a1 a2 a3 a4 a5 a6 a7 : Option TV} : getS (a0::a1::a2::a3::a4::a5::a6::a7::st) 7 = a7 := id rfl
theorem ss7 {a0 a1 a2 a3 a4 a5 a6 a7 : Option TV} : setS (a0::a1::a2::a3::a4::a5::a6::a7::st) 7 o1 = a0::a1::a2::a3::a4::a5::a6::o1::st := id rfl
theorem gs8 {a0 a1 a2 a3 a4 a5 a6 a7 a8 : Option TV} : getS (a0::a1::a2::a3::a4::a5::a6::a7::a8::st) 8 = a8 := id rfl
theorem ss8 {a0 a1 a2 a3 a4 a5 a6 a7 a8 : Option TV} : setS (a0::a1::a2::a3::a4::a5::a6::a7::a8::st) 8 o1 = a0::a1::a2::a3::a4::a5::a6::a7::o1::st := id rfl
theorem gs9 {a0 a1 a2 a3 a4 a5 a6 a7 a8 a9 : Option TV} : getS (a0::a1::a2::a3::a4::a5::a6::a7::a8::a9::st) 9 = a9 := id rfl
theorem ss9 {a0 a1 a2 a3 a4 a5 a6 a7 a8 a9 : Option TV} : setS (a0::a1::a2::a3::a4::a5::a6::a7::a8::a9::st) 9 o1 = a0::a1::a2::a3::a4::a5::a6::a7::a8::o1::st := id rfl
theorem gs10 {a0 a1 a2 a3 a4 a5 a6 a7 a8 a9 a10 : Option TV} : getS (a0::a1::a2::a3::a4::a5::a6::a7::a8::a9::a10::st) 10 = a10 := id rfl
theorem ss10 {a0 a1 a2 a3 a4 a5 a6 a7 a8 a9 a10 : Option TV} : setS (a0::a1::a2::a3::a4::a5::a6::a7::a8::a9::a10::st) 10 o1 = a0::a1::a2::a3::a4::a5::a6::a7::a8::a9::o1::st := id rfl
theorem gs11 {a0 a1 a2 a3 a4 a5 a6 a7 a8 a9 a10 a11 : Option TV} : getS (a0::a1::a2::a3::a4::a5::a6::a7::a8::a9::a10::a11::st) 11 = a11 := id rfl
theorem ss11 {a0 a1 a2 a3 a4 a5 a6 a7 a8 a9 a10 a11 : Option TV} : setS (a0::a1::a2::a3::a4::a5::a6::a7::a8::a9::a10::a11::st) 11 o1 = a0::a1::a2::a3::a4::a5::a6::a7::a8::a9::a10::o1::st := id rfl
theorem gs12 {a0 a1 a2 a3 a4 a5 a6 a7 a8 a9 a10 a11 a12 : Option TV} : getS (a0::a1::a2::a3::a4::a5::a6::a7::a8::a9::a10::a11::a12::st) 12 = a12 := id rfl
theorem ss12 {a0 a1 a2 a3 a4 a5 a6 a7 a8 a9 a10 a11 a12 : Option TV} : setS (a0::a1::a2::a3::a4::a5::a6::a7::a8::a9::a10::a11::a12::st) 12 o1 = a0::a1::a2::a3::a4::a5::a6::a7::a8::a9::a10::a11::o1::st := id rfl
theorem gs13 {a0 a1 a2 a3 a4 a5 a6 a7 a8 a9 a10 a11 a12 a13 : Option TV} : getS (a0::a1::a2::a3::a4::a5::a6::a7::a8::a9::a10::a11::a12::a13::st) 13 = a13 := id rfl
theorem ss13 {a0 a1 a2 a3 a4 a5 a6 a7 a8 a9 a10 a11 a12 a13 : Option TV} : setS (a0::a1::a2::a3::a4::a5::a6::a7::a8::a9::a10::a11::a12::a13::st) 13 o1 = a0::a1::a2::a3::a4::a5::a6::a7::a8::a9::a10::a11::a12::o1::st := id rfl
theorem gs14 {a0 a1 a2 a3 a4 a5 a6 a7 a8 a9 a10 a11 a12 a13 a14 : Option TV} : getS (a0::a1::a2::a3::a4::a5::a6::a7::a8::a9::a10::a11::a12::a13::a14::st) 14 = a14 := id rfl
theorem ss14 {a0 a1 a2 a3 a4 a5 a6 a7 a8 a9 a10 a11 a12 a13 a14 : Option TV} : setS (a0::a1::a2::a3::a4::a5::a6::a7::a8::a9::a10::a11::a12::a13::a14::st) 14 o1 = a0::a1::a2::a3::a4::a5::a6::a7::a8::a9::a10::a11::a12::a13::o1::st := id rfl
theorem gs15 {a0 a1 a2 a3 a4 a5 a6 a7 a8 a9 a10 a11 a12 a13 a14 a15 : Option TV} : getS (a0::a1::a2::a3::a4::a5::a6::a7::a8::a9::a10::a11::a12::a13::a14::a15::st) 15 = a15 := id rfl
theorem ss15 {a0 a1 a2 a3 a4 a5 a6 a7 a8 a9 a10 a11 a12 a13 a14 a15 : Option TV} : setS (a0::a1::a2::a3::a4::a5::a6::a7::a8::a9::a10::a11::a12::a13::a14::a15::st) 15 o1 = a0::a1::a2::a3::a4::a5::a6::a7::a8::a9::a10::a11::a12::a13::a14::o1::st := id rfl
theorem gs16 {a0 a1 a2 a3 a4 a5 a6 a7 a8 a9 a10 a11 a12 a13 a14 a15 a16 : Option TV} : getS (a0::a1::a2::a3::a4::a5::a6::a7::a8::a9::a10::a11::a12::a13::a14::a15::a16::st) 16 = a16 := id rfl
theorem ss16 {a0 a1 a2 a3 a4 a5 a6 a7 a8 a9 a10 a11 a12 a13 a14 a15 a16 : Option TV} : setS (a0::a1::a2::a3::a4::a5::a6::a7::a8::a9::a10::a11::a12::a13::a14::a15::a16::st) 16 o1 = a0::a1::a2::a3::a4::a5::a6::a7::a8::a9::a10::a11::a12::a13::a14::a15::o1::st := id rfl
theorem gs17 {a0 a1 a2 a3 a4 a5 a6 a7 a8 a9 a10 a11 a12 a13 a14 a15 a16 a17 : Option TV} : getS (a0::a1::a2::a3::a4::a5::a6::a7::a8::a9::a10::a11::a12::a13::a14::a15::a16::a17::st) 17 = a17 := id rfl
theorem ss17 {a0 a1 a2 a3 a4 a5 a6 a7 a8 a9 a10 a11 a12 a13 a14 a15 a16 a17 : Option TV} : setS (a0::a1::a2::a3::a4::a5::a6::a7::a8::a9::a10::a11::a12::a13::a14::a15::a16::a17::st) 17 o1 = a0::a1::a2::a3::a4::a5::a6::a7::a8::a9::a10::a11::a12::a13::a14::a15::a16::o1::st := id rfl
theorem gs18 {a0 a1 a2 a3 a4 a5 a6 a7 a8 a9 a10 a11 a12 a13 a14 a15 a16 a17 a18 : Option TV} : getS (a0::a1::a2::a3::a4::a5::a6::a7::a8::a9::a10::a11::a12::a13::a14::a15::a16::a17::a18::st) 18 = a18 := id rfl
theorem ss18 {a0 a1 a2 a3 a4 a5 a6 a7 a8 a9 a10 a11 a12 a13 a14 a15 a16 a17 a18 : Option TV} : setS (a0::a1::a2::a3::a4::a5::a6::a7::a8::a9::a10::a11::a12::a13::a14::a15::a16::a17::a18::st) 18 o1 = a0::a1::a2::a3::a4::a5::a6::a7::a8::a9::a10::a11::a12::a13::a14::a15::a16::a17::o1::st := id rfl
theorem gs19 {a0 a1 a2 a3 a4 a5 a6 a7 a8 a9 a10 a11 a12 a13 a14 a15 a16 a17 a18 a19 : Option TV} : getS (a0::a1::a2::a3::a4::a5::a6::a7::a8::a9::a10::a11::a12::a13::a14::a15::a16::a17::a18::a19::st) 19 = a19 := id rfl
theorem ss19 {a0 a1 a2 a3 a4 a5 a6 a7 a8 a9 a10 a11 a12 a13 a14 a15 a16 a17 a18 a19 : Option TV} : setS (a0::a1::a2::a3::a4::a5::a6::a7::a8::a9::a10::a11::a12::a13::a14::a15::a16::a17::a18::a19::st) 19 o1 = a0::a1::a2::a3::a4::a5::a6::a7::a8::a9::a10::a11::a12::a13::a14::a15::a16::a17::a18::o1::st := id rfl
theorem gs20 {a0 a1 a2 a3 a4 a5 a6 a7 a8 a9 a10 a11 a12 a13 a14 a15 a16 a17 a18 a19 a20 : Option TV} : getS (a0::a1::a2::a3::a4::a5::a6::a7::a8::a9::a10::a11::a12::a13::a14::a15::a16::a17::a18::a19::a20::st) 20 = a20 := id rfl
theorem ss20 {a0 a1 a2 a3 a4 a5 a6 a7 a8 a9 a10 a11 a12 a13 a14 a15 a16 a17 a18 a19 a20 : Option TV} : setS (a0::a1::a2::a3::a4::a5::a6::a7::a8::a9::a10::a11::a12::a13::a14::a15::a16::a17::a18::a19::a20::st) 20 o1 = a0::a1::a2::a3::a4::a5::a6::a7::a8::a9::a10::a11::a12::a13::a14::a15::a16::a17::a18::a19::o1::st := id rfl
theorem gs21 {a0 a1 a2 a3 a4 a5 a6 a7 a8 a9 a10 a11 a12 a13 a14 a15 a16 a17 a18 a19 a20 a21 : Option TV} : getS (a0::a1::a2::a3::a4::a5::a6::a7::a8::a9::a10::a11::a12::a13::a14::a15::a16::a17::a18::a19::a20::a21::st) 21 = a21 := id rfl
theorem ss21 {a0 a1 a2 a3 a4 a5 a6 a7 a8 a9 a10 a11 a12 a13 a14 a15 a16 a17 a18 a19 a20 a21 : Option TV} : setS (a0::a1::a2::a3::a4::a5::a6::a7::a8::a9::a10::a11::a12::a13::a14::a15::a16::a17::a18::a19::a20::a21::st) 21 o1 = a0::a1::a2::a3::a4::a5::a6::a7::a8::a9::a10::a11::a12::a13::a14::a15::a16::a17::a18::a19::a20::o1::st := id rfl
theorem gs22 {a0 a1 a2 a3 a4 a5 a6 a7 a8 a9 a10 a11 a12 a13 a14 a15 a16 a17 a18 a19 a20 a21 a22 : Option TV} : getS (a0::a1::a2::a3::a4::a5::a6::a7::a8::a9::a10::a11::a12::a13::a14::a15::a16::a17::a18::a19::a20::a21::a22::st) 22 = a22 := id rfl
theorem ss22 {a0 a1 a2 a3 a4 a5 a6 a7 a8 a9 a10 a11 a12 a13 a14 a15 a16 a17 a18 a19 a20 a21 a22 : Option TV} : setS (a0::a1::a2::a3::a4::a5::a6::a7::a8::a9::a10::a11::a12::a13::a14::a15::a16::a17::a18::a19::a20::a21::a22::st) 22 o1 = a0::a1::a2::a3::a4::a5::a6::a7::a8::a9::a10::a11::a12::a13::a14::a15::a16::a17::a18::a19::a20::a21::o1::st := id rfl
theorem gs23 {a0 a1 a2 a3 a4 a5 a6 a7 a8 a9 a10 a11 a12 a13 a14 a15 a16 a17 a18 a19 a20 a21 a22 a23 : Option TV} : getS (a0::a1::a2::a3::a4::a5::a6::a7::a8::a9::a10::a11::a12::a13::a14::a15::a16::a17::a18::a19::a20::a21::a22::a23::st) 23 = a23 := id rfl
theorem ss23 {a0 a1 a2 a3 a4 a5 a6 a7 a8 a9 a10 a11 a12 a13 a14 a15 a16 a17 a18 a19 a20 a21 a22 a23 : Option TV} : setS (a0::a1::a2::a3::a4::a5::a6::a7::a8::a9::a10::a11::a12::a13::a14::a15::a16::a17::a18::a19::a20::a21::a22::a23::st) 23 o1 = a0::a1::a2::a3::a4::a5::a6::a7::a8::a9::a10::a11::a12::a13::a14::a15::a16::a17::a18::a19::a20::a21::a22::o1::st := id rfl
theorem wp0 : wipeS st [] = st := rfl
theorem wp1 {v : Nat} {vs : List Nat} : wipeS st (v :: vs) = setS (wipeS st vs) v none := id rfl
theorem ok0 : okS [] = true := id rfl
theorem okn {r : Sta} : okS (none :: r) = okS r := id rfl
theorem okf {d : D} {r : Sta} : okS (some ⟨.frz, fr, d⟩ :: r) = okS r := id rfl
theorem oko {d : D} {r : Sta} : okS (some ⟨.own, fr, d⟩ :: r) = okS r := id rfl
/-! lists of values -/
theorem afz0 : allFrz [] = true := id rfl
theorem afz1 {d : D} : allFrz (⟨.frz, fr, d⟩ :: ts) = allFrz ts := id rfl
theorem afzb {d : D} : allFrz (⟨.bor, fr, d⟩ :: ts) = false := id rfl
theorem afr0 : allFr [] = true := id rfl
theorem afr1 {d : D} : allFr (⟨k, fr, d⟩ :: ts) = (fr && allFr ts) := id rfl
def lstK (p : List TV × Sta) : Res (TV × Sta) := if allFrz p.1 = true ∧ p.1.length ≤ 16777216 then .ok (⟨.own, allFr p.1, .lst (p.1.map (·.d))⟩, p.2) else .stuck
def tupK (p : List TV × Sta) : Res (TV × Sta) := if allFrz p.1 = true ∧ p.1.length ≤ 16777216 then .ok (⟨.frz, allFr p.1, .tup (p.1.map (·.d))⟩, p.2) else .stuck
theorem lst_e {ms : MA} : mLst ms st = (ms st).bind lstK := id rfl
theorem tup_e {ms : MA} : mTup ms st = (ms st).bind tupK := id rfl
theorem lstK_e (h : allFrz ts = true) (h2 : ts.length ≤ 16777216) : lstK (ts, st) = .ok (⟨.own, allFr ts, .lst (ts.map (·.d))⟩, st) := if_pos ⟨h, h2⟩
theorem tupK_e (h : allFrz ts = true) (h2 : ts.length ≤ 16777216) : tupK (ts, st) = .ok (⟨.frz, allFr ts, .tup (ts.map (·.d))⟩, st) := if_pos ⟨h, h2⟩
theorem tsd0 : ([] : List TV).map (·.d) = [] := id rfl
theorem tsd1 {d : D} : ((⟨k, fr, d⟩ : TV) :: ts).map (·.d) = d :: ts.map (·.d) := id rfl
/-! calls -/
def callK (g : List D → Out) (p : List TV × Sta) : Res (TV × Sta) := callR g p.1 p.2
def outK (b : Bool) (st : Sta) (o : Out) : Res (TV × Sta) := match o with
  | .ok t => if okRet t = true ∧ (b || t.fr) = true then .ok (t, st) else .stuck
  | .err c => if errOk b c = true then .err c st else .stuck
  | .stuck => .stuck
theorem call_e {g : List D → Out} {ms : MA} : mCall g ms st = (ms st).bind (callK g) := id rfl
theorem callK_e {g : List D → Out} : callK g (ts, st) = outK (allFrz ts) st (g (ts.map (·.d))) := id rfl
theorem outK_e {c : Str} {b : Bool} : outK b st (.err ⟨c, none⟩) = .err ⟨c, none⟩ st := id rfl
theorem outK_ex {c : Str} {b : Bool} {ns : List Str} {xs : List D} : outK b st (.err ⟨c, some (true, ns, xs)⟩) = .err ⟨c, some (true, ns, xs)⟩ st := by cases b <;> rfl
theorem outK_ey {c : Str} {ns : List Str} {xs : List D} : outK true st (.err ⟨c, some (fr, ns, xs)⟩) = .err ⟨c, some (fr, ns, xs)⟩ st := id rfl
theorem outK_f {b : Bool} {d : D} : outK b st (.ok ⟨.frz, true, d⟩) = .ok (⟨.frz, true, d⟩, st) := by cases b <;> rfl
theorem outK_g {d : D} : outK true st (.ok ⟨.frz, fr, d⟩) = .ok (⟨.frz, fr, d⟩, st) := id rfl
theorem outK_o {b : Bool} : outK b st (.ok ⟨.own, true, .lst xs⟩) = .ok (⟨.own, true, .lst xs⟩, st) := by cases b <;> rfl
theorem outK_p : outK true st (.ok ⟨.own, fr, .lst xs⟩) = .ok (⟨.own, fr, .lst xs⟩, st) := id rfl
def methK (g : List D → Out) (c : Cl) (ms : MA) (p : TV × Sta) : Res (TV × Sta) := match p.1.d with
  | .obj c' _ => if c' = c then (ms p.2).bind fun q => callR g (p.1 :: q.1) q.2 else .stuck
  | _ => .stuck
def methK2 (g : List D → Out) (x : TV) (q : List TV × Sta) : Res (TV × Sta) := callR g (x :: q.1) q.2
theorem meth_e {g : List D → Out} {mo : ME} {ms : MA} : mMeth g c mo ms st = (mo st).bind (methK g c ms) := id rfl
theorem methK_e {g : List D → Out} {ms : MA} : methK g c ms (⟨k, fr, .obj c xs⟩, st) = (ms st).bind (methK2 g ⟨k, fr, .obj c xs⟩) := if_pos rfl
theorem methK2_e {g : List D → Out} : methK2 g x (ts, st) = outK (allFrz (x :: ts)) st (g ((x :: ts).map (·.d))) := id rfl
def makeK (g : List D → OutO) (c : Cl) (dd : List D) (p : List TV × Sta) : Res (TV × Sta) := if allFrz p.1 = true then (match g (p.1.map (·.d) ++ dd) with
  | .ok fr fds => .ok (⟨.frz, fr, .obj c fds⟩, p.2)
  | .err e => .err ⟨e, none⟩ p.2
  | .stuck => .stuck) else .stuck
def outOK (c : Cl) (st : Sta) (o : OutO) : Res (TV × Sta) := match o with
  | .ok fr fds => .ok (⟨.frz, fr, .obj c fds⟩, st)
  | .err e => .err ⟨e, none⟩ st
  | .stuck => .stuck
theorem make_e {g : List D → OutO} {dd : List D} {ms : MA} : mMake g c dd ms st = (ms st).bind (makeK g c dd) := id rfl
theorem makeK_e {g : List D → OutO} {dd : List D} (h : allFrz ts = true) : makeK g c dd (ts, st) = outOK c st (g (ts.map (·.d) ++ dd)) := if_pos h
theorem outOK_e : outOK c st (.ok fr xs) = .ok (⟨.frz, fr, .obj c xs⟩, st) := id rfl
theorem outOK_r {e : Str} : outOK c st (.err e) = .err ⟨e, none⟩ st := id rfl
/-! slices -/
def slK (ml mh : MO) (p : TV × Sta) : Res (TV × Sta) := (ml p.2).bind fun q => (mh q.2).bind fun r => ofO (fSl p.1 q.1 r.1) r.2
def slK2 (x : TV) (mh : MO) (q : Option Int × Sta) : Res (TV × Sta) := (mh q.2).bind fun r => ofO (fSl x q.1 r.1) r.2
def slK3 (x : TV) (lo : Option Int) (r : Option Int × Sta) : Res (TV × Sta) := ofO (fSl x lo r.1) r.2
theorem sl_e {ma : ME} {ml mh : MO} : mSl ma ml mh st = (ma st).bind (slK ml mh) := id rfl
theorem slK_e {ml mh : MO} : slK ml mh (x, st) = (ml st).bind (slK2 x mh) := id rfl
theorem slK2_e {mh : MO} {lo : Option Int} : slK2 x mh (lo, st) = (mh st).bind (slK3 x lo) := id rfl
theorem slK3_e {lo hi : Option Int} : slK3 x lo (hi, st) = ofO (fSl x lo hi) st := id rfl
theorem sl_l {lo hi : Option Int} : fSl ⟨k, fr, .lst xs⟩ lo hi = some ⟨.own, fr, .lst (cutD xs lo hi)⟩ := id rfl
theorem sl_f {lo hi : Option Int} : fSl ⟨k, fr, .fl xs⟩ lo hi = some ⟨.own, fr, .lst (cutD xs lo hi)⟩ := id rfl
theorem o0_e : mO0 st = .ok (none, st) := id rfl
def o1K (p : TV × Sta) : Res (Option Int × Sta) := match p.1.d with
  | .int i => .ok (some i, p.2)
  | _ => .stuck
theorem o1_e {m : ME} : mO1 m st = (m st).bind o1K := id rfl
theorem o1K_e : o1K (⟨k, fr, .int i⟩, st) = .ok (some i, st) := id rfl
theorem six_n {n d : Nat} (h : 0 ≤ i) : HT.sIx n d (some i) = min i.toNat n := by
  show (if i < 0 then (i + (n : Int)).toNat else min i.toNat n) = _
  rw [if_neg (by omega)]
theorem cut_hi (h : 0 ≤ i) : cutD xs none (some i) = xs.take i.toNat := by
  unfold cutD
  rw [six_n h]
  show (xs.drop 0).take (min i.toNat xs.length - 0) = _
  rw [List.drop_zero, Nat.sub_zero, List.take_eq_take_iff]
  omega
theorem cut_lo (h : 0 ≤ i) : cutD xs (some i) none = xs.drop i.toNat := by
  unfold cutD
  rw [six_n h]
  show (xs.drop (min i.toNat xs.length)).take (xs.length - min i.toNat xs.length) = _
  by_cases c : i.toNat ≤ xs.length
  · rw [Nat.min_eq_left c]
    exact List.take_of_length_le (by simp)
  · rw [Nat.min_eq_right (by omega)]
    simp [List.drop_of_length_le (show xs.length ≤ i.toNat by omega)]
/-! tests -/
def tK (p : TV × Sta) : Res (Bool × Sta) := ofO p.1.d.asB p.2
theorem t_e {m : ME} : mT m st = (m st).bind tK := id rfl
theorem tK_e {b : Bool} : tK (⟨k, fr, .bl b⟩, st) = .ok (b, st) := id rfl
def andK (b : MT) (p : Bool × Sta) : Res (Bool × Sta) := match p.1 with
  | true => b p.2
  | false => .ok (false, p.2)
def orK (b : MT) (p : Bool × Sta) : Res (Bool × Sta) := match p.1 with
  | true => .ok (true, p.2)
  | false => b p.2
theorem and_e {a b : MT} : mAnd a b st = (a st).bind (andK b) := id rfl
theorem or_e {a b : MT} : mOr a b st = (a st).bind (orK b) := id rfl
theorem andK_t {b : MT} : andK b (true, st) = b st := id rfl
theorem andK_f {b : MT} : andK b (false, st) = .ok (false, st) := id rfl
theorem orK_t {b : MT} : orK b (true, st) = .ok (true, st) := id rfl
theorem orK_f {b : MT} : orK b (false, st) = b st := id rfl
def notK (p : Bool × Sta) : Res (Bool × Sta) := .ok (!p.1, p.2)
def tvK (p : Bool × Sta) : Res (TV × Sta) := .ok (.b p.1, p.2)
theorem not_e {a : MT} : mNot a st = (a st).bind notK := id rfl
theorem notK_e {b : Bool} : notK (b, st) = .ok (!b, st) := id rfl
theorem tv_e {a : MT} : mTV a st = (a st).bind tvK := id rfl
theorem tvK_e {b : Bool} : tvK (b, st) = .ok (⟨.frz, true, .bl b⟩, st) := id rfl
def ifEK (a b : ME) (p : Bool × Sta) : Res (TV × Sta) := match p.1 with
  | true => a p.2
  | false => b p.2
theorem ifE_e {c : MT} {a b : ME} : mIfE c a b st = (c st).bind (ifEK a b) := id rfl
theorem ifEK_t {a b : ME} : ifEK a b (true, st) = a st := id rfl
theorem ifEK_f {a b : ME} : ifEK a b (false, st) = b st := id rfl
/-! statements -/
def appK (k : Nat) (me : ME) (st : Sta) (o : Option TV) : Res (Ctl × Sta) := match o with
  | some ⟨.own, _, .lst _⟩ => (me st).bind fun p => match getS p.2 k with
    | some ⟨.own, fr, .lst xs⟩ => if p.1.k = .frz ∧ okS p.2 = true ∧ xs.length < 16777216 then .ok (.next, setS p.2 k (some ⟨.own, fr && p.1.fr, .lst (xs ++ [p.1.d])⟩)) else .stuck
    | _ => .stuck
  | _ => .stuck
def appK2 (k : Nat) (p : TV × Sta) : Res (Ctl × Sta) := match getS p.2 k with
    | some ⟨.own, fr, .lst xs⟩ => if p.1.k = .frz ∧ okS p.2 = true ∧ xs.length < 16777216 then .ok (.next, setS p.2 k (some ⟨.own, fr && p.1.fr, .lst (xs ++ [p.1.d])⟩)) else .stuck
    | _ => .stuck
def appK3 (k : Nat) (f2 : Bool) (d : D) (st : Sta) (o : Option TV) : Res (Ctl × Sta) := match o with
    | some ⟨.own, fr, .lst xs⟩ => if okS st = true ∧ xs.length < 16777216 then .ok (.next, setS st k (some ⟨.own, fr && f2, .lst (xs ++ [d])⟩)) else .stuck
    | _ => .stuck
theorem app_e {k : Nat} {me : ME} : mApp k me st = appK k me st (getS st k) := id rfl
theorem appK_e {k : Nat} {me : ME} : appK k me st (some ⟨.own, fr, .lst xs⟩) = (me st).bind (appK2 k) := id rfl
theorem appK2_e {k : Nat} {d : D} : appK2 k (⟨.frz, fr, d⟩, st) = appK3 k fr d st (getS st k) := by
  unfold appK2 appK3
  rcases getS st k with _ | ⟨kk, ff, dd⟩
  · rfl
  · cases kk <;> cases dd <;> simp
theorem appK3_e {k : Nat} {f2 : Bool} {d : D} (h : okS st = true) (h2 : xs.length < 16777216) : appK3 k f2 d st (some ⟨.own, fr, .lst xs⟩) = .ok (.next, setS st k (some ⟨.own, fr && f2, .lst (xs ++ [d])⟩)) := if_pos ⟨h, h2⟩
def six1 (k : Nat) (mi : ME) (p : TV × Sta) : Res (Ctl × Sta) := match getS p.2 k with
  | some ⟨.own, _, .lst _⟩ => (mi p.2).bind fun q => match getS q.2 k, q.1.d with
    | some ⟨.own, fr, .lst xs⟩, .int i => if p.1.k = .frz ∧ okS q.2 = true then (match setIx xs i p.1.d with
      | some ys => .ok (.next, setS q.2 k (some ⟨.own, fr && p.1.fr, .lst ys⟩))
      | none => .stuck) else .stuck
    | _, _ => .stuck
  | _ => .stuck
def six2 (k : Nat) (mi : ME) (x : TV) (st : Sta) (o : Option TV) : Res (Ctl × Sta) := match o with
  | some ⟨.own, _, .lst _⟩ => (mi st).bind fun q => match getS q.2 k, q.1.d with
    | some ⟨.own, fr, .lst xs⟩, .int i => if x.k = .frz ∧ okS q.2 = true then (match setIx xs i x.d with
      | some ys => .ok (.next, setS q.2 k (some ⟨.own, fr && x.fr, .lst ys⟩))
      | none => .stuck) else .stuck
    | _, _ => .stuck
  | _ => .stuck
def six3 (k : Nat) (x : TV) (q : TV × Sta) : Res (Ctl × Sta) := match getS q.2 k, q.1.d with
    | some ⟨.own, fr, .lst xs⟩, .int i => if x.k = .frz ∧ okS q.2 = true then (match setIx xs i x.d with
      | some ys => .ok (.next, setS q.2 k (some ⟨.own, fr && x.fr, .lst ys⟩))
      | none => .stuck) else .stuck
    | _, _ => .stuck
def six4 (k : Nat) (fx : Bool) (d : D) (i : Int) (st : Sta) (o : Option TV) : Res (Ctl × Sta) := match o with
    | some ⟨.own, fr, .lst xs⟩ => if okS st = true then (match setIx xs i d with
      | some ys => .ok (.next, setS st k (some ⟨.own, fr && fx, .lst ys⟩))
      | none => .stuck) else .stuck
    | _ => .stuck
theorem six_e {k : Nat} {mi me : ME} : mSetIx k mi me st = (me st).bind (six1 k mi) := id rfl
theorem six1_e {k : Nat} {mi : ME} : six1 k mi (x, st) = six2 k mi x st (getS st k) := id rfl
theorem six2_e {k : Nat} {mi : ME} : six2 k mi x st (some ⟨.own, fr, .lst xs⟩) = (mi st).bind (six3 k x) := id rfl
theorem six3_e {k : Nat} {d : D} : six3 k ⟨.frz, fr, d⟩ (⟨k', fr', .int i⟩, st) = six4 k fr d i st (getS st k) := by
  unfold six3 six4
  rcases getS st k with _ | ⟨kk, ff, dd⟩
  · rfl
  · cases kk <;> cases dd <;> simp
theorem six4_e {k : Nat} {fx : Bool} {d : D} (h : okS st = true) (h0 : 0 ≤ i) (h2 : i.toNat < xs.length) : six4 k fx d i st (some ⟨.own, fr, .lst xs⟩) = .ok (.next, setS st k (some ⟨.own, fr && fx, .lst (xs.set i.toNat d)⟩)) := by
  have e : setIx xs i d = some (xs.set i.toNat d) := by
    unfold setIx
    rw [if_pos h0, if_pos (by omega)]
  unfold six4
  dsimp only
  rw [if_pos h, e]
def popK (k : Nat) (st : Sta) (o : Option TV) : Res (Ctl × Sta) := match o with
  | some ⟨.own, fr, .lst xs⟩ => if xs ≠ [] ∧ okS st = true then .ok (.next, setS st k (some ⟨.own, fr, .lst xs.dropLast⟩)) else .stuck
  | _ => .stuck
theorem pop_e {k : Nat} : mPop k st = popK k st (getS st k) := id rfl
theorem popK_e {k : Nat} (h : okS st = true) (h2 : xs ≠ []) : popK k st (some ⟨.own, fr, .lst xs⟩) = .ok (.next, setS st k (some ⟨.own, fr, .lst xs.dropLast⟩)) := if_pos ⟨h2, h⟩
def revK (k : Nat) (st : Sta) (o : Option TV) : Res (Ctl × Sta) := match o with
  | some ⟨.own, fr, .lst xs⟩ => if okS st = true then .ok (.next, setS st k (some ⟨.own, fr, .lst xs.reverse⟩)) else .stuck
  | _ => .stuck
theorem rev_e {k : Nat} : mRev k st = revK k st (getS st k) := id rfl
theorem revK_e {k : Nat} (h : okS st = true) : revK k st (some ⟨.own, fr, .lst xs⟩) = .ok (.next, setS st k (some ⟨.own, fr, .lst xs.reverse⟩)) := if_pos h
def fsK (i : Nat) (c : Cl) (n : Nat) (p : TV × Sta) : Res (Ctl × Sta) := match getS p.2 i with
  | some ⟨.own, fr, .obj c' xs⟩ => if c' = c ∧ p.1.k = .frz ∧ okS p.2 = true ∧ n ≤ xs.length ∧ n < 900 ∧ xs.length < 900 then .ok (.next, setS p.2 i (some ⟨.own, fr && p.1.fr, .obj c (if n < xs.length then xs.set n p.1.d else xs ++ [p.1.d])⟩)) else .stuck
  | _ => .stuck
def fsK2 (i : Nat) (c : Cl) (n : Nat) (x : TV) (st : Sta) (o : Option TV) : Res (Ctl × Sta) := match o with
  | some ⟨.own, fr, .obj c' xs⟩ => if c' = c ∧ x.k = .frz ∧ okS st = true ∧ n ≤ xs.length ∧ n < 900 ∧ xs.length < 900 then .ok (.next, setS st i (some ⟨.own, fr && x.fr, .obj c (if n < xs.length then xs.set n x.d else xs ++ [x.d])⟩)) else .stuck
  | _ => .stuck
theorem fs_e {i : Nat} {me : ME} : mFldSet i c n me st = (me st).bind (fsK i c n) := id rfl
theorem fsK_e {i : Nat} : fsK i c n (x, st) = fsK2 i c n x st (getS st i) := id rfl
theorem fsK2_e {i : Nat} {d : D} (h : okS st = true) (h2 : xs.length = n) (h3 : n < 900) : fsK2 i c n ⟨.frz, fr', d⟩ st (some ⟨.own, fr, .obj c xs⟩) = .ok (.next, setS st i (some ⟨.own, fr && fr', .obj c (xs ++ [d])⟩)) := by
  subst h2
  unfold fsK2
  dsimp only
  rw [if_pos ⟨rfl, rfl, h, Nat.le_refl _, h3, h3⟩, if_neg (Nat.lt_irrefl _)]
def asgK (f : TV → Sta → Option Sta) (p : TV × Sta) : Res (Ctl × Sta) := match f p.1 p.2 with
  | some st' => .ok (.next, st')
  | none => .stuck
def asgK2 (o : Option Sta) : Res (Ctl × Sta) := match o with
  | some st' => .ok (.next, st')
  | none => .stuck
theorem asg_e {f : TV → Sta → Option Sta} {m : ME} : mAsg f m st = (m st).bind (asgK f) := id rfl
theorem asgK_e {f : TV → Sta → Option Sta} : asgK f (x, st) = asgK2 (f x st) := id rfl
theorem asgK2_e : asgK2 (some st) = .ok (.next, st) := id rfl
theorem tgt_e {is : List Nat} : tgTup is ⟨k, fr, .tup xs⟩ st = setEach fr is xs st := id rfl
theorem tgl_e {is : List Nat} : tgLst is ⟨k, fr, .lst xs⟩ st = setEach fr is xs st := id rfl
theorem se0 : setEach fr [] [] st = some st := id rfl
theorem se1 {i : Nat} {is : List Nat} {d : D} {ds : List D} : setEach fr (i :: is) (d :: ds) st = setEach fr is ds (setS st i (some (.el fr d))) := id rfl
theorem tgn_e {i : Nat} {d : D} : tgName i ⟨.frz, fr, d⟩ st = some (setS st i (some ⟨.frz, fr, d⟩)) := id rfl
def parK (i j : Nat) (p : List TV × Sta) : Res (Ctl × Sta) := match p.1 with
  | [a, b] => if allFrz [a, b] = true then .ok (.next, setS (setS p.2 i (some a)) j (some b)) else .stuck
  | _ => .stuck
theorem par_e {i j : Nat} {ms : MA} : mPar i j ms st = (ms st).bind (parK i j) := id rfl
theorem parK_e {i j : Nat} {d e : D} : parK i j ([⟨.frz, fr, d⟩, ⟨.frz, fr', e⟩], st) = .ok (.next, setS (setS st i (some ⟨.frz, fr, d⟩)) j (some ⟨.frz, fr', e⟩)) := id rfl
def augK (i : Nat) (f : Int → Int → Int) (m : ME) (st : Sta) (o : Option TV) : Res (Ctl × Sta) := match o with
  | some ⟨_, _, .int a⟩ => (m st).bind fun p => match p.1.d with
    | .int b => .ok (.next, setS p.2 i (some (.i (f a b))))
    | _ => .stuck
  | _ => .stuck
def augK2 (i : Nat) (f : Int → Int → Int) (a : Int) (p : TV × Sta) : Res (Ctl × Sta) := match p.1.d with
    | .int b => .ok (.next, setS p.2 i (some (.i (f a b))))
    | _ => .stuck
theorem aug_e {i : Nat} {f : Int → Int → Int} {m : ME} : mAug i f m st = augK i f m st (getS st i) := id rfl
theorem augK_e {n : Nat} {f : Int → Int → Int} {m : ME} : augK n f m st (some ⟨k, fr, .int i⟩) = (m st).bind (augK2 n f i) := id rfl
theorem augK2_e {n : Nat} {f : Int → Int → Int} : augK2 n f i (⟨k, fr, .int j⟩, st) = .ok (.next, setS st n (some ⟨.frz, true, .int (f i j)⟩)) := id rfl
def klK (is : List Nat) (p : Ctl × Sta) : Res (Ctl × Sta) := .ok (p.1, wipeS p.2 is)
theorem kl_e {is : List Nat} {m : MS} : mKl is m st = (m st).bind (klK is) := id rfl
theorem klK_e {is : List Nat} {q : Ctl} : klK is (q, st) = .ok (q, wipeS st is) := id rfl
theorem raise_e {x : Str} : mRaise x st = .err ⟨x, none⟩ st := id rfl
/-! loops -/
def forK (g : TV → Sta → Option Sta) (b : MS) (p : List TV × Sta) : Res (Ctl × Sta) := forI (turnF g b) p.1 p.2
theorem for_e {g : TV → Sta → Option Sta} {i : MI} {b : MS} : mFor g i b st = (i st).bind (forK g b) := id rfl
theorem forK_e {g : TV → Sta → Option Sta} {b : MS} : forK g b (ts, st) = forI (turnF g b) ts st := id rfl
def itK (p : TV × Sta) : Res (List TV × Sta) := ofO (itOf p.1) p.2
theorem it_e {m : ME} : mIt m st = (m st).bind itK := id rfl
theorem itK_e : itK (x, st) = ofO (itOf x) st := id rfl
theorem it_l : itOf ⟨.frz, fr, .lst xs⟩ = some (xs.map (.el fr)) := id rfl
theorem it_t : itOf ⟨k, fr, .tup xs⟩ = some (xs.map (.el fr)) := by cases k <;> rfl
theorem it_f : itOf ⟨k, fr, .fl xs⟩ = some (xs.map (.el fr)) := by cases k <;> rfl
def rvK (p : TV × Sta) : Res (List TV × Sta) := ofO (revOf p.1) p.2
theorem rv_e {m : ME} : mRevIt m st = (m st).bind rvK := id rfl
theorem rvK_e : rvK (x, st) = ofO (revOf x) st := id rfl
theorem rv_l : revOf ⟨.frz, fr, .lst xs⟩ = some (xs.reverse.map (.el fr)) := id rfl
theorem rv_t : revOf ⟨.frz, fr, .tup xs⟩ = some (xs.reverse.map (.el fr)) := id rfl
def iaK (f : List TV → Option (List TV)) (p : List TV × Sta) : Res (List TV × Sta) := ofO (f p.1) p.2
theorem r1_e {m : MA} : mRng1 m st = (m st).bind (iaK fRng1) := id rfl
theorem r2_e {m : MA} : mRng2 m st = (m st).bind (iaK fRng2) := id rfl
theorem iaK_e {f : List TV → Option (List TV)} : iaK f (ts, st) = ofO (f ts) st := id rfl
theorem rng1_i (h : small j = true) : fRng1 [⟨k, fr, .int j⟩] = some (rangeD 0 j.toNat) := if_pos h
theorem rng2_i (h : (small i && small j) = true) : fRng2 [⟨k, fr, .int i⟩, ⟨k', fr', .int j⟩] = some (rangeD i (j - i).toNat) := if_pos h
theorem zp_e {m : MA} : mZip m st = (m st).bind (iaK fZip) := id rfl
theorem zip_l : fZip [⟨.frz, fr, .lst xs⟩, ⟨.frz, fr', .lst ys⟩] = some (zipD fr fr' xs ys) := id rfl
theorem en_e {m : MA} : mEnum m st = (m st).bind (iaK fEnum) := id rfl
theorem enum_l : fEnum [⟨.frz, fr, .lst xs⟩] = some (enumD fr xs) := id rfl
theorem while_e {c : MT} {b : MS} : mWhile n c b st = whileD c b n st := id rfl
def compK (g : TV → Sta → Option Sta) (c : MT) (e : ME) (vs : List Nat) (p : List TV × Sta) : Res (TV × Sta) := match compI g c e vs p.1 (wipeS p.2 vs) true [] with
  | some (fr, acc, st') => .ok (⟨.own, fr, .lst acc⟩, st')
  | none => .stuck
def compO (o : Option (Bool × List D × Sta)) : Res (TV × Sta) := match o with
  | some (fr, acc, st') => .ok (⟨.own, fr, .lst acc⟩, st')
  | none => .stuck
theorem comp_e {g : TV → Sta → Option Sta} {c : MT} {e : ME} {vs : List Nat} {i : MI} : mComp g i c e vs st = (i st).bind (compK g c e vs) := id rfl
theorem compK_e {g : TV → Sta → Option Sta} {c : MT} {e : ME} {vs : List Nat} : compK g c e vs (ts, st) = compO (compI g c e vs ts (wipeS st vs) true []) := id rfl
theorem compO_e : compO (some (fr, xs, st)) = .ok (⟨.own, fr, .lst xs⟩, st) := id rfl
theorem turn_e {g : TV → Sta → Option Sta} {b : MS} : turnF g b x st = (match g x st with
  | some st' => b st'
  | none => .stuck) := id rfl
theorem turn_s {g : TV → Sta → Option Sta} {b : MS} (h : g x st = some st') : turnF g b x st = b st' := by
  unfold turnF
  rw [h]
def fin (r : Res (Ctl × Sta)) : Out := match r with
  | .ok (.next, _) => .ok .n
  | .ok (.ret t, _) => .ok t
  | .err c _ => .err c
  | _ => .stuck
theorem run_e {n : Nat} {m : MS} {ds : List D} : runD n m ds = fin (m (startD n ds)) := id rfl
theorem fin_r : fin (.ok (.ret t, st)) = .ok t := id rfl
theorem fin_n : fin (.ok (.next, st)) = .ok .n := id rfl
theorem fin_e {c : Ec} : fin (.err c st) = .err c := id rfl
def forN (f : TV → Sta → Res (Ctl × Sta)) (ts : List TV) (p : Ctl × Sta) : Res (Ctl × Sta) := match p.1 with
    | .next => forI f ts p.2
    | .cont => forI f ts p.2
    | .brk => .ok (.next, p.2)
    | .ret t => .ok (.ret t, p.2)
theorem for0 {f : TV → Sta → Res (Ctl × Sta)} : forI f [] st = .ok (.next, st) := id rfl
theorem for1 {f : TV → Sta → Res (Ctl × Sta)} : forI f (t :: ts) st = (f t st).bind (forN f ts) := id rfl
theorem forN_n {f : TV → Sta → Res (Ctl × Sta)} : forN f ts (.next, st) = forI f ts st := id rfl
theorem forN_c {f : TV → Sta → Res (Ctl × Sta)} : forN f ts (.cont, st) = forI f ts st := id rfl
theorem forN_b {f : TV → Sta → Res (Ctl × Sta)} : forN f ts (.brk, st) = .ok (.next, st) := id rfl
theorem forN_r {f : TV → Sta → Res (Ctl × Sta)} : forN f ts (.ret t, st) = .ok (.ret t, st) := id rfl
theorem turn_n {b : MS} {d : D} : turnF (tgName n) b ⟨.frz, fr, d⟩ st = b (setS st n (some ⟨.frz, fr, d⟩)) := id rfl
def turnK (b : MS) (o : Option Sta) : Res (Ctl × Sta) := match o with
  | some st' => b st'
  | none => .stuck
theorem turn_t {is : List Nat} {b : MS} : turnF (tgTup is) b x st = turnK b (tgTup is x st) := id rfl
theorem turnK_e {b : MS} : turnK b (some st) = b st := id rfl
def finI (c : Cl) (r : Res (Ctl × Sta)) : OutO := match r with
  | .ok (.next, some ⟨.own, fr, .obj c' fds⟩ :: _) => if c' = c then .ok fr fds else .stuck
  | .err ⟨e, none⟩ _ => .err e
  | _ => .stuck
theorem runI_e {n : Nat} {c : Cl} {m : MS} {ds : List D} : runI n c m ds = finI c (m (some ⟨.own, true, .obj c []⟩ :: startD (n - 1) ds)) := id rfl
theorem finI_n : finI c (.ok (.next, some ⟨.own, fr, .obj c xs⟩ :: st)) = .ok fr xs := if_pos rfl
theorem finI_e {e : Str} : finI c (.err ⟨e, none⟩ st) = .err e := id rfl
/-- a walk whose turns go through, the state after i turns told -/
theorem forI_idx {f : TV → Sta → Res (Ctl × Sta)} : ∀ (its : List TV) (S : Nat → Sta), (∀ i (h : i < its.length), f its[i] (S i) = .ok (.next, S (i + 1)) ∨ f its[i] (S i) = .ok (.cont, S (i + 1))) → forI f its (S 0) = .ok (.next, S its.length)
  | [], S, _ => rfl
  | t :: ts, S, h => by
    have h0 := h 0 (by simp)
    have r := forI_idx ts (fun i => S (i + 1)) fun i hi => by
      have := h (i + 1) (by simp; omega)
      simpa using this
    rcases h0 with h0 | h0
    · show (f t (S 0)).bind _ = _
      rw [show f t (S 0) = .ok (.next, S 1) from h0]
      exact r
    · show (f t (S 0)).bind _ = _
      rw [show f t (S 0) = .ok (.cont, S 1) from h0]
      exact r
theorem forI_rng {f : TV → Sta → Res (Ctl × Sta)} {lo : Int} {n : Nat} (S : Nat → Sta) (h : ∀ i < n, f ⟨.frz, true, .int (lo + (i : Int))⟩ (S i) = .ok (.next, S (i + 1)) ∨ f ⟨.frz, true, .int (lo + (i : Int))⟩ (S i) = .ok (.cont, S (i + 1))) : forI f (rangeD lo n) (S 0) = .ok (.next, S n) := by
  have r := forI_idx (f := f) (rangeD lo n) S fun i hi => by
    have hi' : i < n := by simpa [rangeD] using hi
    have e : (rangeD lo n)[i] = ⟨.frz, true, .int (lo + (i : Int))⟩ := by simp [rangeD]; rfl
    rw [e]
    exact h i hi'
  have e : (rangeD lo n).length = n := by simp [rangeD]
  rw [e] at r
  exact r
theorem forI_map {γ : Type} {f : TV → Sta → Res (Ctl × Sta)} {g : γ → TV} (zs : List γ) (S : Nat → Sta) (h : ∀ i (h : i < zs.length), f (g zs[i]) (S i) = .ok (.next, S (i + 1)) ∨ f (g zs[i]) (S i) = .ok (.cont, S (i + 1))) : forI f (zs.map g) (S 0) = .ok (.next, S zs.length) := by
  have r := forI_idx (f := f) (zs.map g) S fun i hi => by
    have e : (zs.map g)[i] = g (zs[i]'(by simpa using hi)) := by simp
    rw [e]
    exact h i (by simpa using hi)
  have e : (zs.map g).length = zs.length := by simp
  rw [e] at r
  exact r
/-- a walk with an invariant -/
theorem forI_inv {f : TV → Sta → Res (Ctl × Sta)} : ∀ (its : List TV) (I : Nat → Sta → Prop) (st : Sta), I 0 st → (∀ i (h : i < its.length) st, I i st → ∃ st', f its[i] st = .ok (.next, st') ∧ I (i + 1) st') → ∃ st', forI f its st = .ok (.next, st') ∧ I its.length st'
  | [], I, st, h0, _ => ⟨st, rfl, h0⟩
  | t :: ts, I, st, h0, h => by
    obtain ⟨s1, e1, i1⟩ := h 0 (by simp) st h0
    obtain ⟨s2, e2, i2⟩ := forI_inv ts (fun i => I (i + 1)) s1 i1 fun i hi st hs => by
      have := h (i + 1) (by simp; omega) st hs
      simpa using this
    refine ⟨s2, ?_, i2⟩
    show (f t st).bind _ = _
    rw [show f t st = .ok (.next, s1) from e1]
    exact e2
theorem forI_invr {f : TV → Sta → Res (Ctl × Sta)} {lo : Int} {n : Nat} (I : Nat → Sta → Prop) (st : Sta) (h0 : I 0 st) (h : ∀ i < n, ∀ st, I i st → ∃ st', f ⟨.frz, true, .int (lo + (i : Int))⟩ st = .ok (.next, st') ∧ I (i + 1) st') : ∃ st', forI f (rangeD lo n) st = .ok (.next, st') ∧ I n st' := by
  have r := forI_inv (f := f) (rangeD lo n) I st h0 fun i hi st hs => by
    have hi' : i < n := by simpa [rangeD] using hi
    have e : (rangeD lo n)[i] = ⟨.frz, true, .int (lo + (i : Int))⟩ := by simp [rangeD]; rfl
    rw [e]
    exact h i hi' st hs
  have e : (rangeD lo n).length = n := by simp [rangeD]
  rw [e] at r
  exact r
theorem forI_invm {γ : Type} {f : TV → Sta → Res (Ctl × Sta)} {g : γ → TV} (zs : List γ) (I : Nat → Sta → Prop) (st : Sta) (h0 : I 0 st) (h : ∀ i (h : i < zs.length) st, I i st → ∃ st', f (g zs[i]) st = .ok (.next, st') ∧ I (i + 1) st') : ∃ st', forI f (zs.map g) st = .ok (.next, st') ∧ I zs.length st' := by
  have r := forI_inv (f := f) (zs.map g) I st h0 fun i hi st hs => by
    have e : (zs.map g)[i] = g (zs[i]'(by simpa using hi)) := by simp
    rw [e]
    exact h i (by simpa using hi) st hs
  have e : (zs.map g).length = zs.length := by simp
  rw [e] at r
  exact r
theorem mulOk_r (h : -18446744073709551616 < j ∧ j < 18446744073709551616) : mulOk i j = true := by
  unfold mulOk
  rw [decide_eq_true h, Bool.or_true]
theorem mulOk_l (h : -18446744073709551616 < i ∧ i < 18446744073709551616) : mulOk i j = true := by
  unfold mulOk
  rw [decide_eq_true h, Bool.true_or]
theorem small_i (h : -4611686018427387904 ≤ j ∧ j < 4611686018427387904) : small j = true := by
  unfold small
  rw [decide_eq_true h.1, decide_eq_true h.2]
  rfl
/-- the state stays as it was -/
theorem forI_same {f : TV → Sta → Res (Ctl × Sta)} {its : List TV} {st : Sta} (h : ∀ t ∈ its, f t st = .ok (.next, st)) : forI f its st = .ok (.next, st) :=
  forI_idx its (fun _ => st) fun i hi => .inl (h _ (List.getElem_mem hi))
/-- .. until one turn leaves the def -/
theorem forI_ret {f : TV → Sta → Res (Ctl × Sta)} {r : TV} {st' : Sta} : ∀ (its : List TV) (S : Nat → Sta) (j : Nat) (hj : j < its.length), (∀ i (h : i < j), f (its[i]'(by omega)) (S i) = .ok (.next, S (i + 1))) → f its[j] (S j) = .ok (.ret r, st') → forI f its (S 0) = .ok (.ret r, st')
  | t :: ts, S, 0, hj, _, e => by
    show (f t (S 0)).bind _ = _
    rw [show f t (S 0) = .ok (.ret r, st') from e]
    rfl
  | t :: ts, S, j + 1, hj, h, e => by
    have h0 := h 0 (by omega)
    show (f t (S 0)).bind _ = _
    rw [show f t (S 0) = .ok (.next, S 1) from h0]
    exact forI_ret ts (fun i => S (i + 1)) j (by simpa using hj) (fun i hi => by
      have := h (i + 1) (by omega)
      simpa using this) (by simpa using e)
theorem whileD_run {c : MT} {b : MS} (S : Nat → Sta) : ∀ (n fuel : Nat), n < fuel → (∀ i < n, c (S i) = .ok (true, S i) ∧ b (S i) = .ok (.next, S (i + 1))) → c (S n) = .ok (false, S n) → whileD c b fuel (S 0) = .ok (.next, S n) := by
  intro n
  induction n generalizing S with
  | zero =>
    intro fuel hf _ he
    obtain ⟨fu, rfl⟩ : ∃ fu, fuel = fu + 1 := ⟨fuel - 1, by omega⟩
    show (c (S 0)).bind _ = _
    rw [he]
    rfl
  | succ n ih =>
    intro fuel hf h he
    obtain ⟨fu, rfl⟩ : ∃ fu, fuel = fu + 1 := ⟨fuel - 1, by omega⟩
    obtain ⟨h1, h2⟩ := h 0 (by omega)
    show (c (S 0)).bind _ = _
    rw [h1]
    show (b (S 0)).bind _ = _
    rw [h2]
    exact ih (fun i => S (i + 1)) fu (by omega) (fun i hi => h (i + 1) (by omega)) he
/-- a comprehension without a test, its state the same at each turn; ys: what it makes -/
theorem compI_all {g : TV → Sta → Option Sta} {e : ME} {vs : List Nat} {st : Sta} : ∀ (its : List TV) (ys : List D) (f0 : Bool) (acc : List D), ys.length = its.length → acc.length + ys.length ≤ 16777216 →
    (∀ i (h : i < its.length) (h2 : i < ys.length), ∃ st1 st2, g its[i] st = some st1 ∧ e st1 = .ok (⟨.frz, true, ys[i]⟩, st2) ∧ wipeS st2 vs = st ∧ okS st2 = true) → compI g mYes e vs its st f0 acc = some (f0, acc ++ ys, st)
  | [], [], f0, acc, _, _, _ => by simp [compI]
  | t :: ts, y :: ys, f0, acc, hl, hs, h => by
    obtain ⟨st1, st2, h1, h2, h3, h4⟩ := h 0 (by simp) (by simp)
    have h1 : g t st = some st1 := h1
    have h2 : e st1 = .ok (⟨.frz, true, y⟩, st2) := h2
    have r := compI_all ts ys (f0 && true) (acc ++ [y]) (by simpa using hl) (by simp at hs ⊢; omega) fun i a b => by
      have := h (i + 1) (by simpa using a) (by simpa using b)
      simpa using this
    unfold compI
    rw [h1]
    show (match mYes st1 with
      | .ok (false, st2) => compI g mYes e vs ts (wipeS st2 vs) f0 acc
      | .ok (true, st2) => (match e st2 with
        | .ok (⟨.frz, f2, d⟩, st3) => if acc.length < 16777216 ∧ okS st3 = true then compI g mYes e vs ts (wipeS st3 vs) (f0 && f2) (acc ++ [d]) else none
        | _ => none)
      | _ => none) = _
    have e0 : mYes st1 = .ok (true, st1) := rfl
    rw [e0]
    dsimp only
    rw [h2]
    dsimp only
    rw [if_pos ⟨by simp at hs; omega, h4⟩, h3, r]
    simp
theorem map_snoc {zs : List Int} {z : Int} : zs.map D.int ++ [D.int z] = (zs ++ [z]).map D.int := by simp
theorem map_set {zs : List Int} {z : Int} {n : Nat} : (zs.map D.int).set n (D.int z) = (zs.set n z).map D.int := by rw [List.map_set]
theorem map_dropLast {zs : List Int} : (zs.map D.int).dropLast = zs.dropLast.map D.int := by rw [List.map_dropLast]
theorem map_nil0 : ([] : List D) = ([] : List Int).map D.int := id rfl
end Dl

namespace Dl
open PySem
variable {st : Sta} {k : Kd} {fr : Bool} {c e : Str} {a : Addr} {t : TV} {i : Nat}
/-! # run rules: try -/
noncomputable def tryK (ms : List MCl) (els : MS) (r : Res (Ctl × Sta)) : Res (Ctl × Sta) := match r with
  | .ok (.next, st') => els st'
  | .err c st' => pickC ms c st'
  | r => r
theorem try_e {body els : MS} {ms : List MCl} : mTryC body ms els st = tryK ms els (body st) := id rfl
theorem tryK_n {ms : List MCl} {els : MS} : tryK ms els (.ok (.next, st)) = els st := id rfl
theorem tryK_r {ms : List MCl} {els : MS} : tryK ms els (.ok (.ret t, st)) = .ok (.ret t, st) := id rfl
theorem tryK_b {ms : List MCl} {els : MS} : tryK ms els (.ok (.brk, st)) = .ok (.brk, st) := id rfl
theorem tryK_c {ms : List MCl} {els : MS} : tryK ms els (.ok (.cont, st)) = .ok (.cont, st) := id rfl
theorem tryK_e {c : Ec} {ms : List MCl} {els : MS} : tryK ms els (.err c st) = pickC ms c st := id rfl
noncomputable def pickK (m : MCl) (r : List MCl) (c : Ec) (st : Sta) (o : Option Bool) : Res (Ctl × Sta) := match o with
  | some true => allA fun a => allA fun dd => noErr (m.run c a dd st)
  | some false => pickC r c st
  | none => .stuck
theorem pick0 {c : Ec} : pickC [] c st = .err c st := id rfl
theorem pick1 {m : MCl} {r : List MCl} {x : Option (Bool × List Str × List D)} : pickC (m :: r) ⟨c, x⟩ st = pickK m r ⟨c, x⟩ st (m.cl c) := id rfl
theorem pickK_t {c : Ec} {m : MCl} {r : List MCl} : pickK m r c st (some true) = allA fun a => allA fun dd => noErr (m.run c a dd st) := id rfl
theorem pickK_f {c : Ec} {m : MCl} {r : List MCl} : pickK m r c st (some false) = pickC r c st := id rfl
theorem run_n {c : Ec} {dd : Addr} {cl : Str → Option Bool} {su : Ec → Addr → Addr → MS} : (⟨cl, none, su⟩ : MCl).run c a dd = su c a dd := id rfl
theorem run_s {dd : Addr} {cl : Str → Option Bool} {su : Ec → Addr → Addr → MS} : (⟨cl, some i, su⟩ : MCl).run ⟨c, none⟩ a dd st = (su ⟨c, none⟩ a dd (setS st i (some ⟨.frz, true, .exc c a⟩))).bind fun p => .ok (p.1, setS p.2 i none) := id rfl
theorem run_x {dd : Addr} {cl : Str → Option Bool} {su : Ec → Addr → Addr → MS} {ns : List Str} {xs : List D} : (⟨cl, some i, su⟩ : MCl).run ⟨c, some (fr, ns, xs)⟩ a dd st = (su ⟨c, some (fr, ns, xs)⟩ a dd (setS st i (some ⟨.frz, fr, .xcp c a dd ns xs⟩))).bind fun p => .ok (p.1, setS p.2 i none) := id rfl
theorem noErr_o {α : Type} {p : α} : noErr (.ok p) = .ok p := id rfl
theorem allA_c {α : Type} {r : Res α} : allA (fun _ => r) = r := allA_e
def isK (c : Ec) (a dd : Addr) (sub : Str → Option Bool) (p : TV × Sta) : Res (TV × Sta) := if exN p.1.d = some (c.n, a, c.dict dd) then ofO ((sub c.n).map TV.b) p.2 else .stuck
theorem is_e {c : Ec} {dd : Addr} {sub : Str → Option Bool} {m : ME} : mIsE c a dd sub m st = (m st).bind (isK c a dd sub) := id rfl
theorem isK_e {dd : Addr} {sub : Str → Option Bool} : isK ⟨c, none⟩ a dd sub (⟨k, fr, .exc c a⟩, st) = ofO ((sub c).map TV.b) st := if_pos rfl
theorem isK_x {f : Bool} {ns ms : List Str} {xs ys : List D} {dd : Addr} {sub : Str → Option Bool} : isK ⟨c, some (f, ns, xs)⟩ a dd sub (⟨k, fr, .xcp c a dd ms ys⟩, st) = ofO ((sub c).map TV.b) st := if_pos rfl
/-! # loops -/
theorem whileD_dec {c : MT} {b : MS} (I : Nat → Sta → Prop) (h : ∀ k st, I k st → c st = .ok (false, st) ∨ (c st = .ok (true, st) ∧ ∃ st', b st = .ok (.next, st') ∧ ∃ k', k' < k ∧ I k' st')) :
    ∀ (fuel k : Nat) (st : Sta), k < fuel → I k st → ∃ k' st', whileD c b fuel st = .ok (.next, st') ∧ I k' st' ∧ c st' = .ok (false, st') := by
  intro fuel
  induction fuel with
  | zero => exact fun k st hk => absurd hk (Nat.not_lt_zero _)
  | succ fu ih =>
    intro k st hk hi
    rcases h k st hi with e | ⟨e, st', e2, k', hk', hi'⟩
    · refine ⟨k, st, ?_, hi, e⟩
      show (c st).bind _ = _
      rw [e]
      rfl
    · obtain ⟨k2, s2, e3, h3, h4⟩ := ih k' st' (by omega) hi'
      refine ⟨k2, s2, ?_, h3, h4⟩
      show (c st).bind _ = _
      rw [e]
      show (b st).bind _ = _
      rw [e2]
      exact e3
/-- a walk with an invariant that may leave the def -/
theorem forI_invret {f : TV → Sta → Res (Ctl × Sta)} {P : TV → Prop} : ∀ (its : List TV) (I : Nat → Sta → Prop) (st : Sta), I 0 st → (∀ i (h : i < its.length) st, I i st → (∃ st', f its[i] st = .ok (.next, st') ∧ I (i + 1) st') ∨ ∃ t st', f its[i] st = .ok (.ret t, st') ∧ P t) →
    (∃ st', forI f its st = .ok (.next, st') ∧ I its.length st') ∨ ∃ t st', forI f its st = .ok (.ret t, st') ∧ P t
  | [], I, st, h0, _ => .inl ⟨st, rfl, h0⟩
  | t :: ts, I, st, h0, h => by
    rcases h 0 (by simp) st h0 with ⟨s1, e1, i1⟩ | ⟨r, s1, e1, p1⟩
    · have r := forI_invret (f := f) (P := P) ts (fun i => I (i + 1)) s1 i1 fun i hi st hs => by
        have := h (i + 1) (by simp; omega) st hs
        simpa using this
      have e1 : f t st = .ok (.next, s1) := e1
      have e0 : forI f (t :: ts) st = forI f ts s1 := by
        show (f t st).bind _ = _
        rw [e1]
        rfl
      rw [e0]
      exact r
    · refine .inr ⟨r, s1, ?_, p1⟩
      have e1 : f t st = .ok (.ret r, s1) := e1
      show (f t st).bind _ = _
      rw [e1]
      rfl
theorem forI_invretr {f : TV → Sta → Res (Ctl × Sta)} {P : TV → Prop} {lo : Int} {n : Nat} (I : Nat → Sta → Prop) (st : Sta) (h0 : I 0 st) (h : ∀ i < n, ∀ st, I i st → (∃ st', f ⟨.frz, true, .int (lo + (i : Int))⟩ st = .ok (.next, st') ∧ I (i + 1) st') ∨ ∃ t st', f ⟨.frz, true, .int (lo + (i : Int))⟩ st = .ok (.ret t, st') ∧ P t) :
    (∃ st', forI f (rangeD lo n) st = .ok (.next, st') ∧ I n st') ∨ ∃ t st', forI f (rangeD lo n) st = .ok (.ret t, st') ∧ P t := by
  have r := forI_invret (f := f) (P := P) (rangeD lo n) I st h0 fun i hi st hs => by
    have hi' : i < n := by simpa [rangeD] using hi
    have e : (rangeD lo n)[i] = ⟨.frz, true, .int (lo + (i : Int))⟩ := by simp [rangeD]; rfl
    rw [e]
    exact h i hi' st hs
  have e : (rangeD lo n).length = n := by simp [rangeD]
  rw [e] at r
  exact r
end Dl

namespace Dl
open PySem
variable {st : Sta} {k k' k2 : Kd} {fr fr' fr2 : Bool} {c : Cl} {i j : Int} {t x : TV} {xs : List D}
/-! # run rules: item targets, in, is True, range down, properties -/
def asgMK (f : TV → MS) (p : TV × Sta) : Res (Ctl × Sta) := f p.1 p.2
theorem asgM_e {f : TV → MS} {m : ME} : mAsgM f m st = (m st).bind (asgMK f) := id rfl
theorem asgMK_e {f : TV → MS} : asgMK f (t, st) = f t st := id rfl
def eachK (fr : Bool) (ms : List (TV → MS)) (xs : List D) (p : Ctl × Sta) : Res (Ctl × Sta) := match p.1 with
  | .next => mEach fr ms xs p.2
  | _ => .stuck
theorem tgt2_e {m1 m2 : TV → MS} {a b : D} : mTgTup [m1, m2] ⟨k, fr, .tup [a, b]⟩ st = (m1 (.el fr a) st).bind (eachK fr [m2] [b]) := by
  unfold mTgTup
  dsimp only
  rw [if_pos (show [a, b].length = [m1, m2].length from rfl)]
  rfl
theorem eachK_n {ms : List (TV → MS)} : eachK fr ms xs (.next, st) = mEach fr ms xs st := id rfl
theorem each0_e : mEach fr [] [] st = .ok (.next, st) := id rfl
theorem eachS_e {m : TV → MS} {ms : List (TV → MS)} {d : D} : mEach fr (m :: ms) (d :: xs) st = (m (.el fr d) st).bind (eachK fr ms xs) := id rfl
theorem setAt_e {n : Nat} {mi : ME} : mSetAt n mi t st = six2 n mi t st (getS st n) := id rfl
theorem mtgN_e {n : Nat} {d : D} : mTgName n ⟨.frz, fr, d⟩ st = .ok (.next, setS st n (some ⟨.frz, fr, d⟩)) := id rfl
theorem eqv_ii : (D.int i).eqv (D.int j) = decide (i = j) := by
  show (i == j) = decide (i = j)
  rw [Bool.eq_iff_iff]
  simp
theorem any_ints {ys : List Int} : ((ys.map D.int).any fun z => z.eqv (.int i)) = decide (i ∈ ys) := by
  induction ys with
  | nil => rfl
  | cons y ys ih =>
    rw [List.map_cons, List.any_cons, ih, eqv_ii, Bool.eq_iff_iff]
    simp only [Bool.or_eq_true, decide_eq_true_eq, List.mem_cons]
    exact ⟨fun z => z.elim (fun e => .inl e.symm) .inr, fun z => z.elim (fun e => .inl e.symm) .inr⟩
theorem in_i {ys : List Int} : fIn ⟨k, fr, .int i⟩ ⟨k', fr', .lst (ys.map D.int)⟩ = some ⟨.frz, true, .bl (decide (i ∈ ys))⟩ := by
  show (if (D.int i).plain 63 = true ∧ (D.lst (ys.map D.int)).plain 64 = true then some (TV.b ((ys.map D.int).any fun z => z.eqv (.int i))) else none) = _
  rw [if_pos ⟨plain_i, plain_ints ys 63⟩, any_ints]
  rfl
theorem notIn_i {ys : List Int} : fNotIn ⟨k, fr, .int i⟩ ⟨k', fr', .lst (ys.map D.int)⟩ = some ⟨.frz, true, .bl (!decide (i ∈ ys))⟩ := by
  show (if (D.int i).plain 63 = true ∧ (D.lst (ys.map D.int)).plain 64 = true then some (TV.b (!(ys.map D.int).any fun z => z.eqv (.int i))) else none) = _
  rw [if_pos ⟨plain_i, plain_ints ys 63⟩, any_ints]
  rfl
theorem isB_e {a b : Bool} : fIsB ⟨k, fr, .bl a⟩ ⟨k', fr', .bl b⟩ = some ⟨.frz, true, .bl (decide (a = b))⟩ := id rfl
theorem notB_e {a b : Bool} : fNotB ⟨k, fr, .bl a⟩ ⟨k', fr', .bl b⟩ = some ⟨.frz, true, .bl (!decide (a = b))⟩ := id rfl
theorem isN_n : fIsN ⟨k, fr, .non⟩ = some ⟨.frz, true, .bl true⟩ := id rfl
theorem isN_i : fIsN ⟨k, fr, .int i⟩ = some ⟨.frz, true, .bl false⟩ := id rfl
theorem isN_l : fIsN ⟨k, fr, .lst xs⟩ = some ⟨.frz, true, .bl false⟩ := id rfl
theorem isN_t : fIsN ⟨k, fr, .tup xs⟩ = some ⟨.frz, true, .bl false⟩ := id rfl
theorem notN_n : fNotN ⟨k, fr, .non⟩ = some ⟨.frz, true, .bl false⟩ := id rfl
theorem notN_i : fNotN ⟨k, fr, .int i⟩ = some ⟨.frz, true, .bl true⟩ := id rfl
theorem notN_l : fNotN ⟨k, fr, .lst xs⟩ = some ⟨.frz, true, .bl true⟩ := id rfl
theorem notN_t : fNotN ⟨k, fr, .tup xs⟩ = some ⟨.frz, true, .bl true⟩ := id rfl
def chainK (f g : TV → TV → Option TV) (mb mc : ME) (p : TV × Sta) : Res (TV × Sta) := (mb p.2).bind fun q => match p.1.d, q.1.d with
  | .int i, .int j => (ofO ((f (.i i) (.i j)).bind fun t => t.d.asB) q.2).bind fun b => match b.1 with
    | true => (mc b.2).bind fun r => ofO (g (.i j) r.1) r.2
    | false => .ok (.b false, b.2)
  | _, _ => .stuck
def chainK2 (f g : TV → TV → Option TV) (mc : ME) (x : TV) (q : TV × Sta) : Res (TV × Sta) := match x.d, q.1.d with
  | .int i, .int j => (ofO ((f (.i i) (.i j)).bind fun t => t.d.asB) q.2).bind fun b => match b.1 with
    | true => (mc b.2).bind fun r => ofO (g (.i j) r.1) r.2
    | false => .ok (.b false, b.2)
  | _, _ => .stuck
def chainK3 (g : TV → TV → Option TV) (mc : ME) (j : Int) (b : Bool × Sta) : Res (TV × Sta) := match b.1 with
    | true => (mc b.2).bind fun r => ofO (g (.i j) r.1) r.2
    | false => .ok (.b false, b.2)
def chainK4 (g : TV → TV → Option TV) (j : Int) (r : TV × Sta) : Res (TV × Sta) := ofO (g ⟨.frz, true, .int j⟩ r.1) r.2
theorem chain_e {f g : TV → TV → Option TV} {ma mb mc : ME} : mChain f g ma mb mc st = (ma st).bind (chainK f g mb mc) := id rfl
theorem chainK_e {f g : TV → TV → Option TV} {mb mc : ME} : chainK f g mb mc (x, st) = (mb st).bind (chainK2 f g mc x) := id rfl
theorem chLe_e {g : TV → TV → Option TV} {mc : ME} : chainK2 fLe g mc ⟨k, fr, .int i⟩ (⟨k', fr', .int j⟩, st) = chainK3 g mc j (decide (i ≤ j), st) := id rfl
theorem chLt_e {g : TV → TV → Option TV} {mc : ME} : chainK2 fLt g mc ⟨k, fr, .int i⟩ (⟨k', fr', .int j⟩, st) = chainK3 g mc j (decide (i < j), st) := id rfl
theorem chT_e {g : TV → TV → Option TV} {mc : ME} : chainK3 g mc j (true, st) = (mc st).bind (chainK4 g j) := id rfl
theorem chF_e {g : TV → TV → Option TV} {mc : ME} : chainK3 g mc j (false, st) = .ok (⟨.frz, true, .bl false⟩, st) := id rfl
theorem chainK4_e {g : TV → TV → Option TV} : chainK4 g j (x, st) = ofO (g ⟨.frz, true, .int j⟩ x) st := id rfl
theorem r3_e {m : MA} : mRng3 m st = (m st).bind (iaK fRng3) := id rfl
theorem rng3_i (h : (small i && small j) = true) : fRng3 [⟨k, fr, .int i⟩, ⟨k', fr', .int j⟩, ⟨k2, fr2, .int (-1)⟩] = some (stepD i (-1) (i - j).toNat) := if_pos (by rw [h]; rfl)
def propK (g : List D → Out) (c : Cl) (p : TV × Sta) : Res (TV × Sta) := match p.1.d with
  | .obj c' _ => if c' = c then noErr (callR g [p.1] p.2) else .stuck
  | _ => .stuck
theorem prop_e {g : List D → Out} {mo : ME} : mProp g c mo st = (mo st).bind (propK g c) := id rfl
theorem propK_e {g : List D → Out} : propK g c (⟨k, fr, .obj c xs⟩, st) = noErr (outK (allFrz [⟨k, fr, .obj c xs⟩]) st (g [.obj c xs])) := if_pos rfl
/-! # blocks -/
theorem okl {d : D} {r : Sta} : okS (some ⟨.old, fr, d⟩ :: r) = okS r := id rfl
def blkK (hv : MS) (ws : List Nat) (r : Res (Ctl × Sta)) : Res (Ctl × Sta) := match r with
  | .ok (.next, st1) => (match hv st1 with
    | .ok (.next, _) => .ok (.next, leaveS ws st1)
    | _ => .stuck)
  | .ok (.ret t, st1) => if t.k = .frz ∧ t.d.atom = true then .ok (.ret t, leaveS ws st1) else .stuck
  | .ok (.brk, _) => .stuck
  | .ok (.cont, _) => .stuck
  | .err ⟨n, none⟩ st1 => .err ⟨n, none⟩ (leaveS ws st1)
  | .err ⟨_, some _⟩ _ => .stuck
  | .stuck => .stuck
def blkK2 (ws : List Nat) (st1 : Sta) (r : Res (Ctl × Sta)) : Res (Ctl × Sta) := match r with
    | .ok (.next, _) => .ok (.next, leaveS ws st1)
    | _ => .stuck
theorem blk_e {M hv : MS} {ws : List Nat} : mBlk M hv ws st = blkK hv ws (M (oldS st)) := id rfl
theorem blkK_n {hv : MS} {ws : List Nat} : blkK hv ws (.ok (.next, st)) = blkK2 ws st (hv st) := id rfl
theorem blkK2_n {ws : List Nat} {st' : Sta} : blkK2 ws st (.ok (.next, st')) = .ok (.next, leaveS ws st) := id rfl
theorem blkK_rb {hv : MS} {ws : List Nat} {b : Bool} : blkK hv ws (.ok (.ret ⟨.frz, fr, .bl b⟩, st)) = .ok (.ret ⟨.frz, fr, .bl b⟩, leaveS ws st) := by
  unfold blkK
  exact if_pos ⟨rfl, rfl⟩
theorem blkK_e {hv : MS} {ws : List Nat} {e : Str} : blkK hv ws (.err ⟨e, none⟩ st) = .err ⟨e, none⟩ (leaveS ws st) := id rfl
theorem old0 : oldS [] = [] := id rfl
theorem oldc {x : Option TV} {r : Sta} : oldS (x :: r) = oldE x :: oldS r := id rfl
theorem oldn : oldE none = none := id rfl
theorem old_i : oldE (some ⟨.frz, fr, .int i⟩) = some ⟨.frz, fr, .int i⟩ := id rfl
theorem old_b {b : Bool} : oldE (some ⟨.frz, fr, .bl b⟩) = some ⟨.frz, fr, .bl b⟩ := id rfl
theorem old_n : oldE (some ⟨.frz, fr, .non⟩) = some ⟨.frz, fr, .non⟩ := id rfl
theorem old_s {z : Str} : oldE (some ⟨.frz, fr, .str z⟩) = some ⟨.frz, fr, .str z⟩ := id rfl
theorem old_l : oldE (some ⟨.frz, fr, .lst xs⟩) = some ⟨.old, false, .lst xs⟩ := id rfl
theorem old_t : oldE (some ⟨.frz, fr, .tup xs⟩) = some ⟨.old, false, .tup xs⟩ := id rfl
theorem old_o : oldE (some ⟨.frz, fr, .obj c xs⟩) = some ⟨.old, false, .obj c xs⟩ := id rfl
theorem old_f : oldE (some ⟨.frz, fr, .fl xs⟩) = some ⟨.old, false, .fl xs⟩ := id rfl
theorem old_w : oldE (some ⟨.own, fr, .lst xs⟩) = some ⟨.old, false, .lst xs⟩ := id rfl
theorem old_d {d : D} : oldE (some ⟨.old, fr, d⟩) = some ⟨.old, fr, d⟩ := id rfl
theorem leave_e {ws : List Nat} : leaveS ws st = (wipeS st ws).map leaveE := id rfl
theorem leaven : leaveE none = none := id rfl
theorem leave_d {d : D} : leaveE (some ⟨.old, fr, d⟩) = some ⟨.frz, false, d⟩ := id rfl
theorem leave_i : leaveE (some ⟨.frz, fr, .int i⟩) = some ⟨.frz, fr, .int i⟩ := id rfl
theorem leave_b {b : Bool} : leaveE (some ⟨.frz, fr, .bl b⟩) = some ⟨.frz, fr, .bl b⟩ := id rfl
theorem leave_n : leaveE (some ⟨.frz, fr, .non⟩) = some ⟨.frz, fr, .non⟩ := id rfl
theorem leave_s {z : Str} : leaveE (some ⟨.frz, fr, .str z⟩) = some ⟨.frz, fr, .str z⟩ := id rfl
theorem leave_l : leaveE (some ⟨.frz, fr, .lst xs⟩) = none := id rfl
theorem leave_t : leaveE (some ⟨.frz, fr, .tup xs⟩) = none := id rfl
theorem leave_o : leaveE (some ⟨.frz, fr, .obj c xs⟩) = none := id rfl
theorem leave_w : leaveE (some ⟨.own, fr, .lst xs⟩) = none := id rfl
def havA1 (me : ME) (p : TV × Sta) : Res (Ctl × Sta) := (me p.2).bind fun q => havK p.1 q.2
def havA2 (t : TV) (q : TV × Sta) : Res (Ctl × Sta) := havK t q.2
theorem havA_e {mo me : ME} : mHavA mo me st = (mo st).bind (havA1 me) := id rfl
theorem havA1_e {me : ME} : havA1 me (t, st) = (me st).bind (havA2 t) := id rfl
theorem havA2_e : havA2 t (x, st) = havK t st := id rfl
theorem havK_e (h : xs.length < 16777216) : havK ⟨.frz, true, .lst xs⟩ st = .ok (.next, st) := if_pos h
def havS0 (mo mi : ME) (r : TV × Sta) : Res (Ctl × Sta) := (mo r.2).bind fun p => (mi p.2).bind fun q => havK2 p.1 q.1.d q.2
def havS1 (mi : ME) (p : TV × Sta) : Res (Ctl × Sta) := (mi p.2).bind fun q => havK2 p.1 q.1.d q.2
def havS2 (t : TV) (q : TV × Sta) : Res (Ctl × Sta) := havK2 t q.1.d q.2
theorem havS_e {mo mi me : ME} : mHavS mo mi me st = (me st).bind (havS0 mo mi) := id rfl
theorem havS0_e {mo mi : ME} : havS0 mo mi (t, st) = (mo st).bind (havS1 mi) := id rfl
theorem havS1_e {mi : ME} : havS1 mi (t, st) = (mi st).bind (havS2 t) := id rfl
theorem havS2_e : havS2 t (⟨k, fr, .int i⟩, st) = havK2 t (.int i) st := id rfl
theorem havK2_e (h0 : 0 ≤ i) (h : i < xs.length) : havK2 ⟨.frz, true, .lst xs⟩ (.int i) st = .ok (.next, st) := by
  have e : (setIx xs i .non).isSome = true := by
    unfold setIx
    rw [if_pos h0, if_pos h]
    rfl
  exact if_pos e
/-! # loops -/
theorem forI_step {f : TV → Sta → Res (Ctl × Sta)} {lo s : Int} {n : Nat} (S : Nat → Sta) (h : ∀ i < n, f ⟨.frz, true, .int (lo + (i : Int) * s)⟩ (S i) = .ok (.next, S (i + 1))) : forI f (stepD lo s n) (S 0) = .ok (.next, S n) := by
  have r := forI_idx (f := f) (stepD lo s n) S fun i hi => by
    have hi' : i < n := by simpa [stepD] using hi
    have e : (stepD lo s n)[i] = ⟨.frz, true, .int (lo + (i : Int) * s)⟩ := by simp [stepD]; rfl
    rw [e]
    exact .inl (h i hi')
  have e : (stepD lo s n).length = n := by simp [stepD]
  rw [e] at r
  exact r
theorem compI_any {g : TV → Sta → Option Sta} {e : ME} {vs : List Nat} {st : Sta} : ∀ (its : List TV) (ys : List D) (f0 : Bool) (acc : List D), ys.length = its.length → acc.length + ys.length ≤ 16777216 →
    (∀ i (h : i < its.length) (h2 : i < ys.length), ∃ f2 st1 st2, g its[i] st = some st1 ∧ e st1 = .ok (⟨.frz, f2, ys[i]⟩, st2) ∧ wipeS st2 vs = st ∧ okS st2 = true) → ∃ f1, compI g mYes e vs its st f0 acc = some (f1, acc ++ ys, st)
  | [], [], f0, acc, _, _, _ => ⟨f0, by simp [compI]⟩
  | t :: ts, y :: ys, f0, acc, hl, hs, h => by
    obtain ⟨f2, st1, st2, h1, h2, h3, h4⟩ := h 0 (by simp) (by simp)
    have h1 : g t st = some st1 := h1
    have h2 : e st1 = .ok (⟨.frz, f2, y⟩, st2) := h2
    obtain ⟨f1, r⟩ := compI_any ts ys (f0 && f2) (acc ++ [y]) (by simpa using hl) (by simp at hs ⊢; omega) fun i a b => by
      have := h (i + 1) (by simpa using a) (by simpa using b)
      simpa using this
    refine ⟨f1, ?_⟩
    unfold compI
    rw [h1]
    show (match mYes st1 with
      | .ok (false, st2) => compI g mYes e vs ts (wipeS st2 vs) f0 acc
      | .ok (true, st2) => (match e st2 with
        | .ok (⟨.frz, f2, d⟩, st3) => if acc.length < 16777216 ∧ okS st3 = true then compI g mYes e vs ts (wipeS st3 vs) (f0 && f2) (acc ++ [d]) else none
        | _ => none)
      | _ => none) = _
    have e0 : mYes st1 = .ok (true, st1) := rfl
    rw [e0]
    dsimp only
    rw [h2]
    dsimp only
    rw [if_pos ⟨by simp at hs; omega, h4⟩, h3, r]
    simp
/-- with an if: the items that are kept -/
theorem compI_if {γ : Type} {g : TV → Sta → Option Sta} {c : MT} {e : ME} {vs : List Nat} {st : Sta} {it : γ → TV} {kp : γ → Bool} {y : γ → D} : ∀ (zs : List γ) (f0 : Bool) (acc : List D), acc.length + zs.length ≤ 16777216 →
    (∀ z ∈ zs, ∃ st1, g (it z) st = some st1 ∧ (kp z = false → ∃ st2, c st1 = .ok (false, st2) ∧ wipeS st2 vs = st) ∧ (kp z = true → ∃ st2 st3, c st1 = .ok (true, st2) ∧ e st2 = .ok (⟨.frz, true, y z⟩, st3) ∧ wipeS st3 vs = st ∧ okS st3 = true)) →
    compI g c e vs (zs.map it) st f0 acc = some (f0, acc ++ (zs.filter kp).map y, st)
  | [], f0, acc, _, _ => by simp [compI]
  | z :: zs, f0, acc, hs, h => by
    obtain ⟨st1, h1, h2, h3⟩ := h z List.mem_cons_self
    have hr := fun z hz => h z (List.mem_cons_of_mem _ hz)
    rw [List.map_cons]
    unfold compI
    rw [h1]
    show (match c st1 with
      | .ok (false, st2) => compI g c e vs (zs.map it) (wipeS st2 vs) f0 acc
      | .ok (true, st2) => (match e st2 with
        | .ok (⟨.frz, f2, d⟩, st3) => if acc.length < 16777216 ∧ okS st3 = true then compI g c e vs (zs.map it) (wipeS st3 vs) (f0 && f2) (acc ++ [d]) else none
        | _ => none)
      | _ => none) = _
    cases hk : kp z with
    | false =>
      obtain ⟨st2, e2, w2⟩ := h2 hk
      rw [e2]
      dsimp only
      rw [w2, compI_if zs f0 acc (by simp at hs; omega) hr, List.filter_cons_of_neg (by rw [hk]; decide)]
    | true =>
      obtain ⟨st2, st3, e2, e3, w3, o3⟩ := h3 hk
      rw [e2]
      dsimp only
      rw [e3]
      dsimp only
      rw [if_pos ⟨by simp at hs; omega, o3⟩, w3, Bool.and_true, compI_if zs f0 (acc ++ [y z]) (by simp at hs ⊢; omega) hr, List.filter_cons_of_pos hk]
      simp
end Dl

namespace Dl
open PySem
section
variable {k k' : Kd} {fr fr' : Bool} {a b c d e : D} {xs : List D}
theorem ixt0 : fIx ⟨k, fr, .tup (a :: xs)⟩ ⟨k', fr', .int 0⟩ = some (.el fr a) := ix_t (Int.le_refl 0) rfl
theorem ixt1 : fIx ⟨k, fr, .tup (a :: b :: xs)⟩ ⟨k', fr', .int 1⟩ = some (.el fr b) := ix_t (by decide) rfl
theorem ixt2 : fIx ⟨k, fr, .tup (a :: b :: c :: xs)⟩ ⟨k', fr', .int 2⟩ = some (.el fr c) := ix_t (by decide) rfl
theorem ixt3 : fIx ⟨k, fr, .tup (a :: b :: c :: d :: xs)⟩ ⟨k', fr', .int 3⟩ = some (.el fr d) := ix_t (by decide) rfl
theorem ixl0 : fIx ⟨k, fr, .lst (a :: xs)⟩ ⟨k', fr', .int 0⟩ = some (.el fr a) := ix_l (Int.le_refl 0) rfl
theorem ixl1 : fIx ⟨k, fr, .lst (a :: b :: xs)⟩ ⟨k', fr', .int 1⟩ = some (.el fr b) := ix_l (by decide) rfl
theorem ixl2 : fIx ⟨k, fr, .lst (a :: b :: c :: xs)⟩ ⟨k', fr', .int 2⟩ = some (.el fr c) := ix_l (by decide) rfl
theorem ixl3 : fIx ⟨k, fr, .lst (a :: b :: c :: d :: xs)⟩ ⟨k', fr', .int 3⟩ = some (.el fr d) := ix_l (by decide) rfl
end
/-! ## exceptions with a field -/
section
variable {st : Sta} {k : Kd} {fr : Bool} {x f cn : Str} {ts : List TV} {d : D} {a dd : Addr} {cs : List Str} {c : Ec}
def rxK (x f : Str) (g : List D → Option (Bool × D)) (p : List TV × Sta) : Res (Ctl × Sta) := if allFrz p.1 = true ∧ p.1.length ≤ 1000 then (match g (p.1.map (·.d)) with
  | some (fr, d) => .err ⟨x, some (fr, [f], [d])⟩ p.2
  | none => .stuck) else .stuck
def rxK2 (x f : Str) (st : Sta) (o : Option (Bool × D)) : Res (Ctl × Sta) := match o with
  | some (fr, d) => .err ⟨x, some (fr, [f], [d])⟩ st
  | none => .stuck
theorem rx_e {g : List D → Option (Bool × D)} {ms : MA} : mRaiseX x f g ms st = (ms st).bind (rxK x f g) := id rfl
theorem rxK_e {g : List D → Option (Bool × D)} (h : allFrz ts = true) (h2 : ts.length ≤ 1000) : rxK x f g (ts, st) = rxK2 x f st (g (ts.map (·.d))) := if_pos ⟨h, h2⟩
theorem rxK2_e : rxK2 x f st (some (fr, d)) = .err ⟨x, some (fr, [f], [d])⟩ st := id rfl
theorem xf_e {m : ME} : mXf c a dd cs f m st = (m st).bind (xfK c a dd cs f) := id rfl
theorem xfK_e {f0 : Bool} (h : cn ∈ cs) : xfK ⟨cn, some (f0, [f], [d])⟩ a dd cs f (⟨k, fr, .xcp cn a dd [f] [d]⟩, st) = .ok (TV.el fr d, st) := by
  unfold xfK
  dsimp only
  rw [if_pos ⟨⟨rfl, rfl, rfl⟩, h⟩]
  have e : (([f] : List Str).zip [d]).lookup f = some d := by
    show ([(f, d)] : List (Str × D)).lookup f = some d
    rw [List.lookup_cons, beq_self_eq_true]
  rw [e]
  rfl
end
/-! ## comprehensions, general -/
theorem cmpF {γ : Type} {g : TV → Sta → Option Sta} {c : MT} {e : ME} {vs : List Nat} {st : Sta} {it : γ → TV} {kp : γ → Bool} {y : γ → D} : ∀ (zs : List γ) (f0 : Bool) (acc : List D), acc.length + zs.length ≤ 16777216 →
    (∀ z ∈ zs, ∃ st1, g (it z) st = some st1 ∧ (kp z = false → ∃ st2, c st1 = .ok (false, st2) ∧ wipeS st2 vs = st) ∧ (kp z = true → ∃ f2 st2 st3, c st1 = .ok (true, st2) ∧ e st2 = .ok (⟨.frz, f2, y z⟩, st3) ∧ wipeS st3 vs = st ∧ okS st3 = true)) →
    ∃ f1, compI g c e vs (zs.map it) st f0 acc = some (f1, acc ++ (zs.filter kp).map y, st)
  | [], f0, acc, _, _ => ⟨f0, by simp [compI]⟩
  | z :: zs, f0, acc, hs, h => by
    obtain ⟨st1, h1, h2, h3⟩ := h z List.mem_cons_self
    have hr := fun z hz => h z (List.mem_cons_of_mem _ hz)
    rw [List.map_cons]
    unfold compI
    rw [h1]
    show ∃ f1, (match c st1 with
      | .ok (false, st2) => compI g c e vs (zs.map it) (wipeS st2 vs) f0 acc
      | .ok (true, st2) => (match e st2 with
        | .ok (⟨.frz, f2, d⟩, st3) => if acc.length < 16777216 ∧ okS st3 = true then compI g c e vs (zs.map it) (wipeS st3 vs) (f0 && f2) (acc ++ [d]) else none
        | _ => none)
      | _ => none) = _
    cases hk : kp z with
    | false =>
      obtain ⟨st2, e2, w2⟩ := h2 hk
      obtain ⟨f1, r⟩ := cmpF zs f0 acc (by simp at hs; omega) hr
      refine ⟨f1, ?_⟩
      rw [e2]
      dsimp only
      rw [w2, r, List.filter_cons_of_neg (by rw [hk]; decide)]
    | true =>
      obtain ⟨f2, st2, st3, e2, e3, w3, o3⟩ := h3 hk
      obtain ⟨f1, r⟩ := cmpF zs (f0 && f2) (acc ++ [y z]) (by simp at hs ⊢; omega) hr
      refine ⟨f1, ?_⟩
      rw [e2]
      dsimp only
      rw [e3]
      dsimp only
      rw [if_pos ⟨by simp at hs; omega, o3⟩, w3, r, List.filter_cons_of_pos hk]
      simp
theorem cmpM {γ : Type} {g : TV → Sta → Option Sta} {e : ME} {vs : List Nat} {st : Sta} {it : γ → TV} {y : γ → D} (zs : List γ) (hl : zs.length ≤ 16777216) (hz : ∀ z ∈ zs, ∃ st1 st2, g (it z) st = some st1 ∧ e st1 = .ok (⟨.frz, true, y z⟩, st2) ∧ wipeS st2 vs = st ∧ okS st2 = true) : compI g mYes e vs (zs.map it) st true [] = some (true, zs.map y, st) := by
  have c := compI_all (g := g) (e := e) (vs := vs) (st := st) (zs.map it) (zs.map y) true [] (by rw [List.length_map, List.length_map]) (by rw [List.length_map]; simpa using hl) fun i h1 h2 => by
    have e1 : (zs.map it)[i] = it (zs[i]'(by simpa using h1)) := by simp
    have e2 : (zs.map y)[i] = y (zs[i]'(by simpa using h1)) := by simp
    rw [e1, e2]
    exact hz _ (List.getElem_mem _)
  rwa [List.nil_append] at c
theorem comp_mapA {γ : Type} {g : TV → Sta → Option Sta} {e : ME} {vs : List Nat} {st : Sta} {it : γ → TV} {y : γ → D} (zs : List γ) (hl : zs.length ≤ 16777216) (hz : ∀ z ∈ zs, ∃ f2 st1 st2, g (it z) st = some st1 ∧ e st1 = .ok (⟨.frz, f2, y z⟩, st2) ∧ wipeS st2 vs = st ∧ okS st2 = true) : ∃ f1, compI g mYes e vs (zs.map it) st true [] = some (f1, zs.map y, st) := by
  obtain ⟨f1, c⟩ := compI_any (g := g) (e := e) (vs := vs) (st := st) (zs.map it) (zs.map y) true [] (by rw [List.length_map, List.length_map]) (by rw [List.length_map]; simpa using hl) fun i h1 h2 => by
    have e1 : (zs.map it)[i] = it (zs[i]'(by simpa using h1)) := by simp
    have e2 : (zs.map y)[i] = y (zs[i]'(by simpa using h1)) := by simp
    rw [e1, e2]
    exact hz _ (List.getElem_mem _)
  rw [List.nil_append] at c
  exact ⟨f1, c⟩
end Dl

namespace Dl
open PySem
/-! # data that bears a type: equal as data when equal -/
class Enc (α : Type) [DecidableEq α] where
  enc : α → D
  dep : Nat
  pl : ∀ (a : α) (n : Nat), dep ≤ n → (enc a).plain n = true
  eq : ∀ a b : α, (enc a).eqv (enc b) = decide (a = b)
def encI (i : Int) : D := .int i
def encO : Option Int → D
  | none => .non
  | some i => .int i
instance : Enc Int where
  enc := D.int
  dep := 0
  pl := fun a n _ => by cases n <;> rfl
  eq := fun a b => by
    show (a == b) = _
    rw [Bool.eq_iff_iff]
    simp
instance : Enc Bool where
  enc := D.bl
  dep := 0
  pl := fun a n _ => by cases n <;> rfl
  eq := fun a b => by cases a <;> cases b <;> rfl
section
variable {α β : Type} [DecidableEq α] [DecidableEq β]
theorem encL_eq [Enc α] : ∀ xs ys : List α, D.eqvL (xs.map Enc.enc) (ys.map Enc.enc) = decide (xs = ys)
  | [], [] => rfl
  | [], _ :: _ => rfl
  | _ :: _, [] => rfl
  | x :: xs, y :: ys => by
    show (D.eqv (Enc.enc x) (Enc.enc y) && D.eqvL (xs.map Enc.enc) (ys.map Enc.enc)) = _
    rw [Enc.eq, encL_eq xs ys, Bool.eq_iff_iff]
    simp
instance [Enc α] : Enc (List α) where
  enc := fun xs => .lst (xs.map Enc.enc)
  dep := Enc.dep α + 1
  pl := fun xs n h => by
    cases n with
    | zero => omega
    | succ n =>
      show (xs.map Enc.enc).all (D.plain n) = true
      rw [List.all_map, List.all_eq_true]
      intro x _
      exact Enc.pl x n (by omega)
  eq := fun xs ys => encL_eq xs ys
instance [Enc α] [Enc β] : Enc (α × β) where
  enc := fun x => .tup [Enc.enc x.1, Enc.enc x.2]
  dep := max (Enc.dep α) (Enc.dep β) + 1
  pl := fun x n h => by
    cases n with
    | zero => omega
    | succ n =>
      show [Enc.enc x.1, Enc.enc x.2].all (D.plain n) = true
      simp only [List.all_cons, List.all_nil, Enc.pl x.1 n (by omega), Enc.pl x.2 n (by omega), Bool.and_self]
  eq := fun x y => by
    show (D.eqv (Enc.enc x.1) (Enc.enc y.1) && (D.eqv (Enc.enc x.2) (Enc.enc y.2) && true)) = _
    rw [Enc.eq, Enc.eq, Bool.eq_iff_iff]
    obtain ⟨a, b⟩ := x
    obtain ⟨c, d⟩ := y
    simp
variable {k k' : Kd} {fr fr' : Bool}
theorem eq_enc [Enc α] (a b : α) (h : Enc.dep α ≤ 64 := by decide) : fEq ⟨k, fr, Enc.enc a⟩ ⟨k', fr', Enc.enc b⟩ = some ⟨.frz, true, .bl (decide (a = b))⟩ := by
  show (if (Enc.enc a).plain 64 = true ∧ (Enc.enc b).plain 64 = true then some (TV.b ((Enc.enc a).eqv (Enc.enc b))) else none) = _
  rw [if_pos ⟨Enc.pl a 64 h, Enc.pl b 64 h⟩, Enc.eq]
  rfl
theorem ne_enc [Enc α] (a b : α) (h : Enc.dep α ≤ 64 := by decide) : fNe ⟨k, fr, Enc.enc a⟩ ⟨k', fr', Enc.enc b⟩ = some ⟨.frz, true, .bl (!decide (a = b))⟩ := ne_of (p := .frz) (eq_enc a b h)
theorem any_enc [Enc α] (a : α) (l : List α) {hd : Decidable (a ∈ l)} : ((l.map Enc.enc).any fun z => z.eqv (Enc.enc a)) = decide (a ∈ l) := by
  rw [List.any_map, Bool.eq_iff_iff, List.any_eq_true, decide_eq_true_iff]
  constructor
  · rintro ⟨x, hx, e⟩
    have e : (Enc.enc x).eqv (Enc.enc a) = true := e
    rw [Enc.eq] at e
    rw [← of_decide_eq_true e]
    exact hx
  · intro hx
    exact ⟨a, hx, by show (Enc.enc a).eqv (Enc.enc a) = true; rw [Enc.eq]; simp⟩
theorem in_enc [Enc α] (a : α) (l : List α) {hd : Decidable (a ∈ l)} (h : Enc.dep α ≤ 63 := by decide) : fIn ⟨k, fr, Enc.enc a⟩ ⟨k', fr', .lst (l.map Enc.enc)⟩ = some ⟨.frz, true, .bl (decide (a ∈ l))⟩ := by
  show (if (Enc.enc a).plain 63 = true ∧ (D.lst (l.map Enc.enc)).plain 64 = true then some (TV.b ((l.map Enc.enc).any fun z => z.eqv (Enc.enc a))) else none) = _
  rw [if_pos ⟨Enc.pl a 63 h, Enc.pl (α := List α) l 64 (show Enc.dep α + 1 ≤ 64 by omega)⟩, any_enc]
  rfl
theorem notIn_enc [Enc α] (a : α) (l : List α) {hd : Decidable (a ∈ l)} (h : Enc.dep α ≤ 63 := by decide) : fNotIn ⟨k, fr, Enc.enc a⟩ ⟨k', fr', .lst (l.map Enc.enc)⟩ = some ⟨.frz, true, .bl (!decide (a ∈ l))⟩ := by
  show (if (Enc.enc a).plain 63 = true ∧ (D.lst (l.map Enc.enc)).plain 64 = true then some (TV.b (!(l.map Enc.enc).any fun z => z.eqv (Enc.enc a))) else none) = _
  rw [if_pos ⟨Enc.pl a 63 h, Enc.pl (α := List α) l 64 (show Enc.dep α + 1 ≤ 64 by omega)⟩, any_enc]
  rfl
end
end Dl

namespace Dl
open PySem
section
variable {k k' : Kd} {fr fr' : Bool} {xs ys : List D} {d : D}
theorem cut_m1 : cutD xs none (some (-1)) = xs.dropLast := by
  unfold cutD
  have e : HT.sIx xs.length xs.length (some (-1)) = xs.length - 1 := by
    show (if (-1 : Int) < 0 then (-1 + (xs.length : Int)).toNat else min (-1 : Int).toNat xs.length) = _
    rw [if_pos (by decide)]
    omega
  rw [e, List.dropLast_eq_take]
  show (xs.drop 0).take (xs.length - 1 - 0) = _
  rw [List.drop_zero, Nat.sub_zero]
theorem ix_lm1 (e : xs = ys ++ [d]) : fIx ⟨k, fr, .lst xs⟩ ⟨k', fr', .int (-1)⟩ = some (.el fr d) := by
  subst e
  show (ixD (ys ++ [d]) (-1)).map (TV.el fr) = _
  unfold ixD
  rw [if_neg (by decide), if_pos (by simp; omega)]
  have e : (-1 + ((ys ++ [d]).length : Int)).toNat = ys.length := by simp; omega
  rw [e]
  simp
end
/-! ## sorted, of data that bears a type -/
section
variable {α : Type} [DecidableEq α] [Enc α] [PySem.W.DatumOrd α] {k : Kd} {fr : Bool}
theorem sorted_enc (L : List α) (hpd : ∀ a : α, (Enc.enc a).pd = PySem.W.Datum.toD a) (hk : (∀ a : α, isTup1 (Enc.enc a) = true) ∨ ∀ a : α, notNT (Enc.enc a) = true) (hd : Enc.dep α ≤ 60 := by decide) :
    fSorted ⟨k, fr, .lst (L.map Enc.enc)⟩ = some ⟨.own, fr, .lst ((L.mergeSort fun a b => !PySem.W.DatumOrd.lt b a).map Enc.enc)⟩ := by
  have ok : okSort (L.map Enc.enc) = true := by
    unfold okSort
    rw [Bool.and_eq_true_iff, Bool.and_eq_true_iff]
    refine ⟨?_, ?_, ?_⟩
    · rw [List.all_eq_true]
      intro d hd'
      obtain ⟨a, _, rfl⟩ := List.mem_map.mp hd'
      have p := Enc.pl a 60 hd
      rw [Bool.and_eq_true_iff]
      exact ⟨p, decide_eq_true (plain_pd _ 60 p).2⟩
    · rw [List.all_eq_true]
      intro d hd'
      rw [List.all_eq_true]
      intro e he'
      obtain ⟨a, _, rfl⟩ := List.mem_map.mp hd'
      obtain ⟨b, _, rfl⟩ := List.mem_map.mp he'
      rw [hpd, hpd]
      exact PySem.W.DatumOrd.alike a b
    · rw [Bool.or_eq_true_iff]
      rcases hk with h | h
      · left
        rw [List.all_eq_true]
        intro d hd'
        obtain ⟨a, _, rfl⟩ := List.mem_map.mp hd'
        exact h a
      · right
        rw [List.all_eq_true]
        intro d hd'
        obtain ⟨a, _, rfl⟩ := List.mem_map.mp hd'
        exact h a
  have e : sortD (L.map Enc.enc) = (L.mergeSort fun a b => !PySem.W.DatumOrd.lt b a).map Enc.enc := by
    unfold sortD
    refine (List.map_mergeSort (r := fun a b : α => !PySem.W.DatumOrd.lt b a) (s := PySem.W.dataLe false D.pd) (f := Enc.enc) (l := L) fun a _ b _ => ?_).symm
    rw [PySem.W.dataLe_eq]
    show (!PySem.W.DatumOrd.lt b a) = (!PySem.W.dataLt (Enc.enc b).pd (Enc.enc a).pd)
    rw [hpd, hpd, PySem.W.DatumOrd.lt_eq]
  unfold fSorted
  dsimp only
  rw [if_pos ok, e]
end
theorem pd_list {α : Type} {e : α → D} {f : α → PyData} (h : ∀ a, (e a).pd = f a) : ∀ l : List α, D.pdL (l.map e) = l.map f
  | [] => by simp only [List.map_nil, D.pdL]
  | a :: l => by
    simp only [List.map_cons, D.pdL]
    rw [h a, pd_list h l]
end Dl

namespace Ev
open PySem Dl
section
variable {st st' : Sta} {k : Kd} {fr : Bool} {xs ys : List D} {i : Int} {b : Bool} {c : Cl} {d : D} {ws : List Nat} {M1 M2 hv : MS} {m : ME} {t : TV}
def winK (M2 hv : MS) (ws : List Nat) (r : Res (Ctl × Sta)) : Res (Ctl × Sta) := match r with
  | .ok (.next, st1) => (match M2 (winS st1) with
    | .ok (.next, st2) => (match hv (hvS st2) with
      | .ok (.next, _) => .ok (.next, outS ws st2)
      | _ => .stuck)
    | .ok (.ret t, st2) => if t.k = .frz ∧ t.d.atom = true then .ok (.ret t, outS [] st2) else .stuck
    | .ok (.brk, _) => .stuck
    | .ok (.cont, _) => .stuck
    | .err ⟨n, none⟩ st2 => .err ⟨n, none⟩ (outS [] st2)
    | .err ⟨_, some _⟩ _ => .stuck
    | .stuck => .stuck)
  | _ => .stuck
def winK2 (hv : MS) (ws : List Nat) (r : Res (Ctl × Sta)) : Res (Ctl × Sta) := match r with
    | .ok (.next, st2) => (match hv (hvS st2) with
      | .ok (.next, _) => .ok (.next, outS ws st2)
      | _ => .stuck)
    | .ok (.ret t, st2) => if t.k = .frz ∧ t.d.atom = true then .ok (.ret t, outS [] st2) else .stuck
    | .ok (.brk, _) => .stuck
    | .ok (.cont, _) => .stuck
    | .err ⟨n, none⟩ st2 => .err ⟨n, none⟩ (outS [] st2)
    | .err ⟨_, some _⟩ _ => .stuck
    | .stuck => .stuck
def winK3 (ws : List Nat) (st2 : Sta) (r : Res (Ctl × Sta)) : Res (Ctl × Sta) := match r with
      | .ok (.next, _) => .ok (.next, outS ws st2)
      | _ => .stuck
theorem win_e : mWin M1 M2 hv ws st = winK M2 hv ws (M1 (oldS st)) := by
  unfold mWin winK
  rfl
theorem winK_n : winK M2 hv ws (.ok (.next, st)) = winK2 hv ws (M2 (winS st)) := id rfl
theorem winK2_n : winK2 hv ws (.ok (.next, st)) = winK3 ws st (hv (hvS st)) := id rfl
theorem winK3_n : winK3 ws st (.ok (.next, st')) = .ok (.next, outS ws st) := id rfl
theorem winK2_rb : winK2 hv ws (.ok (.ret ⟨.frz, fr, .bl b⟩, st)) = .ok (.ret ⟨.frz, fr, .bl b⟩, outS [] st) := by
  unfold winK2
  exact if_pos ⟨rfl, rfl⟩
theorem winS_e : winS st = (st.map frzE).map winE := id rfl
theorem hvS_e : hvS st = (st.map frzE).map hvE := id rfl
theorem outS_e : outS ws st = (wipeS (st.map frzE) ws).map outE := id rfl
theorem frz_n : frzE none = none := id rfl
theorem frz_f {d : D} : frzE (some ⟨.frz, fr, d⟩) = some ⟨.frz, fr, d⟩ := id rfl
theorem frz_d {d : D} : frzE (some ⟨.old, fr, d⟩) = some ⟨.old, fr, d⟩ := id rfl
theorem frz_w : frzE (some ⟨.own, fr, .lst xs⟩) = some ⟨.frz, fr, .lst xs⟩ := id rfl
theorem win_n : winE none = none := id rfl
theorem win_d {d : D} : winE (some ⟨.old, false, d⟩) = some ⟨.frz, true, d⟩ := id rfl
theorem win_0 {d : D} : winE (some ⟨.frz, false, d⟩) = some ⟨.frz, false, d⟩ := id rfl
theorem win_i : winE (some ⟨.frz, fr, .int i⟩) = some ⟨.frz, fr, .int i⟩ := by cases fr <;> rfl
theorem win_b : winE (some ⟨.frz, fr, .bl b⟩) = some ⟨.frz, fr, .bl b⟩ := by cases fr <;> rfl
theorem win_no : winE (some ⟨.frz, fr, .non⟩) = some ⟨.frz, fr, .non⟩ := by cases fr <;> rfl
theorem win_l : winE (some ⟨.frz, true, .lst xs⟩) = some ⟨.old, false, .lst xs⟩ := id rfl
theorem win_t : winE (some ⟨.frz, true, .tup xs⟩) = some ⟨.old, false, .tup xs⟩ := id rfl
theorem win_o : winE (some ⟨.frz, true, .obj c xs⟩) = some ⟨.old, false, .obj c xs⟩ := id rfl
theorem out_n : outE none = none := id rfl
theorem out_d {d : D} : outE (some ⟨.old, fr, d⟩) = none := id rfl
theorem out_i : outE (some ⟨.frz, fr, .int i⟩) = some ⟨.frz, fr, .int i⟩ := id rfl
theorem out_b : outE (some ⟨.frz, fr, .bl b⟩) = some ⟨.frz, fr, .bl b⟩ := id rfl
theorem out_no : outE (some ⟨.frz, fr, .non⟩) = some ⟨.frz, fr, .non⟩ := id rfl
theorem out_l : outE (some ⟨.frz, true, .lst xs⟩) = some ⟨.frz, false, .lst xs⟩ := id rfl
theorem out_t : outE (some ⟨.frz, true, .tup xs⟩) = some ⟨.frz, false, .tup xs⟩ := id rfl
theorem out_o : outE (some ⟨.frz, true, .obj c xs⟩) = some ⟨.frz, false, .obj c xs⟩ := id rfl
theorem out_f : outE (some ⟨.frz, true, .fl xs⟩) = some ⟨.frz, false, .fl xs⟩ := id rfl
theorem out_l0 : outE (some ⟨.frz, false, .lst xs⟩) = none := id rfl
theorem out_t0 : outE (some ⟨.frz, false, .tup xs⟩) = none := id rfl
theorem out_o0 : outE (some ⟨.frz, false, .obj c xs⟩) = none := id rfl
theorem hv_n : hvE none = none := id rfl
theorem hv_d {d : D} : hvE (some ⟨.old, false, d⟩) = some ⟨.frz, true, d⟩ := id rfl
theorem hv_i : hvE (some ⟨.frz, fr, .int i⟩) = some ⟨.frz, fr, .int i⟩ := id rfl
theorem hv_b : hvE (some ⟨.frz, fr, .bl b⟩) = some ⟨.frz, fr, .bl b⟩ := id rfl
theorem hv_no : hvE (some ⟨.frz, fr, .non⟩) = some ⟨.frz, fr, .non⟩ := id rfl
theorem hv_l : hvE (some ⟨.frz, fr, .lst xs⟩) = some ⟨.frz, false, .lst xs⟩ := id rfl
theorem hv_t : hvE (some ⟨.frz, fr, .tup xs⟩) = some ⟨.frz, false, .tup xs⟩ := id rfl
theorem hv_o : hvE (some ⟨.frz, fr, .obj c xs⟩) = some ⟨.frz, false, .obj c xs⟩ := id rfl
theorem hv_f : hvE (some ⟨.frz, fr, .fl xs⟩) = some ⟨.frz, false, .fl xs⟩ := id rfl
def frK (p : TV × Sta) : Res (TV × Sta) := .ok (frT p.1, p.2)
theorem fr_e : mFr m st = (m st).bind frK := id rfl
theorem frK_w (h : xs.all D.atom = true) : frK (⟨.own, fr, .lst xs⟩, st) = .ok (⟨.own, true, .lst xs⟩, st) := by
  unfold frK frT
  dsimp only
  rw [h, Bool.or_true]
end
end Ev

namespace Ev
open PySem Dl
section
variable {st st' : Sta} {k : Kd} {fr : Bool} {xs ys : List D} {i : Nat} {b z2 : Bool} {c : Cl} {d : D} {ws : List Nat} {M1 M2 hv Rn Rc m r : MS} {t : TV} {j : Int} {ks ks2 : List Int} {c1 c2 : Sta → Option Nat} {n n2 x i2 : Nat} {chk : D → Bool} {ec : Ec}
def wtK (M2 hv : MS) (ws : List Nat) (Rn Rc : MS) (r : Res (Ctl × Sta)) : Res (Ctl × Sta) := match r with
  | .ok (.next, st1) => (match M2 (winS st1) with
    | .ok (.next, st2) => (match hv (hvS st2) with
      | .ok (.next, _) => Rn (outS ws st2)
      | _ => .stuck)
    | .ok (.cont, st2) => Rc (outS [] st2)
    | .ok (.ret t, st2) => if t.k = .frz ∧ t.d.atom = true then .ok (.ret t, outS [] st2) else .stuck
    | .ok (.brk, _) => .stuck
    | .err ⟨n, none⟩ st2 => .err ⟨n, none⟩ (outS [] st2)
    | .err ⟨_, some _⟩ _ => .stuck
    | .stuck => .stuck)
  | .ok (.ret t, st1) => if t.k = .frz ∧ t.d.atom = true then .ok (.ret t, leaveS [] st1) else .stuck
  | .ok (.brk, _) => .stuck
  | .ok (.cont, _) => .stuck
  | .err ⟨n, none⟩ st1 => .err ⟨n, none⟩ (leaveS [] st1)
  | .err ⟨_, some _⟩ _ => .stuck
  | .stuck => .stuck
def wtK2 (hv : MS) (ws : List Nat) (Rn Rc : MS) (r : Res (Ctl × Sta)) : Res (Ctl × Sta) := match r with
    | .ok (.next, st2) => (match hv (hvS st2) with
      | .ok (.next, _) => Rn (outS ws st2)
      | _ => .stuck)
    | .ok (.cont, st2) => Rc (outS [] st2)
    | .ok (.ret t, st2) => if t.k = .frz ∧ t.d.atom = true then .ok (.ret t, outS [] st2) else .stuck
    | .ok (.brk, _) => .stuck
    | .err ⟨n, none⟩ st2 => .err ⟨n, none⟩ (outS [] st2)
    | .err ⟨_, some _⟩ _ => .stuck
    | .stuck => .stuck
def wtK3 (ws : List Nat) (Rn : MS) (st2 : Sta) (r : Res (Ctl × Sta)) : Res (Ctl × Sta) := match r with
      | .ok (.next, _) => Rn (outS ws st2)
      | _ => .stuck
theorem wt_e : mWinT M1 M2 hv ws Rn Rc st = wtK M2 hv ws Rn Rc (M1 (oldS st)) := by
  unfold mWinT wtK
  rfl
theorem wtK_n : wtK M2 hv ws Rn Rc (.ok (.next, st)) = wtK2 hv ws Rn Rc (M2 (winS st)) := id rfl
theorem wtK_rb : wtK M2 hv ws Rn Rc (.ok (.ret ⟨.frz, fr, .bl b⟩, st)) = .ok (.ret ⟨.frz, fr, .bl b⟩, leaveS [] st) := by
  unfold wtK
  exact if_pos ⟨rfl, rfl⟩
theorem wtK2_n : wtK2 hv ws Rn Rc (.ok (.next, st)) = wtK3 ws Rn st (hv (hvS st)) := id rfl
theorem wtK2_c : wtK2 hv ws Rn Rc (.ok (.cont, st)) = Rc (outS [] st) := id rfl
theorem wtK2_rb : wtK2 hv ws Rn Rc (.ok (.ret ⟨.frz, fr, .bl b⟩, st)) = .ok (.ret ⟨.frz, fr, .bl b⟩, outS [] st) := by
  unfold wtK2
  exact if_pos ⟨rfl, rfl⟩
theorem wtK3_n : wtK3 ws Rn st (.ok (.next, st')) = Rn (outS ws st) := id rfl
def sqK (r : MS) (x : Res (Ctl × Sta)) : Res (Ctl × Sta) := x.bind fun p => match p.1 with
  | .next => r p.2
  | .ret t => .ok (.ret t, p.2)
  | _ => .stuck
theorem seqN_e : mSeqN m r st = sqK r (m st) := id rfl
theorem sqK_n : sqK r (.ok (.next, st)) = r st := id rfl
theorem sqK_r : sqK r (.ok (.ret t, st)) = .ok (.ret t, st) := id rfl
theorem sqK_e : sqK r (.err ec st) = .err ec st := id rfl
/-! ### the change's check -/
def mhK (st : Sta) (r : Option Nat) : Res (Ctl × Sta) := match r with
  | some n => if n ≤ 8388608 then .ok (.next, st) else .stuck
  | none => .stuck
theorem mhv_e : mHv c1 st = mhK st (c1 st) := id rfl
theorem mhK_s (h : n ≤ 8388608) : mhK st (some n) = .ok (.next, st) := if_pos h
def slK (ks : List Int) (x : Option (Option TV)) : Option (List D) := match x with
  | some (some ⟨.frz, true, d⟩) => (match pthH d ks with
    | some (.lst xs) => some xs
    | _ => none)
  | _ => none
def slK2 (x : Option D) : Option (List D) := match x with
    | some (.lst xs) => some xs
    | _ => none
theorem slot_e (h : ws.contains i = false) : slotH ws i ks st = slK ks st[i]? := by
  unfold slotH slK
  rw [if_neg (by rw [h]; exact Bool.false_ne_true)]
  all_goals rfl
theorem slK_e {d : D} : slK ks (some (some ⟨.frz, true, d⟩)) = slK2 (pthH d ks) := id rfl
theorem slK2_e : slK2 (some (.lst xs)) = some xs := id rfl
theorem pth_nil {d : D} : pthH d [] = some d := by cases d <;> rfl
theorem pth_l {k : Int} (h0 : 0 ≤ k) (h : xs[k.toNat]? = some d) : pthH (.lst xs) (k :: ks) = pthH d ks := by
  show (if 0 ≤ k then (xs[k.toNat]?).bind fun d => pthH d ks else none) = _
  rw [if_pos h0, h]
  rfl
theorem pth_t {k : Int} (h0 : 0 ≤ k) (h : xs[k.toNat]? = some d) : pthH (.tup xs) (k :: ks) = pthH d ks := by
  show (if 0 ≤ k then (xs[k.toNat]?).bind fun d => pthH d ks else none) = _
  rw [if_pos h0, h]
  rfl
theorem slot_of (hw : ws.contains i = false) {d : D} (hs : st[i]? = some (some ⟨.frz, true, d⟩)) (hp : pthH d ks = some (.lst xs)) : slotH ws i ks st = some xs := by
  rw [slot_e hw, hs, slK_e, hp, slK2_e]
theorem capp_e (h : slotH ws i ks st = some xs) (hl : xs.length ≤ 4194304) : cApp ws i ks st = some 1 := by
  unfold cApp
  rw [h]
  exact if_pos hl
theorem cappP_e (h : slotH ws i ks st = some xs) (h2 : slotH ws i2 ks2 st = some ys) (hl : xs.length ≤ 4194304) : cAppP ws i ks i2 ks2 st = some 1 := by
  unfold cAppP
  rw [h, h2]
  exact if_pos hl
theorem cset_e {k : Int} (h : slotH ws i ks st = some xs) (h0 : 0 ≤ k) (hk : xs[k.toNat]? = some d) (hf : flatV d = true) : cSet ws i ks k st = some 0 := by
  unfold cSet
  rw [h]
  show (if 0 ≤ k then _ else none) = _
  rw [if_pos h0, hk]
  exact if_pos hf
theorem ceach_e (hx : ws.contains x = true) (hs : x < st.length) (h : slotH ws i ks st = some xs) (hd : xs.all deepV = true) (hc : xs.all chk = true) : cEach ws i ks x chk n st = some (xs.length * n) := by
  unfold cEach
  rw [if_pos ⟨hx, hs⟩, h]
  exact if_pos ⟨hd, hc⟩
theorem cseq_f (h1 : c1 st = some n) (h2 : c2 st = some n2) : cSeq c1 c2 false st = some (n + n2) := by
  unfold cSeq
  rw [h1, h2]
  exact if_neg Bool.false_ne_true
theorem cseq_t (h1 : c1 st = some 0) (h2 : c2 st = some n2) : cSeq c1 c2 true st = some n2 := by
  unfold cSeq
  rw [h1, h2]
  rfl
end
end Ev

namespace Nw
open PySem Dl
noncomputable section
def c_Field : Cl := ⟨"Field", ["prime", "modulus", "degree", "order"]⟩
def b1__law_count : MS :=
  (mKl [3] (mSet 2 (mBin fMul (mVB 2) (mVB 0))))
def m__law_count : MS :=
  (mSeq (mSet 2 (mC (.i 1)))
  (mSeq (mFor (tgName 3) (mRng1 (mAc (mBin fSub (mB (g1 fLen) (mAc (mVB 1) mA0)) (mC (.i 1))) mA0))
  b1__law_count)
  (mRet (mVM 2))))
def g__law_count : List D → Out := runD 4 m__law_count
def b1__law_digits : MS :=
  (mKl [4] (mSeq (mApp 3 (mBin fMod (mB (g1 fInt) (mAc (mVB 2) mA0)) (mVB 0)))
  (mSet 2 (mBin fDiv (mVB 2) (mVB 0)))))
def m__law_digits : MS :=
  (mSeq (mSet 3 (mLst mA0))
  (mSeq (mFor (tgName 4) (mRng1 (mAc (mVB 1) mA0))
  b1__law_digits)
  (mRet (mVM 3))))
def g__law_digits : List D → Out := runD 5 m__law_digits
def b1__law_element : MS :=
  (mKl [3] (mSet 2 (mFz (mBin fAdd (mBin fMul (mVB 2) (mVB 0)) (mBin fIx (mVB 1) (mBin fSub (mBin fSub (mB (g1 fLen) (mAc (mVB 1) mA0)) (mC (.i 1))) (mVB 3)))))))
def m__law_element : MS :=
  (mSeq (mSet 2 (mC (.i 0)))
  (mSeq (mFor (tgName 3) (mRng1 (mAc (mB (g1 fLen) (mAc (mVB 1) mA0)) mA0))
  b1__law_element)
  (mRet (mVM 2))))
def g__law_element : List D → Out := runD 4 m__law_element
def e1__law_times : ME :=
  (mBin fMod (mB (g1 fInt) (mAc (mBin fAdd (mBin fSub (mBin fIx (mVB 10) (mVB 12)) (mBin fMul (mVB 9) (mBin fIx (mVB 1) (mVB 12)))) (mBin fMul (mVB 11) (mBin fIx (mVB 5) (mVB 12)))) mA0)) (mVB 0))
def b1__law_times : MS :=
  (mKl [8, 9, 10, 11] (mSeq (mSet 9 (mBin fIx (mVB 7) (mBin fSub (mVB 4) (mC (.i 1)))))
  (mSeq (mSet 10 (mFz (mBin fAdd (mLst (mAc (mC (.i 0)) mA0)) (mSl (mVB 7) mO0 (mO1 (mBin fSub (mVB 4) (mC (.i 1))))))))
  (mSeq (mSet 11 (mBin fIx (mVB 6) (mBin fSub (mBin fSub (mVB 4) (mC (.i 1))) (mVB 8))))
  (mSet 7 (mFz (mComp (tgName 12) (mRng1 (mAc (mVB 4) mA0)) mYes e1__law_times [12])))))))
def m__law_times : MS :=
  (mSeq (mSet 4 (mBin fSub (mB (g1 fLen) (mAc (mVB 1) mA0)) (mC (.i 1))))
  (mSeq (mSet 5 (mFz (mCall g__law_digits (mAc (mVB 0) (mAc (mVB 4) (mAc (mVB 2) mA0))))))
  (mSeq (mSet 6 (mFz (mCall g__law_digits (mAc (mVB 0) (mAc (mVB 4) (mAc (mVB 3) mA0))))))
  (mSeq (mSet 7 (mFz (mBin fMul (mLst (mAc (mC (.i 0)) mA0)) (mVB 4))))
  (mSeq (mFor (tgName 8) (mRng1 (mAc (mVB 4) mA0))
  b1__law_times)
  (mRet (mCall g__law_element (mAc (mVB 0) (mAc (mVB 7) mA0)))))))))
def g__law_times : List D → Out := runD 13 m__law_times
def c1__law_trim : MT :=
  (mAnd (mT (mBin fGt (mB (g1 fLen) (mAc (mVB 1) mA0)) (mC (.i 0)))) (mT (mBin fEq (mBin fIx (mVB 1) (mUn fNeg (mC (.i 1)))) (mC (.i 0)))))
def b1__law_trim : MS :=
  (mPop 1)
def m__law_trim : MS :=
  (mSeq (mSet 1 (mFr (mB (g1 fList) (mAc (mVB 0) mA0))))
  (mSeq (mWhile fuel0 c1__law_trim
  b1__law_trim)
  (mRet (mVM 1))))
def g__law_trim : List D → Out := runD 2 m__law_trim
def b1__law_derivative : MS :=
  (mKl [4] (mApp 3 (mFz (mCall g__law_times (mAc (mVB 0) (mAc (mVB 1) (mAc (mBin fMod (mB (g1 fInt) (mAc (mVB 4) mA0)) (mVB 0)) (mAc (mBin fIx (mVB 2) (mVB 4)) mA0))))))))
def m__law_derivative : MS :=
  (mSeq (mSet 3 (mLst mA0))
  (mSeq (mFor (tgName 4) (mRng2 (mAc (mC (.i 1)) (mAc (mB (g1 fLen) (mAc (mVB 2) mA0)) mA0)))
  b1__law_derivative)
  (mRet (mCall g__law_trim (mAc (mVF 3) mA0)))))
def g__law_derivative : List D → Out := runD 5 m__law_derivative
def b1__law_is_poly : MS :=
  (mKl [2] (mIf (mOr (mNot (mT (mUn (fIsi "int") (mVB 2)))) (mOr (mT (mUn (fIsi "bool") (mVB 2))) (mOr (mT (mBin fLt (mVB 2) (mC (.i 0)))) (mT (mBin fGe (mVB 2) (mVB 1))))))
  (mRet (mC (.b false)))
  mPass))
def m__law_is_poly : MS :=
  (mSeq (mIf (mNot (mT (mUn (fIsi "list") (mVB 0))))
  (mRet (mC (.b false)))
  mPass)
  (mSeq (mFor (tgName 2) (mIt (mVB 0))
  b1__law_is_poly)
  (mRet (mTV (mOr (mT (mBin fEq (mB (g1 fLen) (mAc (mVB 0) mA0)) (mC (.i 0)))) (mT (mBin fNe (mBin fIx (mVB 0) (mUn fNeg (mC (.i 1)))) (mC (.i 0)))))))))
def g__law_is_poly : List D → Out := runD 3 m__law_is_poly
def e1__law_plus : ME :=
  (mBin fMod (mB (g1 fInt) (mAc (mBin fAdd (mBin fIx (mVB 5) (mVB 7)) (mBin fIx (mVB 6) (mVB 7))) mA0)) (mVB 0))
def m__law_plus : MS :=
  (mSeq (mSet 4 (mBin fSub (mB (g1 fLen) (mAc (mVB 1) mA0)) (mC (.i 1))))
  (mSeq (mSet 5 (mFz (mCall g__law_digits (mAc (mVB 0) (mAc (mVB 4) (mAc (mVB 2) mA0))))))
  (mSeq (mSet 6 (mFz (mCall g__law_digits (mAc (mVB 0) (mAc (mVB 4) (mAc (mVB 3) mA0))))))
  (mRet (mCall g__law_element (mAc (mVB 0) (mAc (mFz (mComp (tgName 7) (mRng1 (mAc (mVB 4) mA0)) mYes e1__law_plus [7])) mA0)))))))
def g__law_plus : List D → Out := runD 8 m__law_plus
def b1__law_value : MS :=
  (mKl [6] (mSeq (mSet 4 (mFz (mCall g__law_plus (mAc (mVB 0) (mAc (mVB 1) (mAc (mVB 4) (mAc (mFz (mCall g__law_times (mAc (mVB 0) (mAc (mVB 1) (mAc (mVB 6) (mAc (mVB 5) mA0)))))) mA0)))))))
  (mSet 5 (mFz (mCall g__law_times (mAc (mVB 0) (mAc (mVB 1) (mAc (mVB 5) (mAc (mVB 3) mA0)))))))))
def m__law_value : MS :=
  (mSeq (mSet 4 (mC (.i 0)))
  (mSeq (mSet 5 (mC (.i 1)))
  (mSeq (mFor (tgName 6) (mIt (mVB 2))
  b1__law_value)
  (mRet (mVM 4)))))
def g__law_value : List D → Out := runD 7 m__law_value
def b1_base_digits : MS :=
  (mKl [4] (mSeq (mApp 3 (mBin fMod (mVB 0) (mVB 1)))
  (mSet 0 (mBin fDiv (mVB 0) (mVB 1)))))
def m_base_digits : MS :=
  (mSeq (mSet 3 (mLst mA0))
  (mSeq (mFor (tgName 4) (mRng1 (mAc (mVB 2) mA0))
  b1_base_digits)
  (mRet (mVM 3))))
def g_base_digits : List D → Out := runD 5 m_base_digits
def m_Field_digits : MS :=
  (mRet (mCall g_base_digits (mAc (mVB 1) (mAc (mUn (fFld c_Field 0) (mVB 0)) (mAc (mUn (fFld c_Field 2) (mVB 0)) mA0)))))
def g_Field_digits : List D → Out := runD 2 m_Field_digits
def b1_Field_element : MS :=
  (mKl [3] (mSet 2 (mFz (mBin fAdd (mBin fMul (mVB 2) (mUn (fFld c_Field 0) (mVB 0))) (mVB 3)))))
def m_Field_element : MS :=
  (mSeq (mSet 2 (mC (.i 0)))
  (mSeq (mFor (tgName 3) (mRevIt (mVB 1))
  b1_Field_element)
  (mRet (mVM 2))))
def g_Field_element : List D → Out := runD 4 m_Field_element
def e1_Field_plus : ME :=
  (mBin fMod (mBin fAdd (mBin fIx (mVB 3) (mVB 5)) (mBin fIx (mVB 4) (mVB 5))) (mUn (fFld c_Field 0) (mVB 0)))
def m_Field_plus : MS :=
  (mSeq (mIf (mT (mBin fEq (mUn (fFld c_Field 2) (mVB 0)) (mC (.i 1))))
  (mRet (mBin fMod (mBin fAdd (mVB 1) (mVB 2)) (mUn (fFld c_Field 0) (mVB 0))))
  mPass)
  (mSeq (mSet 3 (mFz (mMeth g_Field_digits c_Field (mVB 0) (mAc (mVB 1) mA0))))
  (mSeq (mSet 4 (mFz (mMeth g_Field_digits c_Field (mVB 0) (mAc (mVB 2) mA0))))
  (mRet (mMeth g_Field_element c_Field (mVB 0) (mAc (mFz (mComp (tgName 5) (mRng1 (mAc (mUn (fFld c_Field 2) (mVB 0)) mA0)) mYes e1_Field_plus [5])) mA0))))))
def g_Field_plus : List D → Out := runD 6 m_Field_plus
def m_coefficient : MS :=
  (mSeq (mIf (mT (mBin fLt (mVB 1) (mB (g1 fLen) (mAc (mVB 0) mA0))))
  (mRet (mBin fIx (mVB 0) (mVB 1)))
  mPass)
  (mRet (mC (.i 0))))
def g_coefficient : List D → Out := runD 2 m_coefficient
def c1_poly_trim : MT :=
  (mAnd (mT (mBin fGt (mB (g1 fLen) (mAc (mVB 1) mA0)) (mC (.i 0)))) (mT (mBin fEq (mBin fIx (mVB 1) (mUn fNeg (mC (.i 1)))) (mC (.i 0)))))
def b1_poly_trim : MS :=
  (mPop 1)
def m_poly_trim : MS :=
  (mSeq (mSet 1 (mFr (mB (g1 fList) (mAc (mVB 0) mA0))))
  (mSeq (mWhile fuel0 c1_poly_trim
  b1_poly_trim)
  (mRet (mVM 1))))
def g_poly_trim : List D → Out := runD 2 m_poly_trim
def e1_poly_add : ME :=
  (mFz (mMeth g_Field_plus c_Field (mVB 0) (mAc (mFz (mCall g_coefficient (mAc (mVB 1) (mAc (mVB 4) mA0)))) (mAc (mFz (mCall g_coefficient (mAc (mVB 2) (mAc (mVB 4) mA0)))) mA0))))
def m_poly_add : MS :=
  (mSeq (mSet 3 (mB (g2 fMax) (mAc (mB (g1 fLen) (mAc (mVB 1) mA0)) (mAc (mB (g1 fLen) (mAc (mVB 2) mA0)) mA0))))
  (mRet (mCall g_poly_trim (mAc (mFz (mComp (tgName 4) (mRng1 (mAc (mVB 3) mA0)) mYes e1_poly_add [4])) mA0))))
def g_poly_add : List D → Out := runD 5 m_poly_add
def b1_integer_remainder : MS :=
  (mKl [7] (mSetIx 4 (mBin fAdd (mVB 6) (mVB 7)) (mBin fMod (mBin fSub (mBin fIx (mVB 4) (mBin fAdd (mVB 6) (mVB 7))) (mBin fMul (mVB 5) (mBin fIx (mVB 2) (mVB 7)))) (mVB 0))))
def c1_integer_remainder : MT :=
  (mT (mBin fGt (mB (g1 fLen) (mAc (mVB 4) mA0)) (mVB 3)))
def b2_integer_remainder : MS :=
  (mKl [5, 6, 7] (mSeq (mSet 5 (mBin fIx (mVB 4) (mUn fNeg (mC (.i 1)))))
  (mSeq (mSet 6 (mBin fSub (mBin fSub (mB (g1 fLen) (mAc (mVB 4) mA0)) (mC (.i 1))) (mVB 3)))
  (mSeq (mFor (tgName 7) (mRng1 (mAc (mBin fAdd (mVB 3) (mC (.i 1))) mA0))
  b1_integer_remainder)
  (mPop 4)))))
def m_integer_remainder : MS :=
  (mSeq (mSet 3 (mBin fSub (mB (g1 fLen) (mAc (mVB 2) mA0)) (mC (.i 1))))
  (mSeq (mSet 4 (mB (g1 fList) (mAc (mVB 1) mA0)))
  (mSeq (mWhile fuel0 c1_integer_remainder
  b2_integer_remainder)
  (mRet (mVM 4)))))
def g_integer_remainder : List D → Out := runD 8 m_integer_remainder
def b1_Field_times : MS :=
  (mKl [7] (mSetIx 5 (mBin fAdd (mVB 6) (mVB 7)) (mBin fMod (mBin fAdd (mBin fIx (mVB 5) (mBin fAdd (mVB 6) (mVB 7))) (mBin fMul (mBin fIx (mVB 3) (mVB 6)) (mBin fIx (mVB 4) (mVB 7)))) (mUn (fFld c_Field 0) (mVB 0)))))
def b2_Field_times : MS :=
  (mKl [6, 7] (mFor (tgName 7) (mRng1 (mAc (mUn (fFld c_Field 2) (mVB 0)) mA0))
  b1_Field_times))
def m_Field_times : MS :=
  (mSeq (mIf (mT (mBin fEq (mUn (fFld c_Field 2) (mVB 0)) (mC (.i 1))))
  (mRet (mBin fMod (mBin fMul (mVB 1) (mVB 2)) (mUn (fFld c_Field 0) (mVB 0))))
  mPass)
  (mSeq (mSet 3 (mFz (mMeth g_Field_digits c_Field (mVB 0) (mAc (mVB 1) mA0))))
  (mSeq (mSet 4 (mFz (mMeth g_Field_digits c_Field (mVB 0) (mAc (mVB 2) mA0))))
  (mSeq (mSet 5 (mBin fMul (mLst (mAc (mC (.i 0)) mA0)) (mBin fSub (mBin fMul (mC (.i 2)) (mUn (fFld c_Field 2) (mVB 0))) (mC (.i 1)))))
  (mSeq (mFor (tgName 6) (mRng1 (mAc (mUn (fFld c_Field 2) (mVB 0)) mA0))
  b2_Field_times)
  (mRet (mMeth g_Field_element c_Field (mVB 0) (mAc (mFz (mCall g_integer_remainder (mAc (mUn (fFld c_Field 0) (mVB 0)) (mAc (mVF 5) (mAc (mUn (fFld c_Field 1) (mVB 0)) mA0))))) mA0))))))))
def g_Field_times : List D → Out := runD 8 m_Field_times
def e1_poly_derivative : ME :=
  (mFz (mMeth g_Field_times c_Field (mVB 0) (mAc (mBin fMod (mVB 2) (mUn (fFld c_Field 0) (mVB 0))) (mAc (mBin fIx (mVB 1) (mVB 2)) mA0))))
def m_poly_derivative : MS :=
  (mRet (mCall g_poly_trim (mAc (mFz (mComp (tgName 2) (mRng2 (mAc (mC (.i 1)) (mAc (mB (g1 fLen) (mAc (mVB 1) mA0)) mA0))) mYes e1_poly_derivative [2])) mA0)))
def g_poly_derivative : List D → Out := runD 3 m_poly_derivative
def b1_poly_evaluate : MS :=
  (mKl [4] (mSet 3 (mFz (mMeth g_Field_plus c_Field (mVB 0) (mAc (mFz (mMeth g_Field_times c_Field (mVB 0) (mAc (mVB 3) (mAc (mVB 2) mA0)))) (mAc (mVB 4) mA0))))))
def m_poly_evaluate : MS :=
  (mSeq (mSet 3 (mC (.i 0)))
  (mSeq (mFor (tgName 4) (mRevIt (mVB 1))
  b1_poly_evaluate)
  (mRet (mVM 3))))
def g_poly_evaluate : List D → Out := runD 5 m_poly_evaluate
def b1_poly_multiply : MS :=
  (mKl [5] (mSetIx 3 (mBin fAdd (mVB 4) (mVB 5)) (mFz (mMeth g_Field_plus c_Field (mVB 0) (mAc (mBin fIx (mVB 3) (mBin fAdd (mVB 4) (mVB 5))) (mAc (mFz (mMeth g_Field_times c_Field (mVB 0) (mAc (mBin fIx (mVB 1) (mVB 4)) (mAc (mBin fIx (mVB 2) (mVB 5)) mA0)))) mA0))))))
def b2_poly_multiply : MS :=
  (mKl [4, 5] (mFor (tgName 5) (mRng1 (mAc (mB (g1 fLen) (mAc (mVB 2) mA0)) mA0))
  b1_poly_multiply))
def m_poly_multiply : MS :=
  (mSeq (mIf (mOr (mT (mBin fEq (mB (g1 fLen) (mAc (mVB 1) mA0)) (mC (.i 0)))) (mT (mBin fEq (mB (g1 fLen) (mAc (mVB 2) mA0)) (mC (.i 0)))))
  (mRet (mLst mA0))
  mPass)
  (mSeq (mSet 3 (mBin fMul (mLst (mAc (mC (.i 0)) mA0)) (mBin fSub (mBin fAdd (mB (g1 fLen) (mAc (mVB 1) mA0)) (mB (g1 fLen) (mAc (mVB 2) mA0))) (mC (.i 1)))))
  (mSeq (mFor (tgName 4) (mRng1 (mAc (mB (g1 fLen) (mAc (mVB 1) mA0)) mA0))
  b2_poly_multiply)
  (mRet (mCall g_poly_trim (mAc (mVF 3) mA0))))))
def g_poly_multiply : List D → Out := runD 6 m_poly_multiply
def e1__law_deep : ME :=
  (mFz (mCall g_poly_evaluate (mAc (mVB 0) (mAc (mVB 12) (mAc (mVB 4) mA0)))))
def m__law_deep : MS :=
  (mSeq (mAsg (tgTup [5, 6, 7]) (mVB 1))
  (mSeq (mSet 8 (mFz (mComp (tgName 12) (mIt (mFz (mLst (mAc (mVB 2) (mAc (mVB 3) (mAc (mFz (mCall g_poly_multiply (mAc (mVB 0) (mAc (mVB 2) (mAc (mVB 3) mA0))))) mA0)))))) mYes e1__law_deep [12])))
  (mSeq (mIf (mT (mBin fNe (mSl (mVB 8) mO0 (mO1 (mC (.i 2)))) (mLst (mAc (mFz (mCall g__law_value (mAc (mVB 5) (mAc (mVB 6) (mAc (mVB 2) (mAc (mVB 4) mA0)))))) (mAc (mFz (mCall g__law_value (mAc (mVB 5) (mAc (mVB 6) (mAc (mVB 3) (mAc (mVB 4) mA0)))))) mA0)))))
  (mRet (mC (.b false)))
  mPass)
  (mSeq (mIf (mOr (mT (mUn (fIsi "bool") (mBin fIx (mVB 8) (mC (.i 2))))) (mT (mBin fNe (mBin fIx (mVB 8) (mC (.i 2))) (mCall g__law_times (mAc (mVB 5) (mAc (mVB 6) (mAc (mBin fIx (mVB 8) (mC (.i 0))) (mAc (mBin fIx (mVB 8) (mC (.i 1))) mA0))))))))
  (mRet (mC (.b false)))
  mPass)
  (mSeq (mSet 9 (mFz (mCall g_poly_derivative (mAc (mVB 0) (mAc (mVB 2) mA0)))))
  (mSeq (mSet 10 (mFz (mCall g_poly_derivative (mAc (mVB 0) (mAc (mVB 3) mA0)))))
  (mSeq (mIf (mOr (mNot (mT (mCall g__law_is_poly (mAc (mVB 9) (mAc (mVB 7) mA0))))) (mNot (mT (mCall g__law_is_poly (mAc (mVB 10) (mAc (mVB 7) mA0))))))
  (mRet (mC (.b false)))
  mPass)
  (mSeq (mIf (mOr (mT (mBin fNe (mVB 9) (mCall g__law_derivative (mAc (mVB 5) (mAc (mVB 6) (mAc (mVB 2) mA0)))))) (mT (mBin fNe (mVB 10) (mCall g__law_derivative (mAc (mVB 5) (mAc (mVB 6) (mAc (mVB 3) mA0)))))))
  (mRet (mC (.b false)))
  mPass)
  (mSeq (mSet 11 (mFz (mCall g_poly_add (mAc (mVB 0) (mAc (mFz (mCall g_poly_multiply (mAc (mVB 0) (mAc (mVB 9) (mAc (mVB 3) mA0))))) (mAc (mFz (mCall g_poly_multiply (mAc (mVB 0) (mAc (mVB 2) (mAc (mVB 10) mA0))))) mA0))))))
  (mRet (mBin fEq (mCall g_poly_derivative (mAc (mVB 0) (mAc (mFz (mCall g_poly_multiply (mAc (mVB 0) (mAc (mVB 2) (mAc (mVB 3) mA0))))) mA0))) (mVB 11))))))))))))
def g__law_deep : List D → Out := runD 13 m__law_deep
def m__law_field : MS :=
  (mSeq (mSet 1 (mFz (mLst (mAc (mTup (mAc (mC (.i 2)) (mAc (mTup (mAc (mC (.i 0)) (mAc (mC (.i 1)) mA0))) mA0))) (mAc (mTup (mAc (mC (.i 3)) (mAc (mTup (mAc (mC (.i 0)) (mAc (mC (.i 1)) mA0))) mA0))) (mAc (mTup (mAc (mC (.i 2)) (mAc (mTup (mAc (mC (.i 1)) (mAc (mC (.i 1)) (mAc (mC (.i 1)) mA0)))) mA0))) (mAc (mTup (mAc (mC (.i 5)) (mAc (mTup (mAc (mC (.i 0)) (mAc (mC (.i 1)) mA0))) mA0))) (mAc (mTup (mAc (mC (.i 3)) (mAc (mTup (mAc (mC (.i 1)) (mAc (mC (.i 0)) (mAc (mC (.i 1)) mA0)))) mA0))) (mAc (mTup (mAc (mC (.i 2)) (mAc (mTup (mAc (mC (.i 1)) (mAc (mC (.i 1)) (mAc (mC (.i 0)) (mAc (mC (.i 1)) mA0))))) mA0))) (mAc (mTup (mAc (mC (.i 7)) (mAc (mTup (mAc (mC (.i 0)) (mAc (mC (.i 1)) mA0))) mA0))) mA0))))))))))
  (mSeq (mSet 1 (mFz (mBin fAdd (mVB 1) (mLst (mAc (mTup (mAc (mC (.i 2)) (mAc (mTup (mAc (mC (.i 1)) (mAc (mC (.i 0)) (mAc (mC (.i 1)) (mAc (mC (.i 1)) mA0))))) mA0))) (mAc (mTup (mAc (mC (.i 3)) (mAc (mTup (mAc (mC (.i 2)) (mAc (mC (.i 1)) (mAc (mC (.i 1)) mA0)))) mA0))) (mAc (mTup (mAc (mC (.i 2)) (mAc (mTup (mAc (mC (.i 1)) (mAc (mC (.i 1)) (mAc (mC (.i 0)) (mAc (mC (.i 0)) (mAc (mC (.i 1)) mA0)))))) mA0))) (mAc (mTup (mAc (mC (.i 2)) (mAc (mTup (mAc (mC (.i 1)) (mAc (mC (.i 1)) (mAc (mC (.i 1)) (mAc (mC (.i 1)) (mAc (mC (.i 1)) mA0)))))) mA0))) (mAc (mTup (mAc (mC (.i 5)) (mAc (mTup (mAc (mC (.i 2)) (mAc (mC (.i 0)) (mAc (mC (.i 1)) mA0)))) mA0))) mA0)))))))))
  (mSeq (mSet 1 (mFz (mBin fAdd (mVB 1) (mLst (mAc (mTup (mAc (mC (.i 3)) (mAc (mTup (mAc (mC (.i 2)) (mAc (mC (.i 2)) (mAc (mC (.i 1)) mA0)))) mA0))) (mAc (mTup (mAc (mC (.i 11)) (mAc (mTup (mAc (mC (.i 0)) (mAc (mC (.i 1)) mA0))) mA0))) (mAc (mTup (mAc (mC (.i 7)) (mAc (mTup (mAc (mC (.i 1)) (mAc (mC (.i 0)) (mAc (mC (.i 1)) mA0)))) mA0))) (mAc (mTup (mAc (mC (.i 3)) (mAc (mTup (mAc (mC (.i 1)) (mAc (mC (.i 2)) (mAc (mC (.i 0)) (mAc (mC (.i 1)) mA0))))) mA0))) (mAc (mTup (mAc (mC (.i 2)) (mAc (mTup (mAc (mC (.i 1)) (mAc (mC (.i 0)) (mAc (mC (.i 1)) (mAc (mC (.i 0)) (mAc (mC (.i 0)) (mAc (mC (.i 1)) mA0))))))) mA0))) mA0)))))))))
  (mSeq (mSet 1 (mFz (mBin fAdd (mVB 1) (mLst (mAc (mTup (mAc (mC (.i 13)) (mAc (mTup (mAc (mC (.i 5)) (mAc (mC (.i 1)) mA0))) mA0))) (mAc (mTup (mAc (mC (.i 31)) (mAc (mTup (mAc (mC (.i 0)) (mAc (mC (.i 1)) mA0))) mA0))) (mAc (mTup (mAc (mC (.i 3)) (mAc (mTup (mAc (mC (.i 1)) (mAc (mC (.i 1)) mA0))) mA0))) mA0)))))))
  (mRet (mBin fIx (mVB 1) (mBin fMod (mB (g1 fInt) (mAc (mVB 0) mA0)) (mB (g1 fLen) (mAc (mVB 1) mA0)))))))))
def g__law_field : List D → Out := runD 2 m__law_field
def b1__law_row : MS :=
  (mKl [5] (mSeq (mSet 4 (mBin fMod (mB (g1 fInt) (mAc (mBin fAdd (mBin fMul (mBin fAdd (mVB 4) (mC (.i 1))) (mC (.i 48271))) (mBin fMul (mC (.i 69621)) (mVB 5))) mA0)) (mC (.i 2147483647))))
  (mIf (mT (mBin fGt (mVB 3) (mC (.i 0))))
  (mSeq (mApp 2 (mBin fMod (mB (g1 fInt) (mAc (mVB 3) mA0)) (mC (.i 1009))))
  (mSet 3 (mBin fDiv (mVB 3) (mC (.i 1009)))))
  (mApp 2 (mBin fMod (mB (g1 fInt) (mAc (mBin fDiv (mVB 4) (mC (.i 2048))) mA0)) (mC (.i 1009)))))))
def m__law_row : MS :=
  (mSeq (mSet 2 (mLst mA0))
  (mSeq (mSet 3 (mC (.i 0)))
  (mSeq (mIf (mT (mBin fGe (mB (g1 fAbs) (mAc (mVB 0) mA0)) (mBin fPow (mC (.i 10)) (mC (.i 18)))))
  (mSet 3 (mB (g1 fAbs) (mAc (mVB 0) mA0)))
  mPass)
  (mSeq (mSet 4 (mBin fMod (mB (g1 fInt) (mAc (mB (g1 fAbs) (mAc (mVB 0) mA0)) mA0)) (mC (.i 2147483647))))
  (mSeq (mFor (tgName 5) (mRng1 (mAc (mVB 1) mA0))
  b1__law_row)
  (mRet (mVM 2)))))))
def g__law_row : List D → Out := runD 6 m__law_row
def b1__law_numbers : MS :=
  (mKl [6] (mApp 4 (mVB 6)))
def b2__law_numbers : MS :=
  (mKl [5, 6] (mFor (tgName 6) (mIt (mFz (mCall g__law_row (mAc (mVB 5) (mAc (mVB 3) mA0)))))
  b1__law_numbers))
def c1__law_numbers : MT :=
  (mT (mBin fLt (mB (g1 fLen) (mAc (mVB 4) mA0)) (mVB 1)))
def b3__law_numbers : MS :=
  (mApp 4 (mC (.i 0)))
def m__law_numbers : MS :=
  (mSeq (mSet 2 (mFz (mSl (mVB 0) mO0 (mO1 (mC (.i 63))))))
  (mSeq (mSet 3 (mBin fAdd (mC (.i 1)) (mBin fDiv (mVB 1) (mB (g2 fMax) (mAc (mC (.i 1)) (mAc (mB (g1 fLen) (mAc (mVB 2) mA0)) mA0))))))
  (mSeq (mSet 4 (mLst mA0))
  (mSeq (mFor (tgName 5) (mIt (mVB 2))
  b2__law_numbers)
  (mSeq (mWhile fuel0 c1__law_numbers
  b3__law_numbers)
  (mRet (mSl (mVB 4) mO0 (mO1 (mVB 1)))))))))
def g__law_numbers : List D → Out := runD 7 m__law_numbers
def e1__law_minus : ME :=
  (mBin fMod (mB (g1 fInt) (mAc (mBin fSub (mBin fIx (mVB 5) (mVB 7)) (mBin fIx (mVB 6) (mVB 7))) mA0)) (mVB 0))
def m__law_minus : MS :=
  (mSeq (mSet 4 (mBin fSub (mB (g1 fLen) (mAc (mVB 1) mA0)) (mC (.i 1))))
  (mSeq (mSet 5 (mFz (mCall g__law_digits (mAc (mVB 0) (mAc (mVB 4) (mAc (mVB 2) mA0))))))
  (mSeq (mSet 6 (mFz (mCall g__law_digits (mAc (mVB 0) (mAc (mVB 4) (mAc (mVB 3) mA0))))))
  (mRet (mCall g__law_element (mAc (mVB 0) (mAc (mFz (mComp (tgName 7) (mRng1 (mAc (mVB 4) mA0)) mYes e1__law_minus [7])) mA0)))))))
def g__law_minus : List D → Out := runD 8 m__law_minus
def e1__law_poly_minus : ME :=
  (mFz (mCall g__law_minus (mAc (mVB 0) (mAc (mVB 1) (mAc (mBin fIx (mVB 5) (mVB 7)) (mAc (mBin fIx (mVB 6) (mVB 7)) mA0))))))
def m__law_poly_minus : MS :=
  (mSeq (mSet 4 (mB (g2 fMax) (mAc (mB (g1 fLen) (mAc (mVB 2) mA0)) (mAc (mB (g1 fLen) (mAc (mVB 3) mA0)) mA0))))
  (mSeq (mSet 5 (mFz (mBin fAdd (mB (g1 fList) (mAc (mVB 2) mA0)) (mBin fMul (mLst (mAc (mC (.i 0)) mA0)) (mBin fSub (mVB 4) (mB (g1 fLen) (mAc (mVB 2) mA0)))))))
  (mSeq (mSet 6 (mFz (mBin fAdd (mB (g1 fList) (mAc (mVB 3) mA0)) (mBin fMul (mLst (mAc (mC (.i 0)) mA0)) (mBin fSub (mVB 4) (mB (g1 fLen) (mAc (mVB 3) mA0)))))))
  (mRet (mCall g__law_trim (mAc (mFz (mComp (tgName 7) (mRng1 (mAc (mVB 4) mA0)) mYes e1__law_poly_minus [7])) mA0))))))
def g__law_poly_minus : List D → Out := runD 8 m__law_poly_minus
def b1__law_poly_times : MS :=
  (mKl [6] (mSetIx 4 (mBin fAdd (mVB 5) (mVB 6)) (mFz (mCall g__law_plus (mAc (mVB 0) (mAc (mVB 1) (mAc (mBin fIx (mVB 4) (mBin fAdd (mVB 5) (mVB 6))) (mAc (mFz (mCall g__law_times (mAc (mVB 0) (mAc (mVB 1) (mAc (mBin fIx (mVB 2) (mVB 5)) (mAc (mBin fIx (mVB 3) (mVB 6)) mA0)))))) mA0))))))))
def b2__law_poly_times : MS :=
  (mKl [5, 6] (mFor (tgName 6) (mRng1 (mAc (mB (g1 fLen) (mAc (mVB 3) mA0)) mA0))
  b1__law_poly_times))
def m__law_poly_times : MS :=
  (mSeq (mIf (mOr (mT (mBin fEq (mB (g1 fLen) (mAc (mVB 2) mA0)) (mC (.i 0)))) (mT (mBin fEq (mB (g1 fLen) (mAc (mVB 3) mA0)) (mC (.i 0)))))
  (mRet (mLst mA0))
  mPass)
  (mSeq (mSet 4 (mBin fMul (mLst (mAc (mC (.i 0)) mA0)) (mBin fSub (mBin fAdd (mB (g1 fLen) (mAc (mVB 2) mA0)) (mB (g1 fLen) (mAc (mVB 3) mA0))) (mC (.i 1)))))
  (mSeq (mFor (tgName 5) (mRng1 (mAc (mB (g1 fLen) (mAc (mVB 2) mA0)) mA0))
  b2__law_poly_times)
  (mRet (mCall g__law_trim (mAc (mVF 4) mA0))))))
def g__law_poly_times : List D → Out := runD 7 m__law_poly_times
def e1_poly_scale : ME :=
  (mFz (mMeth g_Field_times c_Field (mVB 0) (mAc (mVB 3) (mAc (mVB 2) mA0))))
def m_poly_scale : MS :=
  (mRet (mCall g_poly_trim (mAc (mFz (mComp (tgName 3) (mIt (mVB 1)) mYes e1_poly_scale [3])) mA0)))
def g_poly_scale : List D → Out := runD 4 m_poly_scale
def e1_Field_negative : ME :=
  (mBin fMod (mBin fSub (mC (.i 0)) (mVB 2)) (mUn (fFld c_Field 0) (mVB 0)))
def m_Field_negative : MS :=
  (mRet (mMeth g_Field_element c_Field (mVB 0) (mAc (mFz (mComp (tgName 2) (mIt (mFz (mMeth g_Field_digits c_Field (mVB 0) (mAc (mVB 1) mA0)))) mYes e1_Field_negative [2])) mA0)))
def g_Field_negative : List D → Out := runD 3 m_Field_negative
def m_Field_minus : MS :=
  (mRet (mMeth g_Field_plus c_Field (mVB 0) (mAc (mVB 1) (mAc (mFz (mMeth g_Field_negative c_Field (mVB 0) (mAc (mVB 2) mA0))) mA0))))
def g_Field_minus : List D → Out := runD 3 m_Field_minus
def e1_poly_subtract : ME :=
  (mFz (mMeth g_Field_minus c_Field (mVB 0) (mAc (mFz (mCall g_coefficient (mAc (mVB 1) (mAc (mVB 4) mA0)))) (mAc (mFz (mCall g_coefficient (mAc (mVB 2) (mAc (mVB 4) mA0)))) mA0))))
def m_poly_subtract : MS :=
  (mSeq (mSet 3 (mB (g2 fMax) (mAc (mB (g1 fLen) (mAc (mVB 1) mA0)) (mAc (mB (g1 fLen) (mAc (mVB 2) mA0)) mA0))))
  (mRet (mCall g_poly_trim (mAc (mFz (mComp (tgName 4) (mRng1 (mAc (mVB 3) mA0)) mYes e1_poly_subtract [4])) mA0))))
def g_poly_subtract : List D → Out := runD 5 m_poly_subtract
def b1__law_plain : MS :=
  (mKl [13] (mIf (mNot (mT (mCall g__law_is_poly (mAc (mVB 13) (mAc (mVB 7) mA0)))))
  (mRet (mC (.b false)))
  mPass))
def m__law_plain : MS :=
  (mSeq (mAsg (tgTup [5, 6, 7]) (mVB 1))
  (mSeq (mSet 8 (mFz (mCall g__law_poly_minus (mAc (mVB 5) (mAc (mVB 6) (mAc (mFz (mLst mA0)) (mAc (mVB 3) mA0)))))))
  (mSeq (mSet 9 (mFz (mCall g_poly_add (mAc (mVB 0) (mAc (mVB 2) (mAc (mVB 3) mA0))))))
  (mSeq (mSet 10 (mFz (mCall g_poly_subtract (mAc (mVB 0) (mAc (mVB 2) (mAc (mVB 3) mA0))))))
  (mSeq (mSet 11 (mFz (mCall g_poly_scale (mAc (mVB 0) (mAc (mVB 2) (mAc (mVB 4) mA0))))))
  (mSeq (mSet 12 (mFz (mCall g_poly_multiply (mAc (mVB 0) (mAc (mVB 2) (mAc (mVB 3) mA0))))))
  (mSeq (mFor (tgName 13) (mIt (mFz (mLst (mAc (mVB 9) (mAc (mVB 10) (mAc (mVB 11) (mAc (mVB 12) mA0)))))))
  b1__law_plain)
  (mSeq (mIf (mOr (mT (mBin fNe (mVB 9) (mCall g__law_poly_minus (mAc (mVB 5) (mAc (mVB 6) (mAc (mVB 2) (mAc (mVB 8) mA0))))))) (mT (mBin fNe (mVB 10) (mCall g__law_poly_minus (mAc (mVB 5) (mAc (mVB 6) (mAc (mVB 2) (mAc (mVB 3) mA0))))))))
  (mRet (mC (.b false)))
  mPass)
  (mSeq (mIf (mT (mBin fNe (mVB 11) (mCall g__law_poly_times (mAc (mVB 5) (mAc (mVB 6) (mAc (mVB 2) (mAc (mFz (mCall g__law_trim (mAc (mFz (mLst (mAc (mVB 4) mA0))) mA0))) mA0)))))))
  (mRet (mC (.b false)))
  mPass)
  (mRet (mBin fEq (mVB 12) (mCall g__law_poly_times (mAc (mVB 5) (mAc (mVB 6) (mAc (mVB 2) (mAc (mVB 3) mA0))))))))))))))))
def g__law_plain : List D → Out := runD 14 m__law_plain
def e1__law_poly : ME :=
  (mBin fMod (mB (g1 fInt) (mAc (mBin fIx (mVB 0) (mBin fAdd (mVB 1) (mVB 4))) mA0)) (mVB 3))
def m__law_poly : MS :=
  (mRet (mCall g__law_trim (mAc (mFz (mComp (tgName 4) (mRng1 (mAc (mVB 2) mA0)) mYes e1__law_poly [4])) mA0)))
def g__law_poly : List D → Out := runD 5 m__law_poly
def m_degree_of : MS :=
  (mRet (mBin fSub (mB (g1 fLen) (mAc (mVB 0) mA0)) (mC (.i 1))))
def g_degree_of : List D → Out := runD 1 m_degree_of
def b1_int_power : MS :=
  (mKl [3] (mSet 2 (mBin fMul (mVB 2) (mVB 0))))
def m_int_power : MS :=
  (mSeq (mSet 2 (mC (.i 1)))
  (mSeq (mFor (tgName 3) (mRng1 (mAc (mVB 1) mA0))
  b1_int_power)
  (mRet (mVM 2))))
def g_int_power : List D → Out := runD 4 m_int_power
def b1_is_irreducible : MS :=
  (mKl [3, 4, 5] (mSeq (mSet 4 (mFz (mBin fAdd (mCall g_base_digits (mAc (mVB 3) (mAc (mVB 0) (mAc (mVB 2) mA0)))) (mLst (mAc (mC (.i 1)) mA0)))))
  (mSeq (mSet 5 (mFz (mCall g_integer_remainder (mAc (mVB 0) (mAc (mVB 1) (mAc (mVB 4) mA0))))))
  (mIf (mT (mBin fEq (mVB 5) (mBin fMul (mLst (mAc (mC (.i 0)) mA0)) (mVB 2))))
  (mRet (mC (.b false)))
  mPass))))
def b2_is_irreducible : MS :=
  (mKl [2, 3, 4, 5] (mFor (tgName 3) (mRng1 (mAc (mCall g_int_power (mAc (mVB 0) (mAc (mVB 2) mA0))) mA0))
  b1_is_irreducible))
def m_is_irreducible : MS :=
  (mSeq (mFor (tgName 2) (mRng2 (mAc (mC (.i 1)) (mAc (mBin fSub (mB (g1 fLen) (mAc (mVB 1) mA0)) (mC (.i 1))) mA0)))
  b2_is_irreducible)
  (mRet (mC (.b true))))
def g_is_irreducible : List D → Out := runD 6 m_is_irreducible
def b1_is_modulus : MS :=
  (mKl [2] (mIf (mOr (mT (mBin fLt (mVB 2) (mC (.i 0)))) (mT (mBin fGe (mVB 2) (mVB 0))))
  (mRet (mC (.b false)))
  mPass))
def m_is_modulus : MS :=
  (mSeq (mIf (mOr (mT (mBin fLt (mB (g1 fLen) (mAc (mVB 1) mA0)) (mC (.i 2)))) (mOr (mT (mBin fGt (mB (g1 fLen) (mAc (mVB 1) mA0)) (mC (.i 9)))) (mT (mBin fNe (mBin fIx (mVB 1) (mUn fNeg (mC (.i 1)))) (mC (.i 1))))))
  (mRet (mC (.b false)))
  mPass)
  (mSeq (mIf (mT (mBin fGt (mCall g_int_power (mAc (mVB 0) (mAc (mBin fSub (mB (g1 fLen) (mAc (mVB 1) mA0)) (mC (.i 1))) mA0))) (mC (.i 256))))
  (mRet (mC (.b false)))
  mPass)
  (mSeq (mFor (tgName 2) (mIt (mVB 1))
  b1_is_modulus)
  (mRet (mCall g_is_irreducible (mAc (mVB 0) (mAc (mVB 1) mA0)))))))
def g_is_modulus : List D → Out := runD 3 m_is_modulus
def b1_is_prime : MS :=
  (mKl [1] (mIf (mT (mBin fEq (mBin fMod (mVB 0) (mVB 1)) (mC (.i 0))))
  (mRet (mC (.b false)))
  mPass))
def m_is_prime : MS :=
  (mSeq (mIf (mT (mBin fLt (mVB 0) (mC (.i 2))))
  (mRet (mC (.b false)))
  mPass)
  (mSeq (mFor (tgName 1) (mRng2 (mAc (mC (.i 2)) (mAc (mVB 0) mA0)))
  b1_is_prime)
  (mRet (mC (.b true)))))
def g_is_prime : List D → Out := runD 2 m_is_prime
def m_Field_init : MS :=
  (mSeq (mIf (mOr (mT (mBin fGt (mVB 1) (mC (.i 31)))) (mNot (mT (mCall g_is_prime (mAc (mVB 1) mA0)))))
  (mRaise "InvalidField")
  mPass)
  (mSeq (mIf (mNot (mT (mCall g_is_modulus (mAc (mVB 1) (mAc (mVB 2) mA0)))))
  (mRaise "InvalidField")
  mPass)
  (mSeq (mFldSet 0 c_Field 0 (mVB 1))
  (mSeq (mFldSet 0 c_Field 1 (mVB 2))
  (mSeq (mFldSet 0 c_Field 2 (mBin fSub (mB (g1 fLen) (mAc (mVB 2) mA0)) (mC (.i 1))))
  (mFldSet 0 c_Field 3 (mFz (mCall g_int_power (mAc (mVB 1) (mAc (mUn (fFld c_Field 2) (mVB 0)) mA0))))))))))
def g_Field_init : List D → OutO := runI 3 c_Field m_Field_init
def e1_law : ME :=
  (mBin fMod (mB (g1 fInt) (mAc (mBin fIx (mVB 1) (mBin fAdd (mC (.i 5)) (mVB 18))) mA0)) (mVB 4))
def q1_r3_law : MS :=
  (mRet (mTV (mAnd (mT (mBin fEq (mVB 17) (mLst (mAc (mBin fSub (mB (g1 fLen) (mAc (mVB 10) mA0)) (mC (.i 1))) (mAc (mBin fSub (mB (g1 fLen) (mAc (mVB 11) mA0)) (mC (.i 1))) (mAc (mUn fNeg (mC (.i 1))) mA0)))))) (mT (mCall g__law_plain (mAc (mVB 6) (mAc (mVB 5) (mAc (mVB 11) (mAc (mVB 10) (mAc (mVB 13) mA0))))))))))
def q1_r2_law : MS :=
  (mSeq (mSet 17 (mFz (mLst (mAc (mFz (mCall g_degree_of (mAc (mVB 10) mA0))) (mAc (mFz (mCall g_degree_of (mAc (mVB 11) mA0))) (mAc (mFz (mCall g_degree_of (mAc (mFz (mLst mA0)) mA0))) mA0))))))
  q1_r3_law)
def wr1_law : MS :=
  (mSeq (mIf (mT (mBin fNe (mVB 14) (mLst (mAc (mVB 10) (mAc (mVB 11) mA0)))))
  (mRet (mC (.b false)))
  mPass)
  q1_r2_law)
def wb1_law : MS :=
  mPass
def wa1_law : MS :=
  (mSeqN (mSet 15 (mFz (mLst (mAc (mFz (mCall g_poly_add (mAc (mVB 6) (mAc (mBin fIx (mVB 14) (mC (.i 0))) (mAc (mFz (mLst mA0)) mA0))))) (mAc (mFz (mCall g_poly_add (mAc (mVB 6) (mAc (mFz (mLst mA0)) (mAc (mBin fIx (mVB 14) (mC (.i 1))) mA0))))) (mAc (mFz (mCall g_poly_scale (mAc (mVB 6) (mAc (mBin fIx (mVB 14) (mC (.i 0))) (mAc (mC (.i 1)) mA0))))) mA0))))))
  (mSeqN (mSet 15 (mFz (mBin fAdd (mVB 15) (mLst (mAc (mFz (mCall g_poly_subtract (mAc (mVB 6) (mAc (mBin fIx (mVB 14) (mC (.i 0))) (mAc (mFz (mLst mA0)) mA0))))) (mAc (mFz (mCall g_poly_multiply (mAc (mVB 6) (mAc (mBin fIx (mVB 14) (mC (.i 1))) (mAc (mFz (mLst (mAc (mC (.i 1)) mA0))) mA0))))) mA0))))))
  mPass))
def r21_law : MS :=
  (mWinT wa1_law wb1_law (mHv (cEach [16] 15 [] 16 (chkA []) 1)) [16] wr1_law mPass)
def r20_law : MS :=
  (mSeq (mIf (mOr (mT (mBin fNe (mVB 14) (mLst (mAc (mVB 10) (mAc (mVB 11) mA0))))) (mOr (mT (mBin fNe (mCall g_poly_scale (mAc (mVB 6) (mAc (mVB 10) (mAc (mC (.i 0)) mA0)))) (mLst mA0))) (mT (mBin fNe (mCall g_poly_subtract (mAc (mVB 6) (mAc (mVB 10) (mAc (mVB 10) mA0)))) (mLst mA0)))))
  (mRet (mC (.b false)))
  mPass)
  r21_law)
def r19_law : MS :=
  (mSeq (mIf (mOr (mNot (mT (mCall g__law_plain (mAc (mVB 6) (mAc (mVB 5) (mAc (mBin fIx (mVB 14) (mC (.i 0))) (mAc (mBin fIx (mVB 14) (mC (.i 1))) (mAc (mVB 12) mA0)))))))) (mNot (mT (mCall g__law_deep (mAc (mVB 6) (mAc (mVB 5) (mAc (mBin fIx (mVB 14) (mC (.i 0))) (mAc (mBin fIx (mVB 14) (mC (.i 1))) (mAc (mVB 13) mA0)))))))))
  (mRet (mC (.b false)))
  mPass)
  r20_law)
def r18_law : MS :=
  (mSeq (mSet 14 (mFz (mLst (mAc (mFz (mB (g1 fList) (mAc (mVB 10) mA0))) (mAc (mFz (mB (g1 fList) (mAc (mVB 11) mA0))) mA0)))))
  r19_law)
def r17_law : MS :=
  (mSeq (mSet 13 (mBin fMod (mB (g1 fInt) (mAc (mBin fIx (mVB 1) (mC (.i 3))) mA0)) (mVB 4)))
  r18_law)
def r16_law : MS :=
  (mSeq (mSet 12 (mBin fMod (mB (g1 fInt) (mAc (mBin fIx (mVB 1) (mC (.i 4))) mA0)) (mVB 4)))
  r17_law)
def r15_law : MS :=
  (mSeq (mIf (mT (mBin fEq (mBin fMod (mB (g1 fInt) (mAc (mBin fIx (mVB 1) (mC (.i 3))) mA0)) (mC (.i 4))) (mC (.i 0))))
  (mSet 11 (mFz (mB (g1 fList) (mAc (mVB 10) mA0))))
  mPass)
  r16_law)
def r14_law : MS :=
  (mSeq (mSet 11 (mFz (mCall g__law_poly (mAc (mVB 1) (mAc (mC (.i 30)) (mAc (mBin fMod (mB (g1 fInt) (mAc (mBin fIx (mVB 1) (mC (.i 2))) mA0)) (mC (.i 8))) (mAc (mVB 4) mA0)))))))
  r15_law)
def r13_law : MS :=
  (mSeq (mIf (mT (mBin fNe (mB (g1 fLen) (mAc (mVB 8) mA0)) (mBin fAdd (mVB 7) (mBin fMod (mB (g1 fInt) (mAc (mBin fIx (mVB 1) (mC (.i 2))) mA0)) (mC (.i 3))))))
  (mRet (mC (.b false)))
  mPass)
  r14_law)
def r12_law : MS :=
  (mSeq (mApp 9 (mC (.i 1)))
  r13_law)
def r11_law : MS :=
  (mSeq (mSet 10 (mFz (mB (g1 fList) (mAc (mVB 9) mA0))))
  r12_law)
def r10_law : MS :=
  (mSeq (mIf (mOr (mNot (mT (mCall g__law_is_poly (mAc (mVB 9) (mAc (mVB 4) mA0))))) (mOr (mT (mBin fNe (mVB 9) (mCall g__law_trim (mAc (mVB 8) mA0)))) (mT (mBin fNe (mB (g1 fLen) (mAc (mVB 8) mA0)) (mBin fAdd (mVB 7) (mBin fMod (mB (g1 fInt) (mAc (mBin fIx (mVB 1) (mC (.i 2))) mA0)) (mC (.i 3))))))))
  (mRet (mC (.b false)))
  mPass)
  r11_law)
def r9_law : MS :=
  (mSeq (mSet 9 (mCall g_poly_trim (mAc (mVB 8) mA0)))
  r10_law)
def r8_law : MS :=
  (mSeq (mSet 8 (mFz (mBin fAdd (mComp (tgName 18) (mRng1 (mAc (mVB 7) mA0)) mYes e1_law [18]) (mBin fMul (mLst (mAc (mC (.i 0)) mA0)) (mBin fMod (mB (g1 fInt) (mAc (mBin fIx (mVB 1) (mC (.i 2))) mA0)) (mC (.i 3)))))))
  r9_law)
def r7_law : MS :=
  (mSeq (mIf (mT (mBin fEq (mBin fMod (mB (g1 fInt) (mAc (mBin fDiv (mBin fIx (mVB 1) (mC (.i 1))) (mC (.i 8))) mA0)) (mC (.i 8))) (mC (.i 0))))
  (mSet 7 (mC (.i 24)))
  mPass)
  r8_law)
def r6_law : MS :=
  (mSeq (mSet 7 (mBin fMod (mB (g1 fInt) (mAc (mBin fIx (mVB 1) (mC (.i 1))) mA0)) (mC (.i 8))))
  r7_law)
def r5_law : MS :=
  (mSeq (mSet 6 (mFz (mMake g_Field_init c_Field [] (mAc (mVB 2) (mAc (mVB 3) mA0)))))
  r6_law)
def r4_law : MS :=
  (mSeq (mSet 5 (mTup (mAc (mVB 2) (mAc (mVB 3) (mAc (mVB 4) mA0)))))
  r5_law)
def r3_law : MS :=
  (mSeq (mSet 4 (mFz (mCall g__law_count (mAc (mVB 2) (mAc (mVB 3) mA0)))))
  r4_law)
def r2_law : MS :=
  (mSeq (mAsg (tgTup [2, 3]) (mFz (mCall g__law_field (mAc (mBin fIx (mVB 1) (mC (.i 0))) mA0))))
  r3_law)
def m_law : MS :=
  (mSeq (mSet 1 (mFz (mCall g__law_numbers (mAc (mVB 0) (mAc (mC (.i 60)) mA0)))))
  r2_law)
def g_law : List D → Out := runD 19 m_law
end
end Nw

local macro_rules | `(tactic| simp? only [$ts,*] $[$l:location]?) => `(tactic| simp only [Dl.bnd_ok, Dl.bnd_err, Dl.seq_e, Dl.seqK_n, Dl.seqK_r, Dl.seqK_b, Dl.seqK_c, Dl.pass_e, Dl.brk_e, Dl.cont_e, Dl.if_e, Dl.ifK_t, Dl.ifK_f, Dl.set_e, Dl.setK_f, Dl.setK_o, Dl.ret_e, Dl.retK_f, Dl.retK_o, Dl.retN_e, Dl.expr_e, Dl.exK_e, Dl.c_e, Dl.vb_e, Dl.vbK_f, Dl.vbK_o, Dl.vbK_ob, Dl.vbK_l, Dl.vf_e, Dl.vfK_f, Dl.vfK_o, Dl.vfK_l, Dl.vm_e, Dl.vmK_f, Dl.vmK_o, Dl.vmK_l, Dl.fz_e, Dl.fzK_f, Dl.fzK_o, Dl.bin_e, Dl.binK_e, Dl.binK2_e, Dl.un_e, Dl.unK_e, Dl.ofO_s, Dl.ti_e, Dl.tb_e, Dl.tn_e, Dl.ts_e, Dl.el_i, Dl.el_b, Dl.el_n, Dl.el_s, Dl.el_l, Dl.el_t, Dl.el_o, Dl.el_f, Dl.add_i, Dl.add_l, Dl.sub_i, Dl.mul_i, Dl.mul_l, Dl.div_i, Dl.mod_i, Dl.pow_i, Dl.neg_i, Dl.lt_i, Dl.le_i, Dl.gt_i, Dl.ge_i, Dl.eq_i, Dl.ne_i, Dl.eq_b, Dl.eq_li, Dl.eq_ti, Dl.ne_li, Dl.ne_ti, Dl.ix_li, Dl.ix_ti, Dl.ix_li1, Dl.ix_ti1, Dl.fld_e, Dl.a0_e, Dl.ac_e, Dl.acK_e, Dl.acK2_e, Dl.b_e, Dl.bK_e, Dl.g1_e, Dl.g2_e, Dl.len_l, Dl.len_t, Dl.len_f, Dl.abs_i, Dl.int_i, Dl.int_b, Dl.max_i, Dl.min_i, Dl.list_l, Dl.list_t, Dl.list_f, Dl.tuple_l, Dl.sum_l, Dl.isi_ii, Dl.isi_bi, Dl.isi_bb, Dl.isi_ib, Dl.isi_ll, Dl.isi_tt, Dl.isi_tl, Dl.isi_lt, Dl.rg1_e, Dl.gs0, Dl.ss0, Dl.gs1, Dl.ss1, Dl.gs2, Dl.ss2, Dl.gs3, Dl.ss3, Dl.gs4, Dl.ss4, Dl.gs5, Dl.ss5, Dl.gs6, Dl.ss6, Dl.gs7, Dl.ss7, Dl.gs8, Dl.ss8, Dl.gs9, Dl.ss9, Dl.gs10, Dl.ss10, Dl.gs11, Dl.ss11, Dl.gs12, Dl.ss12, Dl.gs13, Dl.ss13, Dl.gs14, Dl.ss14, Dl.gs15, Dl.ss15, Dl.gs16, Dl.ss16, Dl.gs17, Dl.ss17, Dl.gs18, Dl.ss18, Dl.gs19, Dl.ss19, Dl.gs20, Dl.ss20, Dl.gs21, Dl.ss21, Dl.gs22, Dl.ss22, Dl.gs23, Dl.ss23, Dl.wp0, Dl.wp1, Dl.ok0, Dl.okn, Dl.okf, Dl.oko, Dl.afz0, Dl.afz1, Dl.afzb, Dl.afr0, Dl.afr1, Dl.lst_e, Dl.tup_e, Dl.lstK_e, Dl.tupK_e, Dl.tsd0, Dl.tsd1, Dl.call_e, Dl.callK_e, Dl.outK_e, Dl.outK_ex, Dl.outK_ey, Dl.outK_f, Dl.outK_g, Dl.outK_o, Dl.outK_p, Dl.meth_e, Dl.methK_e, Dl.methK2_e, Dl.make_e, Dl.makeK_e, Dl.outOK_e, Dl.outOK_r, Dl.sl_e, Dl.slK_e, Dl.slK2_e, Dl.slK3_e, Dl.sl_l, Dl.sl_f, Dl.o0_e, Dl.o1_e, Dl.o1K_e, Dl.cut_hi, Dl.cut_lo, Dl.t_e, Dl.tK_e, Dl.and_e, Dl.or_e, Dl.andK_t, Dl.andK_f, Dl.orK_t, Dl.orK_f, Dl.not_e, Dl.notK_e, Dl.tv_e, Dl.tvK_e, Dl.ifE_e, Dl.ifEK_t, Dl.ifEK_f, Dl.app_e, Dl.appK_e, Dl.appK2_e, Dl.appK3_e, Dl.six_e, Dl.six1_e, Dl.six2_e, Dl.six3_e, Dl.six4_e, Dl.pop_e, Dl.popK_e, Dl.rev_e, Dl.revK_e, Dl.fs_e, Dl.fsK_e, Dl.fsK2_e, Dl.asg_e, Dl.asgK_e, Dl.asgK2_e, Dl.tgt_e, Dl.tgl_e, Dl.se0, Dl.se1, Dl.tgn_e, Dl.par_e, Dl.parK_e, Dl.aug_e, Dl.augK_e, Dl.augK2_e, Dl.kl_e, Dl.klK_e, Dl.raise_e, Dl.for_e, Dl.forK_e, Dl.it_e, Dl.itK_e, Dl.it_l, Dl.it_t, Dl.it_f, Dl.rv_e, Dl.rvK_e, Dl.rv_l, Dl.rv_t, Dl.r1_e, Dl.r2_e, Dl.iaK_e, Dl.rng1_i, Dl.rng2_i, Dl.zp_e, Dl.zip_l, Dl.en_e, Dl.enum_l, Dl.while_e, Dl.comp_e, Dl.compK_e, Dl.compO_e, Dl.run_e, Dl.fin_r, Dl.fin_n, Dl.fin_e, Dl.for0, Dl.for1, Dl.forN_n, Dl.forN_c, Dl.forN_b, Dl.forN_r, Dl.turn_n, Dl.turn_t, Dl.turnK_e, Dl.runI_e, Dl.finI_n, Dl.finI_e, Dl.mulOk_r, Dl.mulOk_l, Dl.small_i, Dl.try_e, Dl.tryK_n, Dl.tryK_r, Dl.tryK_b, Dl.tryK_c, Dl.tryK_e, Dl.pick0, Dl.pick1, Dl.pickK_t, Dl.pickK_f, Dl.run_n, Dl.run_s, Dl.run_x, Dl.noErr_o, Dl.allA_c, Dl.is_e, Dl.isK_e, Dl.isK_x, Dl.asgM_e, Dl.asgMK_e, Dl.tgt2_e, Dl.eachK_n, Dl.each0_e, Dl.eachS_e, Dl.setAt_e, Dl.mtgN_e, Dl.in_i, Dl.notIn_i, Dl.isB_e, Dl.notB_e, Dl.isN_n, Dl.isN_i, Dl.isN_l, Dl.isN_t, Dl.notN_n, Dl.notN_i, Dl.notN_l, Dl.notN_t, Dl.chain_e, Dl.chainK_e, Dl.chLe_e, Dl.chLt_e, Dl.chT_e, Dl.chF_e, Dl.chainK4_e, Dl.r3_e, Dl.rng3_i, Dl.prop_e, Dl.propK_e, Dl.okl, Dl.blk_e, Dl.blkK_n, Dl.blkK2_n, Dl.blkK_rb, Dl.blkK_e, Dl.old0, Dl.oldc, Dl.oldn, Dl.old_i, Dl.old_b, Dl.old_n, Dl.old_s, Dl.old_l, Dl.old_t, Dl.old_o, Dl.old_f, Dl.old_w, Dl.old_d, Dl.leave_e, Dl.leaven, Dl.leave_d, Dl.leave_i, Dl.leave_b, Dl.leave_n, Dl.leave_s, Dl.leave_l, Dl.leave_t, Dl.leave_o, Dl.leave_w, Dl.havA_e, Dl.havA1_e, Dl.havA2_e, Dl.havK_e, Dl.havS_e, Dl.havS0_e, Dl.havS1_e, Dl.havS2_e, Dl.havK2_e, Dl.ixt0, Dl.ixt1, Dl.ixt2, Dl.ixt3, Dl.ixl0, Dl.ixl1, Dl.ixl2, Dl.ixl3, Dl.rx_e, Dl.rxK_e, Dl.rxK2_e, Dl.xf_e, Dl.xfK_e, Ev.win_e, Ev.winK_n, Ev.winK2_n, Ev.winK3_n, Ev.winK2_rb, Ev.winS_e, Ev.hvS_e, Ev.outS_e, Ev.frz_n, Ev.frz_f, Ev.frz_d, Ev.frz_w, Ev.win_n, Ev.win_d, Ev.win_0, Ev.win_i, Ev.win_b, Ev.win_no, Ev.win_l, Ev.win_t, Ev.win_o, Ev.out_n, Ev.out_d, Ev.out_i, Ev.out_b, Ev.out_no, Ev.out_l, Ev.out_t, Ev.out_o, Ev.out_f, Ev.out_l0, Ev.out_t0, Ev.out_o0, Ev.hv_n, Ev.hv_d, Ev.hv_i, Ev.hv_b, Ev.hv_no, Ev.hv_l, Ev.hv_t, Ev.hv_o, Ev.hv_f, Ev.fr_e, Ev.frK_w, Ev.wt_e, Ev.wtK_n, Ev.wtK_rb, Ev.wtK2_n, Ev.wtK2_c, Ev.wtK2_rb, Ev.wtK3_n, Ev.seqN_e, Ev.sqK_n, Ev.sqK_r, Ev.sqK_e, Ev.mhv_e, Ev.mhK_s, Ev.slot_e, Ev.slK_e, Ev.slK2_e, Ev.pth_nil, Ev.pth_l, Ev.pth_t, Ev.slot_of, Ev.capp_e, Ev.cappP_e, Ev.cset_e, Ev.ceach_e, Ev.cseq_f, Ev.cseq_t, Dl.startD, List.map_cons, List.map_nil, List.length_cons, List.length_nil, List.length_map, Nat.reduceAdd, Nat.reduceSub, List.reduceReplicate, List.replicate_zero, List.cons_append, List.nil_append, List.append_nil, decide_true, decide_false, Bool.not_true, Bool.not_false, Bool.and_true, Bool.true_and, Bool.and_false, Bool.false_and, and_self, and_true, true_and, gt_iff_lt, ge_iff_le, reduceIte, List.getElem?_cons_zero, List.getElem?_cons_succ, Option.map_some, Option.bind_some, Int.reduceNeg, Bool.or_true, Bool.true_or, Bool.false_eq_true, Int.reduceLT, Int.reduceLE, Nat.reduceLT, Nat.reduceLeDiff, Int.reduceToNat, Nat.reduceMul, Int.reduceMul, Int.reduceAdd, Int.reduceSub, Int.reduceEq, Nat.reduceEqDiff, Int.reducePow, Nat.reducePow, $ts,*] $[$l:location]?)
namespace Nw
open PySem Dl
/-- numbers that a script gives -/
def In9 (L : List Int) : Prop := ∀ x ∈ L, 0 ≤ x ∧ x < 1009
theorem In9.snoc {L : List Int} (h : In9 L) {x : Int} (h1 : 0 ≤ x) (h2 : x < 1009) : In9 (L ++ [x]) := fun y hy => by
  rcases List.mem_append.mp hy with z | z
  · exact h y z
  · rw [List.mem_singleton.mp z]
    exact ⟨h1, h2⟩
theorem mod9 (x : Int) : 0 ≤ x % 1009 ∧ x % 1009 < 1009 := ⟨Int.emod_nonneg _ (by decide), Int.emod_lt_of_pos _ (by decide)⟩
def rowI (c m : Int) (i : Nat) (st : Sta) : Prop := ∃ (L : List Int) (r z : Int), st = [some ⟨.frz, true, .int c⟩, some ⟨.frz, true, .int m⟩, some ⟨.own, true, .lst (L.map D.int)⟩, some ⟨.frz, true, .int r⟩, some ⟨.frz, true, .int z⟩, none] ∧ L.length = i ∧ In9 L
theorem row_turn {c m : Int} {i : Nat} {st : Sta} (hi : i < 16777216) (h : rowI c m i st) : ∃ st', turnF (tgName 5) b1__law_row ⟨.frz, true, .int (0 + (i : Int))⟩ st = .ok (.next, st') ∧ rowI c m (i + 1) st' := by
  obtain ⟨L, r, z, rfl, hl, h9⟩ := h
  have hL : L.length < 16777216 := by omega
  rw [turn_s (tgn_e)]
  unfold b1__law_row
  by_cases hr : 0 < r
  · refine ⟨_, by simp? only [hr, hL, map_snoc]; rfl, _, _, _, rfl, by simp [hl], h9.snoc (mod9 _).1 (mod9 _).2⟩
  · refine ⟨_, by simp? only [hr, hL, map_snoc]; rfl, _, _, _, rfl, by simp [hl], h9.snoc (mod9 _).1 (mod9 _).2⟩
theorem row_eq (c m : Int) (hm : 0 ≤ m ∧ m < 16777216) : ∃ L : List Int, g__law_row [.int c, .int m] = .ok ⟨.own, true, .lst (L.map D.int)⟩ ∧ L.length = m.toNat ∧ In9 L := by
  have key : ∀ r z : Int, ∃ st', forI (turnF (tgName 5) b1__law_row) (rangeD 0 m.toNat) [some ⟨.frz, true, .int c⟩, some ⟨.frz, true, .int m⟩, some ⟨.own, true, .lst []⟩, some ⟨.frz, true, .int r⟩, some ⟨.frz, true, .int z⟩, none] = .ok (.next, st') ∧ rowI c m m.toNat st' := fun r z =>
    forI_invr (rowI c m) _ ⟨[], r, z, rfl, rfl, fun x hx => by cases hx⟩ fun i hi st hs => row_turn (by omega) hs
  have hs : small m = true := small_i ⟨by omega, by omega⟩
  by_cases hc : (10 : Int) ^ (18 : Int).toNat ≤ (if c < 0 then -c else c)
  · obtain ⟨_, e, L, r', z', rfl, hl, h9⟩ := key (if c < 0 then -c else c) ((if c < 0 then -c else c) % 2147483647)
    refine ⟨L, ?_, hl, h9⟩
    have hc' := hc
    simp only [Int.reduceToNat, Int.reducePow] at hc'
    have hp : (0 : Int) ≤ 18 ∧ (18 : Int) ≤ 1000000 ∧ (10 : Int).natAbs < 18446744073709551616 := by decide
    simp? only [g__law_row, m__law_row, hc', hs, hp, e]
  · obtain ⟨_, e, L, r', z', rfl, hl, h9⟩ := key 0 ((if c < 0 then -c else c) % 2147483647)
    refine ⟨L, ?_, hl, h9⟩
    have hc' := hc
    simp only [Int.reduceToNat, Int.reducePow] at hc'
    have hp : (0 : Int) ≤ 18 ∧ (18 : Int) ≤ 1000000 ∧ (10 : Int).natAbs < 18446744073709551616 := by decide
    simp? only [g__law_row, m__law_row, hc', hs, hp, e]
end Nw

namespace Nw
open PySem Dl
theorem In9.app {L M : List Int} (h : In9 L) (h2 : In9 M) : In9 (L ++ M) := fun y hy => by
  rcases List.mem_append.mp hy with z | z
  · exact h y z
  · exact h2 y z
theorem In9.take {L : List Int} (h : In9 L) (n : Nat) : In9 (L.take n) := fun y hy => h y (List.mem_of_mem_take hy)
abbrev numS (ns : List Int) (m e : Int) (L : List Int) (c : Option TV) : Sta := [some ⟨.frz, false, .fl (ns.map D.int)⟩, some ⟨.frz, true, .int m⟩, some ⟨.frz, false, .lst (ns.map D.int)⟩, some ⟨.frz, true, .int e⟩, some ⟨.own, true, .lst (L.map D.int)⟩, c, none]
theorem num_inner {ns : List Int} {m e : Int} {c : Int} (M L : List Int) (h : L.length + M.length ≤ 16777216) : forI (turnF (tgName 6) b1__law_numbers) ((M.map D.int).map (.el true)) (numS ns m e L (some ⟨.frz, true, .int c⟩)) = .ok (.next, numS ns m e (L ++ M) (some ⟨.frz, true, .int c⟩)) := by
  rw [List.map_map]
  have r := forI_map (f := turnF (tgName 6) b1__law_numbers) (g := TV.el true ∘ D.int) M (fun i => numS ns m e (L ++ M.take i) (some ⟨.frz, true, .int c⟩)) fun i hi => .inl (by
    have hL : (L ++ M.take i).length < 16777216 := by
      rw [List.length_append, List.length_take]
      omega
    show turnF _ _ (TV.el true (D.int M[i])) _ = _
    rw [el_i, turn_s tgn_e]
    unfold b1__law_numbers
    have e2 : L ++ M.take i ++ [M[i]] = L ++ M.take (i + 1) := by rw [List.append_assoc, List.take_append_getElem]
    simp? only [hL, map_snoc, e2])
  simpa using r
theorem num_turn {ns : List Int} {m e : Int} (he : 0 ≤ e ∧ e < 16777216) {N : Nat} {L : List Int} {c : Int} (hL : L.length + e.toNat ≤ 16777216) (h9 : In9 L) :
    ∃ M, turnF (tgName 5) b2__law_numbers ⟨.frz, true, .int c⟩ (numS ns m e L none) = .ok (.next, numS ns m e (L ++ M) none) ∧ M.length = e.toNat ∧ In9 M := by
  obtain ⟨M, e1, hl, h2⟩ := row_eq c e he
  refine ⟨M, ?_, hl, h2⟩
  rw [turn_s tgn_e]
  unfold b2__law_numbers
  have r := num_inner (ns := ns) (m := m) (e := e) (c := c) M L (by omega)
  simp? only [e1, r]
theorem numbers_eq (ns : List Int) (m : Int) (hn : ns.length ≤ 63) (hm : 0 ≤ m ∧ m ≤ 100000) : ∃ L : List Int, g__law_numbers [.fl (ns.map D.int), .int m] = .ok ⟨.own, true, .lst (L.map D.int)⟩ ∧ L.length = m.toNat ∧ In9 L := by
  have hj : 0 < (if (ns.length : Int) > 1 then (ns.length : Int) else 1) ∧ (if (ns.length : Int) > 1 then (ns.length : Int) else 1) < 1073741824 := by split <;> omega
  have hj2 : (1 : Int) ≤ (if (ns.length : Int) > 1 then (ns.length : Int) else 1) := hj.1
  generalize hz : (if (ns.length : Int) > 1 then (ns.length : Int) else 1) = z at hj hj2
  have he : 0 ≤ 1 + m / z ∧ 1 + m / z ≤ 100001 := by
    have h1 : 0 ≤ m / z := Int.ediv_nonneg hm.1 (by omega)
    have h2 : m / z ≤ m := Int.ediv_le_self z hm.1
    omega
  have key : ∃ st', forI (turnF (tgName 5) b2__law_numbers) ((ns.map D.int).map (.el false)) (numS ns m (1 + m / z) [] none) = .ok (.next, st') ∧ ∃ L, st' = numS ns m (1 + m / z) L none ∧ L.length ≤ ns.length * (1 + m / z).toNat ∧ In9 L := by
    rw [List.map_map]
    exact forI_invm (f := turnF (tgName 5) b2__law_numbers) (g := TV.el false ∘ D.int) ns (fun i st => ∃ L, st = numS ns m (1 + m / z) L none ∧ L.length ≤ i * (1 + m / z).toNat ∧ In9 L) _ ⟨[], rfl, by simp, fun x hx => by cases hx⟩ fun i hi st ⟨L, e1, e2, e3⟩ => by
      subst e1
      have hb : i * (1 + m / z).toNat ≤ 62 * 100001 := Nat.mul_le_mul (by omega) (by omega)
      obtain ⟨M, q1, q2, q3⟩ := num_turn (ns := ns) (m := m) (e := 1 + m / z) ⟨he.1, by omega⟩ (N := 0) (L := L) (c := ns[i]) (by omega) e3
      refine ⟨_, ?_, L ++ M, rfl, ?_, e3.app q3⟩
      · show turnF _ _ (TV.el false (D.int ns[i])) _ = _
        rw [el_i]
        exact q1
      · rw [List.length_append, q2, Nat.add_mul]
        omega
  obtain ⟨_, e1, L, rfl, hl, h9⟩ := key
  have hL : L.length ≤ 63 * 100001 := Nat.le_trans hl (Nat.mul_le_mul hn (by omega))
  have wl : mWhile fuel0 c1__law_numbers b3__law_numbers (numS ns m (1 + m / z) L none) = .ok (.next, numS ns m (1 + m / z) (L ++ List.replicate (m.toNat - L.length) 0) none) := by
    have r := whileD_run (c := c1__law_numbers) (b := b3__law_numbers) (fun i => numS ns m (1 + m / z) (L ++ List.replicate i 0) none) (m.toNat - L.length) fuel0 (by unfold fuel0; omega) (fun i hi => by
      have c1 : ((L ++ List.replicate i 0).length : Int) < m := by simp; omega
      have c2 : (L ++ List.replicate i 0).length < 16777216 := by simp; omega
      have e2 : L ++ List.replicate i 0 ++ [0] = L ++ List.replicate (i + 1) 0 := by rw [List.append_assoc, ← List.replicate_succ']
      constructor
      · unfold c1__law_numbers
        simp? only [c1]
      · unfold b3__law_numbers
        simp? only [c2, map_snoc, e2]) (by
      have c1 : ¬ ((L ++ List.replicate (m.toNat - L.length) 0).length : Int) < m := by simp; omega
      unfold c1__law_numbers
      simp? only [c1])
    simpa [mWhile] using r
  refine ⟨(L ++ List.replicate (m.toNat - L.length) 0).take m.toNat, ?_, ?_, ?_⟩
  · have ht : (ns.map D.int).take 63 = ns.map D.int := List.take_of_length_le (by simpa using hn)
    have c0 : cutD (ns.map D.int) none (some 63) = ns.map D.int := (cut_hi (by decide)).trans ht
    have c1 : ∀ Z : List Int, cutD (Z.map D.int) none (some m) = (Z.take m.toNat).map D.int := fun Z => by rw [cut_hi hm.1, List.map_take]
    rw [while_e] at wl
    simp only [numS, List.map_nil] at e1 wl
    simp? only [g__law_numbers, m__law_numbers, c0, hz, hj, e1, wl, c1]
  · rw [List.length_take, List.length_append, List.length_replicate]
    omega
  · refine In9.take (h9.app fun x hx => ?_) _
    rw [(List.mem_replicate.mp hx).2]
    exact ⟨by decide, by decide⟩
end Nw

namespace Nw
open PySem Dl
/-! ## digits -/
def divI (n b : Int) : Nat → Int
  | 0 => n
  | i + 1 => divI n b i / b
def dg (n b : Int) (k : Nat) : List Int := (List.range k).map fun i => divI n b i % b
theorem dg_succ {n b : Int} {k : Nat} : dg n b (k + 1) = dg n b k ++ [divI n b k % b] := by
  unfold dg
  rw [List.range_succ, List.map_append]
  rfl
theorem dg_len {n b : Int} {k : Nat} : (dg n b k).length = k := by simp [dg]
theorem dg_get {n b : Int} {k i : Nat} (h : i < k) : (dg n b k).getD i 0 = divI n b i % b := by
  rw [List.getD_eq_getElem?_getD, List.getElem?_eq_getElem (by rw [dg_len]; exact h)]
  simp [dg]
theorem base_digits_eq (n b s : Int) (hb : 0 < b ∧ b < 1073741824) (hs : 0 ≤ s ∧ s < 16777216) : g_base_digits [.int n, .int b, .int s] = .ok ⟨.own, true, .lst ((dg n b s.toNat).map D.int)⟩ := by
  have r := forI_rng (f := turnF (tgName 4) b1_base_digits) (lo := 0) (n := s.toNat) (fun i => [some ⟨.frz, true, .int (divI n b i)⟩, some ⟨.frz, true, .int b⟩, some ⟨.frz, true, .int s⟩, some ⟨.own, true, .lst ((dg n b i).map D.int)⟩, none]) fun i hi => .inl (by
    have hL : (dg n b i).length < 16777216 := by rw [dg_len]; omega
    have e2 : dg n b i ++ [divI n b i % b] = dg n b (i + 1) := dg_succ.symm
    have e3 : divI n b (i + 1) = divI n b i / b := rfl
    rw [turn_s tgn_e]
    unfold b1_base_digits
    simp? only [hL, map_snoc, hb, e2, e3])
  have hz : small s = true := small_i ⟨by omega, by omega⟩
  have e0 : dg n b 0 = [] := rfl
  have e1 : divI n b 0 = n := rfl
  simp only [e0, e1, List.map_nil] at r
  simp? only [g_base_digits, m_base_digits, hz, r]
theorem law_digits_eq (n b s : Int) (hb : 0 < b ∧ b < 1073741824) (hs : 0 ≤ s ∧ s < 16777216) : g__law_digits [.int b, .int s, .int n] = .ok ⟨.own, true, .lst ((dg n b s.toNat).map D.int)⟩ := by
  have r := forI_rng (f := turnF (tgName 4) b1__law_digits) (lo := 0) (n := s.toNat) (fun i => [some ⟨.frz, true, .int b⟩, some ⟨.frz, true, .int s⟩, some ⟨.frz, true, .int (divI n b i)⟩, some ⟨.own, true, .lst ((dg n b i).map D.int)⟩, none]) fun i hi => .inl (by
    have hL : (dg n b i).length < 16777216 := by rw [dg_len]; omega
    have e2 : dg n b i ++ [divI n b i % b] = dg n b (i + 1) := dg_succ.symm
    have e3 : divI n b (i + 1) = divI n b i / b := rfl
    rw [turn_s tgn_e]
    unfold b1__law_digits
    simp? only [hL, map_snoc, hb, e2, e3])
  have hz : small s = true := small_i ⟨by omega, by omega⟩
  have e0 : dg n b 0 = [] := rfl
  have e1 : divI n b 0 = n := rfl
  simp only [e0, e1, List.map_nil] at r
  simp? only [g__law_digits, m__law_digits, hz, r]
/-- the number of these digits, the highest first -/
def hv (p : Int) : List Int → Int := List.foldl (fun r d => r * p + d) 0
def val (p : Int) (L : List Int) : Int := hv p L.reverse
theorem hv_snoc {p : Int} {L : List Int} {d : Int} : hv p (L ++ [d]) = hv p L * p + d := by simp [hv]
theorem val_cons {p : Int} {L : List Int} {d : Int} : val p (d :: L) = val p L * p + d := by simp [val, hv]
theorem hv_take {p : Int} {L : List Int} {i : Nat} (h : i < L.length) : hv p (L.take (i + 1)) = hv p (L.take i) * p + L[i] := by
  rw [← List.take_append_getElem h, hv_snoc]
abbrev fobj (p : Int) (m : List Int) (d q : Int) : D := .obj c_Field [.int p, .tup (m.map D.int), .int d, .int q]
theorem element_eq (p : Int) (m : List Int) (d q : Int) (L : List Int) (hp : 0 < p ∧ p < 1073741824) : g_Field_element [fobj p m d q, .lst (L.map D.int)] = .ok ⟨.frz, true, .int (val p L)⟩ := by
  have r := forI_map (f := turnF (tgName 3) b1_Field_element) (g := TV.el false ∘ D.int) L.reverse (fun i => [some ⟨.frz, false, fobj p m d q⟩, some ⟨.frz, false, .lst (L.map D.int)⟩, some ⟨.frz, true, .int (hv p (L.reverse.take i))⟩, none]) fun i hi => .inl (by
    show turnF _ _ (TV.el false (D.int L.reverse[i])) _ = _
    rw [el_i, turn_s tgn_e, hv_take hi]
    unfold b1_Field_element
    have h1 : ∀ x : Int, mulOk x p = true := fun x => mulOk_r ⟨by omega, by omega⟩
    simp? only [h1])
  have e : List.map (TV.el false) (List.map D.int L).reverse = List.map (TV.el false ∘ D.int) L.reverse := by rw [← List.map_reverse, List.map_map]
  have e0 : hv p (L.reverse.take 0) = 0 := rfl
  have e1 : hv p (L.reverse.take L.reverse.length) = val p L := by rw [List.take_length]; rfl
  rw [e0, e1] at r
  simp? only [g_Field_element, m_Field_element, e, r]
theorem law_element_eq (p : Int) (L : List Int) (hp : 0 < p ∧ p < 1073741824) (hL : L.length < 16777216) : g__law_element [.int p, .lst (L.map D.int)] = .ok ⟨.frz, true, .int (val p L)⟩ := by
  have r := forI_rng (f := turnF (tgName 3) b1__law_element) (lo := 0) (n := ((L.length : Nat) : Int).toNat) (fun i => [some ⟨.frz, true, .int p⟩, some ⟨.frz, false, .lst (L.map D.int)⟩, some ⟨.frz, true, .int (hv p (L.reverse.take i))⟩, none]) fun i hi => .inl (by
    have hi' : i < L.reverse.length := by simp at hi ⊢; exact hi
    rw [turn_s tgn_e, hv_take hi']
    unfold b1__law_element
    have h1 : ∀ x : Int, mulOk x p = true := fun x => mulOk_r ⟨by omega, by omega⟩
    have h2 : 0 ≤ (L.length : Int) - 1 - (0 + (i : Int)) ∧ (L.length : Int) - 1 - (0 + (i : Int)) < (L.length : Int) := by simp at hi; omega
    have e2 : L.getD ((L.length : Int) - 1 - (0 + (i : Int))).toNat 0 = L.reverse[i] := by
      have e3 : ((L.length : Int) - 1 - (0 + (i : Int))).toNat = L.length - 1 - i := by omega
      rw [e3, List.getElem_reverse, List.getD_eq_getElem?_getD, List.getElem?_eq_getElem (by simp at hi; omega)]
      rfl
    simp? only [h1, h2, e2])
  have hz : small (L.length : Int) = true := small_i ⟨by omega, by omega⟩
  have e0 : hv p (L.reverse.take 0) = 0 := rfl
  have e1 : hv p (L.reverse.take ((L.length : Nat) : Int).toNat) = val p L := by
    rw [Int.toNat_natCast, ← List.length_reverse, List.take_length]
    rfl
  rw [e0, e1] at r
  simp? only [g__law_element, m__law_element, hz, r]
theorem digits_eq (p : Int) (m : List Int) (d q a : Int) (hp : 0 < p ∧ p < 1073741824) (hd : 0 ≤ d ∧ d < 16777216) : g_Field_digits [fobj p m d q, .int a] = .ok ⟨.own, true, .lst ((dg a p d.toNat).map D.int)⟩ := by
  have e := base_digits_eq a p d hp hd
  simp? only [g_Field_digits, m_Field_digits, e]
end Nw

namespace Nw
open PySem Dl
/-! ## the digits' arithmetic -/
abbrev dk (n b : Int) (i : Nat) : Int := divI n b i % b
def Dig (p : Int) (L : List Int) : Prop := ∀ x ∈ L, 0 ≤ x ∧ x < p
theorem dk_dig {n b : Int} (hb : 0 < b) (i : Nat) : 0 ≤ dk n b i ∧ dk n b i < b := ⟨Int.emod_nonneg _ (by omega), Int.emod_lt_of_pos _ hb⟩
theorem dg_dig {n b : Int} {k : Nat} (hb : 0 < b) : Dig b (dg n b k) := fun x hx => by
  unfold dg at hx
  obtain ⟨i, _, rfl⟩ := List.mem_map.mp hx
  exact dk_dig hb i
theorem divI_shift {n b : Int} : ∀ i, divI n b (i + 1) = divI (n / b) b i
  | 0 => rfl
  | i + 1 => by
    show divI n b (i + 1) / b = divI (n / b) b i / b
    rw [divI_shift i]
theorem dg_cons {n b : Int} {k : Nat} : dg n b (k + 1) = (n % b) :: dg (n / b) b k := by
  unfold dg
  rw [List.range_succ_eq_map, List.map_cons, List.map_map]
  congr 1
  exact List.map_congr_left fun i _ => by
    show divI n b (i + 1) % b = _
    rw [divI_shift]
theorem val_nil {p : Int} : val p [] = 0 := rfl
theorem val_bound {p : Int} (hp : 0 < p) : ∀ {L : List Int}, Dig p L → 0 ≤ val p L ∧ val p L < p ^ L.length
  | [], _ => by simp [val_nil]
  | d :: r, h => by
    obtain ⟨h1, h2⟩ := val_bound hp (L := r) fun x hx => h x (List.mem_cons_of_mem _ hx)
    obtain ⟨h3, h4⟩ := h d (List.mem_cons_self ..)
    rw [val_cons, List.length_cons, Int.pow_succ]
    have a1 : 0 ≤ val p r * p := Int.mul_nonneg h1 (by omega)
    have a2 : (val p r + 1) * p ≤ p ^ r.length * p := Int.mul_le_mul_of_nonneg_right (by omega) (by omega)
    rw [Int.add_mul, Int.one_mul] at a2
    omega
theorem dg_val {p : Int} (hp : 0 < p) : ∀ {L : List Int}, Dig p L → dg (val p L) p L.length = L
  | [], _ => rfl
  | d :: r, h => by
    obtain ⟨h3, h4⟩ := h d (List.mem_cons_self ..)
    have e1 : (val p r * p + d) % p = d := by
      rw [Int.add_comm, Int.add_mul_emod_self_right]
      exact Int.emod_eq_of_lt h3 h4
    have e2 : (val p r * p + d) / p = val p r := by
      rw [Int.add_comm, Int.add_mul_ediv_right _ _ (by omega), Int.ediv_eq_zero_of_lt h3 h4, Int.zero_add]
    rw [List.length_cons, dg_cons, val_cons, e1, e2, dg_val hp fun x hx => h x (List.mem_cons_of_mem _ hx)]
theorem val_dg' {p : Int} (hp : 0 < p) : ∀ (k : Nat) (a : Int), 0 ≤ a → a < p ^ k → val p (dg a p k) = a
  | 0, a, h1, h2 => by
    have : a = 0 := by
      rw [Int.pow_zero] at h2
      omega
    rw [this]
    rfl
  | k + 1, a, h1, h2 => by
    rw [dg_cons, val_cons]
    have e1 : 0 ≤ a / p := Int.ediv_nonneg h1 (by omega)
    have e2 : a / p < p ^ k := by
      rw [Int.pow_succ] at h2
      exact Int.ediv_lt_of_lt_mul hp h2
    rw [val_dg' hp k _ e1 e2, Int.mul_comm]
    exact Int.mul_ediv_add_emod a p
theorem dk_val {p : Int} (hp : 0 < p) {L : List Int} (h : Dig p L) {k : Nat} (hk : k < L.length) : dk (val p L) p k = L[k] := by
  have e := dg_val hp h
  have e2 : (dg (val p L) p L.length)[k]? = L[k]? := by rw [e]
  rw [List.getElem?_eq_getElem hk, List.getElem?_eq_getElem (by rw [dg_len]; exact hk)] at e2
  have e3 := Option.some.inj e2
  simpa [dg] using e3
def mk (d : Nat) (f : Nat → Int) : List Int := (List.range d).map f
theorem mk_len {d : Nat} {f : Nat → Int} : (mk d f).length = d := by simp [mk]
theorem mk_get {d : Nat} {f : Nat → Int} {k : Nat} (h : k < (mk d f).length) : (mk d f)[k] = f k := by simp [mk]
theorem mk_dig {p : Int} (hp : 0 < p) {d : Nat} {f : Nat → Int} : Dig p (mk d fun k => f k % p) := fun x hx => by
  unfold mk at hx
  obtain ⟨i, _, rfl⟩ := List.mem_map.mp hx
  exact ⟨Int.emod_nonneg _ (by omega), Int.emod_lt_of_pos _ hp⟩
theorem mk_congr {d : Nat} {f g : Nat → Int} (h : ∀ k < d, f k = g k) : mk d f = mk d g := by
  unfold mk
  exact List.map_congr_left fun i hi => h i (List.mem_range.mp hi)
theorem dk_mk {p : Int} (hp : 0 < p) {d : Nat} {f : Nat → Int} {k : Nat} (hk : k < d) : dk (val p (mk d fun k => f k % p)) p k = f k % p := by
  rw [dk_val hp (mk_dig hp) (by rw [mk_len]; exact hk), mk_get]
def padd (p : Int) (d : Nat) (a b : Int) : Int := val p (mk d fun k => (dk a p k + dk b p k) % p)
def psub (p : Int) (d : Nat) (a b : Int) : Int := val p (mk d fun k => (dk a p k - dk b p k) % p)
def pneg (p : Int) (d : Nat) (a : Int) : Int := val p (mk d fun k => (0 - dk a p k) % p)
theorem padd_bound {p : Int} (hp : 0 < p) {d : Nat} {a b : Int} : 0 ≤ padd p d a b ∧ padd p d a b < p ^ d := by
  have h := val_bound hp (mk_dig hp (d := d) (f := fun k => dk a p k + dk b p k))
  rwa [mk_len] at h
theorem psub_bound {p : Int} (hp : 0 < p) {d : Nat} {a b : Int} : 0 ≤ psub p d a b ∧ psub p d a b < p ^ d := by
  have h := val_bound hp (mk_dig hp (d := d) (f := fun k => dk a p k - dk b p k))
  rwa [mk_len] at h
theorem pneg_bound {p : Int} (hp : 0 < p) {d : Nat} {a : Int} : 0 ≤ pneg p d a ∧ pneg p d a < p ^ d := by
  have h := val_bound hp (mk_dig hp (d := d) (f := fun k => 0 - dk a p k))
  rwa [mk_len] at h
theorem padd_neg {p : Int} (hp : 0 < p) {d : Nat} {a b : Int} : padd p d a (pneg p d b) = psub p d a b := by
  unfold padd psub pneg
  rw [mk_congr fun k hk => ?_]
  rw [dk_mk hp hk, Int.add_emod_emod]
  congr 1
  omega
theorem divI_zero {p : Int} : ∀ k, divI 0 p k = 0
  | 0 => rfl
  | k + 1 => by
    show divI 0 p k / p = 0
    rw [divI_zero k, Int.zero_ediv]
theorem psub_zero {p : Int} (hp : 0 < p) {d : Nat} {a : Int} : psub p d 0 a = pneg p d a := by
  unfold psub pneg
  rw [mk_congr fun k hk => ?_]
  show (divI 0 p k % p - dk a p k) % p = _
  rw [divI_zero, Int.zero_emod]
theorem mk_dk {p a : Int} {d : Nat} : (mk d fun k => dk a p k) = dg a p d := rfl
theorem padd_psub {p : Int} (hp : 0 < p) {d : Nat} {a b : Int} (h1 : 0 ≤ a) (h2 : a < p ^ d) : padd p d (psub p d a b) b = a := by
  have e : padd p d (psub p d a b) b = val p (mk d fun k => dk a p k) := by
    unfold padd psub
    rw [mk_congr fun k hk => ?_]
    rw [dk_mk hp hk, Int.emod_add_emod, Int.sub_add_cancel]
    exact Int.emod_emod_of_dvd _ (Int.dvd_refl p)
  rw [e, mk_dk]
  exact val_dg' hp d a h1 h2
theorem padd_one {p a b : Int} : padd p 1 a b = (a + b) % p := by
  show val p [(dk a p 0 + dk b p 0) % p] = _
  rw [val_cons, val_nil, Int.zero_mul, Int.zero_add]
  show (a % p + b % p) % p = _
  rw [← Int.add_emod]
/-! ## the methods -/
theorem comp_mk {g : TV → Sta → Option Sta} {e : ME} {vs : List Nat} {st : Sta} {d : Nat} {f : Nat → Int} (hd : d ≤ 16777216) (h : ∀ i < d, ∃ st1 st2, g ⟨.frz, true, .int (0 + (i : Int))⟩ st = some st1 ∧ e st1 = .ok (⟨.frz, true, .int (f i)⟩, st2) ∧ wipeS st2 vs = st ∧ okS st2 = true) :
    compI g mYes e vs (rangeD 0 d) st true [] = some (true, (mk d f).map D.int, st) := by
  have r := compI_all (g := g) (e := e) (vs := vs) (st := st) (rangeD 0 d) ((mk d f).map D.int) true [] (by simp [mk, rangeD]) (by simp [mk]; exact hd) fun i h1 h2 => by
    have hi : i < d := by simpa [rangeD] using h1
    have e1 : (rangeD 0 d)[i] = ⟨.frz, true, .int (0 + (i : Int))⟩ := by simp [rangeD]; rfl
    have e2 : ((mk d f).map D.int)[i] = .int (f i) := by simp [mk]
    rw [e1, e2]
    exact h i hi
  simpa using r
theorem dg_ix {a p : Int} {d i : Nat} (h : i < d) : (dg a p d).getD (0 + (i : Int)).toNat 0 = dk a p i := by
  rw [Int.zero_add, Int.toNat_natCast]
  exact dg_get h
theorem law_plus_eq (p : Int) (m : List Int) (a b : Int) (hp : 0 < p ∧ p < 1073741824) (hm : 1 ≤ m.length ∧ m.length ≤ 1000) : g__law_plus [.int p, .tup (m.map D.int), .int a, .int b] = .ok ⟨.frz, true, .int (padd p (m.length - 1) a b)⟩ := by
  have e0 : ((m.length : Int) - 1).toNat = m.length - 1 := by omega
  have d1 := law_digits_eq a p ((m.length : Int) - 1) hp ⟨by omega, by omega⟩
  have d2 := law_digits_eq b p ((m.length : Int) - 1) hp ⟨by omega, by omega⟩
  rw [e0] at d1 d2
  have r := comp_mk (g := tgName 7) (e := e1__law_plus) (vs := [7]) (d := m.length - 1) (f := fun k => (dk a p k + dk b p k) % p)
    (st := [some ⟨.frz, true, .int p⟩, some ⟨.frz, false, .tup (m.map D.int)⟩, some ⟨.frz, true, .int a⟩, some ⟨.frz, true, .int b⟩, some ⟨.frz, true, .int ((m.length : Int) - 1)⟩, some ⟨.frz, true, .lst ((dg a p (m.length - 1)).map D.int)⟩, some ⟨.frz, true, .lst ((dg b p (m.length - 1)).map D.int)⟩, none]) (by omega) fun i hi => by
    have h1 : 0 ≤ 0 + (i : Int) ∧ 0 + (i : Int) < ((dg a p (m.length - 1)).length : Int) := by rw [dg_len]; omega
    have h2 : 0 ≤ 0 + (i : Int) ∧ 0 + (i : Int) < ((dg b p (m.length - 1)).length : Int) := by rw [dg_len]; omega
    refine ⟨_, _, tgn_e, by unfold e1__law_plus; simp? only [h1, h2, hp, dg_ix hi]; rfl, by simp? only [], by simp? only []⟩
  have el := law_element_eq p (mk (m.length - 1) fun k => (dk a p k + dk b p k) % p) hp (by rw [mk_len]; omega)
  have hz : small ((m.length : Int) - 1) = true := small_i ⟨by omega, by omega⟩
  simp? only [g__law_plus, m__law_plus, d1, d2, hz, e0, r, el]
  rfl
end Nw

namespace Nw
open PySem Dl
theorem law_minus_eq (p : Int) (m : List Int) (a b : Int) (hp : 0 < p ∧ p < 1073741824) (hm : 1 ≤ m.length ∧ m.length ≤ 1000) : g__law_minus [.int p, .tup (m.map D.int), .int a, .int b] = .ok ⟨.frz, true, .int (psub p (m.length - 1) a b)⟩ := by
  have e0 : ((m.length : Int) - 1).toNat = m.length - 1 := by omega
  have d1 := law_digits_eq a p ((m.length : Int) - 1) hp ⟨by omega, by omega⟩
  have d2 := law_digits_eq b p ((m.length : Int) - 1) hp ⟨by omega, by omega⟩
  rw [e0] at d1 d2
  have r := comp_mk (g := tgName 7) (e := e1__law_minus) (vs := [7]) (d := m.length - 1) (f := fun k => (dk a p k - dk b p k) % p)
    (st := [some ⟨.frz, true, .int p⟩, some ⟨.frz, false, .tup (m.map D.int)⟩, some ⟨.frz, true, .int a⟩, some ⟨.frz, true, .int b⟩, some ⟨.frz, true, .int ((m.length : Int) - 1)⟩, some ⟨.frz, true, .lst ((dg a p (m.length - 1)).map D.int)⟩, some ⟨.frz, true, .lst ((dg b p (m.length - 1)).map D.int)⟩, none]) (by omega) fun i hi => by
    have h1 : 0 ≤ 0 + (i : Int) ∧ 0 + (i : Int) < ((dg a p (m.length - 1)).length : Int) := by rw [dg_len]; omega
    have h2 : 0 ≤ 0 + (i : Int) ∧ 0 + (i : Int) < ((dg b p (m.length - 1)).length : Int) := by rw [dg_len]; omega
    refine ⟨_, _, tgn_e, by unfold e1__law_minus; simp? only [h1, h2, hp, dg_ix hi]; rfl, by simp? only [], by simp? only []⟩
  have el := law_element_eq p (mk (m.length - 1) fun k => (dk a p k - dk b p k) % p) hp (by rw [mk_len]; omega)
  have hz : small ((m.length : Int) - 1) = true := small_i ⟨by omega, by omega⟩
  simp? only [g__law_minus, m__law_minus, d1, d2, hz, e0, r, el]
  rfl
theorem plus_eq (p : Int) (m : List Int) (d : Nat) (q : Int) (a b : Int) (hp : 0 < p ∧ p < 1073741824) (hd : 1 ≤ d ∧ d ≤ 1000) : g_Field_plus [fobj p m (d : Int) q, .int a, .int b] = .ok ⟨.frz, true, .int (padd p d a b)⟩ := by
  by_cases h1 : (d : Int) = 1
  · have h1' : d = 1 := by omega
    subst h1'
    rw [padd_one]
    simp? only [g_Field_plus, m_Field_plus, fobj, h1, hp]
  · have e0 : ((d : Nat) : Int).toNat = d := Int.toNat_natCast d
    have d1 := digits_eq p m (d : Int) q a hp ⟨by omega, by omega⟩
    have d2 := digits_eq p m (d : Int) q b hp ⟨by omega, by omega⟩
    rw [e0] at d1 d2
    have r := comp_mk (g := tgName 5) (e := e1_Field_plus) (vs := [5]) (d := d) (f := fun k => (dk a p k + dk b p k) % p)
      (st := [some ⟨.frz, false, fobj p m (d : Int) q⟩, some ⟨.frz, true, .int a⟩, some ⟨.frz, true, .int b⟩, some ⟨.frz, true, .lst ((dg a p d).map D.int)⟩, some ⟨.frz, true, .lst ((dg b p d).map D.int)⟩, none]) (by omega) fun i hi => by
      have h1 : 0 ≤ 0 + (i : Int) ∧ 0 + (i : Int) < ((dg a p d).length : Int) := by rw [dg_len]; omega
      have h2 : 0 ≤ 0 + (i : Int) ∧ 0 + (i : Int) < ((dg b p d).length : Int) := by rw [dg_len]; omega
      refine ⟨_, _, tgn_e, by unfold e1_Field_plus; simp? only [h1, h2, hp, dg_ix hi]; rfl, by simp? only [], by simp? only []⟩
    have el := element_eq p m (d : Int) q (mk d fun k => (dk a p k + dk b p k) % p) hp
    have hz : small (d : Int) = true := small_i ⟨by omega, by omega⟩
    simp only [fobj] at d1 d2 r el
    simp? only [g_Field_plus, m_Field_plus, fobj, h1, d1, d2, hz, e0, r, el]
    rfl
theorem negative_eq (p : Int) (m : List Int) (d : Nat) (q : Int) (a : Int) (hp : 0 < p ∧ p < 1073741824) (hd : 1 ≤ d ∧ d ≤ 1000) : g_Field_negative [fobj p m (d : Int) q, .int a] = .ok ⟨.frz, true, .int (pneg p d a)⟩ := by
  have e0 : ((d : Nat) : Int).toNat = d := Int.toNat_natCast d
  have d1 := digits_eq p m (d : Int) q a hp ⟨by omega, by omega⟩
  rw [e0] at d1
  have r := compI_all (g := tgName 2) (e := e1_Field_negative) (vs := [2]) (st := [some ⟨.frz, false, fobj p m (d : Int) q⟩, some ⟨.frz, true, .int a⟩, none]) (((dg a p d).map D.int).map (.el true)) ((mk d fun k => (0 - dk a p k) % p).map D.int) true [] (by simp [mk, dg]) (by simp [mk]; omega) fun i h1 h2 => by
    have hi : i < d := by simpa [dg] using h1
    have e1 : (((dg a p d).map D.int).map (TV.el true))[i] = ⟨.frz, true, .int (dk a p i)⟩ := by
      simp only [List.getElem_map, el_i]
      simp [dg]
    have e2 : ((mk d fun k => (0 - dk a p k) % p).map D.int)[i] = .int ((0 - dk a p i) % p) := by simp [mk]
    rw [e1, e2]
    refine ⟨_, _, tgn_e, by unfold e1_Field_negative; simp? only [hp, fobj]; rfl, by simp? only [fobj], by simp? only [fobj]⟩
  have el := element_eq p m (d : Int) q (mk d fun k => (0 - dk a p k) % p) hp
  rw [List.nil_append] at r
  simp only [fobj] at d1 r el
  simp? only [g_Field_negative, m_Field_negative, fobj, d1, r, el]
  rfl
theorem minus_eq (p : Int) (m : List Int) (d : Nat) (q : Int) (a b : Int) (hp : 0 < p ∧ p < 1073741824) (hd : 1 ≤ d ∧ d ≤ 1000) : g_Field_minus [fobj p m (d : Int) q, .int a, .int b] = .ok ⟨.frz, true, .int (psub p d a b)⟩ := by
  have e1 := negative_eq p m d q b hp hd
  have e2 := plus_eq p m d q a (pneg p d b) hp hd
  rw [padd_neg hp.1] at e2
  simp only [fobj] at e1 e2
  simp? only [g_Field_minus, m_Field_minus, fobj, e1, e2]
end Nw

namespace Nw
open PySem Dl
/-! ## sums -/
def sm : Nat → (Nat → Int) → Int
  | 0, _ => 0
  | n + 1, f => sm n f + f n
theorem sm_congr {n : Nat} {f g : Nat → Int} (h : ∀ k < n, f k = g k) : sm n f = sm n g := by
  induction n with
  | zero => rfl
  | succ n ih =>
    show sm n f + f n = sm n g + g n
    rw [ih fun k hk => h k (by omega), h n (by omega)]
theorem sm_add {n : Nat} {f g : Nat → Int} : sm n (fun k => f k + g k) = sm n f + sm n g := by
  induction n with
  | zero => rfl
  | succ n ih =>
    show sm n (fun k => f k + g k) + (f n + g n) = sm n f + f n + (sm n g + g n)
    rw [ih]
    omega
theorem sm_sub {n : Nat} {f g : Nat → Int} : sm n (fun k => f k - g k) = sm n f - sm n g := by
  induction n with
  | zero => rfl
  | succ n ih =>
    show sm n (fun k => f k - g k) + (f n - g n) = sm n f + f n - (sm n g + g n)
    rw [ih]
    omega
theorem sm_mul {n : Nat} {c : Int} {f : Nat → Int} : sm n (fun k => c * f k) = c * sm n f := by
  induction n with
  | zero => exact (Int.mul_zero c).symm
  | succ n ih =>
    show sm n (fun k => c * f k) + c * f n = c * (sm n f + f n)
    rw [ih, Int.mul_add]
theorem sm_mulr {n : Nat} {c : Int} {f : Nat → Int} : sm n (fun k => f k * c) = sm n f * c := by
  rw [Int.mul_comm, ← sm_mul]
  exact sm_congr fun k _ => Int.mul_comm _ _
theorem sm_zero {n : Nat} {f : Nat → Int} (h : ∀ k < n, f k = 0) : sm n f = 0 := by
  induction n with
  | zero => rfl
  | succ n ih =>
    show sm n f + f n = 0
    rw [ih fun k hk => h k (by omega), h n (by omega)]
    rfl
theorem sm_swap {n m : Nat} {f : Nat → Nat → Int} : sm n (fun i => sm m fun j => f i j) = sm m (fun j => sm n fun i => f i j) := by
  induction n with
  | zero => exact (sm_zero fun _ _ => rfl).symm
  | succ n ih =>
    show sm n (fun i => sm m fun j => f i j) + sm m (fun j => f n j) = sm m (fun j => sm n (fun i => f i j) + f n j)
    rw [ih, sm_add]
/-- one term alone -/
theorem sm_one {n i : Nat} {f : Nat → Int} (hi : i < n) (h : ∀ k < n, k ≠ i → f k = 0) : sm n f = f i := by
  induction n with
  | zero => omega
  | succ n ih =>
    show sm n f + f n = f i
    by_cases e : i = n
    · subst e
      rw [sm_zero fun k hk => h k (by omega) (by omega), Int.zero_add]
    · rw [ih (by omega) fun k hk he => h k (by omega) he, h n (by omega) (by omega), Int.add_zero]
/-- the first term apart -/
theorem sm_first {n : Nat} {f : Nat → Int} : sm (n + 1) f = f 0 + sm n (fun k => f (k + 1)) := by
  induction n with
  | zero =>
    show 0 + f 0 = f 0 + 0
    omega
  | succ n ih =>
    show sm (n + 1) f + f (n + 1) = f 0 + (sm n (fun k => f (k + 1)) + f (n + 1))
    rw [ih]
    omega
/-- two stretches -/
theorem sm_split {n m : Nat} {f : Nat → Int} : sm (n + m) f = sm n f + sm m (fun k => f (n + k)) := by
  induction m with
  | zero => exact (Int.add_zero _).symm
  | succ m ih =>
    show sm (n + m) f + f (n + m) = sm n f + (sm m (fun k => f (n + k)) + f (n + m))
    rw [ih]
    omega
/-! ## congruence -/
def Cg (p x y : Int) : Prop := p ∣ x - y
section
variable {p x y z u v c : Int}
theorem Cg.refl : Cg p x x := by
  unfold Cg
  rw [Int.sub_self]
  exact Int.dvd_zero p
theorem Cg.of_eq (h : x = y) : Cg p x y := h ▸ Cg.refl
theorem Cg.symm (h : Cg p x y) : Cg p y x := by
  unfold Cg at *
  rw [show y - x = -(x - y) by omega]
  exact Int.dvd_neg.mpr h
theorem Cg.trans (h : Cg p x y) (k : Cg p y z) : Cg p x z := by
  unfold Cg at *
  rw [show x - z = (x - y) + (y - z) by omega]
  exact Int.dvd_add h k
theorem Cg.add (h : Cg p x y) (k : Cg p u v) : Cg p (x + u) (y + v) := by
  unfold Cg at *
  rw [show x + u - (y + v) = (x - y) + (u - v) by omega]
  exact Int.dvd_add h k
theorem Cg.sub (h : Cg p x y) (k : Cg p u v) : Cg p (x - u) (y - v) := by
  unfold Cg at *
  rw [show x - u - (y - v) = (x - y) - (u - v) by omega]
  exact Int.dvd_sub h k
theorem Cg.mul (h : Cg p x y) (k : Cg p u v) : Cg p (x * u) (y * v) := by
  unfold Cg at *
  rw [show x * u - y * v = (x - y) * u + y * (u - v) by rw [Int.sub_mul, Int.mul_sub]; omega]
  exact Int.dvd_add (Int.dvd_mul_of_dvd_left h) (Int.dvd_mul_of_dvd_right k)
theorem Cg.mod : Cg p (x % p) x := by
  unfold Cg
  rw [show x % p - x = -(p * (x / p)) by have := Int.emod_add_mul_ediv x p; omega]
  exact Int.dvd_neg.mpr (Int.dvd_mul_right p _)
theorem Cg.emod (h : Cg p x y) : x % p = y % p := Int.emod_eq_emod_iff_emod_sub_eq_zero.mpr (Int.emod_eq_zero_of_dvd h)
theorem Cg.of_emod (h : x % p = y % p) : Cg p x y := (Cg.mod.symm.trans (Cg.of_eq h)).trans Cg.mod
theorem Cg.sm {n : Nat} {f g : Nat → Int} (h : ∀ k < n, Cg p (f k) (g k)) : Cg p (sm n f) (sm n g) := by
  induction n with
  | zero => exact Cg.refl
  | succ n ih => exact (ih fun k hk => h k (by omega)).add (h n (by omega))
end
/-! ## the powers of x modulo a monic polynomial m of degree d -/
def sh (d : Nat) (m : Nat → Int) (v : Nat → Int) (j : Nat) : Int := (match j with
  | 0 => 0
  | i + 1 => v i) - v (d - 1) * m j
def xp (d : Nat) (m : Nat → Int) : Nat → Nat → Int
  | 0, j => if j = 0 then 1 else 0
  | k + 1, j => sh d m (xp d m k) j
theorem sh_lin {d n : Nat} {m : Nat → Int} {c : Nat → Int} {v : Nat → Nat → Int} {j : Nat} : sh d m (fun i => sm n fun k => c k * v k i) j = sm n fun k => c k * sh d m (v k) j := by
  unfold sh
  cases j with
  | zero =>
    dsimp only
    rw [← sm_mulr, Int.zero_sub]
    have e : (sm n fun k => c k * (0 - v k (d - 1) * m 0)) = sm n fun k => (0 : Int) - c k * v k (d - 1) * m 0 := sm_congr fun k _ => by
      rw [Int.zero_sub, Int.zero_sub, Int.mul_neg, Int.mul_assoc]
    rw [e, sm_sub, sm_zero fun _ _ => rfl]
    omega
  | succ i =>
    dsimp only
    rw [← sm_mulr, ← sm_sub]
    exact sm_congr fun k _ => by rw [Int.mul_sub, Int.mul_assoc]
theorem xp_low {d : Nat} {m : Nat → Int} : ∀ {k j : Nat}, k < d → j < d → xp d m k j = if j = k then 1 else 0
  | 0, j, _, _ => rfl
  | k + 1, j, hk, hj => by
    have e : xp d m k (d - 1) = 0 := by
      rw [xp_low (by omega) (by omega), if_neg (by omega)]
    show sh d m (xp d m k) j = _
    unfold sh
    rw [e, Int.zero_mul, Int.sub_zero]
    cases j with
    | zero => rfl
    | succ i =>
      dsimp only
      rw [xp_low (by omega) (by omega)]
      by_cases c : i = k
      · rw [if_pos c, if_pos (by omega)]
      · rw [if_neg c, if_neg (by omega)]
theorem xp_d {d : Nat} {m : Nat → Int} (hd : 1 ≤ d) {j : Nat} (hj : j < d) : xp d m d j = - m j := by
  obtain ⟨e, rfl⟩ : ∃ e, d = e + 1 := ⟨d - 1, by omega⟩
  show sh (e + 1) m (xp (e + 1) m e) j = _
  unfold sh
  rw [show e + 1 - 1 = e by omega, xp_low (by omega) (by omega), if_pos rfl, Int.one_mul]
  cases j with
  | zero => exact Int.zero_sub _
  | succ i =>
    dsimp only
    rw [xp_low (by omega) (by omega), if_neg (by omega)]
    exact Int.zero_sub _
/-- m itself is nothing -/
theorem xp_root {d : Nat} {m : Nat → Int} (hd : 1 ≤ d) (hm : m d = 1) : ∀ (s : Nat) {j : Nat}, j < d → sm (d + 1) (fun k => m k * xp d m (s + k) j) = 0
  | 0, j, hj => by
    show sm d (fun k => m k * xp d m (0 + k) j) + m d * xp d m (0 + d) j = 0
    rw [Nat.zero_add, xp_d hd hj, hm, sm_one hj fun k hk he => by
      rw [Nat.zero_add, xp_low hk hj, if_neg (by omega), Int.mul_zero], Nat.zero_add, xp_low hj hj, if_pos rfl]
    omega
  | s + 1, j, hj => by
    have e : sm (d + 1) (fun k => m k * xp d m (s + 1 + k) j) = sh d m (fun i => sm (d + 1) fun k => m k * xp d m (s + k) i) j := by
      rw [sh_lin]
      exact sm_congr fun k _ => by
        rw [show s + 1 + k = (s + k) + 1 by omega]
        rfl
    rw [e]
    unfold sh
    dsimp only
    rw [xp_root hd hm s (show d - 1 < d by omega), Int.zero_mul]
    cases j with
    | zero => rfl
    | succ i =>
      dsimp only
      rw [xp_root hd hm s (show i < d by omega)]
      rfl
/-- a polynomial's remainder -/
def rm (d : Nat) (m : Nat → Int) (n : Nat) (f : Nat → Int) (j : Nat) : Int := sm n fun k => f k * xp d m k j
theorem rm_low {d : Nat} {m f : Nat → Int} {j : Nat} (hj : j < d) : rm d m d f j = f j := by
  unfold rm
  rw [sm_one hj fun k hk he => by rw [xp_low hk hj, if_neg (by omega), Int.mul_zero], xp_low hj hj, if_pos rfl, Int.mul_one]
/-- one step of a division: the highest coefficient goes -/
theorem rm_step {d : Nat} {m f g : Nat → Int} {p : Int} {n : Nat} (hd : 1 ≤ d) (hm : m d = 1) (hn : d ≤ n) (h : ∀ k < n - d, Cg p (g k) (f k)) (h2 : ∀ k < d, Cg p (g (n - d + k)) (f (n - d + k) - f n * m k)) {j : Nat} (hj : j < d) : Cg p (rm d m n g j) (rm d m (n + 1) f j) := by
  unfold rm
  have e0 : n = (n - d) + d := by omega
  have z := xp_root hd hm (n - d) hj
  have e2 : sm (n + 1) (fun k => f k * xp d m k j) = sm (n - d) (fun k => f k * xp d m k j) + sm d (fun k => (f (n - d + k) - f n * m k) * xp d m (n - d + k) j) := by
    have e3 : sm d (fun k => (f (n - d + k) - f n * m k) * xp d m (n - d + k) j) = sm d (fun k => f (n - d + k) * xp d m (n - d + k) j) - f n * sm d (fun k => m k * xp d m (n - d + k) j) := by
      rw [← sm_mul, ← sm_sub]
      exact sm_congr fun k _ => by rw [Int.sub_mul, Int.mul_assoc]
    have z : sm d (fun k => m k * xp d m (n - d + k) j) + m d * xp d m (n - d + d) j = 0 := z
    rw [hm, Int.one_mul, ← e0] at z
    have z2 : f n * sm d (fun k => m k * xp d m (n - d + k) j) = - (f n * xp d m n j) := by
      rw [← Int.mul_neg]
      congr 1
      omega
    rw [e3, z2]
    show sm n (fun k => f k * xp d m k j) + f n * xp d m n j = _
    have e4 : sm n (fun k => f k * xp d m k j) = sm (n - d) (fun k => f k * xp d m k j) + sm d (fun k => f (n - d + k) * xp d m (n - d + k) j) := by
      rw [← sm_split, ← e0]
    rw [e4]
    omega
  rw [e2]
  have e5 : sm n (fun k => g k * xp d m k j) = sm (n - d) (fun k => g k * xp d m k j) + sm d (fun k => g (n - d + k) * xp d m (n - d + k) j) := by
    rw [← sm_split, ← e0]
  rw [e5]
  exact (Cg.sm fun k hk => (h k hk).mul Cg.refl).add (Cg.sm fun k hk => (h2 k hk).mul Cg.refl)
/-- a product's remainder -/
def ml (d : Nat) (m : Nat → Int) (a b : Nat → Int) (j : Nat) : Int := sm d fun i => sm d fun l => a i * b l * xp d m (i + l) j
theorem ml_comm {d : Nat} {m a b : Nat → Int} {j : Nat} : ml d m a b j = ml d m b a j := by
  unfold ml
  rw [sm_swap]
  exact sm_congr fun i _ => sm_congr fun l _ => by rw [Int.mul_comm (a l), Nat.add_comm l i]
theorem ml_cg {d : Nat} {m a b a' b' : Nat → Int} {p : Int} {j : Nat} (h : ∀ k < d, Cg p (a k) (a' k)) (h2 : ∀ k < d, Cg p (b k) (b' k)) : Cg p (ml d m a b j) (ml d m a' b' j) :=
  Cg.sm fun i hi => Cg.sm fun l hl => ((h i hi).mul (h2 l hl)).mul Cg.refl
theorem ml_add {d : Nat} {m a b c : Nat → Int} {j : Nat} : ml d m a (fun k => b k + c k) j = ml d m a b j + ml d m a c j := by
  unfold ml
  rw [← sm_add]
  exact sm_congr fun i _ => by
    rw [← sm_add]
    exact sm_congr fun l _ => by rw [Int.mul_add, Int.add_mul]
end Nw

namespace Nw
open PySem Dl
abbrev gi (L : List Int) (k : Nat) : Int := L.getD k 0
theorem gi_mk {d : Nat} {f : Nat → Int} {k : Nat} (h : k < d) : gi (mk d f) k = f k := by
  unfold gi
  rw [List.getD_eq_getElem?_getD, List.getElem?_eq_getElem (by rw [mk_len]; exact h), Option.getD_some, mk_get]
theorem gi_get {L : List Int} {k : Nat} (h : k < L.length) : gi L k = L[k] := by
  unfold gi
  rw [List.getD_eq_getElem?_getD, List.getElem?_eq_getElem h, Option.getD_some]
theorem gi_out {L : List Int} {k : Nat} (h : L.length ≤ k) : gi L k = 0 := by
  unfold gi
  rw [List.getD_eq_getElem?_getD, List.getElem?_eq_none h, Option.getD_none]
theorem mk_gi {L : List Int} : mk L.length (gi L) = L := by
  refine List.ext_getElem mk_len fun k h1 h2 => ?_
  rw [mk_get, gi_get h2]
theorem gi_dig {p : Int} {L : List Int} (h : Dig p L) {k : Nat} (hk : k < L.length) : 0 ≤ gi L k ∧ gi L k < p := by
  rw [gi_get hk]
  exact h _ (List.getElem_mem hk)
theorem list_eq {L M : List Int} (h : L.length = M.length) (h2 : ∀ k < L.length, gi L k = gi M k) : L = M := by
  refine List.ext_getElem h fun k h1 h3 => ?_
  have := h2 k h1
  rwa [gi_get h1, gi_get h3] at this
theorem gi_set {L : List Int} {t k : Nat} {v : Int} (h : t < L.length) : gi (L.set t v) k = if k = t then v else gi L k := by
  unfold gi
  rw [List.getD_eq_getElem?_getD, List.getD_eq_getElem?_getD, List.getElem?_set]
  by_cases e : t = k
  · rw [if_pos e, if_pos e.symm, if_pos h]
    rfl
  · rw [if_neg e, if_neg fun z => e z.symm]
theorem gi_dropLast {L : List Int} {k : Nat} (h : k < L.length - 1) : gi L.dropLast k = gi L k := by
  rw [gi_get (by simpa using h), gi_get (by omega), List.getElem_dropLast]
/-! ## integer_remainder -/
def stepL (p : Int) (m R : List Int) : List Int := mk (R.length - 1) fun i => if R.length - 1 - (m.length - 1) ≤ i then (gi R i - gi R (R.length - 1) * gi m (i - (R.length - 1 - (m.length - 1)))) % p else gi R i
def remI (p : Int) (m R : List Int) : Nat → List Int
  | 0 => R
  | i + 1 => stepL p m (remI p m R i)
theorem stepL_len {p : Int} {m R : List Int} : (stepL p m R).length = R.length - 1 := mk_len
theorem remI_len {p : Int} {m R : List Int} : ∀ i, (remI p m R i).length = R.length - i
  | 0 => rfl
  | i + 1 => by
    show (stepL p m (remI p m R i)).length = _
    rw [stepL_len, remI_len i]
    omega
/-- the inner walk's list after k turns -/
def inL (p f : Int) (m R : List Int) (s k : Nat) : List Int := mk R.length fun i => if s ≤ i ∧ i < s + k then (gi R i - f * gi m (i - s)) % p else gi R i
theorem inL_zero {p f : Int} {m R : List Int} {s : Nat} : inL p f m R s 0 = R := by
  refine list_eq mk_len fun k hk => ?_
  unfold inL at *
  rw [mk_len] at hk
  rw [gi_mk hk, if_neg (by omega)]
theorem inL_succ {p f : Int} {m R : List Int} {s k : Nat} (h : s + k < R.length) : (inL p f m R s k).set (s + k) ((gi (inL p f m R s k) (s + k) - f * gi m k) % p) = inL p f m R s (k + 1) := by
  have hl : (inL p f m R s k).length = R.length := mk_len
  have g1 : ∀ k' i, i < R.length → gi (inL p f m R s k') i = if s ≤ i ∧ i < s + k' then (gi R i - f * gi m (i - s)) % p else gi R i := fun k' i hi => gi_mk hi
  refine list_eq (by rw [List.length_set, hl]; exact mk_len.symm) fun i hi => ?_
  rw [List.length_set, hl] at hi
  rw [gi_set (by rw [hl]; exact h), g1 _ _ hi, g1 _ _ h]
  by_cases e : i = s + k
  · subst e
    rw [if_pos rfl, if_neg (by omega), g1 _ _ hi, if_pos (by omega), show s + k - s = k by omega]
  · rw [if_neg e, g1 _ _ hi]
    by_cases c : s ≤ i ∧ i < s + k
    · rw [if_pos c, if_pos (by omega)]
    · rw [if_neg c, if_neg (by omega)]
theorem inL_drop {p : Int} {m R : List Int} (h : m.length - 1 < R.length) : (inL p (gi R (R.length - 1)) m R (R.length - 1 - (m.length - 1)) (m.length - 1 + 1)).dropLast = stepL p m R := by
  have hl : (inL p (gi R (R.length - 1)) m R (R.length - 1 - (m.length - 1)) (m.length - 1 + 1)).length = R.length := mk_len
  refine list_eq (by rw [List.length_dropLast, hl, stepL_len]) fun i hi => ?_
  rw [List.length_dropLast, hl] at hi
  rw [gi_dropLast (by rw [hl]; exact hi)]
  unfold inL stepL
  rw [gi_mk (by omega), gi_mk hi]
  by_cases c : R.length - 1 - (m.length - 1) ≤ i
  · rw [if_pos ⟨c, by omega⟩, if_pos c]
  · rw [if_neg (by omega), if_neg c]
abbrev remS (p : Int) (X Y : D) (d : Nat) (R : List Int) (a b c : Option TV) : Sta := [some ⟨.frz, true, .int p⟩, some ⟨.frz, false, X⟩, some ⟨.frz, false, Y⟩, some ⟨.frz, true, .int (d : Int)⟩, some ⟨.own, false, .lst (R.map D.int)⟩, a, b, c]
theorem rem_turn {p : Int} {m R : List Int} {X Y : D} (hp : 0 < p ∧ p < 1073741824) (hm : Dig p m) (hm1 : 1 ≤ m.length) (hR : m.length - 1 < R.length) (hs : R.length < 16777216)
    (hY : ∀ (i : Int), 0 ≤ i → i < m.length → fIx ⟨.frz, false, Y⟩ ⟨.frz, true, .int i⟩ = some ⟨.frz, true, .int (gi m i.toNat)⟩) :
    b2_integer_remainder (remS p X Y (m.length - 1) R none none none) = .ok (.next, remS p X Y (m.length - 1) (stepL p m R) none none none) := by
  have r := forI_rng (f := turnF (tgName 7) b1_integer_remainder) (lo := 0) (n := m.length - 1 + 1) (fun k => remS p X Y (m.length - 1) (inL p (gi R (R.length - 1)) m R (R.length - 1 - (m.length - 1)) k) (some ⟨.frz, true, .int (gi R (R.length - 1))⟩) (some ⟨.frz, true, .int ((R.length - 1 - (m.length - 1) : Nat) : Int)⟩) none) fun k hk => .inl (by
    have hl : (inL p (gi R (R.length - 1)) m R (R.length - 1 - (m.length - 1)) k).length = R.length := mk_len
    have a1 : 0 ≤ 0 + (k : Int) ∧ 0 + (k : Int) < (m.length : Int) := by omega
    have a2 := hY (0 + (k : Int)) a1.1 a1.2
    have a3 : 0 ≤ ((R.length - 1 - (m.length - 1) : Nat) : Int) + (0 + (k : Int)) ∧ ((R.length - 1 - (m.length - 1) : Nat) : Int) + (0 + (k : Int)) < ((inL p (gi R (R.length - 1)) m R (R.length - 1 - (m.length - 1)) k).length : Int) := by rw [hl]; omega
    have a4 : (((R.length - 1 - (m.length - 1) : Nat) : Int) + (0 + (k : Int))).toNat = R.length - 1 - (m.length - 1) + k := by omega
    have a5 : R.length - 1 - (m.length - 1) + k < (inL p (gi R (R.length - 1)) m R (R.length - 1 - (m.length - 1)) k).length := by rw [hl]; omega
    have a6 : mulOk (gi R (R.length - 1)) (gi m (0 + (k : Int)).toNat) = true := by
      have := gi_dig hm (k := (0 + (k : Int)).toNat) (by omega)
      exact mulOk_r ⟨by omega, by omega⟩
    have a7 : (0 + (k : Int)).toNat = k := by omega
    have a8 := inL_succ (p := p) (f := gi R (R.length - 1)) (m := m) (R := R) (s := R.length - 1 - (m.length - 1)) (k := k) (by omega)
    rw [a7] at a2 a6
    rw [turn_s tgn_e]
    unfold b1_integer_remainder
    simp? only [remS, a2, a3, a6, hp, a4, a5, map_set, a8])
  have b0 : R ≠ [] := fun z => by rw [z] at hR; exact Nat.not_lt_zero _ hR
  have b1 : (((m.length - 1 : Nat) : Int) + 1).toNat = m.length - 1 + 1 := by omega
  have b2 : small (((m.length - 1 : Nat) : Int) + 1) = true := small_i ⟨by omega, by omega⟩
  have b3 : (R.length : Int) - 1 - ((m.length - 1 : Nat) : Int) = ((R.length - 1 - (m.length - 1) : Nat) : Int) := by omega
  have b4 : List.map D.int (inL p (gi R (R.length - 1)) m R (R.length - 1 - (m.length - 1)) (m.length - 1 + 1)) ≠ [] := fun z => by
    have := congrArg List.length z
    rw [List.length_map, show (inL p (gi R (R.length - 1)) m R (R.length - 1 - (m.length - 1)) (m.length - 1 + 1)).length = R.length from mk_len] at this
    rw [List.length_nil] at this
    omega
  have b5 := inL_drop (p := p) (m := m) (R := R) hR
  rw [inL_zero] at r
  unfold b2_integer_remainder
  simp only [remS] at r
  simp? only [remS, ix_li1, b0, ne_eq, not_false_eq_true, b3, b1, b2, r, b4, map_dropLast, b5]
theorem rem_eq {p : Int} {m L : List Int} {X Y : D} (hp : 0 < p ∧ p < 1073741824) (hm : Dig p m) (hm1 : 1 ≤ m.length) (hs : L.length < 16777216) (hs2 : m.length < 16777216)
    (hX : fList ⟨.frz, false, X⟩ = some ⟨.own, false, .lst (L.map D.int)⟩) (hY0 : fLen ⟨.frz, false, Y⟩ = some ⟨.frz, true, .int (m.length : Int)⟩) (hYe : TV.el false Y = ⟨.frz, false, Y⟩) (hXe : TV.el false X = ⟨.frz, false, X⟩)
    (hY : ∀ (i : Int), 0 ≤ i → i < m.length → fIx ⟨.frz, false, Y⟩ ⟨.frz, true, .int i⟩ = some ⟨.frz, true, .int (gi m i.toNat)⟩) :
    g_integer_remainder [.int p, X, Y] = .ok ⟨.own, false, .lst ((remI p m L (L.length - (m.length - 1))).map D.int)⟩ := by
  have w := whileD_run (c := c1_integer_remainder) (b := b2_integer_remainder) (fun i => remS p X Y (m.length - 1) (remI p m L i) none none none) (L.length - (m.length - 1)) fuel0 (by unfold fuel0; omega) (fun i hi => by
    have hl := remI_len (p := p) (m := m) (R := L) i
    have c1 : ((m.length - 1 : Nat) : Int) < ((remI p m L i).length : Int) := by rw [hl]; omega
    refine ⟨?_, rem_turn hp hm hm1 (by omega) (by omega) hY⟩
    unfold c1_integer_remainder
    simp? only [remS, c1]) (by
    have hl := remI_len (p := p) (m := m) (R := L) (L.length - (m.length - 1))
    have c1 : ¬ ((m.length - 1 : Nat) : Int) < ((remI p m L (L.length - (m.length - 1))).length : Int) := by rw [hl]; omega
    unfold c1_integer_remainder
    simp? only [remS, c1])
  have e0 : ((m.length : Int) - 1) = ((m.length - 1 : Nat) : Int) := by omega
  have w0 : remI p m L 0 = L := rfl
  simp only [remS, w0] at w
  simp? only [g_integer_remainder, m_integer_remainder, hXe, hYe, hY0, hX, e0, w]
theorem rem_lt (p : Int) (m L : List Int) (hp : 0 < p ∧ p < 1073741824) (hm : Dig p m) (hm1 : 1 ≤ m.length) (hs : L.length < 16777216) (hs2 : m.length < 16777216) :
    g_integer_remainder [.int p, .lst (L.map D.int), .tup (m.map D.int)] = .ok ⟨.own, false, .lst ((remI p m L (L.length - (m.length - 1))).map D.int)⟩ :=
  rem_eq (L := L) hp hm hm1 hs hs2 rfl (by rw [len_t, List.length_map]) rfl rfl fun i h1 h2 => ix_ti ⟨h1, h2⟩
theorem rem_tl (p : Int) (m L : List Int) (hp : 0 < p ∧ p < 1073741824) (hm : Dig p m) (hm1 : 1 ≤ m.length) (hs : L.length < 16777216) (hs2 : m.length < 16777216) :
    g_integer_remainder [.int p, .tup (L.map D.int), .lst (m.map D.int)] = .ok ⟨.own, false, .lst ((remI p m L (L.length - (m.length - 1))).map D.int)⟩ :=
  rem_eq (L := L) hp hm hm1 hs hs2 rfl (by rw [len_l, List.length_map]) rfl rfl fun i h1 h2 => ix_li ⟨h1, h2⟩
/-! ### what the remainder is -/
theorem stepL_dig {p : Int} {m R : List Int} (hp : 0 < p) (h : Dig p R) : Dig p (stepL p m R) := fun x hx => by
  unfold stepL mk at hx
  obtain ⟨i, hi, rfl⟩ := List.mem_map.mp hx
  have hi := List.mem_range.mp hi
  by_cases c : R.length - 1 - (m.length - 1) ≤ i
  · rw [if_pos c]
    exact ⟨Int.emod_nonneg _ (by omega), Int.emod_lt_of_pos _ hp⟩
  · rw [if_neg c]
    exact gi_dig h (by omega)
theorem remI_dig {p : Int} {m R : List Int} (hp : 0 < p) (h : Dig p R) : ∀ i, Dig p (remI p m R i)
  | 0 => h
  | i + 1 => stepL_dig hp (remI_dig hp h i)
theorem stepL_rm {p : Int} {m R : List Int} (hd : 2 ≤ m.length) (hm : gi m (m.length - 1) = 1) (hR : m.length - 1 < R.length) {j : Nat} (hj : j < m.length - 1) :
    Cg p (rm (m.length - 1) (gi m) (stepL p m R).length (gi (stepL p m R)) j) (rm (m.length - 1) (gi m) R.length (gi R) j) := by
  have e : R.length = (R.length - 1) + 1 := by omega
  have z := rm_step (d := m.length - 1) (m := gi m) (f := gi R) (g := gi (stepL p m R)) (p := p) (n := R.length - 1) (by omega) hm (by omega) (fun k hk => by
    unfold stepL
    rw [gi_mk (by omega), if_neg (by omega)]
    exact Cg.refl) (fun k hk => by
    unfold stepL
    rw [gi_mk (by omega), if_pos (by omega), show R.length - 1 - (m.length - 1) + k - (R.length - 1 - (m.length - 1)) = k by omega]
    exact Cg.mod) hj
  rw [← e] at z
  rw [stepL_len]
  exact z
theorem remI_rm {p : Int} {m R : List Int} (hd : 2 ≤ m.length) (hm : gi m (m.length - 1) = 1) {j : Nat} (hj : j < m.length - 1) : ∀ i, i + (m.length - 1) ≤ R.length → Cg p (rm (m.length - 1) (gi m) (remI p m R i).length (gi (remI p m R i)) j) (rm (m.length - 1) (gi m) R.length (gi R) j)
  | 0, _ => Cg.refl
  | i + 1, h => (stepL_rm hd hm (by rw [remI_len]; omega) hj).trans (remI_rm hd hm hj i (by omega))
theorem rem_spec {p : Int} {m L : List Int} (hp : 0 < p) (hd : 2 ≤ m.length) (hm : gi m (m.length - 1) = 1) (hL : Dig p L) (hl : m.length - 1 ≤ L.length) :
    remI p m L (L.length - (m.length - 1)) = mk (m.length - 1) fun j => rm (m.length - 1) (gi m) L.length (gi L) j % p := by
  have hl2 : (remI p m L (L.length - (m.length - 1))).length = m.length - 1 := by
    rw [remI_len]
    omega
  refine list_eq (by rw [hl2, mk_len]) fun j hj => ?_
  rw [hl2] at hj
  rw [gi_mk hj]
  have z := remI_rm (p := p) (R := L) hd hm hj (L.length - (m.length - 1)) (by omega)
  rw [hl2, rm_low hj] at z
  have b := gi_dig (remI_dig (m := m) hp hL (L.length - (m.length - 1))) (k := j) (by rw [hl2]; exact hj)
  rw [← Int.emod_eq_of_lt b.1 b.2]
  exact z.emod
end Nw

namespace Nw
open PySem Dl
theorem rep_int {n : Nat} {z : Int} : (List.replicate n [D.int z]).flatten = (List.replicate n z).map D.int := by
  rw [List.map_replicate]
  induction n with
  | zero => rfl
  | succ n ih => rw [List.replicate_succ, List.flatten_cons, ih, List.replicate_succ, List.singleton_append]
theorem gi_rep {n k : Nat} : gi (List.replicate n 0) k = 0 := by
  by_cases h : k < n
  · rw [gi_get (by simpa using h), List.getElem_replicate]
  · exact gi_out (by simp; omega)
theorem dig_rep {p : Int} (hp : 0 < p) {n : Nat} : Dig p (List.replicate n 0) := fun x hx => by
  rw [(List.mem_replicate.mp hx).2]
  exact ⟨Int.le_refl 0, hp⟩
theorem dig_set {p : Int} {L : List Int} (h : Dig p L) {t : Nat} {v : Int} (hv : 0 ≤ v ∧ v < p) : Dig p (L.set t v) := fun x hx => by
  rcases List.mem_or_eq_of_mem_set hx with z | z
  · exact h x z
  · rw [z]
    exact hv
theorem rm_set {d n t : Nat} {m : Nat → Int} {L : List Int} {v : Int} {j : Nat} (ht : t < n) (hl : L.length = n) : rm d m n (gi (L.set t v)) j = rm d m n (gi L) j + (v - gi L t) * xp d m t j := by
  unfold rm
  have e : sm n (fun k => gi (L.set t v) k * xp d m k j) = sm n (fun k => gi L k * xp d m k j + (if k = t then (v - gi L t) * xp d m t j else 0)) := sm_congr fun k _ => by
    rw [gi_set (by omega)]
    by_cases c : k = t
    · subst c
      rw [if_pos rfl, if_pos rfl, ← Int.add_mul]
      congr 1
      omega
    · rw [if_neg c, if_neg c, Int.add_zero]
  rw [e, sm_add, sm_one ht fun k _ hk => if_neg hk, if_pos rfl]
/-- the product -/
def ptimes (p : Int) (m : List Int) (a b : Int) : Int := val p (mk (m.length - 1) fun j => ml (m.length - 1) (gi m) (dk a p) (dk b p) j % p)
structure ModOk (p : Int) (m : List Int) : Prop where
  hp : 1 < p ∧ p < 1073741824
  hm : 2 ≤ m.length ∧ m.length ≤ 1000
  dig : Dig p m
  top : gi m (m.length - 1) = 1
abbrev tmS (p : Int) (m : List Int) (q a b : Int) (P : List Int) (x y : Option TV) : Sta := [some ⟨.frz, false, fobj p m ((m.length - 1 : Nat) : Int) q⟩, some ⟨.frz, true, .int a⟩, some ⟨.frz, true, .int b⟩, some ⟨.frz, true, .lst ((dg a p (m.length - 1)).map D.int)⟩, some ⟨.frz, true, .lst ((dg b p (m.length - 1)).map D.int)⟩, some ⟨.own, true, .lst (P.map D.int)⟩, x, y]
/-- the part of the product that stands after i whole rows and l places of the next -/
def part (p : Int) (m : List Int) (a b : Int) (i l j : Nat) : Int := sm i (fun i' => sm (m.length - 1) fun l' => dk a p i' * dk b p l' * xp (m.length - 1) (gi m) (i' + l') j) + sm l (fun l' => dk a p i * dk b p l' * xp (m.length - 1) (gi m) (i + l') j)
def tmI (p : Int) (m : List Int) (a b : Int) (i l : Nat) (P : List Int) : Prop := P.length = 2 * (m.length - 1) - 1 ∧ Dig p P ∧ ∀ j < m.length - 1, Cg p (rm (m.length - 1) (gi m) (2 * (m.length - 1) - 1) (gi P) j) (part p m a b i l j)
theorem tmI_set {p : Int} {m : List Int} {a b : Int} {i l : Nat} {P : List Int} (hp : 0 < p) (hi : i < m.length - 1) (hl : l < m.length - 1) (h : tmI p m a b i l P) : tmI p m a b i (l + 1) (P.set (i + l) ((gi P (i + l) + dk a p i * dk b p l) % p)) := by
  obtain ⟨h1, h2, h3⟩ := h
  refine ⟨by rw [List.length_set, h1], dig_set h2 ⟨Int.emod_nonneg _ (by omega), Int.emod_lt_of_pos _ hp⟩, fun j hj => ?_⟩
  rw [rm_set (by omega) h1]
  have e : part p m a b i (l + 1) j = part p m a b i l j + dk a p i * dk b p l * xp (m.length - 1) (gi m) (i + l) j := by
    unfold part
    rw [Int.add_assoc]
    rfl
  rw [e]
  refine (h3 j hj).add (Cg.mul ?_ Cg.refl)
  have z := (Cg.mod (p := p) (x := gi P (i + l) + dk a p i * dk b p l)).sub (Cg.refl (x := gi P (i + l)))
  rw [show gi P (i + l) + dk a p i * dk b p l - gi P (i + l) = dk a p i * dk b p l by omega] at z
  exact z
theorem part_row {p : Int} {m : List Int} {a b : Int} {i j : Nat} : part p m a b i (m.length - 1) j = part p m a b (i + 1) 0 j := by
  unfold part
  show _ = sm i _ + _ + 0
  rw [Int.add_zero]
theorem times_in {p : Int} {m : List Int} {q a b : Int} (M : ModOk p m) {i : Nat} (hi : i < m.length - 1) {P : List Int} (h : tmI p m a b i 0 P) :
    ∃ P', turnF (tgName 6) b2_Field_times ⟨.frz, true, .int (0 + (i : Int))⟩ (tmS p m q a b P none none) = .ok (.next, tmS p m q a b P' none none) ∧ tmI p m a b (i + 1) 0 P' := by
  have hp := M.hp
  have hm := M.hm
  have r := forI_invr (f := turnF (tgName 7) b1_Field_times) (lo := 0) (n := m.length - 1) (fun l st => ∃ P, st = tmS p m q a b P (some ⟨.frz, true, .int (0 + (i : Int))⟩) none ∧ tmI p m a b i l P) (tmS p m q a b P (some ⟨.frz, true, .int (0 + (i : Int))⟩) none) ⟨P, rfl, h⟩ fun l hl st hs => by
    obtain ⟨P, rfl, h⟩ := hs
    refine ⟨tmS p m q a b (P.set (i + l) ((gi P (i + l) + dk a p i * dk b p l) % p)) (some ⟨.frz, true, .int (0 + (i : Int))⟩) none, ?_, _, rfl, tmI_set (by omega) hi hl h⟩
    have hP := h.1
    have a1 : 0 ≤ 0 + (i : Int) ∧ 0 + (i : Int) < ((dg a p (m.length - 1)).length : Int) := by rw [dg_len]; omega
    have a2 : 0 ≤ 0 + (l : Int) ∧ 0 + (l : Int) < ((dg b p (m.length - 1)).length : Int) := by rw [dg_len]; omega
    have a3 : 0 ≤ 0 + (i : Int) + (0 + (l : Int)) ∧ 0 + (i : Int) + (0 + (l : Int)) < (P.length : Int) := by rw [hP]; omega
    have a4 : (0 + (i : Int) + (0 + (l : Int))).toNat = i + l := by omega
    have a5 : i + l < P.length := by rw [hP]; omega
    have a6 : mulOk (dk a p i) (dk b p l) = true := by
      have := dk_dig (n := a) (b := p) (by omega) i
      exact mulOk_l ⟨by omega, by omega⟩
    have a7 : 0 < p := by omega
    rw [turn_s tgn_e]
    unfold b1_Field_times
    simp? only [tmS, fobj, a1, a2, a3, a6, a7, a4, a5, dg_ix hi, dg_ix hl, map_set]
  obtain ⟨_, r, P', rfl, h'⟩ := r
  refine ⟨P', ?_, h'.1, h'.2.1, fun j hj => ?_⟩
  · have b1 : small ((m.length - 1 : Nat) : Int) = true := small_i ⟨by omega, by omega⟩
    have b2 : ((m.length - 1 : Nat) : Int).toNat = m.length - 1 := Int.toNat_natCast _
    rw [turn_s tgn_e]
    unfold b2_Field_times
    simp only [tmS, fobj] at r
    simp? only [tmS, fobj, b1, b2, r]
  · rw [← part_row]
    exact h'.2.2 j hj
theorem times_eq (p : Int) (m : List Int) (q a b : Int) (M : ModOk p m) (ha : 0 ≤ a ∧ a < 1073741824) : g_Field_times [fobj p m ((m.length - 1 : Nat) : Int) q, .int a, .int b] = .ok ⟨.frz, true, .int (ptimes p m a b)⟩ := by
  have hp := M.hp
  have hm := M.hm
  have hp0 : 0 < p := by omega
  by_cases h1 : ((m.length - 1 : Nat) : Int) = 1
  · have a1 : mulOk a b = true := mulOk_l ⟨by omega, by omega⟩
    have e : ptimes p m a b = a * b % p := by
      have e1 : m.length - 1 = 1 := by omega
      unfold ptimes
      rw [e1]
      show val p [ml 1 (gi m) (dk a p) (dk b p) 0 % p] = _
      rw [val_cons, val_nil, Int.zero_mul, Int.zero_add]
      show (0 + (0 + a % p * (b % p) * xp 1 (gi m) 0 0)) % p = _
      have e2 : xp 1 (gi m) 0 0 = 1 := rfl
      rw [e2, Int.mul_one, Int.zero_add, Int.zero_add, ← Int.mul_emod]
    rw [e]
    simp? only [g_Field_times, m_Field_times, fobj, h1, a1, hp0]
  · have d1 := digits_eq p m ((m.length - 1 : Nat) : Int) q a (by omega) ⟨by omega, by omega⟩
    have d2 := digits_eq p m ((m.length - 1 : Nat) : Int) q b (by omega) ⟨by omega, by omega⟩
    have b2 : ((m.length - 1 : Nat) : Int).toNat = m.length - 1 := Int.toNat_natCast _
    rw [b2] at d1 d2
    have r := forI_invr (f := turnF (tgName 6) b2_Field_times) (lo := 0) (n := m.length - 1) (fun i st => ∃ P, st = tmS p m q a b P none none ∧ tmI p m a b i 0 P) (tmS p m q a b (List.replicate (2 * (m.length - 1) - 1) 0) none none) ⟨_, rfl, by rw [List.length_replicate], dig_rep hp0, fun j hj => by
      have e : rm (m.length - 1) (gi m) (2 * (m.length - 1) - 1) (gi (List.replicate (2 * (m.length - 1) - 1) 0)) j = 0 := sm_zero fun k _ => by rw [gi_rep, Int.zero_mul]
      rw [e]
      exact Cg.refl⟩ fun i hi st hs => by
      obtain ⟨P, rfl, h⟩ := hs
      obtain ⟨P', h1, h2⟩ := times_in (q := q) M hi h
      exact ⟨_, h1, P', rfl, h2⟩
    obtain ⟨_, r, P, rfl, hl, hd, hc⟩ := r
    have re := rem_lt p m P (by omega) M.dig (by omega) (by omega) (by omega)
    rw [rem_spec hp0 (by omega) M.top hd (by omega), mk_congr (g := fun j => ml (m.length - 1) (gi m) (dk a p) (dk b p) j % p) fun j hj => by
      have z := hc j hj
      rw [← hl] at z
      rw [z.emod]
      unfold part ml
      show (_ + (0 : Int)) % p = _
      rw [Int.add_zero]] at re
    have el := element_eq p m ((m.length - 1 : Nat) : Int) q (mk (m.length - 1) fun j => ml (m.length - 1) (gi m) (dk a p) (dk b p) j % p) (by omega)
    have b1 : small ((m.length - 1 : Nat) : Int) = true := small_i ⟨by omega, by omega⟩
    have b3 : 2 * ((m.length - 1 : Nat) : Int) - 1 ≤ 9223372036854775807 ∧ -9223372036854775808 ≤ 2 * ((m.length - 1 : Nat) : Int) - 1 ∧ 1 * (2 * (m.length - 1) - 1) ≤ 16777216 := by omega
    have b4 : (2 * ((m.length - 1 : Nat) : Int) - 1).toNat = 2 * (m.length - 1) - 1 := by omega
    have b5 : mulOk 2 ((m.length - 1 : Nat) : Int) = true := mulOk_l (by decide)
    have b6 : (0 : Nat) + 1 = 1 := rfl
    simp only [tmS, fobj] at r d1 d2 el
    simp? only [g_Field_times, m_Field_times, fobj, h1, d1, d2, b1, b2, b3, b4, b5, b6, rep_int, r, re, el]
    rfl
/-! ## the law's own product -/
theorem sh_cg {d : Nat} {m u v : Nat → Int} {p : Int} (hd : 1 ≤ d) (h : ∀ j < d, Cg p (u j) (v j)) {j : Nat} (hj : j < d) : Cg p (sh d m u j) (sh d m v j) := by
  unfold sh
  refine Cg.sub ?_ ((h _ (by omega)).mul Cg.refl)
  cases j with
  | zero => exact Cg.refl
  | succ i => exact h i (by omega)
abbrev vrow (p : Int) (m : List Int) (a : Int) (i j : Nat) : Int := sm (m.length - 1) fun l => dk a p l * xp (m.length - 1) (gi m) (i + l) j
theorem vrow_sh {p : Int} {m : List Int} {a : Int} {i j : Nat} : sh (m.length - 1) (gi m) (vrow p m a i) j = vrow p m a (i + 1) j := by
  unfold vrow
  rw [sh_lin]
  exact sm_congr fun l _ => by
    rw [show i + 1 + l = (i + l) + 1 by omega]
    rfl
def ltI (p : Int) (m : List Int) (a b : Int) (k : Nat) (T : List Int) : Prop := T.length = m.length - 1 ∧ Dig p T ∧ ∀ j < m.length - 1, Cg p (gi T j) (sm k fun i => dk b p (m.length - 1 - k + i) * vrow p m a i j)
def ltN (p : Int) (m : List Int) (a b : Int) (k : Nat) (T : List Int) : List Int := mk (m.length - 1) fun j => (gi (0 :: T.take (m.length - 1 - 1)) j - gi T (m.length - 1 - 1) * gi m j + dk b p (m.length - 1 - 1 - k) * dk a p j) % p
theorem ltI_step {p : Int} {m : List Int} {a b : Int} {k : Nat} {T : List Int} (M : ModOk p m) (hk : k < m.length - 1) (h : ltI p m a b k T) : ltI p m a b (k + 1) (ltN p m a b k T) := by
  have hp := M.hp
  have hm := M.hm
  obtain ⟨h1, h2, h3⟩ := h
  refine ⟨mk_len, mk_dig (by omega), fun j hj => ?_⟩
  unfold ltN
  rw [gi_mk hj]
  refine Cg.trans Cg.mod ?_
  have e1 : gi (0 :: T.take (m.length - 1 - 1)) j - gi T (m.length - 1 - 1) * gi m j = sh (m.length - 1) (gi m) (gi T) j := by
    unfold sh
    cases j with
    | zero => rfl
    | succ i =>
      dsimp only
      congr 1
      show gi (T.take (m.length - 1 - 1)) i = gi T i
      rw [gi_get (by rw [List.length_take]; omega), gi_get (by omega), List.getElem_take]
  rw [e1, sm_first]
  have e2 : dk b p (m.length - 1 - (k + 1) + 0) * vrow p m a 0 j = dk b p (m.length - 1 - 1 - k) * dk a p j := by
    have : vrow p m a 0 j = dk a p j := by
      have z := rm_low (d := m.length - 1) (m := gi m) (f := dk a p) hj
      unfold rm at z
      rw [← z]
      exact sm_congr fun l _ => by rw [Nat.zero_add]
    rw [this, show m.length - 1 - (k + 1) + 0 = m.length - 1 - 1 - k by omega]
  rw [e2, Int.add_comm]
  refine Cg.add Cg.refl (Cg.trans (sh_cg (by omega) h3 hj) (Cg.of_eq ?_))
  rw [sh_lin]
  exact sm_congr fun i _ => by
    rw [vrow_sh, show m.length - 1 - (k + 1) + (i + 1) = m.length - 1 - k + i by omega]
abbrev ltS (p : Int) (m : List Int) (a b : Int) (T : List Int) : Sta := [some ⟨.frz, true, .int p⟩, some ⟨.frz, false, .tup (m.map D.int)⟩, some ⟨.frz, true, .int a⟩, some ⟨.frz, true, .int b⟩, some ⟨.frz, true, .int ((m.length - 1 : Nat) : Int)⟩, some ⟨.frz, true, .lst ((dg a p (m.length - 1)).map D.int)⟩, some ⟨.frz, true, .lst ((dg b p (m.length - 1)).map D.int)⟩, some ⟨.frz, true, .lst (T.map D.int)⟩, none, none, none, none, none]
theorem lt_turn {p : Int} {m : List Int} {a b : Int} (M : ModOk p m) {k : Nat} (hk : k < m.length - 1) {T : List Int} (hT : T.length = m.length - 1) (hd : Dig p T) :
    turnF (tgName 8) b1__law_times ⟨.frz, true, .int (0 + (k : Int))⟩ (ltS p m a b T) = .ok (.next, ltS p m a b (ltN p m a b k T)) := by
  have hp := M.hp
  have hm := M.hm
  have hp0 : 0 < p := by omega
  have c1 : cutD (T.map D.int) none (some (((m.length - 1 : Nat) : Int) - 1)) = (T.take (m.length - 1 - 1)).map D.int := by
    rw [cut_hi (by omega), List.map_take]
    congr 1
    omega
  have i1 : 0 ≤ ((m.length - 1 : Nat) : Int) - 1 ∧ ((m.length - 1 : Nat) : Int) - 1 < (T.length : Int) := by omega
  have i2 : (((m.length - 1 : Nat) : Int) - 1).toNat = m.length - 1 - 1 := by omega
  have i3 : 0 ≤ ((m.length - 1 : Nat) : Int) - 1 - (0 + (k : Int)) ∧ ((m.length - 1 : Nat) : Int) - 1 - (0 + (k : Int)) < ((dg b p (m.length - 1)).length : Int) := by rw [dg_len]; omega
  have i4 : (((m.length - 1 : Nat) : Int) - 1 - (0 + (k : Int))).toNat = m.length - 1 - 1 - k := by omega
  have i5 : (dg b p (m.length - 1)).getD (m.length - 1 - 1 - k) 0 = dk b p (m.length - 1 - 1 - k) := dg_get (by omega)
  have i6 : 1 + (T.take (m.length - 1 - 1)).length ≤ 16777216 := by rw [List.length_take]; omega
  have b1 : small ((m.length - 1 : Nat) : Int) = true := small_i ⟨by omega, by omega⟩
  have b2 : ((m.length - 1 : Nat) : Int).toNat = m.length - 1 := Int.toNat_natCast _
  have r := comp_mk (g := tgName 12) (e := e1__law_times) (vs := [12]) (d := m.length - 1) (f := fun j => (gi (0 :: T.take (m.length - 1 - 1)) j - gi T (m.length - 1 - 1) * gi m j + dk b p (m.length - 1 - 1 - k) * dk a p j) % p)
    (st := [some ⟨.frz, true, .int p⟩, some ⟨.frz, false, .tup (m.map D.int)⟩, some ⟨.frz, true, .int a⟩, some ⟨.frz, true, .int b⟩, some ⟨.frz, true, .int ((m.length - 1 : Nat) : Int)⟩, some ⟨.frz, true, .lst ((dg a p (m.length - 1)).map D.int)⟩, some ⟨.frz, true, .lst ((dg b p (m.length - 1)).map D.int)⟩, some ⟨.frz, true, .lst (T.map D.int)⟩, some ⟨.frz, true, .int (0 + (k : Int))⟩, some ⟨.frz, true, .int (gi T (m.length - 1 - 1))⟩, some ⟨.frz, true, .lst (D.int 0 :: (T.take (m.length - 1 - 1)).map D.int)⟩, some ⟨.frz, true, .int (dk b p (m.length - 1 - 1 - k))⟩, none]) (by omega) fun i hi => by
    have hz : (0 + (i : Int)).toNat = i := by omega
    have a1 : fIx ⟨.frz, true, .lst (D.int 0 :: (T.take (m.length - 1 - 1)).map D.int)⟩ ⟨.frz, true, .int (0 + (i : Int))⟩ = some ⟨.frz, true, .int (gi (0 :: T.take (m.length - 1 - 1)) i)⟩ := by
      have z := ix_li (k := .frz) (k' := .frz) (fr := true) (fr' := true) (xs := 0 :: T.take (m.length - 1 - 1)) (i := 0 + (i : Int)) ⟨by omega, by rw [List.length_cons, List.length_take]; omega⟩
      rw [hz] at z
      exact z
    have a2 : 0 ≤ 0 + (i : Int) ∧ 0 + (i : Int) < (m.length : Int) := by omega
    have a3 : 0 ≤ 0 + (i : Int) ∧ 0 + (i : Int) < ((dg a p (m.length - 1)).length : Int) := by rw [dg_len]; omega
    have a4 : mulOk (gi T (m.length - 1 - 1)) (gi m i) = true := by
      have := gi_dig M.dig (k := i) (by omega)
      exact mulOk_r ⟨by omega, by omega⟩
    have a5 : mulOk (dk b p (m.length - 1 - 1 - k)) (dk a p i) = true := by
      have := dk_dig (n := a) (b := p) (by omega) i
      exact mulOk_r ⟨by omega, by omega⟩
    refine ⟨_, _, tgn_e, by unfold e1__law_times; simp? only [a1, a2, a3, hz, a4, a5, hp0, dg_ix hi, dg_get hi]; rfl, by simp? only [], by simp? only []⟩
  rw [turn_s tgn_e]
  unfold b1__law_times
  simp? only [ltS, i1, i2, i3, i4, i5, i6, c1, b1, b2, r]
  rfl
theorem law_times_eq (p : Int) (m : List Int) (a b : Int) (M : ModOk p m) : g__law_times [.int p, .tup (m.map D.int), .int a, .int b] = .ok ⟨.frz, true, .int (ptimes p m a b)⟩ := by
  have hp := M.hp
  have hm := M.hm
  have e0 : ((m.length : Int) - 1) = ((m.length - 1 : Nat) : Int) := by omega
  have d1 := law_digits_eq a p ((m.length - 1 : Nat) : Int) (by omega) ⟨by omega, by omega⟩
  have d2 := law_digits_eq b p ((m.length - 1 : Nat) : Int) (by omega) ⟨by omega, by omega⟩
  have b2 : ((m.length - 1 : Nat) : Int).toNat = m.length - 1 := Int.toNat_natCast _
  rw [b2] at d1 d2
  have r := forI_invr (f := turnF (tgName 8) b1__law_times) (lo := 0) (n := m.length - 1) (fun k st => ∃ T, st = ltS p m a b T ∧ ltI p m a b k T) (ltS p m a b (List.replicate (m.length - 1) 0)) ⟨_, rfl, by rw [List.length_replicate], dig_rep (by omega), fun j hj => by
    rw [gi_rep]
    exact Cg.refl⟩ fun k hk st hs => by
    obtain ⟨T, rfl, h⟩ := hs
    exact ⟨_, lt_turn M hk h.1 h.2.1, _, rfl, ltI_step M hk h⟩
  obtain ⟨_, r, T, rfl, hl, hd, hc⟩ := r
  have eT : T = mk (m.length - 1) fun j => ml (m.length - 1) (gi m) (dk a p) (dk b p) j % p := by
    refine list_eq (by rw [hl, mk_len]) fun j hj => ?_
    rw [hl] at hj
    rw [gi_mk hj]
    have bd := gi_dig hd (k := j) (by omega)
    have z := (hc j hj).emod
    rw [Int.emod_eq_of_lt bd.1 bd.2] at z
    have e2 : (sm (m.length - 1) fun i => dk b p (m.length - 1 - (m.length - 1) + i) * vrow p m a i j) = ml (m.length - 1) (gi m) (dk a p) (dk b p) j := by
      rw [ml_comm]
      unfold ml
      exact sm_congr fun i _ => by
        rw [← sm_mul, Nat.sub_self, Nat.zero_add]
        exact sm_congr fun l _ => (Int.mul_assoc _ _ _).symm
    rw [z, e2]
  have el := law_element_eq p T (by omega) (by omega)
  have b1 : small ((m.length - 1 : Nat) : Int) = true := small_i ⟨by omega, by omega⟩
  have b3 : ((m.length - 1 : Nat) : Int) ≤ 9223372036854775807 ∧ -9223372036854775808 ≤ ((m.length - 1 : Nat) : Int) ∧ 1 * (m.length - 1) ≤ 16777216 := by omega
  simp only [ltS] at r
  simp? only [g__law_times, m__law_times, e0, d1, d2, b1, b2, b3, rep_int, r, el]
  rw [eT]
  rfl
theorem ptimes_comm {p : Int} {m : List Int} {a b : Int} : ptimes p m a b = ptimes p m b a := by
  unfold ptimes
  rw [mk_congr fun j _ => by rw [ml_comm]]
theorem ptimes_bound {p : Int} (hp : 0 < p) {m : List Int} {a b : Int} : 0 ≤ ptimes p m a b ∧ ptimes p m a b < p ^ (m.length - 1) := by
  have h := val_bound hp (mk_dig hp (d := m.length - 1) (f := fun j => ml (m.length - 1) (gi m) (dk a p) (dk b p) j))
  rwa [mk_len] at h
theorem ptimes_add {p : Int} (hp : 0 < p) {m : List Int} {a b c : Int} : ptimes p m a (padd p (m.length - 1) b c) = padd p (m.length - 1) (ptimes p m a b) (ptimes p m a c) := by
  have e : ∀ j < m.length - 1, ml (m.length - 1) (gi m) (dk a p) (dk (padd p (m.length - 1) b c) p) j % p = (dk (ptimes p m a b) p j + dk (ptimes p m a c) p j) % p := fun j hj => by
    have z1 : Cg p (ml (m.length - 1) (gi m) (dk a p) (dk (padd p (m.length - 1) b c) p) j) (ml (m.length - 1) (gi m) (dk a p) (fun k => dk b p k + dk c p k) j) := ml_cg (fun k _ => Cg.refl) fun k hk => by
      unfold padd
      rw [dk_mk hp hk]
      exact Cg.mod
    unfold ptimes
    rw [z1.emod, ml_add, dk_mk hp hj, dk_mk hp hj, ← Int.add_emod]
  unfold padd
  conv => lhs; unfold ptimes
  exact congrArg (val p) (mk_congr e)
end Nw

namespace Nw
open PySem Dl
theorem pow_step {b : Int} {i : Nat} : b ^ i * b = b ^ (i + 1) := (Int.pow_succ b i).symm
theorem int_power_eq (b e : Int) (hb : 0 < b ∧ b < 1073741824) (he : 0 ≤ e ∧ e < 16777216) : g_int_power [.int b, .int e] = .ok ⟨.frz, true, .int (b ^ e.toNat)⟩ := by
  have r := forI_rng (f := turnF (tgName 3) b1_int_power) (lo := 0) (n := e.toNat) (fun i => [some ⟨.frz, true, .int b⟩, some ⟨.frz, true, .int e⟩, some ⟨.frz, true, .int (b ^ i)⟩, none]) fun i hi => .inl (by
    have h1 : ∀ x : Int, mulOk x b = true := fun x => mulOk_r ⟨by omega, by omega⟩
    rw [turn_s tgn_e]
    unfold b1_int_power
    simp? only [h1, pow_step])
  have hz : small e = true := small_i ⟨by omega, by omega⟩
  simp only [Int.pow_zero] at r
  simp? only [g_int_power, m_int_power, hz, r]
theorem init_eq (p : Int) (m : List Int) (hp : 0 < p ∧ p ≤ 31) (hm : 2 ≤ m.length ∧ m.length ≤ 1000) (h1 : g_is_prime [.int p] = .ok ⟨.frz, true, .bl true⟩) (h2 : g_is_modulus [.int p, .tup (m.map D.int)] = .ok ⟨.frz, true, .bl true⟩) :
    g_Field_init [.int p, .tup (m.map D.int)] = .ok false [.int p, .tup (m.map D.int), .int ((m.length - 1 : Nat) : Int), .int (p ^ (m.length - 1))] := by
  have e0 : ((m.length : Int) - 1) = ((m.length - 1 : Nat) : Int) := by omega
  have c1 : ¬ (31 < p) := by omega
  have c2 : ([.int p] : List D).length = 1 := rfl
  have ip := int_power_eq p ((m.length - 1 : Nat) : Int) (by omega) (by omega)
  rw [Int.toNat_natCast] at ip
  simp? only [g_Field_init, m_Field_init, c1, h1, h2, e0, ip]
/-! ## the twenty fields -/
def tab : List (Int × List Int) := [(2, [0, 1]), (3, [0, 1]), (2, [1, 1, 1]), (5, [0, 1]), (3, [1, 0, 1]), (2, [1, 1, 0, 1]), (7, [0, 1]), (2, [1, 0, 1, 1]), (3, [2, 1, 1]), (2, [1, 1, 0, 0, 1]), (2, [1, 1, 1, 1, 1]), (5, [2, 0, 1]), (3, [2, 2, 1]), (11, [0, 1]), (7, [1, 0, 1]), (3, [1, 2, 0, 1]), (2, [1, 0, 1, 0, 0, 1]), (13, [5, 1]), (31, [0, 1]), (3, [1, 1])]
def okT : Out → Bool
  | .ok ⟨.frz, true, .bl true⟩ => true
  | _ => false
theorem okT_of {o : Out} (h : okT o = true) : o = .ok ⟨.frz, true, .bl true⟩ := by
  rcases o with ⟨k, fr, d⟩ | _ | _
  · cases k <;> cases fr <;> cases d <;> try (cases h)
    rename_i b
    cases b
    · cases h
    · rfl
  · cases h
  · cases h
def tabOk (e : Int × List Int) : Bool := (decide (2 ≤ e.1 ∧ e.1 ≤ 31) && decide (2 ≤ e.2.length ∧ e.2.length ≤ 9)) && (decide (e.1 ^ (e.2.length - 1) ≤ 256) && (okT (g_is_prime [.int e.1]) && (okT (g_is_modulus [.int e.1, .tup (e.2.map D.int)]) && okT (g_is_modulus [.int e.1, .tup [.int 0, .int 1]]))))
theorem tab_ok : tab.all tabOk = true := by decide +kernel
end Nw

namespace Nw
open PySem Dl
def enc (e : Int × List Int) : D := .tup [.int e.1, .tup (e.2.map D.int)]
theorem law_field_eq (n : Int) : ∃ e ∈ tab, g__law_field [.int n] = .ok ⟨.frz, true, .tup [.int e.1, .tup (e.2.map D.int)]⟩ := by
  have h1 : 0 ≤ n % 20 ∧ n % 20 < 20 := ⟨Int.emod_nonneg _ (by decide), Int.emod_lt_of_pos _ (by decide)⟩
  have h2 : (n % 20).toNat < tab.length := by
    show (n % 20).toNat < 20
    omega
  refine ⟨tab[(n % 20).toNat], List.getElem_mem h2, ?_⟩
  have e1 : ∀ fr fr' : Bool, ∀ k k' : Kd, fIx ⟨k, fr, .lst (tab.map enc)⟩ ⟨k', fr', .int (n % 20)⟩ = some (.el fr (.tup [.int tab[(n % 20).toNat].1, .tup (tab[(n % 20).toNat].2.map D.int)])) := fun fr fr' k k' =>
    ix_l h1.1 (by rw [List.getElem?_map, List.getElem?_eq_getElem h2]; rfl)
  simp only [tab, enc, List.map_cons, List.map_nil] at e1
  simp? only [g__law_field, m__law_field, e1, Int.cast_ofNat_Int]
  rfl
theorem eq_b4 {k k' : Kd} {fr fr' a b c d a' b' c' d' : Bool} : fEq ⟨k, fr, .lst [.bl a, .bl b, .bl c, .bl d]⟩ ⟨k', fr', .lst [.bl a', .bl b', .bl c', .bl d']⟩ = some ⟨.frz, true, .bl (a == a' && (b == b' && (c == c' && (d == d' && true))))⟩ := id rfl
theorem eq_t2 {k k' : Kd} {fr fr' : Bool} {a b a' b' : Int} : fEq ⟨k, fr, .tup [.int a, .int b]⟩ ⟨k', fr', .tup [.int a', .int b']⟩ = some ⟨.frz, true, .bl (a == a' && (b == b' && true))⟩ := id rfl
theorem eq_m2 {k k' : Kd} {fr fr' : Bool} {m : List Int} {a b : Int} : fEq ⟨k, fr, .tup (m.map D.int)⟩ ⟨k', fr', .tup [.int a, .int b]⟩ = some ⟨.frz, true, .bl (decide (m = [a, b]))⟩ := eq_ti (ys := [a, b])
structure FieldOk (p : Int) (m : List Int) : Prop where
  hp : 0 < p ∧ p < 1073741824
  hm : 2 ≤ m.length ∧ m.length ≤ 1000
  hq : p ^ (m.length - 1) < 16777216
  hq0 : 0 < p ^ (m.length - 1)
  mk1 : g_Field_init [.int p, .tup (m.map D.int)] = .ok false [.int p, .tup (m.map D.int), .int ((m.length - 1 : Nat) : Int), .int (p ^ (m.length - 1))]
  mk0 : g_Field_init [.int p, .tup [.int 0, .int 1]] = .ok false [.int p, .tup [.int 0, .int 1], .int 1, .int p]
theorem fieldOk {e : Int × List Int} (h : e ∈ tab) : FieldOk e.1 e.2 := by
  have t := List.all_eq_true.mp tab_ok e h
  obtain ⟨t12, t⟩ := Bool.and_eq_true_iff.mp (show (_ && _) = true from t)
  obtain ⟨t1, t2⟩ := Bool.and_eq_true_iff.mp t12
  obtain ⟨t3, t⟩ := Bool.and_eq_true_iff.mp t
  obtain ⟨t4, t⟩ := Bool.and_eq_true_iff.mp t
  obtain ⟨t5, t6⟩ := Bool.and_eq_true_iff.mp t
  have t1 := of_decide_eq_true t1
  have t2 := of_decide_eq_true t2
  have t3 := of_decide_eq_true t3
  have t4 := okT_of t4
  have t5 := okT_of t5
  have t6 := okT_of t6
  refine ⟨by omega, by omega, by omega, Int.pow_pos (by omega), init_eq e.1 e.2 (by omega) (by omega) t4 t5, ?_⟩
  have z := init_eq e.1 [0, 1] (by omega) (by decide) t4 t6
  have e1 : e.1 ^ (([0, 1] : List Int).length - 1) = e.1 := Int.pow_one _
  rw [e1] at z
  exact z
theorem dig_of {p : Int} {m : List Int} (h : (m.all fun x => decide (0 ≤ x ∧ x < p)) = true) : Dig p m := fun x hx => of_decide_eq_true (List.all_eq_true.mp h x hx)
theorem tab_mod0 : (tab.all fun e => (e.2.all fun x => decide (0 ≤ x ∧ x < e.1)) && decide (gi e.2 (e.2.length - 1) = 1)) = true := by decide +kernel
theorem modOk {e : Int × List Int} (h : e ∈ tab) : ModOk e.1 e.2 := by
  have F := List.all_eq_true.mp tab_ok e h
  obtain ⟨t12, _⟩ := Bool.and_eq_true_iff.mp (show (_ && _) = true from F)
  obtain ⟨t1, t2⟩ := Bool.and_eq_true_iff.mp t12
  have t1 := of_decide_eq_true t1
  have t2 := of_decide_eq_true t2
  obtain ⟨m1, m2⟩ := Bool.and_eq_true_iff.mp (List.all_eq_true.mp tab_mod0 e h)
  exact ⟨by omega, by omega, dig_of m1, of_decide_eq_true m2⟩
end Nw

namespace Nw
open PySem Dl
/-! ## the elements are a commutative ring -/
theorem sh_congr {d : Nat} {m u v : Nat → Int} (hd : 1 ≤ d) (h : ∀ j < d, u j = v j) {j : Nat} (hj : j < d) : sh d m u j = sh d m v j := by
  unfold sh
  rw [h (d - 1) (by omega)]
  cases j with
  | zero => rfl
  | succ i =>
    dsimp only
    rw [h i (by omega)]
theorem xp_add {d : Nat} {m : Nat → Int} (hd : 1 ≤ d) {k : Nat} : ∀ (l : Nat) {j : Nat}, j < d → sm d (fun i => xp d m k i * xp d m (i + l) j) = xp d m (k + l) j
  | 0, j, hj => by
    rw [sm_one hj fun i hi he => by
      rw [Nat.add_zero, xp_low hi hj, if_neg (by omega), Int.mul_zero], Nat.add_zero, Nat.add_zero, xp_low hj hj, if_pos rfl, Int.mul_one]
  | l + 1, j, hj => by
    have e : xp d m (k + (l + 1)) j = sh d m (fun j => sm d fun i => xp d m k i * xp d m (i + l) j) j := by
      show sh d m (xp d m (k + l)) j = _
      exact sh_congr hd (fun j hj => (xp_add hd l hj).symm) hj
    rw [e, sh_lin]
    rfl
def tri (d : Nat) (m a b c : Nat → Int) (j : Nat) : Int := sm d fun i => sm d fun l => sm d fun n => a i * b l * c n * xp d m (i + l + n) j
theorem ml_tri {d : Nat} {m a b c : Nat → Int} (hd : 1 ≤ d) {j : Nat} (hj : j < d) : ml d m (ml d m a b) c j = tri d m a b c j := by
  have e1 : ∀ k n, ml d m a b k * c n * xp d m (k + n) j = sm d fun i => sm d fun l => a i * b l * c n * (xp d m (i + l) k * xp d m (k + n) j) := fun k n => by
    unfold ml
    rw [← sm_mulr, ← sm_mulr]
    exact sm_congr fun i _ => by
      rw [← sm_mulr, ← sm_mulr]
      exact sm_congr fun l _ => by
        rw [Int.mul_assoc (a i * b l) (xp d m (i + l) k) (c n), Int.mul_comm (xp d m (i + l) k) (c n), ← Int.mul_assoc, Int.mul_assoc]
  show sm d (fun k => sm d fun n => ml d m a b k * c n * xp d m (k + n) j) = _
  rw [sm_congr fun k _ => sm_congr fun n _ => e1 k n]
  rw [sm_swap]
  have e2 : ∀ n, (sm d fun k => sm d fun i => sm d fun l => a i * b l * c n * (xp d m (i + l) k * xp d m (k + n) j)) = sm d fun i => sm d fun l => a i * b l * c n * xp d m (i + l + n) j := fun n => by
    rw [sm_swap]
    exact sm_congr fun i _ => by
      rw [sm_swap]
      exact sm_congr fun l _ => by
        rw [sm_mul, xp_add hd n hj]
  rw [sm_congr fun n _ => e2 n]
  unfold tri
  rw [sm_swap]
  exact sm_congr fun i _ => by rw [sm_swap]
theorem tri_rot {d : Nat} {m a b c : Nat → Int} {j : Nat} : tri d m a b c j = tri d m b c a j := by
  unfold tri
  rw [sm_swap]
  exact sm_congr fun l _ => by
    rw [sm_swap]
    exact sm_congr fun n _ => sm_congr fun i _ => by
      have e : a i * b l * c n = b l * c n * a i := by ac_rfl
      rw [show l + n + i = i + l + n by omega, e]
section
variable {p : Int} {m : List Int} {a b c : Int}
theorem dk_ptimes (hp : 0 < p) {j : Nat} (hj : j < m.length - 1) : dk (ptimes p m a b) p j = ml (m.length - 1) (gi m) (dk a p) (dk b p) j % p := by
  unfold ptimes
  rw [dk_mk hp hj]
theorem ptimes_assoc (hp : 0 < p) (hm : 2 ≤ m.length) : ptimes p m (ptimes p m a b) c = ptimes p m a (ptimes p m b c) := by
  have e : ∀ x y z : Int, ∀ j < m.length - 1, ml (m.length - 1) (gi m) (dk (ptimes p m x y) p) (dk z p) j % p = tri (m.length - 1) (gi m) (dk x p) (dk y p) (dk z p) j % p := fun x y z j hj => by
    rw [← ml_tri (by omega) hj]
    refine Cg.emod (ml_cg (fun k hk => ?_) fun k _ => Cg.refl)
    rw [dk_ptimes hp hk]
    exact Cg.mod
  have e2 : ∀ x y z : Int, ptimes p m (ptimes p m x y) z = val p (mk (m.length - 1) fun j => tri (m.length - 1) (gi m) (dk x p) (dk y p) (dk z p) j % p) := fun x y z => congrArg (val p) (mk_congr (e x y z))
  rw [e2, ptimes_comm (a := a), e2, mk_congr fun j _ => by rw [tri_rot]]
theorem padd_comm {d : Nat} : padd p d a b = padd p d b a := by
  unfold padd
  rw [mk_congr fun k _ => by rw [Int.add_comm]]
theorem padd_assoc (hp : 0 < p) {d : Nat} : padd p d (padd p d a b) c = padd p d a (padd p d b c) := by
  unfold padd
  rw [mk_congr fun k hk => ?_]
  rw [dk_mk hp hk, dk_mk hp hk, Int.emod_add_emod, Int.add_assoc]
  exact (Int.add_emod_emod ..).symm
theorem dk_zero {k : Nat} : dk 0 p k = 0 := by
  unfold dk
  rw [divI_zero, Int.zero_emod]
theorem padd_zero (hp : 0 < p) {d : Nat} (h1 : 0 ≤ a) (h2 : a < p ^ d) : padd p d a 0 = a := by
  unfold padd
  rw [mk_congr (g := fun k => dk a p k) fun k hk => by
    rw [dk_zero, Int.add_zero]
    exact Int.emod_emod_of_dvd _ (Int.dvd_refl p), mk_dk]
  exact val_dg' hp d a h1 h2
theorem val_zero : ∀ {d : Nat}, val p (mk d fun _ => 0) = 0
  | 0 => rfl
  | d + 1 => by
    have e : mk (d + 1) (fun _ => (0 : Int)) = 0 :: mk d fun _ => 0 := by
      unfold mk
      rw [List.range_succ_eq_map, List.map_cons, List.map_map]
      rfl
    rw [e, val_cons, val_zero, Int.zero_mul, Int.zero_add]
theorem pneg_add (hp : 0 < p) {d : Nat} : padd p d (pneg p d a) a = 0 := by
  unfold padd pneg
  rw [mk_congr (g := fun _ => 0) fun k hk => by
    rw [dk_mk hp hk, Int.emod_add_emod, Int.sub_add_cancel, Int.zero_emod]]
  exact val_zero
theorem ptimes_zero (hp : 0 < p) : ptimes p m a 0 = 0 := by
  unfold ptimes
  rw [mk_congr (g := fun _ => 0) fun j _ => by
    have e : ml (m.length - 1) (gi m) (dk a p) (dk 0 p) j = 0 := sm_zero fun i _ => sm_zero fun l _ => by rw [dk_zero, Int.mul_zero, Int.zero_mul]
    rw [e, Int.zero_emod]]
  exact val_zero
theorem divI_one (hp : 1 < p) : ∀ k, divI 1 p (k + 1) = 0
  | 0 => Int.ediv_eq_zero_of_lt (show (0 : Int) ≤ 1 by decide) hp
  | k + 1 => by
    show divI 1 p (k + 1) / p = 0
    rw [divI_one hp k, Int.zero_ediv]
theorem dk_one (hp : 1 < p) {k : Nat} : dk 1 p k = if k = 0 then 1 else 0 := by
  cases k with
  | zero => exact Int.emod_eq_of_lt (show (0 : Int) ≤ 1 by decide) hp
  | succ k =>
    unfold dk
    rw [divI_one hp, Int.zero_emod, if_neg (by omega)]
theorem ptimes_one (hp : 1 < p) (hm : 2 ≤ m.length) (h1 : 0 ≤ a) (h2 : a < p ^ (m.length - 1)) : ptimes p m a 1 = a := by
  unfold ptimes
  rw [mk_congr (g := fun k => dk a p k) fun j hj => by
    have e : ml (m.length - 1) (gi m) (dk a p) (dk 1 p) j = dk a p j := by
      unfold ml
      rw [sm_congr (g := fun i => dk a p i * xp (m.length - 1) (gi m) i j) fun i _ => by
        rw [sm_one (i := 0) (by omega) fun l _ he => by rw [dk_one hp, if_neg he, Int.mul_zero, Int.zero_mul], dk_one hp, if_pos rfl, Int.mul_one, Nat.add_zero]]
      exact rm_low hj
    rw [e]
    exact Int.emod_emod_of_dvd _ (Int.dvd_refl p), mk_dk]
  exact val_dg' (by omega) _ a h1 h2
end
/-- a modulus, as a class -/
class MO (p : Int) (m : List Int) : Prop where
  ok : ModOk p m
/-- the elements -/
@[ext] structure Fe (p : Int) (m : List Int) where
  v : Int
  h0 : 0 ≤ v
  h1 : v < p ^ (m.length - 1)
section
variable {p : Int} {m : List Int} [M : MO p m]
theorem MO.p0 (p : Int) (m : List Int) [M : MO p m] : 0 < p := by have := M.ok.hp; omega
theorem MO.q0 (p : Int) (m : List Int) [M : MO p m] : 1 < p ^ (m.length - 1) := by
  have h1 := M.ok.hp
  have h2 := M.ok.hm
  obtain ⟨k, hk⟩ : ∃ k, m.length - 1 = k + 1 := ⟨m.length - 2, by omega⟩
  rw [hk, Int.pow_succ]
  have h3 : 0 < p ^ k := Int.pow_pos (by omega)
  have h4 : 1 * p ≤ p ^ k * p := Int.mul_le_mul_of_nonneg_right (by omega) (by omega)
  omega
def fadd (a b : Fe p m) : Fe p m := ⟨padd p (m.length - 1) a.v b.v, (padd_bound (MO.p0 p m)).1, (padd_bound (MO.p0 p m)).2⟩
def fmul (a b : Fe p m) : Fe p m := ⟨ptimes p m a.v b.v, (ptimes_bound (MO.p0 p m)).1, (ptimes_bound (MO.p0 p m)).2⟩
def fneg (a : Fe p m) : Fe p m := ⟨pneg p (m.length - 1) a.v, (pneg_bound (MO.p0 p m)).1, (pneg_bound (MO.p0 p m)).2⟩
def fzero : Fe p m := ⟨0, Int.le_refl 0, by have := MO.q0 p m; omega⟩
def fone : Fe p m := ⟨1, by decide, MO.q0 p m⟩
def fnat : Nat → Fe p m
  | 0 => fzero
  | n + 1 => fadd (fnat n) fone
def fint : Int → Fe p m
  | .ofNat n => fnat n
  | .negSucc n => fneg (fnat (n + 1))
def fpow (a : Fe p m) : Nat → Fe p m
  | 0 => fone
  | n + 1 => fmul (fpow a n) a
theorem fadd_comm (a b : Fe p m) : fadd a b = fadd b a := Fe.ext padd_comm
theorem fadd_assoc (a b c : Fe p m) : fadd (fadd a b) c = fadd a (fadd b c) := Fe.ext (padd_assoc (MO.p0 p m))
theorem fadd_zero (a : Fe p m) : fadd a fzero = a := Fe.ext (padd_zero (MO.p0 p m) a.h0 a.h1)
theorem fzero_add (a : Fe p m) : fadd fzero a = a := by rw [fadd_comm, fadd_zero]
theorem fneg_add (a : Fe p m) : fadd (fneg a) a = fzero := Fe.ext (pneg_add (MO.p0 p m))
theorem fmul_comm (a b : Fe p m) : fmul a b = fmul b a := Fe.ext ptimes_comm
theorem fmul_assoc (a b c : Fe p m) : fmul (fmul a b) c = fmul a (fmul b c) := Fe.ext (ptimes_assoc (MO.p0 p m) M.ok.hm.1)
theorem fmul_one (a : Fe p m) : fmul a fone = a := Fe.ext (ptimes_one M.ok.hp.1 M.ok.hm.1 a.h0 a.h1)
theorem fmul_zero (a : Fe p m) : fmul a fzero = fzero := Fe.ext (ptimes_zero (MO.p0 p m))
theorem fmul_add (a b c : Fe p m) : fmul a (fadd b c) = fadd (fmul a b) (fmul a c) := Fe.ext (ptimes_add (MO.p0 p m))
theorem fneg_uniq {a b : Fe p m} (h : fadd a b = fzero) : a = fneg b := by
  have e : fadd (fadd a b) (fneg b) = fneg b := by rw [h, fzero_add]
  rw [fadd_assoc, fadd_comm b, fneg_add, fadd_zero] at e
  exact e
theorem fneg_neg (a : Fe p m) : fneg (fneg a) = a := (fneg_uniq (by rw [fadd_comm, fneg_add])).symm
theorem fneg_mul (a b : Fe p m) : fmul (fneg a) b = fneg (fmul a b) := by
  refine fneg_uniq ?_
  rw [fmul_comm _ b, fmul_comm a b, ← fmul_add, fneg_add, fmul_zero]
theorem fneg_zero : fneg (fzero : Fe p m) = fzero := (fneg_uniq (fadd_zero fzero)).symm
theorem fint_neg (i : Int) : fint (-i) = fneg (fint i : Fe p m) := by
  match i with
  | .ofNat 0 => exact fneg_zero.symm
  | .ofNat (n + 1) => rfl
  | .negSucc n => exact (fneg_neg _).symm
instance : Lean.Grind.CommRing (Fe p m) where
  add := fadd
  mul := fmul
  natCast := ⟨fnat⟩
  ofNat n := ⟨fnat n⟩
  nsmul := ⟨fun n a => fmul (fnat n) a⟩
  npow := ⟨fpow⟩
  neg := fneg
  sub a b := fadd a (fneg b)
  intCast := ⟨fint⟩
  zsmul := ⟨fun i a => fmul (fint i) a⟩
  add_zero := fadd_zero
  add_comm := fadd_comm
  add_assoc := fadd_assoc
  mul_assoc := fmul_assoc
  mul_one a := (congrArg (fmul a) (fzero_add fone)).trans (fmul_one a)
  one_mul a := (fmul_comm _ _).trans ((congrArg (fmul a) (fzero_add fone)).trans (fmul_one a))
  left_distrib := fmul_add
  right_distrib a b c := by
    show fmul (fadd a b) c = fadd (fmul a c) (fmul b c)
    rw [fmul_comm, fmul_add, fmul_comm c, fmul_comm c]
  zero_mul a := (fmul_comm _ _).trans (fmul_zero a)
  mul_zero := fmul_zero
  pow_zero a := (fzero_add fone).symm
  pow_succ a n := rfl
  ofNat_succ n := congrArg (fadd (fnat n)) (fzero_add fone).symm
  ofNat_eq_natCast n := rfl
  nsmul_eq_natCast_mul n a := rfl
  neg_add_cancel := fneg_add
  sub_eq_add_neg a b := rfl
  neg_zsmul i a := by
    show fmul (fint (-i)) a = fneg (fmul (fint i) a)
    rw [fint_neg, fneg_mul]
  zsmul_natCast_eq_nsmul n a := rfl
  intCast_ofNat n := rfl
  intCast_neg := fint_neg
  mul_comm := fmul_comm
end
section
variable {p : Int} {m : List Int} [M : MO p m]
theorem v_add (a b : Fe p m) : (a + b).v = padd p (m.length - 1) a.v b.v := rfl
theorem v_mul (a b : Fe p m) : (a * b).v = ptimes p m a.v b.v := rfl
theorem v_neg (a : Fe p m) : (-a).v = pneg p (m.length - 1) a.v := rfl
theorem v_sub (a b : Fe p m) : (a - b).v = psub p (m.length - 1) a.v b.v := padd_neg (MO.p0 p m)
theorem v_zero : (0 : Fe p m).v = 0 := rfl
theorem v_one : (1 : Fe p m).v = 1 := congrArg Fe.v (fzero_add (fone : Fe p m))
example (a b c : Fe p m) : (a + b) * (a - b) + b * b = a * a := by grind
end
end Nw

namespace Nw
open PySem Dl
/-! ## inverses: a table, looked at -/
def ltF (p : Int) (m : List Int) (a b : Int) : Nat → List Int
  | 0 => List.replicate (m.length - 1) 0
  | k + 1 => ltN p m a b k (ltF p m a b k)
theorem ltF_ok {p : Int} {m : List Int} {a b : Int} (M : ModOk p m) : ∀ k, k ≤ m.length - 1 → ltI p m a b k (ltF p m a b k)
  | 0, _ => ⟨by rw [ltF, List.length_replicate], dig_rep (by have := M.hp; omega), fun j hj => by
    rw [ltF, gi_rep]
    exact Cg.refl⟩
  | k + 1, h => ltI_step M (by omega) (ltF_ok M k (by omega))
/-! numbers made plain on the way -/
def frI {α : Type} (x : Int) (k : Int → α) : α := match x with
  | .ofNat 0 => k (.ofNat 0)
  | .ofNat (n + 1) => k (.ofNat (n + 1))
  | .negSucc 0 => k (.negSucc 0)
  | .negSucc (n + 1) => k (.negSucc (n + 1))
theorem frI_eq {α : Type} (x : Int) (k : Int → α) : frI x k = k x := by
  rcases x with (_ | n) | (_ | n) <;> rfl
def frL {α : Type} : List Int → (List Int → α) → α
  | [], k => k []
  | x :: r, k => frI x fun x => frL r fun r => k (x :: r)
theorem frL_eq {α : Type} : ∀ (l : List Int) (k : List Int → α), frL l k = k l
  | [], _ => rfl
  | x :: r, k => by
    show frI x (fun x => frL r fun r => k (x :: r)) = _
    rw [frI_eq, frL_eq r]
def ltG {α : Type} (p : Int) (m : List Int) (a b : Int) : Nat → (List Int → α) → α
  | 0, k => frL (List.replicate (m.length - 1) 0) k
  | j + 1, k => ltG p m a b j fun T => frL (ltN p m a b j T) k
theorem ltG_eq {α : Type} {p : Int} {m : List Int} {a b : Int} : ∀ (j : Nat) (k : List Int → α), ltG p m a b j k = k (ltF p m a b j)
  | 0, k => frL_eq _ k
  | j + 1, k => by
    show ltG p m a b j (fun T => frL (ltN p m a b j T) k) = _
    rw [ltG_eq j, frL_eq]
    rfl
def fmulG (p : Int) (m : List Int) (a b : Int) : Int := ltG p m a b (m.length - 1) (val p)
theorem fmulG_eq {p : Int} {m : List Int} {a b : Int} : fmulG p m a b = val p (ltF p m a b (m.length - 1)) := ltG_eq _ _
def fmulF (p : Int) (m : List Int) (a b : Int) : Int := val p (ltF p m a b (m.length - 1))
theorem fmulF_eq {p : Int} {m : List Int} {a b : Int} (M : ModOk p m) : ptimes p m a b = fmulF p m a b := by
  obtain ⟨hl, hd, hc⟩ := ltF_ok (a := a) (b := b) M (m.length - 1) (Nat.le_refl _)
  unfold ptimes fmulF
  congr 1
  refine list_eq (by rw [hl, mk_len]) fun j hj => ?_
  rw [mk_len] at hj
  rw [gi_mk hj]
  have bd := gi_dig hd (k := j) (by omega)
  have z := (hc j hj).emod
  rw [Int.emod_eq_of_lt bd.1 bd.2] at z
  rw [z, ml_comm]
  congr 1
  unfold ml
  exact sm_congr fun i _ => by
    rw [Nat.sub_self, Nat.zero_add, ← sm_mul]
    exact sm_congr fun l _ => Int.mul_assoc _ _ _
def big : List (Int × List Int) := [(2, [1, 1, 0, 1, 0, 1, 0, 0, 1]), (2, [1, 1, 0, 1, 1, 0, 1]), (13, [2, 0, 1]), (3, [1, 2, 0, 0, 0, 1])]
def invs : List (List Int) := [[1],
  [1, 2],
  [1, 3, 2],
  [1, 3, 2, 4],
  [1, 2, 6, 5, 4, 3, 8, 7],
  [1, 5, 6, 7, 2, 3, 4],
  [1, 4, 5, 2, 3, 6],
  [1, 6, 4, 3, 7, 2, 5],
  [1, 2, 4, 3, 7, 8, 5, 6],
  [1, 9, 14, 13, 11, 7, 6, 15, 2, 12, 5, 10, 4, 3, 8],
  [1, 15, 10, 8, 6, 5, 9, 4, 7, 3, 14, 13, 12, 11, 2],
  [1, 3, 2, 4, 10, 17, 22, 23, 18, 5, 14, 21, 24, 11, 20, 19, 6, 9, 16, 15, 12, 7, 8, 13],
  [1, 2, 5, 8, 3, 7, 6, 4],
  [1, 6, 4, 3, 9, 2, 8, 7, 5, 10],
  [1, 4, 5, 2, 3, 6, 42, 25, 34, 15, 20, 29, 24, 21, 10, 37, 18, 17, 40, 11, 14, 47, 26, 13, 8, 23, 44, 35, 12, 33, 48, 43, 30, 9, 28, 45, 16, 39, 38, 19, 46, 7, 32, 27, 36, 41, 22, 31],
  [1, 2, 19, 21, 24, 11, 12, 15, 25, 23, 6, 7, 22, 18, 8, 20, 26, 14, 3, 16, 4, 13, 10, 5, 9, 17],
  [1, 18, 28, 9, 23, 14, 12, 22, 4, 25, 16, 7, 15, 6, 13, 11, 24, 2, 29, 30, 26, 8, 5, 17, 10, 21, 31, 3, 19, 20, 27],
  [1, 7, 9, 10, 8, 11, 2, 5, 3, 4, 6, 12],
  [1, 16, 21, 8, 25, 26, 9, 4, 7, 28, 17, 13, 12, 20, 29, 2, 11, 19, 18, 14, 3, 24, 27, 22, 5, 6, 23, 10, 15, 30],
  [1, 2],
  [1, 149, 230, 223, 187, 115, 164, 250, 133, 200, 85, 172, 206, 82, 105, 125, 39, 215, 248, 100, 89, 191, 163, 86, 80, 103, 154, 41, 51, 161, 152, 171, 145, 134, 232, 254, 225, 124, 17, 50, 28, 185, 48, 202, 118, 196, 61, 43, 184, 40, 29, 166, 177, 77, 63, 129, 97, 140, 90, 197, 47, 76, 55, 192, 244, 221, 68, 67, 220, 116, 252, 127, 143, 229, 198, 62, 54, 157, 218, 25, 87, 14, 104, 201, 11, 24, 81, 101, 21, 59, 141, 98, 151, 139, 111, 128, 57, 92, 150, 20, 88, 155, 26, 83, 15, 205, 217, 179, 158, 138, 95, 213, 242, 165, 6, 70, 253, 45, 203, 247, 226, 130, 237, 38, 16, 142, 72, 96, 56, 122, 236, 251, 9, 34, 233, 180, 194, 110, 94, 58, 91, 126, 73, 170, 33, 210, 183, 231, 2, 99, 93, 31, 160, 27, 102, 219, 78, 109, 178, 153, 30, 190, 23, 7, 114, 52, 176, 241, 239, 144, 32, 12, 207, 189, 209, 167, 53, 159, 108, 136, 195, 211, 147, 49, 42, 222, 5, 208, 174, 162, 22, 64, 245, 137, 181, 46, 60, 75, 228, 10, 84, 44, 119, 216, 106, 13, 173, 188, 175, 146, 182, 243, 112, 249, 18, 204, 107, 79, 156, 69, 66, 186, 4, 255, 37, 121, 246, 199, 74, 3, 148, 35, 135, 235, 234, 131, 123, 240, 169, 238, 168, 113, 212, 65, 193, 227, 120, 19, 214, 8, 132, 71, 117, 36, 224],
  [1, 45, 54, 59, 18, 27, 30, 48, 10, 9, 49, 32, 62, 15, 14, 24, 51, 5, 58, 41, 56, 53, 35, 16, 50, 31, 6, 42, 38, 7, 26, 12, 63, 52, 23, 47, 61, 29, 43, 57, 20, 28, 39, 55, 2, 60, 36, 8, 11, 25, 17, 34, 22, 3, 44, 21, 40, 19, 4, 46, 37, 13, 33],
  [1, 7, 9, 10, 8, 11, 2, 5, 3, 4, 6, 12, 78, 61, 35, 96, 71, 161, 20, 19, 164, 72, 99, 30, 56, 39, 94, 37, 82, 24, 127, 139, 134, 120, 15, 87, 28, 101, 26, 89, 58, 133, 150, 128, 68, 75, 119, 149, 140, 59, 80, 104, 67, 138, 151, 25, 92, 41, 50, 103, 14, 148, 135, 76, 117, 77, 53, 45, 108, 85, 17, 22, 84, 113, 46, 64, 66, 13, 122, 51, 144, 29, 159, 73, 70, 166, 36, 155, 40, 125, 156, 57, 142, 27, 146, 16, 112, 109, 23, 153, 38, 131, 60, 52, 116, 118, 136, 69, 98, 160, 165, 97, 74, 137, 129, 105, 65, 106, 47, 34, 168, 79, 132, 141, 90, 157, 31, 44, 115, 143, 102, 123, 42, 33, 63, 107, 114, 54, 32, 49, 124, 93, 130, 81, 154, 95, 167, 62, 48, 43, 55, 158, 100, 145, 88, 91, 126, 152, 83, 110, 18, 163, 162, 21, 111, 86, 147, 121],
  [1, 2, 163, 210, 240, 83, 120, 150, 217, 57, 60, 70, 104, 200, 80, 115, 142, 110, 30, 33, 40, 194, 221, 50, 154, 178, 235, 98, 37, 19, 58, 216, 20, 218, 62, 183, 29, 117, 114, 21, 143, 149, 140, 136, 106, 88, 172, 198, 103, 24, 207, 229, 202, 119, 74, 184, 10, 31, 109, 11, 108, 35, 176, 101, 167, 144, 161, 134, 153, 12, 179, 96, 234, 55, 214, 191, 196, 219, 193, 15, 241, 212, 6, 112, 188, 180, 175, 46, 99, 169, 186, 111, 182, 170, 113, 72, 118, 28, 89, 105, 64, 155, 49, 13, 100, 45, 165, 61, 59, 18, 92, 84, 95, 39, 16, 192, 38, 97, 54, 7, 211, 162, 127, 204, 233, 129, 123, 157, 126, 238, 205, 208, 201, 68, 195, 44, 215, 189, 213, 43, 220, 17, 41, 66, 203, 228, 197, 190, 42, 8, 164, 242, 69, 25, 102, 239, 128, 232, 230, 209, 67, 122, 3, 151, 107, 171, 65, 224, 90, 94, 166, 47, 174, 173, 87, 63, 199, 26, 71, 86, 222, 93, 36, 56, 236, 91, 223, 85, 138, 148, 76, 116, 79, 22, 135, 77, 147, 48, 177, 14, 133, 53, 145, 124, 131, 226, 51, 132, 160, 4, 121, 82, 139, 75, 137, 32, 9, 34, 78, 141, 23, 181, 187, 168, 231, 206, 237, 146, 52, 159, 225, 158, 125, 73, 27, 185, 227, 130, 156, 5, 81, 152]]
def tab24 : List (Int × List Int) := tab ++ big
def invOk (e : Int × List Int) (t : List Int) : Bool := decide (t.length = (e.1 ^ (e.2.length - 1) - 1).toNat) && (List.range t.length).all fun i => decide (1 ≤ gi t i ∧ gi t i < e.1 ^ (e.2.length - 1)) && frI ((i : Int) + 1) fun x => frI (gi t i) fun y => decide (fmulG e.1 e.2 x y = 1)
theorem invs_ok : ((tab24.zip invs).all fun z => invOk z.1 z.2) = true := by decide +kernel
theorem invs_len : tab24.length = invs.length := by decide +kernel

theorem big_mod0 : (big.all fun e => (e.2.all fun x => decide (0 ≤ x ∧ x < e.1)) && decide (gi e.2 (e.2.length - 1) = 1)) = true := by decide +kernel
end Nw

namespace Nw
open PySem Dl
/-! ## is_irreducible, is_modulus: where they say yes -/
abbrev dvs (p n : Int) (s : Nat) : List Int := dg n p s ++ [1]
theorem dvs_dig {p n : Int} (hp : 1 < p) {s : Nat} : Dig p (dvs p n s) := fun x hx => by
  rcases List.mem_append.mp hx with h | h
  · exact dg_dig (by omega) x h
  · rw [List.mem_singleton.mp h]
    exact ⟨by decide, hp⟩
theorem dvs_len {p n : Int} {s : Nat} : (dvs p n s).length = s + 1 := by simp [dg]
abbrev irS (p : Int) (m : List Int) (x : Option TV) : Sta := [some ⟨.frz, true, .int p⟩, some ⟨.frz, false, .tup (m.map D.int)⟩, x, none, none, none]
theorem ir_turn {p : Int} {m : List Int} {s n : Nat} (hp : 1 < p ∧ p < 1073741824) (hm : m.length ≤ 1000) (hs : 1 ≤ s ∧ s ≤ 1000) (h : remI p (dvs p n s) m (m.length - s) ≠ List.replicate s 0) :
    turnF (tgName 3) b1_is_irreducible ⟨.frz, true, .int (0 + (n : Int))⟩ (irS p m (some ⟨.frz, true, .int (s : Int)⟩)) = .ok (.next, irS p m (some ⟨.frz, true, .int (s : Int)⟩)) := by
  have e0 : (0 : Int) + (n : Int) = (n : Int) := by omega
  have e1 : ((s : Nat) : Int).toNat = s := Int.toNat_natCast s
  have bd := base_digits_eq (n : Int) p (s : Int) (by omega) ⟨by omega, by omega⟩
  rw [e1] at bd
  have re := rem_tl p (dvs p n s) m (by omega) (dvs_dig hp.1) (by rw [dvs_len]; omega) (by omega) (by rw [dvs_len]; omega)
  rw [dvs_len, Nat.add_sub_cancel] at re
  have ea : (dg (n : Int) p s).map D.int ++ [D.int 1] = (dvs p n s).map D.int := by simp
  have b1 : (dg (n : Int) p s).length + 1 ≤ 16777216 := by rw [dg_len]; omega
  have b3 : ((s : Nat) : Int) ≤ 9223372036854775807 ∧ -9223372036854775808 ≤ ((s : Nat) : Int) ∧ 1 * s ≤ 16777216 := by omega
  have hd : decide (remI p (dvs p n s) m (m.length - s) = List.replicate s 0) = false := decide_eq_false h
  rw [turn_s tgn_e, e0]
  unfold b1_is_irreducible
  simp? only [irS, bd, b1, ea, re, e1, b3, rep_int, hd]
theorem ir_eq {p : Int} {m : List Int} (hp : 1 < p ∧ p < 1073741824) (hm : 2 ≤ m.length ∧ m.length ≤ 1000) (hq : ∀ s < m.length - 2, p ^ (s + 1) < 1073741824) (h : ∀ s < m.length - 2, ∀ n < (p ^ (s + 1)).toNat, remI p (dvs p n (s + 1)) m (m.length - (s + 1)) ≠ List.replicate (s + 1) 0) :
    g_is_irreducible [.int p, .tup (m.map D.int)] = .ok ⟨.frz, true, .bl true⟩ := by
  have r := forI_rng (f := turnF (tgName 2) b2_is_irreducible) (lo := 1) (n := m.length - 2) (fun _ => irS p m none) fun s hs => .inl (by
    have es : (1 : Int) + (s : Int) = ((s + 1 : Nat) : Int) := by omega
    have hp0 : 0 ≤ p ^ (s + 1) := Int.pow_nonneg (by omega)
    have ip := int_power_eq p ((s + 1 : Nat) : Int) (by omega) (by omega)
    rw [Int.toNat_natCast] at ip
    have hz : small (p ^ (s + 1)) = true := small_i ⟨by omega, by have := hq s hs; omega⟩
    have r := forI_rng (f := turnF (tgName 3) b1_is_irreducible) (lo := 0) (n := (p ^ (s + 1)).toNat) (fun _ => irS p m (some ⟨.frz, true, .int ((s + 1 : Nat) : Int)⟩)) fun n hn => .inl (ir_turn hp hm.2 (by omega) (h s hs n hn))
    rw [turn_s tgn_e, es]
    unfold b2_is_irreducible
    simp only [irS] at r
    simp? only [irS, ip, hz, r])
  have hz : (small 1 && small ((m.length : Int) - 1)) = true := by
    rw [small_i ⟨by omega, by omega⟩, small_i ⟨by omega, by omega⟩]
    rfl
  have e : ((m.length : Int) - 1 - 1).toNat = m.length - 2 := by omega
  simp only [irS] at r
  simp? only [g_is_irreducible, m_is_irreducible]
  rw [rng2_i hz]
  simp? only [e, r]
theorem mod_eq {p : Int} {m : List Int} (hp : 1 < p ∧ p < 1073741824) (hm : 2 ≤ m.length ∧ m.length ≤ 9) (ht : gi m (m.length - 1) = 1) (hq : p ^ (m.length - 1) ≤ 256) (hd : Dig p m) (hi : g_is_irreducible [.int p, .tup (m.map D.int)] = .ok ⟨.frz, true, .bl true⟩) :
    g_is_modulus [.int p, .tup (m.map D.int)] = .ok ⟨.frz, true, .bl true⟩ := by
  have e0 : ((m.length : Int) - 1) = ((m.length - 1 : Nat) : Int) := by omega
  have ip := int_power_eq p ((m.length - 1 : Nat) : Int) (by omega) (by omega)
  rw [Int.toNat_natCast] at ip
  have c1 : ¬ ((m.length : Int) < 2) := by omega
  have c2 : ¬ (9 < (m.length : Int)) := by omega
  have c3 : m ≠ [] := fun z => by rw [z] at hm; simp at hm
  have c4 : ¬ (256 < p ^ (m.length - 1)) := by omega
  have r := forI_map (f := turnF (tgName 2) b1_is_modulus) (g := TV.el false ∘ D.int) m (fun _ => [some ⟨.frz, true, .int p⟩, some ⟨.frz, false, .tup (m.map D.int)⟩, none]) fun i hi => .inl (by
    have b := hd m[i] (List.getElem_mem hi)
    have b1 : ¬ (m[i] < 0) := by omega
    have b2 : ¬ (p ≤ m[i]) := by omega
    show turnF _ _ (TV.el false (D.int m[i])) _ = _
    rw [el_i, turn_s tgn_e]
    unfold b1_is_modulus
    simp? only [b1, b2])
  have em : List.map (TV.el false) (List.map D.int m) = List.map (TV.el false ∘ D.int) m := by rw [List.map_map]
  simp? only [g_is_modulus, m_is_modulus, c1, c2, ix_ti1, c3, ne_eq, not_false_eq_true, ht, e0, ip, c4, em, r, hi]
/-! ### looked at with plain numbers -/
def remG {α : Type} (p : Int) (M R : List Int) : Nat → (List Int → α) → α
  | 0, k => frL R k
  | i + 1, k => remG p M R i fun T => frL (stepL p M T) k
theorem remG_eq {α : Type} {p : Int} {M R : List Int} : ∀ (i : Nat) (k : List Int → α), remG p M R i k = k (remI p M R i)
  | 0, k => frL_eq _ k
  | i + 1, k => by
    show remG p M R i (fun T => frL (stepL p M T) k) = _
    rw [remG_eq i, frL_eq]
    rfl
def irrG (p : Int) (m : List Int) : Bool := (List.range (m.length - 2)).all fun s => decide (p ^ (s + 1) < 1073741824) && (List.range (p ^ (s + 1)).toNat).all fun n => frI (n : Int) fun n => frL (dvs p n (s + 1)) fun M => remG p M m (m.length - (s + 1)) fun T => decide (T ≠ List.replicate (s + 1) 0)
theorem irrG_of {p : Int} {m : List Int} (hp : 1 < p ∧ p < 1073741824) (hm : 2 ≤ m.length ∧ m.length ≤ 1000) (h : irrG p m = true) : g_is_irreducible [.int p, .tup (m.map D.int)] = .ok ⟨.frz, true, .bl true⟩ := by
  have key := fun s (hs : s < m.length - 2) => Bool.and_eq_true_iff.mp (List.all_eq_true.mp h s (List.mem_range.mpr hs))
  refine ir_eq hp hm (fun s hs => of_decide_eq_true (key s hs).1) fun s hs n hn => ?_
  have z := List.all_eq_true.mp (key s hs).2 n (List.mem_range.mpr hn)
  rw [frI_eq, frL_eq, remG_eq] at z
  exact of_decide_eq_true z
theorem big_irr : (big.all fun e => irrG e.1 e.2) = true := by decide +kernel
theorem big_num : (big.all fun e => decide (1 < e.1 ∧ e.1 ≤ 31) && (decide (2 ≤ e.2.length ∧ e.2.length ≤ 9) && (decide (e.1 ^ (e.2.length - 1) ≤ 256) && okT (g_is_prime [.int e.1])))) = true := by decide +kernel
end Nw

namespace Nw
open PySem Dl
/-! ## the twenty-four fields -/
structure F24 (p : Int) (m : List Int) : Prop where
  hp : 1 < p ∧ p ≤ 31
  hm : 2 ≤ m.length ∧ m.length ≤ 9
  hq : p ^ (m.length - 1) ≤ 256
  hq1 : 1 < p ^ (m.length - 1)
  init : g_Field_init [.int p, .tup (m.map D.int)] = .ok false [.int p, .tup (m.map D.int), .int ((m.length - 1 : Nat) : Int), .int (p ^ (m.length - 1))]
  ok : ModOk p m
  inv : ∀ b : Int, 1 ≤ b → b < p ^ (m.length - 1) → ∃ c, 1 ≤ c ∧ c < p ^ (m.length - 1) ∧ ptimes p m b c = 1
theorem inv24 {e : Int × List Int} (h : e ∈ tab24) (M : ModOk e.1 e.2) (b : Int) (h1 : 1 ≤ b) (h2 : b < e.1 ^ (e.2.length - 1)) : ∃ c, 1 ≤ c ∧ c < e.1 ^ (e.2.length - 1) ∧ ptimes e.1 e.2 b c = 1 := by
  obtain ⟨i, hi, he⟩ := List.mem_iff_getElem.mp h
  have hi2 : i < invs.length := by rw [← invs_len]; exact hi
  have hz : i < (tab24.zip invs).length := by rw [List.length_zip, ← invs_len]; omega
  have z := List.all_eq_true.mp invs_ok _ (List.getElem_mem hz)
  rw [List.getElem_zip, he] at z
  dsimp only at z
  generalize invs[i] = t at z
  obtain ⟨z1, z2⟩ := Bool.and_eq_true_iff.mp (show (_ && _) = true from z)
  have z1 := of_decide_eq_true z1
  have hb : (b - 1).toNat < t.length := by
    rw [z1]
    omega
  obtain ⟨z3, z4⟩ := Bool.and_eq_true_iff.mp (List.all_eq_true.mp z2 (b - 1).toNat (List.mem_range.mpr hb))
  have z3 := of_decide_eq_true z3
  rw [frI_eq, frI_eq] at z4
  have z4 := of_decide_eq_true z4
  refine ⟨_, z3.1, z3.2, ?_⟩
  rw [fmulF_eq M]
  have eb : (((b - 1).toNat : Nat) : Int) + 1 = b := by omega
  rw [fmulG_eq, eb] at z4
  exact z4
theorem f24_of {e : Int × List Int} (h : e ∈ tab24) (hp : 1 < e.1 ∧ e.1 ≤ 31) (hm : 2 ≤ e.2.length ∧ e.2.length ≤ 9) (hq : e.1 ^ (e.2.length - 1) ≤ 256) (M : ModOk e.1 e.2) (t4 : g_is_prime [.int e.1] = .ok ⟨.frz, true, .bl true⟩) (t5 : g_is_modulus [.int e.1, .tup (e.2.map D.int)] = .ok ⟨.frz, true, .bl true⟩) : F24 e.1 e.2 :=
  ⟨hp, hm, hq, by
    have : MO e.1 e.2 := ⟨M⟩
    exact MO.q0 e.1 e.2, init_eq e.1 e.2 (by omega) (by omega) t4 t5, M, inv24 h M⟩
theorem f24 {e : Int × List Int} (h : e ∈ tab24) : F24 e.1 e.2 := by
  rcases List.mem_append.mp h with h' | h'
  · have t := List.all_eq_true.mp tab_ok e h'
    obtain ⟨t12, t⟩ := Bool.and_eq_true_iff.mp (show (_ && _) = true from t)
    obtain ⟨t1, t2⟩ := Bool.and_eq_true_iff.mp t12
    obtain ⟨t3, t⟩ := Bool.and_eq_true_iff.mp t
    obtain ⟨t4, t⟩ := Bool.and_eq_true_iff.mp t
    obtain ⟨t5, t6⟩ := Bool.and_eq_true_iff.mp t
    have t1 := of_decide_eq_true t1
    exact f24_of h ⟨by omega, t1.2⟩ (of_decide_eq_true t2) (of_decide_eq_true t3) (modOk h') (okT_of t4) (okT_of t5)
  · obtain ⟨t1, t⟩ := Bool.and_eq_true_iff.mp (List.all_eq_true.mp big_num e h')
    obtain ⟨t2, t⟩ := Bool.and_eq_true_iff.mp t
    obtain ⟨t3, t4⟩ := Bool.and_eq_true_iff.mp t
    have t1 := of_decide_eq_true t1
    have t2 := of_decide_eq_true t2
    have t3 := of_decide_eq_true t3
    obtain ⟨m1, m2⟩ := Bool.and_eq_true_iff.mp (List.all_eq_true.mp big_mod0 e h')
    have m2 := of_decide_eq_true m2
    have M : ModOk e.1 e.2 := ⟨by omega, by omega, dig_of m1, m2⟩
    exact f24_of h t1 t2 t3 M (okT_of t4) (mod_eq (by omega) t2 m2 t3 (dig_of m1) (irrG_of (by omega) (by omega) (List.all_eq_true.mp big_irr e h')))
/-! ## inverse, over -/
section
variable {p : Int} {m : List Int}
theorem least_of {P : Nat → Prop} [DecidablePred P] : ∀ n, P n → ∃ k, k ≤ n ∧ P k ∧ ∀ i < k, ¬ P i
  | 0, h => ⟨0, Nat.le_refl _, h, fun i hi => absurd hi (Nat.not_lt_zero _)⟩
  | n + 1, h => by
    by_cases c : ∃ k, k ≤ n ∧ P k
    · obtain ⟨k, h1, h2⟩ := c
      have hlt : k < n + 1 := by omega
      obtain ⟨j, j1, j2, j3⟩ := least_of k h2
      exact ⟨j, by omega, j2, j3⟩
    · exact ⟨n + 1, Nat.le_refl _, h, fun i hi hP => c ⟨i, by omega, hP⟩⟩
termination_by n => n
end
end Nw

namespace Nw
open PySem Dl
/-! ## the field's object, its elements -/
class FF (p : Int) (m : List Int) : Prop where
  f : F24 p m
instance {p : Int} {m : List Int} [h : FF p m] : MO p m := ⟨h.f.ok⟩
instance {p : Int} {m : List Int} : DecidableEq (Fe p m) := fun a b => if h : a.v = b.v then isTrue (Fe.ext h) else isFalse fun e => h (congrArg Fe.v e)
/-- the order -/
def qo (p : Int) (m : List Int) : Int := p ^ (m.length - 1)
/-- the field's object -/
def fo (p : Int) (m : List Int) : D := fobj p m ((m.length - 1 : Nat) : Int) (p ^ (m.length - 1))
section
variable {p : Int} {m : List Int}
theorem fo_e : fobj p m ((m.length - 1 : Nat) : Int) (p ^ (m.length - 1)) = fo p m := id rfl
theorem fo_e2 : D.obj c_Field [.int p, .tup (m.map D.int), .int ((m.length - 1 : Nat) : Int), .int (p ^ (m.length - 1))] = fo p m := id rfl
theorem fo_atom {fr : Bool} : TV.el fr (fo p m) = ⟨.frz, fr, fo p m⟩ := el_o
theorem vbK_fo {st : Sta} {k : Kd} {fr : Bool} : vbK st (some ⟨.frz, fr, fo p m⟩) = .ok (⟨.frz, fr, fo p m⟩, st) := id rfl
theorem fld_fo0 {k : Kd} {fr : Bool} : fFld c_Field 0 ⟨k, fr, fo p m⟩ = some ⟨.frz, true, .int p⟩ := (fld_e (c := c_Field) (n := 0)).trans (congrArg some el_i)
theorem fld_fo1 {k : Kd} {fr : Bool} : fFld c_Field 1 ⟨k, fr, fo p m⟩ = some ⟨.frz, fr, .tup (m.map D.int)⟩ := (fld_e (c := c_Field) (n := 1)).trans (congrArg some el_t)
theorem fld_fo3 {k : Kd} {fr : Bool} : fFld c_Field 3 ⟨k, fr, fo p m⟩ = some ⟨.frz, true, .int (qo p m)⟩ := (fld_e (c := c_Field) (n := 3)).trans (congrArg some el_i)
theorem methK_fo {st : Sta} {k : Kd} {fr : Bool} {g : List D → Out} {ms : MA} : methK g c_Field ms (⟨k, fr, fo p m⟩, st) = (ms st).bind (methK2 g ⟨k, fr, fo p m⟩) := methK_e
variable [h : FF p m]
theorem qo_pos : 1 < qo p m := MO.q0 p m
theorem qo_le : qo p m ≤ 256 := h.f.hq
theorem fe_lt (a : Fe p m) : 0 ≤ a.v ∧ a.v < qo p m := ⟨a.h0, a.h1⟩
theorem fe_small (a : Fe p m) : 0 ≤ a.v ∧ a.v < 1073741824 := by have := a.h0; have := a.h1; have := h.f.hq; omega
theorem fe_of {x : Int} (h0 : 0 ≤ x) (h1 : x < qo p m) : ∃ a : Fe p m, a.v = x := ⟨⟨x, h0, h1⟩, rfl⟩
theorem fe_v0 {a : Fe p m} : a.v = 0 ↔ a = 0 := ⟨fun e => Fe.ext e, fun e => by rw [e]; rfl⟩
theorem plus_fe (a b : Fe p m) : g_Field_plus [fo p m, .int a.v, .int b.v] = .ok ⟨.frz, true, .int (a + b).v⟩ := by
  have hp := h.f.hp
  have hm := h.f.hm
  exact plus_eq p m (m.length - 1) (p ^ (m.length - 1)) a.v b.v (by omega) (by omega)
theorem minus_fe (a b : Fe p m) : g_Field_minus [fo p m, .int a.v, .int b.v] = .ok ⟨.frz, true, .int (a - b).v⟩ := by
  have hp := h.f.hp
  have hm := h.f.hm
  rw [v_sub]
  exact minus_eq p m (m.length - 1) (p ^ (m.length - 1)) a.v b.v (by omega) (by omega)
theorem negative_fe (a : Fe p m) : g_Field_negative [fo p m, .int a.v] = .ok ⟨.frz, true, .int (-a).v⟩ := by
  have hp := h.f.hp
  have hm := h.f.hm
  exact negative_eq p m (m.length - 1) (p ^ (m.length - 1)) a.v (by omega) (by omega)
theorem times_fe (a b : Fe p m) : g_Field_times [fo p m, .int a.v, .int b.v] = .ok ⟨.frz, true, .int (a * b).v⟩ := times_eq p m (p ^ (m.length - 1)) a.v b.v h.f.ok (fe_small a)
theorem inv_ex (a : Fe p m) : ∃ b : Fe p m, a ≠ 0 → a * b = 1 := by
  by_cases c : a = 0
  · exact ⟨0, fun h => absurd c h⟩
  · have h0 := a.h0
    have c1 : a.v ≠ 0 := fun e => c (Fe.ext e)
    obtain ⟨b, b1, b2, b3⟩ := h.f.inv a.v (by omega) a.h1
    exact ⟨⟨b, by omega, b2⟩, fun _ => Fe.ext (by rw [v_one]; exact b3)⟩
noncomputable def finv (a : Fe p m) : Fe p m := Classical.choose (inv_ex a)
theorem mul_finv {a : Fe p m} (c : a ≠ 0) : a * finv a = 1 := Classical.choose_spec (inv_ex a) c
theorem finv_uniq {a b : Fe p m} (e : a * b = 1) : b = finv a := by
  have c : a ≠ 0 := fun z => by
    rw [z] at e
    have e1 : (0 : Fe p m) * b = 0 := by grind
    rw [e1] at e
    have := congrArg Fe.v e
    rw [v_one, v_zero] at this
    exact absurd this (by decide)
  have := mul_finv c
  grind
theorem one_ne : (1 : Fe p m) ≠ 0 := fun e => by
  have := congrArg Fe.v e
  rw [v_one, v_zero] at this
  exact absurd this (by decide)
theorem mul_ne {a b : Fe p m} (ha : a ≠ 0) (hb : b ≠ 0) : a * b ≠ 0 := fun e => by
  have h1 := mul_finv ha
  have h2 : b = 0 := by
    have : finv a * (a * b) = 0 := by rw [e]; grind
    grind
  exact hb h2
end
/-! ## words -/
section
variable {p : Int} {m : List Int} [h : FF p m]
/-- the items as integers -/
def iv (W : List (Fe p m)) : List Int := W.map Fe.v
abbrev wd (W : List (Fe p m)) : D := .lst ((iv W).map D.int)
/-- the item at a place, 0 behind the end -/
def ev (W : List (Fe p m)) (i : Nat) : Fe p m := W.getD i 0
theorem iv_len {W : List (Fe p m)} : (iv W).length = W.length := List.length_map ..
theorem iv_get {W : List (Fe p m)} {i : Nat} : (iv W).getD i 0 = (ev W i).v := by
  unfold iv ev
  rw [List.getD_eq_getElem?_getD, List.getD_eq_getElem?_getD, List.getElem?_map]
  cases W[i]? <;> rfl
theorem iv_inj {V W : List (Fe p m)} : iv V = iv W ↔ V = W := ⟨fun e => by
  unfold iv at e
  exact List.map_inj_right (fun a b z => Fe.ext z) |>.mp e, fun e => by rw [e]⟩
theorem iv_nil : iv ([] : List (Fe p m)) = [] := rfl
theorem iv_cons {a : Fe p m} {W : List (Fe p m)} : iv (a :: W) = a.v :: iv W := rfl
theorem iv_app {V W : List (Fe p m)} : iv (V ++ W) = iv V ++ iv W := List.map_append ..
theorem iv_mem {W : List (Fe p m)} {x : Int} (hx : x ∈ iv W) : 0 ≤ x ∧ x < qo p m := by
  obtain ⟨a, _, rfl⟩ := List.mem_map.mp hx
  exact fe_lt a
theorem ev_lt {W : List (Fe p m)} {i : Nat} (hi : i < W.length) : ev W i = W[i] := by
  unfold ev
  rw [List.getD_eq_getElem?_getD, List.getElem?_eq_getElem hi]
  rfl
theorem ev_out {W : List (Fe p m)} {i : Nat} (hi : W.length ≤ i) : ev W i = 0 := by
  unfold ev
  rw [List.getD_eq_getElem?_getD, List.getElem?_eq_none hi]
  rfl
theorem ev_ext {V W : List (Fe p m)} (hl : V.length = W.length) (e : ∀ i < V.length, ev V i = ev W i) : V = W := by
  refine List.ext_getElem hl fun i h1 h2 => ?_
  have := e i h1
  rwa [ev_lt h1, ev_lt h2] at this
/-- a word by its items -/
def mw (n : Nat) (f : Nat → Fe p m) : List (Fe p m) := (List.range n).map f
theorem mw_len {n : Nat} {f : Nat → Fe p m} : (mw n f).length = n := by simp [mw]
theorem ev_mw {n : Nat} {f : Nat → Fe p m} {i : Nat} (hi : i < n) : ev (mw n f) i = f i := by
  rw [ev_lt (by rw [mw_len]; exact hi)]
  simp [mw]
theorem mw_ev {W : List (Fe p m)} : mw W.length (ev W) = W := ev_ext mw_len fun i hi => by
  rw [mw_len] at hi
  exact ev_mw hi
theorem mw_congr {n : Nat} {f g : Nat → Fe p m} (e : ∀ i < n, f i = g i) : mw n f = mw n g := by
  refine ev_ext (by rw [mw_len, mw_len]) fun i hi => ?_
  rw [mw_len] at hi
  rw [ev_mw hi, ev_mw hi, e i hi]
theorem iv_mw {n : Nat} {f : Nat → Fe p m} : iv (mw n f) = mk n fun i => (f i).v := by
  unfold iv mw mk
  rw [List.map_map]
  rfl
theorem ev_set {W : List (Fe p m)} {i j : Nat} {a : Fe p m} (hi : i < W.length) : ev (W.set i a) j = if j = i then a else ev W j := by
  unfold ev
  rw [List.getD_eq_getElem?_getD, List.getD_eq_getElem?_getD, List.getElem?_set]
  by_cases c : i = j
  · subst c
    rw [if_pos rfl, if_pos hi, if_pos rfl]
    rfl
  · rw [if_neg c, if_neg (fun z => c z.symm)]
theorem iv_set {W : List (Fe p m)} {i : Nat} {a : Fe p m} : (iv W).set i a.v = iv (W.set i a) := by
  unfold iv
  rw [List.map_set]
/-- from integers in range -/
theorem iv_of : ∀ {L : List Int}, (∀ x ∈ L, 0 ≤ x ∧ x < qo p m) → ∃ W : List (Fe p m), iv W = L
  | [], _ => ⟨[], rfl⟩
  | x :: L, hL => by
    obtain ⟨W, e⟩ := iv_of (L := L) fun y hy => hL y (List.mem_cons_of_mem _ hy)
    have hx := hL x List.mem_cons_self
    exact ⟨⟨x, hx.1, hx.2⟩ :: W, by rw [iv_cons, e]⟩
/-- a matrix's rows -/
abbrev mx (R : List (List (Fe p m))) : D := .lst (R.map wd)
theorem ix_m {k k' : Kd} {fr fr' : Bool} {R : List (List (Fe p m))} {i : Int} (hi : 0 ≤ i ∧ i < R.length) : fIx ⟨k, fr, .lst (R.map wd)⟩ ⟨k', fr', .int i⟩ = some ⟨.frz, fr, (.lst ((iv (R.getD i.toNat [])).map D.int))⟩ := by
  have e : i.toNat < R.length := by omega
  rw [ix_l (d := (.lst ((iv (R.getD i.toNat [])).map D.int))) hi.1 (by rw [List.getElem?_map, List.getElem?_eq_getElem e, List.getD_eq_getElem?_getD, List.getElem?_eq_getElem e]; rfl)]
  exact congrArg some el_l
theorem set_m {R : List (List (Fe p m))} {i : Nat} {W : List (Fe p m)} : (R.map wd).set i ((.lst ((iv (W)).map D.int))) = (R.set i W).map wd := by rw [List.map_set]
/-- the item in a row and a column -/
def at2 (R : List (List (Fe p m))) (r j : Nat) : Fe p m := ev (R.getD r []) j
end
end Nw

namespace Nw
open PySem Dl
section
variable {p : Int} {m : List Int} [h : FF p m]
/-! ## sums of elements -/
def fs : Nat → (Nat → Fe p m) → Fe p m
  | 0, _ => 0
  | n + 1, f => fs n f + f n
theorem fs_congr {n : Nat} {f g : Nat → Fe p m} (e : ∀ k < n, f k = g k) : fs n f = fs n g := by
  induction n with
  | zero => rfl
  | succ n ih =>
    show fs n f + f n = fs n g + g n
    rw [ih fun k hk => e k (by omega), e n (by omega)]
theorem fs_zero {n : Nat} {f : Nat → Fe p m} (e : ∀ k < n, f k = 0) : fs n f = 0 := by
  induction n with
  | zero => rfl
  | succ n ih =>
    show fs n f + f n = 0
    rw [ih fun k hk => e k (by omega), e n (by omega)]
    grind
theorem fs_add {n : Nat} {f g : Nat → Fe p m} : fs n (fun k => f k + g k) = fs n f + fs n g := by
  induction n with
  | zero => show (0 : Fe p m) = 0 + 0; grind
  | succ n ih =>
    show fs n (fun k => f k + g k) + (f n + g n) = (fs n f + f n) + (fs n g + g n)
    rw [ih]
    grind
theorem fs_mul {n : Nat} {c : Fe p m} {f : Nat → Fe p m} : fs n (fun k => c * f k) = c * fs n f := by
  induction n with
  | zero => show (0 : Fe p m) = c * 0; grind
  | succ n ih =>
    show fs n (fun k => c * f k) + c * f n = c * (fs n f + f n)
    rw [ih]
    grind
theorem fs_one {n i : Nat} {f : Nat → Fe p m} (hi : i < n) (e : ∀ k < n, k ≠ i → f k = 0) : fs n f = f i := by
  induction n with
  | zero => omega
  | succ n ih =>
    show fs n f + f n = f i
    by_cases c : i = n
    · subst c
      rw [fs_zero fun k hk => e k (by omega) (by omega)]
      grind
    · rw [ih (by omega) fun k hk => e k (by omega), e n (by omega) (by omega)]
      grind
theorem fs_swap {n l : Nat} {f : Nat → Nat → Fe p m} : fs n (fun i => fs l fun j => f i j) = fs l (fun j => fs n fun i => f i j) := by
  induction n with
  | zero => exact (fs_zero (n := l) (f := fun j => fs 0 fun i => f i j) fun k _ => rfl).symm
  | succ n ih =>
    show fs n (fun i => fs l fun j => f i j) + fs l (fun j => f n j) = fs l (fun j => fs n (fun i => f i j) + f n j)
    rw [ih, fs_add]
theorem fs_neg {n : Nat} {f : Nat → Fe p m} : fs n (fun k => - f k) = - fs n f := by
  have e : fs n (fun k => - f k) = fs n (fun k => (-1 : Fe p m) * f k) := fs_congr fun k _ => by grind
  rw [e, fs_mul]
  grind
theorem fs_first {n : Nat} {f : Nat → Fe p m} : fs (n + 1) f = f 0 + fs n (fun k => f (k + 1)) := by
  induction n with
  | zero => show (0 : Fe p m) + f 0 = f 0 + 0; grind
  | succ n ih =>
    show fs (n + 1) f + f (n + 1) = f 0 + (fs n (fun k => f (k + 1)) + f (n + 1))
    rw [ih]
    grind
/-! ## spans -/
inductive Sp (R : List (List (Fe p m))) : (Nat → Fe p m) → Prop where
  | zero : Sp R (fun _ => 0)
  | step {r : List (Fe p m)} {f : Nat → Fe p m} (c : Fe p m) (hr : r ∈ R) (hf : Sp R f) : Sp R (fun j => c * ev r j + f j)
theorem Sp.congr {R : List (List (Fe p m))} {f g : Nat → Fe p m} (s : Sp R f) (e : ∀ j, f j = g j) : Sp R g := by
  have : f = g := funext e
  rw [← this]
  exact s
theorem Sp.add {R : List (List (Fe p m))} {f g : Nat → Fe p m} (s : Sp R f) (t : Sp R g) : Sp R (fun j => f j + g j) := by
  induction s with
  | zero => exact t.congr fun j => by grind
  | step c hr _ ih => exact (Sp.step c hr ih).congr fun j => by grind
theorem Sp.smul {R : List (List (Fe p m))} {f : Nat → Fe p m} (s : Sp R f) (c : Fe p m) : Sp R (fun j => c * f j) := by
  induction s with
  | zero => exact Sp.zero.congr fun j => by grind
  | step d hr _ ih => exact (Sp.step (c * d) hr ih).congr fun j => by grind
theorem Sp.row {R : List (List (Fe p m))} {r : List (Fe p m)} (hr : r ∈ R) : Sp R (ev r) := (Sp.step 1 hr Sp.zero).congr fun j => by grind
theorem Sp.mono {R S : List (List (Fe p m))} (e : ∀ r ∈ R, Sp S (ev r)) {f : Nat → Fe p m} (s : Sp R f) : Sp S f := by
  induction s with
  | zero => exact .zero
  | step c hr _ ih => exact ((e _ hr).smul c).add ih
theorem Sp.fs {R : List (List (Fe p m))} {n : Nat} {c : Nat → Fe p m} {g : Nat → Nat → Fe p m} (e : ∀ k < n, Sp R (g k)) : Sp R (fun j => fs n fun k => c k * g k j) := by
  induction n with
  | zero => exact .zero
  | succ n ih => exact (ih fun k hk => e k (by omega)).add ((e n (by omega)).smul (c n))
theorem Sp.out {R : List (List (Fe p m))} {n : Nat} (e : ∀ r ∈ R, r.length = n) {f : Nat → Fe p m} (s : Sp R f) : ∀ j, n ≤ j → f j = 0 := by
  induction s with
  | zero => exact fun j _ => rfl
  | step c hr _ ih =>
    intro j hj
    show c * ev _ j + _ = 0
    rw [ih j hj, ev_out (by rw [e _ hr]; exact hj)]
    grind
/-- equal spans -/
def SpE (R S : List (List (Fe p m))) : Prop := (∀ r ∈ R, Sp S (ev r)) ∧ ∀ r ∈ S, Sp R (ev r)
theorem SpE.refl {R : List (List (Fe p m))} : SpE R R := ⟨fun _ => Sp.row, fun _ => Sp.row⟩
theorem SpE.symm {R S : List (List (Fe p m))} (e : SpE R S) : SpE S R := ⟨e.2, e.1⟩
theorem SpE.trans {R S T : List (List (Fe p m))} (e : SpE R S) (g : SpE S T) : SpE R T := ⟨fun r hr => (e.1 r hr).mono g.1, fun r hr => (g.2 r hr).mono e.2⟩
theorem SpE.sp {R S : List (List (Fe p m))} (e : SpE R S) {f : Nat → Fe p m} : Sp R f ↔ Sp S f := ⟨fun s => s.mono e.1, fun s => s.mono e.2⟩
/-! ## reduced forms -/
theorem at_row {R : List (List (Fe p m))} {r : Nat} (hr : r < R.length) {j : Nat} : at2 R r j = ev R[r] j := by
  unfold at2
  rw [List.getD_eq_getElem?_getD, List.getElem?_eq_getElem hr]
  rfl
abbrev gn (P : List Nat) (k : Nat) : Nat := P.getD k 0
theorem gn_lt {P : List Nat} {k : Nat} (hk : k < P.length) : gn P k = P[k] := by
  rw [gn, List.getD_eq_getElem?_getD, List.getElem?_eq_getElem hk]
  rfl
structure RR (n : Nat) (R : List (List (Fe p m))) (P : List Nat) : Prop where
  len : R.length = P.length
  row : ∀ r ∈ R, r.length = n
  pn : ∀ x ∈ P, x < n
  inc : ∀ i k, i < k → k < P.length → gn P i < gn P k
  one : ∀ i < P.length, ∀ k < P.length, at2 R i (gn P k) = if i = k then 1 else 0
  low : ∀ i < P.length, ∀ j < gn P i, at2 R i j = 0
theorem RR.mem {n : Nat} {R : List (List (Fe p m))} {P : List Nat} (z : RR n R P) {i : Nat} (hi : i < P.length) : R[i]'(by rw [z.len]; exact hi) ∈ R := List.getElem_mem _
/-- what lies in the span, by its items at the pivots -/
theorem RR.repr {n : Nat} {R : List (List (Fe p m))} {P : List Nat} (z : RR n R P) {f : Nat → Fe p m} (s : Sp R f) : ∀ j, f j = fs P.length fun i => f (gn P i) * at2 R i j := by
  induction s with
  | zero => exact fun j => (fs_zero fun k _ => by grind).symm
  | step c hr _ ih =>
    rename_i r f hf
    obtain ⟨i0, hi0, e0⟩ := List.mem_iff_getElem.mp hr
    have hi : i0 < P.length := by rw [← z.len]; exact hi0
    intro j
    have e1 : ∀ x, ev r x = at2 R i0 x := fun x => by rw [at_row hi0, e0]
    show c * ev r j + f j = fs P.length fun i => (c * ev r (gn P i) + f (gn P i)) * at2 R i j
    have e2 : (fs P.length fun i => (c * ev r (gn P i) + f (gn P i)) * at2 R i j) = fs P.length (fun i => c * (ev r (gn P i) * at2 R i j)) + fs P.length (fun i => f (gn P i) * at2 R i j) := by
      rw [← fs_add]
      exact fs_congr fun k _ => by grind
    rw [e2, ← ih j, fs_mul, fs_one (i := i0) hi fun k hk hne => by
      rw [e1, z.one i0 hi k hk, if_neg (fun q => hne q.symm)]
      grind, e1, e1, z.one i0 hi i0 hi, if_pos rfl]
    grind
/-- an element of the span from its items at the pivots -/
theorem RR.of {n : Nat} {R : List (List (Fe p m))} {P : List Nat} (z : RR n R P) (c : Nat → Fe p m) : Sp R (fun j => fs P.length fun i => c i * at2 R i j) :=
  Sp.fs fun k hk => (Sp.row (z.mem hk)).congr fun j => (at_row (by rw [z.len]; exact hk)).symm
theorem RR.lead {n : Nat} {R : List (List (Fe p m))} {P : List Nat} (z : RR n R P) {f : Nat → Fe p m} (s : Sp R f) {x : Nat} (hx : f x ≠ 0) (hl : ∀ j < x, f j = 0) : x ∈ P := by
  have e := z.repr s x
  have hk : ∃ k, k ≤ P.length ∧ (k < P.length → f (gn P k) ≠ 0) ∧ ∀ i < k, f (gn P i) = 0 := by
    obtain ⟨k, k1, k2, k3⟩ := least_of (P := fun k => k = P.length ∨ (k < P.length ∧ f (gn P k) ≠ 0)) P.length (.inl rfl)
    refine ⟨k, k1, fun hk => ?_, fun i hi => ?_⟩
    · rcases k2 with k2 | k2
      · omega
      · exact k2.2
    · have := k3 i hi
      exact Decidable.byContradiction fun c => this (.inr ⟨by omega, c⟩)
  obtain ⟨k, k1, k2, k3⟩ := hk
  by_cases ck : k = P.length
  · exact absurd (e.trans (fs_zero fun i hi => by rw [k3 i (by omega)]; grind)) hx
  · have hk : k < P.length := by omega
    have h2 := k2 hk
    have h3 : ¬ gn P k < x := fun c => h2 (hl _ c)
    by_cases c : x = gn P k
    · rw [c, gn_lt hk]
      exact List.getElem_mem _
    · refine absurd (e.trans (fs_zero fun i hi => ?_)) hx
      by_cases ci : i < k
      · rw [k3 i ci]
        grind
      · have : gn P k ≤ gn P i := by
          by_cases ce : i = k
          · rw [ce]; exact Nat.le_refl _
          · exact Nat.le_of_lt (z.inc k i (by omega) hi)
        rw [z.low i hi x (by omega)]
        grind
theorem inc_eq : ∀ {P Q : List Nat}, P.Pairwise (· < ·) → Q.Pairwise (· < ·) → (∀ x, x ∈ P ↔ x ∈ Q) → P = Q
  | [], [], _, _, _ => rfl
  | [], y :: Q, _, _, e => absurd ((e y).mpr List.mem_cons_self) (by simp)
  | x :: P, [], _, _, e => absurd ((e x).mp List.mem_cons_self) (by simp)
  | x :: P, y :: Q, hp, hq, e => by
    obtain ⟨hp1, hp2⟩ := List.pairwise_cons.mp hp
    obtain ⟨hq1, hq2⟩ := List.pairwise_cons.mp hq
    have exy : x = y := by
      rcases List.mem_cons.mp ((e x).mp List.mem_cons_self) with h | h
      · exact h
      · rcases List.mem_cons.mp ((e y).mpr List.mem_cons_self) with h' | h'
        · exact h'.symm
        · have := hp1 _ h'
          have := hq1 _ h
          omega
    subst exy
    rw [inc_eq hp2 hq2 fun z => ?_]
    constructor
    · intro hz
      rcases List.mem_cons.mp ((e z).mp (List.mem_cons_of_mem _ hz)) with h | h
      · have := hp1 _ hz
        omega
      · exact h
    · intro hz
      rcases List.mem_cons.mp ((e z).mpr (List.mem_cons_of_mem _ hz)) with h | h
      · have := hq1 _ hz
        omega
      · exact h
theorem RR.pw {n : Nat} {R : List (List (Fe p m))} {P : List Nat} (z : RR n R P) : P.Pairwise (· < ·) := by
  rw [List.pairwise_iff_getElem]
  intro i j hi hj hij
  have := z.inc i j hij hj
  rwa [gn_lt hi, gn_lt hj] at this
theorem RR.sub {n : Nat} {R S : List (List (Fe p m))} {P Q : List Nat} (z : RR n R P) (y : RR n S Q) (e : SpE R S) : ∀ x, x ∈ P → x ∈ Q := fun x hx => by
  obtain ⟨i, hi, rfl⟩ := List.mem_iff_getElem.mp hx
  have s := e.1 _ (z.mem hi)
  have ea : ∀ j, at2 R i j = ev (R[i]'(by rw [z.len]; exact hi)) j := fun j => at_row _
  refine y.lead s (x := P[i]) ?_ fun j hj => ?_
  · rw [← ea, ← gn_lt hi, z.one i hi i hi, if_pos rfl]
    exact one_ne
  · rw [← ea]
    exact z.low i hi j (by rw [gn_lt hi]; exact hj)
/-- a span has one reduced form -/
theorem RR.uniq {n : Nat} {R S : List (List (Fe p m))} {P Q : List Nat} (z : RR n R P) (y : RR n S Q) (e : SpE R S) : R = S ∧ P = Q := by
  have epq : P = Q := inc_eq z.pw y.pw fun x => ⟨z.sub y e x, y.sub z e.symm x⟩
  subst epq
  refine ⟨?_, rfl⟩
  refine List.ext_getElem (by rw [z.len, y.len]) fun i h1 h2 => ?_
  have hi : i < P.length := by rw [← z.len]; exact h1
  refine ev_ext (by rw [z.row _ (List.getElem_mem _), y.row _ (List.getElem_mem _)]) fun j _ => ?_
  have s := e.1 _ (List.getElem_mem h1)
  have r := y.repr s j
  have e9 : ∀ k < P.length, ev R[i] (gn P k) = if i = k then 1 else 0 := fun k hk => by rw [← at_row h1, z.one i hi k hk]
  rw [fs_one (i := i) hi fun k hk hne => by
    rw [e9 k hk, if_neg (fun q => hne q.symm)]
    grind, e9 i hi, if_pos rfl] at r
  rw [r, ← at_row h2]
  grind
end
end Nw

namespace Nw
open PySem Dl
section
variable {p : Int} {m : List Int} [h : FF p m]
theorem idx0 {i n : Nat} (hi : i < n) : 0 ≤ 0 + (i : Int) ∧ 0 + (i : Int) < (n : Int) := by omega
theorem tn0 {i : Nat} : (0 + (i : Int)).toNat = i := by omega
theorem sml {n : Nat} (hn : n ≤ 16777216) : small (n : Int) = true := small_i ⟨by omega, by omega⟩
theorem ntn {n : Nat} : ((n : Nat) : Int).toNat = n := Int.toNat_natCast n
theorem i0 : (0 + ((0 : Nat) : Int)) = 0 := by omega
theorem el_rows {fr : Bool} {R : List (List (Fe p m))} : (R.map wd).map (TV.el fr) = R.map fun W : List (Fe p m) => ⟨.frz, fr, (.lst ((iv (W)).map D.int))⟩ := by
  rw [List.map_map]
  exact List.map_congr_left fun W _ => el_l
/-! ## rows minus multiples -/
def wm (r : List (Fe p m)) (c : Fe p m) (o : List (Fe p m)) : List (Fe p m) := mw r.length fun k => ev r k - c * ev o k
end
end Nw

namespace Nw
open PySem Dl
section
variable {p : Int} {m : List Int} [h : FF p m]
/-! ## polynomials: lists of coefficients without zeros at the end -/
/-- how many zeros stand at the end -/
def tz : List (Fe p m) → Nat
  | [] => 0
  | a :: r => if a = 0 then tz r + 1 else 0
def tr (W : List (Fe p m)) : List (Fe p m) := W.take (W.length - tz W.reverse)
theorem tz_le : ∀ L : List (Fe p m), tz L ≤ L.length
  | [] => Nat.le_refl _
  | a :: r => by
    unfold tz
    have := tz_le r
    split <;> simp only [List.length_cons] <;> omega
theorem tz_get : ∀ (L : List (Fe p m)) (i : Nat), i < tz L → L.getD i 0 = 0
  | [], i, e => by unfold tz at e; omega
  | a :: r, i, e => by
    unfold tz at e
    split at e
    · rename_i c
      cases i with
      | zero => exact c
      | succ i => exact tz_get r i (by omega)
    · omega
theorem tz_next : ∀ (L : List (Fe p m)), tz L < L.length → L.getD (tz L) 0 ≠ 0
  | [], e => by simp at e
  | a :: r, e => by
    by_cases c : a = 0
    · have e1 : tz (a :: r) = tz r + 1 := by
        show (if a = 0 then tz r + 1 else 0) = _
        rw [if_pos c]
      rw [e1] at e ⊢
      exact tz_next r (by simpa using e)
    · have e1 : tz (a :: r) = 0 := by
        show (if a = 0 then tz r + 1 else 0) = _
        rw [if_neg c]
      rw [e1]
      exact c
theorem rev_get {W : List (Fe p m)} {i : Nat} (hi : i < W.length) : W.reverse.getD i 0 = ev W (W.length - 1 - i) := by
  unfold ev
  rw [List.getD_eq_getElem?_getD, List.getD_eq_getElem?_getD, List.getElem?_reverse hi]
/-- no zero at the end -/
def Trm (W : List (Fe p m)) : Prop := W.length = 0 ∨ ev W (W.length - 1) ≠ 0
theorem tr_len (W : List (Fe p m)) : (tr W).length = W.length - tz W.reverse := by
  unfold tr
  rw [List.length_take]
  omega
theorem ev_take {W : List (Fe p m)} {n j : Nat} : ev (W.take n) j = if j < n then ev W j else 0 := by
  unfold ev
  rw [List.getD_eq_getElem?_getD, List.getD_eq_getElem?_getD, List.getElem?_take]
  split <;> rfl
theorem ev_tr (W : List (Fe p m)) (j : Nat) : ev (tr W) j = ev W j := by
  unfold tr
  rw [ev_take]
  split
  · rfl
  · rename_i c
    by_cases hj : j < W.length
    · have t := tz_get W.reverse (W.length - 1 - j) (by have := tz_le W.reverse; rw [List.length_reverse] at this; omega)
      rw [rev_get (by omega), show W.length - 1 - (W.length - 1 - j) = j by omega] at t
      exact t.symm
    · exact (ev_out (by omega)).symm
theorem tr_trm (W : List (Fe p m)) : Trm (tr W) := by
  have hl := tr_len W
  by_cases c : tz W.reverse < W.length
  · right
    have t := tz_next W.reverse (by rw [List.length_reverse]; exact c)
    rw [rev_get c] at t
    rw [ev_tr, hl, show W.length - tz W.reverse - 1 = W.length - 1 - tz W.reverse by omega]
    exact t
  · left
    omega
theorem trm_ext {V W : List (Fe p m)} (hV : Trm V) (hW : Trm W) (e : ∀ j, ev V j = ev W j) : V = W := by
  have hl : V.length = W.length := by
    rcases Nat.lt_trichotomy V.length W.length with c | c | c
    · rcases hW with w | w
      · omega
      · exact absurd ((e _).symm.trans (ev_out (by omega))) w
    · exact c
    · rcases hV with w | w
      · omega
      · exact absurd ((e _).trans (ev_out (by omega))) w
  exact ev_ext hl fun i _ => e i
theorem tr_id {W : List (Fe p m)} (hW : Trm W) : tr W = W := trm_ext (tr_trm W) hW (ev_tr W)
theorem tr_eq {V W : List (Fe p m)} : tr V = tr W ↔ ∀ j, ev V j = ev W j := ⟨fun e j => by rw [← ev_tr V, e, ev_tr], fun e => trm_ext (tr_trm V) (tr_trm W) fun j => by rw [ev_tr, ev_tr, e]⟩
theorem tr_le (W : List (Fe p m)) : (tr W).length ≤ W.length := by rw [tr_len]; omega
theorem ev_nil0 (j : Nat) : ev ([] : List (Fe p m)) j = 0 := rfl
theorem trm_nil : Trm ([] : List (Fe p m)) := .inl rfl
/-! ### poly_trim -/
theorem ix_last {W : List (Fe p m)} {j : Nat} (hj : j < W.length) {k k' : Kd} {fr fr' : Bool} : fIx ⟨k, fr, (.lst ((iv (W.take (j + 1))).map D.int))⟩ ⟨k', fr', .int (-1)⟩ = some ⟨.frz, true, .int (ev W j).v⟩ := by
  have e : ((iv (W.take (j + 1))).map D.int) = ((iv (W.take j)).map D.int) ++ [D.int (ev W j).v] := by
    rw [← List.take_append_getElem hj, ev_lt hj]
    unfold iv
    rw [List.map_append, List.map_append]
    rfl
  exact (ix_lm1 e).trans (congrArg some el_i)
theorem all_at0 (W : List (Fe p m)) : ((iv W).map D.int).all D.atom = true := List.all_eq_true.mpr fun x hx => by
  obtain ⟨i, _, rfl⟩ := List.mem_map.mp hx
  rfl
theorem take_iv {W : List (Fe p m)} {n : Nat} : (iv (W.take n)).length = min n W.length := by rw [iv_len, List.length_take]
theorem poly_trim_eq (W : List (Fe p m)) (hW : W.length ≤ 1000000) : g_poly_trim [(.lst ((iv (W)).map D.int))] = .ok ⟨.own, true, (.lst ((iv (tr W)).map D.int))⟩ := by
  have zl := tz_le W.reverse
  rw [List.length_reverse] at zl
  have w := whileD_run (c := c1_poly_trim) (b := b1_poly_trim) (fun i => [some ⟨.frz, false, (.lst ((iv (W)).map D.int))⟩, some ⟨.own, true, (.lst ((iv (W.take (W.length - i))).map D.int))⟩]) (tz W.reverse) fuel0 (by unfold fuel0; omega) (fun i hi => by
    have l : (iv (W.take (W.length - i))).length = W.length - i := by rw [take_iv]; omega
    have d1 : decide ((0 : Int) < ((W.length - i : Nat) : Int)) = true := decide_eq_true (by omega)
    have ix : ∀ (k k' : Kd) (fr fr' : Bool), fIx ⟨k, fr, (.lst ((iv (W.take (W.length - i))).map D.int))⟩ ⟨k', fr', .int (-1)⟩ = some ⟨.frz, true, .int (ev W (W.length - 1 - i)).v⟩ := fun k k' fr fr' => by
      have t := ix_last (W := W) (j := W.length - 1 - i) (by omega) (k := k) (k' := k') (fr := fr) (fr' := fr')
      rw [show W.length - 1 - i + 1 = W.length - i by omega] at t
      exact t
    have z : (ev W (W.length - 1 - i)).v = 0 := by
      have t := tz_get W.reverse i hi
      rw [rev_get (by omega)] at t
      rw [t]
      rfl
    have d2 : decide ((0 : Int) = 0) = true := rfl
    have ne : (iv (W.take (W.length - i))).map D.int ≠ [] := fun e => by
      have := congrArg List.length e
      rw [List.length_map, l] at this
      simp at this
      omega
    have dl : ((iv (W.take (W.length - i))).map D.int).dropLast = (iv (W.take (W.length - (i + 1)))).map D.int := by
      rw [List.dropLast_eq_take, List.length_map, l, ← List.map_take]
      unfold iv
      rw [← List.map_take, List.take_take]
      congr 2
      congr 1
      omega
    refine ⟨?_, ?_⟩
    · unfold c1_poly_trim
      simp? only [l, d1, ix, z, d2]
    · unfold b1_poly_trim
      simp? only [ne, ne_eq, not_false_eq_true, dl]) (by
    have l : (iv (W.take (W.length - tz W.reverse))).length = W.length - tz W.reverse := by rw [take_iv]; omega
    unfold c1_poly_trim
    by_cases c : tz W.reverse < W.length
    · have d1 : decide ((0 : Int) < ((W.length - tz W.reverse : Nat) : Int)) = true := decide_eq_true (by omega)
      have ix : ∀ (k k' : Kd) (fr fr' : Bool), fIx ⟨k, fr, (.lst ((iv (W.take (W.length - tz W.reverse))).map D.int))⟩ ⟨k', fr', .int (-1)⟩ = some ⟨.frz, true, .int (ev W (W.length - 1 - tz W.reverse)).v⟩ := fun k k' fr fr' => by
        have t := ix_last (W := W) (j := W.length - 1 - tz W.reverse) (by omega) (k := k) (k' := k') (fr := fr) (fr' := fr')
        rw [show W.length - 1 - tz W.reverse + 1 = W.length - tz W.reverse by omega] at t
        exact t
      have z : decide ((ev W (W.length - 1 - tz W.reverse)).v = 0) = false := decide_eq_false fun e => by
        have t := tz_next W.reverse (by rw [List.length_reverse]; exact c)
        rw [rev_get c] at t
        exact t (fe_v0.mp e)
      simp? only [l, d1, ix, z]
    · have d1 : decide ((0 : Int) < ((W.length - tz W.reverse : Nat) : Int)) = false := decide_eq_false (by omega)
      simp? only [l, d1])
  have t0 : W.take (W.length - 0) = W := by rw [Nat.sub_zero, List.take_length]
  rw [t0] at w
  have et : ((.lst ((iv (W.take (W.length - tz W.reverse))).map D.int)) : D) = (.lst ((iv (tr W)).map D.int)) := rfl
  rw [et] at w
  simp? only [g_poly_trim, m_poly_trim, Ev.frK_w (all_at0 W), w]
end
end Nw

namespace Nw
open PySem Dl
section
variable {p : Int} {m : List Int} [h : FF p m]
/-! ## sums and products of coefficients -/
theorem fs_ext {n k : Nat} {f : Nat → Fe p m} (hk : n ≤ k) (e : ∀ i, n ≤ i → i < k → f i = 0) : fs k f = fs n f := by
  induction k with
  | zero =>
    have : n = 0 := by omega
    rw [this]
  | succ k ih =>
    by_cases c : n = k + 1
    · rw [c]
    · show fs k f + f k = fs n f
      rw [ih (by omega) fun i h1 h2 => e i h1 (by omega), e k (by omega) (by omega)]
      grind
/-- the product's coefficients -/
def cv (f g : Nat → Fe p m) (k : Nat) : Fe p m := fs (k + 1) fun i => f i * g (k - i)
theorem cv_congr {f g f' g' : Nat → Fe p m} (e1 : ∀ i, f i = f' i) (e2 : ∀ i, g i = g' i) (k : Nat) : cv f g k = cv f' g' k := fs_congr fun i _ => by rw [e1, e2]
theorem cv_succ (f g : Nat → Fe p m) (k : Nat) : cv f g (k + 1) = f 0 * g (k + 1) + cv (fun i => f (i + 1)) g k := by
  unfold cv
  rw [fs_first]
  congr 1
  exact fs_congr fun i hi => by rw [show k + 1 - (i + 1) = k - i by omega]
theorem cv_zero (f g : Nat → Fe p m) : cv f g 0 = f 0 * g 0 := by
  show (0 : Fe p m) + f 0 * g (0 - 0) = _
  rw [Nat.sub_zero]
  grind
theorem cv_out {f g : Nat → Fe p m} {a b k : Nat} (hf : ∀ i, a ≤ i → f i = 0) (hg : ∀ i, b ≤ i → g i = 0) (hk : a + b ≤ k + 1) : cv f g k = 0 := fs_zero fun i hi => by
  by_cases c : a ≤ i
  · rw [hf i c]; grind
  · rw [hg (k - i) (by omega)]; grind
theorem cv_nil {f g : Nat → Fe p m} (hf : ∀ i, f i = 0) (k : Nat) : cv f g k = 0 := fs_zero fun i _ => by rw [hf]; grind
theorem cv_nil2 {f g : Nat → Fe p m} (hg : ∀ i, g i = 0) (k : Nat) : cv f g k = 0 := fs_zero fun i _ => by rw [hg]; grind
/-! ### values -/
def vl (n : Nat) (f : Nat → Fe p m) (x : Fe p m) : Fe p m := fs n fun k => f k * x ^ k
theorem vl_ext {n k : Nat} {f : Nat → Fe p m} {x : Fe p m} (hk : n ≤ k) (e : ∀ i, n ≤ i → f i = 0) : vl k f x = vl n f x := fs_ext hk fun i h1 _ => by rw [e i h1]; grind
theorem vl_succ (n : Nat) (f : Nat → Fe p m) (x : Fe p m) : vl (n + 1) f x = f 0 + x * vl n (fun i => f (i + 1)) x := by
  unfold vl
  rw [fs_first, ← fs_mul]
  have e : fs n (fun k => f (k + 1) * x ^ (k + 1)) = fs n fun k => x * (f (k + 1) * x ^ k) := fs_congr fun k _ => by grind
  rw [e]
  grind
theorem vl_cv : ∀ (a : Nat) (f g : Nat → Fe p m) (b N : Nat) (x : Fe p m), (∀ i, a ≤ i → f i = 0) → (∀ i, b ≤ i → g i = 0) → a + b ≤ N → vl N (cv f g) x = vl a f x * vl b g x
  | 0, f, g, b, N, x, hf, _, _ => by
    have e : vl N (cv f g) x = 0 := fs_zero fun k _ => by rw [cv_nil fun i => hf i (Nat.zero_le i)]; grind
    rw [e]
    show (0 : Fe p m) = 0 * _
    grind
  | a + 1, f, g, b, 0, x, hf, hg, hN => by omega
  | a + 1, f, g, b, N + 1, x, hf, hg, hN => by
    have ih := vl_cv a (fun i => f (i + 1)) g b N x (fun i hi => hf (i + 1) (by omega)) hg (by omega)
    have e1 : vl (N + 1) (cv f g) x = f 0 * vl (N + 1) g x + x * vl N (cv (fun i => f (i + 1)) g) x := by
      rw [vl_succ, cv_zero, vl_succ N g]
      have e2 : vl N (fun i => cv f g (i + 1)) x = f 0 * vl N (fun i => g (i + 1)) x + vl N (cv (fun i => f (i + 1)) g) x := by
        unfold vl
        rw [← fs_mul, ← fs_add]
        exact fs_congr fun k _ => by
          show cv f g (k + 1) * x ^ k = f 0 * (g (k + 1) * x ^ k) + cv (fun i => f (i + 1)) g k * x ^ k
          rw [cv_succ]
          grind
      rw [e2]
      grind
    rw [e1, ih, vl_ext (n := b) (k := N + 1) (by omega) hg, vl_succ a f]
    grind
/-! ### derivatives -/
/-- k ones -/
def nf (p : Int) (m : List Int) [FF p m] : Nat → Fe p m
  | 0 => 0
  | k + 1 => nf p m k + 1
theorem nf_add (i : Nat) : ∀ j, nf p m (i + j) = nf p m i + nf p m j
  | 0 => by show nf p m i = nf p m i + 0; grind
  | j + 1 => by
    show nf p m (i + j) + 1 = nf p m i + (nf p m j + 1)
    rw [nf_add i j]
    grind
def dr (f : Nat → Fe p m) (k : Nat) : Fe p m := nf p m (k + 1) * f (k + 1)
theorem dr_cv (f g : Nat → Fe p m) (k : Nat) : dr (cv f g) k = cv (dr f) g k + cv f (dr g) k := by
  have e1 : dr (cv f g) k = fs (k + 2) (fun i => nf p m i * f i * g (k + 1 - i)) + fs (k + 2) fun i => f i * (nf p m (k + 1 - i) * g (k + 1 - i)) := by
    unfold dr cv
    rw [← fs_mul, ← fs_add]
    exact fs_congr fun i hi => by
      have e : nf p m (k + 1) = nf p m i + nf p m (k + 1 - i) := by rw [← nf_add, show i + (k + 1 - i) = k + 1 by omega]
      rw [e]
      grind
  have e2 : fs (k + 2) (fun i => nf p m i * f i * g (k + 1 - i)) = cv (dr f) g k := by
    rw [fs_first]
    have : nf p m 0 * f 0 * g (k + 1 - 0) = 0 := by
      show (0 : Fe p m) * f 0 * _ = 0
      grind
    rw [this]
    unfold cv dr
    have e3 : fs (k + 1) (fun i => nf p m (i + 1) * f (i + 1) * g (k + 1 - (i + 1))) = fs (k + 1) fun i => nf p m (i + 1) * f (i + 1) * g (k - i) := fs_congr fun i hi => by rw [show k + 1 - (i + 1) = k - i by omega]
    rw [e3]
    grind
  have e3 : fs (k + 2) (fun i => f i * (nf p m (k + 1 - i) * g (k + 1 - i))) = cv f (dr g) k := by
    show fs (k + 1) _ + f (k + 1) * (nf p m (k + 1 - (k + 1)) * g (k + 1 - (k + 1))) = _
    rw [Nat.sub_self]
    have : f (k + 1) * (nf p m 0 * g 0) = 0 := by
      show f (k + 1) * ((0 : Fe p m) * g 0) = 0
      grind
    rw [this]
    unfold cv dr
    have e4 : fs (k + 1) (fun i => f i * (nf p m (k + 1 - i) * g (k + 1 - i))) = fs (k + 1) fun i => f i * (nf p m (k - i + 1) * g (k - i + 1)) := fs_congr fun i hi => by rw [show k + 1 - i = k - i + 1 by omega]
    rw [e4]
    grind
  rw [e1, e2, e3]
/-! ## the functions -/
def pad (A B : List (Fe p m)) : List (Fe p m) := tr (mw (max A.length B.length) fun k => ev A k + ev B k)
def psb (A B : List (Fe p m)) : List (Fe p m) := tr (mw (max A.length B.length) fun k => ev A k - ev B k)
def psc (A : List (Fe p m)) (c : Fe p m) : List (Fe p m) := tr (A.map fun a => a * c)
def pml (A B : List (Fe p m)) : List (Fe p m) := tr (mw (A.length + B.length - 1) (cv (ev A) (ev B)))
def pdv (A : List (Fe p m)) : List (Fe p m) := tr (mw (A.length - 1) (dr (ev A)))
def pvl (A : List (Fe p m)) (x : Fe p m) : Fe p m := vl A.length (ev A) x
theorem ev_mw2 {n : Nat} {f : Nat → Fe p m} (hf : ∀ i, n ≤ i → f i = 0) (j : Nat) : ev (mw n f) j = f j := by
  by_cases c : j < n
  · exact ev_mw c
  · rw [ev_out (by rw [mw_len]; omega), hf j (by omega)]
theorem ev_pad (A B : List (Fe p m)) (j : Nat) : ev (pad A B) j = ev A j + ev B j := by
  unfold pad
  rw [ev_tr, ev_mw2 fun i hi => by rw [ev_out (by omega), ev_out (W := B) (by omega)]; grind]
theorem ev_psb (A B : List (Fe p m)) (j : Nat) : ev (psb A B) j = ev A j - ev B j := by
  unfold psb
  rw [ev_tr, ev_mw2 fun i hi => by rw [ev_out (by omega), ev_out (W := B) (by omega)]; grind]
theorem ev_map {A : List (Fe p m)} {f : Fe p m → Fe p m} (h0 : f 0 = 0) (j : Nat) : ev (A.map f) j = f (ev A j) := by
  by_cases c : j < A.length
  · rw [ev_lt (by rw [List.length_map]; exact c), ev_lt c, List.getElem_map]
  · rw [ev_out (by rw [List.length_map]; omega), ev_out (by omega), h0]
theorem ev_psc (A : List (Fe p m)) (c : Fe p m) (j : Nat) : ev (psc A c) j = ev A j * c := by
  unfold psc
  rw [ev_tr, ev_map (by grind)]
theorem ev_pml (A B : List (Fe p m)) (j : Nat) : ev (pml A B) j = cv (ev A) (ev B) j := by
  unfold pml
  rw [ev_tr, ev_mw2 fun i hi => cv_out (a := A.length) (b := B.length) (fun i hi => ev_out hi) (fun i hi => ev_out hi) (by omega)]
theorem ev_pdv (A : List (Fe p m)) (j : Nat) : ev (pdv A) j = dr (ev A) j := by
  unfold pdv
  rw [ev_tr, ev_mw2 fun i hi => by unfold dr; rw [ev_out (by omega)]; grind]
theorem pad_trm (A B : List (Fe p m)) : Trm (pad A B) := tr_trm _
theorem psb_trm (A B : List (Fe p m)) : Trm (psb A B) := tr_trm _
theorem psc_trm (A : List (Fe p m)) (c : Fe p m) : Trm (psc A c) := tr_trm _
theorem pml_trm (A B : List (Fe p m)) : Trm (pml A B) := tr_trm _
theorem pdv_trm (A : List (Fe p m)) : Trm (pdv A) := tr_trm _
theorem pml_len (A B : List (Fe p m)) : (pml A B).length ≤ A.length + B.length := by
  have := tr_le (mw (A.length + B.length - 1) (cv (ev A) (ev B)))
  rw [mw_len] at this
  unfold pml
  omega
theorem pad_len (A B : List (Fe p m)) : (pad A B).length ≤ max A.length B.length := by
  have := tr_le (mw (max A.length B.length) fun k => ev A k + ev B k)
  rwa [mw_len] at this
theorem pdv_len (A : List (Fe p m)) : (pdv A).length ≤ A.length - 1 := by
  have := tr_le (mw (A.length - 1) (dr (ev A)))
  rwa [mw_len] at this
theorem pdv_pml (A B : List (Fe p m)) : pdv (pml A B) = pad (pml (pdv A) B) (pml A (pdv B)) := trm_ext (pdv_trm _) (pad_trm _ _) fun j => by
  rw [ev_pdv, ev_pad, ev_pml, ev_pml]
  have e1 : dr (ev (pml A B)) j = dr (cv (ev A) (ev B)) j := by unfold dr; rw [ev_pml]
  rw [e1, dr_cv, cv_congr (ev_pdv A) (fun _ => rfl), cv_congr (fun _ => rfl) (ev_pdv B)]
theorem pvl_pml (A B : List (Fe p m)) (x : Fe p m) : pvl (pml A B) x = pvl A x * pvl B x := by
  unfold pvl
  have hl := pml_len A B
  have e1 : vl (pml A B).length (ev (pml A B)) x = vl (A.length + B.length) (ev (pml A B)) x := (vl_ext hl fun i hi => ev_out hi).symm
  rw [e1, ← vl_cv A.length (ev A) (ev B) B.length (A.length + B.length) x (fun i hi => ev_out hi) (fun i hi => ev_out hi) (Nat.le_refl _)]
  exact fs_congr fun k _ => by rw [ev_pml]
theorem psc_one {A : List (Fe p m)} (hA : Trm A) : psc A 1 = A := trm_ext (psc_trm _ _) hA fun j => by rw [ev_psc]; grind
theorem psc_zero (A : List (Fe p m)) : psc A 0 = [] := trm_ext (psc_trm _ _) trm_nil fun j => by rw [ev_psc, ev_nil0]; grind
theorem psb_self (A : List (Fe p m)) : psb A A = [] := trm_ext (psb_trm _ _) trm_nil fun j => by rw [ev_psb, ev_nil0]; grind
/-! ### what they return -/
theorem coef_eq (A : List (Fe p m)) (k : Nat) : g_coefficient [(.lst ((iv (A)).map D.int)), .int (k : Int)] = .ok ⟨.frz, true, .int (ev A k).v⟩ := by
  by_cases c : k < A.length
  · have a1 : 0 ≤ (k : Int) ∧ (k : Int) < (A.length : Int) := by omega
    have d1 : decide ((k : Int) < (A.length : Int)) = true := decide_eq_true (by omega)
    simp? only [g_coefficient, m_coefficient, iv_len, d1, a1, ntn, iv_get]
  · have d1 : decide ((k : Int) < (A.length : Int)) = false := decide_eq_false (by omega)
    have e : (ev A k).v = 0 := by rw [ev_out (by omega)]; rfl
    rw [e]
    simp? only [g_coefficient, m_coefficient, iv_len, d1]
theorem map_mw {n : Nat} {f : Nat → Fe p m} : (List.range n).map (fun k => D.int (f k).v) = (iv (mw n f)).map D.int := by
  unfold iv mw
  rw [List.map_map, List.map_map]
  rfl
theorem max_i (a b : Nat) : (if (a : Int) < (b : Int) then (b : Int) else (a : Int)) = ((max a b : Nat) : Int) := by split <;> omega
theorem poly_add_eq (A B : List (Fe p m)) (hA : A.length ≤ 100000) (hB : B.length ≤ 100000) : g_poly_add [fo p m, (.lst ((iv (A)).map D.int)), (.lst ((iv (B)).map D.int))] = .ok ⟨.own, true, (.lst ((iv (pad A B)).map D.int))⟩ := by
  have cm := cmpM (g := tgName 4) (e := e1_poly_add) (vs := [4]) (st := [some ⟨.frz, false, fo p m⟩, some ⟨.frz, false, (.lst ((iv (A)).map D.int))⟩, some ⟨.frz, false, (.lst ((iv (B)).map D.int))⟩, some ⟨.frz, true, .int ((max A.length B.length : Nat) : Int)⟩, none]) (it := fun k : Nat => (⟨.frz, true, .int (0 + (k : Int))⟩ : TV)) (y := fun k => D.int (ev A k + ev B k).v) (List.range (max A.length B.length)) (by simp; omega) fun k hk => by
    have c1 := coef_eq A k
    have c2 := coef_eq B k
    have pf := plus_fe (ev A k) (ev B k)
    have ek : (0 : Int) + (k : Int) = (k : Int) := by omega
    exact ⟨_, _, tgn_e, by unfold e1_poly_add; simp? only [ek, fo_atom, vbK_fo, methK_fo, c1, c2, pf]; rfl, by simp? only [], by simp? only []⟩
  rw [map_mw] at cm
  have t := poly_trim_eq (mw (max A.length B.length) fun k => ev A k + ev B k) (by rw [mw_len]; omega)
  have rg : (List.range (max A.length B.length)).map (fun k : Nat => (⟨.frz, true, .int (0 + (k : Int))⟩ : TV)) = rangeD 0 (max A.length B.length) := rfl
  rw [rg] at cm
  have sm := sml (n := max A.length B.length) (by omega)
  simp? only [g_poly_add, m_poly_add, fo_atom, iv_len, max_i, sm, ntn, cm, t]
  rfl
theorem poly_sub_eq (A B : List (Fe p m)) (hA : A.length ≤ 100000) (hB : B.length ≤ 100000) : g_poly_subtract [fo p m, (.lst ((iv (A)).map D.int)), (.lst ((iv (B)).map D.int))] = .ok ⟨.own, true, (.lst ((iv (psb A B)).map D.int))⟩ := by
  have cm := cmpM (g := tgName 4) (e := e1_poly_subtract) (vs := [4]) (st := [some ⟨.frz, false, fo p m⟩, some ⟨.frz, false, (.lst ((iv (A)).map D.int))⟩, some ⟨.frz, false, (.lst ((iv (B)).map D.int))⟩, some ⟨.frz, true, .int ((max A.length B.length : Nat) : Int)⟩, none]) (it := fun k : Nat => (⟨.frz, true, .int (0 + (k : Int))⟩ : TV)) (y := fun k => D.int (ev A k - ev B k).v) (List.range (max A.length B.length)) (by simp; omega) fun k hk => by
    have c1 := coef_eq A k
    have c2 := coef_eq B k
    have pf := minus_fe (ev A k) (ev B k)
    have ek : (0 : Int) + (k : Int) = (k : Int) := by omega
    exact ⟨_, _, tgn_e, by unfold e1_poly_subtract; simp? only [ek, fo_atom, vbK_fo, methK_fo, c1, c2, pf]; rfl, by simp? only [], by simp? only []⟩
  rw [map_mw] at cm
  have t := poly_trim_eq (mw (max A.length B.length) fun k => ev A k - ev B k) (by rw [mw_len]; omega)
  have rg : (List.range (max A.length B.length)).map (fun k : Nat => (⟨.frz, true, .int (0 + (k : Int))⟩ : TV)) = rangeD 0 (max A.length B.length) := rfl
  rw [rg] at cm
  have sm := sml (n := max A.length B.length) (by omega)
  simp? only [g_poly_subtract, m_poly_subtract, fo_atom, iv_len, max_i, sm, ntn, cm, t]
  rfl
theorem el_iv2 {fr : Bool} {W : List (Fe p m)} : ((iv W).map D.int).map (TV.el fr) = W.map fun a => (⟨.frz, true, .int a.v⟩ : TV) := by
  unfold iv
  rw [List.map_map, List.map_map]
  exact List.map_congr_left fun a _ => el_i
theorem poly_scale_eq (A : List (Fe p m)) (c : Fe p m) (hA : A.length ≤ 100000) : g_poly_scale [fo p m, (.lst ((iv (A)).map D.int)), .int c.v] = .ok ⟨.own, true, (.lst ((iv (psc A c)).map D.int))⟩ := by
  have cm := cmpM (g := tgName 3) (e := e1_poly_scale) (vs := [3]) (st := [some ⟨.frz, false, fo p m⟩, some ⟨.frz, false, (.lst ((iv (A)).map D.int))⟩, some ⟨.frz, true, .int c.v⟩, none]) (it := fun a : Fe p m => (⟨.frz, true, .int a.v⟩ : TV)) (y := fun a => D.int (a * c).v) A (by omega) fun a ha => by
    have tf := times_fe a c
    exact ⟨_, _, tgn_e, by unfold e1_poly_scale; simp? only [fo_atom, vbK_fo, methK_fo, tf]; rfl, by simp? only [], by simp? only []⟩
  have e : A.map (fun a : Fe p m => D.int (a * c).v) = (iv (A.map fun a => a * c)).map D.int := by
    unfold iv
    rw [List.map_map, List.map_map]
    rfl
  rw [e] at cm
  have t := poly_trim_eq (A.map fun a => a * c) (by rw [List.length_map]; omega)
  simp? only [g_poly_scale, m_poly_scale, fo_atom, el_iv2, cm, t]
  rfl
/-! ### the product -/
def pt (f g : Nat → Fe p m) (i j t : Nat) : Fe p m := fs i (fun k => if k ≤ t then f k * g (t - k) else 0) + (if i ≤ t ∧ t < i + j then f i * g (t - i) else 0)
theorem pt_row {f g : Nat → Fe p m} {b i t : Nat} (hg : ∀ k, b ≤ k → g k = 0) : pt f g i b t = pt f g (i + 1) 0 t := by
  unfold pt
  have e0 : ¬ (i + 1 ≤ t ∧ t < i + 1 + 0) := by omega
  rw [if_neg e0]
  show _ = (fs i (fun k => if k ≤ t then f k * g (t - k) else 0) + (if i ≤ t then f i * g (t - i) else 0)) + 0
  by_cases c : i ≤ t
  · by_cases c2 : t < i + b
    · rw [if_pos ⟨c, c2⟩, if_pos c]; grind
    · rw [if_neg (by omega), if_pos c, hg (t - i) (by omega)]; grind
  · rw [if_neg (by omega), if_neg c]; grind
theorem pt_cv {f g : Nat → Fe p m} {a t : Nat} (hf : ∀ k, a ≤ k → f k = 0) : pt f g a 0 t = cv f g t := by
  unfold pt cv
  rw [if_neg (by omega)]
  have e1 : fs (max a (t + 1)) (fun k => if k ≤ t then f k * g (t - k) else 0) = fs a (fun k => if k ≤ t then f k * g (t - k) else 0) := fs_ext (by omega) fun i h1 h2 => by
    split
    · rw [hf i h1]; grind
    · rfl
  have e2 : fs (max a (t + 1)) (fun k => if k ≤ t then f k * g (t - k) else 0) = fs (t + 1) (fun k => if k ≤ t then f k * g (t - k) else 0) := fs_ext (by omega) fun i h1 h2 => if_neg (by omega)
  have e3 : fs (t + 1) (fun k => if k ≤ t then f k * g (t - k) else 0) = fs (t + 1) fun k => f k * g (t - k) := fs_congr fun i hi => if_pos (by omega)
  rw [← e1, e2, e3]
  grind
theorem pt_step {f g : Nat → Fe p m} {n i j : Nat} (hn : i + j < n) : (mw n (pt f g i j)).set (i + j) (pt f g i j (i + j) + f i * g j) = mw n (pt f g i (j + 1)) := by
  refine ev_ext (by rw [List.length_set, mw_len, mw_len]) fun t ht => ?_
  rw [List.length_set, mw_len] at ht
  rw [ev_set (by rw [mw_len]; exact hn), ev_mw ht, ev_mw ht]
  by_cases c : t = i + j
  · rw [if_pos c]
    subst c
    unfold pt
    rw [if_neg (by omega), if_pos (by omega), show i + j - i = j by omega]
    grind
  · rw [if_neg c]
    unfold pt
    by_cases c2 : i ≤ t ∧ t < i + j
    · rw [if_pos c2, if_pos (by omega)]
    · rw [if_neg c2, if_neg (by omega)]
theorem mul_row {A B : List (Fe p m)} {i : Nat} (hi : i < A.length) (hA : A.length ≤ 100000) (hB : B.length ≤ 100000) : forI (turnF (tgName 5) b1_poly_multiply) (rangeD 0 B.length) [some ⟨.frz, false, fo p m⟩, some ⟨.frz, false, (.lst ((iv (A)).map D.int))⟩, some ⟨.frz, false, (.lst ((iv (B)).map D.int))⟩, some ⟨.own, true, (.lst ((iv (mw (A.length + B.length - 1) (pt (ev A) (ev B) i 0))).map D.int))⟩, some ⟨.frz, true, .int (0 + (i : Int))⟩, none] = .ok (.next, [some ⟨.frz, false, fo p m⟩, some ⟨.frz, false, (.lst ((iv (A)).map D.int))⟩, some ⟨.frz, false, (.lst ((iv (B)).map D.int))⟩, some ⟨.own, true, (.lst ((iv (mw (A.length + B.length - 1) (pt (ev A) (ev B) i B.length))).map D.int))⟩, some ⟨.frz, true, .int (0 + (i : Int))⟩, none]) := by
  exact forI_rng (f := turnF (tgName 5) b1_poly_multiply) (lo := 0) (n := B.length) (fun j => [some ⟨.frz, false, fo p m⟩, some ⟨.frz, false, (.lst ((iv (A)).map D.int))⟩, some ⟨.frz, false, (.lst ((iv (B)).map D.int))⟩, some ⟨.own, true, (.lst ((iv (mw (A.length + B.length - 1) (pt (ev A) (ev B) i j))).map D.int))⟩, some ⟨.frz, true, .int (0 + (i : Int))⟩, none]) fun j hj => .inl (by
    have a1 : 0 ≤ 0 + (i : Int) ∧ 0 + (i : Int) < (A.length : Int) := by omega
    have a2 : 0 ≤ 0 + (j : Int) ∧ 0 + (j : Int) < (B.length : Int) := by omega
    have a3 : 0 ≤ 0 + (i : Int) + (0 + (j : Int)) ∧ 0 + (i : Int) + (0 + (j : Int)) < ((A.length + B.length - 1 : Nat) : Int) := by omega
    have t1 : (0 + (i : Int)).toNat = i := by omega
    have t2 : (0 + (j : Int)).toNat = j := by omega
    have t3 : (0 + (i : Int) + (0 + (j : Int))).toNat = i + j := by omega
    have a4 : i + j < A.length + B.length - 1 := by omega
    have a5 : 0 ≤ 0 + (i : Int) + (0 + (j : Int)) := by omega
    have tf := times_fe (ev A i) (ev B j)
    have pf := plus_fe (pt (ev A) (ev B) i j (i + j)) (ev A i * ev B j)
    have em := ev_mw (f := pt (ev A) (ev B) i j) a4
    have st : ((iv (mw (A.length + B.length - 1) (pt (ev A) (ev B) i j))).map D.int).set (i + j) (D.int (pt (ev A) (ev B) i j (i + j) + ev A i * ev B j).v) = (iv (mw (A.length + B.length - 1) (pt (ev A) (ev B) i (j + 1)))).map D.int := by
      rw [← List.map_set, iv_set, pt_step a4]
    rw [turn_n]
    unfold b1_poly_multiply
    simp? only [fo_atom, vbK_fo, methK_fo, iv_len, mw_len, a1, a2, a3, t1, t2, t3, iv_get, em, tf, pf, a4, a5, st])
theorem poly_mul_eq (A B : List (Fe p m)) (hA : A.length ≤ 100000) (hB : B.length ≤ 100000) : g_poly_multiply [fo p m, (.lst ((iv (A)).map D.int)), (.lst ((iv (B)).map D.int))] = .ok ⟨.own, true, (.lst ((iv (pml A B)).map D.int))⟩ := by
  have hz : A.length = 0 ∨ B.length = 0 → pml A B = [] := fun c => trm_ext (pml_trm _ _) trm_nil fun j => by
    rw [ev_pml, ev_nil0]
    rcases c with c | c
    · exact cv_nil (fun i => ev_out (by omega)) j
    · exact cv_nil2 (fun i => ev_out (by omega)) j
  by_cases c1 : A.length = 0
  · have d1 : decide ((A.length : Int) = 0) = true := decide_eq_true (by omega)
    rw [hz (.inl c1)]
    simp? only [g_poly_multiply, m_poly_multiply, fo_atom, iv_len, d1]
    rfl
  · have d1 : decide ((A.length : Int) = 0) = false := decide_eq_false (by omega)
    by_cases c2 : B.length = 0
    · have d2 : decide ((B.length : Int) = 0) = true := decide_eq_true (by omega)
      rw [hz (.inr c2)]
      simp? only [g_poly_multiply, m_poly_multiply, fo_atom, iv_len, d1, d2]
      rfl
    · have d2 : decide ((B.length : Int) = 0) = false := decide_eq_false (by omega)
      have lp := forI_rng (f := turnF (tgName 4) b2_poly_multiply) (lo := 0) (n := A.length) (fun i => [some ⟨.frz, false, fo p m⟩, some ⟨.frz, false, (.lst ((iv (A)).map D.int))⟩, some ⟨.frz, false, (.lst ((iv (B)).map D.int))⟩, some ⟨.own, true, (.lst ((iv (mw (A.length + B.length - 1) (pt (ev A) (ev B) i 0))).map D.int))⟩, none, none]) fun i hi => .inl (by
        have r := mul_row (A := A) (B := B) hi hA hB
        have e : mw (A.length + B.length - 1) (pt (ev A) (ev B) i B.length) = mw (A.length + B.length - 1) (pt (ev A) (ev B) (i + 1) 0) := mw_congr fun t _ => pt_row fun k hk => ev_out hk
        rw [e] at r
        have sB := sml (n := B.length) (by omega)
        rw [turn_n]
        unfold b2_poly_multiply
        simp? only [iv_len, sB, ntn, r])
      have e0 : (iv (mw (A.length + B.length - 1) (pt (ev A) (ev B) 0 0))).map D.int = (List.replicate (A.length + B.length - 1) [D.int 0]).flatten := by
        have z : mw (A.length + B.length - 1) (pt (ev A) (ev B) 0 0) = List.replicate (A.length + B.length - 1) 0 := List.eq_replicate_iff.mpr ⟨mw_len, fun b hb => by
          obtain ⟨t, _, rfl⟩ := List.mem_map.mp hb
          unfold pt
          rw [if_neg (by omega)]
          show (0 : Fe p m) + 0 = 0
          grind⟩
        rw [z, rep_int]
        unfold iv
        rw [List.map_replicate]
        rfl
      have e1 : mw (A.length + B.length - 1) (pt (ev A) (ev B) A.length 0) = mw (A.length + B.length - 1) (cv (ev A) (ev B)) := mw_congr fun t _ => pt_cv fun k hk => ev_out hk
      rw [e1] at lp
      have t := poly_trim_eq (mw (A.length + B.length - 1) (cv (ev A) (ev B))) (by rw [mw_len]; omega)
      have tn : ((A.length : Int) + (B.length : Int) - 1).toNat = A.length + B.length - 1 := by omega
      have b1 : ((A.length : Int) + (B.length : Int) - 1 ≤ 9223372036854775807 ∧ -9223372036854775808 ≤ (A.length : Int) + (B.length : Int) - 1 ∧ [D.int 0].length * ((A.length : Int) + (B.length : Int) - 1).toNat ≤ 16777216) := by simp; omega
      have sA := sml (n := A.length) (by omega)
      rw [e0] at lp
      simp? only [g_poly_multiply, m_poly_multiply, fo_atom, iv_len, d1, d2, mul_l b1, tn, sA, ntn, lp, t]
      rfl
/-! ### values, derivatives -/
theorem pev_eq (A : List (Fe p m)) (x : Fe p m) (hA : A.length ≤ 100000) : g_poly_evaluate [fo p m, (.lst ((iv (A)).map D.int)), .int x.v] = .ok ⟨.frz, true, .int (pvl A x).v⟩ := by
  have lp := forI_map (f := turnF (tgName 4) b1_poly_evaluate) (g := fun a : Fe p m => (⟨.frz, true, .int a.v⟩ : TV)) A.reverse (fun i => [some ⟨.frz, false, fo p m⟩, some ⟨.frz, false, (.lst ((iv (A)).map D.int))⟩, some ⟨.frz, true, .int x.v⟩, some ⟨.frz, true, .int (vl i (fun k => ev A (A.length - i + k)) x).v⟩, none]) fun i hi => .inl (by
    rw [List.length_reverse] at hi
    have er : A.reverse[i]'(by rw [List.length_reverse]; exact hi) = ev A (A.length - (i + 1)) := by
      rw [List.getElem_reverse, ev_lt (by omega)]
      congr 1
      omega
    have tf := times_fe (vl i (fun k => ev A (A.length - i + k)) x) x
    have pf := plus_fe (vl i (fun k => ev A (A.length - i + k)) x * x) (ev A (A.length - (i + 1)))
    have e : vl (i + 1) (fun k => ev A (A.length - (i + 1) + k)) x = vl i (fun k => ev A (A.length - i + k)) x * x + ev A (A.length - (i + 1)) := by
      rw [vl_succ]
      have : (fun k => ev A (A.length - (i + 1) + (k + 1))) = fun k => ev A (A.length - i + k) := funext fun k => by rw [show A.length - (i + 1) + (k + 1) = A.length - i + k by omega]
      rw [this, Nat.add_zero]
      grind
    rw [er, e, turn_n]
    unfold b1_poly_evaluate
    simp? only [fo_atom, vbK_fo, methK_fo, tf, pf])
  have e2 : (vl A.reverse.length (fun k => ev A (A.length - A.reverse.length + k)) x) = pvl A x := by
    rw [List.length_reverse, Nat.sub_self]
    unfold pvl
    exact fs_congr fun k _ => by
      show ev A (0 + k) * x ^ k = ev A k * x ^ k
      rw [Nat.zero_add]
  rw [e2] at lp
  have z0 : (vl 0 (fun k => ev A (A.length - 0 + k)) x).v = 0 := rfl
  rw [z0] at lp
  have rv : (((iv A).map D.int).reverse.map (TV.el false)) = A.reverse.map fun a : Fe p m => (⟨.frz, true, .int a.v⟩ : TV) := by
    rw [← List.map_reverse]
    unfold iv
    rw [← List.map_reverse, List.map_map, List.map_map]
    rfl
  simp? only [g_poly_evaluate, m_poly_evaluate, fo_atom, rv, lp]
end
end Nw

namespace Nw
open PySem Dl
section
variable {p : Int} {m : List Int} [h : FF p m]
/-! ## k ones, as a number -/
theorem mk_first {d : Nat} {f : Nat → Int} : mk (d + 1) f = f 0 :: mk d fun k => f (k + 1) := by
  unfold mk
  rw [List.range_succ_eq_map, List.map_cons, List.map_map]
  rfl
theorem nf_v (k : Nat) : (nf p m k).v = (k : Int) % p := by
  have hp := h.f.hp
  have hm := h.f.hm
  obtain ⟨d, hd⟩ : ∃ d, m.length - 1 = d + 1 := ⟨m.length - 2, by omega⟩
  induction k with
  | zero =>
    show (0 : Fe p m).v = (0 : Int) % p
    rw [v_zero]
    simp
  | succ k ih =>
    show (nf p m k + 1).v = _
    rw [v_add, ih, v_one, hd]
    have b : 0 ≤ (k : Int) % p ∧ (k : Int) % p < p := ⟨Int.emod_nonneg _ (by omega), Int.emod_lt_of_pos _ (by omega)⟩
    have z : ∀ j, divI ((k : Int) % p) p (j + 1) = 0 := fun j => by
      induction j with
      | zero => exact Int.ediv_eq_zero_of_lt b.1 b.2
      | succ j ihj =>
        show divI ((k : Int) % p) p (j + 1) / p = 0
        rw [ihj, Int.zero_ediv]
    unfold padd
    rw [mk_first, val_cons]
    have e1 : (mk d fun j => (dk ((k : Int) % p) p (j + 1) + dk 1 p (j + 1)) % p) = mk d fun _ => 0 := mk_congr fun j _ => by
      rw [dk_one hp.1, if_neg (by omega)]
      unfold dk
      rw [z j]
      simp
    rw [e1, val_zero, Int.zero_mul, Int.zero_add, dk_one hp.1, if_pos rfl]
    have e2 : dk ((k : Int) % p) p 0 = (k : Int) % p := Int.emod_emod_of_dvd _ (Int.dvd_refl p)
    rw [e2]
    have : ((k + 1 : Nat) : Int) = (k : Int) + 1 := by omega
    rw [this, Int.emod_add_emod]
theorem mk_rng {n : Nat} {f : Nat → Fe p m} (it : Nat → TV) : (List.range n).map (fun k => D.int (f k).v) = (iv (mw n f)).map D.int := map_mw
theorem poly_der_eq (A : List (Fe p m)) (hA : A.length ≤ 100000) : g_poly_derivative [fo p m, (.lst ((iv (A)).map D.int))] = .ok ⟨.own, true, (.lst ((iv (pdv A)).map D.int))⟩ := by
  have hp := h.f.hp
  have cm := cmpM (g := tgName 2) (e := e1_poly_derivative) (vs := [2]) (st := [some ⟨.frz, false, fo p m⟩, some ⟨.frz, false, (.lst ((iv (A)).map D.int))⟩, none]) (it := fun k : Nat => (⟨.frz, true, .int (1 + (k : Int))⟩ : TV)) (y := fun k => D.int (dr (ev A) k).v) (List.range (A.length - 1)) (by simp; omega) fun k hk => by
    have hk := List.mem_range.mp hk
    have a1 : 0 ≤ 1 + (k : Int) ∧ 1 + (k : Int) < (A.length : Int) := by omega
    have t1 : (1 + (k : Int)).toNat = k + 1 := by omega
    have nv := nf_v (p := p) (m := m) (k + 1)
    have e1 : (1 : Int) + (k : Int) = ((k + 1 : Nat) : Int) := by omega
    have p0 : 0 < p := by omega
    have tf := times_fe (nf p m (k + 1)) (ev A (k + 1))
    rw [nv] at tf
    have tf : g_Field_times [fo p m, .int ((1 + (k : Int)) % p), .int (ev A (k + 1)).v] = .ok ⟨.frz, true, .int (dr (ev A) k).v⟩ := by rw [e1]; exact tf
    exact ⟨_, _, tgn_e, by unfold e1_poly_derivative; simp? only [fo_atom, vbK_fo, methK_fo, fld_fo0, p0, iv_len, a1, t1, iv_get, tf]; rfl, by simp? only [], by simp? only []⟩
  rw [map_mw] at cm
  have t := poly_trim_eq (mw (A.length - 1) (dr (ev A))) (by rw [mw_len]; omega)
  have rg : (List.range (A.length - 1)).map (fun k : Nat => (⟨.frz, true, .int (1 + (k : Int))⟩ : TV)) = rangeD 1 (A.length - 1) := rfl
  rw [rg] at cm
  have tn : ((A.length : Int) - 1).toNat = A.length - 1 := by omega
  have sA := sml (n := A.length) (by omega)
  have s1 : small 1 = true := rfl
  simp? only [g_poly_derivative, m_poly_derivative, fo_atom, iv_len, sA, s1, tn, cm, t]
  rfl
theorem degree_eq (A : List (Fe p m)) : g_degree_of [(.lst ((iv (A)).map D.int))] = .ok ⟨.frz, true, .int ((A.length : Int) - 1)⟩ := by
  simp? only [g_degree_of, m_degree_of, iv_len]
end
end Nw

namespace Nw
open PySem Dl
section
variable {p : Int} {m : List Int} [h : FF p m]
/-! ## the law's own arithmetic of polynomials (group A) -/
theorem a_pm : (0 < p ∧ p < 1073741824) ∧ (1 ≤ m.length ∧ m.length ≤ 1000) ∧ (m.length : Int) - 1 = ((m.length - 1 : Nat) : Int) := by
  have := h.f.hp
  have := h.f.hm
  exact ⟨⟨by omega, by omega⟩, ⟨by omega, by omega⟩, by omega⟩
theorem a_pk (k : Nat) (hk : k ≤ m.length - 1) : 0 < p ^ k ∧ p ^ k ≤ 256 := by
  have hp := h.f.hp
  refine ⟨Int.pow_pos (by omega), ?_⟩
  have hq := h.f.hq
  obtain ⟨j, hj⟩ : ∃ j, m.length - 1 = k + j := ⟨m.length - 1 - k, by omega⟩
  have h1 : p ^ (m.length - 1) = p ^ k * p ^ j := by rw [hj, Int.pow_add]
  have h2 : 0 < p ^ j := Int.pow_pos (by omega)
  have h3 : p ^ k * 1 ≤ p ^ k * p ^ j := Int.mul_le_mul_of_nonneg_left (by omega) (Int.le_of_lt (Int.pow_pos (by omega)))
  rw [h1] at hq
  omega
theorem a_plus (a b : Fe p m) : g__law_plus [.int p, .tup (m.map D.int), .int a.v, .int b.v] = .ok ⟨.frz, true, .int (a + b).v⟩ := law_plus_eq p m a.v b.v (a_pm (p := p) (m := m)).1 (a_pm (p := p) (m := m)).2.1
theorem a_minus (a b : Fe p m) : g__law_minus [.int p, .tup (m.map D.int), .int a.v, .int b.v] = .ok ⟨.frz, true, .int (a - b).v⟩ := by rw [v_sub]; exact law_minus_eq p m a.v b.v (a_pm (p := p) (m := m)).1 (a_pm (p := p) (m := m)).2.1
theorem a_times (a b : Fe p m) : g__law_times [.int p, .tup (m.map D.int), .int a.v, .int b.v] = .ok ⟨.frz, true, .int (a * b).v⟩ := law_times_eq p m a.v b.v h.f.ok
theorem a_count : g__law_count [.int p, .tup (m.map D.int)] = .ok ⟨.frz, true, .int (qo p m)⟩ := by
  have hp := h.f.hp
  obtain ⟨_, _, m3⟩ := a_pm (p := p) (m := m)
  have r := forI_rng (f := turnF (tgName 3) b1__law_count) (lo := 0) (n := m.length - 1) (fun k => [some ⟨.frz, true, .int p⟩, some ⟨.frz, false, .tup (m.map D.int)⟩, some ⟨.frz, true, .int (p ^ k)⟩, none]) fun k hk => .inl (by
    have q := a_pk (p := p) (m := m) k (by omega)
    have mo2 : mulOk (p ^ k) p = true := mulOk_r ⟨by omega, by omega⟩
    rw [turn_n]
    unfold b1__law_count
    simp? only [mo2, ← Int.pow_succ])
  have s1 := sml (n := m.length - 1) (by have := h.f.hm; omega)
  rw [Int.pow_zero] at r
  simp? only [g__law_count, m__law_count, m3, s1, ntn, r]
  rfl
theorem a_trim (W : List (Fe p m)) (hW : W.length ≤ 1000000) : g__law_trim [(.lst ((iv (W)).map D.int))] = .ok ⟨.own, true, (.lst ((iv (tr W)).map D.int))⟩ := by
  have e : g__law_trim = g_poly_trim := rfl
  rw [e]
  exact poly_trim_eq W hW
theorem ev_fill {A : List (Fe p m)} {n j : Nat} : ev (A ++ List.replicate n 0) j = ev A j := by
  unfold ev
  rw [List.getD_eq_getElem?_getD, List.getD_eq_getElem?_getD]
  by_cases c : j < A.length
  · rw [List.getElem?_append_left c]
  · rw [List.getElem?_append_right (by omega), List.getElem?_replicate, List.getElem?_eq_none (l := A) (by omega)]
    split <;> rfl
theorem fill_eq (A : List (Fe p m)) (n : Nat) : (iv A).map D.int ++ (List.replicate n [D.int 0]).flatten = (iv (A ++ List.replicate n 0)).map D.int := by
  rw [rep_int, ← List.map_append]
  congr 1
  unfold iv
  rw [List.map_append, List.map_replicate]
  rfl
theorem a_poly_minus (A B : List (Fe p m)) (hA : A.length ≤ 100000) (hB : B.length ≤ 100000) : g__law_poly_minus [.int p, .tup (m.map D.int), (.lst ((iv (A)).map D.int)), (.lst ((iv (B)).map D.int))] = .ok ⟨.own, true, (.lst ((iv (psb A B)).map D.int))⟩ := by
  have la : ((max A.length B.length : Nat) : Int) - (A.length : Int) = ((max A.length B.length - A.length : Nat) : Int) := by omega
  have lb : ((max A.length B.length : Nat) : Int) - (B.length : Int) = ((max A.length B.length - B.length : Nat) : Int) := by omega
  have fa := fill_eq A (max A.length B.length - A.length)
  have fb := fill_eq B (max A.length B.length - B.length)
  have l1 : (A ++ List.replicate (max A.length B.length - A.length) 0).length = max A.length B.length := by rw [List.length_append, List.length_replicate]; omega
  have l2 : (B ++ List.replicate (max A.length B.length - B.length) 0).length = max A.length B.length := by rw [List.length_append, List.length_replicate]; omega
  have cm := fun (f1 f2 : Bool) => cmpM (g := tgName 7) (e := e1__law_poly_minus) (vs := [7]) (st := [some ⟨.frz, true, .int p⟩, some ⟨.frz, false, .tup (m.map D.int)⟩, some ⟨.frz, false, (.lst ((iv (A)).map D.int))⟩, some ⟨.frz, false, (.lst ((iv (B)).map D.int))⟩, some ⟨.frz, true, .int ((max A.length B.length : Nat) : Int)⟩, some ⟨.frz, f1, (.lst ((iv (A ++ List.replicate (max A.length B.length - A.length) 0)).map D.int))⟩, some ⟨.frz, f2, (.lst ((iv (B ++ List.replicate (max A.length B.length - B.length) 0)).map D.int))⟩, none]) (it := fun k : Nat => (⟨.frz, true, .int (0 + (k : Int))⟩ : TV)) (y := fun k => D.int (ev A k - ev B k).v) (List.range (max A.length B.length)) (by simp; omega) fun k hk => by
    have hk := List.mem_range.mp hk
    have a1 : 0 ≤ 0 + (k : Int) ∧ 0 + (k : Int) < ((max A.length B.length : Nat) : Int) := by omega
    have pf := a_minus (ev A k) (ev B k)
    exact ⟨_, _, tgn_e, by unfold e1__law_poly_minus; simp? only [iv_len, l1, l2, a1, tn0, iv_get, ev_fill, pf]; rfl, by simp? only [], by simp? only []⟩
  have t := a_trim (mw (max A.length B.length) fun k => ev A k - ev B k) (by rw [mw_len]; omega)
  have rg : (List.range (max A.length B.length)).map (fun k : Nat => (⟨.frz, true, .int (0 + (k : Int))⟩ : TV)) = rangeD 0 (max A.length B.length) := rfl
  rw [rg] at cm
  have mm := fun f1 f2 => (cm f1 f2).trans (by rw [map_mw])
  have sm := sml (n := max A.length B.length) (by omega)
  have ba : (((max A.length B.length - A.length : Nat) : Int) ≤ 9223372036854775807 ∧ -9223372036854775808 ≤ ((max A.length B.length - A.length : Nat) : Int) ∧ [D.int 0].length * ((max A.length B.length - A.length : Nat) : Int).toNat ≤ 16777216) := by simp; omega
  have bb : (((max A.length B.length - B.length : Nat) : Int) ≤ 9223372036854775807 ∧ -9223372036854775808 ≤ ((max A.length B.length - B.length : Nat) : Int) ∧ [D.int 0].length * ((max A.length B.length - B.length : Nat) : Int).toNat ≤ 16777216) := by simp; omega
  have ca : ((iv A).map D.int).length + ((List.replicate (max A.length B.length - A.length) [D.int 0]).flatten).length ≤ 16777216 := by rw [rep_int, List.length_map, List.length_map, iv_len, List.length_replicate]; omega
  have cb : ((iv B).map D.int).length + ((List.replicate (max A.length B.length - B.length) [D.int 0]).flatten).length ≤ 16777216 := by rw [rep_int, List.length_map, List.length_map, iv_len, List.length_replicate]; omega
  simp? only [g__law_poly_minus, m__law_poly_minus, iv_len, max_i, la, lb, mul_l ba, mul_l bb, ntn, add_l ca, add_l cb, fa, fb, sm, mm, t]
  rfl
theorem a_mul_row {A B : List (Fe p m)} {i : Nat} (hi : i < A.length) (hA : A.length ≤ 100000) (hB : B.length ≤ 100000) : forI (turnF (tgName 6) b1__law_poly_times) (rangeD 0 B.length) [some ⟨.frz, true, .int p⟩, some ⟨.frz, false, .tup (m.map D.int)⟩, some ⟨.frz, false, (.lst ((iv (A)).map D.int))⟩, some ⟨.frz, false, (.lst ((iv (B)).map D.int))⟩, some ⟨.own, true, (.lst ((iv (mw (A.length + B.length - 1) (pt (ev A) (ev B) i 0))).map D.int))⟩, some ⟨.frz, true, .int (0 + (i : Int))⟩, none] = .ok (.next, [some ⟨.frz, true, .int p⟩, some ⟨.frz, false, .tup (m.map D.int)⟩, some ⟨.frz, false, (.lst ((iv (A)).map D.int))⟩, some ⟨.frz, false, (.lst ((iv (B)).map D.int))⟩, some ⟨.own, true, (.lst ((iv (mw (A.length + B.length - 1) (pt (ev A) (ev B) i B.length))).map D.int))⟩, some ⟨.frz, true, .int (0 + (i : Int))⟩, none]) := by
  exact forI_rng (f := turnF (tgName 6) b1__law_poly_times) (lo := 0) (n := B.length) (fun j => [some ⟨.frz, true, .int p⟩, some ⟨.frz, false, .tup (m.map D.int)⟩, some ⟨.frz, false, (.lst ((iv (A)).map D.int))⟩, some ⟨.frz, false, (.lst ((iv (B)).map D.int))⟩, some ⟨.own, true, (.lst ((iv (mw (A.length + B.length - 1) (pt (ev A) (ev B) i j))).map D.int))⟩, some ⟨.frz, true, .int (0 + (i : Int))⟩, none]) fun j hj => .inl (by
    have a1 : 0 ≤ 0 + (i : Int) ∧ 0 + (i : Int) < (A.length : Int) := by omega
    have a2 : 0 ≤ 0 + (j : Int) ∧ 0 + (j : Int) < (B.length : Int) := by omega
    have a3 : 0 ≤ 0 + (i : Int) + (0 + (j : Int)) ∧ 0 + (i : Int) + (0 + (j : Int)) < ((A.length + B.length - 1 : Nat) : Int) := by omega
    have t1 : (0 + (i : Int)).toNat = i := by omega
    have t2 : (0 + (j : Int)).toNat = j := by omega
    have t3 : (0 + (i : Int) + (0 + (j : Int))).toNat = i + j := by omega
    have a4 : i + j < A.length + B.length - 1 := by omega
    have a5 : 0 ≤ 0 + (i : Int) + (0 + (j : Int)) := by omega
    have tf := a_times (ev A i) (ev B j)
    have pf := a_plus (pt (ev A) (ev B) i j (i + j)) (ev A i * ev B j)
    have em := ev_mw (f := pt (ev A) (ev B) i j) a4
    have st : ((iv (mw (A.length + B.length - 1) (pt (ev A) (ev B) i j))).map D.int).set (i + j) (D.int (pt (ev A) (ev B) i j (i + j) + ev A i * ev B j).v) = (iv (mw (A.length + B.length - 1) (pt (ev A) (ev B) i (j + 1)))).map D.int := by
      rw [← List.map_set, iv_set, pt_step a4]
    rw [turn_n]
    unfold b1__law_poly_times
    simp? only [iv_len, mw_len, a1, a2, a3, t1, t2, t3, iv_get, em, tf, pf, a4, a5, st])
theorem a_poly_times (A B : List (Fe p m)) (hA : A.length ≤ 100000) (hB : B.length ≤ 100000) : g__law_poly_times [.int p, .tup (m.map D.int), (.lst ((iv (A)).map D.int)), (.lst ((iv (B)).map D.int))] = .ok ⟨.own, true, (.lst ((iv (pml A B)).map D.int))⟩ := by
  have hz : A.length = 0 ∨ B.length = 0 → pml A B = [] := fun c => trm_ext (pml_trm _ _) trm_nil fun j => by
    rw [ev_pml, ev_nil0]
    rcases c with c | c
    · exact cv_nil (fun i => ev_out (by omega)) j
    · exact cv_nil2 (fun i => ev_out (by omega)) j
  by_cases c1 : A.length = 0
  · have d1 : decide ((A.length : Int) = 0) = true := decide_eq_true (by omega)
    rw [hz (.inl c1)]
    simp? only [g__law_poly_times, m__law_poly_times, iv_len, d1]
    rfl
  · have d1 : decide ((A.length : Int) = 0) = false := decide_eq_false (by omega)
    by_cases c2 : B.length = 0
    · have d2 : decide ((B.length : Int) = 0) = true := decide_eq_true (by omega)
      rw [hz (.inr c2)]
      simp? only [g__law_poly_times, m__law_poly_times, iv_len, d1, d2]
      rfl
    · have d2 : decide ((B.length : Int) = 0) = false := decide_eq_false (by omega)
      have lp := forI_rng (f := turnF (tgName 5) b2__law_poly_times) (lo := 0) (n := A.length) (fun i => [some ⟨.frz, true, .int p⟩, some ⟨.frz, false, .tup (m.map D.int)⟩, some ⟨.frz, false, (.lst ((iv (A)).map D.int))⟩, some ⟨.frz, false, (.lst ((iv (B)).map D.int))⟩, some ⟨.own, true, (.lst ((iv (mw (A.length + B.length - 1) (pt (ev A) (ev B) i 0))).map D.int))⟩, none, none]) fun i hi => .inl (by
        have r := a_mul_row (A := A) (B := B) hi hA hB
        have e : mw (A.length + B.length - 1) (pt (ev A) (ev B) i B.length) = mw (A.length + B.length - 1) (pt (ev A) (ev B) (i + 1) 0) := mw_congr fun t _ => pt_row fun k hk => ev_out hk
        rw [e] at r
        have sB := sml (n := B.length) (by omega)
        rw [turn_n]
        unfold b2__law_poly_times
        simp? only [iv_len, sB, ntn, r])
      have e0 : (iv (mw (A.length + B.length - 1) (pt (ev A) (ev B) 0 0))).map D.int = (List.replicate (A.length + B.length - 1) [D.int 0]).flatten := by
        have z : mw (A.length + B.length - 1) (pt (ev A) (ev B) 0 0) = List.replicate (A.length + B.length - 1) 0 := List.eq_replicate_iff.mpr ⟨mw_len, fun b hb => by
          obtain ⟨t, _, rfl⟩ := List.mem_map.mp hb
          unfold pt
          rw [if_neg (by omega)]
          show (0 : Fe p m) + 0 = 0
          grind⟩
        rw [z, rep_int]
        unfold iv
        rw [List.map_replicate]
        rfl
      have e1 : mw (A.length + B.length - 1) (pt (ev A) (ev B) A.length 0) = mw (A.length + B.length - 1) (cv (ev A) (ev B)) := mw_congr fun t _ => pt_cv fun k hk => ev_out hk
      rw [e1] at lp
      have t := a_trim (mw (A.length + B.length - 1) (cv (ev A) (ev B))) (by rw [mw_len]; omega)
      have tn : ((A.length : Int) + (B.length : Int) - 1).toNat = A.length + B.length - 1 := by omega
      have b1 : ((A.length : Int) + (B.length : Int) - 1 ≤ 9223372036854775807 ∧ -9223372036854775808 ≤ (A.length : Int) + (B.length : Int) - 1 ∧ [D.int 0].length * ((A.length : Int) + (B.length : Int) - 1).toNat ≤ 16777216) := by simp; omega
      have sA := sml (n := A.length) (by omega)
      rw [e0] at lp
      simp? only [g__law_poly_times, m__law_poly_times, iv_len, d1, d2, mul_l b1, tn, sA, ntn, lp, t]
      rfl
theorem a_value (A : List (Fe p m)) (x : Fe p m) (hA : A.length ≤ 100000) : g__law_value [.int p, .tup (m.map D.int), (.lst ((iv (A)).map D.int)), .int x.v] = .ok ⟨.frz, true, .int (pvl A x).v⟩ := by
  have lp := forI_map (f := turnF (tgName 6) b1__law_value) (g := fun a : Fe p m => (⟨.frz, true, .int a.v⟩ : TV)) A (fun i => [some ⟨.frz, true, .int p⟩, some ⟨.frz, false, .tup (m.map D.int)⟩, some ⟨.frz, false, (.lst ((iv (A)).map D.int))⟩, some ⟨.frz, true, .int x.v⟩, some ⟨.frz, true, .int (vl i (ev A) x).v⟩, some ⟨.frz, true, .int (x ^ i).v⟩, none]) fun i hi => .inl (by
    have t1 := a_times A[i] (x ^ i)
    have t2 := a_plus (vl i (ev A) x) (A[i] * x ^ i)
    have t3 := a_times (x ^ i) x
    have e1 : vl (i + 1) (ev A) x = vl i (ev A) x + A[i] * x ^ i := by
      show fs i _ + ev A i * x ^ i = _
      rw [ev_lt hi]
      rfl
    have e2 : x ^ (i + 1) = x ^ i * x := by grind
    rw [e1, e2, turn_n]
    unfold b1__law_value
    simp? only [t1, t2, t3])
  have z0 : (vl 0 (ev A) x).v = 0 := rfl
  have z1 : (x ^ 0).v = 1 := by
    have : x ^ 0 = 1 := by grind
    rw [this, v_one]
  rw [z0, z1] at lp
  have e : (vl A.length (ev A) x) = pvl A x := rfl
  rw [e] at lp
  simp? only [g__law_value, m__law_value, el_iv2, lp]
theorem a_is_poly {A : List (Fe p m)} (hA : Trm A) (hl : A.length ≤ 1000000) : g__law_is_poly [(.lst ((iv (A)).map D.int)), .int (qo p m)] = .ok ⟨.frz, true, .bl true⟩ := by
  have lp := forI_map (f := turnF (tgName 2) b1__law_is_poly) (g := fun a : Fe p m => (⟨.frz, true, .int a.v⟩ : TV)) A (fun i => [some ⟨.frz, false, (.lst ((iv (A)).map D.int))⟩, some ⟨.frz, true, .int (qo p m)⟩, none]) fun i hi => .inl (by
    have b := fe_lt A[i]
    have d1 : decide (A[i].v < 0) = false := decide_eq_false (by omega)
    have d2 : decide (qo p m ≤ A[i].v) = false := decide_eq_false (by omega)
    rw [turn_n]
    unfold b1__law_is_poly
    simp? only [d1, d2])
  by_cases c : A.length = 0
  · have d : decide ((A.length : Int) = 0) = true := decide_eq_true (by omega)
    simp? only [g__law_is_poly, m__law_is_poly, el_iv2, lp, iv_len, d]
  · have d : decide ((A.length : Int) = 0) = false := decide_eq_false (by omega)
    have ix : ∀ (k k' : Kd) (fr fr' : Bool), fIx ⟨k, fr, (.lst ((iv (A)).map D.int))⟩ ⟨k', fr', .int (-1)⟩ = some ⟨.frz, true, .int (ev A (A.length - 1)).v⟩ := fun k k' fr fr' => by
      have t := ix_last (W := A) (j := A.length - 1) (by omega) (k := k) (k' := k') (fr := fr) (fr' := fr')
      rw [show A.length - 1 + 1 = A.length by omega, List.take_length] at t
      exact t
    have z : decide ((ev A (A.length - 1)).v = 0) = false := decide_eq_false fun e => by
      rcases hA with a | a
      · omega
      · exact a (fe_v0.mp e)
    simp? only [g__law_is_poly, m__law_is_poly, el_iv2, lp, iv_len, d, ix, z]
theorem mw_snoc {n : Nat} {f : Nat → Fe p m} : mw (n + 1) f = mw n f ++ [f n] := by
  unfold mw
  rw [List.range_succ, List.map_append]
  rfl
theorem a_derivative (A : List (Fe p m)) (hA : A.length ≤ 100000) : g__law_derivative [.int p, .tup (m.map D.int), (.lst ((iv (A)).map D.int))] = .ok ⟨.own, true, (.lst ((iv (pdv A)).map D.int))⟩ := by
  have hp := h.f.hp
  have lp := forI_rng (f := turnF (tgName 4) b1__law_derivative) (lo := 1) (n := A.length - 1) (fun k => [some ⟨.frz, true, .int p⟩, some ⟨.frz, false, .tup (m.map D.int)⟩, some ⟨.frz, false, (.lst ((iv (A)).map D.int))⟩, some ⟨.own, true, (.lst ((iv (mw k (dr (ev A)))).map D.int))⟩, none]) fun k hk => .inl (by
    have a1 : 0 ≤ 1 + (k : Int) ∧ 1 + (k : Int) < (A.length : Int) := by omega
    have t1 : (1 + (k : Int)).toNat = k + 1 := by omega
    have nv := nf_v (p := p) (m := m) (k + 1)
    have e1 : (1 : Int) + (k : Int) = ((k + 1 : Nat) : Int) := by omega
    have p0 : 0 < p := by omega
    have tf := a_times (nf p m (k + 1)) (ev A (k + 1))
    rw [nv] at tf
    have tf : g__law_times [.int p, .tup (m.map D.int), .int ((1 + (k : Int)) % p), .int (ev A (k + 1)).v] = .ok ⟨.frz, true, .int (dr (ev A) k).v⟩ := by rw [e1]; exact tf
    have l1 : (mw k (dr (ev A))).length < 16777216 := by rw [mw_len]; omega
    have e4 : (iv (mw k (dr (ev A)))).map D.int ++ [D.int (dr (ev A) k).v] = (iv (mw (k + 1) (dr (ev A)))).map D.int := by
      rw [mw_snoc, iv_app, List.map_append]
      rfl
    rw [turn_n]
    unfold b1__law_derivative
    simp? only [iv_len, a1, t1, iv_get, p0, tf, l1, e4])
  have z : (iv (mw 0 (dr (ev A)))).map D.int = [] := rfl
  rw [z] at lp
  have t := a_trim (mw (A.length - 1) (dr (ev A))) (by rw [mw_len]; omega)
  have tn : ((A.length : Int) - 1).toNat = A.length - 1 := by omega
  have sA := sml (n := A.length) (by omega)
  have s1 : small 1 = true := rfl
  simp? only [g__law_derivative, m__law_derivative, iv_len, sA, s1, tn, lp, t]
  rfl
end
end Nw

namespace Nw
open PySem Dl
section
variable {p : Int} {m : List Int} [h : FF p m]
theorem old_fo {fr : Bool} : oldE (some ⟨.frz, fr, fo p m⟩) = some ⟨.old, false, fo p m⟩ := id rfl
theorem win_fo : winE (some ⟨.frz, true, fo p m⟩) = some ⟨.old, false, fo p m⟩ := id rfl
theorem hv_fo {fr : Bool} : hvE (some ⟨.frz, fr, fo p m⟩) = some ⟨.frz, false, fo p m⟩ := id rfl
theorem out_fo : outE (some ⟨.frz, true, fo p m⟩) = some ⟨.frz, false, fo p m⟩ := id rfl
theorem out0_fo : outE (some ⟨.frz, false, fo p m⟩) = none := id rfl
end
end Nw

namespace Nw
open PySem Dl
section
variable {p : Int} {m : List Int} [h : FF p m]
abbrev bs (p : Int) (m : List Int) [FF p m] : D := .tup [.int p, .tup (m.map D.int), .int (qo p m)]
theorem psb_opp (A B : List (Fe p m)) : psb A (psb [] B) = pad A B := trm_ext (psb_trm _ _) (pad_trm _ _) fun j => by
  rw [ev_psb, ev_psb, ev_pad, ev_nil0]
  grind
theorem tr_len1 (c : Fe p m) : (tr [c]).length ≤ 1 := tr_le [c]
theorem pml_const (A : List (Fe p m)) (c : Fe p m) : pml A (tr [c]) = psc A c := trm_ext (pml_trm _ _) (psc_trm _ _) fun j => by
  rw [ev_pml, ev_psc, cv_congr (fun _ => rfl) (ev_tr [c])]
  unfold cv
  rw [fs_one (i := j) (by omega) fun k hk hne => by
    rw [ev_out (W := [c]) (by simp; omega)]
    grind]
  rw [Nat.sub_self]
  rfl
theorem ne_wd (A : List (Fe p m)) (k k' : Kd) (f f' : Bool) : fNe ⟨k, f, (.lst ((iv (A)).map D.int))⟩ ⟨k', f', (.lst ((iv (A)).map D.int))⟩ = some ⟨.frz, true, .bl false⟩ := by
  have e : ((.lst ((iv (A)).map D.int)) : D) = Enc.enc (iv A) := rfl
  rw [e]
  exact (ne_enc (k := k) (k' := k') (fr := f) (fr' := f') (iv A) (iv A)).trans (by simp)
theorem eq_wd (A : List (Fe p m)) (k k' : Kd) (f f' : Bool) : fEq ⟨k, f, (.lst ((iv (A)).map D.int))⟩ ⟨k', f', (.lst ((iv (A)).map D.int))⟩ = some ⟨.frz, true, .bl true⟩ := by
  have e : ((.lst ((iv (A)).map D.int)) : D) = Enc.enc (iv A) := rfl
  rw [e]
  exact (eq_enc (k := k) (k' := k') (fr := f) (fr' := f') (iv A) (iv A)).trans (by simp)
theorem psc_len (A : List (Fe p m)) (c : Fe p m) : (psc A c).length ≤ A.length := by
  have := tr_le (A.map fun a => a * c)
  rw [List.length_map] at this
  exact this
theorem psb_len (A B : List (Fe p m)) : (psb A B).length ≤ max A.length B.length := by
  have := tr_le (mw (max A.length B.length) fun k => ev A k - ev B k)
  rwa [mw_len] at this
theorem plain_eq (A B : List (Fe p m)) (c : Fe p m) (hA : A.length ≤ 1000) (hB : B.length ≤ 1000) : g__law_plain [fo p m, bs p m, (.lst ((iv (A)).map D.int)), (.lst ((iv (B)).map D.int)), .int c.v] = .ok ⟨.frz, true, .bl true⟩ := by
  have e1 := a_poly_minus [] B (by simp) (by omega)
  have e1 : g__law_poly_minus [.int p, .tup (m.map D.int), .lst [], (.lst ((iv (B)).map D.int))] = .ok ⟨.own, true, (.lst ((iv (psb [] B)).map D.int))⟩ := e1
  have e2 := poly_add_eq A B (by omega) (by omega)
  have e3 := poly_sub_eq A B (by omega) (by omega)
  have e4 := poly_scale_eq A c (by omega)
  have e5 := poly_mul_eq A B (by omega) (by omega)
  have l0 := psb_len [] B
  have l0 : (psb [] B).length ≤ 1000 := by simp at l0; omega
  have e6 := a_poly_minus A (psb [] B) (by omega) (by omega)
  rw [psb_opp] at e6
  have e7 := a_poly_minus A B (by omega) (by omega)
  have e8 := a_trim [c] (by simp)
  have e8 : g__law_trim [.lst [.int c.v]] = .ok ⟨.own, true, (.lst ((iv (tr [c])).map D.int))⟩ := e8
  have e9 := a_poly_times A (tr [c]) (by omega) (by have := tr_len1 c; omega)
  rw [pml_const] at e9
  have e10 := a_poly_times A B (by omega) (by omega)
  have l1 := pad_len A B
  have l2 := psb_len A B
  have l3 := psc_len A c
  have l4 := pml_len A B
  have i1 := a_is_poly (pad_trm A B) (by omega)
  have i2 := a_is_poly (psb_trm A B) (by omega)
  have i3 := a_is_poly (psc_trm A c) (by omega)
  have i4 := a_is_poly (pml_trm A B) (by omega)
  have n1 := ne_wd (pad A B)
  have n2 := ne_wd (psb A B)
  have n3 := ne_wd (psc A c)
  have n4 := eq_wd (pml A B)
  simp? only [g__law_plain, m__law_plain, b1__law_plain, fo_atom, vbK_fo, e1, e2, e3, e4, e5, e6, e7, e8, e9, e10, i1, i2, i3, i4, n1, n2, n3, n4]
theorem deep_eq (A B : List (Fe p m)) (x : Fe p m) (hA : A.length ≤ 1000) (hB : B.length ≤ 1000) : g__law_deep [fo p m, bs p m, (.lst ((iv (A)).map D.int)), (.lst ((iv (B)).map D.int)), .int x.v] = .ok ⟨.frz, true, .bl true⟩ := by
  have l4 := pml_len A B
  have e5 := poly_mul_eq A B (by omega) (by omega)
  have v1 := pev_eq A x (by omega)
  have v2 := pev_eq B x (by omega)
  have v3 := pev_eq (pml A B) x (by omega)
  rw [pvl_pml] at v3
  have w1 := a_value A x (by omega)
  have w2 := a_value B x (by omega)
  have tm := a_times (pvl A x) (pvl B x)
  have d1 := poly_der_eq A (by omega)
  have d2 := poly_der_eq B (by omega)
  have l1 := pdv_len A
  have l2 := pdv_len B
  have i1 := a_is_poly (pdv_trm A) (by omega)
  have i2 := a_is_poly (pdv_trm B) (by omega)
  have f1 := a_derivative A (by omega)
  have f2 := a_derivative B (by omega)
  have m1 := poly_mul_eq (pdv A) B (by omega) (by omega)
  have m2 := poly_mul_eq A (pdv B) (by omega) (by omega)
  have l5 := pml_len (pdv A) B
  have l6 := pml_len A (pdv B)
  have s1 := poly_add_eq (pml (pdv A) B) (pml A (pdv B)) (by omega) (by omega)
  have d3 := poly_der_eq (pml A B) (by omega)
  rw [pdv_pml] at d3
  have n1 := ne_wd (pdv A)
  have n2 := ne_wd (pdv B)
  have n3 := eq_wd (pad (pml (pdv A) B) (pml A (pdv B)))
  have cm := fun f : Bool => cmpM (g := tgName 12) (e := e1__law_deep) (vs := [12]) (st := [some ⟨.frz, false, fo p m⟩, some ⟨.frz, false, bs p m⟩, some ⟨.frz, false, (.lst ((iv (A)).map D.int))⟩, some ⟨.frz, false, (.lst ((iv (B)).map D.int))⟩, some ⟨.frz, true, .int x.v⟩, some ⟨.frz, true, .int p⟩, some ⟨.frz, false, .tup (m.map D.int)⟩, some ⟨.frz, true, .int (qo p m)⟩, none, none, none, none, none]) (it := fun X : List (Fe p m) => (⟨.frz, f, (.lst ((iv (X)).map D.int))⟩ : TV)) (y := fun X => D.int (pvl X x).v) [A, B, pml A B] (by simp) fun X hX => by
    have v := pev_eq X x (by
      rcases List.mem_cons.mp hX with e | hX
      · rw [e]; omega
      · rcases List.mem_cons.mp hX with e | hX
        · rw [e]; omega
        · rw [List.mem_singleton.mp hX]; omega)
    exact ⟨_, _, tgn_e, by unfold e1__law_deep; simp? only [fo_atom, vbK_fo, v]; rfl, by simp? only [], by simp? only []⟩
  simp only [List.map_cons, List.map_nil, pvl_pml] at cm
  have tk : List.take 2 [D.int (pvl A x).v, D.int (pvl B x).v, D.int (pvl A x * pvl B x).v] = [D.int (pvl A x).v, D.int (pvl B x).v] := rfl
  have nv : ∀ (k k' : Kd) (f f' : Bool), fNe ⟨k, f, .lst [D.int (pvl A x).v, D.int (pvl B x).v]⟩ ⟨k', f', .lst [D.int (pvl A x).v, D.int (pvl B x).v]⟩ = some ⟨.frz, true, .bl false⟩ := fun k k' f f' => ne_wd [pvl A x, pvl B x] k k' f f'
  simp? only [g__law_deep, m__law_deep, tk, nv, fo_atom, vbK_fo, e5, cm, w1, w2, tm, d1, d2, i1, i2, f1, f2, n1, n2, m1, m2, s1, d3, n3]
theorem wd_of {n : Nat} {f : Nat → Int} (hf : ∀ k < n, 0 ≤ f k ∧ f k < qo p m) : ∃ W : List (Fe p m), iv W = mk n f ∧ W.length = n := by
  obtain ⟨W, e⟩ := iv_of (p := p) (m := m) (L := mk n f) fun x hx => by
    obtain ⟨k, hk, rfl⟩ := List.mem_map.mp hx
    exact hf k (List.mem_range.mp hk)
  refine ⟨W, e, ?_⟩
  have := congrArg List.length e
  rwa [iv_len, mk_len] at this
theorem modq (x : Int) : 0 ≤ x % qo p m ∧ x % qo p m < qo p m := by
  have := qo_pos (p := p) (m := m)
  exact ⟨Int.emod_nonneg _ (by omega), Int.emod_lt_of_pos _ (by omega)⟩
theorem a_poly_of (NL : List Int) {k : Int} (hk : 0 ≤ k ∧ k ≤ 8) (hN : NL.length = 60) : ∃ B : List (Fe p m), g__law_poly [.lst (NL.map D.int), .int 30, .int k, .int (qo p m)] = .ok ⟨.own, true, (.lst ((iv (B)).map D.int))⟩ ∧ Trm B ∧ B.length ≤ 8 := by
  have q0 : 0 < qo p m := by have := qo_pos (p := p) (m := m); omega
  obtain ⟨n, rfl⟩ : ∃ n : Nat, k = (n : Int) := ⟨k.toNat, by omega⟩
  have cm := comp_mk (g := tgName 4) (e := e1__law_poly) (vs := [4]) (st := [some ⟨.frz, false, .lst (NL.map D.int)⟩, some ⟨.frz, true, .int 30⟩, some ⟨.frz, true, .int (n : Int)⟩, some ⟨.frz, true, .int (qo p m)⟩, none]) (d := n) (f := fun k => NL.getD (30 + (0 + (k : Int))).toNat 0 % qo p m) (by omega) fun k hk => by
    have a1 : 0 ≤ 30 + (0 + (k : Int)) ∧ 30 + (0 + (k : Int)) < (NL.length : Int) := by omega
    exact ⟨_, _, tgn_e, by unfold e1__law_poly; simp? only [a1, q0]; rfl, by simp? only [], by simp? only []⟩
  obtain ⟨W, eW, lW⟩ := wd_of (p := p) (m := m) (n := n) (f := fun k => NL.getD (30 + (0 + (k : Int))).toNat 0 % qo p m) fun k _ => modq _
  rw [← eW] at cm
  have t := a_trim W (by omega)
  have sn := sml (n := n) (by omega)
  refine ⟨tr W, ?_, tr_trm W, by have := tr_le W; omega⟩
  simp? only [g__law_poly, m__law_poly, sn, ntn, cm, t]
theorem eq_i3 (a b c : Int) (k k' : Kd) (f f' : Bool) : fEq ⟨k, f, .lst [.int a, .int b, .int c]⟩ ⟨k', f', .lst [.int a, .int b, .int c]⟩ = some ⟨.frz, true, .bl true⟩ := by
  have e : (D.lst [.int a, .int b, .int c]) = Enc.enc [a, b, c] := rfl
  rw [e]
  exact (eq_enc (k := k) (k' := k') (fr := f) (fr' := f') [a, b, c] [a, b, c]).trans (by simp)
theorem ne_w2 (A B : List (Fe p m)) (k k' : Kd) (f f' : Bool) : fNe ⟨k, f, .lst [(.lst ((iv (A)).map D.int)), (.lst ((iv (B)).map D.int))]⟩ ⟨k', f', .lst [(.lst ((iv (A)).map D.int)), (.lst ((iv (B)).map D.int))]⟩ = some ⟨.frz, true, .bl false⟩ := by
  have e : (D.lst [(.lst ((iv (A)).map D.int)), (.lst ((iv (B)).map D.int))]) = Enc.enc [iv A, iv B] := rfl
  rw [e]
  exact (ne_enc (k := k) (k' := k') (fr := f) (fr' := f') [iv A, iv B] [iv A, iv B]).trans (by simp)
theorem ne_w0 (k k' : Kd) (f f' : Bool) : fNe ⟨k, f, .lst []⟩ ⟨k', f', .lst []⟩ = some ⟨.frz, true, .bl false⟩ := by
  have e : (D.lst []) = Enc.enc ([] : List Int) := rfl
  rw [e]
  exact (ne_enc (k := k) (k' := k') (fr := f) (fr' := f') ([] : List Int) []).trans (by simp)
theorem flat_wd (w : List (Fe p m)) : ((iv w).map D.int).all flatV = true := List.all_eq_true.mpr fun x hx => by
  obtain ⟨i, _, rfl⟩ := List.mem_map.mp hx
  rfl
theorem chk_wd (w : List (Fe p m)) (hw : w.length ≤ 10000) : chkA [] ((.lst ((iv (w)).map D.int))) = true := by
  show (decide (((iv w).map D.int).length ≤ 4194304) && ((iv w).map D.int).all flatV) = true
  rw [flat_wd, List.length_map, iv_len]
  have : decide (w.length ≤ 4194304) = true := decide_eq_true (by omega)
  rw [this]
  rfl
theorem r16_eq (ns NL : List Int) (hN : NL.length = 60) (A B : List (Fe p m)) (hA : A.length ≤ 100) (hB : B.length ≤ 100) {k7 : Int} {x8 : Bool} {f9 f10 f11 : Bool} {X8 X9 : List D} :
    fin (r16_law [some ⟨.frz, false, .fl (ns.map D.int)⟩, some ⟨.frz, true, .lst (NL.map D.int)⟩, some ⟨.frz, true, .int p⟩, some ⟨.frz, true, .tup (m.map D.int)⟩, some ⟨.frz, true, .int (qo p m)⟩, some ⟨.frz, true, .tup [.int p, .tup (m.map D.int), .int (qo p m)]⟩, some ⟨.frz, false, fo p m⟩, some ⟨.frz, true, .int k7⟩, some ⟨.frz, x8, .lst X8⟩, some ⟨.own, f9, .lst X9⟩, some ⟨.frz, f10, (.lst ((iv (A)).map D.int))⟩, some ⟨.frz, f11, (.lst ((iv (B)).map D.int))⟩, none, none, none, none, none, none, none]) = .ok ⟨.frz, true, .bl true⟩ := by
  have q0 : 0 < qo p m := by have := qo_pos (p := p) (m := m); omega
  have b3 : 0 ≤ (3 : Int) ∧ (3 : Int) < (NL.length : Int) := by omega
  have b4 : 0 ≤ (4 : Int) ∧ (4 : Int) < (NL.length : Int) := by omega
  have t3 : (3 : Int).toNat = 3 := rfl
  have t4 : (4 : Int).toNat = 4 := rfl
  obtain ⟨c, hc⟩ := fe_of (p := p) (m := m) (modq (p := p) (m := m) (NL.getD 4 0)).1 (modq (NL.getD 4 0)).2
  obtain ⟨x, hx⟩ := fe_of (p := p) (m := m) (modq (p := p) (m := m) (NL.getD 3 0)).1 (modq (NL.getD 3 0)).2
  have pl := plain_eq A B c (by omega) (by omega)
  have de := deep_eq A B x (by omega) (by omega)
  have n2 := ne_w2 A B
  have n0 := ne_w0
  have s0 := poly_scale_eq A 0 (by omega)
  rw [psc_zero] at s0
  have s0 : g_poly_scale [fo p m, (.lst ((iv (A)).map D.int)), .int 0] = .ok ⟨.own, true, .lst []⟩ := s0
  have s1 := poly_sub_eq A A (by omega) (by omega)
  rw [psb_self] at s1
  have s1 : g_poly_subtract [fo p m, (.lst ((iv (A)).map D.int)), (.lst ((iv (A)).map D.int))] = .ok ⟨.own, true, .lst []⟩ := s1
  have p1 := poly_add_eq A [] (by omega) (by simp)
  have p1 : g_poly_add [fo p m, (.lst ((iv (A)).map D.int)), .lst []] = .ok ⟨.own, true, (.lst ((iv (pad A [])).map D.int))⟩ := p1
  have p2 := poly_add_eq [] B (by simp) (by omega)
  have p2 : g_poly_add [fo p m, .lst [], (.lst ((iv (B)).map D.int))] = .ok ⟨.own, true, (.lst ((iv (pad [] B)).map D.int))⟩ := p2
  have p3 := poly_scale_eq A 1 (by omega)
  rw [v_one] at p3
  have p4 := poly_sub_eq A [] (by omega) (by simp)
  have p4 : g_poly_subtract [fo p m, (.lst ((iv (A)).map D.int)), .lst []] = .ok ⟨.own, true, (.lst ((iv (psb A [])).map D.int))⟩ := p4
  have p5 := poly_mul_eq B [1] (by omega) (by simp)
  have o1 : ((.lst ((iv ([(1 : Fe p m)])).map D.int)) : D) = .lst [.int 1] := by
    show D.lst [.int (1 : Fe p m).v] = _
    rw [v_one]
  rw [o1] at p5
  have g1 := degree_eq A
  have g2 := degree_eq B
  have g3 : g_degree_of [.lst []] = .ok ⟨.frz, true, .int (-1)⟩ := degree_eq (p := p) (m := m) []
  have e3 := eq_i3 ((A.length : Int) - 1) ((B.length : Int) - 1) (-1)
  have pl2 := plain_eq B A x (by omega) (by omega)
  have l1 := pad_len A []
  have l2 := pad_len [] B
  have l3 := psc_len A 1
  have l4 := psb_len A []
  have l5 := pml_len B [1]
  simp only [List.length_nil, List.length_cons] at l1 l2 l4 l5
  have hv : cEach [16] 15 [] 16 (chkA []) 1 [some ⟨.frz, false, .fl (ns.map D.int)⟩, some ⟨.frz, false, .lst (NL.map D.int)⟩, some ⟨.frz, true, .int p⟩, some ⟨.frz, false, .tup (m.map D.int)⟩, some ⟨.frz, true, .int (qo p m)⟩, some ⟨.frz, false, .tup [.int p, .tup (m.map D.int), .int (qo p m)]⟩, some ⟨.frz, false, fo p m⟩, some ⟨.frz, true, .int k7⟩, some ⟨.frz, false, .lst X8⟩, some ⟨.frz, false, .lst X9⟩, some ⟨.frz, false, (.lst ((iv (A)).map D.int))⟩, some ⟨.frz, false, (.lst ((iv (B)).map D.int))⟩, some ⟨.frz, true, .int c.v⟩, some ⟨.frz, true, .int x.v⟩, some ⟨.frz, false, .lst [(.lst ((iv (A)).map D.int)), (.lst ((iv (B)).map D.int))]⟩, some ⟨.frz, true, .lst [(.lst ((iv (pad A [])).map D.int)), (.lst ((iv (pad [] B)).map D.int)), (.lst ((iv (psc A 1)).map D.int)), (.lst ((iv (psb A [])).map D.int)), (.lst ((iv (pml B [1])).map D.int))]⟩, none, none, none] = some 5 :=
    Ev.ceach_e (xs := [(.lst ((iv (pad A [])).map D.int)), (.lst ((iv (pad [] B)).map D.int)), (.lst ((iv (psc A 1)).map D.int)), (.lst ((iv (psb A [])).map D.int)), (.lst ((iv (pml B [1])).map D.int))]) rfl (by simp) (Ev.slot_of rfl rfl rfl) rfl (by
      simp only [List.all_cons, List.all_nil, chk_wd _ (show (pad A []).length ≤ 10000 by omega), chk_wd _ (show (pad [] B).length ≤ 10000 by omega), chk_wd _ (show (psc A 1).length ≤ 10000 by omega), chk_wd _ (show (psb A []).length ≤ 10000 by omega), chk_wd _ (show (pml B [1]).length ≤ 10000 by omega), Bool.and_self])
  have hm : (5 : Nat) ≤ 8388608 := by decide
  simp? only [r16_law, r17_law, r18_law, r19_law, r20_law, r21_law, wa1_law, wb1_law, wr1_law, q1_r2_law, q1_r3_law, old_fo, win_fo, hv_fo, out_fo, out0_fo, fo_atom, vbK_fo, b3, b4, t3, t4, q0, ← hc, ← hx, pl, de, n2, n0, s0, s1, p1, p2, p3, p4, p5, hv, Ev.mhK_s hm, iv_len, g1, g2, g3, e3, pl2]
theorem r8_eq (ns NL : List Int) (hN : NL.length = 60) {n : Nat} (hn : n ≤ 24) :
    fin (r8_law [some ⟨.frz, false, .fl (ns.map D.int)⟩, some ⟨.frz, true, .lst (NL.map D.int)⟩, some ⟨.frz, true, .int p⟩, some ⟨.frz, true, .tup (m.map D.int)⟩, some ⟨.frz, true, .int (qo p m)⟩, some ⟨.frz, true, .tup [.int p, .tup (m.map D.int), .int (qo p m)]⟩, some ⟨.frz, false, fo p m⟩, some ⟨.frz, true, .int (n : Int)⟩, none, none, none, none, none, none, none, none, none, none, none]) = .ok ⟨.frz, true, .bl true⟩ := by
  have q0 : 0 < qo p m := by have := qo_pos (p := p) (m := m); omega
  have b2 : 0 ≤ (2 : Int) ∧ (2 : Int) < (NL.length : Int) := by omega
  have b3 : 0 ≤ (3 : Int) ∧ (3 : Int) < (NL.length : Int) := by omega
  have t2 : (2 : Int).toNat = 2 := rfl
  have t3 : (3 : Int).toNat = 3 := rfl
  have cm := comp_mk (g := tgName 18) (e := e1_law) (vs := [18]) (st := [some ⟨.frz, false, .fl (ns.map D.int)⟩, some ⟨.frz, true, .lst (NL.map D.int)⟩, some ⟨.frz, true, .int p⟩, some ⟨.frz, true, .tup (m.map D.int)⟩, some ⟨.frz, true, .int (qo p m)⟩, some ⟨.frz, true, .tup [.int p, .tup (m.map D.int), .int (qo p m)]⟩, some ⟨.frz, false, fo p m⟩, some ⟨.frz, true, .int (n : Int)⟩, none, none, none, none, none, none, none, none, none, none, none]) (d := n) (f := fun k => NL.getD (5 + (0 + (k : Int))).toNat 0 % qo p m) (by omega) fun k hk => by
    have a1 : 0 ≤ 5 + (0 + (k : Int)) ∧ 5 + (0 + (k : Int)) < (NL.length : Int) := by omega
    exact ⟨_, _, tgn_e, by unfold e1_law; simp? only [a1, q0]; rfl, by simp? only [], by simp? only []⟩
  obtain ⟨W, eW, lW⟩ := wd_of (p := p) (m := m) (n := n) (f := fun k => NL.getD (5 + (0 + (k : Int))).toNat 0 % qo p m) fun k _ => modq _
  rw [← eW] at cm
  have zr : 0 ≤ NL.getD 2 0 % 3 ∧ NL.getD 2 0 % 3 < 3 := ⟨Int.emod_nonneg _ (by decide), Int.emod_lt_of_pos _ (by decide)⟩
  obtain ⟨z, hz⟩ : ∃ z : Nat, NL.getD 2 0 % 3 = (z : Int) := ⟨(NL.getD 2 0 % 3).toNat, by omega⟩
  rw [hz] at zr
  have sn := sml (n := n) (by omega)
  have bm : ((z : Int) ≤ 9223372036854775807 ∧ -9223372036854775808 ≤ (z : Int) ∧ [D.int 0].length * (z : Int).toNat ≤ 16777216) := by simp; omega
  have ba : ((iv W).map D.int).length + ((List.replicate z [D.int 0]).flatten).length ≤ 16777216 := by rw [rep_int, List.length_map, List.length_map, iv_len, List.length_replicate]; omega
  have fa := fill_eq W z
  have lZ : (W ++ List.replicate z (0 : Fe p m)).length = n + z := by rw [List.length_append, List.length_replicate, lW]
  have t := poly_trim_eq (W ++ List.replicate z 0) (by omega)
  have at_ := a_trim (W ++ List.replicate z 0) (by omega)
  have lt := tr_le (W ++ List.replicate z (0 : Fe p m))
  have tt := tr_trm (W ++ List.replicate z (0 : Fe p m))
  generalize hG : W ++ List.replicate z (0 : Fe p m) = G at *
  have ip := a_is_poly tt (by omega)
  have n1 := ne_wd (tr G)
  have dl : decide (((n + z : Nat) : Int) = (n : Int) + (z : Int)) = true := decide_eq_true (by omega)
  have k1 : (tr G).length < 16777216 := by omega
  have m8 : 0 ≤ NL.getD 2 0 % 8 ∧ NL.getD 2 0 % 8 < 8 := ⟨Int.emod_nonneg _ (by decide), Int.emod_lt_of_pos _ (by decide)⟩
  obtain ⟨B, eB, tB, lB⟩ := a_poly_of (p := p) (m := m) NL (k := NL.getD 2 0 % 8) ⟨m8.1, by omega⟩ hN
  by_cases c4 : NL.getD 3 0 % 4 = 0
  · have d4 : decide (NL.getD 3 0 % 4 = 0) = true := decide_eq_true c4
    have tl := fun (k7 : Int) (x8 f9 f10 f11 : Bool) (X8 X9 : List D) => r16_eq (p := p) (m := m) ns NL hN (tr G) (tr G) (by omega) (by omega) (k7 := k7) (x8 := x8) (f9 := f9) (f10 := f10) (f11 := f11) (X8 := X8) (X9 := X9)
    simp? only [r8_law, r9_law, r10_law, r11_law, r12_law, r13_law, r14_law, r15_law, fo_atom, vbK_fo, sn, ntn, cm, b2, b3, t2, t3, hz, mul_l bm, add_l ba, fa, t, ip, at_, n1, iv_len, lZ, dl, k1, eB, d4, tl]
  · have d4 : decide (NL.getD 3 0 % 4 = 0) = false := decide_eq_false c4
    have tl := fun (k7 : Int) (x8 f9 f10 f11 : Bool) (X8 X9 : List D) => r16_eq (p := p) (m := m) ns NL hN (tr G) B (by omega) (by omega) (k7 := k7) (x8 := x8) (f9 := f9) (f10 := f10) (f11 := f11) (X8 := X8) (X9 := X9)
    simp? only [r8_law, r9_law, r10_law, r11_law, r12_law, r13_law, r14_law, r15_law, fo_atom, vbK_fo, sn, ntn, cm, b2, b3, t2, t3, hz, mul_l bm, add_l ba, fa, t, ip, at_, n1, iv_len, lZ, dl, k1, eB, d4, tl]
theorem main06 (ns NL : List Int) (hN : NL.length = 60) :
    fin (r3_law [some ⟨.frz, false, .fl (ns.map D.int)⟩, some ⟨.frz, true, .lst (NL.map D.int)⟩, some ⟨.frz, true, .int p⟩, some ⟨.frz, true, .tup (m.map D.int)⟩, none, none, none, none, none, none, none, none, none, none, none, none, none, none, none]) = .ok ⟨.frz, true, .bl true⟩ := by
  have q0 : 0 < qo p m := by have := qo_pos (p := p) (m := m); omega
  have cn := a_count (p := p) (m := m)
  have fi : g_Field_init [.int p, .tup (m.map D.int)] = _ := h.f.init
  have ix : ∀ k : Nat, k < 60 → (0 ≤ (k : Int) ∧ (k : Int) < (NL.length : Int)) := fun k hk => by omega
  have b1 : 0 ≤ (1 : Int) ∧ (1 : Int) < (NL.length : Int) := ix 1 (by decide)
  have b2 : 0 ≤ (2 : Int) ∧ (2 : Int) < (NL.length : Int) := ix 2 (by decide)
  have b3 : 0 ≤ (3 : Int) ∧ (3 : Int) < (NL.length : Int) := ix 3 (by decide)
  have b4 : 0 ≤ (4 : Int) ∧ (4 : Int) < (NL.length : Int) := ix 4 (by decide)
  have t1 : (1 : Int).toNat = 1 := rfl
  have t2 : (2 : Int).toNat = 2 := rfl
  have t3 : (3 : Int).toNat = 3 := rfl
  have t4 : (4 : Int).toNat = 4 := rfl
  have m8 : 0 ≤ NL.getD 1 0 % 8 ∧ NL.getD 1 0 % 8 < 8 := ⟨Int.emod_nonneg _ (by decide), Int.emod_lt_of_pos _ (by decide)⟩
  obtain ⟨n, hn⟩ : ∃ n : Nat, NL.getD 1 0 % 8 = (n : Int) := ⟨(NL.getD 1 0 % 8).toNat, by omega⟩
  rw [hn] at m8
  by_cases c : NL.getD 1 0 / 8 % 8 = 0
  · have c' : decide (NL.getD 1 0 / 8 % 8 = 0) = true := decide_eq_true c
    have tl := r8_eq (p := p) (m := m) ns NL hN (n := 24) (by decide)
    have e24 : ((24 : Nat) : Int) = 24 := rfl
    rw [e24] at tl
    simp? only [r3_law, r4_law, r5_law, r6_law, r7_law, cn, fi, fo_e, fo_e2, fo_atom, b1, t1, c', tl]
  · have c' : decide (NL.getD 1 0 / 8 % 8 = 0) = false := decide_eq_false c
    have tl := r8_eq (p := p) (m := m) ns NL hN (n := n) (by omega)
    simp? only [r3_law, r4_law, r5_law, r6_law, r7_law, cn, fi, fo_e, fo_e2, fo_atom, b1, t1, c', hn, tl]
end
theorem law_eq (ns : List Int) (hn : ns.length ≤ 63) : ∃ fr, g_law [.fl (ns.map D.int)] = .ok ⟨.frz, fr, .bl true⟩ := by
  refine ⟨true, ?_⟩
  obtain ⟨NL, e1, hl, h9⟩ := numbers_eq ns 60 hn (by decide)
  have hl : NL.length = 60 := hl
  obtain ⟨⟨p, m⟩, t1, f1⟩ := law_field_eq (NL.getD 0 0)
  dsimp only at f1
  haveI : FF p m := ⟨f24 (List.mem_append_left _ t1)⟩
  have b0 : 0 ≤ (0 : Int) ∧ (0 : Int) < (NL.length : Int) := by omega
  have t0 : (0 : Int).toNat = 0 := rfl
  have tl := main06 (p := p) (m := m) ns NL hl
  simp? only [g_law, m_law, r2_law, e1, b0, t0, f1, tl]
end Nw

namespace Nw
open PySem PySem.Spec PyProof.Rows L2 Dl
abbrev N__law_count : List Str := ["_law_prime", "_law_modulus", "_law_order", "_law_k"]
theorem sc__law_count : FnScope N__law_count ["_law_prime", "_law_modulus"] (defScope s__law_count) := ⟨rfl, rfl, rfl, by decide +kernel, rfl, by decide +kernel, by decide +kernel⟩
abbrev N__law_digits : List Str := ["_law_prime", "_law_size", "_law_a", "_law_digits_here", "_law_k"]
theorem sc__law_digits : FnScope N__law_digits ["_law_prime", "_law_size", "_law_a"] (defScope s__law_digits) := ⟨rfl, rfl, rfl, by decide +kernel, rfl, by decide +kernel, by decide +kernel⟩
abbrev N__law_element : List Str := ["_law_prime", "_law_digits_here", "_law_result", "_law_k"]
theorem sc__law_element : FnScope N__law_element ["_law_prime", "_law_digits_here"] (defScope s__law_element) := ⟨rfl, rfl, rfl, by decide +kernel, rfl, by decide +kernel, by decide +kernel⟩
abbrev N__law_times : List Str := ["_law_prime", "_law_modulus", "_law_a", "_law_b", "_law_size", "_law_first", "_law_second", "_law_total", "_law_k", "_law_top", "_law_moved", "_law_digit", "_law_j"]
theorem sc__law_times : FnScope N__law_times ["_law_prime", "_law_modulus", "_law_a", "_law_b"] (defScope s__law_times) := ⟨rfl, rfl, rfl, by decide +kernel, rfl, by decide +kernel, by decide +kernel⟩
abbrev N__law_trim : List Str := ["_law_items", "_law_result"]
theorem sc__law_trim : FnScope N__law_trim ["_law_items"] (defScope s__law_trim) := ⟨rfl, rfl, rfl, by decide +kernel, rfl, by decide +kernel, by decide +kernel⟩
abbrev N__law_derivative : List Str := ["_law_prime", "_law_modulus", "_law_poly_here", "_law_result", "_law_k"]
theorem sc__law_derivative : FnScope N__law_derivative ["_law_prime", "_law_modulus", "_law_poly_here"] (defScope s__law_derivative) := ⟨rfl, rfl, rfl, by decide +kernel, rfl, by decide +kernel, by decide +kernel⟩
abbrev N__law_is_poly : List Str := ["_law_actual", "_law_order", "_law_item"]
theorem sc__law_is_poly : FnScope N__law_is_poly ["_law_actual", "_law_order"] (defScope s__law_is_poly) := ⟨rfl, rfl, rfl, by decide +kernel, rfl, by decide +kernel, by decide +kernel⟩
abbrev N__law_plus : List Str := ["_law_prime", "_law_modulus", "_law_a", "_law_b", "_law_size", "_law_first", "_law_second", "_law_k"]
theorem sc__law_plus : FnScope N__law_plus ["_law_prime", "_law_modulus", "_law_a", "_law_b"] (defScope s__law_plus) := ⟨rfl, rfl, rfl, by decide +kernel, rfl, by decide +kernel, by decide +kernel⟩
abbrev N__law_value : List Str := ["_law_prime", "_law_modulus", "_law_poly_here", "_law_point", "_law_result", "_law_power", "_law_item"]
theorem sc__law_value : FnScope N__law_value ["_law_prime", "_law_modulus", "_law_poly_here", "_law_point"] (defScope s__law_value) := ⟨rfl, rfl, rfl, by decide +kernel, rfl, by decide +kernel, by decide +kernel⟩
abbrev N_base_digits : List Str := ["n", "base", "size", "digits", "_"]
theorem sc_base_digits : FnScope N_base_digits ["n", "base", "size"] (defScope s_base_digits) := ⟨rfl, rfl, rfl, by decide +kernel, rfl, by decide +kernel, by decide +kernel⟩
abbrev N_Field_digits : List Str := ["self", "a"]
theorem sc_Field_digits : FnScope N_Field_digits ["self", "a"] (defScope s_Field_digits) := ⟨rfl, rfl, rfl, by decide +kernel, rfl, by decide +kernel, by decide +kernel⟩
abbrev N_Field_element : List Str := ["self", "digits", "result", "digit"]
theorem sc_Field_element : FnScope N_Field_element ["self", "digits"] (defScope s_Field_element) := ⟨rfl, rfl, rfl, by decide +kernel, rfl, by decide +kernel, by decide +kernel⟩
abbrev N_Field_plus : List Str := ["self", "a", "b", "first", "second", "k"]
theorem sc_Field_plus : FnScope N_Field_plus ["self", "a", "b"] (defScope s_Field_plus) := ⟨rfl, rfl, rfl, by decide +kernel, rfl, by decide +kernel, by decide +kernel⟩
abbrev N_coefficient : List Str := ["poly", "place"]
theorem sc_coefficient : FnScope N_coefficient ["poly", "place"] (defScope s_coefficient) := ⟨rfl, rfl, rfl, by decide +kernel, rfl, by decide +kernel, by decide +kernel⟩
abbrev N_poly_trim : List Str := ["items", "result"]
theorem sc_poly_trim : FnScope N_poly_trim ["items"] (defScope s_poly_trim) := ⟨rfl, rfl, rfl, by decide +kernel, rfl, by decide +kernel, by decide +kernel⟩
abbrev N_poly_add : List Str := ["field", "a", "b", "size", "k"]
theorem sc_poly_add : FnScope N_poly_add ["field", "a", "b"] (defScope s_poly_add) := ⟨rfl, rfl, rfl, by decide +kernel, rfl, by decide +kernel, by decide +kernel⟩
abbrev N_integer_remainder : List Str := ["prime", "items", "divisor", "size", "rest", "factor", "start", "k"]
theorem sc_integer_remainder : FnScope N_integer_remainder ["prime", "items", "divisor"] (defScope s_integer_remainder) := ⟨rfl, rfl, rfl, by decide +kernel, rfl, by decide +kernel, by decide +kernel⟩
abbrev N_Field_times : List Str := ["self", "a", "b", "first", "second", "product", "i", "j"]
theorem sc_Field_times : FnScope N_Field_times ["self", "a", "b"] (defScope s_Field_times) := ⟨rfl, rfl, rfl, by decide +kernel, rfl, by decide +kernel, by decide +kernel⟩
abbrev N_poly_derivative : List Str := ["field", "poly", "k"]
theorem sc_poly_derivative : FnScope N_poly_derivative ["field", "poly"] (defScope s_poly_derivative) := ⟨rfl, rfl, rfl, by decide +kernel, rfl, by decide +kernel, by decide +kernel⟩
abbrev N_poly_evaluate : List Str := ["field", "poly", "point", "result", "item"]
theorem sc_poly_evaluate : FnScope N_poly_evaluate ["field", "poly", "point"] (defScope s_poly_evaluate) := ⟨rfl, rfl, rfl, by decide +kernel, rfl, by decide +kernel, by decide +kernel⟩
abbrev N_poly_multiply : List Str := ["field", "a", "b", "result", "i", "j"]
theorem sc_poly_multiply : FnScope N_poly_multiply ["field", "a", "b"] (defScope s_poly_multiply) := ⟨rfl, rfl, rfl, by decide +kernel, rfl, by decide +kernel, by decide +kernel⟩
abbrev N__law_deep : List Str := ["_law_field_here", "_law_base", "_law_a", "_law_b", "_law_point", "_law_prime", "_law_modulus", "_law_order", "_law_values", "_law_first", "_law_second", "_law_both", "_law_poly_here"]
theorem sc__law_deep : FnScope N__law_deep ["_law_field_here", "_law_base", "_law_a", "_law_b", "_law_point"] (defScope s__law_deep) := ⟨rfl, rfl, rfl, by decide +kernel, rfl, by decide +kernel, by decide +kernel⟩
abbrev N__law_field : List Str := ["_law_number", "_law_fields"]
theorem sc__law_field : FnScope N__law_field ["_law_number"] (defScope s__law_field) := ⟨rfl, rfl, rfl, by decide +kernel, rfl, by decide +kernel, by decide +kernel⟩
abbrev N__law_row : List Str := ["_law_cell", "_law_many", "_law_row_here", "_law_rest", "_law_state", "_law_k"]
theorem sc__law_row : FnScope N__law_row ["_law_cell", "_law_many"] (defScope s__law_row) := ⟨rfl, rfl, rfl, by decide +kernel, rfl, by decide +kernel, by decide +kernel⟩
abbrev N__law_numbers : List Str := ["_law_script", "_law_many", "_law_cells", "_law_each", "_law_numbers_here", "_law_cell", "_law_number"]
theorem sc__law_numbers : FnScope N__law_numbers ["_law_script", "_law_many"] (defScope s__law_numbers) := ⟨rfl, rfl, rfl, by decide +kernel, rfl, by decide +kernel, by decide +kernel⟩
abbrev N__law_minus : List Str := ["_law_prime", "_law_modulus", "_law_a", "_law_b", "_law_size", "_law_first", "_law_second", "_law_k"]
theorem sc__law_minus : FnScope N__law_minus ["_law_prime", "_law_modulus", "_law_a", "_law_b"] (defScope s__law_minus) := ⟨rfl, rfl, rfl, by decide +kernel, rfl, by decide +kernel, by decide +kernel⟩
abbrev N__law_poly_minus : List Str := ["_law_prime", "_law_modulus", "_law_a", "_law_b", "_law_size", "_law_first", "_law_second", "_law_k"]
theorem sc__law_poly_minus : FnScope N__law_poly_minus ["_law_prime", "_law_modulus", "_law_a", "_law_b"] (defScope s__law_poly_minus) := ⟨rfl, rfl, rfl, by decide +kernel, rfl, by decide +kernel, by decide +kernel⟩
abbrev N__law_poly_times : List Str := ["_law_prime", "_law_modulus", "_law_a", "_law_b", "_law_result", "_law_i", "_law_j"]
theorem sc__law_poly_times : FnScope N__law_poly_times ["_law_prime", "_law_modulus", "_law_a", "_law_b"] (defScope s__law_poly_times) := ⟨rfl, rfl, rfl, by decide +kernel, rfl, by decide +kernel, by decide +kernel⟩
abbrev N_poly_scale : List Str := ["field", "poly", "factor", "item"]
theorem sc_poly_scale : FnScope N_poly_scale ["field", "poly", "factor"] (defScope s_poly_scale) := ⟨rfl, rfl, rfl, by decide +kernel, rfl, by decide +kernel, by decide +kernel⟩
abbrev N_Field_negative : List Str := ["self", "a", "digit"]
theorem sc_Field_negative : FnScope N_Field_negative ["self", "a"] (defScope s_Field_negative) := ⟨rfl, rfl, rfl, by decide +kernel, rfl, by decide +kernel, by decide +kernel⟩
abbrev N_Field_minus : List Str := ["self", "a", "b"]
theorem sc_Field_minus : FnScope N_Field_minus ["self", "a", "b"] (defScope s_Field_minus) := ⟨rfl, rfl, rfl, by decide +kernel, rfl, by decide +kernel, by decide +kernel⟩
abbrev N_poly_subtract : List Str := ["field", "a", "b", "size", "k"]
theorem sc_poly_subtract : FnScope N_poly_subtract ["field", "a", "b"] (defScope s_poly_subtract) := ⟨rfl, rfl, rfl, by decide +kernel, rfl, by decide +kernel, by decide +kernel⟩
abbrev N__law_plain : List Str := ["_law_field_here", "_law_base", "_law_a", "_law_b", "_law_factor", "_law_prime", "_law_modulus", "_law_order", "_law_opposite", "_law_total", "_law_less", "_law_scaled", "_law_product", "_law_actual"]
theorem sc__law_plain : FnScope N__law_plain ["_law_field_here", "_law_base", "_law_a", "_law_b", "_law_factor"] (defScope s__law_plain) := ⟨rfl, rfl, rfl, by decide +kernel, rfl, by decide +kernel, by decide +kernel⟩
abbrev N__law_poly : List Str := ["_law_numbers_here", "_law_at", "_law_many", "_law_order", "_law_k"]
theorem sc__law_poly : FnScope N__law_poly ["_law_numbers_here", "_law_at", "_law_many", "_law_order"] (defScope s__law_poly) := ⟨rfl, rfl, rfl, by decide +kernel, rfl, by decide +kernel, by decide +kernel⟩
abbrev N_degree_of : List Str := ["poly"]
theorem sc_degree_of : FnScope N_degree_of ["poly"] (defScope s_degree_of) := ⟨rfl, rfl, rfl, by decide +kernel, rfl, by decide +kernel, by decide +kernel⟩
abbrev N_int_power : List Str := ["base", "exponent", "result", "_"]
theorem sc_int_power : FnScope N_int_power ["base", "exponent"] (defScope s_int_power) := ⟨rfl, rfl, rfl, by decide +kernel, rfl, by decide +kernel, by decide +kernel⟩
abbrev N_is_irreducible : List Str := ["prime", "modulus", "size", "n", "divisor", "rest"]
theorem sc_is_irreducible : FnScope N_is_irreducible ["prime", "modulus"] (defScope s_is_irreducible) := ⟨rfl, rfl, rfl, by decide +kernel, rfl, by decide +kernel, by decide +kernel⟩
abbrev N_is_modulus : List Str := ["prime", "modulus", "item"]
theorem sc_is_modulus : FnScope N_is_modulus ["prime", "modulus"] (defScope s_is_modulus) := ⟨rfl, rfl, rfl, by decide +kernel, rfl, by decide +kernel, by decide +kernel⟩
abbrev N_is_prime : List Str := ["n", "divisor"]
theorem sc_is_prime : FnScope N_is_prime ["n"] (defScope s_is_prime) := ⟨rfl, rfl, rfl, by decide +kernel, rfl, by decide +kernel, by decide +kernel⟩
abbrev N_Field_init : List Str := ["self", "prime", "modulus"]
theorem sc_Field_init : FnScope N_Field_init ["self", "prime", "modulus"] (defScope s_Field_init) := ⟨rfl, rfl, rfl, by decide +kernel, rfl, by decide +kernel, by decide +kernel⟩
abbrev N_law : List Str := ["_law_script", "_law_numbers_here", "_law_prime", "_law_modulus", "_law_order", "_law_base", "_law_field_here", "_law_many", "_law_items", "_law_trimmed", "_law_a", "_law_b", "_law_factor", "_law_point", "_law_passed", "_law_given", "_law_told", "_law_sizes", "_law_k"]
theorem sc_law : FnScope N_law ["_law_script"] (defScope s_law) := ⟨rfl, rfl, rfl, by decide +kernel, rfl, by decide +kernel, by decide +kernel⟩
section
variable {P : Program} {w : World} {K : PySem.W.Frag} {mg : Str → Option Value} {base : Heap}
theorem b__law_count (n_len : mg "len" = none)
    (n_range : mg "range" = none) : BodyOk P w K mg base 0 N__law_count "_law_count" (defScope s__law_count) (defBody s__law_count) m__law_count := by
  intro f cdv A outer s H E hr
  have ft := fit_cx (P := P) (w := w) (K := K) (mg := mg) (base := base) (N := N__law_count) (qual := "_law_count") (scope := defScope s__law_count) (f := f) (cd := cdv) (A := A) (outer := outer) (s := s) (H := H) (E := E)
  have own := own_cx (P := P) (w := w) (K := K) (mg := mg) (base := base) (N := N__law_count) (qual := "_law_count") (scope := defScope s__law_count) (f := f) (cd := cdv) (A := A) (outer := outer) (s := s) (H := H) (E := E)
  have nd := sc__law_count.nd
  exact (qss_cons (qs_set (i := 2) nd rfl (Or.inl rfl) qe_int)
  (qss_cons (qs_for (f := (tgName 3)) tg_name own rfl (qi_rng1 rfl n_range (qa_cons (qe_sub (qe_b call_len does_len rfl n_len (by decide +kernel) (qa_cons (qe_vb 1 (pe_var (i := 1) rfl (Or.inl rfl) (by decide) (by decide))) qa_nil)) qe_int) qa_nil)) (pg_name (i := 3) nd rfl (Or.inl rfl))
  (qss_kl [3] (qss_one (qs_set (i := 2) nd rfl (Or.inl rfl) (qe_mul (qe_vb 2 (pe_var (i := 2) rfl (Or.inl rfl) (by decide) (by decide))) (qe_vb 0 (pe_var (i := 0) rfl (Or.inl rfl) (by decide) (by decide))))))))
  (qss_one (qs_ret (qe_vm 2 (pe_var (i := 2) rfl (Or.inl rfl) (by decide) (by decide)))))))
theorem b__law_digits (n_int : mg "int" = none)
    (n_range : mg "range" = none) : BodyOk P w K mg base 0 N__law_digits "_law_digits" (defScope s__law_digits) (defBody s__law_digits) m__law_digits := by
  intro f cdv A outer s H E hr
  have ft := fit_cx (P := P) (w := w) (K := K) (mg := mg) (base := base) (N := N__law_digits) (qual := "_law_digits") (scope := defScope s__law_digits) (f := f) (cd := cdv) (A := A) (outer := outer) (s := s) (H := H) (E := E)
  have own := own_cx (P := P) (w := w) (K := K) (mg := mg) (base := base) (N := N__law_digits) (qual := "_law_digits") (scope := defScope s__law_digits) (f := f) (cd := cdv) (A := A) (outer := outer) (s := s) (H := H) (E := E)
  have nd := sc__law_digits.nd
  exact (qss_cons (qs_set (i := 3) nd rfl (Or.inl rfl) (qe_lst qa_nil))
  (qss_cons (qs_for (f := (tgName 4)) tg_name own rfl (qi_rng1 rfl n_range (qa_cons (qe_vb 1 (pe_var (i := 1) rfl (Or.inl rfl) (by decide) (by decide))) qa_nil)) (pg_name (i := 4) nd rfl (Or.inl rfl))
  (qss_kl [4] (qss_cons (qs_app (k := 3) rfl (pe_var (i := 3) rfl (Or.inl rfl) (by decide) (by decide)) (qe_mod (qe_ty call_int1 does_intc rfl n_int (by decide +kernel) (qa_cons (qe_vb 2 (pe_var (i := 2) rfl (Or.inl rfl) (by decide) (by decide))) qa_nil)) (qe_vb 0 (pe_var (i := 0) rfl (Or.inl rfl) (by decide) (by decide)))) (pe_bm PySem.F.plainAttrs_list PySem.F.slot_list_append PySem.F.type_list_append mt_append (pe_var (i := 3) rfl (Or.inl rfl) (by decide) (by decide)) (pa_cons (qe_mod (qe_ty call_int1 does_intc rfl n_int (by decide +kernel) (qa_cons (qe_vb 2 (pe_var (i := 2) rfl (Or.inl rfl) (by decide) (by decide))) qa_nil)) (qe_vb 0 (pe_var (i := 0) rfl (Or.inl rfl) (by decide) (by decide)))) pa_nil)))
  (qss_one (qs_set (i := 2) nd rfl (Or.inl rfl) (qe_div (qe_vb 2 (pe_var (i := 2) rfl (Or.inl rfl) (by decide) (by decide))) (qe_vb 0 (pe_var (i := 0) rfl (Or.inl rfl) (by decide) (by decide)))))))))
  (qss_one (qs_ret (qe_vm 3 (pe_var (i := 3) rfl (Or.inl rfl) (by decide) (by decide)))))))
theorem b__law_element (n_len : mg "len" = none)
    (n_range : mg "range" = none) : BodyOk P w K mg base 0 N__law_element "_law_element" (defScope s__law_element) (defBody s__law_element) m__law_element := by
  intro f cdv A outer s H E hr
  have ft := fit_cx (P := P) (w := w) (K := K) (mg := mg) (base := base) (N := N__law_element) (qual := "_law_element") (scope := defScope s__law_element) (f := f) (cd := cdv) (A := A) (outer := outer) (s := s) (H := H) (E := E)
  have own := own_cx (P := P) (w := w) (K := K) (mg := mg) (base := base) (N := N__law_element) (qual := "_law_element") (scope := defScope s__law_element) (f := f) (cd := cdv) (A := A) (outer := outer) (s := s) (H := H) (E := E)
  have nd := sc__law_element.nd
  exact (qss_cons (qs_set (i := 2) nd rfl (Or.inl rfl) qe_int)
  (qss_cons (qs_for (f := (tgName 3)) tg_name own rfl (qi_rng1 rfl n_range (qa_cons (qe_b call_len does_len rfl n_len (by decide +kernel) (qa_cons (qe_vb 1 (pe_var (i := 1) rfl (Or.inl rfl) (by decide) (by decide))) qa_nil)) qa_nil)) (pg_name (i := 3) nd rfl (Or.inl rfl))
  (qss_kl [3] (qss_one (qs_set (i := 2) nd rfl (Or.inl rfl) (qe_fz (qe_add rfl (qe_mul (qe_vb 2 (pe_var (i := 2) rfl (Or.inl rfl) (by decide) (by decide))) (qe_vb 0 (pe_var (i := 0) rfl (Or.inl rfl) (by decide) (by decide)))) (qe_ix rfl (qe_vb 1 (pe_var (i := 1) rfl (Or.inl rfl) (by decide) (by decide))) (qe_sub (qe_sub (qe_b call_len does_len rfl n_len (by decide +kernel) (qa_cons (qe_vb 1 (pe_var (i := 1) rfl (Or.inl rfl) (by decide) (by decide))) qa_nil)) qe_int) (qe_vb 3 (pe_var (i := 3) rfl (Or.inl rfl) (by decide) (by decide)))) (fun _ _ => rfl))))))))
  (qss_one (qs_ret (qe_vm 2 (pe_var (i := 2) rfl (Or.inl rfl) (by decide) (by decide)))))))
theorem b__law_times (hd__law_digits : DefOk ⟨K, mg⟩ P w base 1 "_law_digits" ["_law_prime", "_law_size", "_law_a"] g__law_digits)
    (hd__law_element : DefOk ⟨K, mg⟩ P w base 1 "_law_element" ["_law_prime", "_law_digits_here"] g__law_element)
    (n_int : mg "int" = none)
    (n_len : mg "len" = none)
    (n_range : mg "range" = none) : BodyOk P w K mg base 1 N__law_times "_law_times" (defScope s__law_times) (defBody s__law_times) m__law_times := by
  intro f cdv A outer s H E hr
  have ft := fit_cx (P := P) (w := w) (K := K) (mg := mg) (base := base) (N := N__law_times) (qual := "_law_times") (scope := defScope s__law_times) (f := f) (cd := cdv) (A := A) (outer := outer) (s := s) (H := H) (E := E)
  have own := own_cx (P := P) (w := w) (K := K) (mg := mg) (base := base) (N := N__law_times) (qual := "_law_times") (scope := defScope s__law_times) (f := f) (cd := cdv) (A := A) (outer := outer) (s := s) (H := H) (E := E)
  have nd := sc__law_times.nd
  exact (qss_cons (qs_set (i := 4) nd rfl (Or.inl rfl) (qe_sub (qe_b call_len does_len rfl n_len (by decide +kernel) (qa_cons (qe_vb 1 (pe_var (i := 1) rfl (Or.inr (Or.inl rfl)) (by decide) (by decide))) qa_nil)) qe_int))
  (qss_cons (qs_set (i := 5) nd rfl (Or.inr rfl) (qe_fz (qe_call hd__law_digits ft hr (by decide) rfl (qa_cons (qe_vb 0 (pe_var (i := 0) rfl (Or.inr (Or.inl rfl)) (by decide) (by decide))) (qa_cons (qe_vb 4 (pe_var (i := 4) rfl (Or.inl rfl) (by decide) (by decide))) (qa_cons (qe_vb 2 (pe_var (i := 2) rfl (Or.inl rfl) (by decide) (by decide))) qa_nil))) (lenC (lenC (lenC len0))))))
  (qss_cons (qs_set (i := 6) nd rfl (Or.inl rfl) (qe_fz (qe_call hd__law_digits ft hr (by decide) rfl (qa_cons (qe_vb 0 (pe_var (i := 0) rfl (Or.inr (Or.inl rfl)) (by decide) (by decide))) (qa_cons (qe_vb 4 (pe_var (i := 4) rfl (Or.inl rfl) (by decide) (by decide))) (qa_cons (qe_vb 3 (pe_var (i := 3) rfl (Or.inl rfl) (by decide) (by decide))) qa_nil))) (lenC (lenC (lenC len0))))))
  (qss_cons (qs_set (i := 7) nd rfl (Or.inl rfl) (qe_fz (qe_mul (qe_lst (qa_cons qe_int qa_nil)) (qe_vb 4 (pe_var (i := 4) rfl (Or.inl rfl) (by decide) (by decide))))))
  (qss_cons (qs_for (f := (tgName 8)) tg_name own rfl (qi_rng1 rfl n_range (qa_cons (qe_vb 4 (pe_var (i := 4) rfl (Or.inl rfl) (by decide) (by decide))) qa_nil)) (pg_name (i := 8) nd rfl (Or.inl rfl))
  (qss_kl [8, 9, 10, 11] (qss_cons (qs_set (i := 9) nd rfl (Or.inr rfl) (qe_ix rfl (qe_vb 7 (pe_var (i := 7) rfl (Or.inl rfl) (by decide) (by decide))) (qe_sub (qe_vb 4 (pe_var (i := 4) rfl (Or.inl rfl) (by decide) (by decide))) qe_int) (fun _ _ => rfl)))
  (qss_cons (qs_set (i := 10) nd rfl (Or.inr rfl) (qe_fz (qe_add rfl (qe_lst (qa_cons qe_int qa_nil)) (qe_sl rfl (qe_vb 7 (pe_var (i := 7) rfl (Or.inl rfl) (by decide) (by decide))) qo_none (qo_some (qe_sub (qe_vb 4 (pe_var (i := 4) rfl (Or.inl rfl) (by decide) (by decide))) qe_int))))))
  (qss_cons (qs_set (i := 11) nd rfl (Or.inr rfl) (qe_ix rfl (qe_vb 6 (pe_var (i := 6) rfl (Or.inl rfl) (by decide) (by decide))) (qe_sub (qe_sub (qe_vb 4 (pe_var (i := 4) rfl (Or.inl rfl) (by decide) (by decide))) qe_int) (qe_vb 8 (pe_var (i := 8) rfl (Or.inl rfl) (by decide) (by decide)))) (fun _ _ => rfl)))
  (qss_one (qs_setCompF (i := 7) (own := [("_law_j", 12)]) (f := (tgName 12)) tw_name rfl nd rfl rfl (sw_true rfl rfl rfl (by decide +kernel)) (qi_rng1 rfl n_range (qa_cons (qe_vb 4 (pe_var (i := 4) rfl (Or.inl rfl) (by decide) (by decide))) qa_nil)) (blkOk_by (own := [("_law_j", 12)]) (N := N__law_times) (sc := defScope s__law_times) (by decide +kernel)) (fun _ _ _ _ _ => (pg_name (i := 12) nd rfl (Or.inl rfl))) (fun _ _ _ _ _ => qts_nil) (fun _ _ _ _ _ => (qe_mod (qe_ty call_int1 does_intc rfl n_int (by decide +kernel) (qa_cons (qe_add rfl (qe_sub (qe_ix rfl (qe_vb 10 (pe_var (i := 10) rfl (Or.inr (Or.inl rfl)) (by decide) (by decide))) (qe_vb 12 (pe_var (i := 12) rfl (Or.inl rfl) (by decide) (by decide))) (fun _ _ => rfl)) (qe_mul (qe_vb 9 (pe_var (i := 9) rfl (Or.inr (Or.inl rfl)) (by decide) (by decide))) (qe_ix rfl (qe_vb 1 (pe_var (i := 1) rfl (Or.inr (Or.inl rfl)) (by decide) (by decide))) (qe_vb 12 (pe_var (i := 12) rfl (Or.inl rfl) (by decide) (by decide))) (fun _ _ => rfl)))) (qe_mul (qe_vb 11 (pe_var (i := 11) rfl (Or.inr (Or.inl rfl)) (by decide) (by decide))) (qe_ix rfl (qe_vb 5 (pe_var (i := 5) rfl (Or.inr (Or.inl rfl)) (by decide) (by decide))) (qe_vb 12 (pe_var (i := 12) rfl (Or.inl rfl) (by decide) (by decide))) (fun _ _ => rfl)))) qa_nil)) (qe_vb 0 (pe_var (i := 0) rfl (Or.inr (Or.inl rfl)) (by decide) (by decide))))))))))))
  (qss_one (qs_ret (qe_call hd__law_element ft hr (by decide) rfl (qa_cons (qe_vb 0 (pe_var (i := 0) rfl (Or.inr (Or.inl rfl)) (by decide) (by decide))) (qa_cons (qe_vb 7 (pe_var (i := 7) rfl (Or.inl rfl) (by decide) (by decide))) qa_nil)) (lenC (lenC len0))))))))))
theorem b__law_trim (n_len : mg "len" = none)
    (n_list : mg "list" = none) : BodyOk P w K mg base 0 N__law_trim "_law_trim" (defScope s__law_trim) (defBody s__law_trim) m__law_trim := by
  intro f cdv A outer s H E hr
  have ft := fit_cx (P := P) (w := w) (K := K) (mg := mg) (base := base) (N := N__law_trim) (qual := "_law_trim") (scope := defScope s__law_trim) (f := f) (cd := cdv) (A := A) (outer := outer) (s := s) (H := H) (E := E)
  have own := own_cx (P := P) (w := w) (K := K) (mg := mg) (base := base) (N := N__law_trim) (qual := "_law_trim") (scope := defScope s__law_trim) (f := f) (cd := cdv) (A := A) (outer := outer) (s := s) (H := H) (E := E)
  have nd := sc__law_trim.nd
  exact (qss_cons (qs_set (i := 1) nd rfl (Or.inl rfl) (qe_fr (qe_ty call_list_of does_list rfl n_list (by decide +kernel) (qa_cons (qe_vb 0 (pe_var (i := 0) rfl (Or.inl rfl) (by decide) (by decide))) qa_nil))))
  (qss_cons (qs_while (n := fuel0) own (PW.pt (qw_and (qt_gt (qe_b call_len does_len rfl n_len (by decide +kernel) (qa_cons (qe_vb 1 (pe_var (i := 1) rfl (Or.inl rfl) (by decide) (by decide))) qa_nil)) qe_int) (qw_and1 (qt_eq rfl hr.units (qe_ix rfl (qe_vb 1 (pe_var (i := 1) rfl (Or.inl rfl) (by decide) (by decide))) (qe_neg qe_int) (fun _ _ => rfl)) qe_int))))
  (qss_one (qs_pop (k := 1) rfl (pe_bm0 PySem.F.plainAttrs_list PySem.F.slot_list_pop PySem.F.type_list_pop mt_pop (pe_var (i := 1) rfl (Or.inl rfl) (by decide) (by decide))))))
  (qss_one (qs_ret (qe_vm 1 (pe_var (i := 1) rfl (Or.inl rfl) (by decide) (by decide)))))))
theorem b__law_derivative (hd__law_times : DefOk ⟨K, mg⟩ P w base 2 "_law_times" ["_law_prime", "_law_modulus", "_law_a", "_law_b"] g__law_times)
    (hd__law_trim : DefOk ⟨K, mg⟩ P w base 1 "_law_trim" ["_law_items"] g__law_trim)
    (n_int : mg "int" = none)
    (n_len : mg "len" = none)
    (n_range : mg "range" = none) : BodyOk P w K mg base 2 N__law_derivative "_law_derivative" (defScope s__law_derivative) (defBody s__law_derivative) m__law_derivative := by
  intro f cdv A outer s H E hr
  have ft := fit_cx (P := P) (w := w) (K := K) (mg := mg) (base := base) (N := N__law_derivative) (qual := "_law_derivative") (scope := defScope s__law_derivative) (f := f) (cd := cdv) (A := A) (outer := outer) (s := s) (H := H) (E := E)
  have own := own_cx (P := P) (w := w) (K := K) (mg := mg) (base := base) (N := N__law_derivative) (qual := "_law_derivative") (scope := defScope s__law_derivative) (f := f) (cd := cdv) (A := A) (outer := outer) (s := s) (H := H) (E := E)
  have nd := sc__law_derivative.nd
  exact (qss_cons (qs_set (i := 3) nd rfl (Or.inl rfl) (qe_lst qa_nil))
  (qss_cons (qs_for (f := (tgName 4)) tg_name own rfl (qi_rng2 rfl n_range (qa_cons qe_int (qa_cons (qe_b call_len does_len rfl n_len (by decide +kernel) (qa_cons (qe_vb 2 (pe_var (i := 2) rfl (Or.inl rfl) (by decide) (by decide))) qa_nil)) qa_nil))) (pg_name (i := 4) nd rfl (Or.inl rfl))
  (qss_kl [4] (qss_one (qs_app (k := 3) rfl (pe_var (i := 3) rfl (Or.inl rfl) (by decide) (by decide)) (qe_fz (qe_call hd__law_times ft hr (by decide) rfl (qa_cons (qe_vb 0 (pe_var (i := 0) rfl (Or.inl rfl) (by decide) (by decide))) (qa_cons (qe_vb 1 (pe_var (i := 1) rfl (Or.inl rfl) (by decide) (by decide))) (qa_cons (qe_mod (qe_ty call_int1 does_intc rfl n_int (by decide +kernel) (qa_cons (qe_vb 4 (pe_var (i := 4) rfl (Or.inl rfl) (by decide) (by decide))) qa_nil)) (qe_vb 0 (pe_var (i := 0) rfl (Or.inl rfl) (by decide) (by decide)))) (qa_cons (qe_ix rfl (qe_vb 2 (pe_var (i := 2) rfl (Or.inl rfl) (by decide) (by decide))) (qe_vb 4 (pe_var (i := 4) rfl (Or.inl rfl) (by decide) (by decide))) (fun _ _ => rfl)) qa_nil)))) (lenC (lenC (lenC (lenC len0)))))) (pe_bm PySem.F.plainAttrs_list PySem.F.slot_list_append PySem.F.type_list_append mt_append (pe_var (i := 3) rfl (Or.inl rfl) (by decide) (by decide)) (pa_cons (qe_fz (qe_call hd__law_times ft hr (by decide) rfl (qa_cons (qe_vb 0 (pe_var (i := 0) rfl (Or.inl rfl) (by decide) (by decide))) (qa_cons (qe_vb 1 (pe_var (i := 1) rfl (Or.inl rfl) (by decide) (by decide))) (qa_cons (qe_mod (qe_ty call_int1 does_intc rfl n_int (by decide +kernel) (qa_cons (qe_vb 4 (pe_var (i := 4) rfl (Or.inl rfl) (by decide) (by decide))) qa_nil)) (qe_vb 0 (pe_var (i := 0) rfl (Or.inl rfl) (by decide) (by decide)))) (qa_cons (qe_ix rfl (qe_vb 2 (pe_var (i := 2) rfl (Or.inl rfl) (by decide) (by decide))) (qe_vb 4 (pe_var (i := 4) rfl (Or.inl rfl) (by decide) (by decide))) (fun _ _ => rfl)) qa_nil)))) (lenC (lenC (lenC (lenC len0)))))) pa_nil))))))
  (qss_one (qs_ret (qe_call hd__law_trim ft hr (by decide) rfl (qa_cons (qe_vf 3 (pe_var (i := 3) rfl (Or.inl rfl) (by decide) (by decide))) qa_nil) (lenC len0))))))
theorem b__law_is_poly (n_bool : mg "bool" = none)
    (n_int : mg "int" = none)
    (n_isinstance : mg "isinstance" = none)
    (n_len : mg "len" = none)
    (n_list : mg "list" = none) : BodyOk P w K mg base 0 N__law_is_poly "_law_is_poly" (defScope s__law_is_poly) (defBody s__law_is_poly) m__law_is_poly := by
  intro f cdv A outer s H E hr
  have ft := fit_cx (P := P) (w := w) (K := K) (mg := mg) (base := base) (N := N__law_is_poly) (qual := "_law_is_poly") (scope := defScope s__law_is_poly) (f := f) (cd := cdv) (A := A) (outer := outer) (s := s) (H := H) (E := E)
  have own := own_cx (P := P) (w := w) (K := K) (mg := mg) (base := base) (N := N__law_is_poly) (qual := "_law_is_poly") (scope := defScope s__law_is_poly) (f := f) (cd := cdv) (A := A) (outer := outer) (s := s) (H := H) (E := E)
  have nd := sc__law_is_poly.nd
  exact (qss_cons (qs_if (qt_not (qt_val (qe_isi (T := "list") rfl rfl n_isinstance rfl n_list (by decide +kernel) (qe_vb 0 (pe_var (i := 0) rfl (Or.inl rfl) (by decide) (by decide))))))
  (qss_one (qs_ret qe_bl))
  qss_nil)
  (qss_cons (qs_for (f := (tgName 2)) tg_name own rfl (qi_it rfl (qe_vb 0 (pe_var (i := 0) rfl (Or.inl rfl) (by decide) (by decide)))) (pg_name (i := 2) nd rfl (Or.inl rfl))
  (qss_kl [2] (qss_one (qs_if (PW.pt (qw_or (qt_not (qt_val (qe_isi (T := "int") rfl rfl n_isinstance rfl n_int (by decide +kernel) (qe_vb 2 (pe_var (i := 2) rfl (Or.inl rfl) (by decide) (by decide)))))) (qw_or (qt_val (qe_isi (T := "bool") rfl rfl n_isinstance rfl n_bool (by decide +kernel) (qe_vb 2 (pe_var (i := 2) rfl (Or.inl rfl) (by decide) (by decide))))) (qw_or (qt_lt (qe_vb 2 (pe_var (i := 2) rfl (Or.inl rfl) (by decide) (by decide))) qe_int) (qw_or1 (qt_ge (qe_vb 2 (pe_var (i := 2) rfl (Or.inl rfl) (by decide) (by decide))) (qe_vb 1 (pe_var (i := 1) rfl (Or.inl rfl) (by decide) (by decide)))))))))
  (qss_one (qs_ret qe_bl))
  qss_nil))))
  (qss_one (qs_ret (qe_or (qe_eq rfl hr.units (qe_b call_len does_len rfl n_len (by decide +kernel) (qa_cons (qe_vb 0 (pe_var (i := 0) rfl (Or.inl rfl) (by decide) (by decide))) qa_nil)) qe_int) (qe_one (qe_ne rfl hr.units (qe_ix rfl (qe_vb 0 (pe_var (i := 0) rfl (Or.inl rfl) (by decide) (by decide))) (qe_neg qe_int) (fun _ _ => rfl)) qe_int)))))))
theorem b__law_plus (hd__law_digits : DefOk ⟨K, mg⟩ P w base 1 "_law_digits" ["_law_prime", "_law_size", "_law_a"] g__law_digits)
    (hd__law_element : DefOk ⟨K, mg⟩ P w base 1 "_law_element" ["_law_prime", "_law_digits_here"] g__law_element)
    (n_int : mg "int" = none)
    (n_len : mg "len" = none)
    (n_range : mg "range" = none) : BodyOk P w K mg base 1 N__law_plus "_law_plus" (defScope s__law_plus) (defBody s__law_plus) m__law_plus := by
  intro f cdv A outer s H E hr
  have ft := fit_cx (P := P) (w := w) (K := K) (mg := mg) (base := base) (N := N__law_plus) (qual := "_law_plus") (scope := defScope s__law_plus) (f := f) (cd := cdv) (A := A) (outer := outer) (s := s) (H := H) (E := E)
  have own := own_cx (P := P) (w := w) (K := K) (mg := mg) (base := base) (N := N__law_plus) (qual := "_law_plus") (scope := defScope s__law_plus) (f := f) (cd := cdv) (A := A) (outer := outer) (s := s) (H := H) (E := E)
  have nd := sc__law_plus.nd
  exact (qss_cons (qs_set (i := 4) nd rfl (Or.inl rfl) (qe_sub (qe_b call_len does_len rfl n_len (by decide +kernel) (qa_cons (qe_vb 1 (pe_var (i := 1) rfl (Or.inl rfl) (by decide) (by decide))) qa_nil)) qe_int))
  (qss_cons (qs_set (i := 5) nd rfl (Or.inr rfl) (qe_fz (qe_call hd__law_digits ft hr (by decide) rfl (qa_cons (qe_vb 0 (pe_var (i := 0) rfl (Or.inr (Or.inl rfl)) (by decide) (by decide))) (qa_cons (qe_vb 4 (pe_var (i := 4) rfl (Or.inl rfl) (by decide) (by decide))) (qa_cons (qe_vb 2 (pe_var (i := 2) rfl (Or.inl rfl) (by decide) (by decide))) qa_nil))) (lenC (lenC (lenC len0))))))
  (qss_cons (qs_set (i := 6) nd rfl (Or.inr rfl) (qe_fz (qe_call hd__law_digits ft hr (by decide) rfl (qa_cons (qe_vb 0 (pe_var (i := 0) rfl (Or.inr (Or.inl rfl)) (by decide) (by decide))) (qa_cons (qe_vb 4 (pe_var (i := 4) rfl (Or.inl rfl) (by decide) (by decide))) (qa_cons (qe_vb 3 (pe_var (i := 3) rfl (Or.inl rfl) (by decide) (by decide))) qa_nil))) (lenC (lenC (lenC len0))))))
  (qss_one (qs_ret (qe_call hd__law_element ft hr (by decide) rfl (qa_cons (qe_vb 0 (pe_var (i := 0) rfl (Or.inr (Or.inl rfl)) (by decide) (by decide))) (qa_cons (qe_fz (qe_comp (own := [("_law_k", 7)]) (f := (tgName 7)) tw_name rfl nd (qi_rng1 rfl n_range (qa_cons (qe_vb 4 (pe_var (i := 4) rfl (Or.inl rfl) (by decide) (by decide))) qa_nil)) (blkOk_by (own := [("_law_k", 7)]) (N := N__law_plus) (sc := defScope s__law_plus) (by decide +kernel)) (fun _ _ _ _ _ => (pg_name (i := 7) nd rfl (Or.inl rfl))) (fun _ _ _ _ _ => qts_nil) (fun _ _ _ _ _ => (qe_mod (qe_ty call_int1 does_intc rfl n_int (by decide +kernel) (qa_cons (qe_add rfl (qe_ix rfl (qe_vb 5 (pe_var (i := 5) rfl (Or.inr (Or.inl rfl)) (by decide) (by decide))) (qe_vb 7 (pe_var (i := 7) rfl (Or.inl rfl) (by decide) (by decide))) (fun _ _ => rfl)) (qe_ix rfl (qe_vb 6 (pe_var (i := 6) rfl (Or.inr (Or.inl rfl)) (by decide) (by decide))) (qe_vb 7 (pe_var (i := 7) rfl (Or.inl rfl) (by decide) (by decide))) (fun _ _ => rfl))) qa_nil)) (qe_vb 0 (pe_var (i := 0) rfl (Or.inr (Or.inl rfl)) (by decide) (by decide))))))) qa_nil)) (lenC (lenC len0))))))))
theorem b__law_value (hd__law_plus : DefOk ⟨K, mg⟩ P w base 2 "_law_plus" ["_law_prime", "_law_modulus", "_law_a", "_law_b"] g__law_plus)
    (hd__law_times : DefOk ⟨K, mg⟩ P w base 2 "_law_times" ["_law_prime", "_law_modulus", "_law_a", "_law_b"] g__law_times) : BodyOk P w K mg base 2 N__law_value "_law_value" (defScope s__law_value) (defBody s__law_value) m__law_value := by
  intro f cdv A outer s H E hr
  have ft := fit_cx (P := P) (w := w) (K := K) (mg := mg) (base := base) (N := N__law_value) (qual := "_law_value") (scope := defScope s__law_value) (f := f) (cd := cdv) (A := A) (outer := outer) (s := s) (H := H) (E := E)
  have own := own_cx (P := P) (w := w) (K := K) (mg := mg) (base := base) (N := N__law_value) (qual := "_law_value") (scope := defScope s__law_value) (f := f) (cd := cdv) (A := A) (outer := outer) (s := s) (H := H) (E := E)
  have nd := sc__law_value.nd
  exact (qss_cons (qs_set (i := 4) nd rfl (Or.inl rfl) qe_int)
  (qss_cons (qs_set (i := 5) nd rfl (Or.inl rfl) qe_int)
  (qss_cons (qs_for (f := (tgName 6)) tg_name own rfl (qi_it rfl (qe_vb 2 (pe_var (i := 2) rfl (Or.inl rfl) (by decide) (by decide)))) (pg_name (i := 6) nd rfl (Or.inl rfl))
  (qss_kl [6] (qss_cons (qs_set (i := 4) nd rfl (Or.inl rfl) (qe_fz (qe_call hd__law_plus ft hr (by decide) rfl (qa_cons (qe_vb 0 (pe_var (i := 0) rfl (Or.inl rfl) (by decide) (by decide))) (qa_cons (qe_vb 1 (pe_var (i := 1) rfl (Or.inl rfl) (by decide) (by decide))) (qa_cons (qe_vb 4 (pe_var (i := 4) rfl (Or.inl rfl) (by decide) (by decide))) (qa_cons (qe_fz (qe_call hd__law_times ft hr (by decide) rfl (qa_cons (qe_vb 0 (pe_var (i := 0) rfl (Or.inl rfl) (by decide) (by decide))) (qa_cons (qe_vb 1 (pe_var (i := 1) rfl (Or.inl rfl) (by decide) (by decide))) (qa_cons (qe_vb 6 (pe_var (i := 6) rfl (Or.inl rfl) (by decide) (by decide))) (qa_cons (qe_vb 5 (pe_var (i := 5) rfl (Or.inl rfl) (by decide) (by decide))) qa_nil)))) (lenC (lenC (lenC (lenC len0)))))) qa_nil)))) (lenC (lenC (lenC (lenC len0)))))))
  (qss_one (qs_set (i := 5) nd rfl (Or.inl rfl) (qe_fz (qe_call hd__law_times ft hr (by decide) rfl (qa_cons (qe_vb 0 (pe_var (i := 0) rfl (Or.inl rfl) (by decide) (by decide))) (qa_cons (qe_vb 1 (pe_var (i := 1) rfl (Or.inl rfl) (by decide) (by decide))) (qa_cons (qe_vb 5 (pe_var (i := 5) rfl (Or.inl rfl) (by decide) (by decide))) (qa_cons (qe_vb 3 (pe_var (i := 3) rfl (Or.inl rfl) (by decide) (by decide))) qa_nil)))) (lenC (lenC (lenC (lenC len0)))))))))))
  (qss_one (qs_ret (qe_vm 4 (pe_var (i := 4) rfl (Or.inl rfl) (by decide) (by decide))))))))
theorem b_base_digits (n_range : mg "range" = none) : BodyOk P w K mg base 0 N_base_digits "base_digits" (defScope s_base_digits) (defBody s_base_digits) m_base_digits := by
  intro f cdv A outer s H E hr
  have ft := fit_cx (P := P) (w := w) (K := K) (mg := mg) (base := base) (N := N_base_digits) (qual := "base_digits") (scope := defScope s_base_digits) (f := f) (cd := cdv) (A := A) (outer := outer) (s := s) (H := H) (E := E)
  have own := own_cx (P := P) (w := w) (K := K) (mg := mg) (base := base) (N := N_base_digits) (qual := "base_digits") (scope := defScope s_base_digits) (f := f) (cd := cdv) (A := A) (outer := outer) (s := s) (H := H) (E := E)
  have nd := sc_base_digits.nd
  exact (qss_cons (qs_set (i := 3) nd rfl (Or.inl rfl) (qe_lst qa_nil))
  (qss_cons (qs_for (f := (tgName 4)) tg_name own rfl (qi_rng1 rfl n_range (qa_cons (qe_vb 2 (pe_var (i := 2) rfl (Or.inl rfl) (by decide) (by decide))) qa_nil)) (pg_name (i := 4) nd rfl (Or.inl rfl))
  (qss_kl [4] (qss_cons (qs_app (k := 3) rfl (pe_var (i := 3) rfl (Or.inl rfl) (by decide) (by decide)) (qe_mod (qe_vb 0 (pe_var (i := 0) rfl (Or.inl rfl) (by decide) (by decide))) (qe_vb 1 (pe_var (i := 1) rfl (Or.inl rfl) (by decide) (by decide)))) (pe_bm PySem.F.plainAttrs_list PySem.F.slot_list_append PySem.F.type_list_append mt_append (pe_var (i := 3) rfl (Or.inl rfl) (by decide) (by decide)) (pa_cons (qe_mod (qe_vb 0 (pe_var (i := 0) rfl (Or.inl rfl) (by decide) (by decide))) (qe_vb 1 (pe_var (i := 1) rfl (Or.inl rfl) (by decide) (by decide)))) pa_nil)))
  (qss_one (qs_set (i := 0) nd rfl (Or.inl rfl) (qe_div (qe_vb 0 (pe_var (i := 0) rfl (Or.inl rfl) (by decide) (by decide))) (qe_vb 1 (pe_var (i := 1) rfl (Or.inl rfl) (by decide) (by decide)))))))))
  (qss_one (qs_ret (qe_vm 3 (pe_var (i := 3) rfl (Or.inl rfl) (by decide) (by decide)))))))
theorem b_Field_digits (hd_base_digits : DefOk ⟨K, mg⟩ P w base 1 "base_digits" ["n", "base", "size"] g_base_digits)
    (hc_Field : ClsOk ⟨K, mg⟩ c_Field) : BodyOk P w K mg base 1 N_Field_digits "Field.digits" (defScope s_Field_digits) (defBody s_Field_digits) m_Field_digits := by
  intro f cdv A outer s H E hr
  have ft := fit_cx (P := P) (w := w) (K := K) (mg := mg) (base := base) (N := N_Field_digits) (qual := "Field.digits") (scope := defScope s_Field_digits) (f := f) (cd := cdv) (A := A) (outer := outer) (s := s) (H := H) (E := E)
  have own := own_cx (P := P) (w := w) (K := K) (mg := mg) (base := base) (N := N_Field_digits) (qual := "Field.digits") (scope := defScope s_Field_digits) (f := f) (cd := cdv) (A := A) (outer := outer) (s := s) (H := H) (E := E)
  have nd := sc_Field_digits.nd
  exact (qss_one (qs_ret (qe_call hd_base_digits ft hr (by decide) rfl (qa_cons (qe_vb 1 (pe_var (i := 1) rfl (Or.inl rfl) (by decide) (by decide))) (qa_cons (qe_fld (c := c_Field) (k := 0) rfl hc_Field rfl (qe_vb 0 (pe_var (i := 0) rfl (Or.inl rfl) (by decide) (by decide))) rfl) (qa_cons (qe_fld (c := c_Field) (k := 2) rfl hc_Field rfl (qe_vb 0 (pe_var (i := 0) rfl (Or.inl rfl) (by decide) (by decide))) rfl) qa_nil))) (lenC (lenC (lenC len0))))))
theorem b_Field_element (hc_Field : ClsOk ⟨K, mg⟩ c_Field)
    (n_reversed : mg "reversed" = none) : BodyOk P w K mg base 0 N_Field_element "Field.element" (defScope s_Field_element) (defBody s_Field_element) m_Field_element := by
  intro f cdv A outer s H E hr
  have ft := fit_cx (P := P) (w := w) (K := K) (mg := mg) (base := base) (N := N_Field_element) (qual := "Field.element") (scope := defScope s_Field_element) (f := f) (cd := cdv) (A := A) (outer := outer) (s := s) (H := H) (E := E)
  have own := own_cx (P := P) (w := w) (K := K) (mg := mg) (base := base) (N := N_Field_element) (qual := "Field.element") (scope := defScope s_Field_element) (f := f) (cd := cdv) (A := A) (outer := outer) (s := s) (H := H) (E := E)
  have nd := sc_Field_element.nd
  exact (qss_cons (qs_set (i := 2) nd rfl (Or.inl rfl) qe_int)
  (qss_cons (qs_for (f := (tgName 3)) tg_name own rfl (qi_rev rfl rfl n_reversed (qe_vb 1 (pe_var (i := 1) rfl (Or.inl rfl) (by decide) (by decide)))) (pg_name (i := 3) nd rfl (Or.inl rfl))
  (qss_kl [3] (qss_one (qs_set (i := 2) nd rfl (Or.inl rfl) (qe_fz (qe_add rfl (qe_mul (qe_vb 2 (pe_var (i := 2) rfl (Or.inl rfl) (by decide) (by decide))) (qe_fld (c := c_Field) (k := 0) rfl hc_Field rfl (qe_vb 0 (pe_var (i := 0) rfl (Or.inl rfl) (by decide) (by decide))) rfl)) (qe_vb 3 (pe_var (i := 3) rfl (Or.inl rfl) (by decide) (by decide)))))))))
  (qss_one (qs_ret (qe_vm 2 (pe_var (i := 2) rfl (Or.inl rfl) (by decide) (by decide)))))))
theorem b_Field_plus (hm_Field_digits : MethOk ⟨K, mg⟩ P w base 2 c_Field "digits" ["self", "a"] g_Field_digits)
    (hm_Field_element : MethOk ⟨K, mg⟩ P w base 1 c_Field "element" ["self", "digits"] g_Field_element)
    (hc_Field : ClsOk ⟨K, mg⟩ c_Field)
    (n_range : mg "range" = none) : BodyOk P w K mg base 2 N_Field_plus "Field.plus" (defScope s_Field_plus) (defBody s_Field_plus) m_Field_plus := by
  intro f cdv A outer s H E hr
  have ft := fit_cx (P := P) (w := w) (K := K) (mg := mg) (base := base) (N := N_Field_plus) (qual := "Field.plus") (scope := defScope s_Field_plus) (f := f) (cd := cdv) (A := A) (outer := outer) (s := s) (H := H) (E := E)
  have own := own_cx (P := P) (w := w) (K := K) (mg := mg) (base := base) (N := N_Field_plus) (qual := "Field.plus") (scope := defScope s_Field_plus) (f := f) (cd := cdv) (A := A) (outer := outer) (s := s) (H := H) (E := E)
  have nd := sc_Field_plus.nd
  exact (qss_cons (qs_if (qt_eq rfl hr.units (qe_fld (c := c_Field) (k := 2) rfl hc_Field rfl (qe_vb 0 (pe_var (i := 0) rfl (Or.inr (Or.inl rfl)) (by decide) (by decide))) rfl) qe_int)
  (qss_one (qs_ret (qe_mod (qe_add rfl (qe_vb 1 (pe_var (i := 1) rfl (Or.inl rfl) (by decide) (by decide))) (qe_vb 2 (pe_var (i := 2) rfl (Or.inl rfl) (by decide) (by decide)))) (qe_fld (c := c_Field) (k := 0) rfl hc_Field rfl (qe_vb 0 (pe_var (i := 0) rfl (Or.inr (Or.inl rfl)) (by decide) (by decide))) rfl))))
  qss_nil)
  (qss_cons (qs_set (i := 3) nd rfl (Or.inr rfl) (qe_fz (qe_meth hm_Field_digits ft hr (by decide) (qe_vb 0 (pe_var (i := 0) rfl (Or.inr (Or.inl rfl)) (by decide) (by decide))) (qa_cons (qe_vb 1 (pe_var (i := 1) rfl (Or.inl rfl) (by decide) (by decide))) qa_nil) (lenC len0))))
  (qss_cons (qs_set (i := 4) nd rfl (Or.inr rfl) (qe_fz (qe_meth hm_Field_digits ft hr (by decide) (qe_vb 0 (pe_var (i := 0) rfl (Or.inr (Or.inl rfl)) (by decide) (by decide))) (qa_cons (qe_vb 2 (pe_var (i := 2) rfl (Or.inl rfl) (by decide) (by decide))) qa_nil) (lenC len0))))
  (qss_one (qs_ret (qe_meth hm_Field_element ft hr (by decide) (qe_vb 0 (pe_var (i := 0) rfl (Or.inr (Or.inl rfl)) (by decide) (by decide))) (qa_cons (qe_fz (qe_comp (own := [("k", 5)]) (f := (tgName 5)) tw_name rfl nd (qi_rng1 rfl n_range (qa_cons (qe_fld (c := c_Field) (k := 2) rfl hc_Field rfl (qe_vb 0 (pe_var (i := 0) rfl (Or.inr (Or.inl rfl)) (by decide) (by decide))) rfl) qa_nil)) (blkOk_by (own := [("k", 5)]) (N := N_Field_plus) (sc := defScope s_Field_plus) (by decide +kernel)) (fun _ _ _ _ _ => (pg_name (i := 5) nd rfl (Or.inl rfl))) (fun _ _ _ _ _ => qts_nil) (fun _ _ _ _ _ => (qe_mod (qe_add rfl (qe_ix rfl (qe_vb 3 (pe_var (i := 3) rfl (Or.inr (Or.inl rfl)) (by decide) (by decide))) (qe_vb 5 (pe_var (i := 5) rfl (Or.inl rfl) (by decide) (by decide))) (fun _ _ => rfl)) (qe_ix rfl (qe_vb 4 (pe_var (i := 4) rfl (Or.inr (Or.inl rfl)) (by decide) (by decide))) (qe_vb 5 (pe_var (i := 5) rfl (Or.inl rfl) (by decide) (by decide))) (fun _ _ => rfl))) (qe_fld (c := c_Field) (k := 0) rfl hc_Field rfl (qe_vb 0 (pe_var (i := 0) rfl (Or.inr (Or.inl rfl)) (by decide) (by decide))) rfl))))) qa_nil) (lenC len0)))))))
theorem b_coefficient (n_len : mg "len" = none) : BodyOk P w K mg base 0 N_coefficient "coefficient" (defScope s_coefficient) (defBody s_coefficient) m_coefficient := by
  intro f cdv A outer s H E hr
  have ft := fit_cx (P := P) (w := w) (K := K) (mg := mg) (base := base) (N := N_coefficient) (qual := "coefficient") (scope := defScope s_coefficient) (f := f) (cd := cdv) (A := A) (outer := outer) (s := s) (H := H) (E := E)
  have own := own_cx (P := P) (w := w) (K := K) (mg := mg) (base := base) (N := N_coefficient) (qual := "coefficient") (scope := defScope s_coefficient) (f := f) (cd := cdv) (A := A) (outer := outer) (s := s) (H := H) (E := E)
  have nd := sc_coefficient.nd
  exact (qss_cons (qs_if (qt_lt (qe_vb 1 (pe_var (i := 1) rfl (Or.inl rfl) (by decide) (by decide))) (qe_b call_len does_len rfl n_len (by decide +kernel) (qa_cons (qe_vb 0 (pe_var (i := 0) rfl (Or.inl rfl) (by decide) (by decide))) qa_nil)))
  (qss_one (qs_ret (qe_ix rfl (qe_vb 0 (pe_var (i := 0) rfl (Or.inl rfl) (by decide) (by decide))) (qe_vb 1 (pe_var (i := 1) rfl (Or.inl rfl) (by decide) (by decide))) (fun _ _ => rfl))))
  qss_nil)
  (qss_one (qs_ret qe_int)))
theorem b_poly_trim (n_len : mg "len" = none)
    (n_list : mg "list" = none) : BodyOk P w K mg base 0 N_poly_trim "poly_trim" (defScope s_poly_trim) (defBody s_poly_trim) m_poly_trim := by
  intro f cdv A outer s H E hr
  have ft := fit_cx (P := P) (w := w) (K := K) (mg := mg) (base := base) (N := N_poly_trim) (qual := "poly_trim") (scope := defScope s_poly_trim) (f := f) (cd := cdv) (A := A) (outer := outer) (s := s) (H := H) (E := E)
  have own := own_cx (P := P) (w := w) (K := K) (mg := mg) (base := base) (N := N_poly_trim) (qual := "poly_trim") (scope := defScope s_poly_trim) (f := f) (cd := cdv) (A := A) (outer := outer) (s := s) (H := H) (E := E)
  have nd := sc_poly_trim.nd
  exact (qss_cons (qs_set (i := 1) nd rfl (Or.inl rfl) (qe_fr (qe_ty call_list_of does_list rfl n_list (by decide +kernel) (qa_cons (qe_vb 0 (pe_var (i := 0) rfl (Or.inl rfl) (by decide) (by decide))) qa_nil))))
  (qss_cons (qs_while (n := fuel0) own (PW.pt (qw_and (qt_gt (qe_b call_len does_len rfl n_len (by decide +kernel) (qa_cons (qe_vb 1 (pe_var (i := 1) rfl (Or.inl rfl) (by decide) (by decide))) qa_nil)) qe_int) (qw_and1 (qt_eq rfl hr.units (qe_ix rfl (qe_vb 1 (pe_var (i := 1) rfl (Or.inl rfl) (by decide) (by decide))) (qe_neg qe_int) (fun _ _ => rfl)) qe_int))))
  (qss_one (qs_pop (k := 1) rfl (pe_bm0 PySem.F.plainAttrs_list PySem.F.slot_list_pop PySem.F.type_list_pop mt_pop (pe_var (i := 1) rfl (Or.inl rfl) (by decide) (by decide))))))
  (qss_one (qs_ret (qe_vm 1 (pe_var (i := 1) rfl (Or.inl rfl) (by decide) (by decide)))))))
theorem b_poly_add (hm_Field_plus : MethOk ⟨K, mg⟩ P w base 3 c_Field "plus" ["self", "a", "b"] g_Field_plus)
    (hd_coefficient : DefOk ⟨K, mg⟩ P w base 1 "coefficient" ["poly", "place"] g_coefficient)
    (hd_poly_trim : DefOk ⟨K, mg⟩ P w base 1 "poly_trim" ["items"] g_poly_trim)
    (n_len : mg "len" = none)
    (n_max : mg "max" = none)
    (n_range : mg "range" = none) : BodyOk P w K mg base 3 N_poly_add "poly_add" (defScope s_poly_add) (defBody s_poly_add) m_poly_add := by
  intro f cdv A outer s H E hr
  have ft := fit_cx (P := P) (w := w) (K := K) (mg := mg) (base := base) (N := N_poly_add) (qual := "poly_add") (scope := defScope s_poly_add) (f := f) (cd := cdv) (A := A) (outer := outer) (s := s) (H := H) (E := E)
  have own := own_cx (P := P) (w := w) (K := K) (mg := mg) (base := base) (N := N_poly_add) (qual := "poly_add") (scope := defScope s_poly_add) (f := f) (cd := cdv) (A := A) (outer := outer) (s := s) (H := H) (E := E)
  have nd := sc_poly_add.nd
  exact (qss_cons (qs_set (i := 3) nd rfl (Or.inl rfl) (qe_b (call_max2 rfl) does_max rfl n_max (by decide +kernel) (qa_cons (qe_b call_len does_len rfl n_len (by decide +kernel) (qa_cons (qe_vb 1 (pe_var (i := 1) rfl (Or.inr (Or.inl rfl)) (by decide) (by decide))) qa_nil)) (qa_cons (qe_b call_len does_len rfl n_len (by decide +kernel) (qa_cons (qe_vb 2 (pe_var (i := 2) rfl (Or.inr (Or.inl rfl)) (by decide) (by decide))) qa_nil)) qa_nil))))
  (qss_one (qs_ret (qe_call hd_poly_trim ft hr (by decide) rfl (qa_cons (qe_fz (qe_comp (own := [("k", 4)]) (f := (tgName 4)) tw_name rfl nd (qi_rng1 rfl n_range (qa_cons (qe_vb 3 (pe_var (i := 3) rfl (Or.inl rfl) (by decide) (by decide))) qa_nil)) (blkOk_by (own := [("k", 4)]) (N := N_poly_add) (sc := defScope s_poly_add) (by decide +kernel)) (fun _ _ _ _ _ => (pg_name (i := 4) nd rfl (Or.inl rfl))) (fun _ _ _ _ _ => qts_nil) (fun _ _ _ _ _ => (qe_fz (qe_meth hm_Field_plus ft.blk hr (by decide) (qe_vb 0 (pe_var (i := 0) rfl (Or.inr (Or.inl rfl)) (by decide) (by decide))) (qa_cons (qe_fz (qe_call hd_coefficient ft.blk hr (by decide) rfl (qa_cons (qe_vb 1 (pe_var (i := 1) rfl (Or.inr (Or.inl rfl)) (by decide) (by decide))) (qa_cons (qe_vb 4 (pe_var (i := 4) rfl (Or.inl rfl) (by decide) (by decide))) qa_nil)) (lenC (lenC len0)))) (qa_cons (qe_fz (qe_call hd_coefficient ft.blk hr (by decide) rfl (qa_cons (qe_vb 2 (pe_var (i := 2) rfl (Or.inr (Or.inl rfl)) (by decide) (by decide))) (qa_cons (qe_vb 4 (pe_var (i := 4) rfl (Or.inl rfl) (by decide) (by decide))) qa_nil)) (lenC (lenC len0)))) qa_nil)) (lenC (lenC len0))))))) qa_nil) (lenC len0)))))
theorem b_integer_remainder (n_len : mg "len" = none)
    (n_list : mg "list" = none)
    (n_range : mg "range" = none) : BodyOk P w K mg base 0 N_integer_remainder "integer_remainder" (defScope s_integer_remainder) (defBody s_integer_remainder) m_integer_remainder := by
  intro f cdv A outer s H E hr
  have ft := fit_cx (P := P) (w := w) (K := K) (mg := mg) (base := base) (N := N_integer_remainder) (qual := "integer_remainder") (scope := defScope s_integer_remainder) (f := f) (cd := cdv) (A := A) (outer := outer) (s := s) (H := H) (E := E)
  have own := own_cx (P := P) (w := w) (K := K) (mg := mg) (base := base) (N := N_integer_remainder) (qual := "integer_remainder") (scope := defScope s_integer_remainder) (f := f) (cd := cdv) (A := A) (outer := outer) (s := s) (H := H) (E := E)
  have nd := sc_integer_remainder.nd
  exact (qss_cons (qs_set (i := 3) nd rfl (Or.inl rfl) (qe_sub (qe_b call_len does_len rfl n_len (by decide +kernel) (qa_cons (qe_vb 2 (pe_var (i := 2) rfl (Or.inl rfl) (by decide) (by decide))) qa_nil)) qe_int))
  (qss_cons (qs_set (i := 4) nd rfl (Or.inl rfl) (qe_ty call_list_of does_list rfl n_list (by decide +kernel) (qa_cons (qe_vb 1 (pe_var (i := 1) rfl (Or.inl rfl) (by decide) (by decide))) qa_nil)))
  (qss_cons (qs_while (n := fuel0) own (qt_gt (qe_b call_len does_len rfl n_len (by decide +kernel) (qa_cons (qe_vb 4 (pe_var (i := 4) rfl (Or.inl rfl) (by decide) (by decide))) qa_nil)) (qe_vb 3 (pe_var (i := 3) rfl (Or.inl rfl) (by decide) (by decide))))
  (qss_kl [5, 6, 7] (qss_cons (qs_set (i := 5) nd rfl (Or.inl rfl) (qe_ix rfl (qe_vb 4 (pe_var (i := 4) rfl (Or.inl rfl) (by decide) (by decide))) (qe_neg qe_int) (fun _ _ => rfl)))
  (qss_cons (qs_set (i := 6) nd rfl (Or.inl rfl) (qe_sub (qe_sub (qe_b call_len does_len rfl n_len (by decide +kernel) (qa_cons (qe_vb 4 (pe_var (i := 4) rfl (Or.inl rfl) (by decide) (by decide))) qa_nil)) qe_int) (qe_vb 3 (pe_var (i := 3) rfl (Or.inl rfl) (by decide) (by decide)))))
  (qss_cons (qs_for (f := (tgName 7)) tg_name own rfl (qi_rng1 rfl n_range (qa_cons (qe_add rfl (qe_vb 3 (pe_var (i := 3) rfl (Or.inl rfl) (by decide) (by decide))) qe_int) qa_nil)) (pg_name (i := 7) nd rfl (Or.inl rfl))
  (qss_kl [7] (qss_one (qs_setIx (k := 4) (pe_var (i := 4) rfl (Or.inl rfl) (by decide) (by decide)) (qe_add rfl (qe_vb 6 (pe_var (i := 6) rfl (Or.inl rfl) (by decide) (by decide))) (qe_vb 7 (pe_var (i := 7) rfl (Or.inl rfl) (by decide) (by decide)))) (qe_mod (qe_sub (qe_ix rfl (qe_vb 4 (pe_var (i := 4) rfl (Or.inl rfl) (by decide) (by decide))) (qe_add rfl (qe_vb 6 (pe_var (i := 6) rfl (Or.inl rfl) (by decide) (by decide))) (qe_vb 7 (pe_var (i := 7) rfl (Or.inl rfl) (by decide) (by decide)))) (fun _ _ => rfl)) (qe_mul (qe_vb 5 (pe_var (i := 5) rfl (Or.inl rfl) (by decide) (by decide))) (qe_ix rfl (qe_vb 2 (pe_var (i := 2) rfl (Or.inl rfl) (by decide) (by decide))) (qe_vb 7 (pe_var (i := 7) rfl (Or.inl rfl) (by decide) (by decide))) (fun _ _ => rfl)))) (qe_vb 0 (pe_var (i := 0) rfl (Or.inl rfl) (by decide) (by decide))))))))
  (qss_one (qs_pop (k := 4) rfl (pe_bm0 PySem.F.plainAttrs_list PySem.F.slot_list_pop PySem.F.type_list_pop mt_pop (pe_var (i := 4) rfl (Or.inl rfl) (by decide) (by decide))))))))))
  (qss_one (qs_ret (qe_vm 4 (pe_var (i := 4) rfl (Or.inl rfl) (by decide) (by decide))))))))
theorem b_Field_times (hm_Field_digits : MethOk ⟨K, mg⟩ P w base 2 c_Field "digits" ["self", "a"] g_Field_digits)
    (hm_Field_element : MethOk ⟨K, mg⟩ P w base 1 c_Field "element" ["self", "digits"] g_Field_element)
    (hd_integer_remainder : DefOk ⟨K, mg⟩ P w base 1 "integer_remainder" ["prime", "items", "divisor"] g_integer_remainder)
    (hc_Field : ClsOk ⟨K, mg⟩ c_Field)
    (n_range : mg "range" = none) : BodyOk P w K mg base 2 N_Field_times "Field.times" (defScope s_Field_times) (defBody s_Field_times) m_Field_times := by
  intro f cdv A outer s H E hr
  have ft := fit_cx (P := P) (w := w) (K := K) (mg := mg) (base := base) (N := N_Field_times) (qual := "Field.times") (scope := defScope s_Field_times) (f := f) (cd := cdv) (A := A) (outer := outer) (s := s) (H := H) (E := E)
  have own := own_cx (P := P) (w := w) (K := K) (mg := mg) (base := base) (N := N_Field_times) (qual := "Field.times") (scope := defScope s_Field_times) (f := f) (cd := cdv) (A := A) (outer := outer) (s := s) (H := H) (E := E)
  have nd := sc_Field_times.nd
  exact (qss_cons (qs_if (qt_eq rfl hr.units (qe_fld (c := c_Field) (k := 2) rfl hc_Field rfl (qe_vb 0 (pe_var (i := 0) rfl (Or.inl rfl) (by decide) (by decide))) rfl) qe_int)
  (qss_one (qs_ret (qe_mod (qe_mul (qe_vb 1 (pe_var (i := 1) rfl (Or.inl rfl) (by decide) (by decide))) (qe_vb 2 (pe_var (i := 2) rfl (Or.inl rfl) (by decide) (by decide)))) (qe_fld (c := c_Field) (k := 0) rfl hc_Field rfl (qe_vb 0 (pe_var (i := 0) rfl (Or.inl rfl) (by decide) (by decide))) rfl))))
  qss_nil)
  (qss_cons (qs_set (i := 3) nd rfl (Or.inl rfl) (qe_fz (qe_meth hm_Field_digits ft hr (by decide) (qe_vb 0 (pe_var (i := 0) rfl (Or.inl rfl) (by decide) (by decide))) (qa_cons (qe_vb 1 (pe_var (i := 1) rfl (Or.inl rfl) (by decide) (by decide))) qa_nil) (lenC len0))))
  (qss_cons (qs_set (i := 4) nd rfl (Or.inl rfl) (qe_fz (qe_meth hm_Field_digits ft hr (by decide) (qe_vb 0 (pe_var (i := 0) rfl (Or.inl rfl) (by decide) (by decide))) (qa_cons (qe_vb 2 (pe_var (i := 2) rfl (Or.inl rfl) (by decide) (by decide))) qa_nil) (lenC len0))))
  (qss_cons (qs_set (i := 5) nd rfl (Or.inl rfl) (qe_mul (qe_lst (qa_cons qe_int qa_nil)) (qe_sub (qe_mul qe_int (qe_fld (c := c_Field) (k := 2) rfl hc_Field rfl (qe_vb 0 (pe_var (i := 0) rfl (Or.inl rfl) (by decide) (by decide))) rfl)) qe_int)))
  (qss_cons (qs_for (f := (tgName 6)) tg_name own rfl (qi_rng1 rfl n_range (qa_cons (qe_fld (c := c_Field) (k := 2) rfl hc_Field rfl (qe_vb 0 (pe_var (i := 0) rfl (Or.inl rfl) (by decide) (by decide))) rfl) qa_nil)) (pg_name (i := 6) nd rfl (Or.inl rfl))
  (qss_kl [6, 7] (qss_one (qs_for (f := (tgName 7)) tg_name own rfl (qi_rng1 rfl n_range (qa_cons (qe_fld (c := c_Field) (k := 2) rfl hc_Field rfl (qe_vb 0 (pe_var (i := 0) rfl (Or.inl rfl) (by decide) (by decide))) rfl) qa_nil)) (pg_name (i := 7) nd rfl (Or.inl rfl))
  (qss_kl [7] (qss_one (qs_setIx (k := 5) (pe_var (i := 5) rfl (Or.inl rfl) (by decide) (by decide)) (qe_add rfl (qe_vb 6 (pe_var (i := 6) rfl (Or.inl rfl) (by decide) (by decide))) (qe_vb 7 (pe_var (i := 7) rfl (Or.inl rfl) (by decide) (by decide)))) (qe_mod (qe_add rfl (qe_ix rfl (qe_vb 5 (pe_var (i := 5) rfl (Or.inl rfl) (by decide) (by decide))) (qe_add rfl (qe_vb 6 (pe_var (i := 6) rfl (Or.inl rfl) (by decide) (by decide))) (qe_vb 7 (pe_var (i := 7) rfl (Or.inl rfl) (by decide) (by decide)))) (fun _ _ => rfl)) (qe_mul (qe_ix rfl (qe_vb 3 (pe_var (i := 3) rfl (Or.inl rfl) (by decide) (by decide))) (qe_vb 6 (pe_var (i := 6) rfl (Or.inl rfl) (by decide) (by decide))) (fun _ _ => rfl)) (qe_ix rfl (qe_vb 4 (pe_var (i := 4) rfl (Or.inl rfl) (by decide) (by decide))) (qe_vb 7 (pe_var (i := 7) rfl (Or.inl rfl) (by decide) (by decide))) (fun _ _ => rfl)))) (qe_fld (c := c_Field) (k := 0) rfl hc_Field rfl (qe_vb 0 (pe_var (i := 0) rfl (Or.inl rfl) (by decide) (by decide))) rfl)))))))))
  (qss_one (qs_ret (qe_meth hm_Field_element ft hr (by decide) (qe_vb 0 (pe_var (i := 0) rfl (Or.inl rfl) (by decide) (by decide))) (qa_cons (qe_fz (qe_call hd_integer_remainder ft hr (by decide) rfl (qa_cons (qe_fld (c := c_Field) (k := 0) rfl hc_Field rfl (qe_vb 0 (pe_var (i := 0) rfl (Or.inl rfl) (by decide) (by decide))) rfl) (qa_cons (qe_vf 5 (pe_var (i := 5) rfl (Or.inl rfl) (by decide) (by decide))) (qa_cons (qe_fld (c := c_Field) (k := 1) rfl hc_Field rfl (qe_vb 0 (pe_var (i := 0) rfl (Or.inl rfl) (by decide) (by decide))) rfl) qa_nil))) (lenC (lenC (lenC len0))))) qa_nil) (lenC len0)))))))))
theorem b_poly_derivative (hm_Field_times : MethOk ⟨K, mg⟩ P w base 3 c_Field "times" ["self", "a", "b"] g_Field_times)
    (hd_poly_trim : DefOk ⟨K, mg⟩ P w base 1 "poly_trim" ["items"] g_poly_trim)
    (hc_Field : ClsOk ⟨K, mg⟩ c_Field)
    (n_len : mg "len" = none)
    (n_range : mg "range" = none) : BodyOk P w K mg base 3 N_poly_derivative "poly_derivative" (defScope s_poly_derivative) (defBody s_poly_derivative) m_poly_derivative := by
  intro f cdv A outer s H E hr
  have ft := fit_cx (P := P) (w := w) (K := K) (mg := mg) (base := base) (N := N_poly_derivative) (qual := "poly_derivative") (scope := defScope s_poly_derivative) (f := f) (cd := cdv) (A := A) (outer := outer) (s := s) (H := H) (E := E)
  have own := own_cx (P := P) (w := w) (K := K) (mg := mg) (base := base) (N := N_poly_derivative) (qual := "poly_derivative") (scope := defScope s_poly_derivative) (f := f) (cd := cdv) (A := A) (outer := outer) (s := s) (H := H) (E := E)
  have nd := sc_poly_derivative.nd
  exact (qss_one (qs_ret (qe_call hd_poly_trim ft hr (by decide) rfl (qa_cons (qe_fz (qe_comp (own := [("k", 2)]) (f := (tgName 2)) tw_name rfl nd (qi_rng2 rfl n_range (qa_cons qe_int (qa_cons (qe_b call_len does_len rfl n_len (by decide +kernel) (qa_cons (qe_vb 1 (pe_var (i := 1) rfl (Or.inr (Or.inl rfl)) (by decide) (by decide))) qa_nil)) qa_nil))) (blkOk_by (own := [("k", 2)]) (N := N_poly_derivative) (sc := defScope s_poly_derivative) (by decide +kernel)) (fun _ _ _ _ _ => (pg_name (i := 2) nd rfl (Or.inl rfl))) (fun _ _ _ _ _ => qts_nil) (fun _ _ _ _ _ => (qe_fz (qe_meth hm_Field_times ft.blk hr (by decide) (qe_vb 0 (pe_var (i := 0) rfl (Or.inr (Or.inl rfl)) (by decide) (by decide))) (qa_cons (qe_mod (qe_vb 2 (pe_var (i := 2) rfl (Or.inl rfl) (by decide) (by decide))) (qe_fld (c := c_Field) (k := 0) rfl hc_Field rfl (qe_vb 0 (pe_var (i := 0) rfl (Or.inr (Or.inl rfl)) (by decide) (by decide))) rfl)) (qa_cons (qe_ix rfl (qe_vb 1 (pe_var (i := 1) rfl (Or.inr (Or.inl rfl)) (by decide) (by decide))) (qe_vb 2 (pe_var (i := 2) rfl (Or.inl rfl) (by decide) (by decide))) (fun _ _ => rfl)) qa_nil)) (lenC (lenC len0))))))) qa_nil) (lenC len0))))
theorem b_poly_evaluate (hm_Field_plus : MethOk ⟨K, mg⟩ P w base 3 c_Field "plus" ["self", "a", "b"] g_Field_plus)
    (hm_Field_times : MethOk ⟨K, mg⟩ P w base 3 c_Field "times" ["self", "a", "b"] g_Field_times)
    (n_reversed : mg "reversed" = none) : BodyOk P w K mg base 3 N_poly_evaluate "poly_evaluate" (defScope s_poly_evaluate) (defBody s_poly_evaluate) m_poly_evaluate := by
  intro f cdv A outer s H E hr
  have ft := fit_cx (P := P) (w := w) (K := K) (mg := mg) (base := base) (N := N_poly_evaluate) (qual := "poly_evaluate") (scope := defScope s_poly_evaluate) (f := f) (cd := cdv) (A := A) (outer := outer) (s := s) (H := H) (E := E)
  have own := own_cx (P := P) (w := w) (K := K) (mg := mg) (base := base) (N := N_poly_evaluate) (qual := "poly_evaluate") (scope := defScope s_poly_evaluate) (f := f) (cd := cdv) (A := A) (outer := outer) (s := s) (H := H) (E := E)
  have nd := sc_poly_evaluate.nd
  exact (qss_cons (qs_set (i := 3) nd rfl (Or.inl rfl) qe_int)
  (qss_cons (qs_for (f := (tgName 4)) tg_name own rfl (qi_rev rfl rfl n_reversed (qe_vb 1 (pe_var (i := 1) rfl (Or.inl rfl) (by decide) (by decide)))) (pg_name (i := 4) nd rfl (Or.inl rfl))
  (qss_kl [4] (qss_one (qs_set (i := 3) nd rfl (Or.inl rfl) (qe_fz (qe_meth hm_Field_plus ft hr (by decide) (qe_vb 0 (pe_var (i := 0) rfl (Or.inl rfl) (by decide) (by decide))) (qa_cons (qe_fz (qe_meth hm_Field_times ft hr (by decide) (qe_vb 0 (pe_var (i := 0) rfl (Or.inl rfl) (by decide) (by decide))) (qa_cons (qe_vb 3 (pe_var (i := 3) rfl (Or.inl rfl) (by decide) (by decide))) (qa_cons (qe_vb 2 (pe_var (i := 2) rfl (Or.inl rfl) (by decide) (by decide))) qa_nil)) (lenC (lenC len0)))) (qa_cons (qe_vb 4 (pe_var (i := 4) rfl (Or.inl rfl) (by decide) (by decide))) qa_nil)) (lenC (lenC len0))))))))
  (qss_one (qs_ret (qe_vm 3 (pe_var (i := 3) rfl (Or.inl rfl) (by decide) (by decide)))))))
theorem b_poly_multiply (hm_Field_plus : MethOk ⟨K, mg⟩ P w base 3 c_Field "plus" ["self", "a", "b"] g_Field_plus)
    (hm_Field_times : MethOk ⟨K, mg⟩ P w base 3 c_Field "times" ["self", "a", "b"] g_Field_times)
    (hd_poly_trim : DefOk ⟨K, mg⟩ P w base 1 "poly_trim" ["items"] g_poly_trim)
    (n_len : mg "len" = none)
    (n_range : mg "range" = none) : BodyOk P w K mg base 3 N_poly_multiply "poly_multiply" (defScope s_poly_multiply) (defBody s_poly_multiply) m_poly_multiply := by
  intro f cdv A outer s H E hr
  have ft := fit_cx (P := P) (w := w) (K := K) (mg := mg) (base := base) (N := N_poly_multiply) (qual := "poly_multiply") (scope := defScope s_poly_multiply) (f := f) (cd := cdv) (A := A) (outer := outer) (s := s) (H := H) (E := E)
  have own := own_cx (P := P) (w := w) (K := K) (mg := mg) (base := base) (N := N_poly_multiply) (qual := "poly_multiply") (scope := defScope s_poly_multiply) (f := f) (cd := cdv) (A := A) (outer := outer) (s := s) (H := H) (E := E)
  have nd := sc_poly_multiply.nd
  exact (qss_cons (qs_if (PW.pt (qw_or (qt_eq rfl hr.units (qe_b call_len does_len rfl n_len (by decide +kernel) (qa_cons (qe_vb 1 (pe_var (i := 1) rfl (Or.inl rfl) (by decide) (by decide))) qa_nil)) qe_int) (qw_or1 (qt_eq rfl hr.units (qe_b call_len does_len rfl n_len (by decide +kernel) (qa_cons (qe_vb 2 (pe_var (i := 2) rfl (Or.inl rfl) (by decide) (by decide))) qa_nil)) qe_int))))
  (qss_one (qs_ret (qe_lst qa_nil)))
  qss_nil)
  (qss_cons (qs_set (i := 3) nd rfl (Or.inl rfl) (qe_mul (qe_lst (qa_cons qe_int qa_nil)) (qe_sub (qe_add rfl (qe_b call_len does_len rfl n_len (by decide +kernel) (qa_cons (qe_vb 1 (pe_var (i := 1) rfl (Or.inl rfl) (by decide) (by decide))) qa_nil)) (qe_b call_len does_len rfl n_len (by decide +kernel) (qa_cons (qe_vb 2 (pe_var (i := 2) rfl (Or.inl rfl) (by decide) (by decide))) qa_nil))) qe_int)))
  (qss_cons (qs_for (f := (tgName 4)) tg_name own rfl (qi_rng1 rfl n_range (qa_cons (qe_b call_len does_len rfl n_len (by decide +kernel) (qa_cons (qe_vb 1 (pe_var (i := 1) rfl (Or.inl rfl) (by decide) (by decide))) qa_nil)) qa_nil)) (pg_name (i := 4) nd rfl (Or.inl rfl))
  (qss_kl [4, 5] (qss_one (qs_for (f := (tgName 5)) tg_name own rfl (qi_rng1 rfl n_range (qa_cons (qe_b call_len does_len rfl n_len (by decide +kernel) (qa_cons (qe_vb 2 (pe_var (i := 2) rfl (Or.inl rfl) (by decide) (by decide))) qa_nil)) qa_nil)) (pg_name (i := 5) nd rfl (Or.inl rfl))
  (qss_kl [5] (qss_one (qs_setIx (k := 3) (pe_var (i := 3) rfl (Or.inl rfl) (by decide) (by decide)) (qe_add rfl (qe_vb 4 (pe_var (i := 4) rfl (Or.inl rfl) (by decide) (by decide))) (qe_vb 5 (pe_var (i := 5) rfl (Or.inl rfl) (by decide) (by decide)))) (qe_fz (qe_meth hm_Field_plus ft hr (by decide) (qe_vb 0 (pe_var (i := 0) rfl (Or.inl rfl) (by decide) (by decide))) (qa_cons (qe_ix rfl (qe_vb 3 (pe_var (i := 3) rfl (Or.inl rfl) (by decide) (by decide))) (qe_add rfl (qe_vb 4 (pe_var (i := 4) rfl (Or.inl rfl) (by decide) (by decide))) (qe_vb 5 (pe_var (i := 5) rfl (Or.inl rfl) (by decide) (by decide)))) (fun _ _ => rfl)) (qa_cons (qe_fz (qe_meth hm_Field_times ft hr (by decide) (qe_vb 0 (pe_var (i := 0) rfl (Or.inl rfl) (by decide) (by decide))) (qa_cons (qe_ix rfl (qe_vb 1 (pe_var (i := 1) rfl (Or.inl rfl) (by decide) (by decide))) (qe_vb 4 (pe_var (i := 4) rfl (Or.inl rfl) (by decide) (by decide))) (fun _ _ => rfl)) (qa_cons (qe_ix rfl (qe_vb 2 (pe_var (i := 2) rfl (Or.inl rfl) (by decide) (by decide))) (qe_vb 5 (pe_var (i := 5) rfl (Or.inl rfl) (by decide) (by decide))) (fun _ _ => rfl)) qa_nil)) (lenC (lenC len0)))) qa_nil)) (lenC (lenC len0)))))))))))
  (qss_one (qs_ret (qe_call hd_poly_trim ft hr (by decide) rfl (qa_cons (qe_vf 3 (pe_var (i := 3) rfl (Or.inl rfl) (by decide) (by decide))) qa_nil) (lenC len0)))))))
theorem b__law_deep (hd__law_derivative : DefOk ⟨K, mg⟩ P w base 3 "_law_derivative" ["_law_prime", "_law_modulus", "_law_poly_here"] g__law_derivative)
    (hd__law_is_poly : DefOk ⟨K, mg⟩ P w base 1 "_law_is_poly" ["_law_actual", "_law_order"] g__law_is_poly)
    (hd__law_times : DefOk ⟨K, mg⟩ P w base 2 "_law_times" ["_law_prime", "_law_modulus", "_law_a", "_law_b"] g__law_times)
    (hd__law_value : DefOk ⟨K, mg⟩ P w base 3 "_law_value" ["_law_prime", "_law_modulus", "_law_poly_here", "_law_point"] g__law_value)
    (hd_poly_add : DefOk ⟨K, mg⟩ P w base 4 "poly_add" ["field", "a", "b"] g_poly_add)
    (hd_poly_derivative : DefOk ⟨K, mg⟩ P w base 4 "poly_derivative" ["field", "poly"] g_poly_derivative)
    (hd_poly_evaluate : DefOk ⟨K, mg⟩ P w base 4 "poly_evaluate" ["field", "poly", "point"] g_poly_evaluate)
    (hd_poly_multiply : DefOk ⟨K, mg⟩ P w base 4 "poly_multiply" ["field", "a", "b"] g_poly_multiply)
    (n_bool : mg "bool" = none)
    (n_isinstance : mg "isinstance" = none) : BodyOk P w K mg base 4 N__law_deep "_law_deep" (defScope s__law_deep) (defBody s__law_deep) m__law_deep := by
  intro f cdv A outer s H E hr
  have ft := fit_cx (P := P) (w := w) (K := K) (mg := mg) (base := base) (N := N__law_deep) (qual := "_law_deep") (scope := defScope s__law_deep) (f := f) (cd := cdv) (A := A) (outer := outer) (s := s) (H := H) (E := E)
  have own := own_cx (P := P) (w := w) (K := K) (mg := mg) (base := base) (N := N__law_deep) (qual := "_law_deep") (scope := defScope s__law_deep) (f := f) (cd := cdv) (A := A) (outer := outer) (s := s) (H := H) (E := E)
  have nd := sc__law_deep.nd
  exact (qss_cons (qs_asg (f := (tgTup [5, 6, 7])) (tg_tup (is := [5, 6, 7])) (pg_tup rfl (pgs_cons (pg_name (i := 5) nd rfl (Or.inl rfl)) (pgs_cons (pg_name (i := 6) nd rfl (Or.inl rfl)) (pgs_cons (pg_name (i := 7) nd rfl (Or.inl rfl)) pgs_nil)))) (qe_vb 1 (pe_var (i := 1) rfl (Or.inl rfl) (by decide) (by decide))))
  (qss_cons (qs_setCompF (i := 8) (own := [("_law_poly_here", 12)]) (f := (tgName 12)) tw_name rfl nd rfl rfl (sw_true rfl rfl rfl (by decide +kernel)) (qi_it rfl (qe_fz (qe_lst (qa_cons (qe_vb 2 (pe_var (i := 2) rfl (Or.inl rfl) (by decide) (by decide))) (qa_cons (qe_vb 3 (pe_var (i := 3) rfl (Or.inl rfl) (by decide) (by decide))) (qa_cons (qe_fz (qe_call hd_poly_multiply ft hr (by decide) rfl (qa_cons (qe_vb 0 (pe_var (i := 0) rfl (Or.inr (Or.inl rfl)) (by decide) (by decide))) (qa_cons (qe_vb 2 (pe_var (i := 2) rfl (Or.inl rfl) (by decide) (by decide))) (qa_cons (qe_vb 3 (pe_var (i := 3) rfl (Or.inl rfl) (by decide) (by decide))) qa_nil))) (lenC (lenC (lenC len0))))) qa_nil)))))) (blkOk_by (own := [("_law_poly_here", 12)]) (N := N__law_deep) (sc := defScope s__law_deep) (by decide +kernel)) (fun _ _ _ _ _ => (pg_name (i := 12) nd rfl (Or.inl rfl))) (fun _ _ _ _ _ => qts_nil) (fun _ _ _ _ _ => (qe_fz (qe_call hd_poly_evaluate ft.blk hr (by decide) rfl (qa_cons (qe_vb 0 (pe_var (i := 0) rfl (Or.inr (Or.inl rfl)) (by decide) (by decide))) (qa_cons (qe_vb 12 (pe_var (i := 12) rfl (Or.inl rfl) (by decide) (by decide))) (qa_cons (qe_vb 4 (pe_var (i := 4) rfl (Or.inr (Or.inl rfl)) (by decide) (by decide))) qa_nil))) (lenC (lenC (lenC len0)))))))
  (qss_cons (qs_if (qt_ne rfl hr.units (qe_sl rfl (qe_vb 8 (pe_var (i := 8) rfl (Or.inl rfl) (by decide) (by decide))) qo_none (qo_some qe_int)) (qe_lst (qa_cons (qe_fz (qe_call hd__law_value ft hr (by decide) rfl (qa_cons (qe_vb 5 (pe_var (i := 5) rfl (Or.inl rfl) (by decide) (by decide))) (qa_cons (qe_vb 6 (pe_var (i := 6) rfl (Or.inl rfl) (by decide) (by decide))) (qa_cons (qe_vb 2 (pe_var (i := 2) rfl (Or.inl rfl) (by decide) (by decide))) (qa_cons (qe_vb 4 (pe_var (i := 4) rfl (Or.inr (Or.inl rfl)) (by decide) (by decide))) qa_nil)))) (lenC (lenC (lenC (lenC len0)))))) (qa_cons (qe_fz (qe_call hd__law_value ft hr (by decide) rfl (qa_cons (qe_vb 5 (pe_var (i := 5) rfl (Or.inl rfl) (by decide) (by decide))) (qa_cons (qe_vb 6 (pe_var (i := 6) rfl (Or.inl rfl) (by decide) (by decide))) (qa_cons (qe_vb 3 (pe_var (i := 3) rfl (Or.inl rfl) (by decide) (by decide))) (qa_cons (qe_vb 4 (pe_var (i := 4) rfl (Or.inr (Or.inl rfl)) (by decide) (by decide))) qa_nil)))) (lenC (lenC (lenC (lenC len0)))))) qa_nil))))
  (qss_one (qs_ret qe_bl))
  qss_nil)
  (qss_cons (qs_if (PW.pt (qw_or (qt_val (qe_isi (T := "bool") rfl rfl n_isinstance rfl n_bool (by decide +kernel) (qe_ix rfl (qe_vb 8 (pe_var (i := 8) rfl (Or.inl rfl) (by decide) (by decide))) qe_int (fun _ _ => rfl)))) (qw_or1 (qt_ne rfl hr.units (qe_ix rfl (qe_vb 8 (pe_var (i := 8) rfl (Or.inl rfl) (by decide) (by decide))) qe_int (fun _ _ => rfl)) (qe_call hd__law_times ft hr (by decide) rfl (qa_cons (qe_vb 5 (pe_var (i := 5) rfl (Or.inl rfl) (by decide) (by decide))) (qa_cons (qe_vb 6 (pe_var (i := 6) rfl (Or.inl rfl) (by decide) (by decide))) (qa_cons (qe_ix rfl (qe_vb 8 (pe_var (i := 8) rfl (Or.inl rfl) (by decide) (by decide))) qe_int (fun _ _ => rfl)) (qa_cons (qe_ix rfl (qe_vb 8 (pe_var (i := 8) rfl (Or.inl rfl) (by decide) (by decide))) qe_int (fun _ _ => rfl)) qa_nil)))) (lenC (lenC (lenC (lenC len0)))))))))
  (qss_one (qs_ret qe_bl))
  qss_nil)
  (qss_cons (qs_set (i := 9) nd rfl (Or.inl rfl) (qe_fz (qe_call hd_poly_derivative ft hr (by decide) rfl (qa_cons (qe_vb 0 (pe_var (i := 0) rfl (Or.inr (Or.inl rfl)) (by decide) (by decide))) (qa_cons (qe_vb 2 (pe_var (i := 2) rfl (Or.inl rfl) (by decide) (by decide))) qa_nil)) (lenC (lenC len0)))))
  (qss_cons (qs_set (i := 10) nd rfl (Or.inl rfl) (qe_fz (qe_call hd_poly_derivative ft hr (by decide) rfl (qa_cons (qe_vb 0 (pe_var (i := 0) rfl (Or.inr (Or.inl rfl)) (by decide) (by decide))) (qa_cons (qe_vb 3 (pe_var (i := 3) rfl (Or.inl rfl) (by decide) (by decide))) qa_nil)) (lenC (lenC len0)))))
  (qss_cons (qs_if (PW.pt (qw_or (qt_not (qt_val (qe_call hd__law_is_poly ft hr (by decide) rfl (qa_cons (qe_vb 9 (pe_var (i := 9) rfl (Or.inl rfl) (by decide) (by decide))) (qa_cons (qe_vb 7 (pe_var (i := 7) rfl (Or.inl rfl) (by decide) (by decide))) qa_nil)) (lenC (lenC len0))))) (qw_or1 (qt_not (qt_val (qe_call hd__law_is_poly ft hr (by decide) rfl (qa_cons (qe_vb 10 (pe_var (i := 10) rfl (Or.inl rfl) (by decide) (by decide))) (qa_cons (qe_vb 7 (pe_var (i := 7) rfl (Or.inl rfl) (by decide) (by decide))) qa_nil)) (lenC (lenC len0))))))))
  (qss_one (qs_ret qe_bl))
  qss_nil)
  (qss_cons (qs_if (PW.pt (qw_or (qt_ne rfl hr.units (qe_vb 9 (pe_var (i := 9) rfl (Or.inl rfl) (by decide) (by decide))) (qe_call hd__law_derivative ft hr (by decide) rfl (qa_cons (qe_vb 5 (pe_var (i := 5) rfl (Or.inl rfl) (by decide) (by decide))) (qa_cons (qe_vb 6 (pe_var (i := 6) rfl (Or.inl rfl) (by decide) (by decide))) (qa_cons (qe_vb 2 (pe_var (i := 2) rfl (Or.inl rfl) (by decide) (by decide))) qa_nil))) (lenC (lenC (lenC len0))))) (qw_or1 (qt_ne rfl hr.units (qe_vb 10 (pe_var (i := 10) rfl (Or.inl rfl) (by decide) (by decide))) (qe_call hd__law_derivative ft hr (by decide) rfl (qa_cons (qe_vb 5 (pe_var (i := 5) rfl (Or.inl rfl) (by decide) (by decide))) (qa_cons (qe_vb 6 (pe_var (i := 6) rfl (Or.inl rfl) (by decide) (by decide))) (qa_cons (qe_vb 3 (pe_var (i := 3) rfl (Or.inl rfl) (by decide) (by decide))) qa_nil))) (lenC (lenC (lenC len0))))))))
  (qss_one (qs_ret qe_bl))
  qss_nil)
  (qss_cons (qs_set (i := 11) nd rfl (Or.inl rfl) (qe_fz (qe_call hd_poly_add ft hr (by decide) rfl (qa_cons (qe_vb 0 (pe_var (i := 0) rfl (Or.inr (Or.inl rfl)) (by decide) (by decide))) (qa_cons (qe_fz (qe_call hd_poly_multiply ft hr (by decide) rfl (qa_cons (qe_vb 0 (pe_var (i := 0) rfl (Or.inr (Or.inl rfl)) (by decide) (by decide))) (qa_cons (qe_vb 9 (pe_var (i := 9) rfl (Or.inl rfl) (by decide) (by decide))) (qa_cons (qe_vb 3 (pe_var (i := 3) rfl (Or.inl rfl) (by decide) (by decide))) qa_nil))) (lenC (lenC (lenC len0))))) (qa_cons (qe_fz (qe_call hd_poly_multiply ft hr (by decide) rfl (qa_cons (qe_vb 0 (pe_var (i := 0) rfl (Or.inr (Or.inl rfl)) (by decide) (by decide))) (qa_cons (qe_vb 2 (pe_var (i := 2) rfl (Or.inl rfl) (by decide) (by decide))) (qa_cons (qe_vb 10 (pe_var (i := 10) rfl (Or.inl rfl) (by decide) (by decide))) qa_nil))) (lenC (lenC (lenC len0))))) qa_nil))) (lenC (lenC (lenC len0))))))
  (qss_one (qs_ret (qe_eq rfl hr.units (qe_call hd_poly_derivative ft hr (by decide) rfl (qa_cons (qe_vb 0 (pe_var (i := 0) rfl (Or.inr (Or.inl rfl)) (by decide) (by decide))) (qa_cons (qe_fz (qe_call hd_poly_multiply ft hr (by decide) rfl (qa_cons (qe_vb 0 (pe_var (i := 0) rfl (Or.inr (Or.inl rfl)) (by decide) (by decide))) (qa_cons (qe_vb 2 (pe_var (i := 2) rfl (Or.inl rfl) (by decide) (by decide))) (qa_cons (qe_vb 3 (pe_var (i := 3) rfl (Or.inl rfl) (by decide) (by decide))) qa_nil))) (lenC (lenC (lenC len0))))) qa_nil)) (lenC (lenC len0))) (qe_vb 11 (pe_var (i := 11) rfl (Or.inl rfl) (by decide) (by decide)))))))))))))))
theorem b__law_field (n_int : mg "int" = none)
    (n_len : mg "len" = none) : BodyOk P w K mg base 0 N__law_field "_law_field" (defScope s__law_field) (defBody s__law_field) m__law_field := by
  intro f cdv A outer s H E hr
  have ft := fit_cx (P := P) (w := w) (K := K) (mg := mg) (base := base) (N := N__law_field) (qual := "_law_field") (scope := defScope s__law_field) (f := f) (cd := cdv) (A := A) (outer := outer) (s := s) (H := H) (E := E)
  have own := own_cx (P := P) (w := w) (K := K) (mg := mg) (base := base) (N := N__law_field) (qual := "_law_field") (scope := defScope s__law_field) (f := f) (cd := cdv) (A := A) (outer := outer) (s := s) (H := H) (E := E)
  have nd := sc__law_field.nd
  exact (qss_cons (qs_set (i := 1) nd rfl (Or.inl rfl) (qe_fz (qe_lst (qa_cons (qe_tup (qa_cons qe_int (qa_cons (qe_tup (qa_cons qe_int (qa_cons qe_int qa_nil))) qa_nil))) (qa_cons (qe_tup (qa_cons qe_int (qa_cons (qe_tup (qa_cons qe_int (qa_cons qe_int qa_nil))) qa_nil))) (qa_cons (qe_tup (qa_cons qe_int (qa_cons (qe_tup (qa_cons qe_int (qa_cons qe_int (qa_cons qe_int qa_nil)))) qa_nil))) (qa_cons (qe_tup (qa_cons qe_int (qa_cons (qe_tup (qa_cons qe_int (qa_cons qe_int qa_nil))) qa_nil))) (qa_cons (qe_tup (qa_cons qe_int (qa_cons (qe_tup (qa_cons qe_int (qa_cons qe_int (qa_cons qe_int qa_nil)))) qa_nil))) (qa_cons (qe_tup (qa_cons qe_int (qa_cons (qe_tup (qa_cons qe_int (qa_cons qe_int (qa_cons qe_int (qa_cons qe_int qa_nil))))) qa_nil))) (qa_cons (qe_tup (qa_cons qe_int (qa_cons (qe_tup (qa_cons qe_int (qa_cons qe_int qa_nil))) qa_nil))) qa_nil))))))))))
  (qss_cons (qs_set (i := 1) nd rfl (Or.inl rfl) (qe_fz (qe_add rfl (qe_vb 1 (pe_var (i := 1) rfl (Or.inl rfl) (by decide) (by decide))) (qe_lst (qa_cons (qe_tup (qa_cons qe_int (qa_cons (qe_tup (qa_cons qe_int (qa_cons qe_int (qa_cons qe_int (qa_cons qe_int qa_nil))))) qa_nil))) (qa_cons (qe_tup (qa_cons qe_int (qa_cons (qe_tup (qa_cons qe_int (qa_cons qe_int (qa_cons qe_int qa_nil)))) qa_nil))) (qa_cons (qe_tup (qa_cons qe_int (qa_cons (qe_tup (qa_cons qe_int (qa_cons qe_int (qa_cons qe_int (qa_cons qe_int (qa_cons qe_int qa_nil)))))) qa_nil))) (qa_cons (qe_tup (qa_cons qe_int (qa_cons (qe_tup (qa_cons qe_int (qa_cons qe_int (qa_cons qe_int (qa_cons qe_int (qa_cons qe_int qa_nil)))))) qa_nil))) (qa_cons (qe_tup (qa_cons qe_int (qa_cons (qe_tup (qa_cons qe_int (qa_cons qe_int (qa_cons qe_int qa_nil)))) qa_nil))) qa_nil)))))))))
  (qss_cons (qs_set (i := 1) nd rfl (Or.inl rfl) (qe_fz (qe_add rfl (qe_vb 1 (pe_var (i := 1) rfl (Or.inl rfl) (by decide) (by decide))) (qe_lst (qa_cons (qe_tup (qa_cons qe_int (qa_cons (qe_tup (qa_cons qe_int (qa_cons qe_int (qa_cons qe_int qa_nil)))) qa_nil))) (qa_cons (qe_tup (qa_cons qe_int (qa_cons (qe_tup (qa_cons qe_int (qa_cons qe_int qa_nil))) qa_nil))) (qa_cons (qe_tup (qa_cons qe_int (qa_cons (qe_tup (qa_cons qe_int (qa_cons qe_int (qa_cons qe_int qa_nil)))) qa_nil))) (qa_cons (qe_tup (qa_cons qe_int (qa_cons (qe_tup (qa_cons qe_int (qa_cons qe_int (qa_cons qe_int (qa_cons qe_int qa_nil))))) qa_nil))) (qa_cons (qe_tup (qa_cons qe_int (qa_cons (qe_tup (qa_cons qe_int (qa_cons qe_int (qa_cons qe_int (qa_cons qe_int (qa_cons qe_int (qa_cons qe_int qa_nil))))))) qa_nil))) qa_nil)))))))))
  (qss_cons (qs_set (i := 1) nd rfl (Or.inl rfl) (qe_fz (qe_add rfl (qe_vb 1 (pe_var (i := 1) rfl (Or.inl rfl) (by decide) (by decide))) (qe_lst (qa_cons (qe_tup (qa_cons qe_int (qa_cons (qe_tup (qa_cons qe_int (qa_cons qe_int qa_nil))) qa_nil))) (qa_cons (qe_tup (qa_cons qe_int (qa_cons (qe_tup (qa_cons qe_int (qa_cons qe_int qa_nil))) qa_nil))) (qa_cons (qe_tup (qa_cons qe_int (qa_cons (qe_tup (qa_cons qe_int (qa_cons qe_int qa_nil))) qa_nil))) qa_nil)))))))
  (qss_one (qs_ret (qe_ix rfl (qe_vb 1 (pe_var (i := 1) rfl (Or.inl rfl) (by decide) (by decide))) (qe_mod (qe_ty call_int1 does_intc rfl n_int (by decide +kernel) (qa_cons (qe_vb 0 (pe_var (i := 0) rfl (Or.inl rfl) (by decide) (by decide))) qa_nil)) (qe_b call_len does_len rfl n_len (by decide +kernel) (qa_cons (qe_vb 1 (pe_var (i := 1) rfl (Or.inl rfl) (by decide) (by decide))) qa_nil))) (fun _ _ => rfl))))))))
theorem b__law_row (n_abs : mg "abs" = none)
    (n_int : mg "int" = none)
    (n_range : mg "range" = none) : BodyOk P w K mg base 0 N__law_row "_law_row" (defScope s__law_row) (defBody s__law_row) m__law_row := by
  intro f cdv A outer s H E hr
  have ft := fit_cx (P := P) (w := w) (K := K) (mg := mg) (base := base) (N := N__law_row) (qual := "_law_row") (scope := defScope s__law_row) (f := f) (cd := cdv) (A := A) (outer := outer) (s := s) (H := H) (E := E)
  have own := own_cx (P := P) (w := w) (K := K) (mg := mg) (base := base) (N := N__law_row) (qual := "_law_row") (scope := defScope s__law_row) (f := f) (cd := cdv) (A := A) (outer := outer) (s := s) (H := H) (E := E)
  have nd := sc__law_row.nd
  exact (qss_cons (qs_set (i := 2) nd rfl (Or.inl rfl) (qe_lst qa_nil))
  (qss_cons (qs_set (i := 3) nd rfl (Or.inl rfl) qe_int)
  (qss_cons (qs_if (qt_ge (qe_b call_abs does_abs rfl n_abs (by decide +kernel) (qa_cons (qe_vb 0 (pe_var (i := 0) rfl (Or.inl rfl) (by decide) (by decide))) qa_nil)) (qe_pow qe_int qe_int))
  (qss_one (qs_set (i := 3) nd rfl (Or.inl rfl) (qe_b call_abs does_abs rfl n_abs (by decide +kernel) (qa_cons (qe_vb 0 (pe_var (i := 0) rfl (Or.inl rfl) (by decide) (by decide))) qa_nil))))
  qss_nil)
  (qss_cons (qs_set (i := 4) nd rfl (Or.inl rfl) (qe_mod (qe_ty call_int1 does_intc rfl n_int (by decide +kernel) (qa_cons (qe_b call_abs does_abs rfl n_abs (by decide +kernel) (qa_cons (qe_vb 0 (pe_var (i := 0) rfl (Or.inl rfl) (by decide) (by decide))) qa_nil)) qa_nil)) qe_int))
  (qss_cons (qs_for (f := (tgName 5)) tg_name own rfl (qi_rng1 rfl n_range (qa_cons (qe_vb 1 (pe_var (i := 1) rfl (Or.inl rfl) (by decide) (by decide))) qa_nil)) (pg_name (i := 5) nd rfl (Or.inl rfl))
  (qss_kl [5] (qss_cons (qs_set (i := 4) nd rfl (Or.inl rfl) (qe_mod (qe_ty call_int1 does_intc rfl n_int (by decide +kernel) (qa_cons (qe_add rfl (qe_mul (qe_add rfl (qe_vb 4 (pe_var (i := 4) rfl (Or.inl rfl) (by decide) (by decide))) qe_int) qe_int) (qe_mul qe_int (qe_vb 5 (pe_var (i := 5) rfl (Or.inl rfl) (by decide) (by decide))))) qa_nil)) qe_int))
  (qss_one (qs_if (qt_gt (qe_vb 3 (pe_var (i := 3) rfl (Or.inl rfl) (by decide) (by decide))) qe_int)
  (qss_cons (qs_app (k := 2) rfl (pe_var (i := 2) rfl (Or.inl rfl) (by decide) (by decide)) (qe_mod (qe_ty call_int1 does_intc rfl n_int (by decide +kernel) (qa_cons (qe_vb 3 (pe_var (i := 3) rfl (Or.inl rfl) (by decide) (by decide))) qa_nil)) qe_int) (pe_bm PySem.F.plainAttrs_list PySem.F.slot_list_append PySem.F.type_list_append mt_append (pe_var (i := 2) rfl (Or.inl rfl) (by decide) (by decide)) (pa_cons (qe_mod (qe_ty call_int1 does_intc rfl n_int (by decide +kernel) (qa_cons (qe_vb 3 (pe_var (i := 3) rfl (Or.inl rfl) (by decide) (by decide))) qa_nil)) qe_int) pa_nil)))
  (qss_one (qs_set (i := 3) nd rfl (Or.inl rfl) (qe_div (qe_vb 3 (pe_var (i := 3) rfl (Or.inl rfl) (by decide) (by decide))) qe_int))))
  (qss_one (qs_app (k := 2) rfl (pe_var (i := 2) rfl (Or.inl rfl) (by decide) (by decide)) (qe_mod (qe_ty call_int1 does_intc rfl n_int (by decide +kernel) (qa_cons (qe_div (qe_vb 4 (pe_var (i := 4) rfl (Or.inl rfl) (by decide) (by decide))) qe_int) qa_nil)) qe_int) (pe_bm PySem.F.plainAttrs_list PySem.F.slot_list_append PySem.F.type_list_append mt_append (pe_var (i := 2) rfl (Or.inl rfl) (by decide) (by decide)) (pa_cons (qe_mod (qe_ty call_int1 does_intc rfl n_int (by decide +kernel) (qa_cons (qe_div (qe_vb 4 (pe_var (i := 4) rfl (Or.inl rfl) (by decide) (by decide))) qe_int) qa_nil)) qe_int) pa_nil)))))))))
  (qss_one (qs_ret (qe_vm 2 (pe_var (i := 2) rfl (Or.inl rfl) (by decide) (by decide))))))))))
theorem b__law_numbers (hd__law_row : DefOk ⟨K, mg⟩ P w base 1 "_law_row" ["_law_cell", "_law_many"] g__law_row)
    (n_len : mg "len" = none)
    (n_max : mg "max" = none) : BodyOk P w K mg base 1 N__law_numbers "_law_numbers" (defScope s__law_numbers) (defBody s__law_numbers) m__law_numbers := by
  intro f cdv A outer s H E hr
  have ft := fit_cx (P := P) (w := w) (K := K) (mg := mg) (base := base) (N := N__law_numbers) (qual := "_law_numbers") (scope := defScope s__law_numbers) (f := f) (cd := cdv) (A := A) (outer := outer) (s := s) (H := H) (E := E)
  have own := own_cx (P := P) (w := w) (K := K) (mg := mg) (base := base) (N := N__law_numbers) (qual := "_law_numbers") (scope := defScope s__law_numbers) (f := f) (cd := cdv) (A := A) (outer := outer) (s := s) (H := H) (E := E)
  have nd := sc__law_numbers.nd
  exact (qss_cons (qs_set (i := 2) nd rfl (Or.inl rfl) (qe_fz (qe_sl rfl (qe_vb 0 (pe_var (i := 0) rfl (Or.inl rfl) (by decide) (by decide))) qo_none (qo_some qe_int))))
  (qss_cons (qs_set (i := 3) nd rfl (Or.inl rfl) (qe_add rfl qe_int (qe_div (qe_vb 1 (pe_var (i := 1) rfl (Or.inl rfl) (by decide) (by decide))) (qe_b (call_max2 rfl) does_max rfl n_max (by decide +kernel) (qa_cons qe_int (qa_cons (qe_b call_len does_len rfl n_len (by decide +kernel) (qa_cons (qe_vb 2 (pe_var (i := 2) rfl (Or.inl rfl) (by decide) (by decide))) qa_nil)) qa_nil))))))
  (qss_cons (qs_set (i := 4) nd rfl (Or.inl rfl) (qe_lst qa_nil))
  (qss_cons (qs_for (f := (tgName 5)) tg_name own rfl (qi_it rfl (qe_vb 2 (pe_var (i := 2) rfl (Or.inl rfl) (by decide) (by decide)))) (pg_name (i := 5) nd rfl (Or.inl rfl))
  (qss_kl [5, 6] (qss_one (qs_for (f := (tgName 6)) tg_name own rfl (qi_it rfl (qe_fz (qe_call hd__law_row ft hr (by decide) rfl (qa_cons (qe_vb 5 (pe_var (i := 5) rfl (Or.inl rfl) (by decide) (by decide))) (qa_cons (qe_vb 3 (pe_var (i := 3) rfl (Or.inl rfl) (by decide) (by decide))) qa_nil)) (lenC (lenC len0))))) (pg_name (i := 6) nd rfl (Or.inl rfl))
  (qss_kl [6] (qss_one (qs_app (k := 4) rfl (pe_var (i := 4) rfl (Or.inl rfl) (by decide) (by decide)) (qe_vb 6 (pe_var (i := 6) rfl (Or.inl rfl) (by decide) (by decide))) (pe_bm PySem.F.plainAttrs_list PySem.F.slot_list_append PySem.F.type_list_append mt_append (pe_var (i := 4) rfl (Or.inl rfl) (by decide) (by decide)) (pa_cons (qe_vb 6 (pe_var (i := 6) rfl (Or.inl rfl) (by decide) (by decide))) pa_nil)))))))))
  (qss_cons (qs_while (n := fuel0) own (qt_lt (qe_b call_len does_len rfl n_len (by decide +kernel) (qa_cons (qe_vb 4 (pe_var (i := 4) rfl (Or.inl rfl) (by decide) (by decide))) qa_nil)) (qe_vb 1 (pe_var (i := 1) rfl (Or.inl rfl) (by decide) (by decide))))
  (qss_one (qs_app (k := 4) rfl (pe_var (i := 4) rfl (Or.inl rfl) (by decide) (by decide)) qe_int (pe_bm PySem.F.plainAttrs_list PySem.F.slot_list_append PySem.F.type_list_append mt_append (pe_var (i := 4) rfl (Or.inl rfl) (by decide) (by decide)) (pa_cons qe_int pa_nil)))))
  (qss_one (qs_ret (qe_sl rfl (qe_vb 4 (pe_var (i := 4) rfl (Or.inl rfl) (by decide) (by decide))) qo_none (qo_some (qe_vb 1 (pe_var (i := 1) rfl (Or.inl rfl) (by decide) (by decide))))))))))))
theorem b__law_minus (hd__law_digits : DefOk ⟨K, mg⟩ P w base 1 "_law_digits" ["_law_prime", "_law_size", "_law_a"] g__law_digits)
    (hd__law_element : DefOk ⟨K, mg⟩ P w base 1 "_law_element" ["_law_prime", "_law_digits_here"] g__law_element)
    (n_int : mg "int" = none)
    (n_len : mg "len" = none)
    (n_range : mg "range" = none) : BodyOk P w K mg base 1 N__law_minus "_law_minus" (defScope s__law_minus) (defBody s__law_minus) m__law_minus := by
  intro f cdv A outer s H E hr
  have ft := fit_cx (P := P) (w := w) (K := K) (mg := mg) (base := base) (N := N__law_minus) (qual := "_law_minus") (scope := defScope s__law_minus) (f := f) (cd := cdv) (A := A) (outer := outer) (s := s) (H := H) (E := E)
  have own := own_cx (P := P) (w := w) (K := K) (mg := mg) (base := base) (N := N__law_minus) (qual := "_law_minus") (scope := defScope s__law_minus) (f := f) (cd := cdv) (A := A) (outer := outer) (s := s) (H := H) (E := E)
  have nd := sc__law_minus.nd
  exact (qss_cons (qs_set (i := 4) nd rfl (Or.inl rfl) (qe_sub (qe_b call_len does_len rfl n_len (by decide +kernel) (qa_cons (qe_vb 1 (pe_var (i := 1) rfl (Or.inl rfl) (by decide) (by decide))) qa_nil)) qe_int))
  (qss_cons (qs_set (i := 5) nd rfl (Or.inr rfl) (qe_fz (qe_call hd__law_digits ft hr (by decide) rfl (qa_cons (qe_vb 0 (pe_var (i := 0) rfl (Or.inr (Or.inl rfl)) (by decide) (by decide))) (qa_cons (qe_vb 4 (pe_var (i := 4) rfl (Or.inl rfl) (by decide) (by decide))) (qa_cons (qe_vb 2 (pe_var (i := 2) rfl (Or.inl rfl) (by decide) (by decide))) qa_nil))) (lenC (lenC (lenC len0))))))
  (qss_cons (qs_set (i := 6) nd rfl (Or.inr rfl) (qe_fz (qe_call hd__law_digits ft hr (by decide) rfl (qa_cons (qe_vb 0 (pe_var (i := 0) rfl (Or.inr (Or.inl rfl)) (by decide) (by decide))) (qa_cons (qe_vb 4 (pe_var (i := 4) rfl (Or.inl rfl) (by decide) (by decide))) (qa_cons (qe_vb 3 (pe_var (i := 3) rfl (Or.inl rfl) (by decide) (by decide))) qa_nil))) (lenC (lenC (lenC len0))))))
  (qss_one (qs_ret (qe_call hd__law_element ft hr (by decide) rfl (qa_cons (qe_vb 0 (pe_var (i := 0) rfl (Or.inr (Or.inl rfl)) (by decide) (by decide))) (qa_cons (qe_fz (qe_comp (own := [("_law_k", 7)]) (f := (tgName 7)) tw_name rfl nd (qi_rng1 rfl n_range (qa_cons (qe_vb 4 (pe_var (i := 4) rfl (Or.inl rfl) (by decide) (by decide))) qa_nil)) (blkOk_by (own := [("_law_k", 7)]) (N := N__law_minus) (sc := defScope s__law_minus) (by decide +kernel)) (fun _ _ _ _ _ => (pg_name (i := 7) nd rfl (Or.inl rfl))) (fun _ _ _ _ _ => qts_nil) (fun _ _ _ _ _ => (qe_mod (qe_ty call_int1 does_intc rfl n_int (by decide +kernel) (qa_cons (qe_sub (qe_ix rfl (qe_vb 5 (pe_var (i := 5) rfl (Or.inr (Or.inl rfl)) (by decide) (by decide))) (qe_vb 7 (pe_var (i := 7) rfl (Or.inl rfl) (by decide) (by decide))) (fun _ _ => rfl)) (qe_ix rfl (qe_vb 6 (pe_var (i := 6) rfl (Or.inr (Or.inl rfl)) (by decide) (by decide))) (qe_vb 7 (pe_var (i := 7) rfl (Or.inl rfl) (by decide) (by decide))) (fun _ _ => rfl))) qa_nil)) (qe_vb 0 (pe_var (i := 0) rfl (Or.inr (Or.inl rfl)) (by decide) (by decide))))))) qa_nil)) (lenC (lenC len0))))))))
theorem b__law_poly_minus (hd__law_minus : DefOk ⟨K, mg⟩ P w base 2 "_law_minus" ["_law_prime", "_law_modulus", "_law_a", "_law_b"] g__law_minus)
    (hd__law_trim : DefOk ⟨K, mg⟩ P w base 1 "_law_trim" ["_law_items"] g__law_trim)
    (n_len : mg "len" = none)
    (n_list : mg "list" = none)
    (n_max : mg "max" = none)
    (n_range : mg "range" = none) : BodyOk P w K mg base 2 N__law_poly_minus "_law_poly_minus" (defScope s__law_poly_minus) (defBody s__law_poly_minus) m__law_poly_minus := by
  intro f cdv A outer s H E hr
  have ft := fit_cx (P := P) (w := w) (K := K) (mg := mg) (base := base) (N := N__law_poly_minus) (qual := "_law_poly_minus") (scope := defScope s__law_poly_minus) (f := f) (cd := cdv) (A := A) (outer := outer) (s := s) (H := H) (E := E)
  have own := own_cx (P := P) (w := w) (K := K) (mg := mg) (base := base) (N := N__law_poly_minus) (qual := "_law_poly_minus") (scope := defScope s__law_poly_minus) (f := f) (cd := cdv) (A := A) (outer := outer) (s := s) (H := H) (E := E)
  have nd := sc__law_poly_minus.nd
  exact (qss_cons (qs_set (i := 4) nd rfl (Or.inl rfl) (qe_b (call_max2 rfl) does_max rfl n_max (by decide +kernel) (qa_cons (qe_b call_len does_len rfl n_len (by decide +kernel) (qa_cons (qe_vb 2 (pe_var (i := 2) rfl (Or.inl rfl) (by decide) (by decide))) qa_nil)) (qa_cons (qe_b call_len does_len rfl n_len (by decide +kernel) (qa_cons (qe_vb 3 (pe_var (i := 3) rfl (Or.inl rfl) (by decide) (by decide))) qa_nil)) qa_nil))))
  (qss_cons (qs_set (i := 5) nd rfl (Or.inr rfl) (qe_fz (qe_add rfl (qe_ty call_list_of does_list rfl n_list (by decide +kernel) (qa_cons (qe_vb 2 (pe_var (i := 2) rfl (Or.inl rfl) (by decide) (by decide))) qa_nil)) (qe_mul (qe_lst (qa_cons qe_int qa_nil)) (qe_sub (qe_vb 4 (pe_var (i := 4) rfl (Or.inl rfl) (by decide) (by decide))) (qe_b call_len does_len rfl n_len (by decide +kernel) (qa_cons (qe_vb 2 (pe_var (i := 2) rfl (Or.inl rfl) (by decide) (by decide))) qa_nil)))))))
  (qss_cons (qs_set (i := 6) nd rfl (Or.inr rfl) (qe_fz (qe_add rfl (qe_ty call_list_of does_list rfl n_list (by decide +kernel) (qa_cons (qe_vb 3 (pe_var (i := 3) rfl (Or.inl rfl) (by decide) (by decide))) qa_nil)) (qe_mul (qe_lst (qa_cons qe_int qa_nil)) (qe_sub (qe_vb 4 (pe_var (i := 4) rfl (Or.inl rfl) (by decide) (by decide))) (qe_b call_len does_len rfl n_len (by decide +kernel) (qa_cons (qe_vb 3 (pe_var (i := 3) rfl (Or.inl rfl) (by decide) (by decide))) qa_nil)))))))
  (qss_one (qs_ret (qe_call hd__law_trim ft hr (by decide) rfl (qa_cons (qe_fz (qe_comp (own := [("_law_k", 7)]) (f := (tgName 7)) tw_name rfl nd (qi_rng1 rfl n_range (qa_cons (qe_vb 4 (pe_var (i := 4) rfl (Or.inl rfl) (by decide) (by decide))) qa_nil)) (blkOk_by (own := [("_law_k", 7)]) (N := N__law_poly_minus) (sc := defScope s__law_poly_minus) (by decide +kernel)) (fun _ _ _ _ _ => (pg_name (i := 7) nd rfl (Or.inl rfl))) (fun _ _ _ _ _ => qts_nil) (fun _ _ _ _ _ => (qe_fz (qe_call hd__law_minus ft.blk hr (by decide) rfl (qa_cons (qe_vb 0 (pe_var (i := 0) rfl (Or.inr (Or.inl rfl)) (by decide) (by decide))) (qa_cons (qe_vb 1 (pe_var (i := 1) rfl (Or.inr (Or.inl rfl)) (by decide) (by decide))) (qa_cons (qe_ix rfl (qe_vb 5 (pe_var (i := 5) rfl (Or.inr (Or.inl rfl)) (by decide) (by decide))) (qe_vb 7 (pe_var (i := 7) rfl (Or.inl rfl) (by decide) (by decide))) (fun _ _ => rfl)) (qa_cons (qe_ix rfl (qe_vb 6 (pe_var (i := 6) rfl (Or.inr (Or.inl rfl)) (by decide) (by decide))) (qe_vb 7 (pe_var (i := 7) rfl (Or.inl rfl) (by decide) (by decide))) (fun _ _ => rfl)) qa_nil)))) (lenC (lenC (lenC (lenC len0))))))))) qa_nil) (lenC len0)))))))
theorem b__law_poly_times (hd__law_plus : DefOk ⟨K, mg⟩ P w base 2 "_law_plus" ["_law_prime", "_law_modulus", "_law_a", "_law_b"] g__law_plus)
    (hd__law_times : DefOk ⟨K, mg⟩ P w base 2 "_law_times" ["_law_prime", "_law_modulus", "_law_a", "_law_b"] g__law_times)
    (hd__law_trim : DefOk ⟨K, mg⟩ P w base 1 "_law_trim" ["_law_items"] g__law_trim)
    (n_len : mg "len" = none)
    (n_range : mg "range" = none) : BodyOk P w K mg base 2 N__law_poly_times "_law_poly_times" (defScope s__law_poly_times) (defBody s__law_poly_times) m__law_poly_times := by
  intro f cdv A outer s H E hr
  have ft := fit_cx (P := P) (w := w) (K := K) (mg := mg) (base := base) (N := N__law_poly_times) (qual := "_law_poly_times") (scope := defScope s__law_poly_times) (f := f) (cd := cdv) (A := A) (outer := outer) (s := s) (H := H) (E := E)
  have own := own_cx (P := P) (w := w) (K := K) (mg := mg) (base := base) (N := N__law_poly_times) (qual := "_law_poly_times") (scope := defScope s__law_poly_times) (f := f) (cd := cdv) (A := A) (outer := outer) (s := s) (H := H) (E := E)
  have nd := sc__law_poly_times.nd
  exact (qss_cons (qs_if (PW.pt (qw_or (qt_eq rfl hr.units (qe_b call_len does_len rfl n_len (by decide +kernel) (qa_cons (qe_vb 2 (pe_var (i := 2) rfl (Or.inl rfl) (by decide) (by decide))) qa_nil)) qe_int) (qw_or1 (qt_eq rfl hr.units (qe_b call_len does_len rfl n_len (by decide +kernel) (qa_cons (qe_vb 3 (pe_var (i := 3) rfl (Or.inl rfl) (by decide) (by decide))) qa_nil)) qe_int))))
  (qss_one (qs_ret (qe_lst qa_nil)))
  qss_nil)
  (qss_cons (qs_set (i := 4) nd rfl (Or.inl rfl) (qe_mul (qe_lst (qa_cons qe_int qa_nil)) (qe_sub (qe_add rfl (qe_b call_len does_len rfl n_len (by decide +kernel) (qa_cons (qe_vb 2 (pe_var (i := 2) rfl (Or.inl rfl) (by decide) (by decide))) qa_nil)) (qe_b call_len does_len rfl n_len (by decide +kernel) (qa_cons (qe_vb 3 (pe_var (i := 3) rfl (Or.inl rfl) (by decide) (by decide))) qa_nil))) qe_int)))
  (qss_cons (qs_for (f := (tgName 5)) tg_name own rfl (qi_rng1 rfl n_range (qa_cons (qe_b call_len does_len rfl n_len (by decide +kernel) (qa_cons (qe_vb 2 (pe_var (i := 2) rfl (Or.inl rfl) (by decide) (by decide))) qa_nil)) qa_nil)) (pg_name (i := 5) nd rfl (Or.inl rfl))
  (qss_kl [5, 6] (qss_one (qs_for (f := (tgName 6)) tg_name own rfl (qi_rng1 rfl n_range (qa_cons (qe_b call_len does_len rfl n_len (by decide +kernel) (qa_cons (qe_vb 3 (pe_var (i := 3) rfl (Or.inl rfl) (by decide) (by decide))) qa_nil)) qa_nil)) (pg_name (i := 6) nd rfl (Or.inl rfl))
  (qss_kl [6] (qss_one (qs_setIx (k := 4) (pe_var (i := 4) rfl (Or.inl rfl) (by decide) (by decide)) (qe_add rfl (qe_vb 5 (pe_var (i := 5) rfl (Or.inl rfl) (by decide) (by decide))) (qe_vb 6 (pe_var (i := 6) rfl (Or.inl rfl) (by decide) (by decide)))) (qe_fz (qe_call hd__law_plus ft hr (by decide) rfl (qa_cons (qe_vb 0 (pe_var (i := 0) rfl (Or.inl rfl) (by decide) (by decide))) (qa_cons (qe_vb 1 (pe_var (i := 1) rfl (Or.inl rfl) (by decide) (by decide))) (qa_cons (qe_ix rfl (qe_vb 4 (pe_var (i := 4) rfl (Or.inl rfl) (by decide) (by decide))) (qe_add rfl (qe_vb 5 (pe_var (i := 5) rfl (Or.inl rfl) (by decide) (by decide))) (qe_vb 6 (pe_var (i := 6) rfl (Or.inl rfl) (by decide) (by decide)))) (fun _ _ => rfl)) (qa_cons (qe_fz (qe_call hd__law_times ft hr (by decide) rfl (qa_cons (qe_vb 0 (pe_var (i := 0) rfl (Or.inl rfl) (by decide) (by decide))) (qa_cons (qe_vb 1 (pe_var (i := 1) rfl (Or.inl rfl) (by decide) (by decide))) (qa_cons (qe_ix rfl (qe_vb 2 (pe_var (i := 2) rfl (Or.inl rfl) (by decide) (by decide))) (qe_vb 5 (pe_var (i := 5) rfl (Or.inl rfl) (by decide) (by decide))) (fun _ _ => rfl)) (qa_cons (qe_ix rfl (qe_vb 3 (pe_var (i := 3) rfl (Or.inl rfl) (by decide) (by decide))) (qe_vb 6 (pe_var (i := 6) rfl (Or.inl rfl) (by decide) (by decide))) (fun _ _ => rfl)) qa_nil)))) (lenC (lenC (lenC (lenC len0)))))) qa_nil)))) (lenC (lenC (lenC (lenC len0)))))))))))))
  (qss_one (qs_ret (qe_call hd__law_trim ft hr (by decide) rfl (qa_cons (qe_vf 4 (pe_var (i := 4) rfl (Or.inl rfl) (by decide) (by decide))) qa_nil) (lenC len0)))))))
theorem b_poly_scale (hm_Field_times : MethOk ⟨K, mg⟩ P w base 3 c_Field "times" ["self", "a", "b"] g_Field_times)
    (hd_poly_trim : DefOk ⟨K, mg⟩ P w base 1 "poly_trim" ["items"] g_poly_trim) : BodyOk P w K mg base 3 N_poly_scale "poly_scale" (defScope s_poly_scale) (defBody s_poly_scale) m_poly_scale := by
  intro f cdv A outer s H E hr
  have ft := fit_cx (P := P) (w := w) (K := K) (mg := mg) (base := base) (N := N_poly_scale) (qual := "poly_scale") (scope := defScope s_poly_scale) (f := f) (cd := cdv) (A := A) (outer := outer) (s := s) (H := H) (E := E)
  have own := own_cx (P := P) (w := w) (K := K) (mg := mg) (base := base) (N := N_poly_scale) (qual := "poly_scale") (scope := defScope s_poly_scale) (f := f) (cd := cdv) (A := A) (outer := outer) (s := s) (H := H) (E := E)
  have nd := sc_poly_scale.nd
  exact (qss_one (qs_ret (qe_call hd_poly_trim ft hr (by decide) rfl (qa_cons (qe_fz (qe_comp (own := [("item", 3)]) (f := (tgName 3)) tw_name rfl nd (qi_it rfl (qe_vb 1 (pe_var (i := 1) rfl (Or.inl rfl) (by decide) (by decide)))) (blkOk_by (own := [("item", 3)]) (N := N_poly_scale) (sc := defScope s_poly_scale) (by decide +kernel)) (fun _ _ _ _ _ => (pg_name (i := 3) nd rfl (Or.inl rfl))) (fun _ _ _ _ _ => qts_nil) (fun _ _ _ _ _ => (qe_fz (qe_meth hm_Field_times ft.blk hr (by decide) (qe_vb 0 (pe_var (i := 0) rfl (Or.inr (Or.inl rfl)) (by decide) (by decide))) (qa_cons (qe_vb 3 (pe_var (i := 3) rfl (Or.inl rfl) (by decide) (by decide))) (qa_cons (qe_vb 2 (pe_var (i := 2) rfl (Or.inr (Or.inl rfl)) (by decide) (by decide))) qa_nil)) (lenC (lenC len0))))))) qa_nil) (lenC len0))))
theorem b_Field_negative (hm_Field_digits : MethOk ⟨K, mg⟩ P w base 2 c_Field "digits" ["self", "a"] g_Field_digits)
    (hm_Field_element : MethOk ⟨K, mg⟩ P w base 1 c_Field "element" ["self", "digits"] g_Field_element)
    (hc_Field : ClsOk ⟨K, mg⟩ c_Field) : BodyOk P w K mg base 2 N_Field_negative "Field.negative" (defScope s_Field_negative) (defBody s_Field_negative) m_Field_negative := by
  intro f cdv A outer s H E hr
  have ft := fit_cx (P := P) (w := w) (K := K) (mg := mg) (base := base) (N := N_Field_negative) (qual := "Field.negative") (scope := defScope s_Field_negative) (f := f) (cd := cdv) (A := A) (outer := outer) (s := s) (H := H) (E := E)
  have own := own_cx (P := P) (w := w) (K := K) (mg := mg) (base := base) (N := N_Field_negative) (qual := "Field.negative") (scope := defScope s_Field_negative) (f := f) (cd := cdv) (A := A) (outer := outer) (s := s) (H := H) (E := E)
  have nd := sc_Field_negative.nd
  exact (qss_one (qs_ret (qe_meth hm_Field_element ft hr (by decide) (qe_vb 0 (pe_var (i := 0) rfl (Or.inr (Or.inl rfl)) (by decide) (by decide))) (qa_cons (qe_fz (qe_comp (own := [("digit", 2)]) (f := (tgName 2)) tw_name rfl nd (qi_it rfl (qe_fz (qe_meth hm_Field_digits ft hr (by decide) (qe_vb 0 (pe_var (i := 0) rfl (Or.inr (Or.inl rfl)) (by decide) (by decide))) (qa_cons (qe_vb 1 (pe_var (i := 1) rfl (Or.inl rfl) (by decide) (by decide))) qa_nil) (lenC len0)))) (blkOk_by (own := [("digit", 2)]) (N := N_Field_negative) (sc := defScope s_Field_negative) (by decide +kernel)) (fun _ _ _ _ _ => (pg_name (i := 2) nd rfl (Or.inl rfl))) (fun _ _ _ _ _ => qts_nil) (fun _ _ _ _ _ => (qe_mod (qe_sub qe_int (qe_vb 2 (pe_var (i := 2) rfl (Or.inl rfl) (by decide) (by decide)))) (qe_fld (c := c_Field) (k := 0) rfl hc_Field rfl (qe_vb 0 (pe_var (i := 0) rfl (Or.inr (Or.inl rfl)) (by decide) (by decide))) rfl))))) qa_nil) (lenC len0))))
theorem b_Field_minus (hm_Field_negative : MethOk ⟨K, mg⟩ P w base 3 c_Field "negative" ["self", "a"] g_Field_negative)
    (hm_Field_plus : MethOk ⟨K, mg⟩ P w base 3 c_Field "plus" ["self", "a", "b"] g_Field_plus) : BodyOk P w K mg base 3 N_Field_minus "Field.minus" (defScope s_Field_minus) (defBody s_Field_minus) m_Field_minus := by
  intro f cdv A outer s H E hr
  have ft := fit_cx (P := P) (w := w) (K := K) (mg := mg) (base := base) (N := N_Field_minus) (qual := "Field.minus") (scope := defScope s_Field_minus) (f := f) (cd := cdv) (A := A) (outer := outer) (s := s) (H := H) (E := E)
  have own := own_cx (P := P) (w := w) (K := K) (mg := mg) (base := base) (N := N_Field_minus) (qual := "Field.minus") (scope := defScope s_Field_minus) (f := f) (cd := cdv) (A := A) (outer := outer) (s := s) (H := H) (E := E)
  have nd := sc_Field_minus.nd
  exact (qss_one (qs_ret (qe_meth hm_Field_plus ft hr (by decide) (qe_vb 0 (pe_var (i := 0) rfl (Or.inl rfl) (by decide) (by decide))) (qa_cons (qe_vb 1 (pe_var (i := 1) rfl (Or.inl rfl) (by decide) (by decide))) (qa_cons (qe_fz (qe_meth hm_Field_negative ft hr (by decide) (qe_vb 0 (pe_var (i := 0) rfl (Or.inl rfl) (by decide) (by decide))) (qa_cons (qe_vb 2 (pe_var (i := 2) rfl (Or.inl rfl) (by decide) (by decide))) qa_nil) (lenC len0))) qa_nil)) (lenC (lenC len0)))))
theorem b_poly_subtract (hm_Field_minus : MethOk ⟨K, mg⟩ P w base 4 c_Field "minus" ["self", "a", "b"] g_Field_minus)
    (hd_coefficient : DefOk ⟨K, mg⟩ P w base 1 "coefficient" ["poly", "place"] g_coefficient)
    (hd_poly_trim : DefOk ⟨K, mg⟩ P w base 1 "poly_trim" ["items"] g_poly_trim)
    (n_len : mg "len" = none)
    (n_max : mg "max" = none)
    (n_range : mg "range" = none) : BodyOk P w K mg base 4 N_poly_subtract "poly_subtract" (defScope s_poly_subtract) (defBody s_poly_subtract) m_poly_subtract := by
  intro f cdv A outer s H E hr
  have ft := fit_cx (P := P) (w := w) (K := K) (mg := mg) (base := base) (N := N_poly_subtract) (qual := "poly_subtract") (scope := defScope s_poly_subtract) (f := f) (cd := cdv) (A := A) (outer := outer) (s := s) (H := H) (E := E)
  have own := own_cx (P := P) (w := w) (K := K) (mg := mg) (base := base) (N := N_poly_subtract) (qual := "poly_subtract") (scope := defScope s_poly_subtract) (f := f) (cd := cdv) (A := A) (outer := outer) (s := s) (H := H) (E := E)
  have nd := sc_poly_subtract.nd
  exact (qss_cons (qs_set (i := 3) nd rfl (Or.inl rfl) (qe_b (call_max2 rfl) does_max rfl n_max (by decide +kernel) (qa_cons (qe_b call_len does_len rfl n_len (by decide +kernel) (qa_cons (qe_vb 1 (pe_var (i := 1) rfl (Or.inr (Or.inl rfl)) (by decide) (by decide))) qa_nil)) (qa_cons (qe_b call_len does_len rfl n_len (by decide +kernel) (qa_cons (qe_vb 2 (pe_var (i := 2) rfl (Or.inr (Or.inl rfl)) (by decide) (by decide))) qa_nil)) qa_nil))))
  (qss_one (qs_ret (qe_call hd_poly_trim ft hr (by decide) rfl (qa_cons (qe_fz (qe_comp (own := [("k", 4)]) (f := (tgName 4)) tw_name rfl nd (qi_rng1 rfl n_range (qa_cons (qe_vb 3 (pe_var (i := 3) rfl (Or.inl rfl) (by decide) (by decide))) qa_nil)) (blkOk_by (own := [("k", 4)]) (N := N_poly_subtract) (sc := defScope s_poly_subtract) (by decide +kernel)) (fun _ _ _ _ _ => (pg_name (i := 4) nd rfl (Or.inl rfl))) (fun _ _ _ _ _ => qts_nil) (fun _ _ _ _ _ => (qe_fz (qe_meth hm_Field_minus ft.blk hr (by decide) (qe_vb 0 (pe_var (i := 0) rfl (Or.inr (Or.inl rfl)) (by decide) (by decide))) (qa_cons (qe_fz (qe_call hd_coefficient ft.blk hr (by decide) rfl (qa_cons (qe_vb 1 (pe_var (i := 1) rfl (Or.inr (Or.inl rfl)) (by decide) (by decide))) (qa_cons (qe_vb 4 (pe_var (i := 4) rfl (Or.inl rfl) (by decide) (by decide))) qa_nil)) (lenC (lenC len0)))) (qa_cons (qe_fz (qe_call hd_coefficient ft.blk hr (by decide) rfl (qa_cons (qe_vb 2 (pe_var (i := 2) rfl (Or.inr (Or.inl rfl)) (by decide) (by decide))) (qa_cons (qe_vb 4 (pe_var (i := 4) rfl (Or.inl rfl) (by decide) (by decide))) qa_nil)) (lenC (lenC len0)))) qa_nil)) (lenC (lenC len0))))))) qa_nil) (lenC len0)))))
theorem b__law_plain (hd__law_is_poly : DefOk ⟨K, mg⟩ P w base 1 "_law_is_poly" ["_law_actual", "_law_order"] g__law_is_poly)
    (hd__law_poly_minus : DefOk ⟨K, mg⟩ P w base 3 "_law_poly_minus" ["_law_prime", "_law_modulus", "_law_a", "_law_b"] g__law_poly_minus)
    (hd__law_poly_times : DefOk ⟨K, mg⟩ P w base 3 "_law_poly_times" ["_law_prime", "_law_modulus", "_law_a", "_law_b"] g__law_poly_times)
    (hd__law_trim : DefOk ⟨K, mg⟩ P w base 1 "_law_trim" ["_law_items"] g__law_trim)
    (hd_poly_add : DefOk ⟨K, mg⟩ P w base 4 "poly_add" ["field", "a", "b"] g_poly_add)
    (hd_poly_multiply : DefOk ⟨K, mg⟩ P w base 4 "poly_multiply" ["field", "a", "b"] g_poly_multiply)
    (hd_poly_scale : DefOk ⟨K, mg⟩ P w base 4 "poly_scale" ["field", "poly", "factor"] g_poly_scale)
    (hd_poly_subtract : DefOk ⟨K, mg⟩ P w base 5 "poly_subtract" ["field", "a", "b"] g_poly_subtract) : BodyOk P w K mg base 5 N__law_plain "_law_plain" (defScope s__law_plain) (defBody s__law_plain) m__law_plain := by
  intro f cdv A outer s H E hr
  have ft := fit_cx (P := P) (w := w) (K := K) (mg := mg) (base := base) (N := N__law_plain) (qual := "_law_plain") (scope := defScope s__law_plain) (f := f) (cd := cdv) (A := A) (outer := outer) (s := s) (H := H) (E := E)
  have own := own_cx (P := P) (w := w) (K := K) (mg := mg) (base := base) (N := N__law_plain) (qual := "_law_plain") (scope := defScope s__law_plain) (f := f) (cd := cdv) (A := A) (outer := outer) (s := s) (H := H) (E := E)
  have nd := sc__law_plain.nd
  exact (qss_cons (qs_asg (f := (tgTup [5, 6, 7])) (tg_tup (is := [5, 6, 7])) (pg_tup rfl (pgs_cons (pg_name (i := 5) nd rfl (Or.inl rfl)) (pgs_cons (pg_name (i := 6) nd rfl (Or.inl rfl)) (pgs_cons (pg_name (i := 7) nd rfl (Or.inl rfl)) pgs_nil)))) (qe_vb 1 (pe_var (i := 1) rfl (Or.inl rfl) (by decide) (by decide))))
  (qss_cons (qs_set (i := 8) nd rfl (Or.inl rfl) (qe_fz (qe_call hd__law_poly_minus ft hr (by decide) rfl (qa_cons (qe_vb 5 (pe_var (i := 5) rfl (Or.inl rfl) (by decide) (by decide))) (qa_cons (qe_vb 6 (pe_var (i := 6) rfl (Or.inl rfl) (by decide) (by decide))) (qa_cons (qe_fz (qe_lst qa_nil)) (qa_cons (qe_vb 3 (pe_var (i := 3) rfl (Or.inl rfl) (by decide) (by decide))) qa_nil)))) (lenC (lenC (lenC (lenC len0)))))))
  (qss_cons (qs_set (i := 9) nd rfl (Or.inl rfl) (qe_fz (qe_call hd_poly_add ft hr (by decide) rfl (qa_cons (qe_vb 0 (pe_var (i := 0) rfl (Or.inl rfl) (by decide) (by decide))) (qa_cons (qe_vb 2 (pe_var (i := 2) rfl (Or.inl rfl) (by decide) (by decide))) (qa_cons (qe_vb 3 (pe_var (i := 3) rfl (Or.inl rfl) (by decide) (by decide))) qa_nil))) (lenC (lenC (lenC len0))))))
  (qss_cons (qs_set (i := 10) nd rfl (Or.inl rfl) (qe_fz (qe_call hd_poly_subtract ft hr (by decide) rfl (qa_cons (qe_vb 0 (pe_var (i := 0) rfl (Or.inl rfl) (by decide) (by decide))) (qa_cons (qe_vb 2 (pe_var (i := 2) rfl (Or.inl rfl) (by decide) (by decide))) (qa_cons (qe_vb 3 (pe_var (i := 3) rfl (Or.inl rfl) (by decide) (by decide))) qa_nil))) (lenC (lenC (lenC len0))))))
  (qss_cons (qs_set (i := 11) nd rfl (Or.inl rfl) (qe_fz (qe_call hd_poly_scale ft hr (by decide) rfl (qa_cons (qe_vb 0 (pe_var (i := 0) rfl (Or.inl rfl) (by decide) (by decide))) (qa_cons (qe_vb 2 (pe_var (i := 2) rfl (Or.inl rfl) (by decide) (by decide))) (qa_cons (qe_vb 4 (pe_var (i := 4) rfl (Or.inl rfl) (by decide) (by decide))) qa_nil))) (lenC (lenC (lenC len0))))))
  (qss_cons (qs_set (i := 12) nd rfl (Or.inl rfl) (qe_fz (qe_call hd_poly_multiply ft hr (by decide) rfl (qa_cons (qe_vb 0 (pe_var (i := 0) rfl (Or.inl rfl) (by decide) (by decide))) (qa_cons (qe_vb 2 (pe_var (i := 2) rfl (Or.inl rfl) (by decide) (by decide))) (qa_cons (qe_vb 3 (pe_var (i := 3) rfl (Or.inl rfl) (by decide) (by decide))) qa_nil))) (lenC (lenC (lenC len0))))))
  (qss_cons (qs_for (f := (tgName 13)) tg_name own rfl (qi_it rfl (qe_fz (qe_lst (qa_cons (qe_vb 9 (pe_var (i := 9) rfl (Or.inl rfl) (by decide) (by decide))) (qa_cons (qe_vb 10 (pe_var (i := 10) rfl (Or.inl rfl) (by decide) (by decide))) (qa_cons (qe_vb 11 (pe_var (i := 11) rfl (Or.inl rfl) (by decide) (by decide))) (qa_cons (qe_vb 12 (pe_var (i := 12) rfl (Or.inl rfl) (by decide) (by decide))) qa_nil))))))) (pg_name (i := 13) nd rfl (Or.inl rfl))
  (qss_kl [13] (qss_one (qs_if (qt_not (qt_val (qe_call hd__law_is_poly ft hr (by decide) rfl (qa_cons (qe_vb 13 (pe_var (i := 13) rfl (Or.inl rfl) (by decide) (by decide))) (qa_cons (qe_vb 7 (pe_var (i := 7) rfl (Or.inl rfl) (by decide) (by decide))) qa_nil)) (lenC (lenC len0)))))
  (qss_one (qs_ret qe_bl))
  qss_nil))))
  (qss_cons (qs_if (PW.pt (qw_or (qt_ne rfl hr.units (qe_vb 9 (pe_var (i := 9) rfl (Or.inl rfl) (by decide) (by decide))) (qe_call hd__law_poly_minus ft hr (by decide) rfl (qa_cons (qe_vb 5 (pe_var (i := 5) rfl (Or.inl rfl) (by decide) (by decide))) (qa_cons (qe_vb 6 (pe_var (i := 6) rfl (Or.inl rfl) (by decide) (by decide))) (qa_cons (qe_vb 2 (pe_var (i := 2) rfl (Or.inl rfl) (by decide) (by decide))) (qa_cons (qe_vb 8 (pe_var (i := 8) rfl (Or.inl rfl) (by decide) (by decide))) qa_nil)))) (lenC (lenC (lenC (lenC len0)))))) (qw_or1 (qt_ne rfl hr.units (qe_vb 10 (pe_var (i := 10) rfl (Or.inl rfl) (by decide) (by decide))) (qe_call hd__law_poly_minus ft hr (by decide) rfl (qa_cons (qe_vb 5 (pe_var (i := 5) rfl (Or.inl rfl) (by decide) (by decide))) (qa_cons (qe_vb 6 (pe_var (i := 6) rfl (Or.inl rfl) (by decide) (by decide))) (qa_cons (qe_vb 2 (pe_var (i := 2) rfl (Or.inl rfl) (by decide) (by decide))) (qa_cons (qe_vb 3 (pe_var (i := 3) rfl (Or.inl rfl) (by decide) (by decide))) qa_nil)))) (lenC (lenC (lenC (lenC len0)))))))))
  (qss_one (qs_ret qe_bl))
  qss_nil)
  (qss_cons (qs_if (qt_ne rfl hr.units (qe_vb 11 (pe_var (i := 11) rfl (Or.inl rfl) (by decide) (by decide))) (qe_call hd__law_poly_times ft hr (by decide) rfl (qa_cons (qe_vb 5 (pe_var (i := 5) rfl (Or.inl rfl) (by decide) (by decide))) (qa_cons (qe_vb 6 (pe_var (i := 6) rfl (Or.inl rfl) (by decide) (by decide))) (qa_cons (qe_vb 2 (pe_var (i := 2) rfl (Or.inl rfl) (by decide) (by decide))) (qa_cons (qe_fz (qe_call hd__law_trim ft hr (by decide) rfl (qa_cons (qe_fz (qe_lst (qa_cons (qe_vb 4 (pe_var (i := 4) rfl (Or.inl rfl) (by decide) (by decide))) qa_nil))) qa_nil) (lenC len0))) qa_nil)))) (lenC (lenC (lenC (lenC len0))))))
  (qss_one (qs_ret qe_bl))
  qss_nil)
  (qss_one (qs_ret (qe_eq rfl hr.units (qe_vb 12 (pe_var (i := 12) rfl (Or.inl rfl) (by decide) (by decide))) (qe_call hd__law_poly_times ft hr (by decide) rfl (qa_cons (qe_vb 5 (pe_var (i := 5) rfl (Or.inl rfl) (by decide) (by decide))) (qa_cons (qe_vb 6 (pe_var (i := 6) rfl (Or.inl rfl) (by decide) (by decide))) (qa_cons (qe_vb 2 (pe_var (i := 2) rfl (Or.inl rfl) (by decide) (by decide))) (qa_cons (qe_vb 3 (pe_var (i := 3) rfl (Or.inl rfl) (by decide) (by decide))) qa_nil)))) (lenC (lenC (lenC (lenC len0)))))))))))))))))
theorem b__law_poly (hd__law_trim : DefOk ⟨K, mg⟩ P w base 1 "_law_trim" ["_law_items"] g__law_trim)
    (n_int : mg "int" = none)
    (n_range : mg "range" = none) : BodyOk P w K mg base 1 N__law_poly "_law_poly" (defScope s__law_poly) (defBody s__law_poly) m__law_poly := by
  intro f cdv A outer s H E hr
  have ft := fit_cx (P := P) (w := w) (K := K) (mg := mg) (base := base) (N := N__law_poly) (qual := "_law_poly") (scope := defScope s__law_poly) (f := f) (cd := cdv) (A := A) (outer := outer) (s := s) (H := H) (E := E)
  have own := own_cx (P := P) (w := w) (K := K) (mg := mg) (base := base) (N := N__law_poly) (qual := "_law_poly") (scope := defScope s__law_poly) (f := f) (cd := cdv) (A := A) (outer := outer) (s := s) (H := H) (E := E)
  have nd := sc__law_poly.nd
  exact (qss_one (qs_ret (qe_call hd__law_trim ft hr (by decide) rfl (qa_cons (qe_fz (qe_comp (own := [("_law_k", 4)]) (f := (tgName 4)) tw_name rfl nd (qi_rng1 rfl n_range (qa_cons (qe_vb 2 (pe_var (i := 2) rfl (Or.inl rfl) (by decide) (by decide))) qa_nil)) (blkOk_by (own := [("_law_k", 4)]) (N := N__law_poly) (sc := defScope s__law_poly) (by decide +kernel)) (fun _ _ _ _ _ => (pg_name (i := 4) nd rfl (Or.inl rfl))) (fun _ _ _ _ _ => qts_nil) (fun _ _ _ _ _ => (qe_mod (qe_ty call_int1 does_intc rfl n_int (by decide +kernel) (qa_cons (qe_ix rfl (qe_vb 0 (pe_var (i := 0) rfl (Or.inr (Or.inl rfl)) (by decide) (by decide))) (qe_add rfl (qe_vb 1 (pe_var (i := 1) rfl (Or.inr (Or.inl rfl)) (by decide) (by decide))) (qe_vb 4 (pe_var (i := 4) rfl (Or.inl rfl) (by decide) (by decide)))) (fun _ _ => rfl)) qa_nil)) (qe_vb 3 (pe_var (i := 3) rfl (Or.inr (Or.inl rfl)) (by decide) (by decide))))))) qa_nil) (lenC len0))))
theorem b_degree_of (n_len : mg "len" = none) : BodyOk P w K mg base 0 N_degree_of "degree_of" (defScope s_degree_of) (defBody s_degree_of) m_degree_of := by
  intro f cdv A outer s H E hr
  have ft := fit_cx (P := P) (w := w) (K := K) (mg := mg) (base := base) (N := N_degree_of) (qual := "degree_of") (scope := defScope s_degree_of) (f := f) (cd := cdv) (A := A) (outer := outer) (s := s) (H := H) (E := E)
  have own := own_cx (P := P) (w := w) (K := K) (mg := mg) (base := base) (N := N_degree_of) (qual := "degree_of") (scope := defScope s_degree_of) (f := f) (cd := cdv) (A := A) (outer := outer) (s := s) (H := H) (E := E)
  have nd := sc_degree_of.nd
  exact (qss_one (qs_ret (qe_sub (qe_b call_len does_len rfl n_len (by decide +kernel) (qa_cons (qe_vb 0 (pe_var (i := 0) rfl (Or.inl rfl) (by decide) (by decide))) qa_nil)) qe_int)))
theorem b_int_power (n_range : mg "range" = none) : BodyOk P w K mg base 0 N_int_power "int_power" (defScope s_int_power) (defBody s_int_power) m_int_power := by
  intro f cdv A outer s H E hr
  have ft := fit_cx (P := P) (w := w) (K := K) (mg := mg) (base := base) (N := N_int_power) (qual := "int_power") (scope := defScope s_int_power) (f := f) (cd := cdv) (A := A) (outer := outer) (s := s) (H := H) (E := E)
  have own := own_cx (P := P) (w := w) (K := K) (mg := mg) (base := base) (N := N_int_power) (qual := "int_power") (scope := defScope s_int_power) (f := f) (cd := cdv) (A := A) (outer := outer) (s := s) (H := H) (E := E)
  have nd := sc_int_power.nd
  exact (qss_cons (qs_set (i := 2) nd rfl (Or.inl rfl) qe_int)
  (qss_cons (qs_for (f := (tgName 3)) tg_name own rfl (qi_rng1 rfl n_range (qa_cons (qe_vb 1 (pe_var (i := 1) rfl (Or.inl rfl) (by decide) (by decide))) qa_nil)) (pg_name (i := 3) nd rfl (Or.inl rfl))
  (qss_kl [3] (qss_one (qs_set (i := 2) nd rfl (Or.inl rfl) (qe_mul (qe_vb 2 (pe_var (i := 2) rfl (Or.inl rfl) (by decide) (by decide))) (qe_vb 0 (pe_var (i := 0) rfl (Or.inl rfl) (by decide) (by decide))))))))
  (qss_one (qs_ret (qe_vm 2 (pe_var (i := 2) rfl (Or.inl rfl) (by decide) (by decide)))))))
theorem b_is_irreducible (hd_base_digits : DefOk ⟨K, mg⟩ P w base 1 "base_digits" ["n", "base", "size"] g_base_digits)
    (hd_int_power : DefOk ⟨K, mg⟩ P w base 1 "int_power" ["base", "exponent"] g_int_power)
    (hd_integer_remainder : DefOk ⟨K, mg⟩ P w base 1 "integer_remainder" ["prime", "items", "divisor"] g_integer_remainder)
    (n_len : mg "len" = none)
    (n_range : mg "range" = none) : BodyOk P w K mg base 1 N_is_irreducible "is_irreducible" (defScope s_is_irreducible) (defBody s_is_irreducible) m_is_irreducible := by
  intro f cdv A outer s H E hr
  have ft := fit_cx (P := P) (w := w) (K := K) (mg := mg) (base := base) (N := N_is_irreducible) (qual := "is_irreducible") (scope := defScope s_is_irreducible) (f := f) (cd := cdv) (A := A) (outer := outer) (s := s) (H := H) (E := E)
  have own := own_cx (P := P) (w := w) (K := K) (mg := mg) (base := base) (N := N_is_irreducible) (qual := "is_irreducible") (scope := defScope s_is_irreducible) (f := f) (cd := cdv) (A := A) (outer := outer) (s := s) (H := H) (E := E)
  have nd := sc_is_irreducible.nd
  exact (qss_cons (qs_for (f := (tgName 2)) tg_name own rfl (qi_rng2 rfl n_range (qa_cons qe_int (qa_cons (qe_sub (qe_b call_len does_len rfl n_len (by decide +kernel) (qa_cons (qe_vb 1 (pe_var (i := 1) rfl (Or.inl rfl) (by decide) (by decide))) qa_nil)) qe_int) qa_nil))) (pg_name (i := 2) nd rfl (Or.inl rfl))
  (qss_kl [2, 3, 4, 5] (qss_one (qs_for (f := (tgName 3)) tg_name own rfl (qi_rng1 rfl n_range (qa_cons (qe_call hd_int_power ft hr (by decide) rfl (qa_cons (qe_vb 0 (pe_var (i := 0) rfl (Or.inl rfl) (by decide) (by decide))) (qa_cons (qe_vb 2 (pe_var (i := 2) rfl (Or.inl rfl) (by decide) (by decide))) qa_nil)) (lenC (lenC len0))) qa_nil)) (pg_name (i := 3) nd rfl (Or.inl rfl))
  (qss_kl [3, 4, 5] (qss_cons (qs_set (i := 4) nd rfl (Or.inl rfl) (qe_fz (qe_add rfl (qe_call hd_base_digits ft hr (by decide) rfl (qa_cons (qe_vb 3 (pe_var (i := 3) rfl (Or.inl rfl) (by decide) (by decide))) (qa_cons (qe_vb 0 (pe_var (i := 0) rfl (Or.inl rfl) (by decide) (by decide))) (qa_cons (qe_vb 2 (pe_var (i := 2) rfl (Or.inl rfl) (by decide) (by decide))) qa_nil))) (lenC (lenC (lenC len0)))) (qe_lst (qa_cons qe_int qa_nil)))))
  (qss_cons (qs_set (i := 5) nd rfl (Or.inl rfl) (qe_fz (qe_call hd_integer_remainder ft hr (by decide) rfl (qa_cons (qe_vb 0 (pe_var (i := 0) rfl (Or.inl rfl) (by decide) (by decide))) (qa_cons (qe_vb 1 (pe_var (i := 1) rfl (Or.inl rfl) (by decide) (by decide))) (qa_cons (qe_vb 4 (pe_var (i := 4) rfl (Or.inl rfl) (by decide) (by decide))) qa_nil))) (lenC (lenC (lenC len0))))))
  (qss_one (qs_if (qt_eq rfl hr.units (qe_vb 5 (pe_var (i := 5) rfl (Or.inl rfl) (by decide) (by decide))) (qe_mul (qe_lst (qa_cons qe_int qa_nil)) (qe_vb 2 (pe_var (i := 2) rfl (Or.inl rfl) (by decide) (by decide)))))
  (qss_one (qs_ret qe_bl))
  qss_nil)))))))))
  (qss_one (qs_ret qe_bl)))
theorem b_is_modulus (hd_int_power : DefOk ⟨K, mg⟩ P w base 1 "int_power" ["base", "exponent"] g_int_power)
    (hd_is_irreducible : DefOk ⟨K, mg⟩ P w base 2 "is_irreducible" ["prime", "modulus"] g_is_irreducible)
    (gi_LARGEST_ORDER : ∃ t, mg "LARGEST_ORDER" = some (.int 256 t))
    (n_len : mg "len" = none) : BodyOk P w K mg base 2 N_is_modulus "is_modulus" (defScope s_is_modulus) (defBody s_is_modulus) m_is_modulus := by
  intro f cdv A outer s H E hr
  have ft := fit_cx (P := P) (w := w) (K := K) (mg := mg) (base := base) (N := N_is_modulus) (qual := "is_modulus") (scope := defScope s_is_modulus) (f := f) (cd := cdv) (A := A) (outer := outer) (s := s) (H := H) (E := E)
  have own := own_cx (P := P) (w := w) (K := K) (mg := mg) (base := base) (N := N_is_modulus) (qual := "is_modulus") (scope := defScope s_is_modulus) (f := f) (cd := cdv) (A := A) (outer := outer) (s := s) (H := H) (E := E)
  have nd := sc_is_modulus.nd
  exact (qss_cons (qs_if (PW.pt (qw_or (qt_lt (qe_b call_len does_len rfl n_len (by decide +kernel) (qa_cons (qe_vb 1 (pe_var (i := 1) rfl (Or.inl rfl) (by decide) (by decide))) qa_nil)) qe_int) (qw_or (qt_gt (qe_b call_len does_len rfl n_len (by decide +kernel) (qa_cons (qe_vb 1 (pe_var (i := 1) rfl (Or.inl rfl) (by decide) (by decide))) qa_nil)) qe_int) (qw_or1 (qt_ne rfl hr.units (qe_ix rfl (qe_vb 1 (pe_var (i := 1) rfl (Or.inl rfl) (by decide) (by decide))) (qe_neg qe_int) (fun _ _ => rfl)) qe_int)))))
  (qss_one (qs_ret qe_bl))
  qss_nil)
  (qss_cons (qs_if (qt_gt (qe_call hd_int_power ft hr (by decide) rfl (qa_cons (qe_vb 0 (pe_var (i := 0) rfl (Or.inl rfl) (by decide) (by decide))) (qa_cons (qe_sub (qe_b call_len does_len rfl n_len (by decide +kernel) (qa_cons (qe_vb 1 (pe_var (i := 1) rfl (Or.inl rfl) (by decide) (by decide))) qa_nil)) qe_int) qa_nil)) (lenC (lenC len0))) (qe_gint ft rfl gi_LARGEST_ORDER))
  (qss_one (qs_ret qe_bl))
  qss_nil)
  (qss_cons (qs_for (f := (tgName 2)) tg_name own rfl (qi_it rfl (qe_vb 1 (pe_var (i := 1) rfl (Or.inl rfl) (by decide) (by decide)))) (pg_name (i := 2) nd rfl (Or.inl rfl))
  (qss_kl [2] (qss_one (qs_if (PW.pt (qw_or (qt_lt (qe_vb 2 (pe_var (i := 2) rfl (Or.inl rfl) (by decide) (by decide))) qe_int) (qw_or1 (qt_ge (qe_vb 2 (pe_var (i := 2) rfl (Or.inl rfl) (by decide) (by decide))) (qe_vb 0 (pe_var (i := 0) rfl (Or.inl rfl) (by decide) (by decide)))))))
  (qss_one (qs_ret qe_bl))
  qss_nil))))
  (qss_one (qs_ret (qe_call hd_is_irreducible ft hr (by decide) rfl (qa_cons (qe_vb 0 (pe_var (i := 0) rfl (Or.inl rfl) (by decide) (by decide))) (qa_cons (qe_vb 1 (pe_var (i := 1) rfl (Or.inl rfl) (by decide) (by decide))) qa_nil)) (lenC (lenC len0))))))))
theorem b_is_prime (n_range : mg "range" = none) : BodyOk P w K mg base 0 N_is_prime "is_prime" (defScope s_is_prime) (defBody s_is_prime) m_is_prime := by
  intro f cdv A outer s H E hr
  have ft := fit_cx (P := P) (w := w) (K := K) (mg := mg) (base := base) (N := N_is_prime) (qual := "is_prime") (scope := defScope s_is_prime) (f := f) (cd := cdv) (A := A) (outer := outer) (s := s) (H := H) (E := E)
  have own := own_cx (P := P) (w := w) (K := K) (mg := mg) (base := base) (N := N_is_prime) (qual := "is_prime") (scope := defScope s_is_prime) (f := f) (cd := cdv) (A := A) (outer := outer) (s := s) (H := H) (E := E)
  have nd := sc_is_prime.nd
  exact (qss_cons (qs_if (qt_lt (qe_vb 0 (pe_var (i := 0) rfl (Or.inl rfl) (by decide) (by decide))) qe_int)
  (qss_one (qs_ret qe_bl))
  qss_nil)
  (qss_cons (qs_for (f := (tgName 1)) tg_name own rfl (qi_rng2 rfl n_range (qa_cons qe_int (qa_cons (qe_vb 0 (pe_var (i := 0) rfl (Or.inl rfl) (by decide) (by decide))) qa_nil))) (pg_name (i := 1) nd rfl (Or.inl rfl))
  (qss_kl [1] (qss_one (qs_if (qt_eq rfl hr.units (qe_mod (qe_vb 0 (pe_var (i := 0) rfl (Or.inl rfl) (by decide) (by decide))) (qe_vb 1 (pe_var (i := 1) rfl (Or.inl rfl) (by decide) (by decide)))) qe_int)
  (qss_one (qs_ret qe_bl))
  qss_nil))))
  (qss_one (qs_ret qe_bl))))
theorem b_Field_init (hd_int_power : DefOk ⟨K, mg⟩ P w base 1 "int_power" ["base", "exponent"] g_int_power)
    (hd_is_modulus : DefOk ⟨K, mg⟩ P w base 3 "is_modulus" ["prime", "modulus"] g_is_modulus)
    (hd_is_prime : DefOk ⟨K, mg⟩ P w base 1 "is_prime" ["n"] g_is_prime)
    (hc_Field : ClsOk ⟨K, mg⟩ c_Field)
    (he_InvalidField : ExcOk ⟨K, mg⟩ "InvalidField")
    (gi_LARGEST_PRIME : ∃ t, mg "LARGEST_PRIME" = some (.int 31 t))
    (n_len : mg "len" = none) : BodyOk P w K mg base 3 N_Field_init "Field.__init__" (defScope s_Field_init) (defBody s_Field_init) m_Field_init := by
  intro f cdv A outer s H E hr
  have ft := fit_cx (P := P) (w := w) (K := K) (mg := mg) (base := base) (N := N_Field_init) (qual := "Field.__init__") (scope := defScope s_Field_init) (f := f) (cd := cdv) (A := A) (outer := outer) (s := s) (H := H) (E := E)
  have own := own_cx (P := P) (w := w) (K := K) (mg := mg) (base := base) (N := N_Field_init) (qual := "Field.__init__") (scope := defScope s_Field_init) (f := f) (cd := cdv) (A := A) (outer := outer) (s := s) (H := H) (E := E)
  have nd := sc_Field_init.nd
  exact (qss_cons (qs_if (PW.pt (qw_or (qt_gt (qe_vb 1 (pe_var (i := 1) rfl (Or.inl rfl) (by decide) (by decide))) (qe_gint ft rfl gi_LARGEST_PRIME)) (qw_or1 (qt_not (qt_val (qe_call hd_is_prime ft hr (by decide) rfl (qa_cons (qe_vb 1 (pe_var (i := 1) rfl (Or.inl rfl) (by decide) (by decide))) qa_nil) (lenC len0)))))))
  (qss_one (qs_raise he_InvalidField ft rfl rfl))
  qss_nil)
  (qss_cons (qs_if (qt_not (qt_val (qe_call hd_is_modulus ft hr (by decide) rfl (qa_cons (qe_vb 1 (pe_var (i := 1) rfl (Or.inl rfl) (by decide) (by decide))) (qa_cons (qe_vb 2 (pe_var (i := 2) rfl (Or.inl rfl) (by decide) (by decide))) qa_nil)) (lenC (lenC len0)))))
  (qss_one (qs_raise he_InvalidField ft rfl rfl))
  qss_nil)
  (qss_cons (qs_fld (cc := c_Field) (k := 0) (j := 0) rfl hc_Field rfl (pe_var (i := 0) rfl (Or.inl rfl) (by decide) (by decide)) (qe_vb 1 (pe_var (i := 1) rfl (Or.inl rfl) (by decide) (by decide))))
  (qss_cons (qs_fld (cc := c_Field) (k := 1) (j := 0) rfl hc_Field rfl (pe_var (i := 0) rfl (Or.inl rfl) (by decide) (by decide)) (qe_vb 2 (pe_var (i := 2) rfl (Or.inl rfl) (by decide) (by decide))))
  (qss_cons (qs_fld (cc := c_Field) (k := 2) (j := 0) rfl hc_Field rfl (pe_var (i := 0) rfl (Or.inl rfl) (by decide) (by decide)) (qe_sub (qe_b call_len does_len rfl n_len (by decide +kernel) (qa_cons (qe_vb 2 (pe_var (i := 2) rfl (Or.inl rfl) (by decide) (by decide))) qa_nil)) qe_int))
  (qss_one (qs_fld (cc := c_Field) (k := 3) (j := 0) rfl hc_Field rfl (pe_var (i := 0) rfl (Or.inl rfl) (by decide) (by decide)) (qe_fz (qe_call hd_int_power ft hr (by decide) rfl (qa_cons (qe_vb 1 (pe_var (i := 1) rfl (Or.inl rfl) (by decide) (by decide))) (qa_cons (qe_fld (c := c_Field) (k := 2) rfl hc_Field rfl (qe_vb 0 (pe_var (i := 0) rfl (Or.inl rfl) (by decide) (by decide))) rfl) qa_nil)) (lenC (lenC len0)))))))))))
theorem b_law (hd__law_count : DefOk ⟨K, mg⟩ P w base 1 "_law_count" ["_law_prime", "_law_modulus"] g__law_count)
    (hd__law_deep : DefOk ⟨K, mg⟩ P w base 5 "_law_deep" ["_law_field_here", "_law_base", "_law_a", "_law_b", "_law_point"] g__law_deep)
    (hd__law_field : DefOk ⟨K, mg⟩ P w base 1 "_law_field" ["_law_number"] g__law_field)
    (hd__law_is_poly : DefOk ⟨K, mg⟩ P w base 1 "_law_is_poly" ["_law_actual", "_law_order"] g__law_is_poly)
    (hd__law_numbers : DefOk ⟨K, mg⟩ P w base 2 "_law_numbers" ["_law_script", "_law_many"] g__law_numbers)
    (hd__law_plain : DefOk ⟨K, mg⟩ P w base 6 "_law_plain" ["_law_field_here", "_law_base", "_law_a", "_law_b", "_law_factor"] g__law_plain)
    (hd__law_poly : DefOk ⟨K, mg⟩ P w base 2 "_law_poly" ["_law_numbers_here", "_law_at", "_law_many", "_law_order"] g__law_poly)
    (hd__law_trim : DefOk ⟨K, mg⟩ P w base 1 "_law_trim" ["_law_items"] g__law_trim)
    (hd_degree_of : DefOk ⟨K, mg⟩ P w base 1 "degree_of" ["poly"] g_degree_of)
    (hd_poly_add : DefOk ⟨K, mg⟩ P w base 4 "poly_add" ["field", "a", "b"] g_poly_add)
    (hd_poly_multiply : DefOk ⟨K, mg⟩ P w base 4 "poly_multiply" ["field", "a", "b"] g_poly_multiply)
    (hd_poly_scale : DefOk ⟨K, mg⟩ P w base 4 "poly_scale" ["field", "poly", "factor"] g_poly_scale)
    (hd_poly_subtract : DefOk ⟨K, mg⟩ P w base 5 "poly_subtract" ["field", "a", "b"] g_poly_subtract)
    (hd_poly_trim : DefOk ⟨K, mg⟩ P w base 1 "poly_trim" ["items"] g_poly_trim)
    (hk_Field : MakeOk ⟨K, mg⟩ P w base 4 c_Field ["prime", "modulus"] [] g_Field_init)
    (n_int : mg "int" = none)
    (n_len : mg "len" = none)
    (n_list : mg "list" = none)
    (n_range : mg "range" = none) : BodyOk P w K mg base 6 N_law "law" (defScope s_law) (defBody s_law) m_law := by
  intro f cdv A outer s H E hr
  have ft := fit_cx (P := P) (w := w) (K := K) (mg := mg) (base := base) (N := N_law) (qual := "law") (scope := defScope s_law) (f := f) (cd := cdv) (A := A) (outer := outer) (s := s) (H := H) (E := E)
  have own := own_cx (P := P) (w := w) (K := K) (mg := mg) (base := base) (N := N_law) (qual := "law") (scope := defScope s_law) (f := f) (cd := cdv) (A := A) (outer := outer) (s := s) (H := H) (E := E)
  have nd := sc_law.nd
  exact (qss_cons (qs_set (i := 1) nd rfl (Or.inr rfl) (qe_fz (qe_call hd__law_numbers ft hr (by decide) rfl (qa_cons (qe_vb 0 (pe_var (i := 0) rfl (Or.inl rfl) (by decide) (by decide))) (qa_cons qe_int qa_nil)) (lenC (lenC len0)))))
  (qss_cons (qs_asg (f := (tgTup [2, 3])) (tg_tup (is := [2, 3])) (pg_tup rfl (pgs_cons (pg_name (i := 2) nd rfl (Or.inl rfl)) (pgs_cons (pg_name (i := 3) nd rfl (Or.inl rfl)) pgs_nil))) (qe_fz (qe_call hd__law_field ft hr (by decide) rfl (qa_cons (qe_ix rfl (qe_vb 1 (pe_var (i := 1) rfl (Or.inr (Or.inl rfl)) (by decide) (by decide))) qe_int (fun _ _ => rfl)) qa_nil) (lenC len0))))
  (qss_cons (qs_set (i := 4) nd rfl (Or.inr rfl) (qe_fz (qe_call hd__law_count ft hr (by decide) rfl (qa_cons (qe_vb 2 (pe_var (i := 2) rfl (Or.inl rfl) (by decide) (by decide))) (qa_cons (qe_vb 3 (pe_var (i := 3) rfl (Or.inl rfl) (by decide) (by decide))) qa_nil)) (lenC (lenC len0)))))
  (qss_cons (qs_set (i := 5) nd rfl (Or.inl rfl) (qe_tup (qa_cons (qe_vb 2 (pe_var (i := 2) rfl (Or.inl rfl) (by decide) (by decide))) (qa_cons (qe_vb 3 (pe_var (i := 3) rfl (Or.inl rfl) (by decide) (by decide))) (qa_cons (qe_vb 4 (pe_var (i := 4) rfl (Or.inr (Or.inl rfl)) (by decide) (by decide))) qa_nil)))))
  (qss_cons (qs_set (i := 6) nd rfl (Or.inl rfl) (qe_fz (qe_make (c := c_Field) hk_Field ft hr (by decide) rfl (qa_cons (qe_vb 2 (pe_var (i := 2) rfl (Or.inl rfl) (by decide) (by decide))) (qa_cons (qe_vb 3 (pe_var (i := 3) rfl (Or.inl rfl) (by decide) (by decide))) qa_nil)) (lenC (lenC len0)) (by rfl))))
  (qss_cons (qs_set (i := 7) nd rfl (Or.inl rfl) (qe_mod (qe_ty call_int1 does_intc rfl n_int (by decide +kernel) (qa_cons (qe_ix rfl (qe_vb 1 (pe_var (i := 1) rfl (Or.inr (Or.inl rfl)) (by decide) (by decide))) qe_int (fun _ _ => rfl)) qa_nil)) qe_int))
  (qss_cons (qs_if (qt_eq rfl hr.units (qe_mod (qe_ty call_int1 does_intc rfl n_int (by decide +kernel) (qa_cons (qe_div (qe_ix rfl (qe_vb 1 (pe_var (i := 1) rfl (Or.inr (Or.inl rfl)) (by decide) (by decide))) qe_int (fun _ _ => rfl)) qe_int) qa_nil)) qe_int) qe_int)
  (qss_one (qs_set (i := 7) nd rfl (Or.inl rfl) qe_int))
  qss_nil)
  (qss_cons (qs_set (i := 8) nd rfl (Or.inl rfl) (qe_fz (qe_add rfl (qe_comp (own := [("_law_k", 18)]) (f := (tgName 18)) tw_name rfl nd (qi_rng1 rfl n_range (qa_cons (qe_vb 7 (pe_var (i := 7) rfl (Or.inl rfl) (by decide) (by decide))) qa_nil)) (blkOk_by (own := [("_law_k", 18)]) (N := N_law) (sc := defScope s_law) (by decide +kernel)) (fun _ _ _ _ _ => (pg_name (i := 18) nd rfl (Or.inl rfl))) (fun _ _ _ _ _ => qts_nil) (fun _ _ _ _ _ => (qe_mod (qe_ty call_int1 does_intc rfl n_int (by decide +kernel) (qa_cons (qe_ix rfl (qe_vb 1 (pe_var (i := 1) rfl (Or.inr (Or.inl rfl)) (by decide) (by decide))) (qe_add rfl qe_int (qe_vb 18 (pe_var (i := 18) rfl (Or.inl rfl) (by decide) (by decide)))) (fun _ _ => rfl)) qa_nil)) (qe_vb 4 (pe_var (i := 4) rfl (Or.inr (Or.inl rfl)) (by decide) (by decide)))))) (qe_mul (qe_lst (qa_cons qe_int qa_nil)) (qe_mod (qe_ty call_int1 does_intc rfl n_int (by decide +kernel) (qa_cons (qe_ix rfl (qe_vb 1 (pe_var (i := 1) rfl (Or.inr (Or.inl rfl)) (by decide) (by decide))) qe_int (fun _ _ => rfl)) qa_nil)) qe_int)))))
  (qss_cons (qs_set (i := 9) nd rfl (Or.inl rfl) (qe_call hd_poly_trim ft hr (by decide) rfl (qa_cons (qe_vb 8 (pe_var (i := 8) rfl (Or.inl rfl) (by decide) (by decide))) qa_nil) (lenC len0)))
  (qss_cons (qs_if (PW.pt (qw_or (qt_not (qt_val (qe_call hd__law_is_poly ft hr (by decide) rfl (qa_cons (qe_vb 9 (pe_var (i := 9) rfl (Or.inl rfl) (by decide) (by decide))) (qa_cons (qe_vb 4 (pe_var (i := 4) rfl (Or.inr (Or.inl rfl)) (by decide) (by decide))) qa_nil)) (lenC (lenC len0))))) (qw_or (qt_ne rfl hr.units (qe_vb 9 (pe_var (i := 9) rfl (Or.inl rfl) (by decide) (by decide))) (qe_call hd__law_trim ft hr (by decide) rfl (qa_cons (qe_vb 8 (pe_var (i := 8) rfl (Or.inl rfl) (by decide) (by decide))) qa_nil) (lenC len0))) (qw_or1 (qt_ne rfl hr.units (qe_b call_len does_len rfl n_len (by decide +kernel) (qa_cons (qe_vb 8 (pe_var (i := 8) rfl (Or.inl rfl) (by decide) (by decide))) qa_nil)) (qe_add rfl (qe_vb 7 (pe_var (i := 7) rfl (Or.inl rfl) (by decide) (by decide))) (qe_mod (qe_ty call_int1 does_intc rfl n_int (by decide +kernel) (qa_cons (qe_ix rfl (qe_vb 1 (pe_var (i := 1) rfl (Or.inr (Or.inl rfl)) (by decide) (by decide))) qe_int (fun _ _ => rfl)) qa_nil)) qe_int)))))))
  (qss_one (qs_ret qe_bl))
  qss_nil)
  (qss_cons (qs_set (i := 10) nd rfl (Or.inl rfl) (qe_fz (qe_ty call_list_of does_list rfl n_list (by decide +kernel) (qa_cons (qe_vb 9 (pe_var (i := 9) rfl (Or.inl rfl) (by decide) (by decide))) qa_nil))))
  (qss_cons (qs_app (k := 9) rfl (pe_var (i := 9) rfl (Or.inl rfl) (by decide) (by decide)) qe_int (pe_bm PySem.F.plainAttrs_list PySem.F.slot_list_append PySem.F.type_list_append mt_append (pe_var (i := 9) rfl (Or.inl rfl) (by decide) (by decide)) (pa_cons qe_int pa_nil)))
  (qss_cons (qs_if (qt_ne rfl hr.units (qe_b call_len does_len rfl n_len (by decide +kernel) (qa_cons (qe_vb 8 (pe_var (i := 8) rfl (Or.inl rfl) (by decide) (by decide))) qa_nil)) (qe_add rfl (qe_vb 7 (pe_var (i := 7) rfl (Or.inl rfl) (by decide) (by decide))) (qe_mod (qe_ty call_int1 does_intc rfl n_int (by decide +kernel) (qa_cons (qe_ix rfl (qe_vb 1 (pe_var (i := 1) rfl (Or.inr (Or.inl rfl)) (by decide) (by decide))) qe_int (fun _ _ => rfl)) qa_nil)) qe_int)))
  (qss_one (qs_ret qe_bl))
  qss_nil)
  (qss_cons (qs_set (i := 11) nd rfl (Or.inl rfl) (qe_fz (qe_call hd__law_poly ft hr (by decide) rfl (qa_cons (qe_vb 1 (pe_var (i := 1) rfl (Or.inr (Or.inl rfl)) (by decide) (by decide))) (qa_cons qe_int (qa_cons (qe_mod (qe_ty call_int1 does_intc rfl n_int (by decide +kernel) (qa_cons (qe_ix rfl (qe_vb 1 (pe_var (i := 1) rfl (Or.inr (Or.inl rfl)) (by decide) (by decide))) qe_int (fun _ _ => rfl)) qa_nil)) qe_int) (qa_cons (qe_vb 4 (pe_var (i := 4) rfl (Or.inr (Or.inl rfl)) (by decide) (by decide))) qa_nil)))) (lenC (lenC (lenC (lenC len0)))))))
  (qss_cons (qs_if (qt_eq rfl hr.units (qe_mod (qe_ty call_int1 does_intc rfl n_int (by decide +kernel) (qa_cons (qe_ix rfl (qe_vb 1 (pe_var (i := 1) rfl (Or.inr (Or.inl rfl)) (by decide) (by decide))) qe_int (fun _ _ => rfl)) qa_nil)) qe_int) qe_int)
  (qss_one (qs_set (i := 11) nd rfl (Or.inl rfl) (qe_fz (qe_ty call_list_of does_list rfl n_list (by decide +kernel) (qa_cons (qe_vb 10 (pe_var (i := 10) rfl (Or.inl rfl) (by decide) (by decide))) qa_nil)))))
  qss_nil)
  (qss_cons (qs_set (i := 12) nd rfl (Or.inl rfl) (qe_mod (qe_ty call_int1 does_intc rfl n_int (by decide +kernel) (qa_cons (qe_ix rfl (qe_vb 1 (pe_var (i := 1) rfl (Or.inr (Or.inl rfl)) (by decide) (by decide))) qe_int (fun _ _ => rfl)) qa_nil)) (qe_vb 4 (pe_var (i := 4) rfl (Or.inr (Or.inl rfl)) (by decide) (by decide)))))
  (qss_cons (qs_set (i := 13) nd rfl (Or.inl rfl) (qe_mod (qe_ty call_int1 does_intc rfl n_int (by decide +kernel) (qa_cons (qe_ix rfl (qe_vb 1 (pe_var (i := 1) rfl (Or.inr (Or.inl rfl)) (by decide) (by decide))) qe_int (fun _ _ => rfl)) qa_nil)) (qe_vb 4 (pe_var (i := 4) rfl (Or.inr (Or.inl rfl)) (by decide) (by decide)))))
  (qss_cons (qs_set (i := 14) nd rfl (Or.inl rfl) (qe_fz (qe_lst (qa_cons (qe_fz (qe_ty call_list_of does_list rfl n_list (by decide +kernel) (qa_cons (qe_vb 10 (pe_var (i := 10) rfl (Or.inl rfl) (by decide) (by decide))) qa_nil))) (qa_cons (qe_fz (qe_ty call_list_of does_list rfl n_list (by decide +kernel) (qa_cons (qe_vb 11 (pe_var (i := 11) rfl (Or.inl rfl) (by decide) (by decide))) qa_nil))) qa_nil)))))
  (qss_cons (qs_if (PW.pt (qw_or (qt_not (qt_val (qe_call hd__law_plain ft hr (by decide) rfl (qa_cons (qe_vb 6 (pe_var (i := 6) rfl (Or.inl rfl) (by decide) (by decide))) (qa_cons (qe_vb 5 (pe_var (i := 5) rfl (Or.inl rfl) (by decide) (by decide))) (qa_cons (qe_ix rfl (qe_vb 14 (pe_var (i := 14) rfl (Or.inl rfl) (by decide) (by decide))) qe_int (fun _ _ => rfl)) (qa_cons (qe_ix rfl (qe_vb 14 (pe_var (i := 14) rfl (Or.inl rfl) (by decide) (by decide))) qe_int (fun _ _ => rfl)) (qa_cons (qe_vb 12 (pe_var (i := 12) rfl (Or.inl rfl) (by decide) (by decide))) qa_nil))))) (lenC (lenC (lenC (lenC (lenC len0)))))))) (qw_or1 (qt_not (qt_val (qe_call hd__law_deep ft hr (by decide) rfl (qa_cons (qe_vb 6 (pe_var (i := 6) rfl (Or.inl rfl) (by decide) (by decide))) (qa_cons (qe_vb 5 (pe_var (i := 5) rfl (Or.inl rfl) (by decide) (by decide))) (qa_cons (qe_ix rfl (qe_vb 14 (pe_var (i := 14) rfl (Or.inl rfl) (by decide) (by decide))) qe_int (fun _ _ => rfl)) (qa_cons (qe_ix rfl (qe_vb 14 (pe_var (i := 14) rfl (Or.inl rfl) (by decide) (by decide))) qe_int (fun _ _ => rfl)) (qa_cons (qe_vb 13 (pe_var (i := 13) rfl (Or.inl rfl) (by decide) (by decide))) qa_nil))))) (lenC (lenC (lenC (lenC (lenC len0)))))))))))
  (qss_one (qs_ret qe_bl))
  qss_nil)
  (qss_cons (qs_if (PW.pt (qw_or (qt_ne rfl hr.units (qe_vb 14 (pe_var (i := 14) rfl (Or.inl rfl) (by decide) (by decide))) (qe_lst (qa_cons (qe_vb 10 (pe_var (i := 10) rfl (Or.inl rfl) (by decide) (by decide))) (qa_cons (qe_vb 11 (pe_var (i := 11) rfl (Or.inl rfl) (by decide) (by decide))) qa_nil)))) (qw_or (qt_ne rfl hr.units (qe_call hd_poly_scale ft hr (by decide) rfl (qa_cons (qe_vb 6 (pe_var (i := 6) rfl (Or.inl rfl) (by decide) (by decide))) (qa_cons (qe_vb 10 (pe_var (i := 10) rfl (Or.inl rfl) (by decide) (by decide))) (qa_cons qe_int qa_nil))) (lenC (lenC (lenC len0)))) (qe_lst qa_nil)) (qw_or1 (qt_ne rfl hr.units (qe_call hd_poly_subtract ft hr (by decide) rfl (qa_cons (qe_vb 6 (pe_var (i := 6) rfl (Or.inl rfl) (by decide) (by decide))) (qa_cons (qe_vb 10 (pe_var (i := 10) rfl (Or.inl rfl) (by decide) (by decide))) (qa_cons (qe_vb 10 (pe_var (i := 10) rfl (Or.inl rfl) (by decide) (by decide))) qa_nil))) (lenC (lenC (lenC len0)))) (qe_lst qa_nil))))))
  (qss_one (qs_ret qe_bl))
  qss_nil)
  (qss_bk (bk_win (hav_hs false (hs_each (ks := []) (hb_app (ks := []) argOk_c))) bk_of bk_of (bk_leaf leaf1) (bk_cons (bk_cons bk_nil)))
  (pss_cons (qs_set (i := 15) nd rfl (Or.inl rfl) (qe_fz (qe_lst (qa_cons (qe_fz (qe_call hd_poly_add ft hr (by decide) rfl (qa_cons (qe_vb 6 (pe_var (i := 6) rfl (Or.inl rfl) (by decide) (by decide))) (qa_cons (qe_ix rfl (qe_vb 14 (pe_var (i := 14) rfl (Or.inl rfl) (by decide) (by decide))) qe_int (fun _ _ => rfl)) (qa_cons (qe_fz (qe_lst qa_nil)) qa_nil))) (lenC (lenC (lenC len0))))) (qa_cons (qe_fz (qe_call hd_poly_add ft hr (by decide) rfl (qa_cons (qe_vb 6 (pe_var (i := 6) rfl (Or.inl rfl) (by decide) (by decide))) (qa_cons (qe_fz (qe_lst qa_nil)) (qa_cons (qe_ix rfl (qe_vb 14 (pe_var (i := 14) rfl (Or.inl rfl) (by decide) (by decide))) qe_int (fun _ _ => rfl)) qa_nil))) (lenC (lenC (lenC len0))))) (qa_cons (qe_fz (qe_call hd_poly_scale ft hr (by decide) rfl (qa_cons (qe_vb 6 (pe_var (i := 6) rfl (Or.inl rfl) (by decide) (by decide))) (qa_cons (qe_ix rfl (qe_vb 14 (pe_var (i := 14) rfl (Or.inl rfl) (by decide) (by decide))) qe_int (fun _ _ => rfl)) (qa_cons qe_int qa_nil))) (lenC (lenC (lenC len0))))) qa_nil))))))
  (pss_cons (qs_set (i := 15) nd rfl (Or.inl rfl) (qe_fz (qe_add rfl (qe_vb 15 (pe_var (i := 15) rfl (Or.inl rfl) (by decide) (by decide))) (qe_lst (qa_cons (qe_fz (qe_call hd_poly_subtract ft hr (by decide) rfl (qa_cons (qe_vb 6 (pe_var (i := 6) rfl (Or.inl rfl) (by decide) (by decide))) (qa_cons (qe_ix rfl (qe_vb 14 (pe_var (i := 14) rfl (Or.inl rfl) (by decide) (by decide))) qe_int (fun _ _ => rfl)) (qa_cons (qe_fz (qe_lst qa_nil)) qa_nil))) (lenC (lenC (lenC len0))))) (qa_cons (qe_fz (qe_call hd_poly_multiply ft hr (by decide) rfl (qa_cons (qe_vb 6 (pe_var (i := 6) rfl (Or.inl rfl) (by decide) (by decide))) (qa_cons (qe_ix rfl (qe_vb 14 (pe_var (i := 14) rfl (Or.inl rfl) (by decide) (by decide))) qe_int (fun _ _ => rfl)) (qa_cons (qe_fz (qe_lst (qa_cons qe_int qa_nil))) qa_nil))) (lenC (lenC (lenC len0))))) qa_nil))))))
  (pss_cons (ps_for own rfl (pi_list (pe_var (i := 15) rfl (Or.inl rfl) (by decide) (by decide))) (pg_name (i := 16) nd rfl (Or.inl rfl))
  (pss_one (ps_expr (pe_bm PySem.F.plainAttrs_list PySem.F.slot_list_append PySem.F.type_list_append mt_append (pe_var (i := 16) rfl (Or.inl rfl) (by decide) (by decide)) (pa_cons pe_int pa_nil)))))
  (qss_cons (qs_if (qt_ne rfl hr.units (qe_vb 14 (pe_var (i := 14) rfl (Or.inl rfl) (by decide) (by decide))) (qe_lst (qa_cons (qe_vb 10 (pe_var (i := 10) rfl (Or.inl rfl) (by decide) (by decide))) (qa_cons (qe_vb 11 (pe_var (i := 11) rfl (Or.inl rfl) (by decide) (by decide))) qa_nil))))
  (qss_one (qs_ret qe_bl))
  qss_nil)
  (qss_cons (qs_set (i := 17) nd rfl (Or.inl rfl) (qe_fz (qe_lst (qa_cons (qe_fz (qe_call hd_degree_of ft hr (by decide) rfl (qa_cons (qe_vb 10 (pe_var (i := 10) rfl (Or.inl rfl) (by decide) (by decide))) qa_nil) (lenC len0))) (qa_cons (qe_fz (qe_call hd_degree_of ft hr (by decide) rfl (qa_cons (qe_vb 11 (pe_var (i := 11) rfl (Or.inl rfl) (by decide) (by decide))) qa_nil) (lenC len0))) (qa_cons (qe_fz (qe_call hd_degree_of ft hr (by decide) rfl (qa_cons (qe_fz (qe_lst qa_nil)) qa_nil) (lenC len0))) qa_nil))))))
  (qss_one (qs_ret (qe_and (qe_eq rfl hr.units (qe_vb 17 (pe_var (i := 17) rfl (Or.inl rfl) (by decide) (by decide))) (qe_lst (qa_cons (qe_sub (qe_b call_len does_len rfl n_len (by decide +kernel) (qa_cons (qe_vb 10 (pe_var (i := 10) rfl (Or.inl rfl) (by decide) (by decide))) qa_nil)) qe_int) (qa_cons (qe_sub (qe_b call_len does_len rfl n_len (by decide +kernel) (qa_cons (qe_vb 11 (pe_var (i := 11) rfl (Or.inl rfl) (by decide) (by decide))) qa_nil)) qe_int) (qa_cons (qe_neg qe_int) qa_nil))))) (qe_one (qe_call hd__law_plain ft hr (by decide) rfl (qa_cons (qe_vb 6 (pe_var (i := 6) rfl (Or.inl rfl) (by decide) (by decide))) (qa_cons (qe_vb 5 (pe_var (i := 5) rfl (Or.inl rfl) (by decide) (by decide))) (qa_cons (qe_vb 11 (pe_var (i := 11) rfl (Or.inl rfl) (by decide) (by decide))) (qa_cons (qe_vb 10 (pe_var (i := 10) rfl (Or.inl rfl) (by decide) (by decide))) (qa_cons (qe_vb 13 (pe_var (i := 13) rfl (Or.inl rfl) (by decide) (by decide))) qa_nil))))) (lenC (lenC (lenC (lenC (lenC len0))))))))))))))))))))))))))))))))))))
end
section
variable {P : Program} {w : World} {K : PySem.W.Frag} {h : Heap} {mg : Str → Option Value} {f : Addr}
theorem facts (hg : ∀ ns : List Int, ns.length ≤ 63 → ∃ fr, g_law [.fl (ns.map D.int)] = .ok ⟨.frz, fr, .bl true⟩) (X : K.In h) (G : h.Ns mainGlobals mg) (hfa : mg ("law" : Str) = some (.ref f)) (c0 : SaysP fa fn pr ex K) :
    ∃ fd : FuncData, (∀ (s : Shared) (v : Value), BindsTo s fd ⟨[v], []⟩ [("_law_script", v)]) ∧ ∀ base : Heap, K.In base → base.Ns mainGlobals mg → FnOk P w K mg base (L2.CX P w) 7 f fd ["_law_script"] (spLawD K) := by
  have c := c0.d
  have exK := c0.ex
  obtain ⟨fd__law_count, F__law_count⟩ := c.def_ 0 (d := d__law_count) rfl
  obtain ⟨fd__law_digits, F__law_digits⟩ := c.def_ 1 (d := d__law_digits) rfl
  obtain ⟨fd__law_element, F__law_element⟩ := c.def_ 2 (d := d__law_element) rfl
  obtain ⟨fd__law_times, F__law_times⟩ := c.def_ 3 (d := d__law_times) rfl
  obtain ⟨fd__law_trim, F__law_trim⟩ := c.def_ 4 (d := d__law_trim) rfl
  obtain ⟨fd__law_derivative, F__law_derivative⟩ := c.def_ 5 (d := d__law_derivative) rfl
  obtain ⟨fd__law_is_poly, F__law_is_poly⟩ := c.def_ 6 (d := d__law_is_poly) rfl
  obtain ⟨fd__law_plus, F__law_plus⟩ := c.def_ 7 (d := d__law_plus) rfl
  obtain ⟨fd__law_value, F__law_value⟩ := c.def_ 8 (d := d__law_value) rfl
  obtain ⟨fd_base_digits, F_base_digits⟩ := c.def_ 9 (d := d_base_digits) rfl
  obtain ⟨fd_Field_digits, F_Field_digits⟩ := c.def_ 10 (d := d_Field_digits) rfl
  obtain ⟨fd_Field_element, F_Field_element⟩ := c.def_ 11 (d := d_Field_element) rfl
  obtain ⟨fd_Field_plus, F_Field_plus⟩ := c.def_ 12 (d := d_Field_plus) rfl
  obtain ⟨fd_coefficient, F_coefficient⟩ := c.def_ 13 (d := d_coefficient) rfl
  obtain ⟨fd_poly_trim, F_poly_trim⟩ := c.def_ 14 (d := d_poly_trim) rfl
  obtain ⟨fd_poly_add, F_poly_add⟩ := c.def_ 15 (d := d_poly_add) rfl
  obtain ⟨fd_integer_remainder, F_integer_remainder⟩ := c.def_ 16 (d := d_integer_remainder) rfl
  obtain ⟨fd_Field_times, F_Field_times⟩ := c.def_ 17 (d := d_Field_times) rfl
  obtain ⟨fd_poly_derivative, F_poly_derivative⟩ := c.def_ 18 (d := d_poly_derivative) rfl
  obtain ⟨fd_poly_evaluate, F_poly_evaluate⟩ := c.def_ 19 (d := d_poly_evaluate) rfl
  obtain ⟨fd_poly_multiply, F_poly_multiply⟩ := c.def_ 20 (d := d_poly_multiply) rfl
  obtain ⟨fd__law_deep, F__law_deep⟩ := c.def_ 21 (d := d__law_deep) rfl
  obtain ⟨fd__law_field, F__law_field⟩ := c.def_ 22 (d := d__law_field) rfl
  obtain ⟨fd__law_row, F__law_row⟩ := c.def_ 23 (d := d__law_row) rfl
  obtain ⟨fd__law_numbers, F__law_numbers⟩ := c.def_ 24 (d := d__law_numbers) rfl
  obtain ⟨fd__law_minus, F__law_minus⟩ := c.def_ 25 (d := d__law_minus) rfl
  obtain ⟨fd__law_poly_minus, F__law_poly_minus⟩ := c.def_ 26 (d := d__law_poly_minus) rfl
  obtain ⟨fd__law_poly_times, F__law_poly_times⟩ := c.def_ 27 (d := d__law_poly_times) rfl
  obtain ⟨fd_poly_scale, F_poly_scale⟩ := c.def_ 28 (d := d_poly_scale) rfl
  obtain ⟨fd_Field_negative, F_Field_negative⟩ := c.def_ 29 (d := d_Field_negative) rfl
  obtain ⟨fd_Field_minus, F_Field_minus⟩ := c.def_ 30 (d := d_Field_minus) rfl
  obtain ⟨fd_poly_subtract, F_poly_subtract⟩ := c.def_ 31 (d := d_poly_subtract) rfl
  obtain ⟨fd__law_plain, F__law_plain⟩ := c.def_ 32 (d := d__law_plain) rfl
  obtain ⟨fd__law_poly, F__law_poly⟩ := c.def_ 33 (d := d__law_poly) rfl
  obtain ⟨fd_degree_of, F_degree_of⟩ := c.def_ 34 (d := d_degree_of) rfl
  obtain ⟨fd_int_power, F_int_power⟩ := c.def_ 35 (d := d_int_power) rfl
  obtain ⟨fd_is_irreducible, F_is_irreducible⟩ := c.def_ 36 (d := d_is_irreducible) rfl
  obtain ⟨fd_is_modulus, F_is_modulus⟩ := c.def_ 37 (d := d_is_modulus) rfl
  obtain ⟨fd_is_prime, F_is_prime⟩ := c.def_ 38 (d := d_is_prime) rfl
  obtain ⟨fd_Field_init, F_Field_init⟩ := c.def_ 39 (d := d_Field_init) rfl
  obtain ⟨fd_law, F_law⟩ := c.def_ 40 (d := d_law) rfl
  have dx_Field_0 := all_get exK 0 rfl
  have gl__law_count := He.glo_ok X G (c.fact 0 (f := .glo "_law_count") rfl)
  have n_len := He.free_ok X G (c.fact 1 (f := .free "len") rfl)
  have n_range := He.free_ok X G (c.fact 2 (f := .free "range") rfl)
  have gl__law_digits := He.glo_ok X G (c.fact 3 (f := .glo "_law_digits") rfl)
  have n_int := He.free_ok X G (c.fact 4 (f := .free "int") rfl)
  have gl__law_element := He.glo_ok X G (c.fact 5 (f := .glo "_law_element") rfl)
  have gl__law_times := He.glo_ok X G (c.fact 6 (f := .glo "_law_times") rfl)
  have gl__law_trim := He.glo_ok X G (c.fact 7 (f := .glo "_law_trim") rfl)
  have n_list := He.free_ok X G (c.fact 8 (f := .free "list") rfl)
  have gl__law_derivative := He.glo_ok X G (c.fact 9 (f := .glo "_law_derivative") rfl)
  have gl__law_is_poly := He.glo_ok X G (c.fact 10 (f := .glo "_law_is_poly") rfl)
  have n_bool := He.free_ok X G (c.fact 11 (f := .free "bool") rfl)
  have n_isinstance := He.free_ok X G (c.fact 12 (f := .free "isinstance") rfl)
  have gl__law_plus := He.glo_ok X G (c.fact 13 (f := .glo "_law_plus") rfl)
  have gl__law_value := He.glo_ok X G (c.fact 14 (f := .glo "_law_value") rfl)
  have gl_base_digits := He.glo_ok X G (c.fact 15 (f := .glo "base_digits") rfl)
  have gl_Field := He.glo_ok X G (c.fact 16 (f := .glo "Field") rfl)
  have n_reversed := He.free_ok X G (c.fact 19 (f := .free "reversed") rfl)
  have gl_coefficient := He.glo_ok X G (c.fact 21 (f := .glo "coefficient") rfl)
  have gl_poly_trim := He.glo_ok X G (c.fact 22 (f := .glo "poly_trim") rfl)
  have gl_poly_add := He.glo_ok X G (c.fact 23 (f := .glo "poly_add") rfl)
  have n_max := He.free_ok X G (c.fact 24 (f := .free "max") rfl)
  have gl_integer_remainder := He.glo_ok X G (c.fact 25 (f := .glo "integer_remainder") rfl)
  have gl_poly_derivative := He.glo_ok X G (c.fact 27 (f := .glo "poly_derivative") rfl)
  have gl_poly_evaluate := He.glo_ok X G (c.fact 28 (f := .glo "poly_evaluate") rfl)
  have gl_poly_multiply := He.glo_ok X G (c.fact 29 (f := .glo "poly_multiply") rfl)
  have gl__law_deep := He.glo_ok X G (c.fact 30 (f := .glo "_law_deep") rfl)
  have gl__law_field := He.glo_ok X G (c.fact 31 (f := .glo "_law_field") rfl)
  have gl__law_row := He.glo_ok X G (c.fact 32 (f := .glo "_law_row") rfl)
  have n_abs := He.free_ok X G (c.fact 33 (f := .free "abs") rfl)
  have gl__law_numbers := He.glo_ok X G (c.fact 34 (f := .glo "_law_numbers") rfl)
  have gl__law_minus := He.glo_ok X G (c.fact 35 (f := .glo "_law_minus") rfl)
  have gl__law_poly_minus := He.glo_ok X G (c.fact 36 (f := .glo "_law_poly_minus") rfl)
  have gl__law_poly_times := He.glo_ok X G (c.fact 37 (f := .glo "_law_poly_times") rfl)
  have gl_poly_scale := He.glo_ok X G (c.fact 38 (f := .glo "poly_scale") rfl)
  have gl_poly_subtract := He.glo_ok X G (c.fact 41 (f := .glo "poly_subtract") rfl)
  have gl__law_plain := He.glo_ok X G (c.fact 42 (f := .glo "_law_plain") rfl)
  have gl__law_poly := He.glo_ok X G (c.fact 43 (f := .glo "_law_poly") rfl)
  have gl_degree_of := He.glo_ok X G (c.fact 44 (f := .glo "degree_of") rfl)
  have gl_int_power := He.glo_ok X G (c.fact 45 (f := .glo "int_power") rfl)
  have gl_is_irreducible := He.glo_ok X G (c.fact 46 (f := .glo "is_irreducible") rfl)
  have gl_is_modulus := He.glo_ok X G (c.fact 47 (f := .glo "is_modulus") rfl)
  have gi_LARGEST_ORDER := He.int_ok X G (c.fact 48 (f := .int "LARGEST_ORDER" 256) rfl)
  have gl_is_prime := He.glo_ok X G (c.fact 49 (f := .glo "is_prime") rfl)
  have gl_InvalidField := He.glo_ok X G (c.fact 50 (f := .glo "InvalidField") rfl)
  have he_InvalidField : ExcOk ⟨K, mg⟩ "InvalidField" := excOk_of gl_InvalidField (He.exc_ok (c.fact 51 (f := .exc "InvalidField") rfl))
  have gi_LARGEST_PRIME := He.int_ok X G (c.fact 52 (f := .int "LARGEST_PRIME" 31) rfl)
  have gl_law := He.glo_ok X G (c.fact 53 (f := .glo "law") rfl)
  have cl_Field := He.cls_ok (c.fact 54 (f := .cls "Field") rfl)
  have hc_Field : ClsOk ⟨K, mg⟩ c_Field := clsOk_of (c := c_Field) gl_Field cl_Field (by
    intro f hf
    simp only [c_Field, List.mem_cons, List.not_mem_nil, or_false] at hf
    rcases hf with rfl | rfl | rfl | rfl
    · exact He.noat_ok (c.fact 55 (f := .noat "Field" "prime") rfl)
    · exact He.noat_ok (c.fact 56 (f := .noat "Field" "modulus") rfl)
    · exact He.noat_ok (c.fact 57 (f := .noat "Field" "degree") rfl)
    · exact He.noat_ok (c.fact 58 (f := .noat "Field" "order") rfl)) (by decide +kernel)
  have hd__law_count : ∀ base : Heap, DefOk ⟨K, mg⟩ P w base 1 "_law_count" ["_law_prime", "_law_modulus"] g__law_count := fun base => defOk_of F__law_count gl__law_count sc__law_count (by decide) (fun _ _ _ _ _ _ us hl => match us, hl with | [_, _], _ => rfl) (b__law_count n_len n_range)
  have hd__law_digits : ∀ base : Heap, DefOk ⟨K, mg⟩ P w base 1 "_law_digits" ["_law_prime", "_law_size", "_law_a"] g__law_digits := fun base => defOk_of F__law_digits gl__law_digits sc__law_digits (by decide) (fun _ _ _ _ _ _ us hl => match us, hl with | [_, _, _], _ => rfl) (b__law_digits n_int n_range)
  have hd__law_element : ∀ base : Heap, DefOk ⟨K, mg⟩ P w base 1 "_law_element" ["_law_prime", "_law_digits_here"] g__law_element := fun base => defOk_of F__law_element gl__law_element sc__law_element (by decide) (fun _ _ _ _ _ _ us hl => match us, hl with | [_, _], _ => rfl) (b__law_element n_len n_range)
  have hd__law_times : ∀ base : Heap, DefOk ⟨K, mg⟩ P w base 2 "_law_times" ["_law_prime", "_law_modulus", "_law_a", "_law_b"] g__law_times := fun base => defOk_of F__law_times gl__law_times sc__law_times (by decide) (fun _ _ _ _ _ _ us hl => match us, hl with | [_, _, _, _], _ => rfl) (b__law_times (hd__law_digits base) (hd__law_element base) n_int n_len n_range)
  have hd__law_trim : ∀ base : Heap, DefOk ⟨K, mg⟩ P w base 1 "_law_trim" ["_law_items"] g__law_trim := fun base => defOk_of F__law_trim gl__law_trim sc__law_trim (by decide) (fun _ _ _ _ _ _ us hl => match us, hl with | [_], _ => rfl) (b__law_trim n_len n_list)
  have hd__law_derivative : ∀ base : Heap, DefOk ⟨K, mg⟩ P w base 3 "_law_derivative" ["_law_prime", "_law_modulus", "_law_poly_here"] g__law_derivative := fun base => defOk_of F__law_derivative gl__law_derivative sc__law_derivative (by decide) (fun _ _ _ _ _ _ us hl => match us, hl with | [_, _, _], _ => rfl) (b__law_derivative (hd__law_times base) (hd__law_trim base) n_int n_len n_range)
  have hd__law_is_poly : ∀ base : Heap, DefOk ⟨K, mg⟩ P w base 1 "_law_is_poly" ["_law_actual", "_law_order"] g__law_is_poly := fun base => defOk_of F__law_is_poly gl__law_is_poly sc__law_is_poly (by decide) (fun _ _ _ _ _ _ us hl => match us, hl with | [_, _], _ => rfl) (b__law_is_poly n_bool n_int n_isinstance n_len n_list)
  have hd__law_plus : ∀ base : Heap, DefOk ⟨K, mg⟩ P w base 2 "_law_plus" ["_law_prime", "_law_modulus", "_law_a", "_law_b"] g__law_plus := fun base => defOk_of F__law_plus gl__law_plus sc__law_plus (by decide) (fun _ _ _ _ _ _ us hl => match us, hl with | [_, _, _, _], _ => rfl) (b__law_plus (hd__law_digits base) (hd__law_element base) n_int n_len n_range)
  have hd__law_value : ∀ base : Heap, DefOk ⟨K, mg⟩ P w base 3 "_law_value" ["_law_prime", "_law_modulus", "_law_poly_here", "_law_point"] g__law_value := fun base => defOk_of F__law_value gl__law_value sc__law_value (by decide) (fun _ _ _ _ _ _ us hl => match us, hl with | [_, _, _, _], _ => rfl) (b__law_value (hd__law_plus base) (hd__law_times base))
  have hd_base_digits : ∀ base : Heap, DefOk ⟨K, mg⟩ P w base 1 "base_digits" ["n", "base", "size"] g_base_digits := fun base => defOk_of F_base_digits gl_base_digits sc_base_digits (by decide) (fun _ _ _ _ _ _ us hl => match us, hl with | [_, _, _], _ => rfl) (b_base_digits n_range)
  have hm_Field_digits : ∀ base : Heap, MethOk ⟨K, mg⟩ P w base 2 c_Field "digits" ["self", "a"] g_Field_digits := fun base => methOk_of (c := c_Field) F_Field_digits gl_Field cl_Field (He.meth_ok (c.fact 17 (f := .meth "Field" "digits") rfl)) (by decide +kernel) sc_Field_digits (by decide) (fun _ _ _ _ _ _ us hl => match us, hl with | [_, _], _ => rfl) (b_Field_digits (hd_base_digits base) hc_Field)
  have hm_Field_element : ∀ base : Heap, MethOk ⟨K, mg⟩ P w base 1 c_Field "element" ["self", "digits"] g_Field_element := fun base => methOk_of (c := c_Field) F_Field_element gl_Field cl_Field (He.meth_ok (c.fact 18 (f := .meth "Field" "element") rfl)) (by decide +kernel) sc_Field_element (by decide) (fun _ _ _ _ _ _ us hl => match us, hl with | [_, _], _ => rfl) (b_Field_element hc_Field n_reversed)
  have hm_Field_plus : ∀ base : Heap, MethOk ⟨K, mg⟩ P w base 3 c_Field "plus" ["self", "a", "b"] g_Field_plus := fun base => methOk_of (c := c_Field) F_Field_plus gl_Field cl_Field (He.meth_ok (c.fact 20 (f := .meth "Field" "plus") rfl)) (by decide +kernel) sc_Field_plus (by decide) (fun _ _ _ _ _ _ us hl => match us, hl with | [_, _, _], _ => rfl) (b_Field_plus (hm_Field_digits base) (hm_Field_element base) hc_Field n_range)
  have hd_coefficient : ∀ base : Heap, DefOk ⟨K, mg⟩ P w base 1 "coefficient" ["poly", "place"] g_coefficient := fun base => defOk_of F_coefficient gl_coefficient sc_coefficient (by decide) (fun _ _ _ _ _ _ us hl => match us, hl with | [_, _], _ => rfl) (b_coefficient n_len)
  have hd_poly_trim : ∀ base : Heap, DefOk ⟨K, mg⟩ P w base 1 "poly_trim" ["items"] g_poly_trim := fun base => defOk_of F_poly_trim gl_poly_trim sc_poly_trim (by decide) (fun _ _ _ _ _ _ us hl => match us, hl with | [_], _ => rfl) (b_poly_trim n_len n_list)
  have hd_poly_add : ∀ base : Heap, DefOk ⟨K, mg⟩ P w base 4 "poly_add" ["field", "a", "b"] g_poly_add := fun base => defOk_of F_poly_add gl_poly_add sc_poly_add (by decide) (fun _ _ _ _ _ _ us hl => match us, hl with | [_, _, _], _ => rfl) (b_poly_add (hm_Field_plus base) (hd_coefficient base) (hd_poly_trim base) n_len n_max n_range)
  have hd_integer_remainder : ∀ base : Heap, DefOk ⟨K, mg⟩ P w base 1 "integer_remainder" ["prime", "items", "divisor"] g_integer_remainder := fun base => defOk_of F_integer_remainder gl_integer_remainder sc_integer_remainder (by decide) (fun _ _ _ _ _ _ us hl => match us, hl with | [_, _, _], _ => rfl) (b_integer_remainder n_len n_list n_range)
  have hm_Field_times : ∀ base : Heap, MethOk ⟨K, mg⟩ P w base 3 c_Field "times" ["self", "a", "b"] g_Field_times := fun base => methOk_of (c := c_Field) F_Field_times gl_Field cl_Field (He.meth_ok (c.fact 26 (f := .meth "Field" "times") rfl)) (by decide +kernel) sc_Field_times (by decide) (fun _ _ _ _ _ _ us hl => match us, hl with | [_, _, _], _ => rfl) (b_Field_times (hm_Field_digits base) (hm_Field_element base) (hd_integer_remainder base) hc_Field n_range)
  have hd_poly_derivative : ∀ base : Heap, DefOk ⟨K, mg⟩ P w base 4 "poly_derivative" ["field", "poly"] g_poly_derivative := fun base => defOk_of F_poly_derivative gl_poly_derivative sc_poly_derivative (by decide) (fun _ _ _ _ _ _ us hl => match us, hl with | [_, _], _ => rfl) (b_poly_derivative (hm_Field_times base) (hd_poly_trim base) hc_Field n_len n_range)
  have hd_poly_evaluate : ∀ base : Heap, DefOk ⟨K, mg⟩ P w base 4 "poly_evaluate" ["field", "poly", "point"] g_poly_evaluate := fun base => defOk_of F_poly_evaluate gl_poly_evaluate sc_poly_evaluate (by decide) (fun _ _ _ _ _ _ us hl => match us, hl with | [_, _, _], _ => rfl) (b_poly_evaluate (hm_Field_plus base) (hm_Field_times base) n_reversed)
  have hd_poly_multiply : ∀ base : Heap, DefOk ⟨K, mg⟩ P w base 4 "poly_multiply" ["field", "a", "b"] g_poly_multiply := fun base => defOk_of F_poly_multiply gl_poly_multiply sc_poly_multiply (by decide) (fun _ _ _ _ _ _ us hl => match us, hl with | [_, _, _], _ => rfl) (b_poly_multiply (hm_Field_plus base) (hm_Field_times base) (hd_poly_trim base) n_len n_range)
  have hd__law_deep : ∀ base : Heap, DefOk ⟨K, mg⟩ P w base 5 "_law_deep" ["_law_field_here", "_law_base", "_law_a", "_law_b", "_law_point"] g__law_deep := fun base => defOk_of F__law_deep gl__law_deep sc__law_deep (by decide) (fun _ _ _ _ _ _ us hl => match us, hl with | [_, _, _, _, _], _ => rfl) (b__law_deep (hd__law_derivative base) (hd__law_is_poly base) (hd__law_times base) (hd__law_value base) (hd_poly_add base) (hd_poly_derivative base) (hd_poly_evaluate base) (hd_poly_multiply base) n_bool n_isinstance)
  have hd__law_field : ∀ base : Heap, DefOk ⟨K, mg⟩ P w base 1 "_law_field" ["_law_number"] g__law_field := fun base => defOk_of F__law_field gl__law_field sc__law_field (by decide) (fun _ _ _ _ _ _ us hl => match us, hl with | [_], _ => rfl) (b__law_field n_int n_len)
  have hd__law_row : ∀ base : Heap, DefOk ⟨K, mg⟩ P w base 1 "_law_row" ["_law_cell", "_law_many"] g__law_row := fun base => defOk_of F__law_row gl__law_row sc__law_row (by decide) (fun _ _ _ _ _ _ us hl => match us, hl with | [_, _], _ => rfl) (b__law_row n_abs n_int n_range)
  have hd__law_numbers : ∀ base : Heap, DefOk ⟨K, mg⟩ P w base 2 "_law_numbers" ["_law_script", "_law_many"] g__law_numbers := fun base => defOk_of F__law_numbers gl__law_numbers sc__law_numbers (by decide) (fun _ _ _ _ _ _ us hl => match us, hl with | [_, _], _ => rfl) (b__law_numbers (hd__law_row base) n_len n_max)
  have hd__law_minus : ∀ base : Heap, DefOk ⟨K, mg⟩ P w base 2 "_law_minus" ["_law_prime", "_law_modulus", "_law_a", "_law_b"] g__law_minus := fun base => defOk_of F__law_minus gl__law_minus sc__law_minus (by decide) (fun _ _ _ _ _ _ us hl => match us, hl with | [_, _, _, _], _ => rfl) (b__law_minus (hd__law_digits base) (hd__law_element base) n_int n_len n_range)
  have hd__law_poly_minus : ∀ base : Heap, DefOk ⟨K, mg⟩ P w base 3 "_law_poly_minus" ["_law_prime", "_law_modulus", "_law_a", "_law_b"] g__law_poly_minus := fun base => defOk_of F__law_poly_minus gl__law_poly_minus sc__law_poly_minus (by decide) (fun _ _ _ _ _ _ us hl => match us, hl with | [_, _, _, _], _ => rfl) (b__law_poly_minus (hd__law_minus base) (hd__law_trim base) n_len n_list n_max n_range)
  have hd__law_poly_times : ∀ base : Heap, DefOk ⟨K, mg⟩ P w base 3 "_law_poly_times" ["_law_prime", "_law_modulus", "_law_a", "_law_b"] g__law_poly_times := fun base => defOk_of F__law_poly_times gl__law_poly_times sc__law_poly_times (by decide) (fun _ _ _ _ _ _ us hl => match us, hl with | [_, _, _, _], _ => rfl) (b__law_poly_times (hd__law_plus base) (hd__law_times base) (hd__law_trim base) n_len n_range)
  have hd_poly_scale : ∀ base : Heap, DefOk ⟨K, mg⟩ P w base 4 "poly_scale" ["field", "poly", "factor"] g_poly_scale := fun base => defOk_of F_poly_scale gl_poly_scale sc_poly_scale (by decide) (fun _ _ _ _ _ _ us hl => match us, hl with | [_, _, _], _ => rfl) (b_poly_scale (hm_Field_times base) (hd_poly_trim base))
  have hm_Field_negative : ∀ base : Heap, MethOk ⟨K, mg⟩ P w base 3 c_Field "negative" ["self", "a"] g_Field_negative := fun base => methOk_of (c := c_Field) F_Field_negative gl_Field cl_Field (He.meth_ok (c.fact 39 (f := .meth "Field" "negative") rfl)) (by decide +kernel) sc_Field_negative (by decide) (fun _ _ _ _ _ _ us hl => match us, hl with | [_, _], _ => rfl) (b_Field_negative (hm_Field_digits base) (hm_Field_element base) hc_Field)
  have hm_Field_minus : ∀ base : Heap, MethOk ⟨K, mg⟩ P w base 4 c_Field "minus" ["self", "a", "b"] g_Field_minus := fun base => methOk_of (c := c_Field) F_Field_minus gl_Field cl_Field (He.meth_ok (c.fact 40 (f := .meth "Field" "minus") rfl)) (by decide +kernel) sc_Field_minus (by decide) (fun _ _ _ _ _ _ us hl => match us, hl with | [_, _, _], _ => rfl) (b_Field_minus (hm_Field_negative base) (hm_Field_plus base))
  have hd_poly_subtract : ∀ base : Heap, DefOk ⟨K, mg⟩ P w base 5 "poly_subtract" ["field", "a", "b"] g_poly_subtract := fun base => defOk_of F_poly_subtract gl_poly_subtract sc_poly_subtract (by decide) (fun _ _ _ _ _ _ us hl => match us, hl with | [_, _, _], _ => rfl) (b_poly_subtract (hm_Field_minus base) (hd_coefficient base) (hd_poly_trim base) n_len n_max n_range)
  have hd__law_plain : ∀ base : Heap, DefOk ⟨K, mg⟩ P w base 6 "_law_plain" ["_law_field_here", "_law_base", "_law_a", "_law_b", "_law_factor"] g__law_plain := fun base => defOk_of F__law_plain gl__law_plain sc__law_plain (by decide) (fun _ _ _ _ _ _ us hl => match us, hl with | [_, _, _, _, _], _ => rfl) (b__law_plain (hd__law_is_poly base) (hd__law_poly_minus base) (hd__law_poly_times base) (hd__law_trim base) (hd_poly_add base) (hd_poly_multiply base) (hd_poly_scale base) (hd_poly_subtract base))
  have hd__law_poly : ∀ base : Heap, DefOk ⟨K, mg⟩ P w base 2 "_law_poly" ["_law_numbers_here", "_law_at", "_law_many", "_law_order"] g__law_poly := fun base => defOk_of F__law_poly gl__law_poly sc__law_poly (by decide) (fun _ _ _ _ _ _ us hl => match us, hl with | [_, _, _, _], _ => rfl) (b__law_poly (hd__law_trim base) n_int n_range)
  have hd_degree_of : ∀ base : Heap, DefOk ⟨K, mg⟩ P w base 1 "degree_of" ["poly"] g_degree_of := fun base => defOk_of F_degree_of gl_degree_of sc_degree_of (by decide) (fun _ _ _ _ _ _ us hl => match us, hl with | [_], _ => rfl) (b_degree_of n_len)
  have hd_int_power : ∀ base : Heap, DefOk ⟨K, mg⟩ P w base 1 "int_power" ["base", "exponent"] g_int_power := fun base => defOk_of F_int_power gl_int_power sc_int_power (by decide) (fun _ _ _ _ _ _ us hl => match us, hl with | [_, _], _ => rfl) (b_int_power n_range)
  have hd_is_irreducible : ∀ base : Heap, DefOk ⟨K, mg⟩ P w base 2 "is_irreducible" ["prime", "modulus"] g_is_irreducible := fun base => defOk_of F_is_irreducible gl_is_irreducible sc_is_irreducible (by decide) (fun _ _ _ _ _ _ us hl => match us, hl with | [_, _], _ => rfl) (b_is_irreducible (hd_base_digits base) (hd_int_power base) (hd_integer_remainder base) n_len n_range)
  have hd_is_modulus : ∀ base : Heap, DefOk ⟨K, mg⟩ P w base 3 "is_modulus" ["prime", "modulus"] g_is_modulus := fun base => defOk_of F_is_modulus gl_is_modulus sc_is_modulus (by decide) (fun _ _ _ _ _ _ us hl => match us, hl with | [_, _], _ => rfl) (b_is_modulus (hd_int_power base) (hd_is_irreducible base) gi_LARGEST_ORDER n_len)
  have hd_is_prime : ∀ base : Heap, DefOk ⟨K, mg⟩ P w base 1 "is_prime" ["n"] g_is_prime := fun base => defOk_of F_is_prime gl_is_prime sc_is_prime (by decide) (fun _ _ _ _ _ _ us hl => match us, hl with | [_], _ => rfl) (b_is_prime n_range)
  have hk_Field : ∀ base : Heap, MakeOk ⟨K, mg⟩ P w base 4 c_Field ["prime", "modulus"] [] g_Field_init := fun base => makeOk_j 3 1 F_Field_init (List.cons_ne_nil _ _) (by rfl) (fun _ => RepL.nil) gl_Field (He.mkr_ok (c.fact 59 (f := .mkr "Field") rfl)) sc_Field_init (by decide) (fun T kV doc pm an cdv ct us its hl hi => match us, hl, its, hi with | [_, _, _], _, [_], _ => ⟨_, rfl, rfl⟩) (b_Field_init (hd_int_power base) (hd_is_modulus base) (hd_is_prime base) hc_Field he_InvalidField gi_LARGEST_PRIME n_len)
  have e := hfa.symm.trans gl_law
  cases e
  have b := FunD.bindsA (ps := ["_law_script"]) F_law fun _ _ _ _ _ _ us hl => match us, hl with | [_], _ => rfl
  exact ⟨fd_law, fun s v => b s [v] rfl, fun base _ _ => law_ok hg (fnOk_of F_law sc_law (by decide) (b_law (hd__law_count base) (hd__law_deep base) (hd__law_field base) (hd__law_is_poly base) (hd__law_numbers base) (hd__law_plain base) (hd__law_poly base) (hd__law_trim base) (hd_degree_of base) (hd_poly_add base) (hd_poly_multiply base) (hd_poly_scale base) (hd_poly_subtract base) (hd_poly_trim base) (hk_Field base) n_int n_len n_list n_range))⟩
end
end Nw
open PySem PySem.W PySem.Calls PyProof.Rows
theorem PySem.Challenge.cw_nearestword_k06_polynomial_arithmetic_holds_of (hg : ∀ ns : List Int, ns.length ≤ 63 → ∃ fr, Nw.g_law [.fl (ns.map Dl.D.int)] = .ok ⟨.frz, fr, .bl true⟩) : PySem.Challenge.rw_nearestword_k06_polynomial_arithmetic.Holds := by
  w_on; o_law
  refine HandSHeadRun.head_any (r := OpenLaw.row PySem.Challenge.rw_nearestword_k06_polynomial_arithmetic) (q := view (OpenLaw.row PySem.Challenge.rw_nearestword_k06_polynomial_arithmetic).prog [43]) (H := Nw.hk) (ob := Nw.ob) (M := 12000) (loose := Nw.names) (d := HandSHeadRun.topDef (OpenLaw.row PySem.Challenge.rw_nearestword_k06_polynomial_arithmetic).prog 43) (kwd := []) Nw.ob_eq
    (by kernel_rfl) (fun s => by kernel_rfl) Nw.run (by kernel_rfl) (by kernel_rfl) (by kernel_rfl) (by rfl) (by first | assumption | decide +kernel) (by decide +kernel) ⟨rfl, rfl, rfl, rfl, rfl, by decide +kernel⟩ ?hw ?hc
  case hw => w_witness2
  case hc =>
    refine L2.walk_ofE (l := PySem.Challenge.rw_nearestword_k06_polynomial_arithmetic) (n := 63) (k := 7) (x := "_law_script") (CX := Dl.CXw PySem.Challenge.rw_nearestword_k06_polynomial_arithmetic.prog) rfl (by decide) (by kernel_rfl) ⟨rfl, by decide, by decide⟩ ?F (fun _ _ _ _ z => Dl.cxw_no z)
    intro w mg fa h Y G hmg0
    obtain ⟨K, KX, c⟩ := Y
    have hmg : mg ("law" : PySem.Str) = some (.ref fa) := by
      have e : (HandSHeadRun.topDef (OpenLaw.row PySem.Challenge.rw_nearestword_k06_polynomial_arithmetic).prog 43).name = ("law" : PySem.Str) := by kernel_rfl
      rw [← e]
      exact hmg0
    obtain ⟨fd, hb, hF⟩ := Nw.facts (P := (PySem.Challenge.rw_nearestword_k06_polynomial_arithmetic).prog) (w := w) hg KX G hmg c
    exact ⟨K, fd, Dl.spLawD K, KX, hb, fun H a ns hl _ hS => ⟨a, ns, rfl, hS, hl, fun _ => rfl⟩, fun b hb hn => Dl.fnOk_w (hF b hb hn)⟩

theorem PySem.Challenge.cw_nearestword_k06_polynomial_arithmetic_holds : PySem.Challenge.rw_nearestword_k06_polynomial_arithmetic.Holds :=
  PySem.Challenge.cw_nearestword_k06_polynomial_arithmetic_holds_of fun ns h => Nw.law_eq ns h
