import PyProof.Rows.All
import Wide.All
import OpenK.AllK
import Wide.FinOn
import KE.KStateDown
import HandS.ForMost
import HandS.More
import HandS.Defaults
import HandS.Flow
import HandS.Style
import HandS.NoneIn
import HandS.Zip
import HandS.Conv
import HandS.Wide
import HandS.Gcd
import HandS.Property
import HandS.IsInst
import HandS.Star
import HandS.Evl
import HandS.Head0
import HandS.Head1
import HandS.Head2
import HandS.Head3
import HandS.HeadEnd
import HandS.HeadHook1
import HandS.HeadHook2
import HandS.Walk
import HandS.SlotsOwn
import PyProof.ReprRoads
import HandS.RaiseMore
import PySem.Challenge.RW_rootsround_k53_whole_least_units_by_rest
set_option Elab.async false
set_option linter.all false
set_option maxRecDepth 100000
set_option maxHeartbeats 4000000
/-! ### RFacts -/
/-! The head of rootsround's law k53: the text's defs as data, facts of the top, the run. -/
namespace RR
open PySem PySem.Spec PyProof.Rows L2
/-! ### the text -/
def stAt (i : Nat) : Stmt := PySem.Challenge.pw_rootsround_k53_whole_least_units_by_rest.main.body.getD i (.Pass ⟨0, 0, 0, 0⟩)
/-- a def as it stands behind the top: its address, its statement, its names, its defaults -/
structure Df where
  adr : PySem.W.Frag → Addr
  st : Stmt
  name : Str
  qual : Str
  dfl : List He.Dv := []
/-- a property's getter -/
def gAd (K : PySem.W.Frag) (C f : Str) : Addr := match PySem.W.recIn K (He.ma K (He.ga K C) f) "property" with
  | some (.ref g :: _) => g
  | _ => 0
abbrev Seen : Type := Option (Str × Str × Arguments × FuncBody × Scope × Addr × List (Str × Addr) × Addr)
def seen (K : PySem.W.Frag) (d : Df) : Seen := (K.lookup (d.adr K)).bind fun o => match o with
  | ⟨_, _, .func u, _⟩ => some (u.name, u.qualname, u.params, u.body, u.scope, u.globals, u.closure, u.builtins)
  | _ => none
def Df.is (d : Df) : Seen := some (d.name, d.qual, defArgs d.st, .stmts (defBody d.st), defScope d.st, mainGlobals, [], builtinsNs)
def Df.good (K : PySem.W.Frag) (d : Df) : Bool := PySem.W.keepIn K (.ref (d.adr K)) && match K.lookup (d.adr K) with
  | some ⟨_, _, .func u, _⟩ => PySem.W.codeIn K u.code d.qual && He.dflB K u.defaults (d.dfl.map (He.Dv.v K))
  | _ => false
theorem Df.fun_ {K : PySem.W.Frag} {d : Df} (e : seen K d = d.is) (c : d.good K = true) : ∃ fd, FunD K d.name d.qual (defArgs d.st) (defBody d.st) (defScope d.st) (d.dfl.map (He.Dv.v K)) [] (d.adr K) fd := by
  obtain ⟨kp, c2⟩ := He.ba c
  unfold seen at e
  cases q : K.lookup (d.adr K) with
  | none => rw [q] at c2; cases c2
  | some o =>
    rw [q] at c2 e
    obtain ⟨oc, od, dt, osl⟩ := o
    cases dt with
    | func u =>
      obtain ⟨n1, n2, n3, n4, n5, n6, n7, n8, n9, n10, n11, n12, n13, n14, n15⟩ := u
      have e2 : (some (n1, n2, n3, n4, n5, n6, n7, n15) : Seen) = some (d.name, d.qual, defArgs d.st, .stmts (defBody d.st), defScope d.st, mainGlobals, [], builtinsNs) := e
      simp only [Option.some.injEq, Prod.mk.injEq] at e2
      obtain ⟨h1, h2, h3, h4, h5, h6, h7, h8⟩ := e2
      subst h1 h2 h3 h4 h5 h6 h7 h8
      obtain ⟨k1, k2⟩ := He.ba c2
      exact ⟨_, ⟨oc, od, n8, n9, n10, n11, n12, n13, n14, osl, rfl, q, k1, He.dflB_ok k2, .inl rfl⟩, kp⟩
    | _ => cases c2
/-! ### the hook: facts by names, the defs, further looks -/
abbrev Obs : Type := Bool × List Seen
def obs (fa : List He.Fa) (fn : List Df) (ex : List (PySem.W.Frag → Bool)) (K : PySem.W.Frag) : Obs := ((fa.all fun f => f.ok K) && ((fn.all fun d => d.good K) && ex.all fun b => b K), fn.map (seen K))
def valsOf : Option Obj → List Addr
  | some ⟨_, _, .dict es _, _⟩ => es.toList.filterMap fun e => match e.val with
    | .ref a => some a
    | _ => none
  | _ => []
def nextOf : Option Obj → List Addr
  | some ⟨_, _, .func u, _⟩ => He.refV u.code ++ He.refV u.defaults
  | some ⟨_, _, .cls c, _⟩ => [c.ns]
  | some ⟨_, _, .fields vs, _⟩ => vs.toList.flatMap He.refV
  | _ => []
def adrs (g : Addr → Option Obj) : List Addr :=
  let a1 := valsOf (g mainGlobals)
  let n1 := a1.flatMap fun a => nextOf (g a)
  let m := n1.flatMap fun a => valsOf (g a)
  let c := m.flatMap fun a => nextOf (g a)
  mainGlobals :: (a1 ++ (n1 ++ (m ++ (c ++ c.flatMap fun a => nextOf (g a)))))
def obsAt (fa : List He.Fa) (fn : List Df) (ex : List (PySem.W.Frag → Bool)) (g : Addr → Option Obj) : Obs := obs fa fn ex (He.frG g (adrs g))
def Told (fa : List He.Fa) (fn : List Df) (ex : List (PySem.W.Frag → Bool)) (K : PySem.W.Frag) : Prop := obs fa fn ex K = (true, fn.map Df.is)
def hook (fa : List He.Fa) (fn : List Df) (ex : List (PySem.W.Frag → Bool)) : PySem.W.Hook where
  α := Obs
  obs := fun s => obsAt fa fn ex s.heap.get?
  val := fun _ => (true, fn.map Df.is)
  says := fun _ h => ∃ K : PySem.W.Frag, K.In h ∧ Told fa fn ex K
  of := fun _ _ e => ⟨_, He.frG_in, e⟩
  keeps := fun _ _ _ ⟨K, kin, c⟩ k => ⟨K, kin.keeps k, c⟩
section
variable {fa : List He.Fa} {fn : List Df} {ex : List (PySem.W.Frag → Bool)} {K : PySem.W.Frag}
theorem Told.bools (c : Told fa fn ex K) : (fa.all fun f => f.ok K) = true ∧ (fn.all fun d => d.good K) = true ∧ (ex.all fun b => b K) = true := by
  obtain ⟨h1, h2⟩ := He.ba (congrArg (fun z : Obs => z.1) c)
  obtain ⟨h3, h4⟩ := He.ba h2
  exact ⟨h1, h3, h4⟩
theorem Told.fact (c : Told fa fn ex K) (i : Nat) {f : He.Fa} (h : fa[i]? = some f) : f.ok K = true := List.all_eq_true.mp c.bools.1 f (List.mem_of_getElem? h)
theorem Told.more (c : Told fa fn ex K) (i : Nat) {b : PySem.W.Frag → Bool} (h : ex[i]? = some b) : b K = true := List.all_eq_true.mp c.bools.2.2 b (List.mem_of_getElem? h)
theorem Told.def_ (c : Told fa fn ex K) (i : Nat) {d : Df} (h : fn[i]? = some d) : ∃ fd, FunD K d.name d.qual (defArgs d.st) (defBody d.st) (defScope d.st) (d.dfl.map (He.Dv.v K)) [] (d.adr K) fd := by
  have e : fn.map (seen K) = fn.map Df.is := congrArg (fun z : Obs => z.2) c
  have e2 : (fn.map (seen K))[i]? = (fn.map Df.is)[i]? := by rw [e]
  rw [List.getElem?_map, List.getElem?_map, h] at e2
  exact Df.fun_ (Option.some.inj e2) (List.all_eq_true.mp c.bools.2.1 d (List.mem_of_getElem? h))
end
/-! ### the defs -/
abbrev s_is_integer : Stmt := stAt 18
def d_is_integer : Df := { adr := fun K => He.ga K "is_integer", st := s_is_integer, name := "is_integer", qual := "is_integer" }
abbrev s_is_list : Stmt := stAt 19
def d_is_list : Df := { adr := fun K => He.ga K "is_list", st := s_is_list, name := "is_list", qual := "is_list" }
abbrev s_want_at_most : Stmt := stAt 20
def d_want_at_most : Df := { adr := fun K => He.ga K "want_at_most", st := s_want_at_most, name := "want_at_most", qual := "want_at_most" }
abbrev s_without_noughts : Stmt := stAt 22
def d_without_noughts : Df := { adr := fun K => He.ga K "without_noughts", st := s_without_noughts, name := "without_noughts", qual := "without_noughts" }
abbrev s_undone_rest : Stmt := stAt 23
def d_undone_rest : Df := { adr := fun K => He.ga K "undone_rest", st := s_undone_rest, name := "undone_rest", qual := "undone_rest" }
abbrev s_rests_in : Stmt := stAt 24
def d_rests_in : Df := { adr := fun K => He.ga K "rests_in", st := s_rests_in, name := "rests_in", qual := "rests_in" }
abbrev s_rest_sum : Stmt := stAt 25
def d_rest_sum : Df := { adr := fun K => He.ga K "rest_sum", st := s_rest_sum, name := "rest_sum", qual := "rest_sum" }
abbrev s_rest_less : Stmt := stAt 26
def d_rest_less : Df := { adr := fun K => He.ga K "rest_less", st := s_rest_less, name := "rest_less", qual := "rest_less" }
abbrev s_rest_times : Stmt := stAt 27
def d_rest_times : Df := { adr := fun K => He.ga K "rest_times", st := s_rest_times, name := "rest_times", qual := "rest_times" }
abbrev s_rest_parts : Stmt := stAt 28
def d_rest_parts : Df := { adr := fun K => He.ga K "rest_parts", st := s_rest_parts, name := "rest_parts", qual := "rest_parts" }
abbrev s_common_rests : Stmt := stAt 29
def d_common_rests : Df := { adr := fun K => He.ga K "common_rests", st := s_common_rests, name := "common_rests", qual := "common_rests" }
abbrev s_common_part : Stmt := stAt 33
def d_common_part : Df := { adr := fun K => He.ga K "common_part", st := s_common_part, name := "common_part", qual := "common_part" }
abbrev s_Ratio_init : Stmt := inClass (stAt 34) 0
def d_Ratio_init : Df := { adr := fun K => He.ma K (He.ga K "Ratio") "__init__", st := s_Ratio_init, name := "__init__", qual := "Ratio.__init__", dfl := [.int 1] }
abbrev s_Ratio_top : Stmt := inClass (stAt 34) 1
def d_Ratio_top : Df := { adr := fun K => gAd K "Ratio" "top", st := s_Ratio_top, name := "top", qual := "Ratio.top" }
abbrev s_Ratio_bottom : Stmt := inClass (stAt 34) 2
def d_Ratio_bottom : Df := { adr := fun K => gAd K "Ratio" "bottom", st := s_Ratio_bottom, name := "bottom", qual := "Ratio.bottom" }
abbrev s_Ratio_sign : Stmt := inClass (stAt 34) 3
def d_Ratio_sign : Df := { adr := fun K => gAd K "Ratio" "sign", st := s_Ratio_sign, name := "sign", qual := "Ratio.sign" }
abbrev s_Ratio_is_whole : Stmt := inClass (stAt 34) 4
def d_Ratio_is_whole : Df := { adr := fun K => gAd K "Ratio" "is_whole", st := s_Ratio_is_whole, name := "is_whole", qual := "Ratio.is_whole" }
abbrev s_Ratio_add : Stmt := inClass (stAt 34) 6
def d_Ratio_add : Df := { adr := fun K => He.ma K (He.ga K "Ratio") "__add__", st := s_Ratio_add, name := "__add__", qual := "Ratio.__add__" }
abbrev s_Ratio_sub : Stmt := inClass (stAt 34) 8
def d_Ratio_sub : Df := { adr := fun K => He.ma K (He.ga K "Ratio") "__sub__", st := s_Ratio_sub, name := "__sub__", qual := "Ratio.__sub__" }
abbrev s_Ratio_mul : Stmt := inClass (stAt 34) 10
def d_Ratio_mul : Df := { adr := fun K => He.ma K (He.ga K "Ratio") "__mul__", st := s_Ratio_mul, name := "__mul__", qual := "Ratio.__mul__" }
abbrev s_Ratio_over : Stmt := inClass (stAt 34) 13
def d_Ratio_over : Df := { adr := fun K => He.ma K (He.ga K "Ratio") "over", st := s_Ratio_over, name := "over", qual := "Ratio.over" }
abbrev s_told_pair : Stmt := stAt 35
def d_told_pair : Df := { adr := fun K => He.ga K "told_pair", st := s_told_pair, name := "told_pair", qual := "told_pair" }
abbrev s_is_number : Stmt := stAt 36
def d_is_number : Df := { adr := fun K => He.ga K "is_number", st := s_is_number, name := "is_number", qual := "is_number" }
abbrev s_ratio_of : Stmt := stAt 37
def d_ratio_of : Df := { adr := fun K => He.ga K "ratio_of", st := s_ratio_of, name := "ratio_of", qual := "ratio_of" }
abbrev s_wholes : Stmt := stAt 39
def d_wholes : Df := { adr := fun K => He.ga K "wholes", st := s_wholes, name := "wholes", qual := "wholes" }
abbrev s_is_poly : Stmt := stAt 43
def d_is_poly : Df := { adr := fun K => He.ga K "is_poly", st := s_is_poly, name := "is_poly", qual := "is_poly" }
abbrev s_trimmed : Stmt := stAt 44
def d_trimmed : Df := { adr := fun K => He.ga K "trimmed", st := s_trimmed, name := "trimmed", qual := "trimmed" }
abbrev s_want_poly : Stmt := stAt 45
def d_want_poly : Df := { adr := fun K => He.ga K "want_poly", st := s_want_poly, name := "want_poly", qual := "want_poly" }
abbrev s_sum_of : Stmt := stAt 46
def d_sum_of : Df := { adr := fun K => He.ga K "sum_of", st := s_sum_of, name := "sum_of", qual := "sum_of" }
abbrev s_by_number : Stmt := stAt 47
def d_by_number : Df := { adr := fun K => He.ga K "by_number", st := s_by_number, name := "by_number", qual := "by_number" }
abbrev s_less_of : Stmt := stAt 48
def d_less_of : Df := { adr := fun K => He.ga K "less_of", st := s_less_of, name := "less_of", qual := "less_of" }
abbrev s_int_product : Stmt := stAt 49
def d_int_product : Df := { adr := fun K => He.ga K "int_product", st := s_int_product, name := "int_product", qual := "int_product" }
abbrev s_product_of : Stmt := stAt 50
def d_product_of : Df := { adr := fun K => He.ga K "product_of", st := s_product_of, name := "product_of", qual := "product_of" }
abbrev s_square_of : Stmt := stAt 51
def d_square_of : Df := { adr := fun K => He.ga K "square_of", st := s_square_of, name := "square_of", qual := "square_of" }
abbrev s_slope_of : Stmt := stAt 52
def d_slope_of : Df := { adr := fun K => He.ga K "slope_of", st := s_slope_of, name := "slope_of", qual := "slope_of" }
abbrev s_plain_row : Stmt := stAt 54
def d_plain_row : Df := { adr := fun K => He.ga K "plain_row", st := s_plain_row, name := "plain_row", qual := "plain_row" }
abbrev s_int_rest : Stmt := stAt 55
def d_int_rest : Df := { adr := fun K => He.ga K "int_rest", st := s_int_rest, name := "int_rest", qual := "int_rest" }
abbrev s_int_common : Stmt := stAt 56
def d_int_common : Df := { adr := fun K => He.ga K "int_common", st := s_int_common, name := "int_common", qual := "int_common" }
abbrev s_common_of : Stmt := stAt 57
def d_common_of : Df := { adr := fun K => He.ga K "common_of", st := s_common_of, name := "common_of", qual := "common_of" }
abbrev s_is_squared : Stmt := stAt 58
def d_is_squared : Df := { adr := fun K => He.ga K "is_squared", st := s_is_squared, name := "is_squared", qual := "is_squared" }
abbrev s_power_of : Stmt := stAt 61
def d_power_of : Df := { adr := fun K => He.ga K "power_of", st := s_power_of, name := "power_of", qual := "power_of" }
abbrev s_whole_root : Stmt := stAt 62
def d_whole_root : Df := { adr := fun K => He.ga K "whole_root", st := s_whole_root, name := "whole_root", qual := "whole_root" }
abbrev s_order_root : Stmt := stAt 63
def d_order_root : Df := { adr := fun K => He.ga K "order_root", st := s_order_root, name := "order_root", qual := "order_root" }
abbrev s_square_root : Stmt := stAt 64
def d_square_root : Df := { adr := fun K => He.ga K "square_root", st := s_square_root, name := "square_root", qual := "square_root" }
abbrev s_numbers_of : Stmt := stAt 65
def d_numbers_of : Df := { adr := fun K => He.ga K "numbers_of", st := s_numbers_of, name := "numbers_of", qual := "numbers_of" }
abbrev s_right_poly : Stmt := stAt 66
def d_right_poly : Df := { adr := fun K => He.ga K "right_poly", st := s_right_poly, name := "right_poly", qual := "right_poly" }
abbrev s_Root_init : Stmt := inClass (stAt 68) 0
def d_Root_init : Df := { adr := fun K => He.ma K (He.ga K "Root") "__init__", st := s_Root_init, name := "__init__", qual := "Root.__init__" }
abbrev s_Root_half : Stmt := inClass (stAt 68) 2
def d_Root_half : Df := { adr := fun K => gAd K "Root" "half", st := s_Root_half, name := "half", qual := "Root.half" }
abbrev s_Root_nearest : Stmt := inClass (stAt 68) 4
def d_Root_nearest : Df := { adr := fun K => He.ma K (He.ga K "Root") "nearest", st := s_Root_nearest, name := "nearest", qual := "Root.nearest" }
abbrev s_want_root : Stmt := stAt 69
def d_want_root : Df := { adr := fun K => He.ga K "want_root", st := s_want_root, name := "want_root", qual := "want_root" }
abbrev s_is_prime_number : Stmt := stAt 72
def d_is_prime_number : Df := { adr := fun K => He.ga K "is_prime_number", st := s_is_prime_number, name := "is_prime_number", qual := "is_prime_number" }
abbrev s_is_prime : Stmt := stAt 73
def d_is_prime : Df := { adr := fun K => He.ga K "is_prime", st := s_is_prime, name := "is_prime", qual := "is_prime" }
abbrev s_want_prime : Stmt := stAt 74
def d_want_prime : Df := { adr := fun K => He.ga K "want_prime", st := s_want_prime, name := "want_prime", qual := "want_prime" }
abbrev s_does_keep : Stmt := stAt 75
def d_does_keep : Df := { adr := fun K => He.ga K "does_keep", st := s_does_keep, name := "does_keep", qual := "does_keep" }
abbrev s_want_kept : Stmt := stAt 80
def d_want_kept : Df := { adr := fun K => He.ga K "want_kept", st := s_want_kept, name := "want_kept", qual := "want_kept" }
abbrev s_Walk_init : Stmt := inClass (stAt 81) 0
def d_Walk_init : Df := { adr := fun K => He.ma K (He.ga K "Walk") "__init__", st := s_Walk_init, name := "__init__", qual := "Walk.__init__" }
abbrev s_Walk_norm : Stmt := inClass (stAt 81) 1
def d_Walk_norm : Df := { adr := fun K => He.ma K (He.ga K "Walk") "norm", st := s_Walk_norm, name := "norm", qual := "Walk.norm" }
abbrev s_Walk_at_end : Stmt := inClass (stAt 81) 2
def d_Walk_at_end : Df := { adr := fun K => He.ma K (He.ga K "Walk") "at_end", st := s_Walk_at_end, name := "at_end", qual := "Walk.at_end" }
abbrev s_Walk_go : Stmt := inClass (stAt 81) 3
def d_Walk_go : Df := { adr := fun K => He.ma K (He.ga K "Walk") "go", st := s_Walk_go, name := "go", qual := "Walk.go" }
abbrev s_rest_walk : Stmt := stAt 82
def d_rest_walk : Df := { adr := fun K => He.ga K "rest_walk", st := s_rest_walk, name := "rest_walk", qual := "rest_walk" }
abbrev s_degree_at : Stmt := stAt 83
def d_degree_at : Df := { adr := fun K => He.ga K "degree_at", st := s_degree_at, name := "degree_at", qual := "degree_at" }
abbrev s_unit_at : Stmt := stAt 84
def d_unit_at : Df := { adr := fun K => He.ga K "unit_at", st := s_unit_at, name := "unit_at", qual := "unit_at" }
abbrev s_rests_of : Stmt := stAt 85
def d_rests_of : Df := { adr := fun K => He.ga K "rests_of", st := s_rests_of, name := "rests_of", qual := "rests_of" }
abbrev s_rest_degree : Stmt := stAt 86
def d_rest_degree : Df := { adr := fun K => He.ga K "rest_degree", st := s_rest_degree, name := "rest_degree", qual := "rest_degree" }
abbrev s_rest_unit : Stmt := stAt 87
def d_rest_unit : Df := { adr := fun K => He.ga K "rest_unit", st := s_rest_unit, name := "rest_unit", qual := "rest_unit" }
abbrev s_are_integers : Stmt := stAt 88
def d_are_integers : Df := { adr := fun K => He.ga K "are_integers", st := s_are_integers, name := "are_integers", qual := "are_integers" }
abbrev s_is_rest_unit : Stmt := stAt 89
def d_is_rest_unit : Df := { adr := fun K => He.ga K "is_rest_unit", st := s_is_rest_unit, name := "is_rest_unit", qual := "is_rest_unit" }
abbrev s_law_pot : Stmt := stAt 91
def d_law_pot : Df := { adr := fun K => He.ga K "_law_pot", st := s_law_pot, name := "_law_pot", qual := "_law_pot" }
abbrev s_law_draw : Stmt := stAt 92
def d_law_draw : Df := { adr := fun K => He.ga K "_law_draw", st := s_law_draw, name := "_law_draw", qual := "_law_draw" }
abbrev s_law_pick : Stmt := stAt 93
def d_law_pick : Df := { adr := fun K => He.ga K "_law_pick", st := s_law_pick, name := "_law_pick", qual := "_law_pick" }
abbrev s_law_trim : Stmt := stAt 94
def d_law_trim : Df := { adr := fun K => He.ga K "_law_trim", st := s_law_trim, name := "_law_trim", qual := "_law_trim" }
abbrev s_law_times : Stmt := stAt 95
def d_law_times : Df := { adr := fun K => He.ga K "_law_times", st := s_law_times, name := "_law_times", qual := "_law_times" }
abbrev s_law_plus : Stmt := stAt 96
def d_law_plus : Df := { adr := fun K => He.ga K "_law_plus", st := s_law_plus, name := "_law_plus", qual := "_law_plus" }
abbrev s_law_back : Stmt := stAt 97
def d_law_back : Df := { adr := fun K => He.ga K "_law_back", st := s_law_back, name := "_law_back", qual := "_law_back" }
abbrev s_law_split : Stmt := stAt 98
def d_law_split : Df := { adr := fun K => He.ga K "_law_split", st := s_law_split, name := "_law_split", qual := "_law_split" }
abbrev s_law_rests : Stmt := stAt 99
def d_law_rests : Df := { adr := fun K => He.ga K "_law_rests", st := s_law_rests, name := "_law_rests", qual := "_law_rests" }
abbrev s_law_keeps : Stmt := stAt 100
def d_law_keeps : Df := { adr := fun K => He.ga K "_law_keeps", st := s_law_keeps, name := "_law_keeps", qual := "_law_keeps" }
abbrev s_law_nearest : Stmt := stAt 101
def d_law_nearest : Df := { adr := fun K => He.ga K "_law_nearest", st := s_law_nearest, name := "_law_nearest", qual := "_law_nearest" }
abbrev s_law_walk : Stmt := stAt 102
def d_law_walk : Df := { adr := fun K => He.ga K "_law_walk", st := s_law_walk, name := "_law_walk", qual := "_law_walk" }
abbrev s_law_primes : Stmt := stAt 103
def d_law_primes : Df := { adr := fun K => He.ga K "_law_primes", st := s_law_primes, name := "_law_primes", qual := "_law_primes" }
abbrev s_law_kept : Stmt := stAt 104
def d_law_kept : Df := { adr := fun K => He.ga K "_law_kept", st := s_law_kept, name := "_law_kept", qual := "_law_kept" }
abbrev s_law_small : Stmt := stAt 105
def d_law_small : Df := { adr := fun K => He.ga K "_law_small", st := s_law_small, name := "_law_small", qual := "_law_small" }
abbrev s_law_whole_times : Stmt := stAt 106
def d_law_whole_times : Df := { adr := fun K => He.ga K "_law_whole_times", st := s_law_whole_times, name := "_law_whole_times", qual := "_law_whole_times" }
abbrev s_law_less_number : Stmt := stAt 107
def d_law_less_number : Df := { adr := fun K => He.ga K "_law_less_number", st := s_law_less_number, name := "_law_less_number", qual := "_law_less_number" }
abbrev s_law_drawn : Stmt := stAt 108
def d_law_drawn : Df := { adr := fun K => He.ga K "_law_drawn", st := s_law_drawn, name := "_law_drawn", qual := "_law_drawn" }
abbrev s_law_passed : Stmt := stAt 109
def d_law_passed : Df := { adr := fun K => He.ga K "_law_passed", st := s_law_passed, name := "_law_passed", qual := "_law_passed" }
abbrev s_law_norm : Stmt := stAt 110
def d_law_norm : Df := { adr := fun K => He.ga K "_law_norm", st := s_law_norm, name := "_law_norm", qual := "_law_norm" }
abbrev s_law_is_bounded : Stmt := stAt 111
def d_law_is_bounded : Df := { adr := fun K => He.ga K "_law_is_bounded", st := s_law_is_bounded, name := "_law_is_bounded", qual := "_law_is_bounded" }
abbrev s_law_prime_right : Stmt := stAt 112
def d_law_prime_right : Df := { adr := fun K => He.ga K "_law_prime_right", st := s_law_prime_right, name := "_law_prime_right", qual := "_law_prime_right" }
abbrev s_law_right : Stmt := stAt 113
def d_law_right : Df := { adr := fun K => He.ga K "_law_right", st := s_law_right, name := "_law_right", qual := "_law_right" }
abbrev s_law : Stmt := stAt 114
def d_law : Df := { adr := fun K => He.ga K "law", st := s_law, name := "law", qual := "law" }
def fn : List Df := [d_is_integer, d_is_list, d_want_at_most, d_without_noughts, d_undone_rest, d_rests_in, d_rest_sum, d_rest_less, d_rest_times, d_rest_parts, d_common_rests, d_common_part, d_Ratio_init, d_Ratio_top, d_Ratio_bottom, d_Ratio_sign, d_Ratio_is_whole, d_Ratio_add, d_Ratio_sub, d_Ratio_mul, d_Ratio_over, d_told_pair, d_is_number, d_ratio_of, d_wholes, d_is_poly, d_trimmed, d_want_poly, d_sum_of, d_by_number, d_less_of, d_int_product, d_product_of, d_square_of, d_slope_of, d_plain_row, d_int_rest, d_int_common, d_common_of, d_is_squared, d_power_of, d_whole_root, d_order_root, d_square_root, d_numbers_of, d_right_poly, d_Root_init, d_Root_half, d_Root_nearest, d_want_root, d_is_prime_number, d_is_prime, d_want_prime, d_does_keep, d_want_kept, d_Walk_init, d_Walk_norm, d_Walk_at_end, d_Walk_go, d_rest_walk, d_degree_at, d_unit_at, d_rests_of, d_rest_degree, d_rest_unit, d_are_integers, d_is_rest_unit, d_law_pot, d_law_draw, d_law_pick, d_law_trim, d_law_times, d_law_plus, d_law_back, d_law_split, d_law_rests, d_law_keeps, d_law_nearest, d_law_walk, d_law_primes, d_law_kept, d_law_small, d_law_whole_times, d_law_less_number, d_law_drawn, d_law_passed, d_law_norm, d_law_is_bounded, d_law_prime_right, d_law_right, d_law]
def fa : List He.Fa := [.glo "is_integer",
  .glo "is_list",
  .glo "want_at_most",
  .glo "without_noughts",
  .glo "undone_rest",
  .glo "rests_in",
  .glo "rest_sum",
  .glo "rest_less",
  .glo "rest_times",
  .glo "rest_parts",
  .glo "common_rests",
  .glo "common_part",
  .glo "told_pair",
  .glo "is_number",
  .glo "ratio_of",
  .glo "wholes",
  .glo "is_poly",
  .glo "trimmed",
  .glo "want_poly",
  .glo "sum_of",
  .glo "by_number",
  .glo "less_of",
  .glo "int_product",
  .glo "product_of",
  .glo "square_of",
  .glo "slope_of",
  .glo "plain_row",
  .glo "int_rest",
  .glo "int_common",
  .glo "common_of",
  .glo "is_squared",
  .glo "power_of",
  .glo "whole_root",
  .glo "order_root",
  .glo "square_root",
  .glo "numbers_of",
  .glo "right_poly",
  .glo "want_root",
  .glo "is_prime_number",
  .glo "is_prime",
  .glo "want_prime",
  .glo "does_keep",
  .glo "want_kept",
  .glo "rest_walk",
  .glo "degree_at",
  .glo "unit_at",
  .glo "rests_of",
  .glo "rest_degree",
  .glo "rest_unit",
  .glo "are_integers",
  .glo "is_rest_unit",
  .glo "_law_pot",
  .glo "_law_draw",
  .glo "_law_pick",
  .glo "_law_trim",
  .glo "_law_times",
  .glo "_law_plus",
  .glo "_law_back",
  .glo "_law_split",
  .glo "_law_rests",
  .glo "_law_keeps",
  .glo "_law_nearest",
  .glo "_law_walk",
  .glo "_law_primes",
  .glo "_law_kept",
  .glo "_law_small",
  .glo "_law_whole_times",
  .glo "_law_less_number",
  .glo "_law_drawn",
  .glo "_law_passed",
  .glo "_law_norm",
  .glo "_law_is_bounded",
  .glo "_law_prime_right",
  .glo "_law_right",
  .glo "law",
  .glo "Ratio",
  .glo "Root",
  .glo "Walk",
  .glo "Known",
  .glo "DEGREES",
  .free "isinstance",
  .free "int",
  .free "bool",
  .free "list",
  .free "tuple",
  .free "len",
  .free "abs",
  .free "max",
  .free "divmod",
  .free "enumerate",
  .free "zip",
  .free "range",
  .free "all",
  .free "repr",
  .int "MOST_NUMBERS" 61,
  .int "BELOW" 10000,
  .int "MOST_STEPS" 600,
  .int "MOST_DEGREE" 150,
  .int "MOST_RESTS" 400,
  .cls "Ratio",
  .mkr "Ratio",
  .noat "Ratio" "own_top",
  .noat "Ratio" "own_bottom",
  .cls "Root",
  .mkr "Root",
  .noat "Root" "own_poly",
  .noat "Root" "own_nearest",
  .noat "Root" "own_rest",
  .cls "Walk",
  .mkr "Walk",
  .noat "Walk" "own_prime",
  .noat "Walk" "own_poly",
  .noat "Walk" "own_nearest",
  .noat "Walk" "own_first",
  .noat "Walk" "own_second",
  .noat "Walk" "own_degree",
  .meth "Ratio" "__add__",
  .meth "Ratio" "__sub__",
  .meth "Ratio" "__mul__",
  .meth "Ratio" "over",
  .meth "Root" "nearest",
  .meth "Walk" "norm",
  .meth "Walk" "at_end",
  .meth "Walk" "go"]
def exs : List (PySem.W.Frag → Bool) := [fun K => He.eqO (PySem.W.nsIn K mainGlobals "gcd") (some (some (.builtin "math.gcd"))),
  fun K => He.eqO (PySem.W.nsIn K mainGlobals "lcm") (some (some (.builtin "math.lcm"))),
  fun K => He.tupB K "DEGREES" [.int 2, .int 4, .int 6, .int 8],
  fun K => He.eqO (PySem.W.findIn K (.ref (He.ga K "Ratio")) "top") (some (some (.ref (He.ma K (He.ga K "Ratio") "top")))) && (He.eqO (PySem.W.specialIn K (.ref (He.ma K (He.ga K "Ratio") "top")) "__get__") (some (some (.builtin "property.__get__"))) && (decide (PySem.W.takesIn K (.ref (He.ma K (He.ga K "Ratio") "top")) = some true) && decide ((PySem.W.recIn K (He.ma K (He.ga K "Ratio") "top") "property").bind List.head? = some (.ref (gAd K "Ratio" "top"))))),
  fun K => He.eqO (PySem.W.findIn K (.ref (He.ga K "Ratio")) "bottom") (some (some (.ref (He.ma K (He.ga K "Ratio") "bottom")))) && (He.eqO (PySem.W.specialIn K (.ref (He.ma K (He.ga K "Ratio") "bottom")) "__get__") (some (some (.builtin "property.__get__"))) && (decide (PySem.W.takesIn K (.ref (He.ma K (He.ga K "Ratio") "bottom")) = some true) && decide ((PySem.W.recIn K (He.ma K (He.ga K "Ratio") "bottom") "property").bind List.head? = some (.ref (gAd K "Ratio" "bottom"))))),
  fun K => He.eqO (PySem.W.findIn K (.ref (He.ga K "Ratio")) "sign") (some (some (.ref (He.ma K (He.ga K "Ratio") "sign")))) && (He.eqO (PySem.W.specialIn K (.ref (He.ma K (He.ga K "Ratio") "sign")) "__get__") (some (some (.builtin "property.__get__"))) && (decide (PySem.W.takesIn K (.ref (He.ma K (He.ga K "Ratio") "sign")) = some true) && decide ((PySem.W.recIn K (He.ma K (He.ga K "Ratio") "sign") "property").bind List.head? = some (.ref (gAd K "Ratio" "sign"))))),
  fun K => He.eqO (PySem.W.findIn K (.ref (He.ga K "Ratio")) "is_whole") (some (some (.ref (He.ma K (He.ga K "Ratio") "is_whole")))) && (He.eqO (PySem.W.specialIn K (.ref (He.ma K (He.ga K "Ratio") "is_whole")) "__get__") (some (some (.builtin "property.__get__"))) && (decide (PySem.W.takesIn K (.ref (He.ma K (He.ga K "Ratio") "is_whole")) = some true) && decide ((PySem.W.recIn K (He.ma K (He.ga K "Ratio") "is_whole") "property").bind List.head? = some (.ref (gAd K "Ratio" "is_whole"))))),
  fun K => He.eqO (PySem.W.findIn K (.ref (He.ga K "Root")) "half") (some (some (.ref (He.ma K (He.ga K "Root") "half")))) && (He.eqO (PySem.W.specialIn K (.ref (He.ma K (He.ga K "Root") "half")) "__get__") (some (some (.builtin "property.__get__"))) && (decide (PySem.W.takesIn K (.ref (He.ma K (He.ga K "Root") "half")) = some true) && decide ((PySem.W.recIn K (He.ma K (He.ga K "Root") "half") "property").bind List.head? = some (.ref (gAd K "Root" "half"))))),
  fun K => He.eqO (PySem.W.findIn K (.ref (He.ga K "Ratio")) "__class__") (some (some (.builtin "object.__class__"))) && (He.eqO (PySem.W.specialIn K (.builtin "object.__class__") "__get__") (some (some (.builtin "getset_descriptor.__get__"))) && (decide (PySem.W.takesIn K (.builtin "object.__class__") = some true) && decide (PySem.W.mroIn K (He.ga K "Ratio") (.type "object") = some true))),
  fun K => He.eqO (PySem.W.findIn K (.ref (He.ga K "Root")) "__class__") (some (some (.builtin "object.__class__"))) && (He.eqO (PySem.W.specialIn K (.builtin "object.__class__") "__get__") (some (some (.builtin "getset_descriptor.__get__"))) && (decide (PySem.W.takesIn K (.builtin "object.__class__") = some true) && decide (PySem.W.mroIn K (He.ga K "Root") (.type "object") = some true))),
  fun K => decide (PySem.W.kitOne K (.ref (He.ga K "Ratio")) (.ref (He.ga K "Ratio")) = some true),
  fun K => decide (PySem.W.kitOne K (.ref (He.ga K "Root")) (.ref (He.ga K "Root")) = some true),
  fun K => decide (PySem.W.kitOne K (.type "int") (.ref (He.ga K "Ratio")) = some false),
  fun K => decide (PySem.W.kitOne K (.ref (He.ga K "Ratio")) (.type "int") = some false),
  fun K => decide (PySem.W.kitOne K (.type "list") (.ref (He.ga K "Known")) = some false),
  fun K => decide (PySem.W.kitOne K (.type "int") (.type "int") = some true),
  fun K => decide (PySem.W.kitOne K (.type "int") (.type "bool") = some false),
  fun K => decide (PySem.W.kitOne K (.type "list") (.type "list") = some true),
  fun K => decide (PySem.W.kitOne K (.type "tuple") (.type "tuple") = some true),
  fun K => decide (PySem.W.kitOne K (.type "tuple") (.type "list") = some false),
  fun K => PySem.W.selfFirst K (He.ga K "Ratio"),
  fun K => decide (PySem.W.subIn K (.type "int") (.ref (He.ga K "Ratio")) = some false),
  fun K => He.eqO (PySem.W.findIn K (.ref (He.ga K "Ratio")) (dunderR "mul")) (some (some (.ref (He.ma K (He.ga K "Ratio") (dunderR "mul"))))),
  fun K => (PySem.W.findIn K (.type "int") (PySem.dunder "mul")).isSome && (PySem.W.findIn K (.type "int") (dunderR "mul")).isSome]
def loose0 : List PySem.Str := ["_wall", "RootError", "StateError", "LimitError", "InvalidNumber", "InvalidPoly", "InvalidPrime", "InvalidRoot", "DividedByZero", "WrongDegree", "NotKept", "BottomNought", "HasSquare", "NoSquareHead", "TooMany", "is_integer", "is_list", "want_at_most", "without_noughts", "undone_rest", "rests_in", "rest_sum", "rest_less", "rest_times", "rest_parts", "common_rests", "PART", "digits_of", "common_part", "Ratio"]
def loose1 : List PySem.Str := ["told_pair", "is_number", "ratio_of", "want_number", "wholes", "total_of", "MOST_NUMBERS", "is_poly", "trimmed", "want_poly", "sum_of", "by_number", "less_of", "int_product", "product_of", "square_of", "slope_of", "plain_row", "int_rest", "int_common", "common_of", "is_squared", "DEGREES", "power_of", "whole_root", "order_root", "square_root", "numbers_of", "right_poly", "Known"]
def loose2 : List PySem.Str := ["Root", "want_root", "BELOW", "is_prime_number", "is_prime", "want_prime", "does_keep", "MOST_STEPS", "MOST_DEGREE", "MOST_RESTS", "want_kept", "Walk", "rest_walk", "degree_at", "unit_at", "rests_of", "rest_degree", "rest_unit", "are_integers", "is_rest_unit", "_law_pot", "_law_draw", "_law_pick", "_law_trim", "_law_times", "_law_plus", "_law_back", "_law_split", "_law_rests", "_law_keeps"]
def loose3 : List PySem.Str := ["_law_nearest", "_law_walk", "_law_primes", "_law_kept", "_law_small", "_law_whole_times", "_law_less_number", "_law_drawn", "_law_passed", "_law_norm", "_law_is_bounded", "_law_prime_right", "_law_right"]
def loose : List PySem.Str := loose0 ++ loose1 ++ loose2 ++ loose3
abbrev R : PySem.W.OpenRow := PySem.W.OpenLaw.row PySem.Challenge.rw_rootsround_k53_whole_least_units_by_rest
abbrev hk : PySem.W.Hook := hook fa fn exs
def ob (s : PySem.W.SharedT) : Obs := obsAt fa fn exs (HandSHeadRun.getT s)
theorem ob_eq (s : PySem.W.SharedT) : ob s = hk.obs s.abs := by
  have e : HandSHeadRun.getT s = s.abs.heap.get? := funext (HandSHeadRun.getT_eq s)
  unfold ob
  rw [e] <;> rfl
/-- what the walk leans on: the facts, the module's names -/
structure Txt (K : PySem.W.Frag) (mg : Str → Option Value) : Prop where
  told : Told fa fn exs K
  ns : ∃ h : Heap, K.In h ∧ h.Ns mainGlobals mg
section
variable {K : PySem.W.Frag} {mg : Str → Option Value}
theorem Txt.g_is_integer (T : Txt K mg) : mg "is_integer" = some (.ref (He.ga K "is_integer")) := let ⟨_, X, G⟩ := T.ns; He.glo_ok X G (T.told.fact 0 rfl)
theorem Txt.g_is_list (T : Txt K mg) : mg "is_list" = some (.ref (He.ga K "is_list")) := let ⟨_, X, G⟩ := T.ns; He.glo_ok X G (T.told.fact 1 rfl)
theorem Txt.g_want_at_most (T : Txt K mg) : mg "want_at_most" = some (.ref (He.ga K "want_at_most")) := let ⟨_, X, G⟩ := T.ns; He.glo_ok X G (T.told.fact 2 rfl)
theorem Txt.g_without_noughts (T : Txt K mg) : mg "without_noughts" = some (.ref (He.ga K "without_noughts")) := let ⟨_, X, G⟩ := T.ns; He.glo_ok X G (T.told.fact 3 rfl)
theorem Txt.g_undone_rest (T : Txt K mg) : mg "undone_rest" = some (.ref (He.ga K "undone_rest")) := let ⟨_, X, G⟩ := T.ns; He.glo_ok X G (T.told.fact 4 rfl)
theorem Txt.g_rests_in (T : Txt K mg) : mg "rests_in" = some (.ref (He.ga K "rests_in")) := let ⟨_, X, G⟩ := T.ns; He.glo_ok X G (T.told.fact 5 rfl)
theorem Txt.g_rest_sum (T : Txt K mg) : mg "rest_sum" = some (.ref (He.ga K "rest_sum")) := let ⟨_, X, G⟩ := T.ns; He.glo_ok X G (T.told.fact 6 rfl)
theorem Txt.g_rest_less (T : Txt K mg) : mg "rest_less" = some (.ref (He.ga K "rest_less")) := let ⟨_, X, G⟩ := T.ns; He.glo_ok X G (T.told.fact 7 rfl)
theorem Txt.g_rest_times (T : Txt K mg) : mg "rest_times" = some (.ref (He.ga K "rest_times")) := let ⟨_, X, G⟩ := T.ns; He.glo_ok X G (T.told.fact 8 rfl)
theorem Txt.g_rest_parts (T : Txt K mg) : mg "rest_parts" = some (.ref (He.ga K "rest_parts")) := let ⟨_, X, G⟩ := T.ns; He.glo_ok X G (T.told.fact 9 rfl)
theorem Txt.g_common_rests (T : Txt K mg) : mg "common_rests" = some (.ref (He.ga K "common_rests")) := let ⟨_, X, G⟩ := T.ns; He.glo_ok X G (T.told.fact 10 rfl)
theorem Txt.g_common_part (T : Txt K mg) : mg "common_part" = some (.ref (He.ga K "common_part")) := let ⟨_, X, G⟩ := T.ns; He.glo_ok X G (T.told.fact 11 rfl)
theorem Txt.g_told_pair (T : Txt K mg) : mg "told_pair" = some (.ref (He.ga K "told_pair")) := let ⟨_, X, G⟩ := T.ns; He.glo_ok X G (T.told.fact 12 rfl)
theorem Txt.g_is_number (T : Txt K mg) : mg "is_number" = some (.ref (He.ga K "is_number")) := let ⟨_, X, G⟩ := T.ns; He.glo_ok X G (T.told.fact 13 rfl)
theorem Txt.g_ratio_of (T : Txt K mg) : mg "ratio_of" = some (.ref (He.ga K "ratio_of")) := let ⟨_, X, G⟩ := T.ns; He.glo_ok X G (T.told.fact 14 rfl)
theorem Txt.g_wholes (T : Txt K mg) : mg "wholes" = some (.ref (He.ga K "wholes")) := let ⟨_, X, G⟩ := T.ns; He.glo_ok X G (T.told.fact 15 rfl)
theorem Txt.g_is_poly (T : Txt K mg) : mg "is_poly" = some (.ref (He.ga K "is_poly")) := let ⟨_, X, G⟩ := T.ns; He.glo_ok X G (T.told.fact 16 rfl)
theorem Txt.g_trimmed (T : Txt K mg) : mg "trimmed" = some (.ref (He.ga K "trimmed")) := let ⟨_, X, G⟩ := T.ns; He.glo_ok X G (T.told.fact 17 rfl)
theorem Txt.g_want_poly (T : Txt K mg) : mg "want_poly" = some (.ref (He.ga K "want_poly")) := let ⟨_, X, G⟩ := T.ns; He.glo_ok X G (T.told.fact 18 rfl)
theorem Txt.g_sum_of (T : Txt K mg) : mg "sum_of" = some (.ref (He.ga K "sum_of")) := let ⟨_, X, G⟩ := T.ns; He.glo_ok X G (T.told.fact 19 rfl)
theorem Txt.g_by_number (T : Txt K mg) : mg "by_number" = some (.ref (He.ga K "by_number")) := let ⟨_, X, G⟩ := T.ns; He.glo_ok X G (T.told.fact 20 rfl)
theorem Txt.g_less_of (T : Txt K mg) : mg "less_of" = some (.ref (He.ga K "less_of")) := let ⟨_, X, G⟩ := T.ns; He.glo_ok X G (T.told.fact 21 rfl)
theorem Txt.g_int_product (T : Txt K mg) : mg "int_product" = some (.ref (He.ga K "int_product")) := let ⟨_, X, G⟩ := T.ns; He.glo_ok X G (T.told.fact 22 rfl)
theorem Txt.g_product_of (T : Txt K mg) : mg "product_of" = some (.ref (He.ga K "product_of")) := let ⟨_, X, G⟩ := T.ns; He.glo_ok X G (T.told.fact 23 rfl)
theorem Txt.g_square_of (T : Txt K mg) : mg "square_of" = some (.ref (He.ga K "square_of")) := let ⟨_, X, G⟩ := T.ns; He.glo_ok X G (T.told.fact 24 rfl)
theorem Txt.g_slope_of (T : Txt K mg) : mg "slope_of" = some (.ref (He.ga K "slope_of")) := let ⟨_, X, G⟩ := T.ns; He.glo_ok X G (T.told.fact 25 rfl)
theorem Txt.g_plain_row (T : Txt K mg) : mg "plain_row" = some (.ref (He.ga K "plain_row")) := let ⟨_, X, G⟩ := T.ns; He.glo_ok X G (T.told.fact 26 rfl)
theorem Txt.g_int_rest (T : Txt K mg) : mg "int_rest" = some (.ref (He.ga K "int_rest")) := let ⟨_, X, G⟩ := T.ns; He.glo_ok X G (T.told.fact 27 rfl)
theorem Txt.g_int_common (T : Txt K mg) : mg "int_common" = some (.ref (He.ga K "int_common")) := let ⟨_, X, G⟩ := T.ns; He.glo_ok X G (T.told.fact 28 rfl)
theorem Txt.g_common_of (T : Txt K mg) : mg "common_of" = some (.ref (He.ga K "common_of")) := let ⟨_, X, G⟩ := T.ns; He.glo_ok X G (T.told.fact 29 rfl)
theorem Txt.g_is_squared (T : Txt K mg) : mg "is_squared" = some (.ref (He.ga K "is_squared")) := let ⟨_, X, G⟩ := T.ns; He.glo_ok X G (T.told.fact 30 rfl)
theorem Txt.g_power_of (T : Txt K mg) : mg "power_of" = some (.ref (He.ga K "power_of")) := let ⟨_, X, G⟩ := T.ns; He.glo_ok X G (T.told.fact 31 rfl)
theorem Txt.g_whole_root (T : Txt K mg) : mg "whole_root" = some (.ref (He.ga K "whole_root")) := let ⟨_, X, G⟩ := T.ns; He.glo_ok X G (T.told.fact 32 rfl)
theorem Txt.g_order_root (T : Txt K mg) : mg "order_root" = some (.ref (He.ga K "order_root")) := let ⟨_, X, G⟩ := T.ns; He.glo_ok X G (T.told.fact 33 rfl)
theorem Txt.g_square_root (T : Txt K mg) : mg "square_root" = some (.ref (He.ga K "square_root")) := let ⟨_, X, G⟩ := T.ns; He.glo_ok X G (T.told.fact 34 rfl)
theorem Txt.g_numbers_of (T : Txt K mg) : mg "numbers_of" = some (.ref (He.ga K "numbers_of")) := let ⟨_, X, G⟩ := T.ns; He.glo_ok X G (T.told.fact 35 rfl)
theorem Txt.g_right_poly (T : Txt K mg) : mg "right_poly" = some (.ref (He.ga K "right_poly")) := let ⟨_, X, G⟩ := T.ns; He.glo_ok X G (T.told.fact 36 rfl)
theorem Txt.g_want_root (T : Txt K mg) : mg "want_root" = some (.ref (He.ga K "want_root")) := let ⟨_, X, G⟩ := T.ns; He.glo_ok X G (T.told.fact 37 rfl)
theorem Txt.g_is_prime_number (T : Txt K mg) : mg "is_prime_number" = some (.ref (He.ga K "is_prime_number")) := let ⟨_, X, G⟩ := T.ns; He.glo_ok X G (T.told.fact 38 rfl)
theorem Txt.g_is_prime (T : Txt K mg) : mg "is_prime" = some (.ref (He.ga K "is_prime")) := let ⟨_, X, G⟩ := T.ns; He.glo_ok X G (T.told.fact 39 rfl)
theorem Txt.g_want_prime (T : Txt K mg) : mg "want_prime" = some (.ref (He.ga K "want_prime")) := let ⟨_, X, G⟩ := T.ns; He.glo_ok X G (T.told.fact 40 rfl)
theorem Txt.g_does_keep (T : Txt K mg) : mg "does_keep" = some (.ref (He.ga K "does_keep")) := let ⟨_, X, G⟩ := T.ns; He.glo_ok X G (T.told.fact 41 rfl)
theorem Txt.g_want_kept (T : Txt K mg) : mg "want_kept" = some (.ref (He.ga K "want_kept")) := let ⟨_, X, G⟩ := T.ns; He.glo_ok X G (T.told.fact 42 rfl)
theorem Txt.g_rest_walk (T : Txt K mg) : mg "rest_walk" = some (.ref (He.ga K "rest_walk")) := let ⟨_, X, G⟩ := T.ns; He.glo_ok X G (T.told.fact 43 rfl)
theorem Txt.g_degree_at (T : Txt K mg) : mg "degree_at" = some (.ref (He.ga K "degree_at")) := let ⟨_, X, G⟩ := T.ns; He.glo_ok X G (T.told.fact 44 rfl)
theorem Txt.g_unit_at (T : Txt K mg) : mg "unit_at" = some (.ref (He.ga K "unit_at")) := let ⟨_, X, G⟩ := T.ns; He.glo_ok X G (T.told.fact 45 rfl)
theorem Txt.g_rests_of (T : Txt K mg) : mg "rests_of" = some (.ref (He.ga K "rests_of")) := let ⟨_, X, G⟩ := T.ns; He.glo_ok X G (T.told.fact 46 rfl)
theorem Txt.g_rest_degree (T : Txt K mg) : mg "rest_degree" = some (.ref (He.ga K "rest_degree")) := let ⟨_, X, G⟩ := T.ns; He.glo_ok X G (T.told.fact 47 rfl)
theorem Txt.g_rest_unit (T : Txt K mg) : mg "rest_unit" = some (.ref (He.ga K "rest_unit")) := let ⟨_, X, G⟩ := T.ns; He.glo_ok X G (T.told.fact 48 rfl)
theorem Txt.g_are_integers (T : Txt K mg) : mg "are_integers" = some (.ref (He.ga K "are_integers")) := let ⟨_, X, G⟩ := T.ns; He.glo_ok X G (T.told.fact 49 rfl)
theorem Txt.g_is_rest_unit (T : Txt K mg) : mg "is_rest_unit" = some (.ref (He.ga K "is_rest_unit")) := let ⟨_, X, G⟩ := T.ns; He.glo_ok X G (T.told.fact 50 rfl)
theorem Txt.g_law_pot (T : Txt K mg) : mg "_law_pot" = some (.ref (He.ga K "_law_pot")) := let ⟨_, X, G⟩ := T.ns; He.glo_ok X G (T.told.fact 51 rfl)
theorem Txt.g_law_draw (T : Txt K mg) : mg "_law_draw" = some (.ref (He.ga K "_law_draw")) := let ⟨_, X, G⟩ := T.ns; He.glo_ok X G (T.told.fact 52 rfl)
theorem Txt.g_law_pick (T : Txt K mg) : mg "_law_pick" = some (.ref (He.ga K "_law_pick")) := let ⟨_, X, G⟩ := T.ns; He.glo_ok X G (T.told.fact 53 rfl)
theorem Txt.g_law_trim (T : Txt K mg) : mg "_law_trim" = some (.ref (He.ga K "_law_trim")) := let ⟨_, X, G⟩ := T.ns; He.glo_ok X G (T.told.fact 54 rfl)
theorem Txt.g_law_times (T : Txt K mg) : mg "_law_times" = some (.ref (He.ga K "_law_times")) := let ⟨_, X, G⟩ := T.ns; He.glo_ok X G (T.told.fact 55 rfl)
theorem Txt.g_law_plus (T : Txt K mg) : mg "_law_plus" = some (.ref (He.ga K "_law_plus")) := let ⟨_, X, G⟩ := T.ns; He.glo_ok X G (T.told.fact 56 rfl)
theorem Txt.g_law_back (T : Txt K mg) : mg "_law_back" = some (.ref (He.ga K "_law_back")) := let ⟨_, X, G⟩ := T.ns; He.glo_ok X G (T.told.fact 57 rfl)
theorem Txt.g_law_split (T : Txt K mg) : mg "_law_split" = some (.ref (He.ga K "_law_split")) := let ⟨_, X, G⟩ := T.ns; He.glo_ok X G (T.told.fact 58 rfl)
theorem Txt.g_law_rests (T : Txt K mg) : mg "_law_rests" = some (.ref (He.ga K "_law_rests")) := let ⟨_, X, G⟩ := T.ns; He.glo_ok X G (T.told.fact 59 rfl)
theorem Txt.g_law_keeps (T : Txt K mg) : mg "_law_keeps" = some (.ref (He.ga K "_law_keeps")) := let ⟨_, X, G⟩ := T.ns; He.glo_ok X G (T.told.fact 60 rfl)
theorem Txt.g_law_nearest (T : Txt K mg) : mg "_law_nearest" = some (.ref (He.ga K "_law_nearest")) := let ⟨_, X, G⟩ := T.ns; He.glo_ok X G (T.told.fact 61 rfl)
theorem Txt.g_law_walk (T : Txt K mg) : mg "_law_walk" = some (.ref (He.ga K "_law_walk")) := let ⟨_, X, G⟩ := T.ns; He.glo_ok X G (T.told.fact 62 rfl)
theorem Txt.g_law_primes (T : Txt K mg) : mg "_law_primes" = some (.ref (He.ga K "_law_primes")) := let ⟨_, X, G⟩ := T.ns; He.glo_ok X G (T.told.fact 63 rfl)
theorem Txt.g_law_kept (T : Txt K mg) : mg "_law_kept" = some (.ref (He.ga K "_law_kept")) := let ⟨_, X, G⟩ := T.ns; He.glo_ok X G (T.told.fact 64 rfl)
theorem Txt.g_law_small (T : Txt K mg) : mg "_law_small" = some (.ref (He.ga K "_law_small")) := let ⟨_, X, G⟩ := T.ns; He.glo_ok X G (T.told.fact 65 rfl)
theorem Txt.g_law_whole_times (T : Txt K mg) : mg "_law_whole_times" = some (.ref (He.ga K "_law_whole_times")) := let ⟨_, X, G⟩ := T.ns; He.glo_ok X G (T.told.fact 66 rfl)
theorem Txt.g_law_less_number (T : Txt K mg) : mg "_law_less_number" = some (.ref (He.ga K "_law_less_number")) := let ⟨_, X, G⟩ := T.ns; He.glo_ok X G (T.told.fact 67 rfl)
theorem Txt.g_law_drawn (T : Txt K mg) : mg "_law_drawn" = some (.ref (He.ga K "_law_drawn")) := let ⟨_, X, G⟩ := T.ns; He.glo_ok X G (T.told.fact 68 rfl)
theorem Txt.g_law_passed (T : Txt K mg) : mg "_law_passed" = some (.ref (He.ga K "_law_passed")) := let ⟨_, X, G⟩ := T.ns; He.glo_ok X G (T.told.fact 69 rfl)
theorem Txt.g_law_norm (T : Txt K mg) : mg "_law_norm" = some (.ref (He.ga K "_law_norm")) := let ⟨_, X, G⟩ := T.ns; He.glo_ok X G (T.told.fact 70 rfl)
theorem Txt.g_law_is_bounded (T : Txt K mg) : mg "_law_is_bounded" = some (.ref (He.ga K "_law_is_bounded")) := let ⟨_, X, G⟩ := T.ns; He.glo_ok X G (T.told.fact 71 rfl)
theorem Txt.g_law_prime_right (T : Txt K mg) : mg "_law_prime_right" = some (.ref (He.ga K "_law_prime_right")) := let ⟨_, X, G⟩ := T.ns; He.glo_ok X G (T.told.fact 72 rfl)
theorem Txt.g_law_right (T : Txt K mg) : mg "_law_right" = some (.ref (He.ga K "_law_right")) := let ⟨_, X, G⟩ := T.ns; He.glo_ok X G (T.told.fact 73 rfl)
theorem Txt.g_law (T : Txt K mg) : mg "law" = some (.ref (He.ga K "law")) := let ⟨_, X, G⟩ := T.ns; He.glo_ok X G (T.told.fact 74 rfl)
theorem Txt.g_Ratio (T : Txt K mg) : mg "Ratio" = some (.ref (He.ga K "Ratio")) := let ⟨_, X, G⟩ := T.ns; He.glo_ok X G (T.told.fact 75 rfl)
theorem Txt.g_Root (T : Txt K mg) : mg "Root" = some (.ref (He.ga K "Root")) := let ⟨_, X, G⟩ := T.ns; He.glo_ok X G (T.told.fact 76 rfl)
theorem Txt.g_Walk (T : Txt K mg) : mg "Walk" = some (.ref (He.ga K "Walk")) := let ⟨_, X, G⟩ := T.ns; He.glo_ok X G (T.told.fact 77 rfl)
theorem Txt.g_Known (T : Txt K mg) : mg "Known" = some (.ref (He.ga K "Known")) := let ⟨_, X, G⟩ := T.ns; He.glo_ok X G (T.told.fact 78 rfl)
theorem Txt.g_DEGREES (T : Txt K mg) : mg "DEGREES" = some (.ref (He.ga K "DEGREES")) := let ⟨_, X, G⟩ := T.ns; He.glo_ok X G (T.told.fact 79 rfl)
theorem Txt.b_isinstance (T : Txt K mg) : mg "isinstance" = none := let ⟨_, X, G⟩ := T.ns; He.free_ok X G (T.told.fact 80 rfl)
theorem Txt.b_int (T : Txt K mg) : mg "int" = none := let ⟨_, X, G⟩ := T.ns; He.free_ok X G (T.told.fact 81 rfl)
theorem Txt.b_bool (T : Txt K mg) : mg "bool" = none := let ⟨_, X, G⟩ := T.ns; He.free_ok X G (T.told.fact 82 rfl)
theorem Txt.b_list (T : Txt K mg) : mg "list" = none := let ⟨_, X, G⟩ := T.ns; He.free_ok X G (T.told.fact 83 rfl)
theorem Txt.b_tuple (T : Txt K mg) : mg "tuple" = none := let ⟨_, X, G⟩ := T.ns; He.free_ok X G (T.told.fact 84 rfl)
theorem Txt.b_len (T : Txt K mg) : mg "len" = none := let ⟨_, X, G⟩ := T.ns; He.free_ok X G (T.told.fact 85 rfl)
theorem Txt.b_abs (T : Txt K mg) : mg "abs" = none := let ⟨_, X, G⟩ := T.ns; He.free_ok X G (T.told.fact 86 rfl)
theorem Txt.b_max (T : Txt K mg) : mg "max" = none := let ⟨_, X, G⟩ := T.ns; He.free_ok X G (T.told.fact 87 rfl)
theorem Txt.b_divmod (T : Txt K mg) : mg "divmod" = none := let ⟨_, X, G⟩ := T.ns; He.free_ok X G (T.told.fact 88 rfl)
theorem Txt.b_enumerate (T : Txt K mg) : mg "enumerate" = none := let ⟨_, X, G⟩ := T.ns; He.free_ok X G (T.told.fact 89 rfl)
theorem Txt.b_zip (T : Txt K mg) : mg "zip" = none := let ⟨_, X, G⟩ := T.ns; He.free_ok X G (T.told.fact 90 rfl)
theorem Txt.b_range (T : Txt K mg) : mg "range" = none := let ⟨_, X, G⟩ := T.ns; He.free_ok X G (T.told.fact 91 rfl)
theorem Txt.b_all (T : Txt K mg) : mg "all" = none := let ⟨_, X, G⟩ := T.ns; He.free_ok X G (T.told.fact 92 rfl)
theorem Txt.b_repr (T : Txt K mg) : mg "repr" = none := let ⟨_, X, G⟩ := T.ns; He.free_ok X G (T.told.fact 93 rfl)
theorem Txt.c_MOST_NUMBERS (T : Txt K mg) : ∃ t, mg "MOST_NUMBERS" = some (.int 61 t) := let ⟨_, X, G⟩ := T.ns; He.int_ok X G (T.told.fact 94 rfl)
theorem Txt.c_BELOW (T : Txt K mg) : ∃ t, mg "BELOW" = some (.int 10000 t) := let ⟨_, X, G⟩ := T.ns; He.int_ok X G (T.told.fact 95 rfl)
theorem Txt.c_MOST_STEPS (T : Txt K mg) : ∃ t, mg "MOST_STEPS" = some (.int 600 t) := let ⟨_, X, G⟩ := T.ns; He.int_ok X G (T.told.fact 96 rfl)
theorem Txt.c_MOST_DEGREE (T : Txt K mg) : ∃ t, mg "MOST_DEGREE" = some (.int 150 t) := let ⟨_, X, G⟩ := T.ns; He.int_ok X G (T.told.fact 97 rfl)
theorem Txt.c_MOST_RESTS (T : Txt K mg) : ∃ t, mg "MOST_RESTS" = some (.int 400 t) := let ⟨_, X, G⟩ := T.ns; He.int_ok X G (T.told.fact 98 rfl)
theorem Txt.cls_Ratio (T : Txt K mg) : Cls K (He.ga K "Ratio") := He.cls_ok (T.told.fact 99 rfl)
theorem Txt.mkr_Ratio (T : Txt K mg) : Mk K (He.ga K "Ratio") (He.ma K (He.ga K "Ratio") "__init__") := He.mkr_ok (T.told.fact 100 rfl)
theorem Txt.no_Ratio_own_top (T : Txt K mg) : NoAttr K (He.ga K "Ratio") "own_top" := He.noat_ok (T.told.fact 101 rfl)
theorem Txt.no_Ratio_own_bottom (T : Txt K mg) : NoAttr K (He.ga K "Ratio") "own_bottom" := He.noat_ok (T.told.fact 102 rfl)
theorem Txt.cls_Root (T : Txt K mg) : Cls K (He.ga K "Root") := He.cls_ok (T.told.fact 103 rfl)
theorem Txt.mkr_Root (T : Txt K mg) : Mk K (He.ga K "Root") (He.ma K (He.ga K "Root") "__init__") := He.mkr_ok (T.told.fact 104 rfl)
theorem Txt.no_Root_own_poly (T : Txt K mg) : NoAttr K (He.ga K "Root") "own_poly" := He.noat_ok (T.told.fact 105 rfl)
theorem Txt.no_Root_own_nearest (T : Txt K mg) : NoAttr K (He.ga K "Root") "own_nearest" := He.noat_ok (T.told.fact 106 rfl)
theorem Txt.no_Root_own_rest (T : Txt K mg) : NoAttr K (He.ga K "Root") "own_rest" := He.noat_ok (T.told.fact 107 rfl)
theorem Txt.cls_Walk (T : Txt K mg) : Cls K (He.ga K "Walk") := He.cls_ok (T.told.fact 108 rfl)
theorem Txt.mkr_Walk (T : Txt K mg) : Mk K (He.ga K "Walk") (He.ma K (He.ga K "Walk") "__init__") := He.mkr_ok (T.told.fact 109 rfl)
theorem Txt.no_Walk_own_prime (T : Txt K mg) : NoAttr K (He.ga K "Walk") "own_prime" := He.noat_ok (T.told.fact 110 rfl)
theorem Txt.no_Walk_own_poly (T : Txt K mg) : NoAttr K (He.ga K "Walk") "own_poly" := He.noat_ok (T.told.fact 111 rfl)
theorem Txt.no_Walk_own_nearest (T : Txt K mg) : NoAttr K (He.ga K "Walk") "own_nearest" := He.noat_ok (T.told.fact 112 rfl)
theorem Txt.no_Walk_own_first (T : Txt K mg) : NoAttr K (He.ga K "Walk") "own_first" := He.noat_ok (T.told.fact 113 rfl)
theorem Txt.no_Walk_own_second (T : Txt K mg) : NoAttr K (He.ga K "Walk") "own_second" := He.noat_ok (T.told.fact 114 rfl)
theorem Txt.no_Walk_own_degree (T : Txt K mg) : NoAttr K (He.ga K "Walk") "own_degree" := He.noat_ok (T.told.fact 115 rfl)
theorem Txt.m_Ratio_add (T : Txt K mg) : Meth K (He.ga K "Ratio") "__add__" (He.ma K (He.ga K "Ratio") "__add__") := He.meth_ok (T.told.fact 116 rfl)
theorem Txt.m_Ratio_sub (T : Txt K mg) : Meth K (He.ga K "Ratio") "__sub__" (He.ma K (He.ga K "Ratio") "__sub__") := He.meth_ok (T.told.fact 117 rfl)
theorem Txt.m_Ratio_mul (T : Txt K mg) : Meth K (He.ga K "Ratio") "__mul__" (He.ma K (He.ga K "Ratio") "__mul__") := He.meth_ok (T.told.fact 118 rfl)
theorem Txt.m_Ratio_over (T : Txt K mg) : Meth K (He.ga K "Ratio") "over" (He.ma K (He.ga K "Ratio") "over") := He.meth_ok (T.told.fact 119 rfl)
theorem Txt.m_Root_nearest (T : Txt K mg) : Meth K (He.ga K "Root") "nearest" (He.ma K (He.ga K "Root") "nearest") := He.meth_ok (T.told.fact 120 rfl)
theorem Txt.m_Walk_norm (T : Txt K mg) : Meth K (He.ga K "Walk") "norm" (He.ma K (He.ga K "Walk") "norm") := He.meth_ok (T.told.fact 121 rfl)
theorem Txt.m_Walk_at_end (T : Txt K mg) : Meth K (He.ga K "Walk") "at_end" (He.ma K (He.ga K "Walk") "at_end") := He.meth_ok (T.told.fact 122 rfl)
theorem Txt.m_Walk_go (T : Txt K mg) : Meth K (He.ga K "Walk") "go" (He.ma K (He.ga K "Walk") "go") := He.meth_ok (T.told.fact 123 rfl)
theorem Txt.d_is_integer (T : Txt K mg) : ∃ fd, FunD K d_is_integer.name d_is_integer.qual (defArgs s_is_integer) (defBody s_is_integer) (defScope s_is_integer) (d_is_integer.dfl.map (He.Dv.v K)) [] (d_is_integer.adr K) fd := T.told.def_ 0 rfl
theorem Txt.d_is_list (T : Txt K mg) : ∃ fd, FunD K d_is_list.name d_is_list.qual (defArgs s_is_list) (defBody s_is_list) (defScope s_is_list) (d_is_list.dfl.map (He.Dv.v K)) [] (d_is_list.adr K) fd := T.told.def_ 1 rfl
theorem Txt.d_want_at_most (T : Txt K mg) : ∃ fd, FunD K d_want_at_most.name d_want_at_most.qual (defArgs s_want_at_most) (defBody s_want_at_most) (defScope s_want_at_most) (d_want_at_most.dfl.map (He.Dv.v K)) [] (d_want_at_most.adr K) fd := T.told.def_ 2 rfl
theorem Txt.d_without_noughts (T : Txt K mg) : ∃ fd, FunD K d_without_noughts.name d_without_noughts.qual (defArgs s_without_noughts) (defBody s_without_noughts) (defScope s_without_noughts) (d_without_noughts.dfl.map (He.Dv.v K)) [] (d_without_noughts.adr K) fd := T.told.def_ 3 rfl
theorem Txt.d_undone_rest (T : Txt K mg) : ∃ fd, FunD K d_undone_rest.name d_undone_rest.qual (defArgs s_undone_rest) (defBody s_undone_rest) (defScope s_undone_rest) (d_undone_rest.dfl.map (He.Dv.v K)) [] (d_undone_rest.adr K) fd := T.told.def_ 4 rfl
theorem Txt.d_rests_in (T : Txt K mg) : ∃ fd, FunD K d_rests_in.name d_rests_in.qual (defArgs s_rests_in) (defBody s_rests_in) (defScope s_rests_in) (d_rests_in.dfl.map (He.Dv.v K)) [] (d_rests_in.adr K) fd := T.told.def_ 5 rfl
theorem Txt.d_rest_sum (T : Txt K mg) : ∃ fd, FunD K d_rest_sum.name d_rest_sum.qual (defArgs s_rest_sum) (defBody s_rest_sum) (defScope s_rest_sum) (d_rest_sum.dfl.map (He.Dv.v K)) [] (d_rest_sum.adr K) fd := T.told.def_ 6 rfl
theorem Txt.d_rest_less (T : Txt K mg) : ∃ fd, FunD K d_rest_less.name d_rest_less.qual (defArgs s_rest_less) (defBody s_rest_less) (defScope s_rest_less) (d_rest_less.dfl.map (He.Dv.v K)) [] (d_rest_less.adr K) fd := T.told.def_ 7 rfl
theorem Txt.d_rest_times (T : Txt K mg) : ∃ fd, FunD K d_rest_times.name d_rest_times.qual (defArgs s_rest_times) (defBody s_rest_times) (defScope s_rest_times) (d_rest_times.dfl.map (He.Dv.v K)) [] (d_rest_times.adr K) fd := T.told.def_ 8 rfl
theorem Txt.d_rest_parts (T : Txt K mg) : ∃ fd, FunD K d_rest_parts.name d_rest_parts.qual (defArgs s_rest_parts) (defBody s_rest_parts) (defScope s_rest_parts) (d_rest_parts.dfl.map (He.Dv.v K)) [] (d_rest_parts.adr K) fd := T.told.def_ 9 rfl
theorem Txt.d_common_rests (T : Txt K mg) : ∃ fd, FunD K d_common_rests.name d_common_rests.qual (defArgs s_common_rests) (defBody s_common_rests) (defScope s_common_rests) (d_common_rests.dfl.map (He.Dv.v K)) [] (d_common_rests.adr K) fd := T.told.def_ 10 rfl
theorem Txt.d_common_part (T : Txt K mg) : ∃ fd, FunD K d_common_part.name d_common_part.qual (defArgs s_common_part) (defBody s_common_part) (defScope s_common_part) (d_common_part.dfl.map (He.Dv.v K)) [] (d_common_part.adr K) fd := T.told.def_ 11 rfl
theorem Txt.d_Ratio_init (T : Txt K mg) : ∃ fd, FunD K d_Ratio_init.name d_Ratio_init.qual (defArgs s_Ratio_init) (defBody s_Ratio_init) (defScope s_Ratio_init) (d_Ratio_init.dfl.map (He.Dv.v K)) [] (d_Ratio_init.adr K) fd := T.told.def_ 12 rfl
theorem Txt.d_Ratio_top (T : Txt K mg) : ∃ fd, FunD K d_Ratio_top.name d_Ratio_top.qual (defArgs s_Ratio_top) (defBody s_Ratio_top) (defScope s_Ratio_top) (d_Ratio_top.dfl.map (He.Dv.v K)) [] (d_Ratio_top.adr K) fd := T.told.def_ 13 rfl
theorem Txt.d_Ratio_bottom (T : Txt K mg) : ∃ fd, FunD K d_Ratio_bottom.name d_Ratio_bottom.qual (defArgs s_Ratio_bottom) (defBody s_Ratio_bottom) (defScope s_Ratio_bottom) (d_Ratio_bottom.dfl.map (He.Dv.v K)) [] (d_Ratio_bottom.adr K) fd := T.told.def_ 14 rfl
theorem Txt.d_Ratio_sign (T : Txt K mg) : ∃ fd, FunD K d_Ratio_sign.name d_Ratio_sign.qual (defArgs s_Ratio_sign) (defBody s_Ratio_sign) (defScope s_Ratio_sign) (d_Ratio_sign.dfl.map (He.Dv.v K)) [] (d_Ratio_sign.adr K) fd := T.told.def_ 15 rfl
theorem Txt.d_Ratio_is_whole (T : Txt K mg) : ∃ fd, FunD K d_Ratio_is_whole.name d_Ratio_is_whole.qual (defArgs s_Ratio_is_whole) (defBody s_Ratio_is_whole) (defScope s_Ratio_is_whole) (d_Ratio_is_whole.dfl.map (He.Dv.v K)) [] (d_Ratio_is_whole.adr K) fd := T.told.def_ 16 rfl
theorem Txt.d_Ratio_add (T : Txt K mg) : ∃ fd, FunD K d_Ratio_add.name d_Ratio_add.qual (defArgs s_Ratio_add) (defBody s_Ratio_add) (defScope s_Ratio_add) (d_Ratio_add.dfl.map (He.Dv.v K)) [] (d_Ratio_add.adr K) fd := T.told.def_ 17 rfl
theorem Txt.d_Ratio_sub (T : Txt K mg) : ∃ fd, FunD K d_Ratio_sub.name d_Ratio_sub.qual (defArgs s_Ratio_sub) (defBody s_Ratio_sub) (defScope s_Ratio_sub) (d_Ratio_sub.dfl.map (He.Dv.v K)) [] (d_Ratio_sub.adr K) fd := T.told.def_ 18 rfl
theorem Txt.d_Ratio_mul (T : Txt K mg) : ∃ fd, FunD K d_Ratio_mul.name d_Ratio_mul.qual (defArgs s_Ratio_mul) (defBody s_Ratio_mul) (defScope s_Ratio_mul) (d_Ratio_mul.dfl.map (He.Dv.v K)) [] (d_Ratio_mul.adr K) fd := T.told.def_ 19 rfl
theorem Txt.d_Ratio_over (T : Txt K mg) : ∃ fd, FunD K d_Ratio_over.name d_Ratio_over.qual (defArgs s_Ratio_over) (defBody s_Ratio_over) (defScope s_Ratio_over) (d_Ratio_over.dfl.map (He.Dv.v K)) [] (d_Ratio_over.adr K) fd := T.told.def_ 20 rfl
theorem Txt.d_told_pair (T : Txt K mg) : ∃ fd, FunD K d_told_pair.name d_told_pair.qual (defArgs s_told_pair) (defBody s_told_pair) (defScope s_told_pair) (d_told_pair.dfl.map (He.Dv.v K)) [] (d_told_pair.adr K) fd := T.told.def_ 21 rfl
theorem Txt.d_is_number (T : Txt K mg) : ∃ fd, FunD K d_is_number.name d_is_number.qual (defArgs s_is_number) (defBody s_is_number) (defScope s_is_number) (d_is_number.dfl.map (He.Dv.v K)) [] (d_is_number.adr K) fd := T.told.def_ 22 rfl
theorem Txt.d_ratio_of (T : Txt K mg) : ∃ fd, FunD K d_ratio_of.name d_ratio_of.qual (defArgs s_ratio_of) (defBody s_ratio_of) (defScope s_ratio_of) (d_ratio_of.dfl.map (He.Dv.v K)) [] (d_ratio_of.adr K) fd := T.told.def_ 23 rfl
theorem Txt.d_wholes (T : Txt K mg) : ∃ fd, FunD K d_wholes.name d_wholes.qual (defArgs s_wholes) (defBody s_wholes) (defScope s_wholes) (d_wholes.dfl.map (He.Dv.v K)) [] (d_wholes.adr K) fd := T.told.def_ 24 rfl
theorem Txt.d_is_poly (T : Txt K mg) : ∃ fd, FunD K d_is_poly.name d_is_poly.qual (defArgs s_is_poly) (defBody s_is_poly) (defScope s_is_poly) (d_is_poly.dfl.map (He.Dv.v K)) [] (d_is_poly.adr K) fd := T.told.def_ 25 rfl
theorem Txt.d_trimmed (T : Txt K mg) : ∃ fd, FunD K d_trimmed.name d_trimmed.qual (defArgs s_trimmed) (defBody s_trimmed) (defScope s_trimmed) (d_trimmed.dfl.map (He.Dv.v K)) [] (d_trimmed.adr K) fd := T.told.def_ 26 rfl
theorem Txt.d_want_poly (T : Txt K mg) : ∃ fd, FunD K d_want_poly.name d_want_poly.qual (defArgs s_want_poly) (defBody s_want_poly) (defScope s_want_poly) (d_want_poly.dfl.map (He.Dv.v K)) [] (d_want_poly.adr K) fd := T.told.def_ 27 rfl
theorem Txt.d_sum_of (T : Txt K mg) : ∃ fd, FunD K d_sum_of.name d_sum_of.qual (defArgs s_sum_of) (defBody s_sum_of) (defScope s_sum_of) (d_sum_of.dfl.map (He.Dv.v K)) [] (d_sum_of.adr K) fd := T.told.def_ 28 rfl
theorem Txt.d_by_number (T : Txt K mg) : ∃ fd, FunD K d_by_number.name d_by_number.qual (defArgs s_by_number) (defBody s_by_number) (defScope s_by_number) (d_by_number.dfl.map (He.Dv.v K)) [] (d_by_number.adr K) fd := T.told.def_ 29 rfl
theorem Txt.d_less_of (T : Txt K mg) : ∃ fd, FunD K d_less_of.name d_less_of.qual (defArgs s_less_of) (defBody s_less_of) (defScope s_less_of) (d_less_of.dfl.map (He.Dv.v K)) [] (d_less_of.adr K) fd := T.told.def_ 30 rfl
theorem Txt.d_int_product (T : Txt K mg) : ∃ fd, FunD K d_int_product.name d_int_product.qual (defArgs s_int_product) (defBody s_int_product) (defScope s_int_product) (d_int_product.dfl.map (He.Dv.v K)) [] (d_int_product.adr K) fd := T.told.def_ 31 rfl
theorem Txt.d_product_of (T : Txt K mg) : ∃ fd, FunD K d_product_of.name d_product_of.qual (defArgs s_product_of) (defBody s_product_of) (defScope s_product_of) (d_product_of.dfl.map (He.Dv.v K)) [] (d_product_of.adr K) fd := T.told.def_ 32 rfl
theorem Txt.d_square_of (T : Txt K mg) : ∃ fd, FunD K d_square_of.name d_square_of.qual (defArgs s_square_of) (defBody s_square_of) (defScope s_square_of) (d_square_of.dfl.map (He.Dv.v K)) [] (d_square_of.adr K) fd := T.told.def_ 33 rfl
theorem Txt.d_slope_of (T : Txt K mg) : ∃ fd, FunD K d_slope_of.name d_slope_of.qual (defArgs s_slope_of) (defBody s_slope_of) (defScope s_slope_of) (d_slope_of.dfl.map (He.Dv.v K)) [] (d_slope_of.adr K) fd := T.told.def_ 34 rfl
theorem Txt.d_plain_row (T : Txt K mg) : ∃ fd, FunD K d_plain_row.name d_plain_row.qual (defArgs s_plain_row) (defBody s_plain_row) (defScope s_plain_row) (d_plain_row.dfl.map (He.Dv.v K)) [] (d_plain_row.adr K) fd := T.told.def_ 35 rfl
theorem Txt.d_int_rest (T : Txt K mg) : ∃ fd, FunD K d_int_rest.name d_int_rest.qual (defArgs s_int_rest) (defBody s_int_rest) (defScope s_int_rest) (d_int_rest.dfl.map (He.Dv.v K)) [] (d_int_rest.adr K) fd := T.told.def_ 36 rfl
theorem Txt.d_int_common (T : Txt K mg) : ∃ fd, FunD K d_int_common.name d_int_common.qual (defArgs s_int_common) (defBody s_int_common) (defScope s_int_common) (d_int_common.dfl.map (He.Dv.v K)) [] (d_int_common.adr K) fd := T.told.def_ 37 rfl
theorem Txt.d_common_of (T : Txt K mg) : ∃ fd, FunD K d_common_of.name d_common_of.qual (defArgs s_common_of) (defBody s_common_of) (defScope s_common_of) (d_common_of.dfl.map (He.Dv.v K)) [] (d_common_of.adr K) fd := T.told.def_ 38 rfl
theorem Txt.d_is_squared (T : Txt K mg) : ∃ fd, FunD K d_is_squared.name d_is_squared.qual (defArgs s_is_squared) (defBody s_is_squared) (defScope s_is_squared) (d_is_squared.dfl.map (He.Dv.v K)) [] (d_is_squared.adr K) fd := T.told.def_ 39 rfl
theorem Txt.d_power_of (T : Txt K mg) : ∃ fd, FunD K d_power_of.name d_power_of.qual (defArgs s_power_of) (defBody s_power_of) (defScope s_power_of) (d_power_of.dfl.map (He.Dv.v K)) [] (d_power_of.adr K) fd := T.told.def_ 40 rfl
theorem Txt.d_whole_root (T : Txt K mg) : ∃ fd, FunD K d_whole_root.name d_whole_root.qual (defArgs s_whole_root) (defBody s_whole_root) (defScope s_whole_root) (d_whole_root.dfl.map (He.Dv.v K)) [] (d_whole_root.adr K) fd := T.told.def_ 41 rfl
theorem Txt.d_order_root (T : Txt K mg) : ∃ fd, FunD K d_order_root.name d_order_root.qual (defArgs s_order_root) (defBody s_order_root) (defScope s_order_root) (d_order_root.dfl.map (He.Dv.v K)) [] (d_order_root.adr K) fd := T.told.def_ 42 rfl
theorem Txt.d_square_root (T : Txt K mg) : ∃ fd, FunD K d_square_root.name d_square_root.qual (defArgs s_square_root) (defBody s_square_root) (defScope s_square_root) (d_square_root.dfl.map (He.Dv.v K)) [] (d_square_root.adr K) fd := T.told.def_ 43 rfl
theorem Txt.d_numbers_of (T : Txt K mg) : ∃ fd, FunD K d_numbers_of.name d_numbers_of.qual (defArgs s_numbers_of) (defBody s_numbers_of) (defScope s_numbers_of) (d_numbers_of.dfl.map (He.Dv.v K)) [] (d_numbers_of.adr K) fd := T.told.def_ 44 rfl
theorem Txt.d_right_poly (T : Txt K mg) : ∃ fd, FunD K d_right_poly.name d_right_poly.qual (defArgs s_right_poly) (defBody s_right_poly) (defScope s_right_poly) (d_right_poly.dfl.map (He.Dv.v K)) [] (d_right_poly.adr K) fd := T.told.def_ 45 rfl
theorem Txt.d_Root_init (T : Txt K mg) : ∃ fd, FunD K d_Root_init.name d_Root_init.qual (defArgs s_Root_init) (defBody s_Root_init) (defScope s_Root_init) (d_Root_init.dfl.map (He.Dv.v K)) [] (d_Root_init.adr K) fd := T.told.def_ 46 rfl
theorem Txt.d_Root_half (T : Txt K mg) : ∃ fd, FunD K d_Root_half.name d_Root_half.qual (defArgs s_Root_half) (defBody s_Root_half) (defScope s_Root_half) (d_Root_half.dfl.map (He.Dv.v K)) [] (d_Root_half.adr K) fd := T.told.def_ 47 rfl
theorem Txt.d_Root_nearest (T : Txt K mg) : ∃ fd, FunD K d_Root_nearest.name d_Root_nearest.qual (defArgs s_Root_nearest) (defBody s_Root_nearest) (defScope s_Root_nearest) (d_Root_nearest.dfl.map (He.Dv.v K)) [] (d_Root_nearest.adr K) fd := T.told.def_ 48 rfl
theorem Txt.d_want_root (T : Txt K mg) : ∃ fd, FunD K d_want_root.name d_want_root.qual (defArgs s_want_root) (defBody s_want_root) (defScope s_want_root) (d_want_root.dfl.map (He.Dv.v K)) [] (d_want_root.adr K) fd := T.told.def_ 49 rfl
theorem Txt.d_is_prime_number (T : Txt K mg) : ∃ fd, FunD K d_is_prime_number.name d_is_prime_number.qual (defArgs s_is_prime_number) (defBody s_is_prime_number) (defScope s_is_prime_number) (d_is_prime_number.dfl.map (He.Dv.v K)) [] (d_is_prime_number.adr K) fd := T.told.def_ 50 rfl
theorem Txt.d_is_prime (T : Txt K mg) : ∃ fd, FunD K d_is_prime.name d_is_prime.qual (defArgs s_is_prime) (defBody s_is_prime) (defScope s_is_prime) (d_is_prime.dfl.map (He.Dv.v K)) [] (d_is_prime.adr K) fd := T.told.def_ 51 rfl
theorem Txt.d_want_prime (T : Txt K mg) : ∃ fd, FunD K d_want_prime.name d_want_prime.qual (defArgs s_want_prime) (defBody s_want_prime) (defScope s_want_prime) (d_want_prime.dfl.map (He.Dv.v K)) [] (d_want_prime.adr K) fd := T.told.def_ 52 rfl
theorem Txt.d_does_keep (T : Txt K mg) : ∃ fd, FunD K d_does_keep.name d_does_keep.qual (defArgs s_does_keep) (defBody s_does_keep) (defScope s_does_keep) (d_does_keep.dfl.map (He.Dv.v K)) [] (d_does_keep.adr K) fd := T.told.def_ 53 rfl
theorem Txt.d_want_kept (T : Txt K mg) : ∃ fd, FunD K d_want_kept.name d_want_kept.qual (defArgs s_want_kept) (defBody s_want_kept) (defScope s_want_kept) (d_want_kept.dfl.map (He.Dv.v K)) [] (d_want_kept.adr K) fd := T.told.def_ 54 rfl
theorem Txt.d_Walk_init (T : Txt K mg) : ∃ fd, FunD K d_Walk_init.name d_Walk_init.qual (defArgs s_Walk_init) (defBody s_Walk_init) (defScope s_Walk_init) (d_Walk_init.dfl.map (He.Dv.v K)) [] (d_Walk_init.adr K) fd := T.told.def_ 55 rfl
theorem Txt.d_Walk_norm (T : Txt K mg) : ∃ fd, FunD K d_Walk_norm.name d_Walk_norm.qual (defArgs s_Walk_norm) (defBody s_Walk_norm) (defScope s_Walk_norm) (d_Walk_norm.dfl.map (He.Dv.v K)) [] (d_Walk_norm.adr K) fd := T.told.def_ 56 rfl
theorem Txt.d_Walk_at_end (T : Txt K mg) : ∃ fd, FunD K d_Walk_at_end.name d_Walk_at_end.qual (defArgs s_Walk_at_end) (defBody s_Walk_at_end) (defScope s_Walk_at_end) (d_Walk_at_end.dfl.map (He.Dv.v K)) [] (d_Walk_at_end.adr K) fd := T.told.def_ 57 rfl
theorem Txt.d_Walk_go (T : Txt K mg) : ∃ fd, FunD K d_Walk_go.name d_Walk_go.qual (defArgs s_Walk_go) (defBody s_Walk_go) (defScope s_Walk_go) (d_Walk_go.dfl.map (He.Dv.v K)) [] (d_Walk_go.adr K) fd := T.told.def_ 58 rfl
theorem Txt.d_rest_walk (T : Txt K mg) : ∃ fd, FunD K d_rest_walk.name d_rest_walk.qual (defArgs s_rest_walk) (defBody s_rest_walk) (defScope s_rest_walk) (d_rest_walk.dfl.map (He.Dv.v K)) [] (d_rest_walk.adr K) fd := T.told.def_ 59 rfl
theorem Txt.d_degree_at (T : Txt K mg) : ∃ fd, FunD K d_degree_at.name d_degree_at.qual (defArgs s_degree_at) (defBody s_degree_at) (defScope s_degree_at) (d_degree_at.dfl.map (He.Dv.v K)) [] (d_degree_at.adr K) fd := T.told.def_ 60 rfl
theorem Txt.d_unit_at (T : Txt K mg) : ∃ fd, FunD K d_unit_at.name d_unit_at.qual (defArgs s_unit_at) (defBody s_unit_at) (defScope s_unit_at) (d_unit_at.dfl.map (He.Dv.v K)) [] (d_unit_at.adr K) fd := T.told.def_ 61 rfl
theorem Txt.d_rests_of (T : Txt K mg) : ∃ fd, FunD K d_rests_of.name d_rests_of.qual (defArgs s_rests_of) (defBody s_rests_of) (defScope s_rests_of) (d_rests_of.dfl.map (He.Dv.v K)) [] (d_rests_of.adr K) fd := T.told.def_ 62 rfl
theorem Txt.d_rest_degree (T : Txt K mg) : ∃ fd, FunD K d_rest_degree.name d_rest_degree.qual (defArgs s_rest_degree) (defBody s_rest_degree) (defScope s_rest_degree) (d_rest_degree.dfl.map (He.Dv.v K)) [] (d_rest_degree.adr K) fd := T.told.def_ 63 rfl
theorem Txt.d_rest_unit (T : Txt K mg) : ∃ fd, FunD K d_rest_unit.name d_rest_unit.qual (defArgs s_rest_unit) (defBody s_rest_unit) (defScope s_rest_unit) (d_rest_unit.dfl.map (He.Dv.v K)) [] (d_rest_unit.adr K) fd := T.told.def_ 64 rfl
theorem Txt.d_are_integers (T : Txt K mg) : ∃ fd, FunD K d_are_integers.name d_are_integers.qual (defArgs s_are_integers) (defBody s_are_integers) (defScope s_are_integers) (d_are_integers.dfl.map (He.Dv.v K)) [] (d_are_integers.adr K) fd := T.told.def_ 65 rfl
theorem Txt.d_is_rest_unit (T : Txt K mg) : ∃ fd, FunD K d_is_rest_unit.name d_is_rest_unit.qual (defArgs s_is_rest_unit) (defBody s_is_rest_unit) (defScope s_is_rest_unit) (d_is_rest_unit.dfl.map (He.Dv.v K)) [] (d_is_rest_unit.adr K) fd := T.told.def_ 66 rfl
theorem Txt.d_law_pot (T : Txt K mg) : ∃ fd, FunD K d_law_pot.name d_law_pot.qual (defArgs s_law_pot) (defBody s_law_pot) (defScope s_law_pot) (d_law_pot.dfl.map (He.Dv.v K)) [] (d_law_pot.adr K) fd := T.told.def_ 67 rfl
theorem Txt.d_law_draw (T : Txt K mg) : ∃ fd, FunD K d_law_draw.name d_law_draw.qual (defArgs s_law_draw) (defBody s_law_draw) (defScope s_law_draw) (d_law_draw.dfl.map (He.Dv.v K)) [] (d_law_draw.adr K) fd := T.told.def_ 68 rfl
theorem Txt.d_law_pick (T : Txt K mg) : ∃ fd, FunD K d_law_pick.name d_law_pick.qual (defArgs s_law_pick) (defBody s_law_pick) (defScope s_law_pick) (d_law_pick.dfl.map (He.Dv.v K)) [] (d_law_pick.adr K) fd := T.told.def_ 69 rfl
theorem Txt.d_law_trim (T : Txt K mg) : ∃ fd, FunD K d_law_trim.name d_law_trim.qual (defArgs s_law_trim) (defBody s_law_trim) (defScope s_law_trim) (d_law_trim.dfl.map (He.Dv.v K)) [] (d_law_trim.adr K) fd := T.told.def_ 70 rfl
theorem Txt.d_law_times (T : Txt K mg) : ∃ fd, FunD K d_law_times.name d_law_times.qual (defArgs s_law_times) (defBody s_law_times) (defScope s_law_times) (d_law_times.dfl.map (He.Dv.v K)) [] (d_law_times.adr K) fd := T.told.def_ 71 rfl
theorem Txt.d_law_plus (T : Txt K mg) : ∃ fd, FunD K d_law_plus.name d_law_plus.qual (defArgs s_law_plus) (defBody s_law_plus) (defScope s_law_plus) (d_law_plus.dfl.map (He.Dv.v K)) [] (d_law_plus.adr K) fd := T.told.def_ 72 rfl
theorem Txt.d_law_back (T : Txt K mg) : ∃ fd, FunD K d_law_back.name d_law_back.qual (defArgs s_law_back) (defBody s_law_back) (defScope s_law_back) (d_law_back.dfl.map (He.Dv.v K)) [] (d_law_back.adr K) fd := T.told.def_ 73 rfl
theorem Txt.d_law_split (T : Txt K mg) : ∃ fd, FunD K d_law_split.name d_law_split.qual (defArgs s_law_split) (defBody s_law_split) (defScope s_law_split) (d_law_split.dfl.map (He.Dv.v K)) [] (d_law_split.adr K) fd := T.told.def_ 74 rfl
theorem Txt.d_law_rests (T : Txt K mg) : ∃ fd, FunD K d_law_rests.name d_law_rests.qual (defArgs s_law_rests) (defBody s_law_rests) (defScope s_law_rests) (d_law_rests.dfl.map (He.Dv.v K)) [] (d_law_rests.adr K) fd := T.told.def_ 75 rfl
theorem Txt.d_law_keeps (T : Txt K mg) : ∃ fd, FunD K d_law_keeps.name d_law_keeps.qual (defArgs s_law_keeps) (defBody s_law_keeps) (defScope s_law_keeps) (d_law_keeps.dfl.map (He.Dv.v K)) [] (d_law_keeps.adr K) fd := T.told.def_ 76 rfl
theorem Txt.d_law_nearest (T : Txt K mg) : ∃ fd, FunD K d_law_nearest.name d_law_nearest.qual (defArgs s_law_nearest) (defBody s_law_nearest) (defScope s_law_nearest) (d_law_nearest.dfl.map (He.Dv.v K)) [] (d_law_nearest.adr K) fd := T.told.def_ 77 rfl
theorem Txt.d_law_walk (T : Txt K mg) : ∃ fd, FunD K d_law_walk.name d_law_walk.qual (defArgs s_law_walk) (defBody s_law_walk) (defScope s_law_walk) (d_law_walk.dfl.map (He.Dv.v K)) [] (d_law_walk.adr K) fd := T.told.def_ 78 rfl
theorem Txt.d_law_primes (T : Txt K mg) : ∃ fd, FunD K d_law_primes.name d_law_primes.qual (defArgs s_law_primes) (defBody s_law_primes) (defScope s_law_primes) (d_law_primes.dfl.map (He.Dv.v K)) [] (d_law_primes.adr K) fd := T.told.def_ 79 rfl
theorem Txt.d_law_kept (T : Txt K mg) : ∃ fd, FunD K d_law_kept.name d_law_kept.qual (defArgs s_law_kept) (defBody s_law_kept) (defScope s_law_kept) (d_law_kept.dfl.map (He.Dv.v K)) [] (d_law_kept.adr K) fd := T.told.def_ 80 rfl
theorem Txt.d_law_small (T : Txt K mg) : ∃ fd, FunD K d_law_small.name d_law_small.qual (defArgs s_law_small) (defBody s_law_small) (defScope s_law_small) (d_law_small.dfl.map (He.Dv.v K)) [] (d_law_small.adr K) fd := T.told.def_ 81 rfl
theorem Txt.d_law_whole_times (T : Txt K mg) : ∃ fd, FunD K d_law_whole_times.name d_law_whole_times.qual (defArgs s_law_whole_times) (defBody s_law_whole_times) (defScope s_law_whole_times) (d_law_whole_times.dfl.map (He.Dv.v K)) [] (d_law_whole_times.adr K) fd := T.told.def_ 82 rfl
theorem Txt.d_law_less_number (T : Txt K mg) : ∃ fd, FunD K d_law_less_number.name d_law_less_number.qual (defArgs s_law_less_number) (defBody s_law_less_number) (defScope s_law_less_number) (d_law_less_number.dfl.map (He.Dv.v K)) [] (d_law_less_number.adr K) fd := T.told.def_ 83 rfl
theorem Txt.d_law_drawn (T : Txt K mg) : ∃ fd, FunD K d_law_drawn.name d_law_drawn.qual (defArgs s_law_drawn) (defBody s_law_drawn) (defScope s_law_drawn) (d_law_drawn.dfl.map (He.Dv.v K)) [] (d_law_drawn.adr K) fd := T.told.def_ 84 rfl
theorem Txt.d_law_passed (T : Txt K mg) : ∃ fd, FunD K d_law_passed.name d_law_passed.qual (defArgs s_law_passed) (defBody s_law_passed) (defScope s_law_passed) (d_law_passed.dfl.map (He.Dv.v K)) [] (d_law_passed.adr K) fd := T.told.def_ 85 rfl
theorem Txt.d_law_norm (T : Txt K mg) : ∃ fd, FunD K d_law_norm.name d_law_norm.qual (defArgs s_law_norm) (defBody s_law_norm) (defScope s_law_norm) (d_law_norm.dfl.map (He.Dv.v K)) [] (d_law_norm.adr K) fd := T.told.def_ 86 rfl
theorem Txt.d_law_is_bounded (T : Txt K mg) : ∃ fd, FunD K d_law_is_bounded.name d_law_is_bounded.qual (defArgs s_law_is_bounded) (defBody s_law_is_bounded) (defScope s_law_is_bounded) (d_law_is_bounded.dfl.map (He.Dv.v K)) [] (d_law_is_bounded.adr K) fd := T.told.def_ 87 rfl
theorem Txt.d_law_prime_right (T : Txt K mg) : ∃ fd, FunD K d_law_prime_right.name d_law_prime_right.qual (defArgs s_law_prime_right) (defBody s_law_prime_right) (defScope s_law_prime_right) (d_law_prime_right.dfl.map (He.Dv.v K)) [] (d_law_prime_right.adr K) fd := T.told.def_ 88 rfl
theorem Txt.d_law_right (T : Txt K mg) : ∃ fd, FunD K d_law_right.name d_law_right.qual (defArgs s_law_right) (defBody s_law_right) (defScope s_law_right) (d_law_right.dfl.map (He.Dv.v K)) [] (d_law_right.adr K) fd := T.told.def_ 89 rfl
theorem Txt.d_law (T : Txt K mg) : ∃ fd, FunD K d_law.name d_law.qual (defArgs s_law) (defBody s_law) (defScope s_law) (d_law.dfl.map (He.Dv.v K)) [] (d_law.adr K) fd := T.told.def_ 90 rfl
theorem Txt.x_gcd (T : Txt K mg) : mg "gcd" = some (.builtin "math.gcd") := let ⟨_, X, G⟩ := T.ns; PySem.W.mg_of X G (He.eqO_ok (T.told.more 0 (b := _) rfl))
theorem Txt.x_lcm (T : Txt K mg) : mg "lcm" = some (.builtin "math.lcm") := let ⟨_, X, G⟩ := T.ns; PySem.W.mg_of X G (He.eqO_ok (T.told.more 1 (b := _) rfl))
theorem Txt.x_DEGREES (T : Txt K mg) (H : Hp) : SqT K H (He.ga K "DEGREES") [.int 2, .int 4, .int 6, .int 8] := He.tupB_ok (T.told.more 2 (b := _) rfl) H
theorem Txt.xp_Ratio_top (T : Txt K mg) : PropOf K (He.ga K "Ratio") "top" (He.ma K (He.ga K "Ratio") "top") (gAd K "Ratio" "top") := by
  obtain ⟨h1, h2⟩ := He.ba (T.told.more 3 (b := _) rfl)
  obtain ⟨h3, h4⟩ := He.ba h2
  obtain ⟨h5, h6⟩ := He.ba h4
  refine ⟨He.eqO_ok h1, He.eqO_ok h3, of_decide_eq_true h5, ?_⟩
  have h7 := of_decide_eq_true h6
  obtain ⟨l, e1, e2⟩ := Option.bind_eq_some_iff.mp h7
  cases l with
  | nil => cases e2
  | cons a r =>
    cases Option.some.inj e2
    exact ⟨r, e1⟩
theorem Txt.xp_Ratio_bottom (T : Txt K mg) : PropOf K (He.ga K "Ratio") "bottom" (He.ma K (He.ga K "Ratio") "bottom") (gAd K "Ratio" "bottom") := by
  obtain ⟨h1, h2⟩ := He.ba (T.told.more 4 (b := _) rfl)
  obtain ⟨h3, h4⟩ := He.ba h2
  obtain ⟨h5, h6⟩ := He.ba h4
  refine ⟨He.eqO_ok h1, He.eqO_ok h3, of_decide_eq_true h5, ?_⟩
  have h7 := of_decide_eq_true h6
  obtain ⟨l, e1, e2⟩ := Option.bind_eq_some_iff.mp h7
  cases l with
  | nil => cases e2
  | cons a r =>
    cases Option.some.inj e2
    exact ⟨r, e1⟩
theorem Txt.xp_Ratio_sign (T : Txt K mg) : PropOf K (He.ga K "Ratio") "sign" (He.ma K (He.ga K "Ratio") "sign") (gAd K "Ratio" "sign") := by
  obtain ⟨h1, h2⟩ := He.ba (T.told.more 5 (b := _) rfl)
  obtain ⟨h3, h4⟩ := He.ba h2
  obtain ⟨h5, h6⟩ := He.ba h4
  refine ⟨He.eqO_ok h1, He.eqO_ok h3, of_decide_eq_true h5, ?_⟩
  have h7 := of_decide_eq_true h6
  obtain ⟨l, e1, e2⟩ := Option.bind_eq_some_iff.mp h7
  cases l with
  | nil => cases e2
  | cons a r =>
    cases Option.some.inj e2
    exact ⟨r, e1⟩
theorem Txt.xp_Ratio_is_whole (T : Txt K mg) : PropOf K (He.ga K "Ratio") "is_whole" (He.ma K (He.ga K "Ratio") "is_whole") (gAd K "Ratio" "is_whole") := by
  obtain ⟨h1, h2⟩ := He.ba (T.told.more 6 (b := _) rfl)
  obtain ⟨h3, h4⟩ := He.ba h2
  obtain ⟨h5, h6⟩ := He.ba h4
  refine ⟨He.eqO_ok h1, He.eqO_ok h3, of_decide_eq_true h5, ?_⟩
  have h7 := of_decide_eq_true h6
  obtain ⟨l, e1, e2⟩ := Option.bind_eq_some_iff.mp h7
  cases l with
  | nil => cases e2
  | cons a r =>
    cases Option.some.inj e2
    exact ⟨r, e1⟩
theorem Txt.xp_Root_half (T : Txt K mg) : PropOf K (He.ga K "Root") "half" (He.ma K (He.ga K "Root") "half") (gAd K "Root" "half") := by
  obtain ⟨h1, h2⟩ := He.ba (T.told.more 7 (b := _) rfl)
  obtain ⟨h3, h4⟩ := He.ba h2
  obtain ⟨h5, h6⟩ := He.ba h4
  refine ⟨He.eqO_ok h1, He.eqO_ok h3, of_decide_eq_true h5, ?_⟩
  have h7 := of_decide_eq_true h6
  obtain ⟨l, e1, e2⟩ := Option.bind_eq_some_iff.mp h7
  cases l with
  | nil => cases e2
  | cons a r =>
    cases Option.some.inj e2
    exact ⟨r, e1⟩
theorem Txt.xt_Ratio (T : Txt K mg) {H : Hp} {a dx : Addr} {fs : List (Str × V)} (e : H a = some (.ins (He.ga K "Ratio") dx fs)) : TyX K H (.ref a) (.ref (He.ga K "Ratio")) := by
  obtain ⟨h1, h2⟩ := He.ba (T.told.more 8 (b := _) rfl)
  obtain ⟨h3, h4⟩ := He.ba h2
  obtain ⟨h5, h6⟩ := He.ba h4
  exact .base (.ins e T.cls_Ratio (He.eqO_ok h1) (He.eqO_ok h3) (of_decide_eq_true h5) (of_decide_eq_true h6))
theorem Txt.xt_Root (T : Txt K mg) {H : Hp} {a dx : Addr} {fs : List (Str × V)} (e : H a = some (.ins (He.ga K "Root") dx fs)) : TyX K H (.ref a) (.ref (He.ga K "Root")) := by
  obtain ⟨h1, h2⟩ := He.ba (T.told.more 9 (b := _) rfl)
  obtain ⟨h3, h4⟩ := He.ba h2
  obtain ⟨h5, h6⟩ := He.ba h4
  exact .base (.ins e T.cls_Root (He.eqO_ok h1) (He.eqO_ok h3) (of_decide_eq_true h5) (of_decide_eq_true h6))
theorem Txt.k_Ratio_Ratio (T : Txt K mg) : PySem.W.kitOne K (.ref (He.ga K "Ratio")) (.ref (He.ga K "Ratio")) = some true := of_decide_eq_true (T.told.more 10 (b := _) rfl)
theorem Txt.k_Root_Root (T : Txt K mg) : PySem.W.kitOne K (.ref (He.ga K "Root")) (.ref (He.ga K "Root")) = some true := of_decide_eq_true (T.told.more 11 (b := _) rfl)
theorem Txt.k_int_Ratio (T : Txt K mg) : PySem.W.kitOne K (.type "int") (.ref (He.ga K "Ratio")) = some false := of_decide_eq_true (T.told.more 12 (b := _) rfl)
theorem Txt.k_Ratio_int (T : Txt K mg) : PySem.W.kitOne K (.ref (He.ga K "Ratio")) (.type "int") = some false := of_decide_eq_true (T.told.more 13 (b := _) rfl)
theorem Txt.k_list_Known (T : Txt K mg) : PySem.W.kitOne K (.type "list") (.ref (He.ga K "Known")) = some false := of_decide_eq_true (T.told.more 14 (b := _) rfl)
theorem Txt.k_int_int (T : Txt K mg) : PySem.W.kitOne K (.type "int") (.type "int") = some true := of_decide_eq_true (T.told.more 15 (b := _) rfl)
theorem Txt.k_int_bool (T : Txt K mg) : PySem.W.kitOne K (.type "int") (.type "bool") = some false := of_decide_eq_true (T.told.more 16 (b := _) rfl)
theorem Txt.k_list_list (T : Txt K mg) : PySem.W.kitOne K (.type "list") (.type "list") = some true := of_decide_eq_true (T.told.more 17 (b := _) rfl)
theorem Txt.k_tuple_tuple (T : Txt K mg) : PySem.W.kitOne K (.type "tuple") (.type "tuple") = some true := of_decide_eq_true (T.told.more 18 (b := _) rfl)
theorem Txt.k_tuple_list (T : Txt K mg) : PySem.W.kitOne K (.type "tuple") (.type "list") = some false := of_decide_eq_true (T.told.more 19 (b := _) rfl)
theorem Txt.x_first (T : Txt K mg) : PySem.W.selfFirst K (He.ga K "Ratio") = true := T.told.more 20 (b := _) rfl
theorem Txt.x_sub (T : Txt K mg) : PySem.W.subIn K (.type "int") (.ref (He.ga K "Ratio")) = some false := of_decide_eq_true (T.told.more 21 (b := _) rfl)
theorem Txt.x_rmul (T : Txt K mg) : PySem.W.findIn K (.ref (He.ga K "Ratio")) (dunderR "mul") = some (some (.ref (He.ma K (He.ga K "Ratio") (dunderR "mul")))) := He.eqO_ok (T.told.more 22 (b := _) rfl)
theorem Txt.x_imul (T : Txt K mg) : (∃ r, PySem.W.findIn K (.type "int") (PySem.dunder "mul") = some r) ∧ ∃ r, PySem.W.findIn K (.type "int") (dunderR "mul") = some r := by
  obtain ⟨h1, h2⟩ := He.ba (T.told.more 23 (b := _) rfl)
  exact ⟨Option.isSome_iff_exists.mp h1, Option.isSome_iff_exists.mp h2⟩
end
end RR
/-! ### RRun -/
namespace RR
open PySem PySem.Spec PyProof.Rows L2
/-! ### the run, in four looks at its end (each by one kernel run) -/
abbrev vw : Program := PySem.W.view R.prog [0, 114]
theorem run1 (w : World) : (HandSHeadRun.wholeF (fun p => HandSHeadRun.stepQ (HandSHeadRun.denQ HandSHeadRun.tabQ) p w) HandSHeadRun.fenceQ 20000 R.prog).map (fun x => HandSHeadRun.looksF R.prog x.1.heap x.2.abs) = some true := by
  kernel_rfl
theorem run2 (w : World) : (HandSHeadRun.wholeF (fun p => HandSHeadRun.stepQ (HandSHeadRun.denQ HandSHeadRun.tabQ) p w) HandSHeadRun.fenceQ 20000 R.prog).map (fun x => HandSHeadRun.seenQ vw loose (importedModules R.prog.main.body) (fun s => PySem.W.xlAt vw [] s && PySem.W.recOk R.toRowW.records s) x.2.abs) = some (PySem.W.openGood vw loose) := by
  kernel_rfl
theorem run3 (w : World) : (HandSHeadRun.wholeF (fun p => HandSHeadRun.stepQ (HandSHeadRun.denQ HandSHeadRun.tabQ) p w) HandSHeadRun.fenceQ 20000 R.prog).map (fun x => obsAt fa [] exs (HandSHeadRun.getT x.2)) = some (true, []) := by
  kernel_rfl
theorem run4 (w : World) : (HandSHeadRun.wholeF (fun p => HandSHeadRun.stepQ (HandSHeadRun.denQ HandSHeadRun.tabQ) p w) HandSHeadRun.fenceQ 20000 R.prog).map (fun x => obsAt [] fn [] (HandSHeadRun.getT x.2)) = some (true, fn.map Df.is) := by
  kernel_rfl
theorem obs_join {a : List He.Fa} {f : List Df} {e : List (PySem.W.Frag → Bool)} {K : PySem.W.Frag} (h1 : obs a [] e K = (true, [])) (h2 : obs [] f [] K = (true, f.map Df.is)) : obs a f e K = (true, f.map Df.is) := by
  have a1 : ((a.all fun f => f.ok K) && (true && e.all fun b => b K)) = true := congrArg Prod.fst h1
  have a2 : (true && ((f.all fun d => d.good K) && true)) = true := congrArg Prod.fst h2
  have a3 : f.map (seen K) = f.map Df.is := congrArg Prod.snd h2
  unfold obs
  rw [a3]
  simp only [Bool.and_eq_true, Bool.true_and, Bool.and_true] at a1 a2
  rw [a1.1, a1.2, a2] <;> rfl
theorem join4 {α β γ δ ε : Type} {o : Option α} {f : α → β} {g : α → γ} {h : α → δ} {k : α → ε} {b : β} {c : γ} {d : δ} {e : ε} {m : α → δ} {z : δ} (h1 : o.map f = some b) (h2 : o.map g = some c) (h3 : o.map h = some d) (h4 : o.map k = some e)
    (hm : ∀ x, h x = d → k x = e → m x = z) : o.map (fun x => (f x, g x, m x)) = some (b, c, z) := by
  cases o with
  | none => cases h1
  | some x =>
    have e1 : f x = b := Option.some.inj h1
    have e2 : g x = c := Option.some.inj h2
    show some (f x, g x, m x) = _
    rw [e1, e2, hm x (Option.some.inj h3) (Option.some.inj h4)]
theorem run (w : World) : HandSHeadRun.RunEqI R vw hk ob 20000 loose w :=
  join4 (run1 w) (run2 w) (run3 w) (run4 w) fun _ h3 h4 => obs_join h3 h4
end RR
/-! ### RMath0 -/
/-! Plain lists of ints: what the little defs compute. -/
namespace RR
def trim (l : List Int) : List Int := (l.reverse.dropWhile (· == 0)).reverse
theorem trim_nil : trim [] = [] := rfl
theorem trim_zero (l : List Int) : trim (l ++ [0]) = trim l := by simp [trim]
theorem trim_app {l : List Int} {x : Int} (h : x ≠ 0) : trim (l ++ [x]) = l ++ [x] := by simp [trim, h]
theorem list_end {α : Type} : ∀ l : List α, l = [] ∨ ∃ l' x, l = l' ++ [x] := fun l => by
  rcases List.eq_nil_or_concat l with h | ⟨l', x, h⟩
  · exact .inl h
  · exact .inr ⟨l', x, by rw [h, List.concat_eq_append]⟩
theorem trim_len (l : List Int) : (trim l).length ≤ l.length := by
  unfold trim
  rw [List.length_reverse]
  have h := (List.dropWhile_sublist (fun x : Int => x == 0) (l := l.reverse)).length_le
  rwa [List.length_reverse] at h
/-- from the s-th item on, each item with the one of ys -/
def updI (F : Int → Int → Int) : List Int → List Int → List Int
  | a :: as, b :: bs => F a b :: updI F as bs
  | as, _ => as
def updS (F : Int → Int → Int) : Nat → List Int → List Int → List Int
  | 0, xs, ys => updI F xs ys
  | s + 1, x :: xs, ys => x :: updS F s xs ys
  | _ + 1, [], _ => []
variable {F : Int → Int → Int}
theorem updI_len : ∀ xs ys : List Int, (updI F xs ys).length = xs.length
  | a :: as, b :: bs => by simp [updI, updI_len as bs]
  | [], _ => by simp [updI]
  | a :: as, [] => by simp [updI]
theorem updS_len : ∀ (s : Nat) (xs ys : List Int), (updS F s xs ys).length = xs.length
  | 0, xs, ys => updI_len xs ys
  | s + 1, x :: xs, ys => by simp [updS, updS_len s xs ys]
  | s + 1, [], _ => by simp [updS]
theorem updI_nil (xs : List Int) : updI F xs [] = xs := by cases xs <;> rfl
theorem updS_nil : ∀ (s : Nat) (xs : List Int), updS F s xs [] = xs
  | 0, xs => updI_nil xs
  | s + 1, x :: xs => by simp [updS, updS_nil s xs]
  | s + 1, [] => rfl
theorem updI_off : ∀ (xs ys : List Int) (i : Nat), (updI F xs (ys.take i))[i]? = xs[i]?
  | xs, ys, 0 => by simp [updI_nil]
  | [], ys, i + 1 => by simp [updI]
  | x :: xs, [], i + 1 => by simp [updI]
  | x :: xs, y :: ys, i + 1 => by simpa [updI] using updI_off xs ys i
theorem updS_off : ∀ (s : Nat) (xs ys : List Int) (i : Nat), (updS F s xs (ys.take i))[s + i]? = xs[s + i]?
  | 0, xs, ys, i => by simpa [updS] using updI_off xs ys i
  | s + 1, [], ys, i => by simp [updS]
  | s + 1, x :: xs, ys, i => by
    have := updS_off s xs ys i
    rw [show s + 1 + i = (s + i) + 1 from by omega]
    simpa [updS] using this
theorem updI_set : ∀ (xs ys : List Int) (i : Nat) (x y : Int), xs[i]? = some x → ys[i]? = some y → (updI F xs (ys.take i)).set i (F x y) = updI F xs (ys.take (i + 1))
  | [], ys, i, x, y, h, _ => by simp at h
  | a :: xs, [], i, x, y, _, h => by simp at h
  | a :: xs, b :: ys, 0, x, y, h, g => by
    simp at h g
    subst h g
    simp [updI, updI_nil]
  | a :: xs, b :: ys, i + 1, x, y, h, g => by
    have := updI_set xs ys i x y (by simpa using h) (by simpa using g)
    simp [updI, this]
theorem updS_set : ∀ (s : Nat) (xs ys : List Int) (i : Nat) (x y : Int), xs[s + i]? = some x → ys[i]? = some y → (updS F s xs (ys.take i)).set (s + i) (F x y) = updS F s xs (ys.take (i + 1))
  | 0, xs, ys, i, x, y, h, g => by
    rw [Nat.zero_add] at h ⊢
    exact updI_set xs ys i x y h g
  | s + 1, [], ys, i, x, y, h, _ => by simp at h
  | s + 1, a :: xs, ys, i, x, y, h, g => by
    rw [show s + 1 + i = (s + i) + 1 from by omega] at h ⊢
    have := updS_set s xs ys i x y (by simpa using h) g
    simp [updS, this]
theorem updI_id (h : ∀ a b, F a b = a) : ∀ xs ys : List Int, updI F xs ys = xs
  | a :: as, b :: bs => by rw [updI, h, updI_id h as bs]
  | [], _ => by simp [updI]
  | a :: as, [] => by simp [updI]
theorem updS_id (h : ∀ a b, F a b = a) : ∀ (s : Nat) (xs ys : List Int), updS F s xs ys = xs
  | 0, xs, ys => updI_id h xs ys
  | s + 1, x :: xs, ys => by rw [updS, updS_id h s xs ys]
  | s + 1, [], _ => by simp [updS]
/-- row by row: the i-th of one with all of other, from the i-th place on -/
def mulAcc (G : Int → Int → Int → Int) (one other zs : List Int) : Nat → List Int
  | 0 => zs
  | i + 1 => match one[i]? with
    | some a => updS (G a) i (mulAcc G one other zs i) other
    | none => mulAcc G one other zs i
theorem mulAcc_len {G : Int → Int → Int → Int} {one other zs : List Int} : ∀ i, (mulAcc G one other zs i).length = zs.length
  | 0 => rfl
  | i + 1 => by
    unfold mulAcc
    split
    · rw [updS_len, mulAcc_len i]
    · exact mulAcc_len i
theorem mulAcc_succ {G : Int → Int → Int → Int} {one other zs : List Int} {i : Nat} {a : Int} (h : one[i]? = some a) : mulAcc G one other zs (i + 1) = updS (G a) i (mulAcc G one other zs i) other := by
  rw [mulAcc, h]
def zeros (n : Nat) : List Int := List.replicate n 0
/-- small ints -/
def Sm (l : List Int) : Prop := ∀ x ∈ l, -(2 ^ 60) < x ∧ x < 2 ^ 60
/-- the primes that are met -/
def Pr (p : Int) : Prop := p = 3 ∨ p = 5 ∨ p = 7 ∨ p = 11 ∨ p = 13
theorem Pr.pos {p : Int} (h : Pr p) : 3 ≤ p ∧ p ≤ 13 := by unfold Pr at h; omega
/-- what times n leaves the rest 1 -/
def inv (p n : Int) : Int := (n % p) ^ (p.toNat - 2) % p
/-- one and t times other -/
def sumM (p t : Int) (one other : List Int) : List Int := trim (updI (fun a b => (a + t * b) % p) (one ++ zeros (other.length - one.length)) other)
def lessM (p : Int) (one other : List Int) : List Int := sumM p (-1) one other
def rawMul (one other : List Int) : List Int := mulAcc (fun n a b => a + n * b) one other (zeros (one.length + other.length - 1)) one.length
def mulM (p : Int) (one other : List Int) : List Int := if one = [] ∨ other = [] then [] else trim ((rawMul one other).map (· % p))
end RR
/-! ### RPoly -/
/-! Rows of coefficients over a commutative ring, with their product: a commutative ring. -/
namespace RR
open Lean.Grind
def Ser (R : Type) := Nat → R
namespace Ser
section
variable {R : Type} [CommRing R]
def mulS : Ser R → Ser R → Nat → R
  | f, g, 0 => f 0 * g 0
  | f, g, n + 1 => f 0 * g (n + 1) + mulS (fun k => f (k + 1)) g n
def tl (f : Ser R) : Ser R := fun k => f (k + 1)
def C (c : R) : Ser R := fun n => match n with | 0 => c | _ + 1 => 0
instance : Add (Ser R) := ⟨fun f g n => f n + g n⟩
instance : Mul (Ser R) := ⟨fun f g n => mulS f g n⟩
instance : Neg (Ser R) := ⟨fun f n => - f n⟩
instance : Sub (Ser R) := ⟨fun f g n => f n - g n⟩
def nc (k : Nat) : R := @Nat.cast R Semiring.natCast k
def ic (k : Int) : R := @Int.cast R Ring.intCast k
instance : NatCast (Ser R) := ⟨fun k => C (nc k : R)⟩
instance : IntCast (Ser R) := ⟨fun k => C (ic k : R)⟩
instance (k : Nat) : OfNat (Ser R) k := ⟨C (OfNat.ofNat k : R)⟩
instance : SMul Nat (Ser R) := ⟨fun k f => @Nat.cast (Ser R) _ k * f⟩
instance : SMul Int (Ser R) := ⟨fun k f => @Int.cast (Ser R) _ k * f⟩
def powS (f : Ser R) : Nat → Ser R
  | 0 => C 1
  | n + 1 => powS f n * f
instance : HPow (Ser R) Nat (Ser R) := ⟨powS⟩
theorem ext {f g : Ser R} (h : ∀ n, f n = g n) : f = g := funext h
theorem add_at (f g : Ser R) (n : Nat) : (f + g) n = f n + g n := rfl
theorem sub_at (f g : Ser R) (n : Nat) : (f - g) n = f n - g n := rfl
theorem neg_at (f : Ser R) (n : Nat) : (-f) n = - f n := rfl
theorem mul_zero_at (f g : Ser R) : (f * g) 0 = f 0 * g 0 := rfl
theorem mul_succ_at (f g : Ser R) (n : Nat) : (f * g) (n + 1) = f 0 * g (n + 1) + (tl f * g) n := rfl
theorem ofNat_at0 (k : Nat) : (OfNat.ofNat k : Ser R) 0 = (OfNat.ofNat k : R) := rfl
theorem ofNat_atS (k n : Nat) : (OfNat.ofNat k : Ser R) (n + 1) = 0 := rfl
theorem zero_at (n : Nat) : (0 : Ser R) n = 0 := by cases n <;> rfl
theorem C_succ (c : R) (n : Nat) : C c (n + 1) = 0 := rfl
theorem C_zero (c : R) : C c 0 = c := rfl
theorem tl_add (f g : Ser R) : tl (f + g) = tl f + tl g := rfl
def zS : Ser R := fun _ => 0
theorem zmul (f : Ser R) : (zS : Ser R) * f = zS := by
  funext n
  induction n with
  | zero => rw [mul_zero_at]; show (0:R) * f 0 = 0; grind
  | succ n ih => rw [mul_succ_at]; show (0:R) * f (n+1) + ((zS : Ser R) * f) n = 0; rw [ih]; show (0:R) * f (n+1) + 0 = 0; grind
theorem C_mul (c : R) (f : Ser R) (n : Nat) : (C c * f) n = c * f n := by
  cases n with
  | zero => rfl
  | succ n =>
    rw [mul_succ_at]
    have : tl (C c) = (zS : Ser R) := rfl
    rw [this, zmul, C_zero]
    show c * f (n+1) + 0 = _
    grind
theorem mul_add' (f g h : Ser R) : f * (g + h) = f * g + f * h := by
  apply ext; intro n
  induction n generalizing f with
  | zero => simp only [mul_zero_at, add_at]; grind
  | succ n ih => simp only [mul_succ_at, add_at, ih]; grind
theorem add_mul' (f g h : Ser R) : (f + g) * h = f * h + g * h := by
  apply ext; intro n
  induction n generalizing f g with
  | zero => simp only [mul_zero_at, add_at]; grind
  | succ n ih => simp only [mul_succ_at, tl_add, ih, add_at]; grind
theorem mul_tl (f g : Ser R) (n : Nat) : (f * g) (n + 1) = (f * tl g) n + f (n + 1) * g 0 := by
  induction n generalizing f with
  | zero => simp only [mul_succ_at, mul_zero_at]; rfl
  | succ n ih =>
    rw [mul_succ_at, ih, mul_succ_at]
    show f 0 * g (n+1+1) + ((tl f * tl g) n + f (n+1+1) * g 0) = f 0 * g (n+1+1) + (tl f * tl g) n + f (n+1+1) * g 0
    grind
theorem mul_comm' (f g : Ser R) : f * g = g * f := by
  apply ext; intro n
  induction n generalizing f g with
  | zero => simp only [mul_zero_at]; grind
  | succ n ih => rw [mul_succ_at, mul_tl, ih]; grind
theorem C_mul_mul (c : R) (g h : Ser R) : (C c * g) * h = C c * (g * h) := by
  apply ext; intro n
  induction n generalizing g with
  | zero => simp only [mul_zero_at, C_zero]; grind
  | succ n ih =>
    have : tl (C c * g) = C c * tl g := by funext k; show (C c * g) (k+1) = _; rw [C_mul, C_mul]; rfl
    rw [mul_succ_at, this, ih, C_mul, C_mul, C_mul, mul_succ_at]
    grind
theorem tl_mul (f g : Ser R) : tl (f * g) = C (f 0) * tl g + tl f * g := by
  apply ext; intro n
  show (f * g) (n+1) = _
  rw [mul_succ_at, add_at, C_mul]; rfl
theorem mul_assoc' (f g h : Ser R) : f * g * h = f * (g * h) := by
  apply ext; intro n
  induction n generalizing f with
  | zero => simp only [mul_zero_at]; grind
  | succ n ih => rw [mul_succ_at, tl_mul, add_mul', add_at, ih, C_mul_mul, C_mul, mul_zero_at, mul_succ_at f (g * h) n, mul_succ_at g h n]; grind
theorem one_mul' (f : Ser R) : (1 : Ser R) * f = f := by
  apply ext; intro n
  show (C (1:R) * f) n = _
  rw [C_mul]; grind
theorem C_neg (c : R) : C (-c) = -C c := by funext n; cases n with | zero => rfl | succ n => show (0:R) = -0; grind
theorem C_add (c d : R) : C (c + d) = C c + C d := by funext n; cases n with | zero => rfl | succ n => show (0:R) = 0 + 0; grind
theorem C_times (c d : R) : C (c * d) = C c * C d := by funext n; rw [C_mul]; cases n with | zero => rfl | succ n => show (0:R) = c * 0; grind
theorem ofNat_zero_eq : (OfNat.ofNat 0 : Ser R) = (0 : Ser R) := rfl
instance : CommRing (Ser R) := CommRing.mk (toRing := @Ring.mk _
    (@Semiring.mk _ _ _ _ _ _ _
      (fun a => by funext n; show a n + (0 : Ser R) n = a n; rw [zero_at]; grind)
      (fun a b => by funext n; show a n + b n = b n + a n; grind)
      (fun a b c => by funext n; show a n + b n + c n = a n + (b n + c n); grind)
      mul_assoc'
      (fun a => by rw [mul_comm']; exact one_mul' a)
      one_mul' mul_add' (fun a b c => add_mul' a b c)
      (fun a => by rw [show (0 : Ser R) = (zS : Ser R) from funext zero_at]; exact zmul a)
      (fun a => by rw [mul_comm', show (0 : Ser R) = (zS : Ser R) from funext zero_at]; exact zmul a)
      (fun a => rfl) (fun a n => rfl)
      (fun k => by
        show C (OfNat.ofNat (k+1) : R) = C (OfNat.ofNat k : R) + C (1:R)
        rw [← C_add, Semiring.ofNat_succ])
      (fun k => by show C (OfNat.ofNat k : R) = C (nc k : R); rw [Semiring.ofNat_eq_natCast]; rfl)
      (fun k a => rfl))
    _ _ _ _
    (fun a => by funext n; show -a n + a n = (0 : Ser R) n; rw [zero_at]; grind)
    (fun a b => by funext n; show a n - b n = a n + - b n; grind)
    (fun i a => by
      show C (ic (-i) : R) * a = -(C (ic i : R) * a)
      funext n
      rw [C_mul, neg_at, C_mul, show (ic (-i) : R) = - ic i from Ring.intCast_neg i]
      grind)
    (fun n a => by
      show C (ic (n : Int) : R) * a = C (nc n : R) * a
      rw [show (ic (n : Int) : R) = nc n from Ring.intCast_natCast n])
    (fun n => by
      show C (ic (OfNat.ofNat n : Int) : R) = C (OfNat.ofNat n : R)
      rw [show (ic (OfNat.ofNat n : Int) : R) = OfNat.ofNat n from Ring.intCast_ofNat n])
    (fun i => by show C (ic (-i) : R) = - C (ic i : R); rw [show (ic (-i) : R) = - ic i from Ring.intCast_neg i, C_neg]))
  mul_comm'
def X : Ser R := fun n => match n with | 1 => 1 | _ => 0
theorem X_zero (f : Ser R) : ((X : Ser R) * f) 0 = 0 := by rw [mul_zero_at]; show (0:R) * f 0 = 0; grind
theorem X_succ (f : Ser R) (n : Nat) : ((X : Ser R) * f) (n + 1) = f n := by
  rw [mul_succ_at]
  have : tl (X : Ser R) = C 1 := by funext k; cases k <;> rfl
  rw [this, C_mul]; show (0:R) * f (n+1) + 1 * f n = f n; grind
end
example (R : Type) [CommRing R] (a b c : Ser R) : (a + b) * (a - b) + c * 2 = a * a - b * b + c + c := by grind
end Ser
end RR
/-! ### RMath1 -/
/-! Plain lists of ints: dividing. -/
namespace RR
def divStep (p back : Int) (other : List Int) (at_ : Nat) (s : List Int × List Int) : List Int × List Int :=
  let t := (s.1.getD (at_ + other.length - 1) 0) * back % p
  (if t = 0 then s.1 else updS (fun a b => (a - t * b) % p) at_ s.1 other, s.2.set at_ t)
def divLoop (p back : Int) (one other : List Int) (n : Nat) : Nat → List Int × List Int
  | 0 => (one, zeros n)
  | k + 1 => divStep p back other (n - 1 - k) (divLoop p back one other n k)
def partsN (one other : List Int) : Nat := one.length + 1 - other.length
def partsM (p : Int) (one other : List Int) : List Int × List Int :=
  let s := divLoop p (inv p (other.getLastD 0)) one other (partsN one other) (partsN one other)
  (trim s.2, trim (if other.length ≤ one.length then s.1.take (other.length - 1) else s.1))
theorem divLoop_len {p back : Int} {one other : List Int} {n : Nat} : ∀ k, (divLoop p back one other n k).1.length = one.length ∧ (divLoop p back one other n k).2.length = n
  | 0 => ⟨rfl, by simp [divLoop, zeros]⟩
  | k + 1 => by
    obtain ⟨h1, h2⟩ := divLoop_len (p := p) (back := back) (one := one) (other := other) (n := n) k
    simp only [divLoop, divStep]
    refine ⟨?_, by rw [List.length_set, h2]⟩
    split
    · exact h1
    · rw [updS_len, h1]
end RR
/-! ### RMath2 -/
/-! Inverses modulo the primes that are met. -/
namespace RR
theorem inv_table : ∀ p ∈ [3, 5, 7, 11, 13], ∀ r ∈ List.range 13, (r % p ≠ 0 → ((r % p) ^ (p - 2) % p * r) % p = 1) := by decide +kernel
theorem emod_cases {p n : Int} (hp : Pr p) : ∃ r : Nat, n % p = (r : Int) ∧ r < 13 := by
  have h := hp.pos
  have h1 := Int.emod_nonneg n (b := p) (by omega)
  have h2 := Int.emod_lt_of_pos n (b := p) (by omega)
  exact ⟨(n % p).toNat, by omega, by omega⟩
theorem inv_range {p n : Int} (hp : Pr p) : 0 ≤ inv p n ∧ inv p n < p := by
  have h := hp.pos
  exact ⟨Int.emod_nonneg _ (by omega), Int.emod_lt_of_pos _ (by omega)⟩
theorem inv_mul {p n : Int} (hp : Pr p) (hn : n % p ≠ 0) : (inv p n * n) % p = 1 := by
  obtain ⟨r, hr, hl⟩ := emod_cases (n := n) hp
  have key : ∀ q : Nat, q ∈ [3, 5, 7, 11, 13] → p = (q : Int) → (inv p n * n) % p = 1 := fun q hq e => by
    subst e
    have t := inv_table q hq r (List.mem_range.mpr hl)
    have hlt : r < q := by
      have := Int.emod_lt_of_pos n (b := (q : Int)) (by have := hp.pos; omega)
      omega
    rw [Nat.mod_eq_of_lt hlt] at t
    have t2 := t (by omega)
    unfold inv
    rw [hr, Int.toNat_natCast, Int.mul_emod, Int.emod_emod_of_dvd _ (Int.dvd_refl _), hr]
    have t3 : (((r ^ (q - 2) % q * r) % q : Nat) : Int) = 1 := by rw [t2] <;> rfl
    rw [← t3]
    push_cast
    rw [Int.mul_emod ((r : Int) ^ (q - 2) % (q : Int)) (r : Int), Int.emod_emod_of_dvd _ (Int.dvd_refl _)]
  rcases hp with h | h | h | h | h
  · exact key 3 (by decide) h
  · exact key 5 (by decide) h
  · exact key 7 (by decide) h
  · exact key 11 (by decide) h
  · exact key 13 (by decide) h
/-- whatever times n is 1 is it -/
theorem inv_of {p n x : Int} (hp : Pr p) (hn : n % p ≠ 0) (h : p ∣ 1 - x * n) : x % p = inv p n := by
  have hp2 := hp.pos
  obtain ⟨h1, h2⟩ := inv_range (n := n) hp
  have h3 := inv_mul hp hn
  obtain ⟨k, hk⟩ := h
  have h4 : inv p n * n = p * (inv p n * n / p) + 1 := by
    have := Int.mul_ediv_add_emod (inv p n * n) p
    omega
  generalize inv p n * n / p = l at h4
  generalize inv p n = y at *
  -- x = x (y n - p l) = y (x n) - p l x = y (1 - p k) - p l x
  have f : x = y + p * (-(y * k) - l * x) := by grind
  rw [f, Int.add_mul_emod_self_left]
  exact Int.emod_eq_of_lt h1 h2
/-- one turn of the long division -/
structure Und (p n nr fr fi ot : Int) : Prop where
  f0 : 0 ≤ fr
  f1 : fr ≤ 13
  n0 : 0 < nr
  n1 : nr ≤ 13
  bz : ∃ u v : Int, u * nr + v * fr = 1
  d1 : p ∣ nr - fi * n
  d2 : p ∣ fr - ot * n
theorem Und.turn {p n nr fr fi ot : Int} (U : Und p n nr fr fi ot) (h : 0 < fr) : Und p n fr (nr - nr / fr * fr) ot (fi - nr / fr * ot) ∧ (nr - nr / fr * fr).toNat < fr.toNat ∧ 0 ≤ nr / fr ∧ nr / fr ≤ 13 := by
  obtain ⟨f0, f1, n0, n1, ⟨u, v, bz⟩, ⟨a, d1⟩, ⟨b, d2⟩⟩ := U
  have e1 := Int.mul_ediv_add_emod nr fr
  have e2 := Int.emod_nonneg nr (b := fr) (by omega)
  have e3 := Int.emod_lt_of_pos nr h
  have e4 : 0 ≤ nr / fr := Int.ediv_nonneg (by omega) (by omega)
  have e5 : nr / fr ≤ nr := Int.ediv_le_self _ (by omega)
  have e6 : nr / fr * fr = fr * (nr / fr) := Int.mul_comm _ _
  refine ⟨⟨by omega, by omega, h, f1, ⟨v + u * (nr / fr), u, ?_⟩, ⟨b, d2⟩, ⟨a - nr / fr * b, ?_⟩⟩, by omega, e4, by omega⟩
  · grind
  · grind
theorem Und.start {p n : Int} (hp : Pr p) (hn : n % p ≠ 0) : Und p n p (n % p) 0 1 := by
  have h := hp.pos
  have h1 := Int.emod_nonneg n (b := p) (by omega)
  have h2 := Int.emod_lt_of_pos n (b := p) (by omega)
  have h3 := inv_mul hp hn
  have h4 := Int.mul_ediv_add_emod (inv p n * n) p
  have h5 := Int.mul_ediv_add_emod n p
  refine ⟨h1, by omega, by omega, by omega, ⟨-(inv p n * n / p) + inv p n * (n / p), inv p n, ?_⟩, ⟨1, by omega⟩, ⟨-(n / p), by grind⟩⟩
  grind
theorem Und.done {p n nr fi ot : Int} (hp : Pr p) (hn : n % p ≠ 0) (U : Und p n nr 0 fi ot) : fi % p = inv p n := by
  obtain ⟨u, v, bz⟩ := U.bz
  have h0 := U.n0
  have h1 := U.n1
  have e : nr = 1 := by
    have q : u * nr = 1 := by omega
    have c : nr = 1 ∨ nr = 2 ∨ nr = 3 ∨ nr = 4 ∨ nr = 5 ∨ nr = 6 ∨ nr = 7 ∨ nr = 8 ∨ nr = 9 ∨ nr = 10 ∨ nr = 11 ∨ nr = 12 ∨ nr = 13 := by omega
    rcases c with c | c | c | c | c | c | c | c | c | c | c | c | c <;> subst c <;> omega
  have d := U.d1
  rw [e] at d
  exact inv_of hp hn d
end RR
/-! ### RMath3 -/
/-! What the law's own defs on polynomials modulo a prime compute. -/
namespace RR
def mulL (p : Int) (one other : List Int) : List Int := trim (mulAcc (fun n a b => (a + n * b) % p) one other (if one ≠ [] ∧ other ≠ [] then zeros (one.length + other.length - 1) else []) one.length)
def padL (l : List Int) (n : Nat) : List Int := l ++ zeros (n - l.length)
def plusL (p s : Int) (one other : List Int) : List Int := trim (List.zipWith (fun a b => (a + s * b) % p) (padL one (max one.length other.length)) (padL other (max one.length other.length)))
theorem padL_len {l : List Int} {n : Nat} (h : l.length ≤ n) : (padL l n).length = n := by simp [padL, zeros]; omega
theorem trim_last {l : List Int} {x : Int} (h : x = 0) : (trim (l ++ [x])).length ≤ l.length := by
  subst h
  rw [trim_zero]
  exact trim_len l
/-- the head falls -/
theorem plusL_lt {p share : Int} {l o : List Int} {x c : Int} (hl : o.length ≤ l.length) (h : (x + -1 * (share * c)) % p = 0) :
    (plusL p (-1) (l ++ [x]) (zeros (l.length - o.length) ++ (o ++ [c]).map (share * ·))).length < (l ++ [x]).length := by
  have e1 : (zeros (l.length - o.length) ++ (o ++ [c]).map (share * ·)).length = l.length + 1 := by simp [zeros]; omega
  unfold plusL
  rw [e1, List.length_append, List.length_singleton, Nat.max_self]
  have p1 : padL (l ++ [x]) (l.length + 1) = l ++ [x] := by simp [padL, zeros]
  have p2 : padL (zeros (l.length - o.length) ++ (o ++ [c]).map (share * ·)) (l.length + 1) = (zeros (l.length - o.length) ++ o.map (share * ·)) ++ [share * c] := by
    rw [padL, e1, Nat.sub_self]
    simp [zeros]
  rw [p1, p2, List.zipWith_append (by simp [zeros]; omega)]
  have := trim_last (l := List.zipWith (fun a b => (a + -1 * b) % p) l (zeros (l.length - o.length) ++ o.map (share * ·))) (x := (x + -1 * (share * c)) % p) h
  simp only [List.zipWith_cons_cons, List.zipWith_nil_left] at this ⊢
  refine Nat.lt_succ_of_le (Nat.le_trans this ?_)
  simp [zeros]
  omega
def splitLoop (p back : Int) (other : List Int) : Nat → List Int → List Int → List Int × List Int
  | 0, left, found => (found, left)
  | n + 1, left, found =>
    if left.length < other.length then (found, left)
    else
      let share := left.getLastD 0 * back % p
      let place := left.length - other.length
      splitLoop p back other n (plusL p (-1) left (zeros place ++ other.map (share * ·))) (found.set place share)
def splitL (p : Int) (one other : List Int) : List Int × List Int :=
  let s := splitLoop p (inv p (other.getLastD 0)) other (one.length + 1) one (zeros (one.length + 1 - other.length))
  (trim s.1, s.2)
/-- the long division's turn -/
theorem split_lt {p : Int} {left other : List Int} (hp : Pr p) (ho : other ≠ []) (hc : other.getLastD 0 % p ≠ 0) (h : other.length ≤ left.length) :
    (plusL p (-1) left (zeros (left.length - other.length) ++ other.map (left.getLastD 0 * inv p (other.getLastD 0) % p * ·))).length < left.length := by
  have hp2 := hp.pos
  obtain ⟨o, c, rfl⟩ := (list_end other).resolve_left ho
  have hl : left ≠ [] := fun q => by rw [q] at h; simp at h
  obtain ⟨l, x, rfl⟩ := (list_end left).resolve_left hl
  simp only [List.getLastD_concat] at hc ⊢
  have hle : o.length ≤ l.length := by simpa using h
  have e : (l ++ [x]).length - (o ++ [c]).length = l.length - o.length := by simp
  rw [e]
  refine plusL_lt hle ?_
  have h3 := inv_mul hp hc
  have h4 := Int.mul_ediv_add_emod (inv p c * c) p
  have h5 := Int.mul_ediv_add_emod (x * inv p c) p
  have key : x + -1 * (x * inv p c % p * c) = p * (x * inv p c / p * c - x * (inv p c * c / p)) := by grind
  rw [key, Int.mul_emod_right]
theorem splitLoop_more {p : Int} {other : List Int} (hp : Pr p) (ho : other ≠ []) (hc : other.getLastD 0 % p ≠ 0) : ∀ (n : Nat) (left found : List Int), left.length < n → splitLoop p (inv p (other.getLastD 0)) other (n + 1) left found = splitLoop p (inv p (other.getLastD 0)) other n left found
  | 0, left, found, h => absurd h (Nat.not_lt_zero _)
  | n + 1, left, found, h => by
    rw [splitLoop]
    conv => rhs; rw [splitLoop]
    split
    · rfl
    · rename_i q
      have := split_lt hp ho hc (left := left) (by omega)
      exact splitLoop_more hp ho hc n _ _ (by omega)
/-- by the turn's own length -/
theorem splitLoop_at {p : Int} {other : List Int} (hp : Pr p) (ho : other ≠ []) (hc : other.getLastD 0 % p ≠ 0) {n k : Nat} {left found : List Int} (hn : left.length < n) (hk : left.length < k) : splitLoop p (inv p (other.getLastD 0)) other n left found = splitLoop p (inv p (other.getLastD 0)) other k left found := by
  have up : ∀ j n, left.length < n → splitLoop p (inv p (other.getLastD 0)) other (n + j) left found = splitLoop p (inv p (other.getLastD 0)) other n left found := by
    intro j
    induction j with
    | zero => intro n _; rfl
    | succ j ih => intro n h; rw [Nat.add_succ, splitLoop_more hp ho hc _ _ _ (by omega), ih n h]
  rcases Nat.le_total n k with h | h
  · have := up (k - n) n hn
    rw [show n + (k - n) = k from by omega] at this
    exact this.symm
  · have := up (n - k) k hk
    rw [show k + (n - k) = n from by omega] at this
    exact this
def restsL (p : Int) (nums : List Int) (bottom : Int) : List Int := trim (nums.map fun n => n * inv p bottom * inv p bottom % p)
end RR
/-! ### RPoly2 -/
/-! Lists of ints as rows of coefficients over a ring. -/
namespace RR
open Lean.Grind Ser
section
variable {R : Type} [CommRing R]
theorem ic_add (a b : Int) : (ic (a + b) : R) = ic a + ic b := Ring.intCast_add a b
theorem ic_mul (a b : Int) : (ic (a * b) : R) = ic a * ic b := Ring.intCast_mul a b
theorem ic_neg (a : Int) : (ic (-a) : R) = - ic a := Ring.intCast_neg a
theorem ic_sub (a b : Int) : (ic (a - b) : R) = ic a - ic b := Ring.intCast_sub a b
theorem ic_zero : (ic 0 : R) = 0 := Ring.intCast_zero
theorem ic_one : (ic 1 : R) = 1 := Ring.intCast_one
theorem ic_mod {p : Int} (h : (ic p : R) = 0) (a : Int) : (ic (a % p) : R) = ic a := by
  have e := Int.mul_ediv_add_emod a p
  have : (ic a : R) = ic (p * (a / p) + a % p) := by rw [e]
  rw [this, ic_add, ic_mul, h]; grind
variable (R) in
/-- the row of a list of ints -/
def S : List Int → Ser R
  | [] => 0
  | a :: l => C (ic a) + X * S l
def xp (n : Nat) : Ser R := (X : Ser R) ^ n
theorem xp_zero : (xp 0 : Ser R) = 1 := Semiring.pow_zero _
theorem xp_succ (n : Nat) : (xp (n + 1) : Ser R) = X * xp n := by
  show (X : Ser R) ^ (n+1) = X * X ^ n
  rw [Semiring.pow_succ, CommSemiring.mul_comm]
theorem S_nil : S R [] = 0 := rfl
theorem S_cons (a : Int) (l : List Int) : S R (a :: l) = C (ic a) + X * S R l := rfl
theorem S_at : ∀ (l : List Int) (n : Nat), S R l n = ic (l.getD n 0)
  | [], n => by rw [S_nil, zero_at]; simp [ic_zero]
  | a :: l, 0 => by rw [S_cons, add_at, X_zero, C_zero]; simp; grind
  | a :: l, n + 1 => by rw [S_cons, add_at, X_succ, C_succ, S_at l n]; simp; grind
theorem S_len {l : List Int} {n : Nat} (h : l.length ≤ n) : S R l n = 0 := by
  rw [S_at, List.getD_eq_getElem?_getD, List.getElem?_eq_none h]; exact ic_zero
theorem C_zero_eq : (C (0:R)) = 0 := rfl
theorem S_app (l : List Int) (x : Int) : S R (l ++ [x]) = S R l + C (ic x) * xp l.length := by
  induction l with
  | nil => rw [List.nil_append, S_cons, S_nil, List.length_nil, xp_zero]; grind
  | cons a l ih => rw [List.cons_append, S_cons, ih, S_cons, List.length_cons, xp_succ]; grind
theorem S_zeros : ∀ n, S R (zeros n) = 0
  | 0 => rfl
  | n + 1 => by rw [show zeros (n+1) = 0 :: zeros n from rfl, S_cons, S_zeros n, ic_zero, C_zero_eq]; grind
theorem S_trim (l : List Int) : S R (trim l) = S R l := by
  generalize h : l.length = n
  induction n generalizing l with
  | zero => rw [List.length_eq_zero_iff.mp h]; rfl
  | succ n ih =>
    rcases list_end l with rfl | ⟨l', x, rfl⟩
    · rfl
    · by_cases c : x = 0
      · subst c
        rw [trim_zero, ih l' (by simpa using h), S_app, ic_zero, C_zero_eq]; grind
      · rw [trim_app c]
theorem S_more (l : List Int) (k : Nat) : S R (l ++ zeros k) = S R l := by
  induction l with
  | nil => rw [List.nil_append, S_zeros]; rfl
  | cons a l ih => rw [List.cons_append, S_cons, ih, S_cons]
theorem S_map {f : Int → Int} {c : R} (hf : ∀ a, (ic (f a) : R) = c * ic a) (l : List Int) : S R (l.map f) = C c * S R l := by
  induction l with
  | nil => rw [List.map_nil, S_nil]; grind
  | cons a l ih => rw [List.map_cons, S_cons, ih, hf, C_times, S_cons]; grind
theorem S_mapMod {p : Int} (h : (ic p : R) = 0) (l : List Int) : S R (l.map (· % p)) = S R l := by
  rw [S_map (c := 1) (fun a => by rw [ic_mod h]; grind), show (C (1:R)) = 1 from rfl]; grind
theorem S_updI {F : Int → Int → Int} {c : R} (hF : ∀ a b, (ic (F a b) : R) = ic a + c * ic b) : ∀ xs ys : List Int, ys.length ≤ xs.length → S R (updI F xs ys) = S R xs + C c * S R ys
  | a :: as, b :: bs, h => by
    rw [updI, S_cons, S_updI hF as bs (by simpa using h), hF, C_add, C_times, S_cons, S_cons]; grind
  | [], [], _ => by rw [updI_nil, S_nil]; grind
  | a :: as, [], _ => by rw [updI_nil, S_nil]; grind
  | [], b :: bs, h => by simp at h
theorem S_updS {F : Int → Int → Int} {c : R} (hF : ∀ a b, (ic (F a b) : R) = ic a + c * ic b) : ∀ (s : Nat) (xs ys : List Int), ys = [] ∨ s + ys.length ≤ xs.length → S R (updS F s xs ys) = S R xs + C c * xp s * S R ys
  | s, xs, [], _ => by rw [updS_nil, S_nil]; grind
  | 0, xs, y :: ys, h => by
    have h := h.resolve_left (by simp)
    rw [updS, S_updI hF xs _ (by omega), xp_zero]; grind
  | s + 1, x :: xs, y :: ys, h => by
    have h := h.resolve_left (by simp)
    rw [updS, S_cons, S_updS hF s xs (y :: ys) (.inr (by simp at h ⊢; omega)), xp_succ, S_cons x]; grind
  | s + 1, [], y :: ys, h => by simp at h
theorem S_take {l : List Int} {i : Nat} {a : Int} (h : l[i]? = some a) : S R (l.take (i + 1)) = S R (l.take i) + C (ic a) * xp i := by
  have hi : i < l.length := (List.getElem?_eq_some_iff.mp h).1
  have e : l.take (i + 1) = l.take i ++ [a] := by
    rw [List.take_add_one, h]; rfl
  rw [e, S_app, List.length_take, Nat.min_eq_left (by omega)]
theorem S_mulAcc {G : Int → Int → Int → Int} (hG : ∀ n a b, (ic (G n a b) : R) = ic a + ic n * ic b) {one other zs : List Int} (hz : other = [] ∨ one.length + other.length - 1 ≤ zs.length) : ∀ i, i ≤ one.length → S R (mulAcc G one other zs i) = S R zs + S R (one.take i) * S R other
  | 0, _ => by rw [mulAcc, List.take_zero, S_nil]; grind
  | i + 1, h => by
    have ha : one[i]? = some one[i] := List.getElem?_eq_getElem (by omega)
    rw [mulAcc_succ ha, S_updS (c := ic one[i]) (hG _) i _ _ (by rw [mulAcc_len]; exact hz.imp id fun q => by omega), S_mulAcc hG hz i (by omega), S_take ha]
    grind
theorem S_rawMul (one other : List Int) (h1 : one ≠ []) : S R (rawMul one other) = S R one * S R other := by
  unfold rawMul
  rw [S_mulAcc (fun n a b => by rw [ic_add, ic_mul]) (.inr (by simp [zeros])) one.length (Nat.le_refl _), S_zeros, List.take_length]; grind
variable {p : Int} (hp0 : (ic p : R) = 0)
include hp0
theorem S_mulM (one other : List Int) : S R (mulM p one other) = S R one * S R other := by
  unfold mulM
  split
  · rename_i h
    rcases h with h | h <;> rw [h, S_nil] <;> grind
  · rename_i h
    rw [S_trim, S_mapMod hp0, S_rawMul _ _ (fun q => h (.inl q))]
theorem S_sumM (t : Int) (one other : List Int) : S R (sumM p t one other) = S R one + C (ic t) * S R other := by
  unfold sumM
  rw [S_trim, S_updI (c := ic t) (fun a b => by rw [ic_mod hp0, ic_add, ic_mul]) _ _ (by simp [zeros]; omega), S_more]
theorem S_mulL (one other : List Int) : S R (mulL p one other) = S R one * S R other := by
  unfold mulL
  rw [S_trim]
  by_cases c1 : one = []
  · subst c1; rw [if_neg (fun q => q.1 rfl)]; simp only [List.length_nil, mulAcc, S_nil]; grind
  · by_cases c2 : other = []
    · subst c2
      rw [S_mulAcc (fun n a b => by rw [ic_mod hp0, ic_add, ic_mul]) (.inl rfl) one.length (Nat.le_refl _), if_neg (fun q => q.2 rfl), S_nil]; grind
    · rw [if_pos ⟨c1, c2⟩, S_mulAcc (fun n a b => by rw [ic_mod hp0, ic_add, ic_mul]) (.inr (by simp [zeros])) one.length (Nat.le_refl _), S_zeros, List.take_length]; grind
theorem S_zip {s : Int} : ∀ a b : List Int, a.length = b.length → S R (List.zipWith (fun a b => (a + s * b) % p) a b) = S R a + C (ic s) * S R b
  | [], [], _ => by rw [List.zipWith_nil_left, S_nil]; grind
  | x :: a, y :: b, h => by rw [List.zipWith_cons_cons, S_cons, S_zip a b (by simpa using h), ic_mod hp0, ic_add, ic_mul, C_add, C_times, S_cons, S_cons]; grind
  | [], _ :: _, h => by simp at h
  | _ :: _, [], h => by simp at h
theorem S_plusL (s : Int) (one other : List Int) : S R (plusL p s one other) = S R one + C (ic s) * S R other := by
  unfold plusL
  rw [S_trim, S_zip hp0 _ _ (by rw [padL_len (by omega), padL_len (by omega)]), padL, padL, S_more, S_more]
end
/-! ### degrees -/
section
variable {R : Type} [CommRing R]
/-- below: nothing from the n-th on -/
def Bd (f : Ser R) (n : Nat) : Prop := ∀ k, n ≤ k → f k = 0
theorem mul_bd {f g : Ser R} {a b : Nat} (hf : Bd f (a + 1)) (hg : Bd g (b + 1)) : (f * g) (a + b) = f a * g b ∧ Bd (f * g) (a + b + 1) := by
  have z : ∀ g : Ser R, ∀ f : Ser R, Bd f 0 → f * g = 0 := fun g f h => by
    have : f = (0 : Ser R) := funext fun n => by rw [zero_at]; exact h n (Nat.zero_le _)
    rw [this]; grind
  induction a generalizing f with
  | zero =>
    have e : ∀ n, (f * g) n = f 0 * g n := fun n => by
      cases n with
      | zero => rfl
      | succ n =>
        rw [mul_succ_at, z g (tl f) (fun k _ => hf (k+1) (by omega)), zero_at]; grind
    refine ⟨by rw [Nat.zero_add]; exact e b, fun k hk => ?_⟩
    rw [e, hg k (by omega)]; grind
  | succ a ih =>
    obtain ⟨h1, h2⟩ := ih (f := tl f) (fun k hk => hf (k+1) (by omega))
    constructor
    · rw [show a + 1 + b = (a + b) + 1 from by omega, mul_succ_at, h1, hg (a+b+1) (by omega)]
      show f 0 * 0 + f (a+1) * g b = _
      grind
    · intro k hk
      cases k with
      | zero => omega
      | succ k => rw [mul_succ_at, hg (k+1) (by omega), h2 k (by omega)]; grind
theorem Bd.add {f g : Ser R} {n : Nat} (hf : Bd f n) (hg : Bd g n) : Bd (f + g) n := fun k hk => by rw [add_at, hf k hk, hg k hk]; grind
theorem Bd.sub {f g : Ser R} {n : Nat} (hf : Bd f n) (hg : Bd g n) : Bd (f - g) n := fun k hk => by rw [sub_at, hf k hk, hg k hk]; grind
theorem Bd.mono {f : Ser R} {n k : Nat} (hf : Bd f n) (h : n ≤ k) : Bd f k := fun j hj => hf j (by omega)
theorem Bd.smul {f : Ser R} {n : Nat} (c : R) (hf : Bd f n) : Bd (C c * f) n := fun k hk => by rw [Ser.C_mul, hf k hk]; grind
theorem S_bd (l : List Int) : Bd (S R l) l.length := fun _ h => S_len h
theorem Bd.zero {f : Ser R} (h : Bd f 0) : f = 0 := funext fun n => by rw [zero_at]; exact h n (Nat.zero_le _)
/-- a field's facts, for the rests modulo p -/
structure Fld (R : Type) [CommRing R] (p : Int) : Prop where
  p0 : (ic p : R) = 0
  inj : ∀ a : Int, (ic a : R) = 0 → a % p = 0
  sur : ∀ r : R, ∃ k : Int, ic k = r
  dom : ∀ a b : R, a * b = 0 → a = 0 ∨ b = 0
  pos : 3 ≤ p
/-- a row that ends: its degree -/
def Dg (f : Ser R) (n : Nat) : Prop := f n ≠ 0 ∧ Bd f (n + 1)
theorem Dg.uniq {f : Ser R} {a b : Nat} (h : Dg f a) (g : Dg f b) : a = b := by
  rcases Nat.lt_trichotomy a b with q | q | q
  · exact absurd (h.2 b q) g.1
  · exact q
  · exact absurd (g.2 a q) h.1
theorem Bd.dg {f : Ser R} : ∀ {n : Nat}, Bd f n → f = 0 ∨ ∃ k, k < n ∧ Dg f k
  | 0, h => .inl h.zero
  | n + 1, h => by
    by_cases c : f n = 0
    · have : Bd f n := fun k hk => by
        rcases Nat.eq_or_lt_of_le hk with q | q
        · rw [← q]; exact c
        · exact h k q
      rcases this.dg with q | ⟨k, q, d⟩
      · exact .inl q
      · exact .inr ⟨k, by omega, d⟩
    · exact .inr ⟨n, by omega, c, h⟩
variable {p : Int} (hR : Fld R p)
include hR
theorem Dg.mul {f g : Ser R} {a b : Nat} (hf : Dg f a) (hg : Dg g b) : Dg (f * g) (a + b) := by
  obtain ⟨h1, h2⟩ := mul_bd hf.2 hg.2
  exact ⟨by rw [h1]; exact fun q => (hR.dom _ _ q).elim hf.1 hg.1, h2⟩
theorem Ser.dom {f g : Ser R} {a b : Nat} (hf : Bd f a) (hg : Bd g b) (h : f * g = 0) : f = 0 ∨ g = 0 := by
  rcases hf.dg with q | ⟨a, _, q⟩
  · exact .inl q
  · rcases hg.dg with r | ⟨b, _, r⟩
    · exact .inr r
    · have := (q.mul hR r).1
      rw [h, zero_at] at this
      exact absurd rfl this
/-- one quotient, one rest -/
theorem div_uniq {d q1 q2 r1 r2 : Ser R} {n m : Nat} (hd : Dg d n) (b1 : Bd r1 n) (b2 : Bd r2 n) (m1 : Bd q1 m) (m2 : Bd q2 m) (h : q1 * d + r1 = q2 * d + r2) : q1 = q2 ∧ r1 = r2 := by
  have e : (q1 - q2) * d = r2 - r1 := by grind
  rcases (m1.sub m2).dg with q | ⟨k, _, q⟩
  · have e1 : q1 = q2 := by grind
    subst e1
    exact ⟨rfl, by grind⟩
  · have := (q.mul hR hd).1
    rw [e] at this
    exact absurd ((b2.sub b1) (k + n) (by omega)) this
end
/-! ### reduced lists -/
def Rg (p : Int) (l : List Int) : Prop := ∀ x ∈ l, 0 ≤ x ∧ x < p
def Red (p : Int) (l : List Int) : Prop := Rg p l ∧ trim l = l
theorem trim_mem {l : List Int} {x : Int} (h : x ∈ trim l) : x ∈ l := by
  unfold trim at h
  exact List.mem_reverse.mp ((List.dropWhile_sublist _).mem (List.mem_reverse.mp h))
theorem trim_trim (l : List Int) : trim (trim l) = trim l := by
  generalize h : l.length = n
  induction n generalizing l with
  | zero => rw [List.length_eq_zero_iff.mp h]; rfl
  | succ n ih =>
    rcases list_end l with rfl | ⟨l', x, rfl⟩
    · rfl
    · by_cases c : x = 0
      · subst c; rw [trim_zero, ih l' (by simpa using h)]
      · rw [trim_app c, trim_app c]
theorem Rg.red {p : Int} {l : List Int} (h : Rg p l) : Red p (trim l) := ⟨fun x hx => h x (trim_mem hx), trim_trim l⟩
theorem Red.nil {p : Int} : Red p [] := ⟨fun x h => by simp at h, rfl⟩
theorem Red.last {p : Int} {l : List Int} {x : Int} (h : Red p (l ++ [x])) : 0 < x ∧ x < p := by
  have h1 := h.1 x (by simp)
  have : x ≠ 0 := fun q => by
    have e := h.2
    rw [q, trim_zero] at e
    have := trim_len l
    rw [e] at this
    simp at this
    omega
  omega
theorem Red.one {p : Int} (h : 3 ≤ p) {x : Int} (h1 : 0 < x) (h2 : x < p) : Red p [x] := ⟨fun y hy => by rw [List.mem_singleton.mp hy]; omega, trim_app (l := []) (by omega)⟩
theorem Red.lead {p : Int} {l : List Int} (h : Red p l) (hn : l ≠ []) : 0 < l.getLastD 0 ∧ l.getLastD 0 < p ∧ l.getLastD 0 % p ≠ 0 := by
  obtain ⟨l', x, rfl⟩ := (list_end l).resolve_left hn
  have := h.last
  simp only [List.getLastD_concat]
  refine ⟨this.1, this.2, ?_⟩
  rw [Int.emod_eq_of_lt (by omega) this.2]; omega
theorem Rg.sm {p : Int} {l : List Int} (h : Rg p l) (hp : p ≤ 13) : Sm l := fun x hx => by
  have := h x hx
  omega
theorem mulM_red {p : Int} (hp : 3 ≤ p) (a b : List Int) : Red p (mulM p a b) := by
  unfold mulM
  split
  · exact .nil
  · refine Rg.red fun x hx => ?_
    obtain ⟨y, _, rfl⟩ := List.mem_map.mp hx
    exact ⟨Int.emod_nonneg _ (by omega), Int.emod_lt_of_pos _ (by omega)⟩
theorem updI_rg {p : Int} {F : Int → Int → Int} (hF : ∀ a b, 0 ≤ F a b ∧ F a b < p) : ∀ xs ys : List Int, Rg p xs → Rg p (updI F xs ys)
  | a :: as, b :: bs, h => fun x hx => by
    rcases List.mem_cons.mp hx with q | q
    · rw [q]; exact hF _ _
    · exact updI_rg hF as bs (fun y hy => h y (List.mem_cons_of_mem _ hy)) x q
  | [], _, h => by rw [show updI F [] _ = [] from by cases ‹List Int› <;> rfl]; exact h
  | a :: as, [], h => by rw [updI_nil]; exact h
theorem updS_rg {p : Int} {F : Int → Int → Int} (hF : ∀ a b, 0 ≤ F a b ∧ F a b < p) : ∀ (s : Nat) (xs ys : List Int), Rg p xs → Rg p (updS F s xs ys)
  | 0, xs, ys, h => updI_rg hF xs ys h
  | s + 1, x :: xs, ys, h => fun y hy => by
    rcases List.mem_cons.mp hy with q | q
    · rw [q]; exact h x List.mem_cons_self
    · exact updS_rg hF s xs ys (fun y hy => h y (List.mem_cons_of_mem _ hy)) y q
  | s + 1, [], ys, h => h
theorem mod_rg {p : Int} (hp : 3 ≤ p) (a : Int) : 0 ≤ a % p ∧ a % p < p := ⟨Int.emod_nonneg _ (by omega), Int.emod_lt_of_pos _ (by omega)⟩
theorem zeros_rg {p : Int} (hp : 3 ≤ p) (n : Nat) : Rg p (zeros n) := fun x hx => by
  rw [List.eq_of_mem_replicate hx]; omega
theorem sumM_red {p t : Int} (hp : 3 ≤ p) {a b : List Int} (ha : Rg p a) : Red p (sumM p t a b) := by
  unfold sumM
  refine Rg.red (updI_rg (fun _ _ => mod_rg hp _) _ _ fun x hx => ?_)
  rcases List.mem_append.mp hx with q | q
  · exact ha x q
  · exact zeros_rg hp _ x q
theorem plusL_red {p s : Int} (hp : 3 ≤ p) (a b : List Int) : Red p (plusL p s a b) := by
  unfold plusL
  refine Rg.red fun x hx => ?_
  obtain ⟨i, hi, e⟩ := List.getElem_of_mem hx
  rw [List.getElem_zipWith] at e
  rw [← e]; exact mod_rg hp _
theorem mulAcc_rg {p : Int} {G : Int → Int → Int → Int} (hG : ∀ n a b, 0 ≤ G n a b ∧ G n a b < p) {one other zs : List Int} (hz : Rg p zs) : ∀ i, Rg p (mulAcc G one other zs i)
  | 0 => hz
  | i + 1 => by
    unfold mulAcc
    split
    · exact updS_rg (hG _) _ _ _ (mulAcc_rg hG hz i)
    · exact mulAcc_rg hG hz i
theorem mulL_red {p : Int} (hp : 3 ≤ p) (a b : List Int) : Red p (mulL p a b) := by
  unfold mulL
  refine Rg.red (mulAcc_rg (fun _ _ _ => mod_rg hp _) ?_ _)
  split
  · exact zeros_rg hp _
  · exact fun x h => by simp at h
section
variable {R : Type} [CommRing R] {p : Int} (hR : Fld R p)
include hR
theorem Red.dg {l : List Int} (h : Red p l) (hn : l ≠ []) : Dg (S R l) (l.length - 1) := by
  obtain ⟨l', x, rfl⟩ := (list_end l).resolve_left hn
  have hx := h.last
  refine ⟨?_, by have := S_bd (R := R) (l' ++ [x]); simpa using this⟩
  rw [S_at]
  simp
  intro q
  have := hR.inj _ q
  rw [Int.emod_eq_of_lt (by omega) hx.2] at this
  omega
theorem Red.eq {a b : List Int} (ha : Red p a) (hb : Red p b) (h : S R a = S R b) : a = b := by
  have len : a.length = b.length := by
    by_cases c1 : a = []
    · by_cases c2 : b = []
      · rw [c1, c2]
      · have := (hb.dg hR c2).1
        rw [← h, c1, S_nil, zero_at] at this
        exact absurd rfl this
    · by_cases c2 : b = []
      · have := (ha.dg hR c1).1
        rw [h, c2, S_nil, zero_at] at this
        exact absurd rfl this
      · have := (ha.dg hR c1).uniq (by rw [h]; exact hb.dg hR c2)
        have l1 := List.length_pos_iff.mpr c1
        have l2 := List.length_pos_iff.mpr c2
        omega
  apply List.ext_getElem len
  intro i h1 h2
  have e := congrFun h i
  rw [S_at, S_at, List.getD_eq_getElem?_getD, List.getD_eq_getElem?_getD, List.getElem?_eq_getElem h1, List.getElem?_eq_getElem h2, Option.getD_some, Option.getD_some] at e
  have z : (ic (a[i] - b[i]) : R) = 0 := by rw [ic_sub, e]; grind
  have d := hR.inj _ z
  have r1 := ha.1 a[i] (List.getElem_mem h1)
  have r2 := hb.1 b[i] (List.getElem_mem h2)
  have dd := Int.dvd_of_emod_eq_zero d
  obtain ⟨k, hk⟩ := dd
  have hp := hR.pos
  rcases Int.lt_trichotomy k 0 with q | q | q
  · have : p * k ≤ p * (-1) := Int.mul_le_mul_of_nonneg_left (by omega) (by omega)
    omega
  · rw [q] at hk; omega
  · have : p * 1 ≤ p * k := Int.mul_le_mul_of_nonneg_left (by omega) (by omega)
    omega
theorem Red.zero {a : List Int} (ha : Red p a) (h : S R a = 0) : a = [] := ha.eq hR .nil h
theorem mulL_eq (a b : List Int) : mulL p a b = mulM p a b := (mulL_red hR.pos a b).eq hR (mulM_red hR.pos a b) (by rw [S_mulL hR.p0, S_mulM hR.p0])
theorem plusL_eq (s : Int) {a : List Int} (b : List Int) (ha : Rg p a) : plusL p s a b = sumM p s a b := (plusL_red hR.pos a b).eq hR (sumM_red hR.pos ha) (by rw [S_plusL hR.p0, S_sumM hR.p0])
end
end RR
/-! ### RPoly3 -/
/-! Dividing: the program's and the law's way are one. -/
namespace RR
open Lean.Grind Ser
section
variable {R : Type} [CommRing R]
theorem xp_at (f : Ser R) : ∀ a m : Nat, ((xp a : Ser R) * f) (a + m) = f m
  | 0, m => by rw [xp_zero, Nat.zero_add]; rw [show (1 : Ser R) * f = f from by grind]
  | a + 1, m => by
    rw [xp_succ, show (X : Ser R) * xp a * f = X * (xp a * f) from by grind, show a + 1 + m = (a + m) + 1 from by omega, X_succ]
    exact xp_at f a m
theorem xp_bd {f : Ser R} {a b : Nat} (h : Bd f b) : Bd (xp a * f) (a + b) := fun k hk => by
  rw [show k = a + (k - a) from by omega, xp_at]; exact h _ (by omega)
theorem C_sub (c d : R) : (C (c - d) : Ser R) = C c - C d := by
  funext n
  cases n with
  | zero => rfl
  | succ n => show (0:R) = 0 - 0; grind
theorem S_set : ∀ (l : List Int) (i : Nat) (t : Int), i < l.length → S R (l.set i t) = S R l + C (ic t - ic (l.getD i 0)) * xp i
  | a :: l, 0, t, _ => by
    rw [List.set_cons_zero, S_cons, S_cons, xp_zero]
    simp only [List.getD_cons_zero]
    rw [C_sub]; grind
  | a :: l, i + 1, t, h => by
    rw [List.set_cons_succ, S_cons, S_set l i t (by simpa using h), S_cons, xp_succ]
    simp only [List.getD_cons_succ]; grind
  | [], i, t, h => by simp at h
theorem S_cut {l : List Int} {n : Nat} (h : Bd (S R l) n) : S R (l.take n) = S R l := by
  funext k
  rw [S_at, S_at, List.getD_eq_getElem?_getD, List.getD_eq_getElem?_getD]
  by_cases c : k < n
  · rw [List.getElem?_take_of_lt c]
  · rw [List.getElem?_eq_none (l := l.take n) (by rw [List.length_take]; omega)]
    have := h k (by omega)
    rw [S_at, List.getD_eq_getElem?_getD] at this
    rw [this]; exact ic_zero
end
theorem Rg.take {p : Int} {l : List Int} (h : Rg p l) (n : Nat) : Rg p (l.take n) := fun x hx => h x (List.mem_of_mem_take hx)
theorem Rg.set {p : Int} {l : List Int} (h : Rg p l) {i : Nat} {t : Int} (ht : 0 ≤ t ∧ t < p) : Rg p (l.set i t) := fun x hx => by
  rcases List.mem_or_eq_of_mem_set hx with q | q
  · exact h x q
  · rw [q]; exact ht
theorem getD_set_ne {l : List Int} {i j : Nat} {t : Int} (h : i ≠ j) : (l.set i t).getD j 0 = l.getD j 0 := by
  rw [List.getD_eq_getElem?_getD, List.getElem?_set_ne h, ← List.getD_eq_getElem?_getD]
section
variable {R : Type} [CommRing R] {p : Int} (hR : Fld R p) (hpr : Pr p)
include hR hpr
theorem inv_ic {c : Int} (h : c % p ≠ 0) : (ic (inv p c) * ic c : R) = 1 := by
  have h3 := inv_mul hpr h
  have e := Int.mul_ediv_add_emod (inv p c * c) p
  rw [h3] at e
  rw [← ic_mul, ← e, ic_add, ic_mul, hR.p0, ic_one]; grind
theorem inv_rg (c : Int) : 0 ≤ inv p c ∧ inv p c < p := inv_range hpr
theorem rg_zero {x : Int} (h : 0 ≤ x ∧ x < p) (z : (ic x : R) = 0) : x = 0 := by
  have := hR.inj _ z
  rwa [Int.emod_eq_of_lt h.1 h.2] at this
theorem divLoop_inv {one other : List Int} (h1 : Rg p one) (h2 : Red p other) (hn : other ≠ []) (hl : other.length ≤ one.length) : ∀ k, k ≤ partsN one other →
    let s := divLoop p (inv p (other.getLastD 0)) one other (partsN one other) k
    Rg p s.1 ∧ Rg p s.2 ∧ S R one = S R s.2 * S R other + S R s.1 ∧ Bd (S R s.1) (one.length - k) ∧ ∀ j, j < partsN one other - k → s.2.getD j 0 = 0
  | 0, _ => ⟨h1, zeros_rg hR.pos _, by simp only [divLoop]; rw [S_zeros]; grind, S_bd _, fun j hj => by simp [divLoop, zeros, List.getElem?_replicate]; split <;> rfl⟩
  | k + 1, hk => by
    obtain ⟨a1, a2, a3, a4, a5⟩ := divLoop_inv h1 h2 hn hl k (by omega)
    obtain ⟨l1, l2⟩ := divLoop_len (p := p) (back := inv p (other.getLastD 0)) (one := one) (other := other) (n := partsN one other) k
    have nn : partsN one other = one.length + 1 - other.length := rfl
    have ol : 0 < other.length := List.length_pos_iff.mpr hn
    have ld := h2.lead hn
    have od := h2.dg hR hn
    simp only [divLoop, divStep]
    generalize divLoop p (inv p (other.getLastD 0)) one other (partsN one other) k = s at *
    have olast : (ic (other.getLastD 0) : R) = S R other (other.length - 1) := by
      rw [S_at]; congr 1
      rw [List.getLastD_eq_getLast?, List.getLast?_eq_getElem?, List.getD_eq_getElem?_getD]
    generalize hb : inv p (other.getLastD 0) = back at *
    have hbc : (ic back * ic (other.getLastD 0) : R) = 1 := by rw [← hb]; exact inv_ic hR hpr ld.2.2
    generalize ha : partsN one other - 1 - k = at_ at *
    have hat : at_ + other.length - 1 = one.length - 1 - k := by omega
    generalize hx : s.1.getD (at_ + other.length - 1) 0 = x at *
    have sx : S R s.1 (at_ + (other.length - 1)) = ic x := by rw [S_at, ← hx]; congr 2; omega
    have ht := mod_rg hR.pos (x * back)
    have hti : (ic (x * back % p) : R) = ic x * ic back := by rw [ic_mod hR.p0, ic_mul]
    generalize x * back % p = t at *
    have zt : s.2.getD at_ 0 = 0 := a5 at_ (by omega)
    have S2 : S R (s.2.set at_ t) = S R s.2 + C (ic t) * xp at_ := by
      rw [S_set _ _ _ (by omega), zt, ic_zero, C_sub, C_zero_eq]; grind
    have S1 : S R (if t = 0 then s.1 else updS (fun a b => (a - t * b) % p) at_ s.1 other) = S R s.1 - C (ic t) * xp at_ * S R other := by
      split
      · rename_i q; rw [q, ic_zero, C_zero_eq]; grind
      · rw [S_updS (c := - ic t) (fun a b => by rw [ic_mod hR.p0, ic_sub, ic_mul]; grind) _ _ _ (.inr (by omega)), C_neg]; grind
    refine ⟨?_, a2.set ht, ?_, ?_, ?_⟩
    · split
      · exact a1
      · exact updS_rg (fun _ _ => mod_rg hR.pos _) _ _ _ a1
    · rw [S1, S2]; grind
    · rw [S1]
      intro j hj
      have e : C (ic t) * xp at_ * S R other = C (ic t) * (xp at_ * S R other) := by grind
      rw [e, sub_at, C_mul]
      rcases Nat.eq_or_lt_of_le hj with q | q
      · have ej : j = at_ + (other.length - 1) := by omega
        rw [ej, xp_at, sx, ← olast, hti]; grind
      · rw [a4 j (by omega), xp_bd od.2 j (by omega)]; grind
    · intro j hj
      rw [getD_set_ne (by omega)]; exact a5 j (by omega)
/-- the program's division -/
theorem partsM_spec {one other : List Int} (h1 : Red p one) (h2 : Red p other) (hn : other ≠ []) :
    S R one = S R (partsM p one other).1 * S R other + S R (partsM p one other).2 ∧ Red p (partsM p one other).1 ∧ Red p (partsM p one other).2 ∧ (partsM p one other).2.length < other.length ∧ (partsM p one other).1.length ≤ one.length + 1 - other.length := by
  have ol : 0 < other.length := List.length_pos_iff.mpr hn
  by_cases hl : other.length ≤ one.length
  · obtain ⟨a1, a2, a3, a4, a5⟩ := divLoop_inv hR hpr h1.1 h2 hn hl _ (Nat.le_refl _)
    obtain ⟨l1, l2⟩ := divLoop_len (p := p) (back := inv p (other.getLastD 0)) (one := one) (other := other) (n := partsN one other) (partsN one other)
    simp only [partsM, if_pos hl]
    have nn : partsN one other = one.length + 1 - other.length := rfl
    generalize divLoop p (inv p (other.getLastD 0)) one other (partsN one other) (partsN one other) = s at *
    refine ⟨?_, a2.red, (a1.take _).red, ?_, ?_⟩
    · rw [S_trim, S_trim, S_cut (a4.mono (by omega))]; exact a3
    · have := trim_len (s.1.take (other.length - 1))
      rw [List.length_take] at this
      omega
    · have := trim_len s.2
      omega
  · have e : partsM p one other = ([], one) := by
      simp only [partsM, if_neg hl]
      rw [show partsN one other = 0 from by show one.length + 1 - other.length = 0; omega]
      simp only [divLoop, zeros, List.replicate_zero]
      rw [h1.2]; rfl
    rw [e]
    refine ⟨by rw [S_nil]; grind, .nil, h1, by show one.length < other.length; omega, by simp⟩
theorem splitLoop_spec {other : List Int} (h2 : Red p other) (hn : other ≠ []) : ∀ (n : Nat) (left found : List Int), left.length < n → Red p left → Rg p found → (other.length ≤ left.length → left.length + 1 - other.length ≤ found.length) →
    (∀ j, j < left.length + 1 - other.length → found.getD j 0 = 0) →
    let s := splitLoop p (inv p (other.getLastD 0)) other n left found
    S R s.1 * S R other + S R s.2 = S R found * S R other + S R left ∧ Rg p s.1 ∧ Red p s.2 ∧ s.2.length < other.length ∧ s.1.length = found.length
  | 0, left, found, h, _, _, _, _ => absurd h (Nat.not_lt_zero _)
  | n + 1, left, found, h, r1, r2, fl, fz => by
    have ol : 0 < other.length := List.length_pos_iff.mpr hn
    simp only [splitLoop]
    by_cases c : left.length < other.length
    · rw [if_pos c]; exact ⟨rfl, r2, r1, c, rfl⟩
    · rw [if_neg c]
      have ld := h2.lead hn
      have lt := split_lt hpr hn ld.2.2 (left := left) (by omega)
      generalize hsh : left.getLastD 0 * inv p (other.getLastD 0) % p = share at *
      have hs : 0 ≤ share ∧ share < p := by rw [← hsh]; exact mod_rg hR.pos _
      have sp : S R (plusL p (-1) left (zeros (left.length - other.length) ++ other.map (share * ·))) = S R left - C (ic share) * xp (left.length - other.length) * S R other := by
        rw [S_plusL hR.p0]
        have : ∀ k (l : List Int), S R (zeros k ++ l) = xp k * S R l := by
          intro k l
          induction k with
          | zero => rw [xp_zero]; show S R l = _; grind
          | succ k ih => rw [show zeros (k+1) = 0 :: zeros k from rfl, List.cons_append, S_cons, ih, xp_succ, ic_zero, C_zero_eq]; grind
        rw [this, S_map (c := ic share) (fun a => ic_mul _ _), ic_neg, ic_one, C_neg, show (C (1:R)) = 1 from rfl]; grind
      have rl := plusL_red (s := -1) hR.pos left (zeros (left.length - other.length) ++ other.map (share * ·))
      generalize plusL p (-1) left (zeros (left.length - other.length) ++ other.map (share * ·)) = left' at *
      have flen := fl (by omega)
      obtain ⟨a1, a2, a3, a4, a5⟩ := splitLoop_spec h2 hn n left' (found.set (left.length - other.length) share) (by omega) rl (r2.set hs) (by rw [List.length_set]; omega) (fun j hj => by rw [getD_set_ne (by omega)]; exact fz j (by omega))
      refine ⟨?_, a2, a3, a4, by rw [a5, List.length_set]⟩
      rw [a1, sp, S_set _ _ _ (by omega), fz _ (by omega), ic_zero, C_sub, C_zero_eq]; grind
theorem splitL_eq {one other : List Int} (h1 : Red p one) (h2 : Red p other) (hn : other ≠ []) : splitL p one other = partsM p one other := by
  obtain ⟨b1, b2, b3, b4, b5⟩ := partsM_spec hR hpr h1 h2 hn
  obtain ⟨a1, a2, a3, a4, a5⟩ := splitLoop_spec hR hpr h2 hn (one.length + 1) one (zeros (one.length + 1 - other.length)) (by omega) h1 (zeros_rg hR.pos _) (fun _ => by simp [zeros]) (fun j _ => by simp [zeros, List.getElem?_replicate]; split <;> rfl)
  unfold splitL
  simp only
  generalize splitLoop p (inv p (other.getLastD 0)) other (one.length + 1) one (zeros (one.length + 1 - other.length)) = s at *
  rw [S_zeros] at a1
  have od := h2.dg hR hn
  obtain ⟨e1, e2⟩ := div_uniq hR od ((S_bd s.2).mono (by omega)) ((S_bd (partsM p one other).2).mono (by omega)) ((S_bd s.1).mono (Nat.le_max_left _ (partsM p one other).1.length)) ((S_bd (partsM p one other).1).mono (Nat.le_max_right _ _)) (show S R s.1 * S R other + S R s.2 = S R (partsM p one other).1 * S R other + S R (partsM p one other).2 from by rw [a1, ← b1]; grind)
  exact Prod.ext (a2.red.eq hR b2 (by rw [S_trim]; exact e1)) (a3.eq hR b3 e2)
end
end RR
/-! ### RPoly4 -/
/-! The rests modulo p: a field. -/
namespace RR
open Lean.Grind Ser
theorem pr_dom {p a b : Int} (hp : Pr p) (h : p ∣ a * b) : p ∣ a ∨ p ∣ b := by
  by_cases c : a % p = 0
  · exact .inl (Int.dvd_of_emod_eq_zero c)
  · right
    have h3 := inv_mul hp c
    have e := Int.mul_ediv_add_emod (inv p a * a) p
    rw [h3] at e
    obtain ⟨k, hk⟩ := h
    exact ⟨inv p a * k - inv p a * a / p * b, by grind⟩
theorem ic_zero_iff (n : Nat) [NeZero n] (a : Int) : (ic a : Fin n) = 0 ↔ a % (n : Int) = 0 := IsCharP.intCast_eq_zero_iff n a
theorem fld_fin (n : Nat) [NeZero n] (hp : Pr (n : Int)) : Fld (Fin n) (n : Int) where
  p0 := (ic_zero_iff n _).mpr (Int.emod_self)
  inj := fun a h => (ic_zero_iff n a).mp h
  sur := fun r => ⟨(r.val : Int), by
    have : (ic (r.val : Int) : Fin n) = nc r.val := Ring.intCast_natCast _
    rw [this]
    show ((Fin.ofNat n r.val : Fin n)) = r
    ext; simp [Fin.ofNat, Nat.mod_eq_of_lt r.isLt]⟩
  dom := fun a b h => by
    have sur : ∀ r : Fin n, ∃ k : Int, ic k = r := fun r => ⟨(r.val : Int), by
      have : (ic (r.val : Int) : Fin n) = nc r.val := Ring.intCast_natCast _
      rw [this]
      show ((Fin.ofNat n r.val : Fin n)) = r
      ext; simp [Fin.ofNat, Nat.mod_eq_of_lt r.isLt]⟩
    obtain ⟨x, rfl⟩ := sur a
    obtain ⟨y, rfl⟩ := sur b
    rw [← ic_mul, ic_zero_iff] at h
    rcases pr_dom hp (Int.dvd_of_emod_eq_zero h) with q | q
    · exact .inl ((ic_zero_iff n x).mpr (Int.emod_eq_zero_of_dvd q))
    · exact .inr ((ic_zero_iff n y).mpr (Int.emod_eq_zero_of_dvd q))
  pos := hp.pos.1
theorem fld_of {p : Int} (hp : Pr p) : ∃ (R : Type) (_ : CommRing R), Fld R p := by
  have h := hp.pos
  obtain ⟨n, rfl⟩ : ∃ n : Nat, p = (n : Int) := ⟨p.toNat, by omega⟩
  haveI : NeZero n := ⟨by omega⟩
  exact ⟨Fin n, inferInstance, fld_fin n hp⟩
/-- the facts on lists, with no ring in sight -/
theorem law_mul {p : Int} (hp : Pr p) (a b : List Int) : mulL p a b = mulM p a b := let ⟨_, _, hR⟩ := fld_of hp; mulL_eq hR a b
theorem law_plus {p : Int} (hp : Pr p) (s : Int) {a : List Int} (b : List Int) (ha : Rg p a) : plusL p s a b = sumM p s a b := let ⟨_, _, hR⟩ := fld_of hp; plusL_eq hR s b ha
theorem law_split {p : Int} (hp : Pr p) {a b : List Int} (ha : Red p a) (hb : Red p b) (hn : b ≠ []) : splitL p a b = partsM p a b := let ⟨_, _, hR⟩ := fld_of hp; splitL_eq hR hp ha hb hn
theorem parts_red {p : Int} (hp : Pr p) {a b : List Int} (ha : Red p a) (hb : Red p b) (hn : b ≠ []) : Red p (partsM p a b).1 ∧ Red p (partsM p a b).2 ∧ (partsM p a b).2.length < b.length ∧ (partsM p a b).1.length ≤ a.length + 1 - b.length :=
  let ⟨_, _, hR⟩ := fld_of hp; (partsM_spec hR hp ha hb hn).2
/-! ### the common part -/
/-- both defs' loop -/
def commonM (p : Int) : Nat → List Int → List Int → List Int
  | 0, near, _ => near
  | n + 1, near, far => if far = [] then near else commonM p n far (partsM p near far).2
theorem commonM_more {p : Int} (hp : Pr p) : ∀ (n k : Nat) (near far : List Int), Red p near → Red p far → far.length < n → far.length < k → commonM p n near far = commonM p k near far
  | 0, _, _, _, _, _, h, _ => absurd h (Nat.not_lt_zero _)
  | _, 0, _, _, _, _, _, h => absurd h (Nat.not_lt_zero _)
  | n + 1, k + 1, near, far, h1, h2, hn, hk => by
    rw [commonM, commonM]
    split
    · rfl
    · rename_i c
      obtain ⟨_, a2, a3, _⟩ := parts_red hp h1 h2 c
      exact commonM_more hp n k far _ h2 a2 (by omega) (by omega)
theorem commonM_red {p : Int} (hp : Pr p) : ∀ (n : Nat) (near far : List Int), Red p near → Red p far → Red p (commonM p n near far)
  | 0, _, _, h, _ => h
  | n + 1, near, far, h1, h2 => by
    rw [commonM]
    split
    · exact h1
    · rename_i c
      exact commonM_red hp n far _ h2 (parts_red hp h1 h2 c).2.1
theorem commonM_len {p : Int} (hp : Pr p) : ∀ (n : Nat) (near far : List Int), Red p near → Red p far → (commonM p n near far).length ≤ max near.length far.length
  | 0, _, _, h, _ => by rw [commonM]; omega
  | n + 1, near, far, h1, h2 => by
    rw [commonM]
    split
    · omega
    · rename_i c
      obtain ⟨_, a2, a3, _⟩ := parts_red hp h1 h2 c
      have := commonM_len hp n far _ h2 a2
      omega
/-- the whole common part -/
def commonR (p : Int) (near far : List Int) : List Int := commonM p (far.length + 1) near far
theorem commonR_nil (p : Int) (near : List Int) : commonR p near [] = near := rfl
theorem commonR_step {p : Int} (hp : Pr p) {near far : List Int} (h1 : Red p near) (h2 : Red p far) (c : far ≠ []) : commonR p near far = commonR p far (partsM p near far).2 := by
  obtain ⟨_, a2, a3, _⟩ := parts_red hp h1 h2 c
  unfold commonR
  rw [commonM, if_neg c]
  exact commonM_more hp _ _ _ _ h2 a2 (by omega) (by omega)
end RR
/-! ### RChain -/
/-! The chain of fractions modulo p: both sides' steps are one. -/
namespace RR
open Lean.Grind Ser
structure Ch where
  /-- first, second; the last two convergents -/
  f : List Int
  s : List Int
  a : List Int
  b : List Int
  c : List Int
  d : List Int
def partC (p : Int) (A : List Int) (x : Ch) : List Int := (partsM p (sumM p 1 x.f A) x.s).1
def restC (p : Int) (A : List Int) (x : Ch) : List Int := (partsM p (sumM p 1 x.f A) x.s).2
def fstC (p : Int) (A : List Int) (x : Ch) : List Int := lessM p A (restC p A x)
def sndC (p : Int) (D A : List Int) (x : Ch) : List Int := (partsM p (lessM p D (mulM p (fstC p A x) (fstC p A x))) x.s).1
def stepC (p : Int) (D A : List Int) (x : Ch) : Ch :=
  ⟨fstC p A x, sndC p D A x, sumM p 1 (mulM p (partC p A x) x.a) x.c, sumM p 1 (mulM p (partC p A x) x.b) x.d, x.a, x.b⟩
def ch0 (p : Int) (D A : List Int) : Ch := ⟨A, lessM p D (mulM p A A), A, [1], [1], []⟩
def chain (p : Int) (D A : List Int) : Nat → Ch
  | 0 => ch0 p D A
  | n + 1 => stepC p D A (chain p D A n)
def degC (p : Int) (D A : List Int) : Nat → Int
  | 0 => (A.length : Int) - 1
  | n + 1 => degC p D A n + (partC p A (chain p D A n)).length - 1
structure RedC (p : Int) (x : Ch) : Prop where
  f : Red p x.f
  s : Red p x.s
  a : Red p x.a
  b : Red p x.b
  c : Red p x.c
  d : Red p x.d
theorem one_red {p : Int} (hp : Pr p) : Red p [1] := Red.one hp.pos.1 (by decide) (by have := hp.pos; omega)
theorem ch0_red {p : Int} (hp : Pr p) {D A : List Int} (hD : Red p D) (hA : Red p A) : RedC p (ch0 p D A) :=
  ⟨hA, sumM_red hp.pos.1 hD.1, hA, one_red hp, one_red hp, .nil⟩
theorem step_red {p : Int} (hp : Pr p) {D A : List Int} (hD : Red p D) (hA : Red p A) {x : Ch} (h : RedC p x) (hs : x.s ≠ []) : RedC p (stepC p D A x) where
  f := sumM_red hp.pos.1 hA.1
  s := (parts_red hp (sumM_red hp.pos.1 hD.1) h.s hs).1
  a := sumM_red hp.pos.1 (mulM_red hp.pos.1 _ _).1
  b := sumM_red hp.pos.1 (mulM_red hp.pos.1 _ _).1
  c := h.a
  d := h.b
/-- what the walks ask of the chain -/
structure Chain (p : Int) (D A : List Int) (n : Nat) : Prop where
  pr : Pr p
  hD : Red p D
  hA : Red p A
  an : A ≠ []
  long : ∀ k, k < n → 1 < (chain p D A k).s.length
  fin : (chain p D A n).s.length = 1
  lens : ∀ k, k ≤ n → (chain p D A k).a.length ≤ 1000 ∧ (chain p D A k).b.length ≤ 1000 ∧ (chain p D A k).c.length ≤ 1000 ∧ (chain p D A k).d.length ≤ 1000 ∧ (chain p D A k).f.length ≤ 1000 ∧ (chain p D A k).s.length ≤ 1000
  bn : (chain p D A n).b ≠ []
  dl : D.length ≤ 100
  al : A.length ≤ 100
theorem Chain.red {p : Int} {D A : List Int} {n : Nat} (h : Chain p D A n) : ∀ k, k ≤ n → RedC p (chain p D A k)
  | 0, _ => ch0_red h.pr h.hD h.hA
  | k + 1, hk => step_red h.pr h.hD h.hA (h.red k (by omega)) (fun q => by have := h.long k (by omega); rw [q] at this; simp at this)
theorem sumM_len {p t : Int} (a b : List Int) : (sumM p t a b).length ≤ max a.length b.length := by
  unfold sumM
  have := trim_len (updI (fun a b_1 => (a + t * b_1) % p) (a ++ zeros (b.length - a.length)) b)
  rw [updI_len, List.length_append, show (zeros (b.length - a.length)).length = b.length - a.length from by simp [zeros]] at this
  omega
theorem mulM_len {p : Int} (a b : List Int) : (mulM p a b).length ≤ a.length + b.length - 1 := by
  unfold mulM
  split
  · simp
  · have := trim_len ((rawMul a b).map (· % p))
    unfold rawMul at this ⊢
    rw [List.length_map, mulAcc_len] at this
    simpa [zeros] using this
theorem Chain.sn {p : Int} {D A : List Int} {n : Nat} (h : Chain p D A n) (k : Nat) (hk : k ≤ n) : (chain p D A k).s ≠ [] := fun q => by
  rcases Nat.eq_or_lt_of_le hk with e | e
  · have := h.fin; rw [← e, q] at this; simp at this
  · have := h.long k e; rw [q] at this; simp at this
/-- the law's way to first -/
theorem law_first {p : Int} (hp : Pr p) {A : List Int} {x : Ch} (hA : Red p A) (h : RedC p x) (hs : x.s ≠ []) : plusL p (-1) (mulL p (partC p A x) x.s) x.f = fstC p A x := by
  obtain ⟨R, _, hR⟩ := fld_of hp
  have r := sumM_red hp.pos.1 (t := 1) (b := A) h.f.1
  obtain ⟨e1, a1, a2, _⟩ := partsM_spec hR hp r h.s hs
  rw [mulL_eq hR, plusL_eq hR _ _ (mulM_red hp.pos.1 _ _).1]
  refine (sumM_red hp.pos.1 (mulM_red hp.pos.1 _ _).1).eq hR (sumM_red hp.pos.1 hA.1) ?_
  rw [S_sumM hR.p0] at e1
  rw [S_sumM hR.p0, S_mulM hR.p0, show fstC p A x = sumM p (-1) A (restC p A x) from rfl, S_sumM hR.p0]
  unfold partC restC
  rw [ic_neg, ic_one, C_neg, show (C (1:R)) = 1 from rfl]
  rw [ic_one, show (C (1:R)) = 1 from rfl] at e1
  grind
theorem law_second {p : Int} (hp : Pr p) {D A : List Int} {x : Ch} (hD : Red p D) (h : RedC p x) (hs : x.s ≠ []) : (splitL p (plusL p (-1) D (mulL p (fstC p A x) (fstC p A x))) x.s).1 = sndC p D A x := by
  rw [law_mul hp, law_plus hp _ _ hD.1, law_split hp (sumM_red hp.pos.1 hD.1) h.s hs]; rfl
theorem law_part {p : Int} (hp : Pr p) {A : List Int} {x : Ch} (h : RedC p x) (hs : x.s ≠ []) : (splitL p (plusL p 1 x.f A) x.s).1 = partC p A x := by
  rw [law_plus hp _ _ h.f.1, law_split hp (sumM_red hp.pos.1 h.f.1) h.s hs]; rfl
theorem law_next {p : Int} (hp : Pr p) (part near far : List Int) : plusL p 1 (mulL p part near) far = sumM p 1 (mulM p part near) far := by
  rw [law_mul hp, law_plus hp _ _ (mulM_red hp.pos.1 _ _).1]
theorem mul_one' {p : Int} (hp : Pr p) {D : List Int} (hD : Red p D) : mulM p D [1] = D := by
  obtain ⟨R, _, hR⟩ := fld_of hp
  refine (mulM_red hp.pos.1 _ _).eq hR hD ?_
  rw [S_mulM hR.p0, S_cons, S_nil, ic_one, show (C (1:R)) = 1 from rfl]; grind
/-- norm(first, [1]) -/
theorem norm_one {p : Int} (hp : Pr p) {D : List Int} (hD : Red p D) : mulM p D (mulM p [1] [1]) = D := by
  rw [mul_one' hp (one_red hp), mul_one' hp hD]
end RR
/-! ### RKeep -/
/-! Keeping, the law's way. -/
namespace RR
/-- the derivative's rests -/
def slopeL (p : Int) (l : List Int) : List Int := trim ((l.mapIdx fun i x => (i : Int) * x % p).drop 1)
def keepsL (p : Int) (nums : List Int) (side bottom : Int) : Bool := if bottom % p = 0 ∨ side % p = 0 then false else decide ((commonR p (restsL p nums bottom) (slopeL p (restsL p nums bottom))).length = 1)
theorem restsL_red {p : Int} (hp : Pr p) (nums : List Int) (b : Int) : Red p (restsL p nums b) := Rg.red fun x hx => by
  obtain ⟨y, _, rfl⟩ := List.mem_map.mp hx
  exact mod_rg hp.pos.1 _
theorem slopeL_red {p : Int} (hp : Pr p) (l : List Int) : Red p (slopeL p l) := Rg.red fun x hx => by
  obtain ⟨i, hi, rfl⟩ := List.mem_mapIdx.mp (List.mem_of_mem_drop hx)
  exact mod_rg hp.pos.1 _
theorem restsL_len (p : Int) (nums : List Int) (b : Int) : (restsL p nums b).length ≤ nums.length := by
  have := trim_len (nums.map fun n => n * inv p b * inv p b % p)
  rwa [List.length_map] at this
theorem slopeL_len (p : Int) (l : List Int) : (slopeL p l).length ≤ l.length - 1 := by
  have := trim_len ((l.mapIdx fun i x => (i : Int) * x % p).drop 1)
  rwa [List.length_drop, List.length_mapIdx] at this
end RR
/-! ### RNear -/
/-! The nearest modulo p, the law's way. -/
namespace RR
open Lean.Grind Ser
def nearStep (p : Int) (whole : List Int) (half : Nat) (back : Int) (place : Nat) (found : List Int) : List Int :=
  let left := plusL p (-1) whole (mulL p found found)
  found.set place (if half + place < left.length then left.getD (half + place) 0 * back % p else 0)
def nearLoop (p : Int) (whole : List Int) (half : Nat) (back side : Int) : Nat → List Int
  | 0 => zeros half ++ [side]
  | k + 1 => nearStep p whole half back (half - 1 - k) (nearLoop p whole half back side k)
def nearL (p : Int) (whole : List Int) (side : Int) : List Int := nearLoop p whole ((whole.length - 1) / 2) (inv p (2 * side)) side ((whole.length - 1) / 2)
theorem nearLoop_form {p : Int} (hp : Pr p) {whole : List Int} {half : Nat} {back side : Int} (hs : 0 < side ∧ side < p) : ∀ k, k ≤ half → ∃ l', nearLoop p whole half back side k = l' ++ [side] ∧ l'.length = half ∧ Rg p l'
  | 0, _ => ⟨zeros half, rfl, by simp [zeros], zeros_rg hp.pos.1 _⟩
  | k + 1, hk => by
    obtain ⟨l', e, h1, h2⟩ := nearLoop_form hp (whole := whole) (half := half) (back := back) hs k (by omega)
    rw [nearLoop, nearStep, e]
    have e2 : ∀ i t, i < half → (l' ++ [side]).set i t = l'.set i t ++ [side] := fun i t h => by rw [List.set_append, if_pos (by omega)]
    rw [e2 _ _ (by omega)]
    refine ⟨_, rfl, by rw [List.length_set]; exact h1, h2.set ?_⟩
    split
    · exact mod_rg hp.pos.1 _
    · have := hp.pos; omega
theorem form_red {p : Int} {l' : List Int} {side : Int} (hs : 0 < side ∧ side < p) (h : Rg p l') : Red p (l' ++ [side]) :=
  ⟨fun x hx => by rcases List.mem_append.mp hx with q | q
                  · exact h x q
                  · rw [List.mem_singleton.mp q]; omega, trim_app (by omega)⟩
/-- a square is not its root -/
theorem sq_ne {p : Int} (hp : Pr p) {f : List Int} (h : Red p f) (hl : 2 ≤ f.length) : mulL p f f ≠ f := fun q => by
  obtain ⟨R, _, hR⟩ := fld_of hp
  have hn : f ≠ [] := fun q => by rw [q] at hl; simp at hl
  have d := h.dg hR hn
  have d2 := d.mul hR d
  rw [← S_mulL hR.p0, q] at d2
  have := d.uniq d2
  omega
theorem two_side {p side : Int} (hp : Pr p) (hs : 0 < side ∧ side < p) : 2 * side % p ≠ 0 := by
  rcases hp with h | h | h | h | h <;> subst h <;> omega
/-- the rest unit: the last convergent, q's last number made 1 -/
def unitC (p : Int) (x : Ch) : List Int × List Int := (mulM p x.a [inv p (x.b.getLastD 0)], mulM p x.b [inv p (x.b.getLastD 0)])
def normL (p : Int) (D a b : List Int) : List Int := plusL p (-1) (mulL p a a) (mulL p D (mulL p b b))
def boundedB (many half p : Int) : Bool := decide (half ≠ 2) || (decide (many ≤ p + 1) || decide ((many - p - 1) * (many - p - 1) ≤ 4 * p))
/-- the odd numbers from 3 on, below most, no multiple of an earlier one -/
def primesL : Nat → List Int
  | 0 => []
  | k + 1 => if (primesL k).all (fun q => (3 + (k : Int) * 2) % q != 0) then primesL k ++ [3 + (k : Int) * 2] else primesL k
def keptL (prs : List Int) (keep : Int → Bool) (many : Nat) : List Int := (prs.filter keep).take many
end RR
/-! ### RRat -/
/-! Ratios as pairs: what the class computes; sizes; rests modulo p. -/
namespace RR
/-- the divisor that __init__ takes -/
def rG (t b : Int) : Int := if b < 0 then 0 - (Nat.gcd t.natAbs b.natAbs : Int) else (Nat.gcd t.natAbs b.natAbs : Int)
def rN (t b : Int) : Int × Int := (t.fdiv (rG t b), b.fdiv (rG t b))
theorem gcd_pos {t b : Int} (h : b ≠ 0) : 0 < Nat.gcd t.natAbs b.natAbs := Nat.gcd_pos_of_pos_right _ (by omega)
theorem rG_ne {t b : Int} (h : b ≠ 0) : rG t b ≠ 0 := by
  have := gcd_pos (t := t) h
  unfold rG
  split <;> omega
theorem fdiv_of {a c k : Int} (hc : c ≠ 0) (h : a = c * k) : a.fdiv c = k := by
  rw [h, Int.mul_fdiv_cancel_left _ hc]
/-- the two parts -/
theorem rN_spec {t b : Int} (h : b ≠ 0) : t = rG t b * (rN t b).1 ∧ b = rG t b * (rN t b).2 ∧ 0 < (rN t b).2 ∧ Nat.gcd (rN t b).1.natAbs (rN t b).2.natAbs = 1 := by
  have hg := gcd_pos (t := t) h
  have hn := rG_ne (t := t) h
  obtain ⟨x, hx⟩ := Nat.gcd_dvd_left t.natAbs b.natAbs
  obtain ⟨y, hy⟩ := Nat.gcd_dvd_right t.natAbs b.natAbs
  have cop : Nat.gcd x y = 1 := by
    have e : Nat.gcd t.natAbs b.natAbs * Nat.gcd x y = Nat.gcd t.natAbs b.natAbs := by
      rw [← Nat.gcd_mul_left, ← hx, ← hy]
    exact Nat.eq_of_mul_eq_mul_left hg (by omega)
  have gb : ∃ k, t = rG t b * k ∧ k.natAbs = x := by
    have ht : t = (Nat.gcd t.natAbs b.natAbs : Int) * x ∨ t = (Nat.gcd t.natAbs b.natAbs : Int) * -x := by
      have : (t.natAbs : Int) = (Nat.gcd t.natAbs b.natAbs : Int) * x := by exact_mod_cast hx
      rcases Int.natAbs_eq t with q | q
      · left; omega
      · right; rw [Int.mul_neg]; omega
    unfold rG
    split
    · rcases ht with q | q
      · exact ⟨-x, by rw [Int.sub_eq_add_neg, Int.zero_add, Int.neg_mul_neg]; exact q, by omega⟩
      · exact ⟨x, by rw [Int.sub_eq_add_neg, Int.zero_add, Int.neg_mul, ← Int.mul_neg]; exact q, by omega⟩
    · rcases ht with q | q
      · exact ⟨x, q, by omega⟩
      · exact ⟨-x, q, by omega⟩
  have gb2 : ∃ k, b = rG t b * k ∧ k.natAbs = y ∧ 0 < k := by
    have hb : (b.natAbs : Int) = (Nat.gcd t.natAbs b.natAbs : Int) * y := by exact_mod_cast hy
    have y0 : 0 < y := by
      rcases Nat.eq_zero_or_pos y with q | q
      · rw [q, Nat.mul_zero] at hy; omega
      · exact q
    unfold rG
    split
    · exact ⟨y, by rw [Int.sub_eq_add_neg, Int.zero_add, Int.neg_mul]; omega, by omega, by omega⟩
    · exact ⟨y, by omega, by omega, by omega⟩
  obtain ⟨k, ek, nk⟩ := gb
  obtain ⟨l, el, nl, pl⟩ := gb2
  have e1 : (rN t b).1 = k := fdiv_of hn ek
  have e2 : (rN t b).2 = l := fdiv_of hn el
  rw [e1, e2, nk, nl]
  exact ⟨ek, el, pl, cop⟩
/-- sizes -/
def Bt (n : Nat) (x : Int) : Prop := x.natAbs < 2 ^ n
def Rt (n : Nat) (r : Int × Int) : Prop := Bt n r.1 ∧ Bt n r.2 ∧ 0 < r.2
theorem Bt.mono {n k : Nat} {x : Int} (h : Bt n x) (hk : n ≤ k) : Bt k x := Nat.lt_of_lt_of_le h (Nat.pow_le_pow_right (by decide) hk)
theorem Bt.mul {n k : Nat} {x y : Int} (h : Bt n x) (g : Bt k y) : Bt (n + k) (x * y) := by
  unfold Bt at *
  rw [Int.natAbs_mul, Nat.pow_add]
  exact Nat.mul_lt_mul'' h g
theorem Bt.add {n : Nat} {x y : Int} (h : Bt n x) (g : Bt n y) : Bt (n + 1) (x + y) := by
  unfold Bt at *
  rw [Nat.pow_succ]
  have := Int.natAbs_add_le x y
  omega
theorem Bt.sub {n : Nat} {x y : Int} (h : Bt n x) (g : Bt n y) : Bt (n + 1) (x - y) := by
  unfold Bt at *
  rw [Nat.pow_succ]
  have := Int.natAbs_sub_le x y
  omega
theorem Bt.log {n : Nat} {x : Int} (h : Bt n x) : x.natAbs.log2 ≤ n := by
  by_cases c : x.natAbs = 0
  · rw [c]; simp
  · exact Nat.le_of_lt ((Nat.log2_lt c).mpr h)
theorem rN_bt {n : Nat} {t b : Int} (h : b ≠ 0) (ht : Bt n t) (hb : Bt n b) : Rt n (rN t b) := by
  obtain ⟨e1, e2, p, _⟩ := rN_spec (t := t) h
  have gn := rG_ne (t := t) h
  have g1 : 1 ≤ (rG t b).natAbs := by omega
  refine ⟨?_, ?_, p⟩
  · unfold Bt at *
    rw [e1, Int.natAbs_mul] at ht
    refine Nat.lt_of_le_of_lt ?_ ht
    exact Nat.le_mul_of_pos_left _ g1
  · unfold Bt at *
    have e3 : b.natAbs = (rG t b).natAbs * (rN t b).2.natAbs := by rw [← Int.natAbs_mul, ← e2]
    rw [e3] at hb
    exact Nat.lt_of_le_of_lt (Nat.le_mul_of_pos_left _ g1) hb
def addR (x y : Int × Int) : Int × Int := rN (x.1 * y.2 + y.1 * x.2) (x.2 * y.2)
def subR (x y : Int × Int) : Int × Int := rN (x.1 * y.2 - y.1 * x.2) (x.2 * y.2)
def mulR (x y : Int × Int) : Int × Int := rN (x.1 * y.1) (x.2 * y.2)
def overR (x y : Int × Int) : Int × Int := rN (x.1 * y.2) (x.2 * y.1)
theorem addR_rt {n k : Nat} {x y : Int × Int} (h : Rt n x) (g : Rt k y) : Rt (n + k + 1) (addR x y) := by
  refine rN_bt (Int.ne_of_gt (Int.mul_pos h.2.2 g.2.2)) ((h.1.mul g.2.1).add ((g.1.mul h.2.1).mono (by omega))) ((h.2.1.mul g.2.1).mono (by omega))
theorem subR_rt {n k : Nat} {x y : Int × Int} (h : Rt n x) (g : Rt k y) : Rt (n + k + 1) (subR x y) := by
  refine rN_bt (Int.ne_of_gt (Int.mul_pos h.2.2 g.2.2)) ((h.1.mul g.2.1).sub ((g.1.mul h.2.1).mono (by omega))) ((h.2.1.mul g.2.1).mono (by omega))
theorem mulR_rt {n k : Nat} {x y : Int × Int} (h : Rt n x) (g : Rt k y) : Rt (n + k) (mulR x y) :=
  rN_bt (Int.ne_of_gt (Int.mul_pos h.2.2 g.2.2)) (h.1.mul g.1) (h.2.1.mul g.2.1)
theorem overR_rt {n k : Nat} {x y : Int × Int} (h : Rt n x) (g : Rt k y) (hy : y.1 ≠ 0) : Rt (n + k) (overR x y) :=
  rN_bt (by intro q; rcases Int.mul_eq_zero.mp q with q | q; exact absurd q (Int.ne_of_gt h.2.2); exact hy q) (h.1.mul g.2.1) (h.2.1.mul g.1)
end RR
/-! ### RRat2 -/
/-! Lists of ratios: what the defs on polynomials compute; sizes. -/
namespace RR
def trimR (l : List (Int × Int)) : List (Int × Int) := (l.reverse.dropWhile (·.1 == 0)).reverse
theorem trimR_zero (l : List (Int × Int)) {x : Int × Int} (h : x.1 = 0) : trimR (l ++ [x]) = trimR l := by simp [trimR, h]
theorem trimR_app {l : List (Int × Int)} {x : Int × Int} (h : x.1 ≠ 0) : trimR (l ++ [x]) = l ++ [x] := by simp [trimR, h]
theorem trimR_len (l : List (Int × Int)) : (trimR l).length ≤ l.length := by
  unfold trimR
  rw [List.length_reverse]
  have h := (List.dropWhile_sublist (fun x : Int × Int => x.1 == 0) (l := l.reverse)).length_le
  rwa [List.length_reverse] at h
theorem trimR_mem {l : List (Int × Int)} {x : Int × Int} (h : x ∈ trimR l) : x ∈ l := by
  unfold trimR at h
  exact List.mem_reverse.mp ((List.dropWhile_sublist _).mem (List.mem_reverse.mp h))
/-- all sizes -/
def RtL (n : Nat) (l : List (Int × Int)) : Prop := ∀ r ∈ l, Rt n r
def BtL (n : Nat) (l : List Int) : Prop := ∀ x ∈ l, Bt n x
theorem RtL.trim {n : Nat} {l : List (Int × Int)} (h : RtL n l) : RtL n (trimR l) := fun r hr => h r (trimR_mem hr)
theorem Rt.mono {n k : Nat} {r : Int × Int} (h : Rt n r) (hk : n ≤ k) : Rt k r := ⟨h.1.mono hk, h.2.1.mono hk, h.2.2⟩
theorem RtL.mono {n k : Nat} {l : List (Int × Int)} (h : RtL n l) (hk : n ≤ k) : RtL k l := fun r hr => (h r hr).mono hk
/-! ### wholes -/
def lcmR (l : List (Int × Int)) : Int := l.foldl (fun a r => (Nat.lcm a.natAbs r.2.natAbs : Nat)) 1
def lcmS (a : Int) (l : List (Int × Int)) : Int := l.foldl (fun a r => (Nat.lcm a.natAbs r.2.natAbs : Nat)) a
theorem lcmS_app (a : Int) (l : List (Int × Int)) (r : Int × Int) : lcmS a (l ++ [r]) = (Nat.lcm (lcmS a l).natAbs r.2.natAbs : Nat) := by simp [lcmS]
theorem lcm_bt {n k : Nat} {a b : Int} (ha : Bt n a) (hb : Bt k b) : Bt (n + k) ((Nat.lcm a.natAbs b.natAbs : Nat) : Int) := by
  unfold Bt at *
  rw [Int.natAbs_natCast, Nat.pow_add]
  exact Nat.lt_of_le_of_lt (Nat.div_le_self _ _) (Nat.mul_lt_mul'' ha hb)
theorem lcmR_take {n : Nat} {l : List (Int × Int)} (h : RtL n l) : ∀ i, i ≤ l.length → Bt (1 + n * i) (lcmR (l.take i)) ∧ 0 < lcmR (l.take i) ∧ ∀ j, j < i → ∀ r, l[j]? = some r → r.2 ∣ lcmR (l.take i)
  | 0, _ => ⟨by simp [lcmR, Bt], by simp [lcmR], fun j hj => absurd hj (Nat.not_lt_zero _)⟩
  | i + 1, hi => by
    obtain ⟨h1, h2, h3⟩ := lcmR_take h i (by omega)
    have e : l.take (i + 1) = l.take i ++ [l[i]] := by rw [List.take_add_one, List.getElem?_eq_getElem (by omega)]; rfl
    have hr := h l[i] (List.getElem_mem _)
    have e2 : lcmR (l.take (i + 1)) = (Nat.lcm (lcmR (l.take i)).natAbs (l[i]).2.natAbs : Nat) := by rw [e]; exact lcmS_app 1 _ _
    rw [e2]
    refine ⟨?_, ?_, fun j hj r er => ?_⟩
    · have := lcm_bt h1 hr.2.1
      rw [show 1 + n * (i + 1) = 1 + n * i + n from by rw [Nat.mul_succ]; omega]
      exact this
    · have : 0 < Nat.lcm (lcmR (l.take i)).natAbs (l[i]).2.natAbs := Nat.lcm_pos (by omega) (by have := hr.2.2; omega)
      omega
    · rcases Nat.lt_or_ge j i with q | q
      · have d := h3 j q r er
        have := Nat.dvd_trans (Int.natAbs_dvd_natAbs.mpr d) (Nat.dvd_lcm_left (lcmR (l.take i)).natAbs (l[i]).2.natAbs)
        exact Int.natAbs_dvd.mp (Int.natCast_dvd_natCast.mpr this)
      · have ej : j = i := by omega
        subst ej
        rw [List.getElem?_eq_getElem (by omega)] at er
        cases Option.some.inj er
        exact Int.natAbs_dvd.mp (Int.natCast_dvd_natCast.mpr (Nat.dvd_lcm_right _ _))
theorem lcmR_spec {n : Nat} {l : List (Int × Int)} (h : RtL n l) : Bt (1 + n * l.length) (lcmR l) ∧ 0 < lcmR l ∧ ∀ r ∈ l, r.2 ∣ lcmR l := by
  obtain ⟨h1, h2, h3⟩ := lcmR_take h l.length (Nat.le_refl _)
  rw [List.take_length] at h1 h2 h3
  refine ⟨h1, h2, fun r hr => ?_⟩
  obtain ⟨j, hj, e⟩ := List.getElem_of_mem hr
  exact h3 j hj r (by rw [List.getElem?_eq_getElem hj, e])
def wholesR (l : List (Int × Int)) : List Int := l.map fun r => r.1 * (lcmR l).fdiv r.2
theorem fdiv_bt {n : Nat} {a b : Int} (ha : Bt n a) (hb : 0 < b) (h0 : 0 ≤ a) : Bt n (a.fdiv b) := by
  unfold Bt at *
  rw [Int.fdiv_eq_ediv_of_nonneg _ (by omega)]
  have h1 := Int.ediv_nonneg h0 (by omega : 0 ≤ b)
  have h2 := Int.ediv_le_self b h0
  omega
theorem wholesR_bt {n : Nat} {l : List (Int × Int)} (h : RtL n l) : BtL (n + (1 + n * l.length)) (wholesR l) := fun x hx => by
  obtain ⟨r, hr, rfl⟩ := List.mem_map.mp hx
  obtain ⟨h1, h2, _⟩ := lcmR_spec h
  exact (h r hr).1.mul (fdiv_bt h1 (h r hr).2.2 (by omega))
/-! ### products -/
theorem updI_mem {F : Int → Int → Int} : ∀ {xs ys : List Int} {x : Int}, x ∈ updI F xs ys → x ∈ xs ∨ ∃ a ∈ xs, ∃ b ∈ ys, x = F a b
  | a :: as, b :: bs, x, h => by
    rcases List.mem_cons.mp h with q | q
    · exact .inr ⟨a, by simp, b, by simp, q⟩
    · rcases updI_mem q with q | ⟨c, hc, d, hd, e⟩
      · exact .inl (by simp [q])
      · exact .inr ⟨c, by simp [hc], d, by simp [hd], e⟩
  | [], ys, x, h => by cases ys <;> simp [updI] at h
  | a :: as, [], x, h => .inl h
theorem updS_mem {F : Int → Int → Int} : ∀ {s : Nat} {xs ys : List Int} {x : Int}, x ∈ updS F s xs ys → x ∈ xs ∨ ∃ a ∈ xs, ∃ b ∈ ys, x = F a b
  | 0, xs, ys, x, h => updI_mem h
  | s + 1, a :: as, ys, x, h => by
    rcases List.mem_cons.mp h with q | q
    · exact .inl (by simp [q])
    · rcases updS_mem q with q | ⟨c, hc, d, hd, e⟩
      · exact .inl (by simp [q])
      · exact .inr ⟨c, by simp [hc], d, hd, e⟩
  | s + 1, [], ys, x, h => by simp [updS] at h
theorem mulAcc_bd {one other zs : List Int} {M : Nat} (hM : ∀ a ∈ one, ∀ b ∈ other, (a * b).natAbs ≤ M) (hz : ∀ x ∈ zs, x = 0) : ∀ i, i ≤ one.length → ∀ x ∈ mulAcc (fun n a b => a + n * b) one other zs i, x.natAbs ≤ i * M
  | 0, _, x, h => by rw [hz x h]; simp
  | i + 1, hi, x, h => by
    rw [mulAcc_succ (List.getElem?_eq_getElem (by omega))] at h
    rw [Nat.succ_mul]
    rcases updS_mem h with q | ⟨a, ha, b, hb, e⟩
    · have := mulAcc_bd hM hz i (by omega) x q
      omega
    · have h1 := mulAcc_bd hM hz i (by omega) a ha
      have h2 := hM one[i] (List.getElem_mem _) b hb
      rw [e]
      have := Int.natAbs_add_le a (one[i] * b)
      omega
theorem rawMul_len (a b : List Int) : (rawMul a b).length = a.length + b.length - 1 := by unfold rawMul; rw [mulAcc_len]; simp [zeros]
theorem rawMul_bt {n k : Nat} {a b : List Int} (ha : BtL n a) (hb : BtL k b) (hl : a.length ≤ 64) : BtL (n + k + 6) (rawMul a b) := fun x hx => by
  have := mulAcc_bd (one := a) (other := b) (zs := zeros (a.length + b.length - 1)) (M := 2 ^ (n + k) - 1) (fun y hy z hz => by
    have q : (y * z).natAbs < 2 ^ (n + k) := (ha y hy).mul (hb z hz)
    omega) (fun x h => List.eq_of_mem_replicate h) a.length (Nat.le_refl _) x hx
  show x.natAbs < 2 ^ (n + k + 6)
  rw [Nat.pow_add]
  have h2 : a.length * (2 ^ (n + k) - 1) ≤ 64 * (2 ^ (n + k) - 1) := Nat.mul_le_mul_right _ hl
  have h3 : 0 < 2 ^ (n + k) := Nat.pow_pos (by decide)
  have h4 : (2:Nat) ^ 6 = 64 := by decide
  rw [h4]
  omega
def prodR (one other : List (Int × Int)) : List (Int × Int) := if one = [] ∨ other = [] then [] else (rawMul (wholesR one) (wholesR other)).map fun t => rN t (lcmR one * lcmR other)
def sumR (one other : List (Int × Int)) : List (Int × Int) :=
  let p := if other.length ≤ one.length then (one, other) else (other, one)
  trimR (p.1.mapIdx fun i x => match p.2[i]? with | some y => addR x y | none => x)
def byR (l : List (Int × Int)) (r : Int × Int) : List (Int × Int) := trimR (l.map (mulR · r))
def lessR (one other : List (Int × Int)) : List (Int × Int) := sumR one (byR other (rN (-1) 1))
def slopeR (l : List (Int × Int)) : List (Int × Int) := (l.mapIdx fun i x => mulR x ((i : Int), 1)).drop 1
theorem prodR_rt {n k : Nat} {one other : List (Int × Int)} (h : RtL n one) (g : RtL k other) (h1 : one.length ≤ 64) (h2 : other.length ≤ 64) : RtL (n + k + 8 + n * one.length + k * other.length) (prodR one other) := fun r hr => by
  unfold prodR at hr
  split at hr
  · simp at hr
  · obtain ⟨t, ht, rfl⟩ := List.mem_map.mp hr
    obtain ⟨a1, a2, _⟩ := lcmR_spec h
    obtain ⟨b1, b2, _⟩ := lcmR_spec g
    have q := rawMul_bt (wholesR_bt h) (wholesR_bt g) (by unfold wholesR; rw [List.length_map]; exact h1) t ht
    exact rN_bt (Int.ne_of_gt (Int.mul_pos a2 b2)) (q.mono (by omega)) ((a1.mul b1).mono (by omega))
theorem byR_rt {n k : Nat} {l : List (Int × Int)} {r : Int × Int} (h : RtL n l) (g : Rt k r) : RtL (n + k) (byR l r) := RtL.trim fun x hx => by
  obtain ⟨y, hy, rfl⟩ := List.mem_map.mp hx
  exact mulR_rt (h y hy) g
end RR
/-! ### RGcd -/
/-! Whole rows: the common part by plain rows; sizes. -/
namespace RR
def gcdL (l : List Int) : Int := l.foldl (fun a x => (Nat.gcd a.natAbs x.natAbs : Nat)) 0
def plainR (l : List Int) : List Int := (trim l).map fun x => x.fdiv (gcdL (trim l))
theorem gcdL_app (l : List Int) (x : Int) : gcdL (l ++ [x]) = (Nat.gcd (gcdL l).natAbs x.natAbs : Nat) := by simp [gcdL]
theorem gcdL_nonneg (l : List Int) : 0 ≤ gcdL l := by
  rcases list_end l with rfl | ⟨l', x, rfl⟩
  · simp [gcdL]
  · rw [gcdL_app]; omega
theorem gcdL_dvd : ∀ {l : List Int} {x : Int}, x ∈ l → gcdL l ∣ x := fun {l x} => by
  generalize hn : l.length = n
  induction n generalizing l with
  | zero => intro h; rw [List.length_eq_zero_iff.mp hn] at h; simp at h
  | succ n ih =>
    rcases list_end l with rfl | ⟨l', y, rfl⟩
    · simp at hn
    · intro h
      rw [gcdL_app]
      rcases List.mem_append.mp h with q | q
      · have d := ih (l := l') (by simpa using hn) q
        have e : (gcdL l').natAbs ∣ x.natAbs := Int.natAbs_dvd_natAbs.mpr d
        exact Int.ofNat_dvd_left.mpr (Nat.dvd_trans (Nat.gcd_dvd_left _ _) e)
      · rw [List.mem_singleton.mp q]
        exact Int.ofNat_dvd_left.mpr (Nat.gcd_dvd_right _ _)
theorem dvd_gcdL : ∀ {l : List Int} {k : Int}, (∀ x ∈ l, k ∣ x) → k ∣ gcdL l := fun {l k} => by
  generalize hn : l.length = n
  induction n generalizing l with
  | zero => intro h; rw [List.length_eq_zero_iff.mp hn]; simp [gcdL]
  | succ n ih =>
    rcases list_end l with rfl | ⟨l', y, rfl⟩
    · simp at hn
    · intro h
      rw [gcdL_app]
      have a := ih (l := l') (by simpa using hn) fun x hx => h x (List.mem_append_left _ hx)
      have b := h y (by simp)
      exact Int.ofNat_dvd_right.mpr (Nat.dvd_gcd (Int.natAbs_dvd_natAbs.mpr a) (Int.natAbs_dvd_natAbs.mpr b))
theorem gcdL_le {n : Nat} {l : List Int} (h : BtL n l) (hn : ∃ x ∈ l, x ≠ 0) : Bt n (gcdL l) ∧ 0 < gcdL l := by
  obtain ⟨x, hx, h0⟩ := hn
  have d := gcdL_dvd hx
  have p := gcdL_nonneg l
  have e : (gcdL l).natAbs ≤ x.natAbs := Nat.le_of_dvd (by omega) (Int.natAbs_dvd_natAbs.mpr d)
  refine ⟨Nat.lt_of_le_of_lt e (h x hx), ?_⟩
  have : gcdL l ≠ 0 := fun q => by rw [q] at d; exact h0 (Int.zero_dvd.mp d)
  omega
theorem BtL.trim {n : Nat} {l : List Int} (h : BtL n l) : BtL n (trim l) := fun x hx => h x (trim_mem hx)
theorem BtL.mono {n k : Nat} {l : List Int} (h : BtL n l) (hk : n ≤ k) : BtL k l := fun x hx => (h x hx).mono hk
theorem trim_last_ne {l : List Int} (h : trim l ≠ []) : ∃ l' x, trim l = l' ++ [x] ∧ x ≠ 0 := by
  obtain ⟨l', x, e⟩ := (list_end (trim l)).resolve_left h
  refine ⟨l', x, e, fun q => ?_⟩
  have t := trim_trim l
  rw [e, q, trim_zero] at t
  have := trim_len l'
  rw [t] at this
  simp at this
  omega
theorem fdiv_dvd {a g : Int} (hg : 0 < g) (h : g ∣ a) : a = g * a.fdiv g := by
  obtain ⟨k, rfl⟩ := h
  rw [Int.mul_fdiv_cancel_left _ (by omega)]
theorem plainR_bt {n : Nat} {l : List Int} (h : BtL n l) : BtL n (plainR l) := fun x hx => by
  obtain ⟨y, hy, rfl⟩ := List.mem_map.mp hx
  have hn : trim l ≠ [] := fun q => by rw [q] at hy; simp at hy
  obtain ⟨l', z, e, hz⟩ := trim_last_ne hn
  obtain ⟨_, g⟩ := gcdL_le h.trim ⟨z, by rw [e]; simp, hz⟩
  have d := fdiv_dvd g (gcdL_dvd hy)
  have b := h.trim y hy
  unfold Bt at *
  rw [d, Int.natAbs_mul] at b
  exact Nat.lt_of_le_of_lt (Nat.le_mul_of_pos_left _ (by omega)) b
theorem plainR_len (l : List Int) : (plainR l).length = (trim l).length := by simp [plainR]
/-- one number, made plain -/
theorem plainR_one {l : List Int} (h : (plainR l).length = 1) : BtL 1 (plainR l) := by
  rw [plainR_len] at h
  obtain ⟨l', z, e, hz⟩ := trim_last_ne (l := l) (fun q => by rw [q] at h; simp at h)
  have : l' = [] := List.eq_nil_of_length_eq_zero (by rw [e] at h; simpa using h)
  subst this
  rw [List.nil_append] at e
  intro x hx
  unfold plainR at hx
  rw [e] at hx
  have hg : gcdL [z] = (z.natAbs : Int) := by simp [gcdL]
  rw [hg] at hx
  rw [show x = z.fdiv (z.natAbs : Int) from List.mem_singleton.mp hx]
  unfold Bt
  have d := fdiv_dvd (a := z) (g := (z.natAbs : Int)) (by omega) (Int.natAbs_dvd.mpr (Int.dvd_refl _))
  have e2 : z.natAbs = z.natAbs * (z.fdiv (z.natAbs : Int)).natAbs := by
    have := congrArg Int.natAbs d
    rw [Int.natAbs_mul, Int.natAbs_natCast] at this
    exact this
  have : (z.fdiv (z.natAbs : Int)).natAbs = 1 := Nat.eq_of_mul_eq_mul_left (by omega : 0 < z.natAbs) (by omega)
  omega
/-! ### the rest -/
def irRaw (other rest : List Int) : List Int :=
  updS (fun a b => a - (if 0 < other.getLastD 0 then rest.getLastD 0 else 0 - rest.getLastD 0) * b) (rest.length - other.length) (rest.map (· * (other.getLastD 0).natAbs)) other
def irLoop (other : List Int) : Nat → List Int → List Int
  | 0, rest => rest
  | n + 1, rest => if rest.length < other.length then rest else irLoop other n (plainR (irRaw other rest))
def intRest (one other : List Int) : List Int := plainR (irLoop other (one.length + 1) one)
theorem updI_last {F : Int → Int → Int} : ∀ (xs ys : List Int) (x y : Int), xs.length = ys.length → updI F (xs ++ [x]) (ys ++ [y]) = updI F xs ys ++ [F x y]
  | [], [], x, y, _ => rfl
  | a :: as, b :: bs, x, y, h => by simp [updI, updI_last as bs x y (by simpa using h)]
  | [], _ :: _, _, _, h => by simp at h
  | _ :: _, [], _, _, h => by simp at h
theorem updS_last {F : Int → Int → Int} : ∀ (s : Nat) (xs ys : List Int) (x y : Int), s + ys.length = xs.length → updS F s (xs ++ [x]) (ys ++ [y]) = updS F s xs ys ++ [F x y]
  | 0, xs, ys, x, y, h => updI_last xs ys x y (by omega)
  | s + 1, a :: xs, ys, x, y, h => by
    show a :: updS F s (xs ++ [x]) (ys ++ [y]) = a :: updS F s xs ys ++ [F x y]
    rw [updS_last s xs ys x y (by simp at h; omega)]; rfl
  | s + 1, [], ys, x, y, h => by simp at h
/-- it falls -/
theorem irRaw_lt {other rest : List Int} (ho : other ≠ []) (h : other.length ≤ rest.length) : (plainR (irRaw other rest)).length < rest.length := by
  rw [plainR_len]
  obtain ⟨o, c, rfl⟩ := (list_end other).resolve_left ho
  obtain ⟨r, x, rfl⟩ := (list_end rest).resolve_left (fun q => by rw [q] at h; simp at h)
  unfold irRaw
  simp only [List.getLastD_concat]
  rw [List.map_append, List.map_singleton, updS_last _ _ _ _ _ (by simp at h ⊢; omega)]
  have z : x * (c.natAbs : Int) - (if 0 < c then x else 0 - x) * c = 0 := by
    split
    · rw [show (c.natAbs : Int) = c from by omega]; omega
    · rw [show (c.natAbs : Int) = -c from by omega, Int.sub_mul, Int.mul_neg]; omega
  rw [z, trim_zero]
  have := trim_len (updS (fun a b => a - (if 0 < c then x else 0 - x) * b) ((r ++ [x]).length - (o ++ [c]).length) (r.map (· * (c.natAbs : Int))) o)
  rw [updS_len, List.length_map] at this
  simp only [List.length_append, List.length_singleton] at this ⊢
  omega
theorem irRaw_bt {n k : Nat} {other rest : List Int} (ho : BtL k other) (hr : BtL n rest) (hn : other ≠ []) (hl : other.length ≤ rest.length) : BtL (n + k + 1) (irRaw other rest) := by
  have hc : Bt k (other.getLastD 0) := by
    obtain ⟨o, c, rfl⟩ := (list_end other).resolve_left hn
    simp only [List.getLastD_concat]
    exact ho c (by simp)
  have hx : Bt n (rest.getLastD 0) := by
    rcases list_end rest with rfl | ⟨r, x, rfl⟩
    · exact absurd (List.eq_nil_of_length_eq_zero (by simpa using hl)) hn
    · simp only [List.getLastD_concat]
      exact hr x (by simp)
  have hx2 : Bt n (if 0 < other.getLastD 0 then rest.getLastD 0 else 0 - rest.getLastD 0) := by
    split
    · exact hx
    · unfold Bt at *; omega
  have hm : BtL (n + k) (rest.map (· * ((other.getLastD 0).natAbs : Int))) := fun y hy => by
    obtain ⟨z, hz, rfl⟩ := List.mem_map.mp hy
    exact (hr z hz).mul (by unfold Bt at *; omega)
  intro y hy
  rcases updS_mem hy with q | ⟨a, ha, b, hb, e⟩
  · exact (hm y q).mono (by omega)
  · rw [e]
    exact (hm a ha).sub (hx2.mul (ho b hb))
theorem irLoop_bt {k : Nat} {other : List Int} (ho : BtL k other) (hn : other ≠ []) : ∀ (f n : Nat) (rest : List Int), rest.length < f → BtL n rest → BtL (n + (rest.length + 1 - other.length) * (k + 1)) (irLoop other f rest) ∧ (irLoop other f rest).length < other.length
  | 0, _, _, h, _ => absurd h (Nat.not_lt_zero _)
  | f + 1, n, rest, h, hr => by
    rw [irLoop]
    split
    · rename_i q
      exact ⟨hr.mono (by omega), q⟩
    · rename_i q
      have lt := irRaw_lt hn (rest := rest) (by omega)
      obtain ⟨a1, a2⟩ := irLoop_bt ho hn f (n + k + 1) _ (by omega) (plainR_bt (irRaw_bt ho hr hn (by omega)))
      refine ⟨a1.mono ?_, a2⟩
      have : (plainR (irRaw other rest)).length + 1 - other.length + 1 ≤ rest.length + 1 - other.length := by omega
      have := Nat.mul_le_mul_right (k + 1) this
      rw [Nat.add_mul, Nat.one_mul] at this
      omega
theorem irLoop_more {other : List Int} (hn : other ≠ []) : ∀ (n k : Nat) (rest : List Int), rest.length < n → rest.length < k → irLoop other n rest = irLoop other k rest
  | 0, _, _, h, _ => absurd h (Nat.not_lt_zero _)
  | _, 0, _, _, h => absurd h (Nat.not_lt_zero _)
  | n + 1, k + 1, rest, h1, h2 => by
    rw [irLoop, irLoop]
    split
    · rfl
    · rename_i q
      have lt := irRaw_lt hn (rest := rest) (by omega)
      exact irLoop_more hn n k _ (by omega) (by omega)
theorem intRest_bt {n k : Nat} {one other : List Int} (h1 : BtL n one) (ho : BtL k other) (hn : other ≠ []) : BtL (n + (one.length + 1 - other.length) * (k + 1)) (intRest one other) ∧ (intRest one other).length < other.length ∧ ((intRest one other).length = 1 → BtL 1 (intRest one other)) := by
  obtain ⟨a1, a2⟩ := irLoop_bt ho hn (one.length + 1) n one (by omega) h1
  refine ⟨plainR_bt a1, ?_, plainR_one⟩
  have := trim_len (irLoop other (one.length + 1) one)
  unfold intRest
  rw [plainR_len]
  omega
theorem some_bt : ∀ l : List Int, ∃ n, BtL n l
  | [] => ⟨0, fun x h => by simp at h⟩
  | a :: l => by
    obtain ⟨n, hn⟩ := some_bt l
    refine ⟨n + a.natAbs, fun x hx => ?_⟩
    rcases List.mem_cons.mp hx with q | q
    · rw [q]
      exact Bt.mono (n := a.natAbs) Nat.lt_two_pow_self (by omega)
    · exact (hn x q).mono (by omega)
theorem intRest_lt {near far : List Int} (c : far ≠ []) : (intRest near far).length < far.length := by
  obtain ⟨n, hn⟩ := some_bt near
  obtain ⟨k, hk⟩ := some_bt far
  exact (intRest_bt hn hk c).2.1
/-! ### the common part -/
def icLoop : Nat → List Int → List Int → List Int
  | 0, near, _ => near
  | n + 1, near, far => if far = [] then near else icLoop n far (intRest near far)
def intCommon (one other : List Int) : List Int := icLoop ((plainR other).length + 1) (plainR one) (plainR other)
theorem icLoop_more : ∀ (n k : Nat) (near far : List Int), far.length < n → far.length < k → icLoop n near far = icLoop k near far
  | 0, _, _, _, h, _ => absurd h (Nat.not_lt_zero _)
  | _, 0, _, _, _, h => absurd h (Nat.not_lt_zero _)
  | n + 1, k + 1, near, far, h1, h2 => by
    rw [icLoop, icLoop]
    split
    · rfl
    · rename_i c
      have l := intRest_lt (near := near) c
      exact icLoop_more n k _ _ (by omega) (by omega)
/-- the sizes by the lengths -/
def Wt : Nat → Nat
  | 1 => 1 | 2 => 817 | 3 => 201 | 4 => 63 | 5 => 26 | 6 => 9 | 7 => 6 | _ => 0
theorem Wt_ok' : ∀ p q r : Fin 8, q < p → r < q → (p.val ≤ 6 ∨ q.val = 6) → 2 ≤ r.val → Wt p + (p + 1 - q) * (Wt q + 1) ≤ Wt r := by decide +kernel
theorem Wt_max' : ∀ p q : Fin 8, q < p → (p.val ≤ 6 ∨ q.val = 6) → Wt p + (p + 1 - q) * (Wt q + 1) ≤ 5000 := by decide +kernel
theorem Wt_ok {p q r : Nat} (h : p < 8) (h1 : q < p) (h2 : r < q) (h3 : p ≤ 6 ∨ q = 6) (h4 : 2 ≤ r) : Wt p + (p + 1 - q) * (Wt q + 1) ≤ Wt r := Wt_ok' ⟨p, h⟩ ⟨q, by omega⟩ ⟨r, by omega⟩ h1 h2 h3 h4
theorem Wt_max {p q : Nat} (h : p < 8) (h1 : q < p) (h3 : p ≤ 6 ∨ q = 6) : Wt p + (p + 1 - q) * (Wt q + 1) ≤ 5000 := Wt_max' ⟨p, h⟩ ⟨q, by omega⟩ h1 h3
structure Euc (near far : List Int) : Prop where
  lt : far.length < near.length
  le : near.length ≤ 7
  six : near.length ≤ 6 ∨ far.length = 6 ∨ far = []
  bn : BtL (Wt near.length) near
  bf : BtL (Wt far.length) far
theorem Euc.next {near far : List Int} (h : Euc near far) (c : far ≠ []) : Euc far (intRest near far) := by
  obtain ⟨a1, a2, a3⟩ := intRest_bt h.bn h.bf c
  have l := h.lt
  have le := h.le
  have six : near.length ≤ 6 ∨ far.length = 6 := by
    rcases h.six with q | q | q
    · exact .inl q
    · exact .inr q
    · exact absurd q c
  refine ⟨a2, by omega, .inl (by omega), h.bf, ?_⟩
  rcases Nat.lt_or_ge (intRest near far).length 2 with q | q
  · rcases Nat.eq_zero_or_pos (intRest near far).length with z | z
    · intro x hx
      rw [List.eq_nil_of_length_eq_zero z] at hx
      simp at hx
    · have e : (intRest near far).length = 1 := by omega
      rw [e]
      exact a3 e
  · exact a1.mono (Wt_ok (by omega) l a2 six q)
end RR
/-! ### RNum -/
/-! The nearest as ratios; what a right root must keep. -/
namespace RR
def totR (l found : List (Int × Int)) (place : Nat) : Nat → Int × Int
  | 0 => l.getD (l.length - 1 - place) (0, 1)
  | i + 1 => subR (totR l found place i) (mulR (found.getD (i + 1) (0, 1)) (found.getD (place - (i + 1)) (0, 1)))
def numLoop (l : List (Int × Int)) (first : Int × Int) : Nat → List (Int × Int)
  | 0 => [first]
  | k + 1 => numLoop l first k ++ [overR (totR l (numLoop l first k) (k + 1) k) (mulR first (2, 1))]
theorem numLoop_len {l : List (Int × Int)} {first : Int × Int} : ∀ k, (numLoop l first k).length = k + 1
  | 0 => rfl
  | k + 1 => by simp [numLoop, numLoop_len k]
def Bn : Nat → Nat
  | 0 => 16
  | k + 1 => 16 + k * (2 * Bn k + 1) + Bn k
theorem totR_rt {l found : List (Int × Int)} {place B : Nat} (hl : RtL 10 l) (hp : place < l.length) (hf : RtL B found) (hlen : found.length = place) : ∀ i, i + 1 ≤ place → Rt (10 + i * (2 * B + 1)) (totR l found place i)
  | 0, _ => by
    have : l.getD (l.length - 1 - place) (0, 1) = l[l.length - 1 - place] := by rw [List.getD_eq_getElem?_getD, List.getElem?_eq_getElem (by omega)]; rfl
    rw [totR, this, Nat.zero_mul]
    exact hl _ (List.getElem_mem _)
  | i + 1, h => by
    have ih := totR_rt hl hp hf hlen i (by omega)
    have g : ∀ j, j < place → Rt B (found.getD j (0, 1)) := fun j hj => by
      have : found.getD j (0, 1) = found[j] := by rw [List.getD_eq_getElem?_getD, List.getElem?_eq_getElem (by omega)]; rfl
      rw [this]
      exact hf _ (List.getElem_mem _)
    rw [totR]
    have := subR_rt ih (mulR_rt (g (i + 1) (by omega)) (g (place - (i + 1)) (by omega)))
    refine this.mono ?_
    rw [Nat.add_mul, Nat.one_mul]
    omega
theorem numLoop_rt {l : List (Int × Int)} {first : Int × Int} (hl : RtL 10 l) (h1 : Rt 4 first) (h0 : first.1 ≠ 0) : ∀ k, k < l.length → RtL (Bn k) (numLoop l first k)
  | 0, _ => fun r hr => by rw [List.mem_singleton.mp hr]; exact h1.mono (by decide)
  | k + 1, hk => fun r hr => by
    have ih := numLoop_rt hl h1 h0 k (by omega)
    rcases List.mem_append.mp hr with q | q
    · exact (ih r q).mono (by show Bn k ≤ 16 + k * (2 * Bn k + 1) + Bn k; omega)
    · rw [List.mem_singleton.mp q]
      have m2 : Rt (4 + 2) (mulR first (2, 1)) := mulR_rt h1 ⟨by show (2:Int).natAbs < 2 ^ 2; decide, by show (1:Int).natAbs < 2^2; decide, by show (0:Int) < 1; decide⟩
      have n2 : (mulR first (2, 1)).1 ≠ 0 := by
        have hb : first.2 * 1 ≠ 0 := by have := h1.2.2; omega
        obtain ⟨e1, _, _, _⟩ := rN_spec (t := first.1 * 2) hb
        intro z
        have e : (mulR first (2, 1)).1 = (rN (first.1 * 2) (first.2 * 1)).1 := rfl
        rw [e] at z
        rw [z, Int.mul_zero] at e1
        omega
      refine (overR_rt (totR_rt hl hk ih (numLoop_len k) k (Nat.le_refl _)) m2 n2).mono ?_
      show _ ≤ 16 + k * (2 * Bn k + 1) + Bn k
      omega
theorem Bn_le : ∀ k, k ≤ 3 → Bn k ≤ 600 := by
  intro k hk
  match k, hk with
  | 0, _ => decide
  | 1, _ => decide
  | 2, _ => decide
  | 3, _ => decide
/-- the nearest, from the low end on -/
def nearR (l : List (Int × Int)) (first : Int × Int) : List (Int × Int) := (numLoop l first (l.length / 2)).reverse
def restR (l : List (Int × Int)) (first : Int × Int) : List (Int × Int) := lessR l (prodR (nearR l first) (nearR l first))
/-- what Root asks of its polynomial -/
structure GoodL (l : List (Int × Int)) (s b : Int) : Prop where
  len : l.length = 3 ∨ l.length = 5 ∨ l.length = 7
  last : ∃ l', l = l' ++ [(s * s, b * b)]
  s0 : 0 < s ∧ s ≤ 3
  b0 : 0 < b ∧ b ≤ 3
  co : rN s b = (s, b)
  rt : RtL 10 l
  euc : Euc (plainR (wholesR l)) (plainR (wholesR (slopeR l)))
  sq : (intCommon (wholesR l) (wholesR (slopeR l))).length = 1
theorem icLoop_plain : ∀ (n : Nat) (near far : List Int), (∃ y, near = plainR y) → near ≠ [] → (∃ y, far = plainR y) → (∃ y, icLoop n near far = plainR y) ∧ icLoop n near far ≠ []
  | 0, near, far, h, h2, _ => ⟨h, h2⟩
  | n + 1, near, far, h, h2, g => by
    rw [icLoop]
    split
    · exact ⟨h, h2⟩
    · rename_i c
      exact icLoop_plain n far (intRest near far) g c ⟨_, rfl⟩
theorem plainR_last {l : List Int} (h : plainR l ≠ []) : ∃ l' x, plainR l = l' ++ [x] ∧ x ≠ 0 := by
  have hn : trim l ≠ [] := fun q => h (by unfold plainR; rw [q]; rfl)
  obtain ⟨l', z, e, hz⟩ := trim_last_ne hn
  refine ⟨l'.map fun x => x.fdiv (gcdL (trim l)), z.fdiv (gcdL (trim l)), ?_, fun q => ?_⟩
  · unfold plainR
    conv => lhs; arg 2; rw [e]
    simp
  · have hz2 : z ∈ trim l := by rw [e]; simp
    obtain ⟨n, hb⟩ := some_bt (trim l)
    obtain ⟨_, g⟩ := gcdL_le hb ⟨z, hz2, hz⟩
    have d := fdiv_dvd g (gcdL_dvd hz2)
    rw [q, Int.mul_zero] at d
    exact hz d
/-- the sizes all along -/
theorem icLoop_bt : ∀ (n : Nat) (near far : List Int), Euc near far → BtL 900 (icLoop n near far)
  | 0, near, far, h => h.bn.mono (by
      have : ∀ k : Fin 8, Wt k ≤ 900 := by decide
      exact this ⟨near.length, by have := h.le; omega⟩)
  | n + 1, near, far, h => by
    rw [icLoop]
    split
    · exact h.bn.mono (by
        have : ∀ k : Fin 8, Wt k ≤ 900 := by decide
        exact this ⟨near.length, by have := h.le; omega⟩)
    · rename_i c
      exact icLoop_bt n far _ (h.next c)
theorem icLoop_len : ∀ (n : Nat) (near far : List Int), Euc near far → (icLoop n near far).length ≤ 7
  | 0, near, far, h => h.le
  | n + 1, near, far, h => by
    rw [icLoop]
    split
    · exact h.le
    · rename_i c
      exact icLoop_len n far _ (h.next c)
end RR
/-! ### RRest -/
/-! A root's polynomial modulo p, the program's way. -/
namespace RR
def restsM (p : Int) (l : List (Int × Int)) : List Int := trim (l.map fun r => r.1 * inv p r.2 % p)
/-- p is in no bottom -/
def Away (p : Int) (l : List (Int × Int)) : Prop := ∀ r ∈ l, r.2 % p ≠ 0
theorem restsM_red {p : Int} (hp : Pr p) (l : List (Int × Int)) : Red p (restsM p l) := Rg.red fun x hx => by
  obtain ⟨y, _, rfl⟩ := List.mem_map.mp hx
  exact mod_rg hp.pos.1 _
theorem restsM_len (p : Int) (l : List (Int × Int)) : (restsM p l).length ≤ l.length := by
  have := trim_len (l.map fun r => r.1 * inv p r.2 % p)
  rwa [List.length_map] at this
/-- what does_keep asks -/
structure KeepM (p : Int) (l : List (Int × Int)) : Prop where
  pr : Pr p
  rt : RtL 10 l
  len : l.length ≤ 10
  aw : Away p l
  aws : Away p (slopeR l)
  full : (restsM p l).length = l.length
  sl : restsM p (slopeR l) ≠ []
  one : (commonR p (restsM p l) (restsM p (slopeR l))).length = 1
/-- first first - poly second second -/
def normP (p : Int) (D f s : List Int) : List Int := lessM p (mulM p D (mulM p s s)) (mulM p f f)
theorem normP_one {p : Int} (hp : Pr p) {D f : List Int} (hD : Red p D) : normP p D f [1] = lessM p D (mulM p f f) := by unfold normP; rw [norm_one hp hD]
end RR
/-! ### RDraw -/
/-! What is drawn. -/
namespace RR
def lessN (l : List Int) (n : Int) : List Int := ((rawMul l l).getD 0 0 - n) :: (rawMul l l).drop 1
/-- the law's own choice of kept primes -/
def keptN (nums : List Int) (side bottom : Int) (many k : Nat) : List Int := ((primesL k).filter fun p => keepsL p nums side bottom).take many
theorem primes_pr : ∀ k, k ≤ 6 → ∀ p ∈ primesL k, Pr p := by
  intro k hk
  match k, hk with
  | 0, _ => intro p hp; simp [primesL] at hp
  | 1, _ => unfold Pr; decide +kernel
  | 2, _ => unfold Pr; decide +kernel
  | 3, _ => unfold Pr; decide +kernel
  | 4, _ => unfold Pr; decide +kernel
  | 5, _ => unfold Pr; decide +kernel
  | 6, _ => unfold Pr; decide +kernel
def Sml (x : Int) : Prop := -4 ≤ x ∧ x ≤ 4
structure DrawnOk (nums : List Int) (side bottom : Int) : Prop where
  sb : side = 1 ∨ side = 2
  bb : bottom = 1 ∨ bottom = 2 ∨ bottom = 3
  way : (∃ a b, nums = [a, b, side * side] ∧ Sml a ∧ Sml b) ∨ (∃ a b n, nums = lessN [a, b, side] n ∧ Sml a ∧ Sml b ∧ (n = 1 ∨ n = -1 ∨ n = 2 ∨ n = 3)) ∨
    ∃ l : List Int, nums = l ++ [side * side] ∧ (l.length = 6 ∨ l.length = 4) ∧ ∀ x ∈ l, Sml x
  two : (keptN nums side bottom 2 5).length = 2
theorem fall_ok : DrawnOk [1, 1, 0, 0, 1] 1 1 := ⟨.inl rfl, .inl rfl, .inr (.inr ⟨[1, 1, 0, 0], rfl, .inr rfl, by unfold Sml; decide⟩), by decide +kernel⟩
end RR
/-! ### RRight -/
/-! What the law asks at one prime, told plainly. -/
namespace RR
structure RightOk (l : List (Int × Int)) (s b : Int) (nums : List Int) (side bottom p : Int) (n : Nat) : Prop where
  pr : Pr p
  good : GoodL l s b
  keep : KeepM p l
  walk : restsM p l = restsL p nums bottom ∧ restsM p (nearR l (s, b)) = nearL p (restsL p nums bottom) (side * inv p bottom % p)
  ch : Chain p (restsM p l) (restsM p (nearR l (s, b))) n
  aa : Away p (nearR l (s, b))
  few : n ≤ 590
  bot : bottom % p ≠ 0
  sd : 0 < side * inv p bottom % p
  nl : nums.length ≤ 100
  d150 : degC p (restsM p l) (restsM p (nearR l (s, b))) n ≤ 150
  near2 : restsM p (trimR (nearR l (s, b))) = restsM p (nearR l (s, b))
  red : Red p (unitC p (chain p (restsM p l) (restsM p (nearR l (s, b))) n)).1 ∧ Red p (unitC p (chain p (restsM p l) (restsM p (nearR l (s, b))) n)).2
  len : (unitC p (chain p (restsM p l) (restsM p (nearR l (s, b))) n)).1.length ≤ 400 ∧ (unitC p (chain p (restsM p l) (restsM p (nearR l (s, b))) n)).2.length ≤ 400
  deg : degC p (restsM p l) (restsM p (nearR l (s, b))) n = ((unitC p (chain p (restsM p l) (restsM p (nearR l (s, b))) n)).1.length : Int) - 1
  norm : (normL p (restsM p l) (unitC p (chain p (restsM p l) (restsM p (nearR l (s, b))) n)).1 (unitC p (chain p (restsM p l) (restsM p (nearR l (s, b))) n)).2).length = 1
  normP : (normP p (restsM p l) (unitC p (chain p (restsM p l) (restsM p (nearR l (s, b))) n)).1 (unitC p (chain p (restsM p l) (restsM p (nearR l (s, b))) n)).2).length = 1
  last2 : ∃ v, (unitC p (chain p (restsM p l) (restsM p (nearR l (s, b))) n)).2 = v ++ [1]
  lastA : ∃ u v x, (unitC p (chain p (restsM p l) (restsM p (nearR l (s, b))) n)).1 = u ++ [x] ∧ restsM p (nearR l (s, b)) = v ++ [x]
  half : ((l.length / 2 : Nat) : Int) ≤ degC p (restsM p l) (restsM p (nearR l (s, b))) n
  just : (degC p (restsM p l) (restsM p (nearR l (s, b))) n = ((l.length / 2 : Nat) : Int)) ↔ (plusL p (-1) (restsM p l) (mulL p (restsM p (nearR l (s, b))) (restsM p (nearR l (s, b))))).length = 1
  bound : boundedB (degC p (restsM p l) (restsM p (nearR l (s, b))) n) ((l.length / 2 : Nat) : Int) p = true
/-- the plain mathematics of the law -/
def MainRight : Prop := ∀ (nums : List Int) (side bottom : Int), DrawnOk nums side bottom → ∃ s b, GoodL (nums.map fun n => rN n (bottom * bottom)) s b ∧
  ∀ p, Pr p → keepsL p nums side bottom = true → (nums.length = 7 → p ≤ 5) → ∃ n, RightOk (nums.map fun n => rN n (bottom * bottom)) s b nums side bottom p n
end RR
/-! ### RVal -/
/-! Ratios modulo p. -/
namespace RR
open Lean.Grind Ser
section
variable {R : Type} [CommRing R]
/-- the ratio r is v in the field -/
structure Val (p : Int) (r : Int × Int) (v : R) : Prop where
  aw : r.2 % p ≠ 0
  eq : ic r.1 = v * ic r.2
variable {p : Int} (hR : Fld R p) (hpr : Pr p)
include hR
theorem ic_ne {a : Int} (h : a % p ≠ 0) : (ic a : R) ≠ 0 := fun q => h (hR.inj a q)
theorem mul_cancel' {a b c : R} (hc : c ≠ 0) (h : a * c = b * c) : a = b := by
  have e : (a - b) * c = 0 := by grind
  rcases hR.dom _ _ e with q | q
  · grind
  · exact absurd q hc
theorem ic_mod_ne {a : Int} (h : (ic a : R) ≠ 0) : a % p ≠ 0 := fun q => h (by
  have := ic_mod hR.p0 a
  rw [q, ic_zero] at this
  exact this.symm)
theorem rN_val {t b : Int} {v : R} (hb : (ic b : R) ≠ 0) (h : (ic t : R) = v * ic b) : Val p (rN t b) v := by
  have b0 : b ≠ 0 := fun q => hb (by rw [q]; exact ic_zero)
  obtain ⟨e1, e2, _, _⟩ := rN_spec (t := t) b0
  have e3 : (ic b : R) = ic (rG t b) * ic (rN t b).2 := by rw [← ic_mul, ← e2]
  have e4 : (ic t : R) = ic (rG t b) * ic (rN t b).1 := by rw [← ic_mul, ← e1]
  have g : (ic (rG t b) : R) ≠ 0 := fun q => hb (by rw [e3, q]; grind)
  have d : (ic (rN t b).2 : R) ≠ 0 := fun q => hb (by rw [e3, q]; grind)
  refine ⟨ic_mod_ne hR d, mul_cancel' hR g ?_⟩
  rw [e3, e4] at h
  grind
theorem Val.ne {r : Int × Int} {v : R} (h : Val p r v) : (ic r.2 : R) ≠ 0 := ic_ne hR h.aw
theorem mul_ne {a b : R} (ha : a ≠ 0) (hb : b ≠ 0) : a * b ≠ 0 := fun q => (hR.dom _ _ q).elim ha hb
theorem Val.add {x y : Int × Int} {v w : R} (h : Val p x v) (g : Val p y w) : Val p (addR x y) (v + w) := by
  refine rN_val hR (by rw [ic_mul]; exact mul_ne hR (h.ne hR) (g.ne hR)) ?_
  rw [ic_add, ic_mul, ic_mul, ic_mul, h.eq, g.eq]; grind
theorem Val.sub {x y : Int × Int} {v w : R} (h : Val p x v) (g : Val p y w) : Val p (subR x y) (v - w) := by
  refine rN_val hR (by rw [ic_mul]; exact mul_ne hR (h.ne hR) (g.ne hR)) ?_
  rw [ic_sub, ic_mul, ic_mul, ic_mul, h.eq, g.eq]; grind
theorem Val.mul {x y : Int × Int} {v w : R} (h : Val p x v) (g : Val p y w) : Val p (mulR x y) (v * w) := by
  refine rN_val hR (by rw [ic_mul]; exact mul_ne hR (h.ne hR) (g.ne hR)) ?_
  rw [ic_mul, ic_mul, h.eq, g.eq]; grind
theorem Val.over {x y : Int × Int} {v w u : R} (h : Val p x v) (g : Val p y w) (hu : u * w = v) (hw : w ≠ 0) : Val p (overR x y) u := by
  refine rN_val hR (by rw [ic_mul, g.eq]; exact mul_ne hR (h.ne hR) (mul_ne hR hw (g.ne hR))) ?_
  rw [ic_mul, ic_mul, h.eq, g.eq, ← hu]; grind
include hpr
/-- its rest -/
theorem Val.rest {r : Int × Int} {v : R} (h : Val p r v) : (ic (r.1 * inv p r.2 % p) : R) = v := by
  rw [ic_mod hR.p0, ic_mul, h.eq]
  have := inv_ic hR hpr h.aw
  grind
theorem val_int {n b : Int} (hb : b % p ≠ 0) : Val p (rN n (b * b)) (ic n * ic (inv p b) * ic (inv p b) : R) := by
  have nb := ic_ne hR hb
  refine rN_val hR (by rw [ic_mul]; exact mul_ne hR nb nb) ?_
  have := inv_ic hR hpr hb
  rw [ic_mul]; grind
end
/-- lists that agree in the field -/
theorem map_eq {R : Type} [CommRing R] {p : Int} (hR : Fld R p) {α : Type} {l : List α} {f g : α → Int} (hf : ∀ x ∈ l, 0 ≤ f x ∧ f x < p) (hg : ∀ x ∈ l, 0 ≤ g x ∧ g x < p) (h : ∀ x ∈ l, (ic (f x) : R) = ic (g x)) : l.map f = l.map g :=
  List.map_congr_left fun x hx => by
    have z : (ic (f x - g x) : R) = 0 := by rw [ic_sub, h x hx]; grind
    have d := hR.inj _ z
    obtain ⟨k, hk⟩ := Int.dvd_of_emod_eq_zero d
    have r1 := hf x hx
    have r2 := hg x hx
    have hp := hR.pos
    rcases Int.lt_trichotomy k 0 with q | q | q
    · have : p * k ≤ p * (-1) := Int.mul_le_mul_of_nonneg_left (by omega) (by omega)
      omega
    · rw [q] at hk; omega
    · have : p * 1 ≤ p * k := Int.mul_le_mul_of_nonneg_left (by omega) (by omega)
      omega
theorem rests_same {p : Int} (hp : Pr p) {nums : List Int} {b : Int} (hb : b % p ≠ 0) : restsM p (nums.map fun n => rN n (b * b)) = restsL p nums b := by
  obtain ⟨R, _, hR⟩ := fld_of hp
  unfold restsM restsL
  rw [List.map_map]
  congr 1
  refine map_eq hR (fun x _ => mod_rg hR.pos _) (fun x _ => mod_rg hR.pos _) fun x _ => ?_
  show (ic ((rN x (b * b)).1 * inv p (rN x (b * b)).2 % p) : R) = _
  rw [(val_int hR hp hb).rest hR hp, ic_mod hR.p0, ic_mul, ic_mul]
theorem away_of {p : Int} (hp : Pr p) {nums : List Int} {b : Int} (hb : b % p ≠ 0) : Away p (nums.map fun n => rN n (b * b)) := fun r hr => by
  obtain ⟨R, _, hR⟩ := fld_of hp
  obtain ⟨n, _, rfl⟩ := List.mem_map.mp hr
  exact (val_int hR hp hb).aw
end RR
/-! ### RVal2 -/
/-! The slope modulo p; keeping. -/
namespace RR
open Lean.Grind Ser
theorem trim_full {m : List Int} (h : (trim m).length = m.length) : trim m = m := by
  rcases list_end m with rfl | ⟨m', x, rfl⟩
  · rfl
  · by_cases c : x = 0
    · subst c
      rw [trim_zero] at h
      have := trim_len m'
      simp at h
      omega
    · exact trim_app c
theorem slope_same {p : Int} (hp : Pr p) {l : List (Int × Int)} (ha : Away p l) (full : (restsM p l).length = l.length) : restsM p (slopeR l) = slopeL p (restsM p l) := by
  obtain ⟨R, _, hR⟩ := fld_of hp
  have e : restsM p l = l.map fun r => r.1 * inv p r.2 % p := by
    unfold restsM at full ⊢
    exact trim_full (by rw [full, List.length_map])
  rw [e]
  unfold restsM slopeR slopeL
  congr 1
  rw [← List.map_drop.symm]
  apply List.ext_getElem
  · simp
  · intro i h1 h2
    simp only [List.getElem_map, List.getElem_drop, List.getElem_mapIdx]
    have hi : 1 + i < l.length := by simp at h1; omega
    generalize hx : l[1 + i] = x
    have ax : x.2 % p ≠ 0 := hx ▸ ha _ (List.getElem_mem _)
    have nx := ic_ne hR ax
    have hv : Val p x ((ic x.1 : R) * ic (inv p x.2)) := ⟨ax, by have := inv_ic hR hp ax; grind⟩
    have h1v : Val p (((1 + i : Nat) : Int), (1 : Int)) (ic ((1 + i : Nat) : Int) : R) := ⟨by show (1:Int) % p ≠ 0; have := hp.pos; rw [Int.emod_eq_of_lt (by decide) (by omega)]; decide, by show _ = _ * ic 1; rw [ic_one]; grind⟩
    have := (hv.mul hR h1v).rest hR hp
    have m1 := mod_rg hR.pos ((mulR x (((1 + i : Nat) : Int), 1)).1 * inv p (mulR x (((1 + i : Nat) : Int), 1)).2)
    have m2 := mod_rg hR.pos (((1 + i : Nat) : Int) * (x.1 * inv p x.2 % p))
    have z : (ic ((mulR x (((1 + i : Nat) : Int), 1)).1 * inv p (mulR x (((1 + i : Nat) : Int), 1)).2 % p) : R) = ic (((1 + i : Nat) : Int) * (x.1 * inv p x.2 % p) % p) := by
      rw [this, ic_mod hR.p0, ic_mul, ic_mod hR.p0, ic_mul]; grind
    have q := map_eq hR (l := [()]) (f := fun _ => (mulR x (((1 + i : Nat) : Int), 1)).1 * inv p (mulR x (((1 + i : Nat) : Int), 1)).2 % p) (g := fun _ => ((1 + i : Nat) : Int) * (x.1 * inv p x.2 % p) % p) (fun _ _ => m1) (fun _ _ => m2) (fun _ _ => z)
    exact (List.cons.inj q).1
theorem away_slope {p : Int} (hp : Pr p) {l : List (Int × Int)} (ha : Away p l) : Away p (slopeR l) := fun r hr => by
  obtain ⟨R, _, hR⟩ := fld_of hp
  unfold slopeR at hr
  obtain ⟨i, hi, rfl⟩ := List.mem_mapIdx.mp (List.mem_of_mem_drop hr)
  have ax := ha _ (List.getElem_mem hi)
  have nx := ic_ne hR ax
  have hv : Val p l[i] ((ic (l[i]).1 : R) * ic (inv p (l[i]).2)) := ⟨ax, by have := inv_ic hR hp ax; grind⟩
  have h1v : Val p (((i : Nat) : Int), (1 : Int)) (ic ((i : Nat) : Int) : R) := ⟨by show (1:Int) % p ≠ 0; have := hp.pos; rw [Int.emod_eq_of_lt (by decide) (by omega)]; decide, by show _ = _ * ic 1; rw [ic_one]; grind⟩
  exact (hv.mul hR h1v).aw
end RR
/-! ### RMain1 -/
/-! What is drawn, what is kept. -/
namespace RR
open Lean.Grind Ser
theorem keeps_parts {p : Int} {nums : List Int} {side bottom : Int} (h : keepsL p nums side bottom = true) : bottom % p ≠ 0 ∧ side % p ≠ 0 ∧ (commonR p (restsL p nums bottom) (slopeL p (restsL p nums bottom))).length = 1 := by
  unfold keepsL at h
  split at h
  · cases h
  · rename_i c
    exact ⟨fun q => c (.inl q), fun q => c (.inr q), of_decide_eq_true h⟩
/-- the last number is the side's square -/
theorem DrawnOk.last {nums : List Int} {side bottom : Int} (h : DrawnOk nums side bottom) : ∃ l', nums = l' ++ [side * side] := by
  rcases h.way with ⟨a, b, rfl, _⟩ | ⟨a, b, n, rfl, _⟩ | ⟨l, rfl, _⟩
  · exact ⟨[a, b], rfl⟩
  · refine ⟨[a * a - n, a * b + b * a, a * side + b * b + side * a, b * side + side * b], ?_⟩
    simp [lessN, rawMul, mulAcc, zeros, updS, updI]
    try grind
  · exact ⟨l, rfl⟩
theorem DrawnOk.small {nums : List Int} {side bottom : Int} (h : DrawnOk nums side bottom) : (∀ x ∈ nums, -64 < x ∧ x < 64) ∧ (nums.length = 7 → ∀ x ∈ nums, -5 < x ∧ x < 5) := by
  have hs := h.sb
  have s4 : side * side = 1 ∨ side * side = 4 := by rcases hs with q | q <;> subst q <;> decide
  rcases h.way with ⟨a, b, rfl, ha, hb⟩ | ⟨a, b, n, rfl, ha, hb, hn⟩ | ⟨l, rfl, hl, hx⟩
  · unfold Sml at ha hb
    refine ⟨fun x hx => ?_, fun q => by simp at q⟩
    simp at hx
    omega
  · refine ⟨fun x hx => ?_, fun q => by unfold lessN at q; rw [List.length_cons, List.length_drop, rawMul_len] at q; simp at q⟩
    have bd : ∀ x ∈ rawMul [a, b, side] [a, b, side], x.natAbs ≤ 3 * 16 := fun x hx => by
      refine mulAcc_bd (M := 16) (fun u hu v hv => ?_) (fun x h => List.eq_of_mem_replicate h) 3 (by simp) x hx
      have key : ∀ u ∈ [a, b, side], u.natAbs ≤ 4 := fun u hu => by
        unfold Sml at ha hb
        simp at hu
        omega
      rw [Int.natAbs_mul]
      exact Nat.mul_le_mul (key u hu) (key v hv)
    unfold lessN at hx
    rcases List.mem_cons.mp hx with q | q
    · have len := rawMul_len [a, b, side] [a, b, side]
      have e : (rawMul [a, b, side] [a, b, side]).getD 0 0 ∈ rawMul [a, b, side] [a, b, side] := by
        rw [List.getD_eq_getElem?_getD, List.getElem?_eq_getElem (by rw [len]; simp)]
        exact List.getElem_mem _
      have := bd _ e
      omega
    · have := bd x (List.mem_of_mem_drop q)
      omega
  · have key : ∀ x ∈ l ++ [side * side], -5 < x ∧ x < 5 := fun x hx2 => by
      rcases List.mem_append.mp hx2 with q | q
      · have := hx x q
        unfold Sml at this
        omega
      · have := List.mem_singleton.mp q
        omega
    exact ⟨fun x hx2 => by have := key x hx2; omega, fun _ => key⟩
/-- the lead stays -/
theorem full_of {p : Int} (hp : Pr p) {nums l' : List Int} {side b : Int} (hb : b % p ≠ 0) (hs : side % p ≠ 0) (e : nums = l' ++ [side * side]) :
    ∃ l2 x, restsL p nums b = l2 ++ [x] ∧ l2.length = l'.length ∧ 0 < x ∧ x < p ∧ x = side * side * inv p b * inv p b % p := by
  obtain ⟨R, _, hR⟩ := fld_of hp
  subst e
  have m := mod_rg hR.pos (side * side * inv p b * inv p b)
  have nz : (ic (side * side * inv p b * inv p b % p) : R) ≠ 0 := by
    rw [ic_mod hR.p0, ic_mul, ic_mul, ic_mul]
    have n1 := ic_ne hR hs
    have i1 : (ic (inv p b) : R) ≠ 0 := fun q => by
      have := inv_ic hR hp hb
      rw [q] at this
      have z : (1 : R) = 0 := by grind
      exact n1 (by have : (ic side : R) * 1 = 0 := by rw [z]; grind
                   grind)
    exact mul_ne hR (mul_ne hR (mul_ne hR n1 n1) i1) i1
  have x0 : side * side * inv p b * inv p b % p ≠ 0 := fun q => nz (by rw [q]; exact ic_zero)
  refine ⟨l'.map fun n => n * inv p b * inv p b % p, _, ?_, List.length_map _, by omega, m.2, rfl⟩
  unfold restsL
  rw [List.map_append, List.map_singleton, trim_app x0]
theorem keepM_of {p : Int} (hp : Pr p) {nums : List Int} {side bottom : Int} (hd : DrawnOk nums side bottom) (hk : keepsL p nums side bottom = true) (hrt : RtL 10 (nums.map fun n => rN n (bottom * bottom))) (hl : 3 ≤ nums.length ∧ nums.length ≤ 7) : KeepM p (nums.map fun n => rN n (bottom * bottom)) := by
  obtain ⟨kb, ks, kc⟩ := keeps_parts hk
  obtain ⟨l', e⟩ := hd.last
  obtain ⟨l2, x, e2, hl2, x0, x1, _⟩ := full_of hp kb ks e
  have same := rests_same hp (nums := nums) kb
  have ll : (nums.map fun n => rN n (bottom * bottom)).length = nums.length := List.length_map _
  have full : (restsM p (nums.map fun n => rN n (bottom * bottom))).length = (nums.map fun n => rN n (bottom * bottom)).length := by
    rw [same, e2, ll, e]
    simp [hl2]
  have aw := away_of hp (nums := nums) kb
  have ss := slope_same hp aw full
  refine ⟨hp, hrt, by omega, aw, away_slope hp aw, full, ?_, ?_⟩
  · rw [ss, same]
    intro q
    have n1 : l'.length + 1 = nums.length := by rw [e]; simp
    have n2 : (l2 ++ [x]).length = l2.length + 1 := by simp
    rw [q, commonR_nil, e2, n2] at kc
    omega
  · rw [ss, same]
    exact kc
end RR
/-! ### RMain2 -/
/-! What is drawn is good: the plain fields. -/
namespace RR
theorem DrawnOk.len {nums : List Int} {side bottom : Int} (h : DrawnOk nums side bottom) : nums.length = 3 ∨ nums.length = 5 ∨ nums.length = 7 := by
  rcases h.way with ⟨a, b, rfl, _⟩ | ⟨a, b, n, rfl, _⟩ | ⟨l, rfl, hl, _⟩
  · exact .inl rfl
  · refine .inr (.inl ?_)
    unfold lessN
    rw [List.length_cons, List.length_drop, rawMul_len]
    simp
  · rw [List.length_append, List.length_singleton]
    omega
theorem DrawnOk.rt {nums : List Int} {side bottom : Int} (h : DrawnOk nums side bottom) : RtL 10 (nums.map fun n => rN n (bottom * bottom)) := fun r hr => by
  obtain ⟨x, hx, rfl⟩ := List.mem_map.mp hr
  have s := h.small.1 x hx
  have bb : bottom * bottom = 1 ∨ bottom * bottom = 4 ∨ bottom * bottom = 9 := by
    rcases h.bb with q | q | q <;> subst q <;> decide
  have t : Bt 10 x := by unfold Bt; omega
  have u : Bt 10 (bottom * bottom) := by unfold Bt; omega
  exact rN_bt (by omega) t u
theorem side_rN {side bottom : Int} (hs : side = 1 ∨ side = 2) (hb : bottom = 1 ∨ bottom = 2 ∨ bottom = 3) :
    0 < (rN side bottom).1 ∧ (rN side bottom).1 ≤ 3 ∧ 0 < (rN side bottom).2 ∧ (rN side bottom).2 ≤ 3 ∧
    rN (rN side bottom).1 (rN side bottom).2 = rN side bottom ∧
    rN (side * side) (bottom * bottom) = ((rN side bottom).1 * (rN side bottom).1, (rN side bottom).2 * (rN side bottom).2) := by
  rcases hs with q | q <;> rcases hb with r | r | r <;> subst q <;> subst r <;> decide +kernel
theorem DrawnOk.lastR {nums : List Int} {side bottom : Int} (h : DrawnOk nums side bottom) :
    ∃ l', (nums.map fun n => rN n (bottom * bottom)) = l' ++ [((rN side bottom).1 * (rN side bottom).1, (rN side bottom).2 * (rN side bottom).2)] := by
  obtain ⟨l', e⟩ := h.last
  exact ⟨l'.map fun n => rN n (bottom * bottom), by rw [e, List.map_append, List.map_singleton, (side_rN h.sb h.bb).2.2.2.2.2]⟩
end RR
/-! ### RMain3 -/
/-! Sizes of the whole rows. -/
namespace RR
theorem lcmS_dvd {B : Int} : ∀ (l : List (Int × Int)) (a : Int), a ∣ B → (∀ r ∈ l, r.2 ∣ B) → lcmS a l ∣ B
  | [], a, h, _ => h
  | r :: l, a, h, g => by
    show lcmS ((Nat.lcm a.natAbs r.2.natAbs : Nat) : Int) l ∣ B
    refine lcmS_dvd l _ ?_ fun x hx => g x (List.mem_cons_of_mem _ hx)
    rw [Int.ofNat_dvd_left]
    exact Nat.lcm_dvd (Int.natAbs_dvd_natAbs.mpr h) (Int.natAbs_dvd_natAbs.mpr (g r (List.mem_cons_self ..)))
theorem lcmR_dvd {B : Int} {l : List (Int × Int)} (h : ∀ r ∈ l, r.2 ∣ B) : lcmR l ∣ B := lcmS_dvd l 1 (Int.one_dvd _) h
theorem rN_small {x B : Int} (hB : 0 < B) : (rN x B).2 ∣ B ∧ 0 < (rN x B).2 ∧ (rN x B).1.natAbs ≤ x.natAbs := by
  obtain ⟨e1, e2, e3, _⟩ := rN_spec (t := x) (b := B) (by omega)
  have hn := rG_ne (t := x) (b := B) (by omega)
  refine ⟨⟨rG x B, by rw [Int.mul_comm]; exact e2⟩, e3, ?_⟩
  have e := congrArg Int.natAbs e1
  rw [Int.natAbs_mul] at e
  exact Nat.le_trans (Nat.le_mul_of_pos_left _ (by omega)) (Nat.le_of_eq e.symm)
theorem lcmS_nonneg : ∀ (l : List (Int × Int)) (a : Int), 0 ≤ a → 0 ≤ lcmS a l
  | [], a, h => h
  | r :: l, a, h => by
    show 0 ≤ lcmS ((Nat.lcm a.natAbs r.2.natAbs : Nat) : Int) l
    exact lcmS_nonneg l _ (by omega)
/-- a whole row's entries -/
theorem wholesR_small {B : Int} {M : Nat} {l : List (Int × Int)} (hB : 0 < B) (h : ∀ r ∈ l, r.2 ∣ B ∧ 0 < r.2 ∧ r.1.natAbs ≤ M) : ∀ x ∈ wholesR l, x.natAbs ≤ M * B.natAbs := fun x hx => by
  unfold wholesR at hx
  obtain ⟨r, hr, rfl⟩ := List.mem_map.mp hx
  obtain ⟨_, a2, a3⟩ := h r hr
  have ld := lcmR_dvd fun r hr => (h r hr).1
  have le := Int.le_of_dvd hB ld
  have nn : 0 ≤ lcmR l := lcmS_nonneg l 1 (by decide)
  rw [Int.natAbs_mul]
  refine Nat.mul_le_mul a3 ?_
  rw [Int.fdiv_eq_ediv_of_nonneg _ (by omega)]
  have h1 := Int.ediv_nonneg nn (by omega : 0 ≤ r.2)
  have h2 := Int.ediv_le_self r.2 nn
  omega
theorem slopeR_small {B : Int} {M : Nat} {l : List (Int × Int)} (hB : 0 < B) (hl : l.length ≤ 7) (h : ∀ r ∈ l, r.2 ∣ B ∧ 0 < r.2 ∧ r.1.natAbs ≤ M) : ∀ r ∈ slopeR l, r.2 ∣ B ∧ 0 < r.2 ∧ r.1.natAbs ≤ M * 6 := fun r hr => by
  unfold slopeR at hr
  obtain ⟨i, hi, e⟩ := List.mem_mapIdx.mp (List.mem_of_mem_drop hr)
  obtain ⟨a1, a2, a3⟩ := h _ (List.getElem_mem hi)
  obtain ⟨b1, b2, b3⟩ := rN_small (x := l[i].1 * (i : Int)) (B := l[i].2 * 1) (by omega)
  rw [← e]
  refine ⟨Int.dvd_trans b1 (by rw [Int.mul_one]; exact a1), b2, Nat.le_trans b3 ?_⟩
  rw [Int.natAbs_mul]
  exact Nat.mul_le_mul a3 (by omega)
end RR
/-! ### RMain4 -/
/-! The integer steps stay small. -/
namespace RR
theorem wholesR_plen {B : Int} {l : List (Int × Int)} {n : Nat} (hr : RtL n l) (hl : ∃ l' x, l = l' ++ [x] ∧ x.1 ≠ 0) : (plainR (wholesR l)).length = l.length := by
  obtain ⟨l', x, e, x0⟩ := hl
  obtain ⟨_, a2, a3⟩ := lcmR_spec hr
  have hx : x ∈ l := by rw [e]; simp
  have d := a3 x hx
  have xp := (hr x hx).2.2
  have nz : x.1 * (lcmR l).fdiv x.2 ≠ 0 := by
    obtain ⟨k, hk⟩ := d
    have k0 : k ≠ 0 := fun q => by rw [q] at hk; omega
    rw [fdiv_of (by omega) hk]
    exact Int.mul_ne_zero x0 k0
  have w : wholesR l = (l'.map fun r => r.1 * (lcmR l).fdiv r.2) ++ [x.1 * (lcmR l).fdiv x.2] := by
    unfold wholesR
    generalize lcmR l = L
    rw [e, List.map_append, List.map_singleton]
  rw [plainR_len, w, trim_app nz, List.length_append, List.length_map, e]
  simp
theorem euc_of {B : Int} {M : Nat} {l : List (Int × Int)} (hB : 0 < B ∧ B ≤ 9) (hl : l.length = 3 ∨ l.length = 5 ∨ l.length = 7) (hr : RtL 10 l) (hlast : ∃ l' x, l = l' ++ [x] ∧ x.1 ≠ 0)
    (h : ∀ r ∈ l, r.2 ∣ B ∧ 0 < r.2 ∧ r.1.natAbs ≤ M) (hM : M ≤ 63) (h7 : l.length = 7 → M ≤ 4) : Euc (plainR (wholesR l)) (plainR (wholesR (slopeR l))) := by
  have l1 := wholesR_plen (B := B) hr hlast
  have hs : RtL 20 (slopeR l) := fun r hr2 => by
    obtain ⟨i, hi, e⟩ := List.mem_mapIdx.mp (List.mem_of_mem_drop (by unfold slopeR at hr2; exact hr2))
    rw [← e]
    refine mulR_rt (n := 10) (k := 10) (hr _ (List.getElem_mem hi)) ⟨?_, (by decide : (1:Int).natAbs < 2 ^ 10), (by decide : (0:Int) < 1)⟩
    unfold Bt
    show Int.natAbs (i : Int) < _
    omega
  have sl : (slopeR l).length = l.length - 1 := by unfold slopeR; rw [List.length_drop, List.length_mapIdx]
  have l2 : (plainR (wholesR (slopeR l))).length = (slopeR l).length := by
    refine wholesR_plen (B := B) hs ?_
    obtain ⟨l', x, e, x0⟩ := hlast
    have xp := (hr x (by rw [e]; simp)).2.2
    have ll : 0 < l'.length := by rw [e] at hl; simp at hl; omega
    refine ⟨(l'.mapIdx fun i x => mulR x ((i : Int), 1)).drop 1, mulR x ((l'.length : Int), 1), ?_, ?_⟩
    · unfold slopeR
      rw [e, List.mapIdx_append, List.drop_append_of_le_length (by rw [List.length_mapIdx]; omega)]
      simp
    · obtain ⟨e1, _, _, _⟩ := rN_spec (t := x.1 * (l'.length : Int)) (b := x.2 * 1) (by omega)
      intro q
      have q2 : (rN (x.1 * (l'.length : Int)) (x.2 * 1)).1 = 0 := q
      rw [q2, Int.mul_zero] at e1
      rcases Int.mul_eq_zero.mp e1 with q3 | q3
      · exact x0 q3
      · omega
  have s1 : ∀ x ∈ wholesR l, x.natAbs ≤ M * 9 := fun x hx => Nat.le_trans (wholesR_small hB.1 h x hx) (Nat.mul_le_mul_left _ (by omega))
  have s2 : ∀ x ∈ wholesR (slopeR l), x.natAbs ≤ M * 6 * 9 := fun x hx => Nat.le_trans (wholesR_small hB.1 (slopeR_small hB.1 (by omega) h) x hx) (Nat.mul_le_mul_left _ (by omega))
  have b1 : ∀ k, M * 9 < 2 ^ k → BtL k (plainR (wholesR l)) := fun k hk => plainR_bt fun x hx => Nat.lt_of_le_of_lt (s1 x hx) hk
  have b2 : ∀ k, M * 6 * 9 < 2 ^ k → BtL k (plainR (wholesR (slopeR l))) := fun k hk => plainR_bt fun x hx => Nat.lt_of_le_of_lt (s2 x hx) hk
  rw [sl] at l2
  refine ⟨by omega, by omega, by omega, ?_, ?_⟩
  · rw [l1]
    rcases hl with q | q | q <;> rw [q]
    · exact (b1 10 (by omega)).mono (by decide)
    · exact (b1 10 (by omega)).mono (by decide)
    · exact b1 6 (by have := h7 q; omega)
  · rw [l2]
    rcases hl with q | q | q <;> rw [q]
    · exact (b2 12 (by omega)).mono (by decide)
    · exact (b2 12 (by omega)).mono (by decide)
    · exact b2 9 (by have := h7 q; omega)
/-- the plain fields joined: all of GoodL but `sq` -/
theorem DrawnOk.euc {nums : List Int} {side bottom : Int} (h : DrawnOk nums side bottom) :
    Euc (plainR (wholesR (nums.map fun n => rN n (bottom * bottom)))) (plainR (wholesR (slopeR (nums.map fun n => rN n (bottom * bottom))))) := by
  have bb : bottom * bottom = 1 ∨ bottom * bottom = 4 ∨ bottom * bottom = 9 := by
    rcases h.bb with q | q | q <;> subst q <;> decide
  have ll : (nums.map fun n => rN n (bottom * bottom)).length = nums.length := List.length_map _
  have hlen := h.len
  have key : ∀ M : Nat, (∀ x ∈ nums, x.natAbs ≤ M) → ∀ r ∈ nums.map fun n => rN n (bottom * bottom), r.2 ∣ bottom * bottom ∧ 0 < r.2 ∧ r.1.natAbs ≤ M := fun M hM r hr => by
    obtain ⟨x, hx, rfl⟩ := List.mem_map.mp hr
    obtain ⟨a1, a2, a3⟩ := rN_small (x := x) (B := bottom * bottom) (by omega)
    exact ⟨a1, a2, Nat.le_trans a3 (hM x hx)⟩
  obtain ⟨l', e⟩ := h.lastR
  have s0 := (side_rN h.sb h.bb).1
  have last : ∃ l' x, (nums.map fun n => rN n (bottom * bottom)) = l' ++ [x] ∧ x.1 ≠ 0 := ⟨l', _, e, Int.mul_ne_zero (by omega) (by omega)⟩
  have sm := h.small
  by_cases c : nums.length = 7
  · exact euc_of (B := bottom * bottom) (M := 4) (by omega) (by omega) h.rt last (key 4 fun x hx => by have := sm.2 c x hx; omega) (by decide) fun _ => by decide
  · exact euc_of (B := bottom * bottom) (M := 63) (by omega) (by omega) h.rt last (key 63 fun x hx => by have := sm.1 x hx; omega) (by decide) fun q => by omega
theorem DrawnOk.good {nums : List Int} {side bottom : Int} (h : DrawnOk nums side bottom)
    (sq : (intCommon (wholesR (nums.map fun n => rN n (bottom * bottom))) (wholesR (slopeR (nums.map fun n => rN n (bottom * bottom))))).length = 1) :
    GoodL (nums.map fun n => rN n (bottom * bottom)) (rN side bottom).1 (rN side bottom).2 := by
  obtain ⟨a1, a2, a3, a4, a5, _⟩ := side_rN h.sb h.bb
  have ll : (nums.map fun n => rN n (bottom * bottom)).length = nums.length := List.length_map _
  have hlen := h.len
  exact ⟨by omega, h.lastR, ⟨a1, a2⟩, ⟨a3, a4⟩, a5, h.rt, h.euc, sq⟩
end RR
/-! ### RMain5 -/
/-! The kept primes' plain facts. -/
namespace RR
open Lean.Grind Ser
theorem DrawnOk.keepM {p : Int} (hp : Pr p) {nums : List Int} {side bottom : Int} (h : DrawnOk nums side bottom) (hk : keepsL p nums side bottom = true) : KeepM p (nums.map fun n => rN n (bottom * bottom)) :=
  keepM_of hp h hk h.rt (by have := h.len; omega)
theorem side_pos {p : Int} (hp : Pr p) {nums : List Int} {side bottom : Int} (hk : keepsL p nums side bottom = true) : 0 < side * inv p bottom % p := by
  obtain ⟨kb, ks, kc⟩ := keeps_parts hk
  obtain ⟨R, _, hR⟩ := fld_of hp
  have m := mod_rg hR.pos (side * inv p bottom)
  have nz : side * inv p bottom % p ≠ 0 := fun q => by
    have e : (ic (side * inv p bottom % p) : R) = 0 := by rw [q]; exact ic_zero
    rw [ic_mod hR.p0, ic_mul] at e
    have n1 : (ic side : R) ≠ 0 := ic_ne hR ks
    have i1 : (ic (inv p bottom) : R) ≠ 0 := fun q => by
      have := inv_ic hR hp kb
      rw [q] at this
      have z : (1 : R) = 0 := by grind
      exact n1 (by have : (ic side : R) * 1 = 0 := by rw [z]; grind
                   grind)
    exact mul_ne hR n1 i1 e
  omega
theorem rests_walk {p : Int} (hp : Pr p) {nums : List Int} {side bottom : Int} (hk : keepsL p nums side bottom = true) : restsM p (nums.map fun n => rN n (bottom * bottom)) = restsL p nums bottom :=
  rests_same hp (keeps_parts hk).1
end RR
/-! ### RMain6 -/
/-! A kept prime is there; the question of the square is what is left of the good list. -/
namespace RR
open Lean.Grind Ser
theorem DrawnOk.kept {nums : List Int} {side bottom : Int} (h : DrawnOk nums side bottom) : ∃ p, Pr p ∧ keepsL p nums side bottom = true := by
  have t := h.two
  match e : keptN nums side bottom 2 5, t with
  | [], t => simp at t
  | p :: l, _ =>
    have m : p ∈ keptN nums side bottom 2 5 := by rw [e]; exact List.mem_cons_self ..
    unfold keptN at m
    have m2 := List.mem_filter.mp (List.mem_of_mem_take m)
    exact ⟨p, primes_pr 5 (by decide) p m2.1, m2.2⟩
/-- what is left of MainRight, in two: the square question, and one kept prime's facts -/
def SqRight : Prop := ∀ nums side bottom, DrawnOk nums side bottom → (intCommon (wholesR (nums.map fun n => rN n (bottom * bottom))) (wholesR (slopeR (nums.map fun n => rN n (bottom * bottom))))).length = 1
def OneRight : Prop := ∀ nums side bottom, DrawnOk nums side bottom → ∀ p, Pr p → keepsL p nums side bottom = true → (nums.length = 7 → p ≤ 5) → ∃ n, RightOk (nums.map fun n => rN n (bottom * bottom)) (rN side bottom).1 (rN side bottom).2 nums side bottom p n
theorem mainRight_of (h1 : SqRight) (h2 : OneRight) : MainRight := fun nums side bottom h =>
  ⟨_, _, h.good (h1 nums side bottom h), fun p hp hk h7 => h2 nums side bottom h p hp hk h7⟩
end RR
/-! ### RMain11 -/
/-! The nearest: the square's upper half. -/
namespace RR
open Lean.Grind Ser
section
variable {R : Type} [CommRing R]
/-- the square's upper half is D's -/
structure TopSq (D F : Ser R) (d : Nat) (c : R) : Prop where
  bd : Bd F (d + 1)
  lead : F d = c
  top : ∀ j, d ≤ j → (F * F) j = D j
theorem one_bd : Bd (1 : Ser R) 1 := fun k hk => by
  cases k with
  | zero => omega
  | succ k => exact ofNat_atS 1 k
theorem xp_bd1 (a : Nat) : Bd (xp a : Ser R) (a + 1) := by
  have := xp_bd (a := a) (one_bd (R := R))
  rwa [show (xp a : Ser R) * 1 = xp a from by grind] at this
variable {p : Int} (hR : Fld R p)
include hR
theorem TopSq.uniq {D F G : Ser R} {d : Nat} {c : R} (h : TopSq D F d c) (g : TopSq D G d c) (hc : c + c ≠ 0) : F = G := by
  have hs : Dg (F + G) d := ⟨by rw [add_at, h.lead, g.lead]; exact hc, h.bd.add g.bd⟩
  rcases (h.bd.sub g.bd).dg with q | ⟨k, _, q⟩
  · grind
  · have := (q.mul hR hs).1
    have e : (F - G) * (F + G) = F * F - G * G := by grind
    rw [e, sub_at, h.top _ (by omega), g.top _ (by omega)] at this
    exact absurd (by grind) this
theorem two_ne : (1 : R) + 1 ≠ 0 := fun q => by
  have e : (ic 2 : R) = 0 := by rw [show (2 : Int) = 1 + 1 from rfl, ic_add, ic_one, q]
  have := hR.inj _ e
  have := hR.pos
  rw [Int.emod_eq_of_lt (by decide) (by omega)] at *
  omega
theorem dbl_ne {c : R} (h : c ≠ 0) : c + c ≠ 0 := fun q => by
  have e : (1 + 1) * c = 0 := by grind
  rcases hR.dom _ _ e with z | z
  · exact two_ne hR z
  · exact h z
theorem ic_side {side : Int} (hs : 0 < side ∧ side < p) : (ic side : R) ≠ 0 := fun q => by
  have := hR.inj _ q
  rw [Int.emod_eq_of_lt (by omega) hs.2] at this
  omega
theorem nearLoop_top (hp : Pr p) {whole : List Int} {half : Nat} {side : Int} (hs : 0 < side ∧ side < p) (hw : whole.length ≤ half + half + 1) (hl : S R whole (half + half) = ic side * ic side) :
    ∀ k, k ≤ half → (∀ j, j < half - k → (nearLoop p whole half (inv p (2 * side)) side k).getD j 0 = 0) ∧
      ∀ j, half + half ≤ j + k → (S R (nearLoop p whole half (inv p (2 * side)) side k) * S R (nearLoop p whole half (inv p (2 * side)) side k)) j = S R whole j
  | 0, _ => by
    refine ⟨fun j hj => ?_, fun j hj => ?_⟩
    · rw [nearLoop, List.getD_eq_getElem?_getD, List.getElem?_append_left (by simp [zeros]; omega)]
      simp [zeros, List.getElem?_replicate]
      split <;> rfl
    · have b : Bd (S R (nearLoop p whole half (inv p (2 * side)) side 0)) (half + 1) := by
        have := S_bd (R := R) (nearLoop p whole half (inv p (2 * side)) side 0)
        rwa [show (nearLoop p whole half (inv p (2 * side)) side 0).length = half + 1 from by simp [nearLoop, zeros]] at this
      obtain ⟨m1, m2⟩ := mul_bd b b
      rcases Nat.eq_or_lt_of_le (show half + half ≤ j by omega) with q | q
      · rw [← q, m1, hl]
        have e : S R (nearLoop p whole half (inv p (2 * side)) side 0) half = ic side := by
          rw [S_at, nearLoop]
          congr 1
          rw [List.getD_eq_getElem?_getD, List.getElem?_append_right (by simp [zeros])]
          simp [zeros]
        rw [e]
      · rw [m2 j (by omega), S_len (by omega)]
  | k + 1, hk => by
    obtain ⟨a1, a2⟩ := nearLoop_top hp hs hw hl k (by omega)
    obtain ⟨l', e, h1, h2⟩ := nearLoop_form hp (whole := whole) (half := half) (back := inv p (2 * side)) hs k (by omega)
    have flen : (nearLoop p whole half (inv p (2 * side)) side k).length = half + 1 := by rw [e]; simp [h1]
    have lead : S R (nearLoop p whole half (inv p (2 * side)) side k) half = ic side := by
      rw [S_at, e, List.getD_eq_getElem?_getD, List.getElem?_append_right (by omega), h1]
      simp
    have hb := inv_ic hR hp (two_side hp hs)
    rw [nearLoop, nearStep]
    generalize inv p (2 * side) = back at *
    have sl : S R (plusL p (-1) whole (mulL p (nearLoop p whole half back side k) (nearLoop p whole half back side k))) = S R whole - S R (nearLoop p whole half back side k) * S R (nearLoop p whole half back side k) := by
      rw [S_plusL hR.p0, S_mulL hR.p0, ic_neg, ic_one, C_neg, show (C (1:R)) = 1 from rfl]; grind
    generalize plusL p (-1) whole (mulL p (nearLoop p whole half back side k) (nearLoop p whole half back side k)) = left at *
    have bF := S_bd (R := R) (nearLoop p whole half back side k)
    rw [flen] at bF
    generalize nearLoop p whole half back side k = found at *
    generalize hpl : half - 1 - k = place at *
    have ht : ∀ t, t = (if half + place < left.length then left.getD (half + place) 0 * back % p else 0) → (ic t : R) = (S R whole (half + place) - (S R found * S R found) (half + place)) * ic back := fun t ht => by
      rw [← sub_at, ← sl]
      by_cases c : half + place < left.length
      · rw [ht, if_pos c, ic_mod hR.p0, ic_mul, S_at]
      · rw [ht, if_neg c, S_len (by omega), ic_zero]; grind
    generalize (if half + place < left.length then left.getD (half + place) 0 * back % p else 0) = t at *
    have ht := ht t rfl
    have zt : found.getD place 0 = 0 := a1 place (by omega)
    have ss : S R (found.set place t) = S R found + C (ic t) * xp place := by
      rw [S_set _ _ _ (by omega), zt, ic_zero, C_sub, C_zero_eq]; grind
    refine ⟨fun j hj => by rw [getD_set_ne (by omega)]; exact a1 j (by omega), fun j hj => ?_⟩
    have e2 : S R (found.set place t) * S R (found.set place t) = S R found * S R found + C (ic t + ic t) * (xp place * S R found) + C (ic t * ic t) * (xp place * xp place) := by
      rw [ss, C_add, C_times]; grind
    have ex : ((xp place : Ser R) * S R found) j = S R found (j - place) := by
      have := xp_at (S R found) place (j - place)
      rwa [show place + (j - place) = j from by omega] at this
    rw [e2, add_at, add_at, C_mul, C_mul, xp_bd (xp_bd1 place) j (by omega), ex]
    rcases Nat.eq_or_lt_of_le (show half + place ≤ j by omega) with q | q
    · rw [show j - place = half from by omega, lead, ← q, ht]
      rw [ic_mul, show (2 : Int) = 1 + 1 from rfl, ic_add, ic_one] at hb
      generalize S R whole (half + place) = x
      generalize (S R found * S R found) (half + place) = y
      grind
    · rw [bF (j - place) (by omega), a2 j (by omega)]; grind
/-- the nearest is right -/
theorem nearL_top (hp : Pr p) {whole : List Int} {half : Nat} {side : Int} (hs : 0 < side ∧ side < p) (hw : whole.length = half + half + 1) (hl : S R whole (half + half) = ic side * ic side) :
    TopSq (S R whole) (S R (nearL p whole side)) half (ic side) := by
  have eh : (whole.length - 1) / 2 = half := by omega
  unfold nearL
  rw [eh]
  obtain ⟨l', e, h1, h2⟩ := nearLoop_form hp (whole := whole) (half := half) (back := inv p (2 * side)) hs half (Nat.le_refl _)
  refine ⟨?_, ?_, fun j hj => (nearLoop_top hR hp hs (by omega) hl half (Nat.le_refl _)).2 j (by omega)⟩
  · have := S_bd (R := R) (nearLoop p whole half (inv p (2 * side)) side half)
    rwa [show (nearLoop p whole half (inv p (2 * side)) side half).length = half + 1 from by rw [e]; simp [h1]] at this
  · rw [S_at, e, List.getD_eq_getElem?_getD, List.getElem?_append_right (by omega), h1]
    simp
end
theorem nearL_len {p : Int} (hp : Pr p) {whole : List Int} {half : Nat} {side : Int} (hs : 0 < side ∧ side < p) (hw : whole.length = half + half + 1) : Red p (nearL p whole side) ∧ ∃ l', nearL p whole side = l' ++ [side] ∧ l'.length = half := by
  have eh : (whole.length - 1) / 2 = half := by omega
  unfold nearL
  rw [eh]
  obtain ⟨l', e, h1, h2⟩ := nearLoop_form hp (whole := whole) (half := half) (back := inv p (2 * side)) hs half (Nat.le_refl _)
  exact ⟨by rw [e]; exact form_red hs h2, l', e, h1⟩
end RR
/-! ### RMain12 -/
/-! The nearest as ratios is the nearest modulo p. -/
namespace RR
open Lean.Grind Ser
section
variable {R : Type} [CommRing R] {p : Int} (hR : Fld R p) (hp : Pr p)
include hR hp
theorem rests_val {l : List (Int × Int)} (ha : Away p l) {i : Nat} (hi : i < l.length) : Val p (l.getD i (0, 1)) (S R (restsM p l) i) := by
  have e : l.getD i (0, 1) = l[i] := by rw [List.getD_eq_getElem?_getD, List.getElem?_eq_getElem hi]; rfl
  have aw := ha _ (List.getElem_mem hi)
  rw [e]
  refine ⟨aw, ?_⟩
  unfold restsM
  rw [S_trim, S_at, List.getD_eq_getElem?_getD, List.getElem?_map, List.getElem?_eq_getElem hi]
  show (ic (l[i]).1 : R) = ic ((l[i]).1 * inv p (l[i]).2 % p) * ic (l[i]).2
  rw [ic_mod hR.p0, ic_mul]
  have := inv_ic hR hp aw
  grind
/-- a row of values -/
def ValL (p : Int) (l : List (Int × Int)) (F : Ser R) : Prop := ∀ i, i < l.length → Val p (l.getD i (0, 1)) (F i)
theorem half_ex {c : R} (hc : ∃ a : Int, a % p ≠ 0 ∧ ic a = c) : ∃ i : R, i * (c * (1 + 1)) = 1 := by
  obtain ⟨a, ha, rfl⟩ := hc
  have t := two_ne hR
  have n : (ic (a * 2) : R) ≠ 0 := by
    rw [ic_mul, show (2 : Int) = 1 + 1 from rfl, ic_add, ic_one]
    exact mul_ne hR (ic_ne hR ha) t
  have := inv_ic hR hp (c := a * 2) (ic_mod_ne hR n)
  refine ⟨ic (inv p (a * 2)), ?_⟩
  rw [show (ic (a * 2) : R) = ic a * (1 + 1) from by rw [ic_mul, show (2 : Int) = 1 + 1 from rfl, ic_add, ic_one]] at this
  exact this
theorem val_two {f : Int × Int} {c : R} (h : Val p f c) : Val p (mulR f (2, 1)) (c * (1 + 1)) := by
  refine h.mul hR ⟨by show (1:Int) % p ≠ 0; have := hp.pos; rw [Int.emod_eq_of_lt (by decide) (by omega)]; decide, ?_⟩
  show (ic 2 : R) = _ * ic 1
  rw [show (2 : Int) = 1 + 1 from rfl, ic_add, ic_one]; grind
/-- the values, the last first, and what they square to -/
theorem num_vals {l : List (Int × Int)} {f : Int × Int} {c : R} {D : Ser R} (hl : ∀ i, i < l.length → Val p (l.getD i (0, 1)) (D i)) (hf : Val p f c) (hc : ∃ a : Int, a % p ≠ 0 ∧ ic a = c) {d : Nat} (hd : d = 1 ∨ d = 2 ∨ d = 3) (ll : l.length = 2 * d + 1) (hD : D (2 * d) = c * c) :
    ∃ F : Nat → R, F d = c ∧ (numLoop l f d).length = d + 1 ∧ (∀ i, i ≤ d → Val p ((numLoop l f d).reverse.getD i (0, 1)) (F i)) ∧
      (d = 1 → F 0 * F 1 + F 1 * F 0 = D 1) ∧
      (d = 2 → F 0 * F 2 + F 1 * F 1 + F 2 * F 0 = D 2 ∧ F 1 * F 2 + F 2 * F 1 = D 3) ∧
      (d = 3 → F 0 * F 3 + F 1 * F 2 + F 2 * F 1 + F 3 * F 0 = D 3 ∧ F 1 * F 3 + F 2 * F 2 + F 3 * F 1 = D 4 ∧ F 2 * F 3 + F 3 * F 2 = D 5) := by
  obtain ⟨i2, hi⟩ := half_ex hR hp hc
  have w := val_two hR hp hf
  have w0 : c * (1 + 1) ≠ 0 := fun q => by rw [q] at hi; exact two_ne hR (by grind)
  have over : ∀ {x : Int × Int} {v : R}, Val p x v → Val p (overR x (mulR f (2, 1))) (v * i2) := fun h => h.over hR w (by grind) w0
  generalize hm : mulR f (2, 1) = m at *
  rcases hd with q | q | q
  · subst q
    have r1 := over (hl 1 (by omega))
    refine ⟨fun i => if i = 0 then D 1 * i2 else c, rfl, by rw [numLoop_len], fun i h => ?_, fun _ => ?_, fun q => by omega, fun q => by omega⟩
    · have e : (numLoop l f 1).reverse = [overR (l.getD 1 (0, 1)) m, f] := by
        simp [numLoop, totR, ll, hm]
      rw [e]
      match i, h with
      | 0, _ => exact r1
      | 1, _ => exact hf
    · simp; grind
  · subst q
    have r1 := over (hl 3 (by omega))
    have r2 := over ((hl 2 (by omega)).sub hR (r1.mul hR r1))
    refine ⟨fun i => if i = 0 then (D 2 - D 3 * i2 * (D 3 * i2)) * i2 else if i = 1 then D 3 * i2 else c, rfl, by rw [numLoop_len], fun i h => ?_, fun q => by omega, fun _ => ?_, fun q => by omega⟩
    · have e : (numLoop l f 2).reverse = [overR (subR (l.getD 2 (0, 1)) (mulR (overR (l.getD 3 (0, 1)) m) (overR (l.getD 3 (0, 1)) m))) m, overR (l.getD 3 (0, 1)) m, f] := by
        simp [numLoop, totR, ll, hm]
      rw [e]
      match i, h with
      | 0, _ => exact r2
      | 1, _ => exact r1
      | 2, _ => exact hf
    · simp; constructor <;> grind
  · subst q
    have r1 := over (hl 5 (by omega))
    have r2 := over ((hl 4 (by omega)).sub hR (r1.mul hR r1))
    have r3 := over (((hl 3 (by omega)).sub hR (r1.mul hR r2)).sub hR (r2.mul hR r1))
    generalize hv1 : D 5 * i2 = v1 at *
    generalize hv2 : (D 4 - v1 * v1) * i2 = v2 at *
    refine ⟨fun i => if i = 0 then (D 3 - v1 * v2 - v2 * v1) * i2 else if i = 1 then v2 else if i = 2 then v1 else c, rfl, by rw [numLoop_len], fun i h => ?_, fun q => by omega, fun q => by omega, fun _ => ?_⟩
    · generalize hr1 : overR (l.getD 5 (0, 1)) m = r1' at *
      generalize hr2 : overR (subR (l.getD 4 (0, 1)) (mulR r1' r1')) m = r2' at *
      generalize hr3 : overR (subR (subR (l.getD 3 (0, 1)) (mulR r1' r2')) (mulR r2' r1')) m = r3' at *
      have e1 : numLoop l f 1 = [f, r1'] := by
        simp only [numLoop, totR, ll, hm]
        rw [← hr1]; rfl
      have e2 : numLoop l f 2 = [f, r1', r2'] := by
        rw [numLoop, e1]
        simp only [totR, ll, hm]
        rw [← hr2]; rfl
      have e : (numLoop l f 3).reverse = [r3', r2', r1', f] := by
        rw [numLoop, e2]
        simp only [totR, ll, hm]
        rw [← hr3]; rfl
      rw [e]
      match i, h with
      | 0, _ => exact r3
      | 1, _ => exact r2
      | 2, _ => exact r1
      | 3, _ => exact hf
    · simp; refine ⟨?_, ?_, ?_⟩ <;> grind
end
end RR
/-! ### RMain13 -/
/-! The nearest as ratios is the nearest modulo p: joined. -/
namespace RR
open Lean.Grind Ser
section
variable {R : Type} [CommRing R]
theorem ser_mul1 (F G : Ser R) : (F * G) 1 = F 0 * G 1 + F 1 * G 0 := by
  rw [mul_succ_at, mul_zero_at]; rfl
theorem ser_mul2 (F G : Ser R) : (F * G) 2 = F 0 * G 2 + F 1 * G 1 + F 2 * G 0 := by
  rw [mul_succ_at, ser_mul1]
  show _ + (F 1 * G 1 + F 2 * G 0) = _
  grind
theorem ser_mul3 (F G : Ser R) : (F * G) 3 = F 0 * G 3 + F 1 * G 2 + F 2 * G 1 + F 3 * G 0 := by
  rw [mul_succ_at, ser_mul2]
  show _ + (F 1 * G 2 + F 2 * G 1 + F 3 * G 0) = _
  grind
theorem ser_mul4 (F G : Ser R) : (F * G) 4 = F 0 * G 4 + F 1 * G 3 + F 2 * G 2 + F 3 * G 1 + F 4 * G 0 := by
  rw [mul_succ_at, ser_mul3]
  show _ + (F 1 * G 3 + F 2 * G 2 + F 3 * G 1 + F 4 * G 0) = _
  grind
theorem ser_mul5 (F G : Ser R) : (F * G) 5 = F 0 * G 5 + F 1 * G 4 + F 2 * G 3 + F 3 * G 2 + F 4 * G 1 + F 5 * G 0 := by
  rw [mul_succ_at, ser_mul4]
  show _ + (F 1 * G 4 + F 2 * G 3 + F 3 * G 2 + F 4 * G 1 + F 5 * G 0) = _
  grind
end
theorem near_join {p : Int} (hp : Pr p) {l : List (Int × Int)} (ha : Away p l) {f : Int × Int} {side : Int} (hs : 0 < side ∧ side < p) {d : Nat} (hd : d = 1 ∨ d = 2 ∨ d = 3) (ll : l.length = 2 * d + 1)
    (hf : ∀ (R : Type) [CommRing R], Fld R p → Val p f (ic side : R)) (full : (restsM p l).length = 2 * d + 1) (hD : ∀ (R : Type) [CommRing R], Fld R p → S R (restsM p l) (2 * d) = ic side * ic side) :
    Away p (nearR l f) ∧ restsM p (nearR l f) = nearL p (restsM p l) side := by
  obtain ⟨R, _, hR⟩ := fld_of hp
  have s0 : side % p ≠ 0 := by rw [Int.emod_eq_of_lt (by omega) hs.2]; omega
  obtain ⟨F, hF, nl, vals, h1, h2, h3⟩ := num_vals hR hp (fun i hi => rests_val hR hp ha hi) (hf R hR) ⟨side, s0, rfl⟩ hd ll (hD R hR)
  have en : nearR l f = (numLoop l f d).reverse := by unfold nearR; rw [ll, show (2 * d + 1) / 2 = d from by omega]
  have rl : (nearR l f).length = d + 1 := by rw [en, List.length_reverse, nl]
  rw [← en] at vals
  have away : Away p (nearR l f) := fun r hr => by
    obtain ⟨i, hi, e⟩ := List.getElem_of_mem hr
    have := (vals i (by omega)).aw
    rwa [show (nearR l f).getD i (0, 1) = r from by rw [List.getD_eq_getElem?_getD, List.getElem?_eq_getElem hi, ← e]; rfl] at this
  refine ⟨away, ?_⟩
  have top := nearL_top hR hp hs (whole := restsM p l) (half := d) (by omega) (by rw [← hD R hR]; congr 1; omega)
  have at_ : ∀ i, i ≤ d → S R (restsM p (nearR l f)) i = F i := fun i hi => by
    have v1 := rests_val hR hp away (i := i) (by omega)
    have v2 := vals i hi
    exact mul_cancel' hR (v2.ne hR) (v1.eq.symm.trans v2.eq)
  have bd : Bd (S R (restsM p (nearR l f))) (d + 1) := (S_bd _).mono (by have := restsM_len p (nearR l f); omega)
  have bD : Bd (S R (restsM p l)) (2 * d + 1) := (S_bd _).mono (by omega)
  have z : ∀ i, d < i → S R (restsM p (nearR l f)) i = 0 := fun i hi => bd i (by omega)
  have mine : TopSq (S R (restsM p l)) (S R (restsM p (nearR l f))) d (ic side) := by
    refine ⟨bd, by rw [at_ d (Nat.le_refl _), hF], fun j hj => ?_⟩
    obtain ⟨m1, m2⟩ := mul_bd bd bd
    rcases Nat.lt_trichotomy j (2 * d) with q | q | q
    · rcases hd with e | e | e
      · subst e
        have : j = 1 := by omega
        subst this
        rw [ser_mul1, at_ 0 (by omega), at_ 1 (by omega)]
        exact h1 rfl
      · subst e
        have h2 := h2 rfl
        have : j = 2 ∨ j = 3 := by omega
        rcases this with r | r <;> subst r
        · rw [ser_mul2, at_ 0 (by omega), at_ 1 (by omega), at_ 2 (by omega)]; exact h2.1
        · rw [ser_mul3, at_ 0 (by omega), at_ 1 (by omega), at_ 2 (by omega), z 3 (by omega), ← h2.2]; grind
      · subst e
        have h3 := h3 rfl
        have : j = 3 ∨ j = 4 ∨ j = 5 := by omega
        rcases this with r | r | r <;> subst r
        · rw [ser_mul3, at_ 0 (by omega), at_ 1 (by omega), at_ 2 (by omega), at_ 3 (by omega)]; exact h3.1
        · rw [ser_mul4, at_ 0 (by omega), at_ 1 (by omega), at_ 2 (by omega), at_ 3 (by omega), z 4 (by omega), ← h3.2.1]; grind
        · rw [ser_mul5, at_ 0 (by omega), at_ 1 (by omega), at_ 2 (by omega), at_ 3 (by omega), z 4 (by omega), z 5 (by omega), ← h3.2.2]; grind
    · rw [q, show 2 * d = d + d from by omega, m1, at_ d (Nat.le_refl _), hF, show d + d = 2 * d from by omega, hD R hR]
    · rw [m2 j (by omega), bD j (by omega)]
  refine Red.eq hR (restsM_red hp _) (nearL_len hp hs (half := d) (by omega)).1 (mine.uniq hR top (dbl_ne hR (ic_side hR hs)))
end RR
/-! ### RMain14 -/
/-! The chain's own facts, step by step. -/
namespace RR
open Lean.Grind Ser
section
variable {R : Type} [CommRing R]
theorem zero_bd (n : Nat) : Bd (0 : Ser R) n := fun k _ => zero_at k
theorem Bd.mul {f g : Ser R} {a b : Nat} (hf : Bd f a) (hg : Bd g b) : Bd (f * g) (a + b) := by
  cases a with
  | zero => rw [hf.zero, show (0 : Ser R) * g = 0 from by grind]; exact zero_bd _
  | succ a =>
    cases b with
    | zero => rw [hg.zero, show f * (0 : Ser R) = 0 from by grind]; exact zero_bd _
    | succ b => exact (mul_bd hf hg).2.mono (by omega)
theorem Dg.add_bd {f g : Ser R} {n : Nat} (hf : Dg f n) (hg : Bd g n) : Dg (f + g) n :=
  ⟨by rw [add_at, hg n (Nat.le_refl _)]; intro q; exact hf.1 (by grind), hf.2.add (hg.mono (by omega))⟩
theorem bd_neg {f : Ser R} {n : Nat} (h : Bd f n) : Bd (-f) n := fun k hk => by rw [neg_at, h k hk]; grind
theorem Dg.lt {f : Ser R} {n m : Nat} (h : Dg f n) (g : Bd f m) : n < m := by
  rcases Nat.lt_or_ge n m with q | q
  · exact q
  · exact absurd (g n q) h.1
theorem sq_two (D a b c d t : Ser R) : (t * a + c) * (t * a + c) - D * ((t * b + d) * (t * b + d)) = t * t * (a * a - D * (b * b)) + (t + t) * (a * c - D * (b * d)) + (c * c - D * (d * d)) := by grind
theorem sq_one (D a b c d t : Ser R) : (t * a + c) * a - D * ((t * b + d) * b) = t * (a * a - D * (b * b)) + (a * c - D * (b * d)) := by grind
theorem sgn_one (E P Q q t : Ser R) : t * t * -(E * Q) + (t + t) * (E * P) + E * q = -(-E * (q + t * (P - (t * Q - P)))) := by grind
theorem sgn_two (E P Q t : Ser R) : t * -(E * Q) + E * P = -E * (t * Q - P) := by grind
theorem sgn_three (E Q : Ser R) : -(E * Q) = -E * Q := by grind
theorem neg_sq1 {e : R} (h : e * e = 1) : -e * -e = 1 := by grind
theorem one_ne {p : Int} (hR : Fld R p) : (1 : R) ≠ 0 := fun q => by
  have := hR.inj 1 (ic_one.trans q)
  have := hR.pos
  rw [Int.emod_eq_of_lt (by decide) (by omega)] at *
  omega
theorem lin1 {f A ts r y : Ser R} (e1 : f + A = ts + r) (e : y = A - r) : y = ts - f := by grind
structure Base (R : Type) [CommRing R] (p : Int) (D A : List Int) (d : Nat) (c : R) : Prop where
  fld : Fld R p
  pr : Pr p
  hD : Red p D
  hA : Red p A
  d0 : 1 ≤ d
  top : TopSq (S R D) (S R A) d c
  c0 : c ≠ 0
  bD : Bd (S R D) (2 * d + 1)
  al : A.length = d + 1
  nsq : ∀ F : Ser R, Dg F d → S R D ≠ F * F
structure InvX (R : Type) [CommRing R] (p : Int) (D A : List Int) (d : Nat) (c : R) (x : Ch) (q : Ser R) (g : Int) : Prop where
  red : RedC p x
  sn : x.s ≠ []
  sl : x.s.length ≤ d
  mul : S R D - S R x.f * S R x.f = S R x.s * q
  qd : ∃ e, e < d ∧ Dg q e ∧ Bd (S R A - S R x.f) e
  nx : Bd (S R A - S R x.f) (x.s.length - 1)
  sgn : ∃ ε : R, ε * ε = 1 ∧ S R x.a * S R x.a - S R D * (S R x.b * S R x.b) = -(C ε * S R x.s) ∧ S R x.a * S R x.c - S R D * (S R x.b * S R x.d) = C ε * S R x.f ∧ S R x.c * S R x.c - S R D * (S R x.d * S R x.d) = C ε * q
  deg : (x.a.length : Int) - 1 = g
  bn : x.b ≠ []
  ab : x.a.length = x.b.length + d
  ca : x.c.length < x.a.length
  db : x.d.length < x.b.length
  lead : S R x.a (x.a.length - 1) = c * S R x.b (x.b.length - 1)
variable {p : Int} {D A : List Int} {d : Nat} {c : R}
theorem Base.dA (B : Base R p D A d c) : Dg (S R A) d := ⟨by rw [B.top.lead]; exact B.c0, B.top.bd⟩
theorem Base.bR (B : Base R p D A d c) : Bd (S R D - S R A * S R A) d := fun j hj => by rw [sub_at, B.top.top j hj]; grind
/-- degrees of neighbours -/
theorem Base.small (B : Base R p D A d c) {P Qn Qo : Ser R} {e e' : Nat} (h : S R D - P * P = Qn * Qo) (hr : Bd (S R A - P) e) (ho : Dg Qo e) (he : e < d) (hn : Dg Qn e') : e' < d ∧ Bd (S R A - P) e' := by
  have hR := B.fld
  generalize hrr : S R A - P = r at *
  have eP : P = S R A - r := by rw [← hrr]; grind
  have m := hn.mul hR ho
  rw [← h] at m
  have e1 : S R D - P * P = r * (S R A + S R A - r) + (S R D - S R A * S R A) := by rw [eP]; grind
  rcases hr.dg with q | ⟨j, hj, q⟩
  · rw [q] at e1
    rw [show (0 : Ser R) * (S R A + S R A - 0) + (S R D - S R A * S R A) = S R D - S R A * S R A from by grind] at e1
    rw [e1] at m
    have := m.lt B.bR
    exact ⟨by omega, by rw [q]; exact zero_bd _⟩
  · have d2 : Dg (S R A + S R A - r) d := by
      have : Dg (S R A + S R A) d := ⟨by rw [add_at, B.top.lead]; exact dbl_ne hR B.c0, B.top.bd.add B.top.bd⟩
      have := this.add_bd (bd_neg (hr.mono (by omega : e ≤ d)))
      rwa [show S R A + S R A + -r = S R A + S R A - r from by grind] at this
    have m2 := (q.mul hR d2).add_bd (B.bR.mono (by omega : d ≤ j + d))
    rw [← e1] at m2
    have := m.uniq m2
    exact ⟨by omega, q.2.mono (by omega)⟩
theorem InvX.f_dg (B : Base R p D A d c) {x : Ch} {q : Ser R} {g : Int} (h : InvX R p D A d c x q g) : S R x.f d = c ∧ Bd (S R x.f) (d + 1) := by
  obtain ⟨e, he, _, hb⟩ := h.qd
  have e1 : S R x.f = S R A - (S R A - S R x.f) := by grind
  refine ⟨?_, ?_⟩
  · rw [e1, sub_at, hb d (by omega), B.top.lead]; grind
  · rw [e1]; exact B.top.bd.sub (hb.mono (by omega))
theorem inv0 (B : Base R p D A d c) : InvX R p D A d c (ch0 p D A) 1 ((A.length : Int) - 1) := by
  have hR := B.fld
  have eS : S R (ch0 p D A).s = S R D - S R A * S R A := by
    show S R (lessM p D (mulM p A A)) = _
    unfold lessM
    rw [S_sumM hR.p0, S_mulM hR.p0, ic_neg, ic_one, C_neg, show (C (1:R)) = 1 from rfl]; grind
  have rd := ch0_red B.pr B.hD B.hA
  have sn : (ch0 p D A).s ≠ [] := fun q => by
    rw [q, S_nil] at eS
    exact B.nsq _ B.dA (by grind)
  have sd := rd.s.dg hR sn
  have sl : (ch0 p D A).s.length ≤ d := by
    have := sd.lt (by rw [eS]; exact B.bR)
    omega
  have o1 : Dg (1 : Ser R) 0 := ⟨by show (1 : R) ≠ 0; exact one_ne hR, one_bd⟩
  have z : S R A - S R (ch0 p D A).f = 0 := by show S R A - S R A = 0; grind
  have s1 : S R [1] = (1 : Ser R) := by rw [S_cons, S_nil, ic_one, show (C (1:R)) = 1 from rfl]; grind
  refine ⟨rd, sn, sl, by rw [eS]; show S R D - S R A * S R A = _; grind, ⟨0, by have := B.d0; omega, o1, by rw [z]; exact zero_bd _⟩, by rw [z]; exact zero_bd _, ⟨1, by grind, ?_, ?_, ?_⟩, rfl, by simp [ch0], ?_, ?_, ?_, ?_⟩
  · rw [eS, show (C (1:R)) = 1 from rfl]
    show S R A * S R A - S R D * (S R [1] * S R [1]) = _
    rw [s1]; grind
  · rw [show (C (1:R)) = 1 from rfl]
    show S R A * S R [1] - S R D * (S R [1] * S R []) = 1 * S R A
    rw [s1, S_nil]; grind
  · rw [show (C (1:R)) = 1 from rfl]
    show S R [1] * S R [1] - S R D * (S R [] * S R []) = _
    rw [s1, S_nil]; grind
  · show A.length = 1 + d
    rw [B.al]; omega
  · show 1 < A.length
    rw [B.al]; have := B.d0; omega
  · show 0 < 1
    omega
  · show S R A (A.length - 1) = c * S R [1] 0
    rw [s1, show A.length - 1 = d from by rw [B.al]; omega, B.top.lead]
    show c = c * (1 : R)
    grind
theorem Red.len_of {l : List Int} (h : Red p l) (hR : Fld R p) {n : Nat} (g : Dg (S R l) n) : l.length = n + 1 := by
  have hn : l ≠ [] := fun q => by rw [q, S_nil] at g; exact g.1 (zero_at n)
  have := (h.dg hR hn).uniq g
  have := List.length_pos_iff.mpr hn
  omega
theorem InvX.step (B : Base R p D A d c) {x : Ch} {q : Ser R} {g : Int} (h : InvX R p D A d c x q g) :
    InvX R p D A d c (stepC p D A x) (S R x.s) (g + (partC p A x).length - 1) ∧ (partC p A x).length = d + 2 - x.s.length ∧ S R x.f + S R A = S R (partC p A x) * S R x.s + (S R A - S R (stepC p D A x).f) := by
  have hR := B.fld
  have hp := B.pr
  have rd := h.red
  obtain ⟨f1, f2⟩ := h.f_dg B
  obtain ⟨e1, a1, a2, a3, a4⟩ := partsM_spec hR hp (sumM_red hp.pos.1 (t := 1) (b := A) rd.f.1) rd.s h.sn
  have eP' : S R (stepC p D A x).f = S R A - S R (restC p A x) := by
    show S R (lessM p A (restC p A x)) = _
    unfold lessM
    rw [S_sumM hR.p0, ic_neg, ic_one, C_neg, show (C (1:R)) = 1 from rfl]; grind
  rw [S_sumM hR.p0, ic_one, show (C (1:R)) = 1 from rfl] at e1
  have e1 : S R x.f + S R A = S R (partC p A x) * S R x.s + S R (restC p A x) := by
    show _ = S R (partsM p (sumM p 1 x.f A) x.s).1 * S R x.s + S R (partsM p (sumM p 1 x.f A) x.s).2
    rw [← e1]; grind
  have bt : Bd (S R (partC p A x)) (partC p A x).length := S_bd _
  have rt : Red p (partC p A x) := a1
  have br : Bd (S R (restC p A x)) (x.s.length - 1) := (S_bd _).mono (by show (partsM p (sumM p 1 x.f A) x.s).2.length ≤ _; omega)
  have sd := rd.s.dg hR h.sn
  have spos := List.length_pos_iff.mpr h.sn
  have sl := h.sl
  -- the part's length
  have dPA : Dg (S R x.f + S R A) d := ⟨by rw [add_at, f1, B.top.lead]; exact dbl_ne hR B.c0, f2.add B.top.bd⟩
  have plen : (partC p A x).length = d + 2 - x.s.length ∧ Dg (S R (partC p A x)) (d + 1 - x.s.length) := by
    rcases bt.dg with z | ⟨j, hj, z⟩
    · rw [z, show (0 : Ser R) * S R x.s + S R (restC p A x) = S R (restC p A x) from by grind] at e1
      rw [e1] at dPA
      have := dPA.lt br
      omega
    · have := (z.mul hR sd).add_bd (br.mono (by omega : x.s.length - 1 ≤ j + (x.s.length - 1)))
      rw [← e1] at this
      have := dPA.uniq this
      have l := rt.len_of hR z
      refine ⟨by omega, ?_⟩
      rwa [show d + 1 - x.s.length = j from by omega]
  obtain ⟨plen, dt⟩ := plen
  have bpt := dt.2
  have drest : S R A - S R (stepC p D A x).f = S R (restC p A x) := by rw [eP']; grind
  -- the next second
  obtain ⟨e2, b1, b2, b3, b4⟩ := partsM_spec hR hp (sumM_red hp.pos.1 (t := -1) (b := mulM p (fstC p A x) (fstC p A x)) B.hD.1) rd.s h.sn
  rw [S_sumM hR.p0, S_mulM hR.p0, ic_neg, ic_one, C_neg, show (C (1:R)) = 1 from rfl] at e2
  have e2 : S R D - S R (stepC p D A x).f * S R (stepC p D A x).f = S R (stepC p D A x).s * S R x.s + S R (partsM p (lessM p D (mulM p (fstC p A x) (fstC p A x))) x.s).2 := by
    show S R D - S R (fstC p A x) * S R (fstC p A x) = S R (partsM p (sumM p (-1) D (mulM p (fstC p A x) (fstC p A x))) x.s).1 * S R x.s + S R (partsM p (sumM p (-1) D (mulM p (fstC p A x) (fstC p A x))) x.s).2
    rw [← e2]; grind
  have rs' : Red p (stepC p D A x).s := b1
  have br2 : Bd (S R (partsM p (lessM p D (mulM p (fstC p A x) (fstC p A x))) x.s).2) (x.s.length - 1) := (S_bd _).mono (by unfold lessM; omega)
  generalize S R (partsM p (lessM p D (mulM p (fstC p A x) (fstC p A x))) x.s).2 = r2 at *
  have rd' : RedC p (stepC p D A x) := step_red hp B.hD B.hA rd h.sn
  have eA' : S R (stepC p D A x).a = S R (partC p A x) * S R x.a + S R x.c := by
    show S R (sumM p 1 (mulM p (partC p A x) x.a) x.c) = _
    rw [S_sumM hR.p0, S_mulM hR.p0, ic_one, show (C (1:R)) = 1 from rfl]; grind
  have eB' : S R (stepC p D A x).b = S R (partC p A x) * S R x.b + S R x.d := by
    show S R (sumM p 1 (mulM p (partC p A x) x.b) x.d) = _
    rw [S_sumM hR.p0, S_mulM hR.p0, ic_one, show (C (1:R)) = 1 from rfl]; grind
  have ec' : (stepC p D A x).c = x.a := rfl
  have ed' : (stepC p D A x).d = x.b := rfl
  generalize stepC p D A x = y at *
  generalize partC p A x = tl at *
  generalize restC p A x = rl at *
  obtain ⟨e, he, hq, hb⟩ := h.qd
  have mul := h.mul
  have key : S R D - S R y.f * S R y.f = (q + S R tl * (S R x.f - S R y.f)) * S R x.s + 0 := by
    have : S R y.f = S R tl * S R x.s - S R x.f := lin1 e1 eP'
    rw [show S R D - S R y.f * S R y.f = (S R D - S R x.f * S R x.f) + (S R x.f - S R y.f) * (S R x.f + S R y.f) from by grind, mul]
    rw [show S R x.f + S R y.f = S R tl * S R x.s from by rw [this]; grind]
    grind
  have by' : Bd (S R y.f) (d + 1) := by rw [eP']; exact B.top.bd.sub (br.mono (by omega))
  have bq2 : Bd (q + S R tl * (S R x.f - S R y.f)) (e + 1 + tl.length + (d + 1)) := (hq.2.mono (by omega)).add ((bt.mul (f2.sub by')).mono (by omega))
  obtain ⟨u1, u2⟩ := div_uniq hR sd br2 (zero_bd _) ((S_bd y.s).mono (Nat.le_max_left _ (e + 1 + tl.length + (d + 1)))) (bq2.mono (Nat.le_max_right _ _)) (e2.symm.trans key)
  have mul' : S R D - S R y.f * S R y.f = S R y.s * S R x.s := by rw [e2, u2]; grind
  have br' : Bd (S R A - S R y.f) (x.s.length - 1) := by rw [drest]; exact br
  have sn' : y.s ≠ [] := fun z => by
    rw [z, S_nil] at mul'
    refine B.nsq (S R y.f) ?_ (by grind)
    have := B.dA.add_bd (bd_neg (br'.mono (by omega : x.s.length - 1 ≤ d)))
    rwa [show S R A + -(S R A - S R y.f) = S R y.f from by grind] at this
  have sd' := rs'.dg hR sn'
  obtain ⟨sm1, sm2⟩ := B.small mul' br' sd (by omega) sd'
  have spos' := List.length_pos_iff.mpr sn'
  have ab := h.ab
  have ca := h.ca
  have db := h.db
  have an : x.a ≠ [] := fun z => by rw [z] at ca; simp at ca
  have da := rd.a.dg hR an
  have dbb := rd.b.dg hR h.bn
  have bpos := List.length_pos_iff.mpr h.bn
  have mA := dt.mul hR da
  have mB := dt.mul hR dbb
  have dA' := mA.add_bd ((S_bd x.c).mono (by omega : x.c.length ≤ d + 1 - x.s.length + (x.a.length - 1)))
  have dB' := mB.add_bd ((S_bd x.d).mono (by omega : x.d.length ≤ d + 1 - x.s.length + (x.b.length - 1)))
  rw [← eA'] at dA'
  rw [← eB'] at dB'
  have lA := rd'.a.len_of hR dA'
  have lB := rd'.b.len_of hR dB'
  refine ⟨⟨rd', sn', by omega, mul', ⟨x.s.length - 1, by omega, sd, br'⟩, sm2, ?_, ?_, ?_, ?_, ?_, ?_, ?_⟩, plen, by rw [drest]; exact e1⟩
  · obtain ⟨ε, g1, g2, g3, g4⟩ := h.sgn
    have ey : S R y.f = S R tl * S R x.s - S R x.f := lin1 e1 eP'
    refine ⟨-ε, neg_sq1 g1, ?_, ?_, ?_⟩
    · rw [eA', eB', u1, C_neg, ey, sq_two, g2, g3, g4]
      exact sgn_one _ _ _ _ _
    · rw [eA', eB', ec', ed', C_neg, ey, sq_one, g2, g3]
      exact sgn_two _ _ _ _
    · rw [ec', ed', g2, C_neg]
      exact sgn_three _ _
  · have := h.deg
    omega
  · exact fun z => by rw [z] at lB; simp at lB
  · omega
  · rw [ec']; omega
  · rw [ed']; omega
  · rw [lA, lB, eA', eB', Nat.add_sub_cancel, Nat.add_sub_cancel, add_at, add_at, (S_bd x.c) _ (by omega), (S_bd x.d) _ (by omega), (mul_bd dt.2 da.2).1, (mul_bd dt.2 dbb.2).1, h.lead]
    grind
/-- the last second, or 1 -/
def qq (R : Type) [CommRing R] (p : Int) (D A : List Int) : Nat → Ser R
  | 0 => 1
  | k + 1 => S R (chain p D A k).s
theorem inv_all (B : Base R p D A d c) : ∀ k, InvX R p D A d c (chain p D A k) (qq R p D A k) (degC p D A k)
  | 0 => inv0 B
  | k + 1 => ((inv_all B k).step B).1
end
end RR
/-! ### RMain15 -/
/-! The chain's states do not come twice before it ends. -/
namespace RR
open Lean.Grind Ser
section
variable {R : Type} [CommRing R] {p : Int} {D A : List Int} {d : Nat} {c : R}
theorem C_bd (c : R) : Bd (C c) 1 := fun k hk => by
  cases k with
  | zero => omega
  | succ k => exact C_succ c k
theorem mul_left_cancel' {f g h : Ser R} {a b : Nat} (hR : Fld R p) (h0 : f ≠ 0) (hf : Bd f a) (hg : Bd (g - h) b) (e : f * g = f * h) : g = h := by
  rcases Ser.dom hR hf hg (by grind : f * (g - h) = 0) with q | q
  · exact absurd q h0
  · grind
theorem C_ne {u : R} (h : u ≠ 0) : (C u : Ser R) ≠ 0 := fun q => h (by have := congrFun q 0; rwa [C_zero, zero_at] at this)
theorem C_cancel {u : R} (hR : Fld R p) (h : u ≠ 0) {f g : Ser R} {n : Nat} (b : Bd (f - g) n) (e : C u * f = C u * g) : f = g := mul_left_cancel' hR (C_ne h) (C_bd u) b e
/-- the same but for a number -/
structure Same (f g : Ser R) : Prop where
  ex : ∃ u v : R, u ≠ 0 ∧ v ≠ 0 ∧ C u * f = C v * g
theorem Dg.ne {f : Ser R} {n : Nat} (h : Dg f n) : f ≠ 0 := fun q => h.1 (by rw [q]; exact zero_at n)
theorem Same.dg (hR : Fld R p) {f g : Ser R} {m n : Nat} (h : Same f g) (hf : Dg f m) (hg : Dg g n) : m = n := by
  obtain ⟨u, v, hu, hv, e⟩ := h.ex
  have cu : ∀ {u : R}, u ≠ 0 → Dg (C u : Ser R) 0 := fun h => ⟨h, C_bd _⟩
  have d1 := (cu hu).mul hR hf
  have d2 := (cu hv).mul hR hg
  rw [e] at d1
  have := d1.uniq d2
  omega
theorem Base.sdg (B : Base R p D A d c) (k : Nat) : Dg (S R (chain p D A k).s) ((chain p D A k).s.length - 1) := (inv_all B k).red.s.dg B.fld (inv_all B k).sn
structure St (R : Type) [CommRing R] (p : Int) (D A : List Int) (i j : Nat) : Prop where
  s : Same (S R (chain p D A i).s) (S R (chain p D A j).s)
  f : S R (chain p D A i).f = S R (chain p D A j).f
/-- one step back -/
theorem St.back (B : Base R p D A d c) {i j : Nat} (h : St R p D A (i + 1) (j + 1)) : St R p D A i j := by
  have hR := B.fld
  have m1 := (inv_all B (i + 1)).mul
  have m2 := (inv_all B (j + 1)).mul
  obtain ⟨u, v, hu, hv, e⟩ := h.s.ex
  have q1 : qq R p D A (i + 1) = S R (chain p D A i).s := rfl
  have q2 : qq R p D A (j + 1) = S R (chain p D A j).s := rfl
  rw [q1] at m1
  rw [q2, ← h.f, m1] at m2
  have d1 := B.sdg i
  have d2 := B.sdg j
  have d3 := B.sdg (j + 1)
  have n1 := (inv_all B i).nx
  have n2 := (inv_all B j).nx
  have s1 := ((inv_all B i).step B).2.2
  have s2 := ((inv_all B j).step B).2.2
  have f12 := h.f
  change S R (chain p D A i).f + S R A = S R (partC p A (chain p D A i)) * S R (chain p D A i).s + (S R A - S R (chain p D A (i+1)).f) at s1
  change S R (chain p D A j).f + S R A = S R (partC p A (chain p D A j)) * S R (chain p D A j).s + (S R A - S R (chain p D A (j+1)).f) at s2
  have bt1 : Bd (S R (partC p A (chain p D A i))) (partC p A (chain p D A i)).length := S_bd _
  have bt2 : Bd (S R (partC p A (chain p D A j))) (partC p A (chain p D A j)).length := S_bd _
  generalize S R (partC p A (chain p D A i)) = t1 at *
  generalize S R (partC p A (chain p D A j)) = t2 at *
  generalize (partC p A (chain p D A i)).length = l1 at *
  generalize (partC p A (chain p D A j)).length = l2 at *
  generalize S R (chain p D A (i + 1)).s = Q1 at *
  generalize S R (chain p D A (j + 1)).s = Q2 at *
  generalize S R (chain p D A (i + 1)).f = P1 at *
  generalize S R (chain p D A (j + 1)).f = P2 at *
  have bb : Bd (C v * S R (chain p D A i).s - C u * S R (chain p D A j).s) (1 + (chain p D A i).s.length + (1 + (chain p D A j).s.length)) :=
    (((C_bd v).mul (S_bd _)).mono (by omega)).sub (((C_bd u).mul (S_bd _)).mono (by omega))
  have e2 : C v * S R (chain p D A i).s = C u * S R (chain p D A j).s := by
    refine mul_left_cancel' hR d3.ne d3.2 bb ?_
    rw [show Q2 * (C v * S R (chain p D A i).s) = (C v * Q2) * S R (chain p D A i).s from by grind, ← e]
    rw [show C u * Q1 * S R (chain p D A i).s = C u * (Q1 * S R (chain p D A i).s) from by grind, m2]
    grind
  have same : Same (S R (chain p D A i).s) (S R (chain p D A j).s) := ⟨v, u, hv, hu, e2⟩
  refine ⟨same, ?_⟩
  have el := same.dg hR d1 d2
  rw [← el] at n2
  have bu : ∀ {f : Ser R} {n : Nat} (u : R), Bd f n → Bd (C u * f) n := fun u h => h.smul u
  have key : (C u * t1) * S R (chain p D A i).s + (C u * (S R A - S R (chain p D A i).f)) = (C v * t2) * S R (chain p D A i).s + (C u * (S R A - S R (chain p D A j).f)) := by
    have a1 : S R A - S R (chain p D A i).f = S R A + P1 - t1 * S R (chain p D A i).s := by grind
    have a2 : S R A - S R (chain p D A j).f = S R A + P2 - t2 * S R (chain p D A j).s := by grind
    rw [a1, a2, f12]
    have a3 : C v * t2 * S R (chain p D A i).s = t2 * (C u * S R (chain p D A j).s) := by rw [← e2]; grind
    rw [a3]
    grind
  obtain ⟨_, u2⟩ := div_uniq hR d1 (bu u n1) (bu u n2) ((bu u bt1).mono (Nat.le_max_left _ l2)) ((bu v bt2).mono (Nat.le_max_right _ _)) key
  have := C_cancel hR hu (n1.sub n2) u2
  grind
theorem St.down (B : Base R p D A d c) : ∀ {i j : Nat}, St R p D A i (i + j) → St R p D A 0 j
  | 0, j, h => by rwa [Nat.zero_add] at h
  | i + 1, j, h => by
    rw [show i + 1 + j = (i + j) + 1 from by omega] at h
    exact (h.back B).down B
/-- twice the same: the chain has ended before -/
theorem St.ended (B : Base R p D A d c) {i j : Nat} (h : St R p D A i (i + (j + 1))) : (chain p D A j).s.length = 1 := by
  have hR := B.fld
  have h0 := h.down B
  have m1 := (inv_all B 0).mul
  have m2 := (inv_all B (j + 1)).mul
  obtain ⟨u, v, hu, hv, e⟩ := h0.s.ex
  rw [show qq R p D A 0 = 1 from rfl, h0.f] at m1
  rw [show qq R p D A (j + 1) = S R (chain p D A j).s from rfl, m1] at m2
  have d3 := B.sdg (j + 1)
  have d1 := B.sdg j
  have bb : Bd (C u * S R (chain p D A j).s - C v) (1 + (chain p D A j).s.length) := ((C_bd u).mul (S_bd _)).sub ((C_bd v).mono (by omega))
  have e2 : C u * S R (chain p D A j).s = C v := by
    refine mul_left_cancel' hR d3.ne d3.2 bb ?_
    rw [show S R (chain p D A (j + 1)).s * (C u * S R (chain p D A j).s) = C u * (S R (chain p D A (j + 1)).s * S R (chain p D A j).s) from by grind, ← m2]
    rw [show C u * (S R (chain p D A 0).s * 1) = C u * S R (chain p D A 0).s from by grind, e]
    grind
  have cu : Dg (C u : Ser R) 0 := ⟨hu, C_bd _⟩
  have m := cu.mul hR d1
  rw [e2] at m
  have := m.lt (C_bd v)
  have := List.length_pos_iff.mpr (inv_all B j).sn
  omega
/-- so: none comes twice -/
theorem distinct (B : Base R p D A d c) {m : Nat} (h : ∀ k, k < m → 1 < (chain p D A k).s.length) {i j : Nat} (hi : i < m) (hj : j < m) (hs : St R p D A i j) : i = j := by
  have key : ∀ i j, i < j → j < m → St R p D A i j → False := fun i j h1 h2 hs => by
    obtain ⟨k, rfl⟩ : ∃ k, j = i + (k + 1) := ⟨j - i - 1, by omega⟩
    have := hs.ended B
    have := h k (by omega)
    omega
  rcases Nat.lt_trichotomy i j with q | q | q
  · exact (key i j q hj hs).elim
  · exact q
  · refine (key j i q hi ⟨⟨?_⟩, hs.f.symm⟩).elim
    obtain ⟨u, v, hu, hv, e⟩ := hs.s.ex
    exact ⟨v, u, hv, hu, e.symm⟩
/-! ### a state's code -/
theorem inv_ex (hR : Fld R p) (hp : Pr p) {u : R} (h : u ≠ 0) : ∃ v, v * u = 1 := by
  obtain ⟨k, rfl⟩ := hR.sur u
  exact ⟨ic (inv p k), inv_ic hR hp (ic_mod_ne hR h)⟩
/-- the second, its lead made 1, and the first's rest by it -/
structure Code (R : Type) [CommRing R] (p : Int) (D A : List Int) (k e : Nat) (M F : Ser R) : Prop where
  s : ∃ u : R, u ≠ 0 ∧ S R (chain p D A k).s = C u * M
  le : M e = 1
  bM : Bd M (e + 1)
  bF : Bd F e
  f : ∃ (w : Ser R) (n : Nat), Bd w n ∧ S R (chain p D A k).f = w * M + F
  good : ∃ (z : Ser R) (n : Nat), Bd z n ∧ S R D = z * M + F * F
theorem code_ex (B : Base R p D A d c) (k : Nat) : ∃ M F, Code R p D A k ((chain p D A k).s.length - 1) M F := by
  have hR := B.fld
  have I := inv_all B k
  have d1 := B.sdg k
  obtain ⟨v, hv⟩ := inv_ex hR B.pr d1.1
  obtain ⟨e1, a1, a2, a3, a4⟩ := partsM_spec hR B.pr I.red.f I.red.s I.sn
  have mul := I.mul
  obtain ⟨e, he, hq, _⟩ := I.qd
  have spos := List.length_pos_iff.mpr I.sn
  generalize hu : S R (chain p D A k).s ((chain p D A k).s.length - 1) = u at *
  have u0 : u ≠ 0 := fun q => d1.1 (by rw [hu, q])
  have eQ : S R (chain p D A k).s = C u * (C v * S R (chain p D A k).s) := by
    rw [show C u * (C v * S R (chain p D A k).s) = (C v * C u) * S R (chain p D A k).s from by grind, ← C_times, hv, show (C (1:R)) = 1 from rfl]; grind
  have bt := S_bd (R := R) (partsM p (chain p D A k).f (chain p D A k).s).1
  have br : Bd (S R (partsM p (chain p D A k).f (chain p D A k).s).2) ((chain p D A k).s.length - 1) := (S_bd _).mono (by omega)
  generalize (partsM p (chain p D A k).f (chain p D A k).s).1.length = tn at *
  generalize S R (partsM p (chain p D A k).f (chain p D A k).s).1 = t at *
  generalize S R (partsM p (chain p D A k).f (chain p D A k).s).2 = r at *
  have bM : Bd (C v * S R (chain p D A k).s) ((chain p D A k).s.length - 1 + 1) := d1.2.smul v
  refine ⟨C v * S R (chain p D A k).s, r, ⟨u, u0, eQ⟩, by rw [C_mul, hu, hv], bM, br, ⟨t * C u, tn + 1, bt.mul (C_bd u), ?_⟩, ⟨C u * qq R p D A k + (t * C u) * r + (t * C u) * r + (t * C u) * (t * C u) * (C v * S R (chain p D A k).s), (e + 1) + (tn + 1 + ((chain p D A k).s.length - 1)) + ((tn + 1) + (tn + 1) + ((chain p D A k).s.length - 1 + 1)), ?_, ?_⟩⟩
  · rw [e1]
    conv => lhs; rw [eQ]
    grind
  · have btu := bt.mul (C_bd u)
    exact (((((hq.2.smul u)).mono (by omega)).add ((btu.mul br).mono (by omega))).add ((btu.mul br).mono (by omega))).add (((btu.mul btu).mul bM).mono (by omega))
  · have g1 : S R (chain p D A k).f = (t * C u) * (C v * S R (chain p D A k).s) + r := by
      rw [e1]
      conv => lhs; rw [eQ]
      grind
    have g2 : S R D = S R (chain p D A k).s * qq R p D A k + S R (chain p D A k).f * S R (chain p D A k).f := by rw [← mul]; grind
    rw [g2, g1]
    conv => lhs; arg 1; rw [eQ]
    generalize C v * S R (chain p D A k).s = M
    grind
/-- the same code, the same state -/
theorem Code.same (B : Base R p D A d c) {i j : Nat} {M F : Ser R} (h : Code R p D A i ((chain p D A i).s.length - 1) M F) (g : Code R p D A j ((chain p D A j).s.length - 1) M F) : St R p D A i j := by
  have hR := B.fld
  obtain ⟨u, hu, e1⟩ := h.s
  obtain ⟨v, hv, e2⟩ := g.s
  obtain ⟨w1, n1, bw1, f1⟩ := h.f
  obtain ⟨w2, n2, bw2, f2⟩ := g.f
  have same : Same (S R (chain p D A i).s) (S R (chain p D A j).s) := ⟨v, u, hv, hu, by rw [e1, e2]; grind⟩
  have el := same.dg hR (B.sdg i) (B.sdg j)
  have x1 := (inv_all B i).nx
  have x2 := (inv_all B j).nx
  rw [← el] at x2
  have dM : Dg M ((chain p D A i).s.length - 1) := ⟨by rw [h.le]; exact one_ne hR, h.bM⟩
  refine ⟨same, ?_⟩
  have key : w1 * M + (S R A - S R (chain p D A i).f) = w2 * M + (S R A - S R (chain p D A j).f) := by rw [f1, f2]; grind
  obtain ⟨_, q⟩ := div_uniq hR dM x1 x2 (bw1.mono (Nat.le_max_left _ n2)) (bw2.mono (Nat.le_max_right _ _)) key
  grind
end
end RR
/-! ### RMain16 -/
/-! Counting. -/
namespace RR
open Lean.Grind Ser
theorem nodup_le {α : Type} [DecidableEq α] : ∀ (L G : List α), L.Nodup → (∀ x ∈ L, x ∈ G) → L.length ≤ G.length
  | [], _, _, _ => by simp
  | x :: L, G, h, g => by
    have hx := g x List.mem_cons_self
    have h2 := List.nodup_cons.mp h
    have := nodup_le L (G.erase x) h2.2 fun y hy => by
      have ne : y ≠ x := fun q => h2.1 (q ▸ hy)
      exact (List.mem_erase_of_ne ne).mpr (g y (List.mem_cons_of_mem _ hy))
    rw [List.length_erase_of_mem hx] at this
    have := List.length_pos_of_mem hx
    rw [List.length_cons]
    omega
def sumTo (b : Nat → Nat) : Nat → Nat
  | 0 => 0
  | n + 1 => sumTo b n + b n
theorem keys_le {α : Type} (b : Nat → Nat) : ∀ (n : Nat) (L : List (Nat × α)), (∀ x ∈ L, x.1 < n) → (∀ q, q < n → (L.filter (fun x => x.1 == q)).length ≤ b q) → L.length ≤ sumTo b n
  | 0, L, h, _ => by
    cases L with
    | nil => simp
    | cons x L => exact absurd (h x List.mem_cons_self) (Nat.not_lt_zero _)
  | n + 1, L, h, g => by
    have e := List.length_eq_countP_add_countP (fun x : Nat × α => x.1 == n) (l := L)
    rw [List.countP_eq_length_filter, List.countP_eq_length_filter] at e
    have ih := keys_le b n (L.filter fun x => decide ¬(x.1 == n) = true) (fun x hx => by
      obtain ⟨h1, h2⟩ := List.mem_filter.mp hx
      have := h x h1
      simp at h2
      omega) (fun q hq => Nat.le_trans (List.Sublist.length_le (List.filter_sublist.filter _)) (g q (by omega)))
    have := g n (by omega)
    rw [sumTo]
    omega
theorem fib_le {α : Type} [DecidableEq α] {L : List (Nat × α)} (hn : L.Nodup) (q : Nat) (V : List α) (h : ∀ y, (q, y) ∈ L → y ∈ V) : (L.filter (fun x => x.1 == q)).length ≤ V.length := by
  have := nodup_le (L.filter (fun x => x.1 == q)) (V.map fun y => (q, y)) (hn.filter _) fun x hx => by
    obtain ⟨h1, h2⟩ := List.mem_filter.mp hx
    obtain ⟨a, y⟩ := x
    have e : a = q := by simpa using h2
    subst e
    exact List.mem_map.mpr ⟨y, h y h1, rfl⟩
  rwa [List.length_map] at this
theorem map_nodup {α : Type} {I : List Nat} (hI : I.Nodup) {f : Nat → α} (h : ∀ i ∈ I, ∀ j ∈ I, f i = f j → i = j) : (I.map f).Nodup := by
  unfold List.Nodup at *
  rw [List.pairwise_map]
  exact List.Pairwise.imp_of_mem (fun {a b} ha hb ne q => ne (h a ha b hb q)) hI
theorem sumTo_const (b n : Nat) : sumTo (fun _ => b) n = n * b := by
  induction n with
  | zero => simp [sumTo]
  | succ n ih => rw [sumTo, ih, Nat.succ_mul]
theorem sumTo_mono {a b : Nat → Nat} : ∀ n, (∀ q, q < n → a q ≤ b q) → sumTo a n ≤ sumTo b n
  | 0, _ => Nat.le_refl _
  | n + 1, h => by
    rw [sumTo, sumTo]
    have := sumTo_mono n fun q hq => h q (by omega)
    have := h n (by omega)
    omega
/-! ### the tables -/
def rootsN (n t : Nat) : List Nat := (List.range n).filter fun f => f * f % n == t
def tabN (n t : Nat) : Nat := if t = 0 then 1 else if t ^ ((n - 1) / 2) % n == 1 then 2 else 0
theorem tab_ok : ∀ n ∈ [3, 5, 7, 11, 13], ∀ t ∈ List.range n, (rootsN n t).length ≤ tabN n t := by decide +kernel
def cnt2 (n k r1 r0 : Nat) : Nat := sumTo (fun b => tabN n (((b * b + k) * (b * b + k) + r1 * b + r0) % n)) n
def chk2 (n bnd : Nat) : Bool := (List.range n).all fun k => (List.range n).all fun r1 => (List.range n).all fun r0 => (r1 == 0 && r0 == 0) || decide (cnt2 n k r1 r0 ≤ bnd)
/-- p + 1 and twice p's root, less 2 -/
def most (n : Nat) : Nat := if n = 3 then 5 else if n = 5 then 8 else if n = 7 then 11 else if n = 11 then 16 else 19
theorem chk2_ok : ∀ n ∈ [3, 5, 7, 11, 13], chk2 n (most n) = true := by decide +kernel
theorem chk2_at {n bnd k r1 r0 : Nat} (h : chk2 n bnd = true) (hk : k < n) (h1 : r1 < n) (h0 : r0 < n) (z : r1 = 0 → r0 = 0 → False) : cnt2 n k r1 r0 ≤ bnd := by
  have a := List.all_eq_true.mp (List.all_eq_true.mp (List.all_eq_true.mp h k (List.mem_range.mpr hk)) r1 (List.mem_range.mpr h1)) r0 (List.mem_range.mpr h0)
  simp at a
  rcases a with q | q
  · exact (z q.1 q.2).elim
  · exact q
def pairsN (n : Nat) : List (Nat × Nat) := (List.range n).flatMap fun a => (List.range n).map fun b => (a, b)
theorem mem_pairs {n a b : Nat} (ha : a < n) (hb : b < n) : (a, b) ∈ pairsN n := by
  unfold pairsN
  exact List.mem_flatMap.mpr ⟨a, List.mem_range.mpr ha, List.mem_map.mpr ⟨b, List.mem_range.mpr hb, rfl⟩⟩
def sq2 (n q0 q1 t0 t1 : Nat) : List (Nat × Nat) := (pairsN n).filter fun f => (t0 + q0 * (f.2 * f.2)) % n == f.1 * f.1 % n && (t1 + q1 * (f.2 * f.2)) % n == (f.1 * f.2 + f.2 * f.1) % n
def chk3 (n : Nat) : Bool := (List.range n).all fun q0 => (List.range n).all fun q1 => (List.range n).all fun t0 => (List.range n).all fun t1 => decide ((sq2 n q0 q1 t0 t1).length ≤ 5)
theorem chk3_ok : ∀ n ∈ [3, 5], chk3 n = true := by decide +kernel
theorem chk3_at {n q0 q1 t0 t1 : Nat} (h : chk3 n = true) (h0 : q0 < n) (h1 : q1 < n) (h2 : t0 < n) (h3 : t1 < n) : (sq2 n q0 q1 t0 t1).length ≤ 5 := by
  have a := List.all_eq_true.mp (List.all_eq_true.mp (List.all_eq_true.mp (List.all_eq_true.mp h q0 (List.mem_range.mpr h0)) q1 (List.mem_range.mpr h1)) t0 (List.mem_range.mpr h2)) t1 (List.mem_range.mpr h3)
  exact of_decide_eq_true a
theorem tab_two (n t : Nat) : tabN n t ≤ 2 := by
  unfold tabN
  split
  · omega
  · split <;> omega
/-! ### numbers for the field's items -/
section
variable {R : Type} [CommRing R] {n : Nat} (hR : Fld R (n : Int))
include hR
theorem rep_ex : ∃ rep : R → Nat, ∀ r, rep r < n ∧ (ic (rep r : Int) : R) = r := by
  have hp := hR.pos
  have : ∀ r : R, ∃ k : Nat, k < n ∧ (ic (k : Int) : R) = r := fun r => by
    obtain ⟨k, rfl⟩ := hR.sur r
    have h1 := Int.emod_nonneg k (b := (n : Int)) (by omega)
    have h2 := Int.emod_lt_of_pos k (b := (n : Int)) (by omega)
    refine ⟨(k % (n : Int)).toNat, by omega, ?_⟩
    rw [Int.toNat_of_nonneg h1, ic_mod hR.p0]
  exact ⟨fun r => (this r).choose, fun r => (this r).choose_spec⟩
theorem nat_eq {a b : Nat} (h : (ic (a : Int) : R) = ic (b : Int)) : a % n = b % n := by
  have z : (ic ((a : Int) - b) : R) = 0 := by rw [ic_sub, h]; grind
  have := Int.emod_eq_emod_iff_emod_sub_eq_zero.mpr (hR.inj _ z)
  exact_mod_cast this
omit hR in
theorem nc_mul (a b : Nat) : (ic ((a * b : Nat) : Int) : R) = ic (a : Int) * ic (b : Int) := by rw [Int.natCast_mul, ic_mul]
omit hR in
theorem nc_add (a b : Nat) : (ic ((a + b : Nat) : Int) : R) = ic (a : Int) + ic (b : Int) := by rw [Int.natCast_add, ic_add]
end
end RR
/-! ### RMain17 -/
/-! Degree two: as many states as points, at most. -/
namespace RR
open Lean.Grind Ser
section
variable {R : Type} [CommRing R]
theorem eval_two {p : Int} (hR : Fld R p) {D z M F : Ser R} {N : Nat} (bz : Bd z N) (e : D = z * M + F * F) (le : M 1 = 1) (bM : Bd M 2) (bF : Bd F 1) (bD : Bd D 5) :
    F 0 * F 0 = D 0 - M 0 * D 1 + M 0 * M 0 * D 2 - M 0 * M 0 * M 0 * D 3 + M 0 * M 0 * M 0 * M 0 * D 4 := by
  have bFF : Bd (F * F) 1 := (mul_bd bF bF).2
  have dM : Dg M 1 := ⟨by rw [le]; exact one_ne hR, bM⟩
  have z4 : Bd z 4 := by
    rcases bz.dg with q | ⟨j, _, q⟩
    · rw [q]; exact zero_bd _
    · have := q.mul hR dM
      have e2 : z * M = D - F * F := by rw [e]; grind
      rw [e2] at this
      have := this.lt (bD.sub (bFF.mono (by omega)))
      exact q.2.mono (by omega)
  have m2 := bM 2 (by omega)
  have m3 := bM 3 (by omega)
  have m4 := bM 4 (by omega)
  have zz := z4 4 (by omega)
  have e0 : D 0 = z 0 * M 0 + F 0 * F 0 := by conv => lhs; rw [e, add_at, mul_zero_at, mul_zero_at]
  have e1 : D 1 = z 0 * M 1 + z 1 * M 0 := by
    conv => lhs; rw [e, add_at, ser_mul1, bFF 1 (by omega)]
    grind
  have e2 : D 2 = z 0 * M 2 + z 1 * M 1 + z 2 * M 0 := by
    conv => lhs; rw [e, add_at, ser_mul2, bFF 2 (by omega)]
    grind
  have e3 : D 3 = z 0 * M 3 + z 1 * M 2 + z 2 * M 1 + z 3 * M 0 := by
    conv => lhs; rw [e, add_at, ser_mul3, bFF 3 (by omega)]
    grind
  have e4 : D 4 = z 0 * M 4 + z 1 * M 3 + z 2 * M 2 + z 3 * M 1 + z 4 * M 0 := by
    conv => lhs; rw [e, add_at, ser_mul4, bFF 4 (by omega)]
    grind
  rw [m2] at e2 e3 e4
  rw [m3] at e3 e4
  rw [m4, zz] at e4
  rw [le] at e1 e2 e3 e4
  rw [e0, e1, e2, e3, e4]
  grind
theorem alg_two {a0 a1 c q f r0 r1 d0 d1 d2 d3 d4 : R} (h : f * f = d0 - q * d1 + q * q * d2 - q * q * q * d3 + q * q * q * q * d4)
    (e0 : d0 = a0 * a0 + r0) (e1 : d1 = a0 * a1 + a1 * a0 + r1) (e2 : d2 = a0 * c + a1 * a1 + c * a0) (e3 : d3 = a1 * c + c * a1) (e4 : d4 = c * c) :
    f * f = (a0 - q * a1 + q * q * c) * (a0 - q * a1 + q * q * c) + (r0 - q * r1) := by
  rw [h, e0, e1, e2, e3, e4]; grind
theorem alg_two2 {a0 a1 c q v i2 h : R} (hv : v * c = 1) (h2 : i2 * (1 + 1) = 1) (hh : h = a1 * v * i2) :
    (h - q) * (h - q) + (a0 * v - h * h) = (a0 - q * a1 + q * q * c) * v := by
  have e1 : h + h = a1 * v := by rw [hh]; grind
  have e2 : q * q * c * v = q * q := by grind
  have e3 : (h - q) * (h - q) + (a0 * v - h * h) = q * q - (h + h) * q + a0 * v := by grind
  rw [e3, e1]; grind
theorem alg_two3 {a0 a1 c q f r0 r1 v i2 h w : R} (hw : w = a0 - q * a1 + q * q * c) (hf : f * f = w * w + (r0 - q * r1)) (hv : v * c = 1) (h2 : i2 * (1 + 1) = 1) (hh : h = a1 * v * i2) :
    (f * v) * (f * v) = ((h - q) * (h - q) + (a0 * v - h * h)) * ((h - q) * (h - q) + (a0 * v - h * h)) + r1 * (v * v) * (h - q) + (r0 - r1 * h) * (v * v) := by
  rw [alg_two2 hv h2 hh, ← hw]
  have : (f * v) * (f * v) = (f * f) * (v * v) := by grind
  rw [this, hf]; grind
theorem row_two {f g : Ser R} (hf : Bd f 2) (hg : Bd g 2) (h0 : f 0 = g 0) (h1 : f 1 = g 1) : f = g := funext fun n => by
  match n with
  | 0 => exact h0
  | 1 => exact h1
  | n + 2 => rw [hf _ (by omega), hg _ (by omega)]
theorem row_one {f g : Ser R} (hf : Bd f 1) (hg : Bd g 1) (h0 : f 0 = g 0) : f = g := funext fun n => by
  match n with
  | 0 => exact h0
  | n + 1 => rw [hf _ (by omega), hg _ (by omega)]
theorem rep_inj {rep : R → Nat} {n : Nat} (hrep : ∀ r, rep r < n ∧ (ic (rep r : Int) : R) = r) {a b : R} (h : rep a = rep b) : a = b := by
  rw [← (hrep a).2, ← (hrep b).2, h]
theorem count_two {n : Nat} {D A : List Int} {c : R} (B : Base R (n : Int) D A 2 c) (hn : n ∈ [3, 5, 7, 11, 13]) {m : Nat} (h : ∀ k, k < m → 1 < (chain (n : Int) D A k).s.length) : m ≤ most n := by
  have hR := B.fld
  obtain ⟨rep, hrep⟩ := rep_ex hR
  have len : ∀ k, k < m → (chain (n : Int) D A k).s.length - 1 = 1 := fun k hk => by
    have := h k hk
    have := (inv_all B k).sl
    omega
  let M : Nat → Ser R := fun k => (code_ex B k).choose
  let F : Nat → Ser R := fun k => (code_ex B k).choose_spec.choose
  have hC : ∀ k, Code R (n : Int) D A k ((chain (n : Int) D A k).s.length - 1) (M k) (F k) := fun k => (code_ex B k).choose_spec.choose_spec
  generalize M = M at hC
  generalize F = F at hC
  obtain ⟨v, hv⟩ := inv_ex hR B.pr B.c0
  obtain ⟨i2, h2⟩ := inv_ex hR B.pr (two_ne hR)
  generalize hh : S R A 1 * v * i2 = hs
  generalize hr0 : S R D 0 - S R A 0 * S R A 0 = r0
  generalize hr1 : S R D 1 - (S R A 0 * S R A 1 + S R A 1 * S R A 0) = r1
  have v0 : v ≠ 0 := fun q => one_ne hR (by rw [← hv, q]; grind)
  have a2 : S R A 2 = c := B.top.lead
  have a3 : S R A 3 = 0 := B.top.bd 3 (by omega)
  have a4 : S R A 4 = 0 := B.top.bd 4 (by omega)
  have eqn : ∀ k, k < m → (F k 0 * v) * (F k 0 * v) = ((hs - M k 0) * (hs - M k 0) + (S R A 0 * v - hs * hs)) * ((hs - M k 0) * (hs - M k 0) + (S R A 0 * v - hs * hs)) + r1 * (v * v) * (hs - M k 0) + (r0 - r1 * hs) * (v * v) := fun k hk => by
    have hc := hC k
    rw [len k hk] at hc
    obtain ⟨z, N, bz, e⟩ := hc.good
    have ev := eval_two hR bz e hc.le hc.bM hc.bF B.bD
    have t2 := B.top.top 2 (by omega)
    have t3 := B.top.top 3 (by omega)
    have t4 := B.top.top 4 (by omega)
    rw [ser_mul2, a2] at t2
    rw [ser_mul3, a2, a3] at t3
    rw [ser_mul4, a2, a3, a4] at t4
    exact alg_two3 rfl (alg_two ev (by rw [← hr0]; grind) (by rw [← hr1]; grind) t2.symm (by rw [← t3]; grind) (by rw [← t4]; grind)) hv h2 hh.symm
  let code : Nat → Nat × Nat := fun k => (rep (hs - M k 0), rep (F k 0 * v))
  have nd : ((List.range m).map code).Nodup := map_nodup List.nodup_range fun i hi j hj e => by
    have hi := List.mem_range.mp hi
    have hj := List.mem_range.mp hj
    have e1 : hs - M i 0 = hs - M j 0 := rep_inj hrep (congrArg Prod.fst e)
    have e2 : F i 0 * v = F j 0 * v := rep_inj hrep (congrArg Prod.snd e)
    have ci := hC i
    have cj := hC j
    have ci' := ci
    have cj' := cj
    rw [len i hi] at ci'
    rw [len j hj] at cj'
    have eM : M i = M j := row_two ci'.bM cj'.bM (by grind) (by rw [ci'.le, cj'.le])
    have eF : F i = F j := row_one ci'.bF cj'.bF (mul_cancel' hR v0 e2)
    rw [← eM, ← eF] at cj
    exact distinct B h hi hj (ci.same B cj)
  have key := keys_le (fun b => tabN n (((b * b + rep (S R A 0 * v - hs * hs)) * (b * b + rep (S R A 0 * v - hs * hs)) + rep (r1 * (v * v)) * b + rep ((r0 - r1 * hs) * (v * v))) % n)) n ((List.range m).map code) (fun x hx => by
    obtain ⟨i, _, rfl⟩ := List.mem_map.mp hx
    exact (hrep _).1) (fun q hq => by
    refine Nat.le_trans (fib_le nd q (rootsN n (((q * q + rep (S R A 0 * v - hs * hs)) * (q * q + rep (S R A 0 * v - hs * hs)) + rep (r1 * (v * v)) * q + rep ((r0 - r1 * hs) * (v * v))) % n)) fun y hy => ?_) (tab_ok n hn _ (List.mem_range.mpr (Nat.mod_lt _ (by omega))))
    obtain ⟨i, hi, e⟩ := List.mem_map.mp hy
    have hi := List.mem_range.mp hi
    have e1 : rep (hs - M i 0) = q := congrArg Prod.fst e
    have e2 : rep (F i 0 * v) = y := congrArg Prod.snd e
    subst e1
    subst e2
    unfold rootsN
    refine List.mem_filter.mpr ⟨List.mem_range.mpr (hrep _).1, ?_⟩
    refine beq_iff_eq.mpr (nat_eq hR ?_)
    rw [nc_mul, nc_add, nc_add, nc_mul, nc_add, nc_mul, nc_mul, (hrep _).2, (hrep _).2, (hrep _).2, (hrep _).2, (hrep _).2]
    exact eqn i hi)
  rw [List.length_map, List.length_range] at key
  refine Nat.le_trans key (chk2_at (chk2_ok n hn) (hrep _).1 (hrep _).1 (hrep _).1 fun z1 z0 => ?_)
  have q1 : r1 * (v * v) = 0 := by rw [← (hrep (r1 * (v * v))).2, z1]; exact ic_zero
  have q0 : (r0 - r1 * hs) * (v * v) = 0 := by rw [← (hrep ((r0 - r1 * hs) * (v * v))).2, z0]; exact ic_zero
  have vv : v * v ≠ 0 := mul_ne hR v0 v0
  have r10 : r1 = 0 := (hR.dom _ _ q1).resolve_right vv
  have r00 : r0 = 0 := by
    have := (hR.dom _ _ q0).resolve_right vv
    rw [r10] at this
    grind
  refine B.nsq (S R A) B.dA ?_
  have bR := B.bR
  have : S R D - S R A * S R A = 0 := row_two bR (zero_bd _) (by rw [sub_at, mul_zero_at, zero_at]; grind) (by rw [sub_at, ser_mul1, zero_at]; grind)
  grind
end
end RR
/-! ### RMain18 -/
/-! Degree three: how many states there are at most. -/
namespace RR
open Lean.Grind Ser
section
variable {R : Type} [CommRing R]
theorem row_three {f g : Ser R} (hf : Bd f 3) (hg : Bd g 3) (h0 : f 0 = g 0) (h1 : f 1 = g 1) (h2 : f 2 = g 2) : f = g := funext fun n => by
  match n with
  | 0 => exact h0
  | 1 => exact h1
  | 2 => exact h2
  | n + 3 => rw [hf _ (by omega), hg _ (by omega)]
def lenC (n : Nat) (D A : List Int) (k : Nat) : Nat := (chain (n : Int) D A k).s.length
theorem count_one {n d : Nat} {D A : List Int} {c : R} (B : Base R (n : Int) D A d c) (hn : n ∈ [3, 5, 7, 11, 13]) {m : Nat} (h : ∀ k, k < m → 1 < (chain (n : Int) D A k).s.length) :
    ((List.range m).filter fun k => lenC n D A k == 2).length ≤ n * 2 := by
  have hR := B.fld
  obtain ⟨rep, hrep⟩ := rep_ex hR
  let M : Nat → Ser R := fun k => (code_ex B k).choose
  let F : Nat → Ser R := fun k => (code_ex B k).choose_spec.choose
  have hC : ∀ k, Code R (n : Int) D A k ((chain (n : Int) D A k).s.length - 1) (M k) (F k) := fun k => (code_ex B k).choose_spec.choose_spec
  generalize M = M at hC
  generalize F = F at hC
  generalize hI : (List.range m).filter (fun k => lenC n D A k == 2) = I
  have mI : ∀ k ∈ I, k < m ∧ (chain (n : Int) D A k).s.length - 1 = 1 := fun k hk => by
    rw [← hI] at hk
    obtain ⟨h1, h2⟩ := List.mem_filter.mp hk
    have : (chain (n : Int) D A k).s.length = 2 := by simpa [lenC] using h2
    exact ⟨List.mem_range.mp h1, by omega⟩
  have nI : I.Nodup := by rw [← hI]; exact List.nodup_range.filter _
  let code : Nat → Nat × Nat := fun k => (rep (M k 0), rep (F k 0))
  have eqM : ∀ i ∈ I, ∀ j ∈ I, rep (M i 0) = rep (M j 0) → M i = M j := fun i hi j hj e => by
    have ci := hC i
    have cj := hC j
    rw [(mI i hi).2] at ci
    rw [(mI j hj).2] at cj
    exact row_two ci.bM cj.bM (rep_inj hrep e) (by rw [ci.le, cj.le])
  have nd : (I.map code).Nodup := map_nodup nI fun i hi j hj e => by
    have eM := eqM i hi j hj (congrArg Prod.fst e)
    have e2 : F i 0 = F j 0 := rep_inj hrep (congrArg Prod.snd e)
    have ci := hC i
    have cj := hC j
    have ci' := ci
    have cj' := cj
    rw [(mI i hi).2] at ci'
    rw [(mI j hj).2] at cj'
    have eF : F i = F j := row_one ci'.bF cj'.bF e2
    rw [← eM, ← eF] at cj
    exact distinct B h (mI i hi).1 (mI j hj).1 (ci.same B cj)
  have key := keys_le (fun _ => 2) n (I.map code) (fun x hx => by
    obtain ⟨i, _, rfl⟩ := List.mem_map.mp hx
    exact (hrep _).1) (fun q hq => by
    by_cases ex : ∃ i ∈ I, rep (M i 0) = q
    · obtain ⟨i, hi, e⟩ := ex
      have n0 : 0 < n := by omega
      refine Nat.le_trans (fib_le nd q (rootsN n (rep (F i 0) * rep (F i 0) % n)) fun y hy => ?_) (Nat.le_trans (tab_ok n hn _ (List.mem_range.mpr (Nat.mod_lt _ n0))) (tab_two _ _))
      obtain ⟨j, hj, ej⟩ := List.mem_map.mp hy
      have e1 : rep (M j 0) = q := congrArg Prod.fst ej
      have e2 : rep (F j 0) = y := congrArg Prod.snd ej
      subst e2
      have eM := eqM i hi j hj (e.trans e1.symm)
      have ci := hC i
      have cj := hC j
      rw [(mI i hi).2] at ci
      rw [(mI j hj).2] at cj
      obtain ⟨z1, N1, b1, g1⟩ := ci.good
      obtain ⟨z2, N2, b2, g2⟩ := cj.good
      rw [← eM] at g2
      have dM : Dg (M i) 1 := ⟨by rw [ci.le]; exact one_ne hR, ci.bM⟩
      obtain ⟨_, u⟩ := div_uniq hR dM (mul_bd ci.bF ci.bF).2 (mul_bd cj.bF cj.bF).2 (b1.mono (Nat.le_max_left _ N2)) (b2.mono (Nat.le_max_right _ _)) (g1.symm.trans g2)
      have u0 := congrFun u 0
      rw [mul_zero_at, mul_zero_at] at u0
      refine List.mem_filter.mpr ⟨List.mem_range.mpr (hrep _).1, beq_iff_eq.mpr (nat_eq hR ?_)⟩
      rw [nc_mul, nc_mul, (hrep _).2, (hrep _).2]
      exact u0.symm
    · have : (I.map code).filter (fun x => x.1 == q) = [] := List.filter_eq_nil_iff.mpr fun x hx => by
        obtain ⟨i, hi, rfl⟩ := List.mem_map.mp hx
        intro z
        exact ex ⟨i, hi, by simpa using z⟩
      rw [this]; simp)
  rwa [List.length_map, sumTo_const] at key
theorem key_dec {n a b a' b' : Nat} (ha : a < n) (ha' : a' < n) (h : a + n * b = a' + n * b') : a = a' ∧ b = b' := by
  have h1 := congrArg (· % n) h
  simp only [Nat.add_mul_mod_self_left, Nat.mod_eq_of_lt ha, Nat.mod_eq_of_lt ha'] at h1
  refine ⟨h1, ?_⟩
  have : n * b = n * b' := by omega
  exact Nat.eq_of_mul_eq_mul_left (by omega) this
theorem key_lt {n a b : Nat} (ha : a < n) (hb : b < n) : a + n * b < n * n := by
  have := Nat.mul_le_mul_left n (show b + 1 ≤ n from hb)
  rw [Nat.mul_succ] at this
  omega
theorem count_square {n d : Nat} {D A : List Int} {c : R} (B : Base R (n : Int) D A d c) (hn : n ∈ [3, 5]) {m : Nat} (h : ∀ k, k < m → 1 < (chain (n : Int) D A k).s.length) :
    ((List.range m).filter fun k => lenC n D A k == 3).length ≤ n * n * 5 := by
  have hR := B.fld
  obtain ⟨rep, hrep⟩ := rep_ex hR
  let M : Nat → Ser R := fun k => (code_ex B k).choose
  let F : Nat → Ser R := fun k => (code_ex B k).choose_spec.choose
  have hC : ∀ k, Code R (n : Int) D A k ((chain (n : Int) D A k).s.length - 1) (M k) (F k) := fun k => (code_ex B k).choose_spec.choose_spec
  generalize M = M at hC
  generalize F = F at hC
  generalize hI : (List.range m).filter (fun k => lenC n D A k == 3) = I
  have mI : ∀ k ∈ I, k < m ∧ (chain (n : Int) D A k).s.length - 1 = 2 := fun k hk => by
    rw [← hI] at hk
    obtain ⟨h1, h2⟩ := List.mem_filter.mp hk
    have : (chain (n : Int) D A k).s.length = 3 := by simpa [lenC] using h2
    exact ⟨List.mem_range.mp h1, by omega⟩
  have nI : I.Nodup := by rw [← hI]; exact List.nodup_range.filter _
  let code : Nat → Nat × Nat × Nat := fun k => (rep (M k 0) + n * rep (M k 1), rep (F k 0), rep (F k 1))
  have eqM : ∀ i ∈ I, ∀ j ∈ I, rep (M i 0) + n * rep (M i 1) = rep (M j 0) + n * rep (M j 1) → M i = M j := fun i hi j hj e => by
    obtain ⟨e0, e1⟩ := key_dec (hrep _).1 (hrep _).1 e
    have ci := hC i
    have cj := hC j
    rw [(mI i hi).2] at ci
    rw [(mI j hj).2] at cj
    exact row_three ci.bM cj.bM (rep_inj hrep e0) (rep_inj hrep e1) (by rw [ci.le, cj.le])
  have nd : (I.map code).Nodup := map_nodup nI fun i hi j hj e => by
    have eM := eqM i hi j hj (congrArg Prod.fst e)
    have e2 : F i 0 = F j 0 := rep_inj hrep (congrArg (fun x => x.2.1) e)
    have e3 : F i 1 = F j 1 := rep_inj hrep (congrArg (fun x => x.2.2) e)
    have ci := hC i
    have cj := hC j
    have ci' := ci
    have cj' := cj
    rw [(mI i hi).2] at ci'
    rw [(mI j hj).2] at cj'
    have eF : F i = F j := row_two ci'.bF cj'.bF e2 e3
    rw [← eM, ← eF] at cj
    exact distinct B h (mI i hi).1 (mI j hj).1 (ci.same B cj)
  have key := keys_le (fun _ => 5) (n * n) (I.map code) (fun x hx => by
    obtain ⟨i, _, rfl⟩ := List.mem_map.mp hx
    exact key_lt (hrep _).1 (hrep _).1) (fun q hq => by
    by_cases ex : ∃ i ∈ I, rep (M i 0) + n * rep (M i 1) = q
    · obtain ⟨i, hi, e⟩ := ex
      have ci := hC i
      rw [(mI i hi).2] at ci
      obtain ⟨z1, N1, b1, g1⟩ := ci.good
      have dM : Dg (M i) 2 := ⟨by rw [ci.le]; exact one_ne hR, ci.bM⟩
      have tb : ∀ {F : Ser R}, Bd F 2 → Bd (F * F - C (F 1 * F 1) * M i) 2 := fun {F} bF k hk => by
        rw [sub_at, C_mul]
        rcases Nat.eq_or_lt_of_le hk with r | r
        · subst r
          rw [ser_mul2, bF 2 (by omega), ci.le]; grind
        · rw [(mul_bd bF bF).2 k (by omega), ci.bM k (by omega)]; grind
      have t0 : ∀ {F : Ser R}, (F * F - C (F 1 * F 1) * M i) 0 = F 0 * F 0 - F 1 * F 1 * M i 0 := fun {F} => by rw [sub_at, C_mul, mul_zero_at]
      have t1 : ∀ {F : Ser R}, (F * F - C (F 1 * F 1) * M i) 1 = F 0 * F 1 + F 1 * F 0 - F 1 * F 1 * M i 1 := fun {F} => by rw [sub_at, C_mul, ser_mul1]
      have r1 : S R D = (z1 + C (F i 1 * F i 1)) * M i + (F i * F i - C (F i 1 * F i 1) * M i) := by rw [g1]; grind
      refine Nat.le_trans (fib_le nd q (sq2 n (rep (M i 0)) (rep (M i 1)) (rep ((F i * F i - C (F i 1 * F i 1) * M i) 0)) (rep ((F i * F i - C (F i 1 * F i 1) * M i) 1))) fun y hy => ?_) (chk3_at (chk3_ok n hn) (hrep _).1 (hrep _).1 (hrep _).1 (hrep _).1)
      obtain ⟨j, hj, ej⟩ := List.mem_map.mp hy
      have e1 : rep (M j 0) + n * rep (M j 1) = q := congrArg Prod.fst ej
      have e2 : (rep (F j 0), rep (F j 1)) = y := congrArg Prod.snd ej
      subst e2
      have eM := eqM i hi j hj (e.trans e1.symm)
      have cj := hC j
      rw [(mI j hj).2] at cj
      obtain ⟨z2, N2, b2, g2⟩ := cj.good
      rw [← eM] at g2
      have r2 : S R D = (z2 + C (F j 1 * F j 1)) * M i + (F j * F j - C (F j 1 * F j 1) * M i) := by rw [g2]; grind
      have bz1 : Bd (z1 + C (F i 1 * F i 1)) (N1 + N2 + 1) := (b1.mono (by omega)).add ((C_bd _).mono (by omega))
      have bz2 : Bd (z2 + C (F j 1 * F j 1)) (N1 + N2 + 1) := (b2.mono (by omega)).add ((C_bd _).mono (by omega))
      obtain ⟨_, u⟩ := div_uniq hR dM (tb ci.bF) (tb cj.bF) bz1 bz2 (r1.symm.trans r2)
      have u0 := congrFun u 0
      have u1 := congrFun u 1
      refine List.mem_filter.mpr ⟨mem_pairs (hrep _).1 (hrep _).1, ?_⟩
      rw [Bool.and_eq_true]
      refine ⟨beq_iff_eq.mpr (nat_eq hR ?_), beq_iff_eq.mpr (nat_eq hR ?_)⟩
      · rw [nc_add, nc_mul, nc_mul, nc_mul]
        simp only
        rw [(hrep _).2, (hrep _).2, (hrep _).2, (hrep _).2, u0, t0]
        grind
      · rw [nc_add, nc_mul, nc_mul, nc_add, nc_mul, nc_mul]
        simp only
        rw [(hrep _).2, (hrep _).2, (hrep _).2, (hrep _).2, u1, t1]
        grind
    · have : (I.map code).filter (fun x => x.1 == q) = [] := List.filter_eq_nil_iff.mpr fun x hx => by
        obtain ⟨i, hi, rfl⟩ := List.mem_map.mp hx
        intro z
        exact ex ⟨i, hi, by simpa using z⟩
      rw [this]; simp)
  rwa [List.length_map, sumTo_const] at key
/-- the degree by the states -/
theorem deg_step {n d : Nat} {D A : List Int} {c : R} (B : Base R (n : Int) D A d c) (k : Nat) : degC (n : Int) D A (k + 1) = degC (n : Int) D A k + (d + 1 - lenC n D A k : Nat) := by
  have := ((inv_all B k).step B).2.1
  have sl := (inv_all B k).sl
  show degC (n : Int) D A k + (partC (n : Int) A (chain (n : Int) D A k)).length - 1 = _
  unfold lenC
  omega
theorem deg_three {n : Nat} {D A : List Int} {c : R} (B : Base R (n : Int) D A 3 c) : ∀ m : Nat, (∀ k, k < m → 1 < (chain (n : Int) D A k).s.length) →
    degC (n : Int) D A m = 3 + 2 * (((List.range m).filter fun k => lenC n D A k == 2).length : Int) + (((List.range m).filter fun k => lenC n D A k == 3).length : Int) ∧
    m = ((List.range m).filter fun k => lenC n D A k == 2).length + ((List.range m).filter fun k => lenC n D A k == 3).length
  | 0, _ => by
    have := B.al
    refine ⟨?_, by simp⟩
    show (A.length : Int) - 1 = _
    simp; omega
  | m + 1, h => by
    obtain ⟨a1, a2⟩ := deg_three B m fun k hk => h k (by omega)
    have l1 := h m (by omega)
    have l2 := (inv_all B m).sl
    have st := deg_step B m
    rw [List.range_succ, List.filter_append, List.filter_append, List.length_append, List.length_append]
    have : lenC n D A m = 2 ∨ lenC n D A m = 3 := by unfold lenC; omega
    rcases this with q | q
    · rw [q] at st
      have f1 : ([m].filter fun k => lenC n D A k == 2) = [m] := by simp [q]
      have f2 : ([m].filter fun k => lenC n D A k == 3) = [] := by simp [q]
      rw [f1, f2, st, a1]
      simp only [List.length_cons, List.length_nil]
      omega
    · rw [q] at st
      have f1 : ([m].filter fun k => lenC n D A k == 2) = [] := by simp [q]
      have f2 : ([m].filter fun k => lenC n D A k == 3) = [m] := by simp [q]
      rw [f1, f2, st, a1]
      simp only [List.length_cons, List.length_nil]
      omega
theorem deg_two {n : Nat} {D A : List Int} {c : R} (B : Base R (n : Int) D A 2 c) : ∀ m : Nat, (∀ k, k < m → 1 < (chain (n : Int) D A k).s.length) → degC (n : Int) D A m = 2 + m
  | 0, _ => by
    have := B.al
    show (A.length : Int) - 1 = _
    omega
  | m + 1, h => by
    have a1 := deg_two B m fun k hk => h k (by omega)
    have l1 := h m (by omega)
    have l2 := (inv_all B m).sl
    have st := deg_step B m
    unfold lenC at st
    omega
end
end RR
/-! ### RMain19 -/
/-! A kept polynomial is no square. -/
namespace RR
open Lean.Grind Ser
section
variable {R : Type} [CommRing R]
def der (f : Ser R) : Ser R := fun n => ic ((n : Int) + 1) * f (n + 1)
theorem der_tl (f : Ser R) : tl (der f) = der (tl f) + tl (tl f) := funext fun n => by
  rw [add_at]
  show ic (((n + 1 : Nat) : Int) + 1) * f (n + 1 + 1) = ic ((n : Int) + 1) * f (n + 1 + 1) + f (n + 1 + 1)
  rw [ic_add, show ((n + 1 : Nat) : Int) = (n : Int) + 1 from by omega, ic_one]
  grind
theorem der_mul_at : ∀ (n : Nat) (f g : Ser R), der (f * g) n = (der f * g) n + (f * der g) n
  | 0, f, g => by
    rw [mul_zero_at, mul_zero_at]
    show ic ((0 : Nat) + 1 : Int) * (f * g) 1 = ic ((0 : Nat) + 1 : Int) * f 1 * g 0 + f 0 * (ic ((0 : Nat) + 1 : Int) * g 1)
    rw [ser_mul1]; grind
  | n + 1, f, g => by
    have ih := der_mul_at n (tl f) g
    have e1 : der (tl f * g) n = ic ((n : Int) + 1) * (tl f * g) (n + 1) := rfl
    have e2 : der (f * g) (n + 1) = ic (((n + 1 : Nat) : Int) + 1) * (f * g) (n + 1 + 1) := rfl
    rw [e1] at ih
    rw [e2, mul_succ_at f g, mul_succ_at (der f) g, mul_succ_at f (der g), der_tl, add_mul', add_at]
    have e3 : der g (n + 1) = ic (((n + 1 : Nat) : Int) + 1) * g (n + 1 + 1) := rfl
    have e4 : der f 0 = tl f 0 := by show ic ((0 : Nat) + 1 : Int) * f 1 = f 1; rw [show ((0 : Nat) + 1 : Int) = 1 from rfl, ic_one]; grind
    have e5 : (tl f * g) (n + 1) = tl f 0 * g (n + 1) + (tl (tl f) * g) n := mul_succ_at _ _ _
    have e6 : (ic (((n + 1 : Nat) : Int) + 1) : R) = ic ((n : Int) + 1) + 1 := by rw [ic_add, show ((n + 1 : Nat) : Int) = (n : Int) + 1 from by omega, ic_one]
    rw [e3, e4, e6]
    rw [e5] at ih ⊢
    grind
theorem der_mul (f g : Ser R) : der (f * g) = der f * g + f * der g := funext fun n => by rw [add_at]; exact der_mul_at n f g
theorem der_bd {f : Ser R} {n : Nat} (h : Bd f n) : Bd (der f) n := fun k hk => by
  show ic ((k : Int) + 1) * f (k + 1) = 0
  rw [h (k + 1) (by omega)]; grind
theorem S_slopeL {p : Int} (hR : Fld R p) (l : List Int) : S R (slopeL p l) = der (S R l) := funext fun n => by
  unfold slopeL
  rw [S_trim, S_at]
  show _ = ic ((n : Int) + 1) * S R l (n + 1)
  rw [S_at, List.getD_eq_getElem?_getD, List.getD_eq_getElem?_getD, List.getElem?_drop, List.getElem?_mapIdx, show 1 + n = n + 1 from by omega]
  by_cases c : n + 1 < l.length
  · rw [List.getElem?_eq_getElem c]
    simp only [Option.map_some, Option.getD_some]
    rw [ic_mod hR.p0, ic_mul, show ((n + 1 : Nat) : Int) = (n : Int) + 1 from by omega]
  · rw [List.getElem?_eq_none (by omega)]
    simp only [Option.map_none, Option.getD_none]
    rw [ic_zero]; grind
/-- it ends -/
def Fb (f : Ser R) : Prop := ∃ n, Bd f n
theorem Fb.mul {f g : Ser R} (h : Fb f) (k : Fb g) : Fb (f * g) := by
  obtain ⟨a, ha⟩ := h
  obtain ⟨b, hb⟩ := k
  exact ⟨_, ha.mul hb⟩
theorem Fb.add {f g : Ser R} (h : Fb f) (k : Fb g) : Fb (f + g) := by
  obtain ⟨a, ha⟩ := h
  obtain ⟨b, hb⟩ := k
  exact ⟨max a b, (ha.mono (by omega)).add (hb.mono (by omega))⟩
theorem Fb.sub {f g : Ser R} (h : Fb f) (k : Fb g) : Fb (f - g) := by
  obtain ⟨a, ha⟩ := h
  obtain ⟨b, hb⟩ := k
  exact ⟨max a b, (ha.mono (by omega)).sub (hb.mono (by omega))⟩
theorem Fb.S (l : List Int) : Fb (S R l) := ⟨_, S_bd l⟩
theorem Fb.C (c : R) : Fb (C c) := ⟨1, C_bd c⟩
variable {p : Int} (hR : Fld R p) (hp : Pr p)
include hR hp
/-- a common divisor divides the common part -/
theorem commonM_div {G : Ser R} : ∀ (n : Nat) (near far : List Int), Red p near → Red p far → (∃ u, Fb u ∧ S R near = u * G) → (∃ v, Fb v ∧ S R far = v * G) → ∃ w, Fb w ∧ S R (commonM p n near far) = w * G
  | 0, near, far, _, _, h, _ => h
  | n + 1, near, far, h1, h2, ⟨u, fu, hu⟩, ⟨v, fv, hv⟩ => by
    rw [commonM]
    split
    · exact ⟨u, fu, hu⟩
    · rename_i c
      obtain ⟨e, a1, a2, a3, _⟩ := partsM_spec hR hp h1 h2 c
      refine commonM_div n far _ h2 a2 ⟨v, fv, hv⟩ ⟨u - S R (partsM p near far).1 * v, fu.sub ((Fb.S _).mul fv), ?_⟩
      rw [hu, hv] at e
      generalize S R (partsM p near far).1 = t at *
      generalize S R (partsM p near far).2 = r at *
      grind
theorem common_one {G : Ser R} {near far : List Int} (h1 : Red p near) (h2 : Red p far) (one : (commonR p near far).length = 1) (hu : ∃ u, Fb u ∧ S R near = u * G) (hv : ∃ v, Fb v ∧ S R far = v * G) {k : Nat} (hG : Dg G k) : k = 0 := by
  obtain ⟨w, ⟨N, fw⟩, e⟩ := commonM_div hR hp (far.length + 1) near far h1 h2 hu hv
  have rd : Red p (commonR p near far) := commonM_red hp _ _ _ h1 h2
  have hn : commonR p near far ≠ [] := fun q => by rw [q] at one; simp at one
  have d := rd.dg hR hn
  have e : S R (commonR p near far) = w * G := e
  rcases fw.dg with q | ⟨j, _, q⟩
  · rw [e, q, show (0 : Ser R) * G = 0 from by grind] at d
    exact absurd rfl d.ne
  · rw [e] at d
    have := d.uniq (q.mul hR hG)
    omega
theorem no_square {D : List Int} (hD : Red p D) (one : (commonR p D (slopeL p D)).length = 1) {F : Ser R} {d : Nat} (d0 : 1 ≤ d) (hF : Dg F d) : S R D ≠ F * F := fun e => by
  have fF : Fb F := ⟨_, hF.2⟩
  have fd : Fb (der F) := ⟨_, der_bd hF.2⟩
  have := common_one hR hp hD (slopeL_red hp D) one ⟨F, fF, e⟩ ⟨der F + der F, fd.add fd, by rw [S_slopeL hR, e, der_mul]; grind⟩ hF
  omega
end
end RR
/-! ### RMain20 -/
/-! The chain ends in time. -/
namespace RR
open Lean.Grind Ser
section
variable {R : Type} [CommRing R]
theorem pr_mem {p : Int} (hp : Pr p) : ∃ n : Nat, p = (n : Int) ∧ n ∈ [3, 5, 7, 11, 13] ∧ (p ≤ 5 → n ∈ [3, 5]) := by
  rcases hp with h | h | h | h | h
  · exact ⟨3, h, by decide, fun _ => by decide⟩
  · exact ⟨5, h, by decide, fun _ => by decide⟩
  · exact ⟨7, h, by decide, fun q => by omega⟩
  · exact ⟨11, h, by decide, fun q => by omega⟩
  · exact ⟨13, h, by decide, fun q => by omega⟩
theorem most_le (n : Nat) : most n ≤ 19 := by
  unfold most
  repeat' split
  all_goals omega
theorem fewS_of {n d : Nat} {D A : List Int} {c : R} (B : Base R (n : Int) D A d c) (hn : n ∈ [3, 5, 7, 11, 13]) (hd : d = 1 ∨ d = 2 ∨ d = 3) (h3 : d = 3 → n ∈ [3, 5]) {m : Nat} (h : ∀ k, k < m → 1 < (chain (n : Int) D A k).s.length) :
    m ≤ 135 ∧ degC (n : Int) D A m ≤ 148 ∧ (d = 2 → degC (n : Int) D A m = 2 + m ∧ m ≤ most n) := by
  rcases hd with q | q | q
  · subst q
    have m0 : m = 0 := by
      rcases Nat.eq_zero_or_pos m with q | q
      · exact q
      · have := h 0 q
        have := (inv_all B 0).sl
        omega
    subst m0
    have := B.al
    refine ⟨by omega, ?_, fun q => by omega⟩
    show (A.length : Int) - 1 ≤ 148
    omega
  · subst q
    have a := count_two B hn h
    have b := deg_two B m h
    have := most_le n
    exact ⟨by omega, by omega, fun _ => ⟨b, a⟩⟩
  · subst q
    have a1 := count_one B hn h
    have a2 := count_square B (h3 rfl) h
    obtain ⟨b1, b2⟩ := deg_three B m h
    have : n = 3 ∨ n = 5 := by simpa using h3 rfl
    refine ⟨?_, ?_, fun q => by omega⟩
    · rcases this with q | q <;> subst q <;> omega
    · rcases this with q | q <;> subst q <;> omega
theorem ends {n d : Nat} {D A : List Int} {c : R} (B : Base R (n : Int) D A d c) (hn : n ∈ [3, 5, 7, 11, 13]) (hd : d = 1 ∨ d = 2 ∨ d = 3) (h3 : d = 3 → n ∈ [3, 5]) :
    ∃ m, (∀ k, k < m → 1 < (chain (n : Int) D A k).s.length) ∧ (chain (n : Int) D A m).s.length = 1 := by
  apply Classical.byContradiction
  intro no
  have all : ∀ m, ∀ k, k < m → 1 < (chain (n : Int) D A k).s.length := fun m => by
    induction m with
    | zero => intro k hk; omega
    | succ m ih =>
      intro k hk
      rcases Nat.lt_or_ge k m with q | q
      · exact ih k q
      · have e : k = m := by omega
        subst e
        have pos := List.length_pos_iff.mpr (inv_all B k).sn
        rcases Nat.lt_or_ge 1 (chain (n : Int) D A k).s.length with r | r
        · exact r
        · exact (no ⟨k, ih, by omega⟩).elim
  have := (fewS_of B hn hd h3 (all 136)).1
  omega
theorem deg_ge {n d : Nat} {D A : List Int} {c : R} (B : Base R (n : Int) D A d c) : ∀ m : Nat, (d : Int) + m ≤ degC (n : Int) D A m
  | 0 => by
    have := B.al
    show _ ≤ (A.length : Int) - 1
    omega
  | m + 1 => by
    have := deg_ge B m
    have st := deg_step B m
    have sl := (inv_all B m).sl
    unfold lenC at st
    omega
theorem bound_ok : ∀ n ∈ [3, 5, 7, 11, 13], ∀ m ∈ List.range (most n + 1), boundedB (2 + (m : Int)) 2 (n : Int) = true := by decide +kernel
end
/-- the numbers of a list's end -/
theorem getLast_at {l : List Int} (h : l ≠ []) : l.getD (l.length - 1) 0 = l.getLastD 0 := by
  obtain ⟨l', x, rfl⟩ := (list_end l).resolve_left h
  simp
theorem end_of {l : List Int} {x : Int} (h : l ≠ []) (e : l.getLastD 0 = x) : ∃ v, l = v ++ [x] := by
  obtain ⟨l', y, rfl⟩ := (list_end l).resolve_left h
  simp only [List.getLastD_concat] at e
  exact ⟨l', by rw [e]⟩
theorem rg_eq {R : Type} [CommRing R] {p : Int} (hR : Fld R p) {a b : Int} (ha : 0 ≤ a ∧ a < p) (hb : 0 ≤ b ∧ b < p) (h : (ic a : R) = ic b) : a = b := by
  have z : (ic (a - b) : R) = 0 := by rw [ic_sub, h]; grind
  obtain ⟨k, hk⟩ := Int.dvd_of_emod_eq_zero (hR.inj _ z)
  have hp := hR.pos
  rcases Int.lt_trichotomy k 0 with q | q | q
  · have : p * k ≤ p * (-1) := Int.mul_le_mul_of_nonneg_left (by omega) (by omega)
    omega
  · rw [q] at hk; omega
  · have : p * 1 ≤ p * k := Int.mul_le_mul_of_nonneg_left (by omega) (by omega)
    omega
theorem numLoop_cons (l : List (Int × Int)) (f : Int × Int) : ∀ k, ∃ t, numLoop l f k = f :: t
  | 0 => ⟨[], rfl⟩
  | k + 1 => by
    obtain ⟨t, e⟩ := numLoop_cons l f k
    exact ⟨t ++ [overR (totR l (numLoop l f k) (k + 1) k) (mulR f (2, 1))], by rw [numLoop]; conv => { lhs; arg 1; rw [e] }; rfl⟩
theorem near_trim {l : List (Int × Int)} {f : Int × Int} (h : f.1 ≠ 0) : trimR (nearR l f) = nearR l f := by
  obtain ⟨t, e⟩ := numLoop_cons l f (l.length / 2)
  unfold nearR
  rw [e, List.reverse_cons, trimR_app h]
section
variable {R : Type} [CommRing R] {p : Int} (hR : Fld R p) (hp : Pr p)
include hR hp
theorem scale {a : List Int} (ha : Red p a) (hn : a ≠ []) {u : Int} (hu : (ic u : R) ≠ 0) : Red p (mulM p a [u]) ∧ (mulM p a [u]).length = a.length ∧ S R (mulM p a [u]) = C (ic u) * S R a ∧ (ic ((mulM p a [u]).getLastD 0) : R) = ic (a.getLastD 0) * ic u := by
  have r := mulM_red hp.pos.1 (p := p) a [u]
  have e : S R (mulM p a [u]) = C (ic u) * S R a := by
    rw [S_mulM hR.p0, S_cons, S_nil]; grind
  have pos := List.length_pos_iff.mpr hn
  have d := (show Dg (C (ic u : R)) 0 from ⟨hu, C_bd _⟩).mul hR (ha.dg hR hn)
  rw [← e] at d
  have l := r.len_of hR d
  refine ⟨r, by omega, e, ?_⟩
  have n2 : mulM p a [u] ≠ [] := fun q => by rw [q] at l; simp at l
  rw [← getLast_at n2, ← S_at, e, C_mul, S_at, show (mulM p a [u]).length - 1 = a.length - 1 from by omega, getLast_at hn]
  grind
end
end RR
/-! ### RMain21 -/
/-! One kept prime's facts: OneRight. -/
namespace RR
open Lean.Grind Ser
theorem oneRight (h1 : SqRight) : OneRight := fun nums side bottom hd p hp hk h7 => by
  have good := hd.good (h1 nums side bottom hd)
  obtain ⟨R, _, hR⟩ := fld_of hp
  obtain ⟨kb, ks, kc⟩ := keeps_parts hk
  obtain ⟨l', el'⟩ := hd.last
  obtain ⟨l2, x, e2, hl2, x0, x1, ex⟩ := full_of hp kb ks el'
  have hlen := hd.len
  obtain ⟨d, hdd, nl⟩ : ∃ d, (d = 1 ∨ d = 2 ∨ d = 3) ∧ nums.length = 2 * d + 1 := by
    rcases hlen with q | q | q
    · exact ⟨1, by omega, by omega⟩
    · exact ⟨2, by omega, by omega⟩
    · exact ⟨3, by omega, by omega⟩
  have walk1 := rests_walk hp hk
  have spos := side_pos hp hk
  have srg : 0 < side * inv p bottom % p ∧ side * inv p bottom % p < p := ⟨spos, (mod_rg hR.pos _).2⟩
  have away := away_of hp (nums := nums) kb
  have keep := hd.keepM hp hk
  obtain ⟨s0, s3, b0, b3, co, sqr⟩ := side_rN hd.sb hd.bb
  have ll : (nums.map fun n => rN n (bottom * bottom)).length = nums.length := List.length_map _
  have rl : (restsL p nums bottom).length = 2 * d + 1 := by
    rw [e2]
    have : l'.length + 1 = nums.length := by rw [el']; simp
    simp only [List.length_append, List.length_singleton]
    omega
  have hf : ∀ (R : Type) [CommRing R], Fld R p → Val p ((rN side bottom).1, (rN side bottom).2) (ic (side * inv p bottom % p) : R) := fun R _ hR => by
    refine rN_val hR (ic_ne hR kb) ?_
    rw [ic_mod hR.p0, ic_mul]
    have := inv_ic hR hp kb
    grind
  have hD : ∀ (R : Type) [CommRing R], Fld R p → S R (restsM p (nums.map fun n => rN n (bottom * bottom))) (2 * d) = ic (side * inv p bottom % p) * ic (side * inv p bottom % p) := fun R _ hR => by
    have lx : l2.length = 2 * d := by rw [e2] at rl; simp at rl; omega
    rw [walk1, S_at, e2, List.getD_eq_getElem?_getD, List.getElem?_append_right (by omega), lx, Nat.sub_self]
    show (ic x : R) = _
    rw [ex, ic_mod hR.p0, ic_mod hR.p0, ic_mul, ic_mul, ic_mul, ic_mul]
    grind
  obtain ⟨away2, near⟩ := near_join hp away srg hdd (by omega) hf (by rw [walk1]; exact rl) hD
  generalize hsb : (rN side bottom).1 = s at *
  generalize hbb : (rN side bottom).2 = b at *
  generalize hlr : (nums.map fun n => rN n (bottom * bottom)) = l at *
  have rD := restsM_red hp l
  have rA := restsM_red hp (nearR l (s, b))
  have nlen := nearL_len hp srg (whole := restsM p l) (half := d) (by rw [walk1]; omega)
  have top : TopSq (S R (restsM p l)) (S R (restsM p (nearR l (s, b)))) d (ic (side * inv p bottom % p)) := by
    rw [near]
    exact nearL_top hR hp srg (by rw [walk1]; omega) (by rw [show d + d = 2 * d from by omega]; exact hD R hR)
  have al : (restsM p (nearR l (s, b))).length = d + 1 := by
    rw [near]
    obtain ⟨v, e, hv⟩ := nlen.2
    rw [e]; simp [hv]
  have c0 := ic_side hR srg
  have near2 : restsM p (trimR (nearR l (s, b))) = restsM p (nearR l (s, b)) := by rw [near_trim (by show s ≠ 0; omega)]
  have lastA0 : (ic ((restsM p (nearR l (s, b))).getLastD 0) : R) = ic (side * inv p bottom % p) := by
    have an : restsM p (nearR l (s, b)) ≠ [] := fun q => by rw [q] at al; simp at al
    rw [← getLast_at an, ← S_at, al, Nat.add_sub_cancel]
    exact top.lead
  have dlen : (restsM p l).length = 2 * d + 1 := by rw [walk1]; exact rl
  have nsq : ∀ F : Ser R, Dg F d → S R (restsM p l) ≠ F * F := fun F hF => by
    rw [walk1]
    exact no_square hR hp (restsL_red hp nums bottom) kc (by omega) hF
  have lld : l.length / 2 = d := by omega
  have walk2 : restsM p (nearR l (s, b)) = nearL p (restsL p nums bottom) (side * inv p bottom % p) := by rw [near, walk1]
  generalize hA : restsM p (nearR l (s, b)) = A at *
  generalize hDD : restsM p l = D at *
  have B : Base R p D A d (ic (side * inv p bottom % p)) := ⟨hR, hp, rD, rA, by omega, top, c0, (S_bd D).mono (by omega), al, nsq⟩
  obtain ⟨n, pn, hn, hn3⟩ := pr_mem hp
  have h3 : d = 3 → n ∈ [3, 5] := fun q => hn3 (h7 (by omega))
  have B2 : Base R (n : Int) D A d (ic (side * inv p bottom % p)) := pn ▸ B
  obtain ⟨m, long, fin⟩ := ends B2 hn hdd h3
  obtain ⟨few, dsmall, dtwo⟩ := fewS_of B2 hn hdd h3 long
  have dge := deg_ge B2 m
  have lens : ∀ k, k ≤ m → (chain p D A k).a.length ≤ 149 ∧ (chain p D A k).b.length ≤ 149 ∧ (chain p D A k).c.length ≤ 149 ∧ (chain p D A k).d.length ≤ 149 ∧ (chain p D A k).f.length ≤ 149 ∧ (chain p D A k).s.length ≤ 149 := fun k hk => by
    have I := inv_all B k
    have dk := (fewS_of B2 hn hdd h3 (m := k) fun j hj => long j (by omega)).2.1
    have := I.deg
    rw [← pn] at dk
    have ab := I.ab
    have ca := I.ca
    have db := I.db
    have sl := I.sl
    have fl : (chain p D A k).f.length = d + 1 := by
      obtain ⟨f1, f2⟩ := I.f_dg B
      exact I.red.f.len_of hR ⟨by rw [f1]; exact c0, f2⟩
    omega
  rw [← pn] at long fin dsmall dtwo dge
  have I := inv_all B m
  have red := I.red
  have an : (chain p D A m).a ≠ [] := fun q => by have := I.ca; rw [q] at this; simp at this
  have lb := red.b.lead I.bn
  have hub := inv_ic hR hp lb.2.2
  have ub0 : (ic (inv p ((chain p D A m).b.getLastD 0)) : R) ≠ 0 := fun q => by
    rw [q] at hub
    exact one_ne hR (by rw [← hub]; grind)
  obtain ⟨sa1, sa2, sa3, sa4⟩ := scale hR hp red.a an ub0
  obtain ⟨sb1, sb2, sb3, sb4⟩ := scale hR hp red.b I.bn ub0
  have lead := I.lead
  rw [S_at, S_at, getLast_at an, getLast_at I.bn] at lead
  have deg := I.deg
  have ab := I.ab
  have bpos := List.length_pos_iff.mpr I.bn
  obtain ⟨ε, g1, g2, _, _⟩ := I.sgn
  have ds := red.s.dg hR I.sn
  rw [fin] at ds
  have ee : unitC p (chain p D A m) = (mulM p (chain p D A m).a [inv p ((chain p D A m).b.getLastD 0)], mulM p (chain p D A m).b [inv p ((chain p D A m).b.getLastD 0)]) := rfl
  have lm := lens m (Nat.le_refl _)
  have zero : (D.length ≤ 100 ∧ A.length ≤ 100) := by omega
  generalize inv p ((chain p D A m).b.getLastD 0) = ub at *
  generalize mulM p (chain p D A m).a [ub] = ua at *
  generalize mulM p (chain p D A m).b [ub] = uc at *
  have uan : ua ≠ [] := fun q => by rw [q] at sa2; exact an (List.eq_nil_of_length_eq_zero sa2.symm)
  have ucn : uc ≠ [] := fun q => by rw [q] at sb2; exact I.bn (List.eq_nil_of_length_eq_zero sb2.symm)
  have ε0 : ε ≠ 0 := fun q => one_ne hR (by rw [← g1, q]; grind)
  have w0 : ic ub * ic ub * ε ≠ (0 : R) := mul_ne hR (mul_ne hR ub0 ub0) ε0
  have dn : Dg (C (ic ub * ic ub * ε) * S R (chain p D A m).s) 0 := by
    have := (show Dg (C (ic ub * ic ub * ε : R)) 0 from ⟨w0, C_bd _⟩).mul hR ds
    simpa using this
  have nrm : S R ua * S R ua - S R D * (S R uc * S R uc) = -(C (ic ub * ic ub * ε) * S R (chain p D A m).s) := by
    rw [sa3, sb3, C_times, C_times]
    have : C (ic ub : R) * S R (chain p D A m).a * (C (ic ub) * S R (chain p D A m).a) - S R D * (C (ic ub) * S R (chain p D A m).b * (C (ic ub) * S R (chain p D A m).b)) = C (ic ub) * C (ic ub) * (S R (chain p D A m).a * S R (chain p D A m).a - S R D * (S R (chain p D A m).b * S R (chain p D A m).b)) := by
      generalize S R (chain p D A m).a = x1
      generalize S R (chain p D A m).b = x2
      generalize S R D = x3
      generalize C (ic ub : R) = x4
      grind
    rw [this, g2]
    generalize S R (chain p D A m).s = x5
    generalize C (ic ub : R) = x4
    generalize C ε = x6
    grind
  have dneg : Dg (-(C (ic ub * ic ub * ε) * S R (chain p D A m).s)) 0 := ⟨by rw [neg_at]; intro q; exact dn.1 (by grind), bd_neg dn.2⟩
  have norm1 : (normL p D ua uc).length = 1 := by
    unfold normL
    refine (plusL_red hp.pos.1 _ _).len_of hR (n := 0) ?_
    rw [S_plusL hR.p0, S_mulL hR.p0, S_mulL hR.p0, S_mulL hR.p0, ic_neg, ic_one, C_neg, show (C (1:R)) = 1 from rfl]
    rw [← nrm] at dneg
    rwa [show S R ua * S R ua + -1 * (S R D * (S R uc * S R uc)) = S R ua * S R ua - S R D * (S R uc * S R uc) from by grind]
  have norm2 : (normP p D ua uc).length = 1 := by
    unfold normP lessM
    refine (sumM_red hp.pos.1 (mulM_red hp.pos.1 _ _).1).len_of hR (n := 0) ?_
    rw [S_sumM hR.p0, S_mulM hR.p0, S_mulM hR.p0, S_mulM hR.p0, ic_neg, ic_one, C_neg, show (C (1:R)) = 1 from rfl]
    have : S R D * (S R uc * S R uc) + -1 * (S R ua * S R ua) = C (ic ub * ic ub * ε) * S R (chain p D A m).s := by
      generalize C (ic ub * ic ub * ε) * S R (chain p D A m).s = y at *
      grind
    rw [this]
    exact dn
  have l2' : uc.getLastD 0 = 1 := by
    have r := sb1.lead ucn
    refine rg_eq hR ⟨by omega, r.2.1⟩ ⟨by omega, by have := hp.pos; omega⟩ ?_
    rw [sb4, ic_one, ← hub]; grind
  have lA : ua.getLastD 0 = A.getLastD 0 := by
    have an2 : A ≠ [] := fun q => by rw [q] at al; simp at al
    have r := sa1.lead uan
    have r2 := rA.lead an2
    refine rg_eq hR ⟨by omega, r.2.1⟩ ⟨by omega, r2.2.1⟩ ?_
    rw [sa4, lead, lastA0]
    grind
  have just0 : plusL p (-1) D (mulL p A A) = (chain p D A 0).s := by
    rw [law_mul hp, law_plus hp _ _ rD.1]; rfl
  have deg0 : degC p D A 0 = d := by show (A.length : Int) - 1 = d; omega
  refine ⟨m, ?_⟩
  have dm : (chain p D A m).a.length = uc.length + d := by omega
  have half0 : (d : Int) ≤ degC p D A m := by omega
  refine { pr := hp, good := good, keep := keep, walk := ?_, ch := ?_, aa := away2, few := by omega, bot := kb, sd := spos, nl := by omega, d150 := ?_, near2 := ?_, red := ?_, len := ?_, deg := ?_, norm := ?_, normP := ?_, last2 := ?_, lastA := ?_, half := ?_, just := ?_, bound := ?_ }
  all_goals (try rw [hA]); (try rw [hDD]); (try rw [ee])
  · exact ⟨walk1, walk2⟩
  · refine { pr := hp, hD := rD, hA := rA, an := fun q => by rw [q] at al; simp at al, long := long, fin := fin, lens := fun k hk => ?_, bn := I.bn, dl := zero.1, al := zero.2 }
    have := lens k hk
    omega
  · omega
  · exact near2
  · exact ⟨sa1, sb1⟩
  · show ua.length ≤ 400 ∧ uc.length ≤ 400
    omega
  · show _ = (ua.length : Int) - 1
    omega
  · exact norm1
  · exact norm2
  · exact end_of ucn l2'
  · have an2 : A ≠ [] := fun q => by rw [q] at al; simp at al
    obtain ⟨u, e1⟩ := end_of uan rfl
    obtain ⟨v, e2⟩ := end_of an2 lA.symm
    exact ⟨u, v, _, e1, e2⟩
  · rw [lld]; exact half0
  · rw [lld, just0]
    constructor
    · intro q
      have m0 : m = 0 := by omega
      rw [m0] at fin
      exact fin
    · intro q
      rcases Nat.eq_zero_or_pos m with r | r
      · rw [r]; exact deg0
      · have := long 0 r
        omega
  · rw [lld]
    rcases hdd with q | q | q
    · subst q; rfl
    · subst q
      obtain ⟨t1, t2⟩ := dtwo rfl
      rw [t1, pn]
      exact bound_ok n hn m (List.mem_range.mpr (by omega))
    · subst q; rfl
end RR
/-! ### RMain8 -/
/-! The plain row as a row. -/
namespace RR
open Lean.Grind Ser
variable {R : Type} [CommRing R]
theorem map_back {g : Int} : ∀ l : List Int, (∀ x ∈ l, g ∣ x) → g ≠ 0 → (l.map fun x => x.fdiv g).map (fun x => g * x) = l
  | [], _, _ => rfl
  | x :: l, h, g0 => by
    obtain ⟨k, e⟩ := h x (List.mem_cons_self ..)
    rw [List.map_cons, List.map_cons, map_back l (fun y hy => h y (List.mem_cons_of_mem _ hy)) g0, fdiv_of g0 e, e]
theorem plainR_S (l : List Int) (h : gcdL (trim l) ≠ 0) : S R l = C (ic (gcdL (trim l))) * S R (plainR l) := by
  have e := map_back (trim l) (fun x hx => gcdL_dvd hx) h
  have e2 : S R ((plainR l).map fun x => gcdL (trim l) * x) = C (ic (gcdL (trim l))) * S R (plainR l) := S_map (fun a => ic_mul _ _) _
  unfold plainR at e2 ⊢
  rw [e, S_trim] at e2
  exact e2
end RR
/-! ### RMain22 -/
/-! The common part divides both rows but for a number, with rows that end. -/
namespace RR
open Lean.Grind Ser
section
variable {R : Type} [CommRing R]
theorem Fb.zero : Fb (0 : Ser R) := ⟨0, zero_bd _⟩
theorem Fb.xp (n : Nat) : Fb (xp n : Ser R) := ⟨_, xp_bd1 n⟩
theorem irRaw_F {other rest : List Int} (h : other.length ≤ rest.length) : ∃ f : Ser R, Fb f ∧ S R (irRaw other rest) = C (ic ((other.getLastD 0).natAbs : Int)) * S R rest + f * S R other := by
  unfold irRaw
  generalize (if 0 < other.getLastD 0 then rest.getLastD 0 else 0 - rest.getLastD 0) = t
  refine ⟨C (ic (-t)) * xp (rest.length - other.length), (Fb.C _).mul (Fb.xp _), ?_⟩
  rw [S_updS (c := ic (-t)) (fun a b => ?_) _ _ _ (by rw [List.length_map]; omega), S_map (c := ic ((other.getLastD 0).natAbs : Int)) (fun a => ?_)]
  · rw [show a * ((other.getLastD 0).natAbs : Int) = ((other.getLastD 0).natAbs : Int) * a from Int.mul_comm _ _, ic_mul]
  · rw [show a - t * b = a + -t * b by rw [Int.neg_mul]; omega, ic_add, ic_mul]
theorem plainR_F (l : List Int) : ∃ g : Int, S R l = C (ic g) * S R (plainR l) := by
  by_cases h : gcdL (trim l) = 0
  · refine ⟨0, ?_⟩
    have z : trim l = [] := by
      by_cases q : trim l = []
      · exact q
      · exfalso
        obtain ⟨l', x, e, x0⟩ := trim_last_ne q
        have d := gcdL_dvd (l := trim l) (x := x) (by rw [e]; simp)
        rw [h] at d
        exact x0 (Int.zero_dvd.mp d)
    rw [← S_trim, z, S_nil, ic_zero, C_zero_eq]
    grind
  · exact ⟨_, plainR_S l h⟩
theorem irLoop_F {other : List Int} (h0 : other.getLastD 0 ≠ 0) : ∀ (n : Nat) (rest : List Int), ∃ (a e : Int) (f : Ser R), a ≠ 0 ∧ Fb f ∧ C (ic a) * S R rest = C (ic e) * S R (irLoop other n rest) + f * S R other
  | 0, rest => ⟨1, 1, 0, by decide, Fb.zero, by rw [irLoop]; grind⟩
  | n + 1, rest => by
    rw [irLoop]
    split
    · exact ⟨1, 1, 0, by decide, Fb.zero, by grind⟩
    · rename_i c
      obtain ⟨f1, b1, e1⟩ := irRaw_F (R := R) (other := other) (rest := rest) (by omega)
      obtain ⟨g, e2⟩ := plainR_F (R := R) (irRaw other rest)
      obtain ⟨a, e, f2, a0, b2, e3⟩ := irLoop_F h0 n (plainR (irRaw other rest))
      refine ⟨a * (other.getLastD 0).natAbs, g * e, C (ic g) * f2 - C (ic a) * f1, Int.mul_ne_zero a0 (by omega), ((Fb.C _).mul b2).sub ((Fb.C _).mul b1), ?_⟩
      rw [ic_mul, ic_mul, C_times, C_times]
      rw [e2] at e1
      generalize S R (plainR (irRaw other rest)) = s1 at *
      generalize S R (irLoop other n (plainR (irRaw other rest))) = s2 at *
      grind
theorem intRest_F {one other : List Int} (h0 : other.getLastD 0 ≠ 0) : ∃ (a e : Int) (f : Ser R), a ≠ 0 ∧ Fb f ∧ C (ic a) * S R one = C (ic e) * S R (intRest one other) + f * S R other := by
  obtain ⟨a, e, f, a0, b, h⟩ := irLoop_F (R := R) h0 (one.length + 1) one
  obtain ⟨g, h2⟩ := plainR_F (R := R) (irLoop other (one.length + 1) one)
  refine ⟨a, e * g, f, a0, b, ?_⟩
  show _ = C (ic (e * g)) * S R (plainR (irLoop other (one.length + 1) one)) + _
  rw [h, h2, ic_mul, C_times]
  grind
theorem icLoop_F : ∀ (n : Nat) (near far : List Int), far.length < n → (∃ y, far = plainR y) → ∃ (a b : Int) (u v : Ser R), a ≠ 0 ∧ b ≠ 0 ∧ Fb u ∧ Fb v ∧ C (ic a) * S R near = u * S R (icLoop n near far) ∧ C (ic b) * S R far = v * S R (icLoop n near far)
  | 0, near, far, h, _ => absurd h (Nat.not_lt_zero _)
  | n + 1, near, far, h, hf => by
    rw [icLoop]
    split
    · rename_i c
      subst c
      exact ⟨1, 1, C (ic 1), 0, by decide, by decide, Fb.C _, Fb.zero, rfl, by rw [S_nil]; grind⟩
    · rename_i c
      obtain ⟨y, ey⟩ := hf
      have ne : plainR y ≠ [] := fun q => c (by rw [ey, q])
      obtain ⟨l', x, e, x0⟩ := plainR_last ne
      have h0 : far.getLastD 0 ≠ 0 := by rw [ey, e]; simpa using x0
      obtain ⟨a, k, f, a0, bf, e1⟩ := intRest_F (R := R) (one := near) h0
      have lt := intRest_lt (near := near) c
      obtain ⟨a2, b2, u, v, a20, b20, bu, bv, e2, e3⟩ := icLoop_F n far (intRest near far) (by omega) ⟨_, rfl⟩
      refine ⟨a * b2 * a2, a2, C (ic a2) * C (ic k) * v + C (ic b2) * f * u, u, Int.mul_ne_zero (Int.mul_ne_zero a0 b20) a20, a20, (((Fb.C _).mul (Fb.C _)).mul bv).add (((Fb.C _).mul bf).mul bu), bu, ?_, e2⟩
      rw [ic_mul, ic_mul, C_times, C_times]
      generalize S R (icLoop n far (intRest near far)) = g at *
      generalize S R (intRest near far) = s1 at *
      grind
/-! ### from the integers to the field -/
theorem ic_int (k : Int) : (ic k : Int) = k := rfl
def mapS (R : Type) [CommRing R] (f : Ser Int) : Ser R := fun n => ic (f n)
theorem mapS_mul (f g : Ser Int) : mapS R (f * g) = mapS R f * mapS R g := funext fun n => by
  induction n generalizing f with
  | zero => rw [mul_zero_at]; show ic ((f * g) 0) = ic (f 0) * ic (g 0); rw [mul_zero_at, ic_mul]
  | succ n ih =>
    rw [mul_succ_at]
    show ic ((f * g) (n + 1)) = ic (f 0) * ic (g (n + 1)) + (mapS R (tl f) * mapS R g) n
    rw [← ih, mul_succ_at, ic_add, ic_mul]; rfl
theorem mapS_C (a : Int) : mapS R (C a) = C (ic a) := funext fun n => by
  cases n with
  | zero => rfl
  | succ n => show ic (C a (n + 1)) = (0 : R); rw [C_succ]; exact ic_zero
theorem mapS_S (l : List Int) : mapS R (S Int l) = S R l := funext fun n => by
  show ic (S Int l n) = _
  rw [S_at, S_at, ic_int]
theorem Fb.mapS {f : Ser Int} (h : Fb f) : Fb (RR.mapS R f) := by
  obtain ⟨n, h⟩ := h
  exact ⟨n, fun k hk => by show ic (f k) = (0 : R); rw [h k hk]; exact ic_zero⟩
def divS (p : Int) (u : Ser Int) : Ser Int := fun n => u n / p
variable {p : Int} (hR : Fld R p)
include hR
/-- the number may be taken away from p -/
theorem descent {g near : List Int} (hg : S R g ≠ 0) : ∀ (N : Nat) (a : Int) (u : Ser Int), a ≠ 0 → a.natAbs ≤ N → Fb u → C a * S Int near = u * S Int g → ∃ (a' : Int) (u' : Ser Int), a' % p ≠ 0 ∧ Fb u' ∧ C a' * S Int near = u' * S Int g
  | 0, a, u, a0, hN, _, _ => absurd hN (by omega)
  | N + 1, a, u, a0, hN, fu, e => by
    by_cases c : a % p = 0
    · have hp := hR.pos
      obtain ⟨k, hk⟩ := Int.dvd_of_emod_eq_zero c
      have k0 : k ≠ 0 := fun q => a0 (by rw [hk, q, Int.mul_zero])
      have em := congrArg (mapS R) e
      rw [mapS_mul, mapS_mul, mapS_C, mapS_S, mapS_S, hk, ic_mul, hR.p0] at em
      have z : mapS R u * S R g = 0 := by
        rw [← em, show (0 : R) * ic k = 0 from by grind, C_zero_eq]; grind
      obtain ⟨m, bm⟩ := fu.mapS (R := R)
      have z2 := (Ser.dom hR bm (S_bd g) z).resolve_right hg
      have dv : ∀ n, u n = p * (u n / p) := fun n => by
        have : (ic (u n) : R) = 0 := by
          have := congrFun z2 n
          rw [zero_at] at this
          exact this
        have := hR.inj _ this
        have := Int.mul_ediv_add_emod (u n) p
        omega
      have eu : u = C p * divS p u := funext fun n => by rw [C_mul]; exact dv n
      have lt : k.natAbs ≤ N := by
        have := congrArg Int.natAbs hk
        rw [Int.natAbs_mul] at this
        have h3 : 3 * k.natAbs ≤ p.natAbs * k.natAbs := Nat.mul_le_mul_right _ (by omega)
        omega
      refine descent hg N k (divS p u) k0 lt ?_ ?_
      · obtain ⟨n, hn⟩ := fu
        exact ⟨n, fun j hj => by show u j / p = 0; rw [hn j hj]; simp⟩
      · funext n
        have en := congrFun e n
        rw [eu, hk, C_mul, C_mul_mul, C_mul, Int.mul_assoc] at en
        rw [C_mul]
        exact Int.eq_of_mul_eq_mul_left (by omega) en
    · exact ⟨a, u, c, fu, e⟩
theorem plain_ne {y : List Int} (h : plainR y ≠ []) : S R (plainR y) ≠ 0 := fun q => by
  have hp := hR.pos
  have hn : trim y ≠ [] := fun z => h (by unfold plainR; rw [z]; rfl)
  obtain ⟨l', z, e, hz⟩ := trim_last_ne hn
  obtain ⟨n, hb⟩ := some_bt (trim y)
  obtain ⟨_, g⟩ := gcdL_le hb ⟨z, by rw [e]; simp, hz⟩
  have d : gcdL (trim y) * p ∣ gcdL (trim y) := dvd_gcdL fun x hx => by
    have dx := fdiv_dvd g (gcdL_dvd hx)
    have mem : x.fdiv (gcdL (trim y)) ∈ plainR y := List.mem_map.mpr ⟨x, hx, rfl⟩
    obtain ⟨i, hi, ei⟩ := List.getElem_of_mem mem
    have zi := congrFun q i
    rw [S_at, zero_at, List.getD_eq_getElem?_getD, List.getElem?_eq_getElem hi, Option.getD_some, ei] at zi
    obtain ⟨k, hk⟩ := Int.dvd_of_emod_eq_zero (hR.inj _ zi)
    exact ⟨k, by rw [Int.mul_assoc, ← hk]; exact dx⟩
  obtain ⟨k, hk⟩ := d
  have : p * k = 1 := by
    refine Int.eq_of_mul_eq_mul_left (show gcdL (trim y) ≠ 0 by omega) ?_
    rw [Int.mul_one, ← Int.mul_assoc]; exact hk.symm
  have : p ∣ 1 := ⟨k, this.symm⟩
  have := Int.le_of_dvd (by decide) this
  omega
end
end RR
/-! ### RMain23 -/
/-! The square question: the whole common part is a number. -/
namespace RR
open Lean.Grind Ser
section
variable {R : Type} [CommRing R] {p : Int} (hR : Fld R p) (hp : Pr p)
include hR hp
/-- the whole row is the rests' row, but for a number not 0 -/
theorem wholes_S {B : Int} {l : List (Int × Int)} (hB : (ic B : R) ≠ 0) (ha : Away p l) (hd : ∀ r ∈ l, r.2 ∣ B) {n : Nat} (hr : RtL n l) : ∃ c : R, c ≠ 0 ∧ S R (wholesR l) = C c * S R (restsM p l) := by
  have L0 : (ic (lcmR l) : R) ≠ 0 := fun q => by
    obtain ⟨k, hk⟩ := lcmR_dvd hd
    exact hB (by rw [hk, ic_mul, q]; grind)
  refine ⟨ic (lcmR l), L0, ?_⟩
  unfold restsM
  rw [S_trim]
  have a3 := (lcmR_spec hr).2.2
  unfold wholesR
  clear L0 hd hr
  generalize lcmR l = L at *
  induction l with
  | nil => rw [List.map_nil, List.map_nil, S_nil]; grind
  | cons r l ih =>
    have ar := ha r List.mem_cons_self
    obtain ⟨m, hm⟩ := a3 r List.mem_cons_self
    have r0 : r.2 ≠ 0 := fun q => ar (by rw [q]; rfl)
    have e1 : L.fdiv r.2 = m := fdiv_of r0 hm
    have h := inv_ic hR hp ar
    rw [List.map_cons, List.map_cons, S_cons, S_cons, ih (fun x hx => ha x (List.mem_cons_of_mem _ hx)) (fun x hx => a3 x (List.mem_cons_of_mem _ hx))]
    have e2 : (ic (r.1 * L.fdiv r.2) : R) = ic L * ic (r.1 * inv p r.2 % p) := by
      rw [e1, ic_mod hR.p0, ic_mul, ic_mul]
      have e3 : (ic L : R) = ic r.2 * ic m := by rw [hm, ic_mul]
      rw [e3]
      grind
    rw [e2, C_times]
    grind
theorem plain_lead {near : List Int} {c : R} {D : Ser R} {W : List Int} {k : Nat} (hc : c ≠ 0) (hD : D k ≠ 0) (e : S R W = C c * D) {g : Int} (e2 : S R W = C (ic g) * S R near) : S R near k ≠ 0 := fun q => by
  have := congrFun (e.symm.trans e2) k
  rw [C_mul, C_mul, q] at this
  exact mul_ne hR hc hD (by rw [this]; grind)
/-- from a number times the row to the row -/
theorem back_div {c : R} (hc : c ≠ 0) {D : Ser R} {N G : Ser R} {g a : Int} {u : Ser R} (ha : (ic a : R) ≠ 0) (e : C c * D = C (ic g) * N) (h : C (ic a) * N = u * G) (fu : Fb u) : ∃ w, Fb w ∧ D = w * G := by
  obtain ⟨v, hv⟩ := inv_ex hR hp (mul_ne hR hc ha)
  refine ⟨C (v * ic g) * u, (Fb.C _).mul fu, ?_⟩
  have e1 : C (c * ic a) * D = C (ic g) * (u * G) := by
    rw [C_times, ← h]
    rw [show C c * C (ic a) * D = C (ic a) * (C c * D) from by grind, e]; grind
  have e2 : D = C v * (C (c * ic a) * D) := by
    rw [show C v * (C (c * ic a) * D) = (C v * C (c * ic a)) * D from by grind, ← C_times, hv, show (C (1:R)) = 1 from rfl]; grind
  rw [e2, e1, C_times]; grind
end
theorem sqRight : SqRight := fun nums side bottom hd => by
  obtain ⟨p, hp, hk⟩ := hd.kept
  obtain ⟨R, _, hR⟩ := fld_of hp
  have keep := hd.keepM hp hk
  obtain ⟨kb, _, _⟩ := keeps_parts hk
  have nb := ic_ne hR kb
  have nB : (ic (bottom * bottom) : R) ≠ 0 := by rw [ic_mul]; exact mul_ne hR nb nb
  have bpos : 0 < bottom * bottom := by rcases hd.bb with q | q | q <;> subst q <;> decide
  have hlen := hd.len
  have sm : ∀ r ∈ nums.map fun n => rN n (bottom * bottom), r.2 ∣ bottom * bottom ∧ 0 < r.2 ∧ r.1.natAbs ≤ 63 := fun r hr => by
    obtain ⟨x, hx, rfl⟩ := List.mem_map.mp hr
    obtain ⟨a1, a2, a3⟩ := rN_small (x := x) (B := bottom * bottom) bpos
    have := hd.small.1 x hx
    exact ⟨a1, a2, by omega⟩
  obtain ⟨l', elast⟩ := hd.lastR
  have s0 := (side_rN hd.sb hd.bb).1
  have last : ∃ l' x, (nums.map fun n => rN n (bottom * bottom)) = l' ++ [x] ∧ x.1 ≠ 0 := ⟨l', _, elast, Int.mul_ne_zero (by omega) (by omega)⟩
  have ll : (nums.map fun n => rN n (bottom * bottom)).length = nums.length := List.length_map _
  generalize (nums.map fun n => rN n (bottom * bottom)) = l at *
  have ssm := slopeR_small bpos (by omega) sm
  have rts : RtL 20 (slopeR l) := fun r hr2 => by
    obtain ⟨i, hi, e⟩ := List.mem_mapIdx.mp (List.mem_of_mem_drop (by unfold slopeR at hr2; exact hr2))
    rw [← e]
    refine mulR_rt (n := 10) (k := 10) (keep.rt _ (List.getElem_mem hi)) ⟨?_, (by decide : (1:Int).natAbs < 2 ^ 10), (by decide : (0:Int) < 1)⟩
    unfold Bt
    show Int.natAbs (i : Int) < _
    omega
  obtain ⟨c1, c10, w1⟩ := wholes_S hR hp nB keep.aw (fun r hr => (sm r hr).1) keep.rt
  obtain ⟨c2, c20, w2⟩ := wholes_S hR hp nB keep.aws (fun r hr => (ssm r hr).1) rts
  have nlen := wholesR_plen (B := bottom * bottom) keep.rt last
  have fac := icLoop_F (R := Int) ((plainR (wholesR (slopeR l))).length + 1) (plainR (wholesR l)) (plainR (wholesR (slopeR l))) (by omega) ⟨_, rfl⟩
  have nne : plainR (wholesR l) ≠ [] := fun q => by rw [q] at nlen; simp at nlen; omega
  obtain ⟨⟨y, gy⟩, gne⟩ := icLoop_plain ((plainR (wholesR (slopeR l))).length + 1) (plainR (wholesR l)) (plainR (wholesR (slopeR l))) ⟨_, rfl⟩ nne ⟨_, rfl⟩
  have eg : intCommon (wholesR l) (wholesR (slopeR l)) = icLoop ((plainR (wholesR (slopeR l))).length + 1) (plainR (wholesR l)) (plainR (wholesR (slopeR l))) := rfl
  rw [eg]
  generalize icLoop ((plainR (wholesR (slopeR l))).length + 1) (plainR (wholesR l)) (plainR (wholesR (slopeR l))) = g at *
  obtain ⟨a, b, u, v, a0, b0, fu, fv, e1, e2⟩ := fac
  obtain ⟨g1, p1⟩ := plainR_F (R := R) (wholesR l)
  obtain ⟨g2, p2⟩ := plainR_F (R := R) (wholesR (slopeR l))
  have gR : S R g ≠ 0 := by rw [gy]; exact plain_ne hR (by rw [← gy]; exact gne)
  obtain ⟨a', u', a'0, fu', d1⟩ := descent hR gR _ a u a0 (Nat.le_refl _) fu e1
  obtain ⟨b', v', b'0, fv', d2⟩ := descent hR gR _ b v b0 (Nat.le_refl _) fv e2
  have m1 := congrArg (mapS R) d1
  have m2 := congrArg (mapS R) d2
  rw [mapS_mul, mapS_mul, mapS_C, mapS_S, mapS_S] at m1 m2
  have h1 := back_div hR hp c10 (ic_ne hR a'0) (w1.symm.trans p1) m1 fu'.mapS
  have h2 := back_div hR hp c20 (ic_ne hR b'0) (w2.symm.trans p2) m2 fv'.mapS
  -- the lead of g
  obtain ⟨gl, gx, ge, gx0⟩ := plainR_last (l := y) (by rw [← gy]; exact gne)
  rw [← gy] at ge
  have glen : g.length = gl.length + 1 := by rw [ge]; simp
  have gat : S Int g gl.length = gx := by rw [S_at, ge]; simp [ic_int]
  have Dne : restsM p l ≠ [] := fun q => by have := keep.full; rw [q] at this; simp at this; omega
  have dD := (restsM_red hp l).dg hR Dne
  rw [keep.full] at dD
  have nl := plain_lead hR hp c10 dD.1 w1 p1
  rw [← mapS_S] at nl
  have nl : (ic (S Int (plainR (wholesR l)) (l.length - 1)) : R) ≠ 0 := nl
  have bn : Bd (S Int (plainR (wholesR l))) (l.length - 1 + 1) := (S_bd _).mono (by omega)
  have bg : Bd (S Int g) (gl.length + 1) := (S_bd _).mono (by omega)
  generalize S Int (plainR (wholesR l)) = N at *
  have a'z : a' ≠ 0 := fun q => a'0 (by rw [q]; simp)
  have N0 : N (l.length - 1) ≠ 0 := fun q => nl (by rw [q]; exact ic_zero)
  obtain ⟨nb', fb⟩ := fu'
  have gxR : (ic gx : R) ≠ 0 := by
    rcases fb.dg with q | ⟨i, _, q⟩
    · exfalso
      have := congrFun d1 (l.length - 1)
      rw [q, C_mul, show (0 : Ser Int) * S Int g = 0 from by grind, zero_at] at this
      exact Int.mul_ne_zero a'z N0 this
    · obtain ⟨q1, q2⟩ := mul_bd q.2 bg
      rw [← d1] at q1 q2
      have z : i + gl.length = l.length - 1 := by
        rcases Nat.lt_trichotomy (i + gl.length) (l.length - 1) with r | r | r
        · have := q2 (l.length - 1) (by omega)
          rw [C_mul] at this
          exact (Int.mul_ne_zero a'z N0 this).elim
        · exact r
        · rw [C_mul, bn _ (by omega), gat] at q1
          rw [Int.mul_zero] at q1
          exact (Int.mul_ne_zero q.1 gx0 q1.symm).elim
      rw [z, C_mul, gat] at q1
      have q3 : (ic (a' * N (l.length - 1)) : R) = ic (u' i * gx) := by rw [q1]
      rw [ic_mul, ic_mul] at q3
      intro q4
      rw [q4] at q3
      exact mul_ne hR (ic_ne hR a'0) nl (by rw [q3]; grind)
  have dG : Dg (S R g) gl.length := ⟨by rw [← mapS_S]; show (ic (S Int g gl.length) : R) ≠ 0; rw [gat]; exact gxR, (S_bd _).mono (by omega)⟩
  have := common_one hR hp (restsM_red hp l) (restsM_red hp (slopeR l)) keep.one h1 h2 dG
  omega
/-- the plain mathematics of the law -/
theorem mainRight : MainRight := mainRight_of sqRight (oneRight sqRight)
end RR
/-! ### RCalc -/
/-! A calculus over the layer's readings: data in the slots, lists of one's own, what grows. -/
namespace RR
open PySem PySem.Spec PyProof.Rows L2 Evl
/-! ### data -/
inductive Dat where
  | non | bl (b : Bool) | int (i : Int) | str (x : Str)
  | lst (ds : List Dat) | tup (ds : List Dat)
  | rat (t b : Int)
  | root (d a r : Dat)
  | ob (C : Str) (ns : List Str) (ds : List Dat)
abbrev il (l : List Int) : Dat := .lst (l.map Dat.int)
abbrev rl (l : List (Int × Int)) : Dat := .lst (l.map fun r => .rat r.1 r.2)
abbrev rF (t b : Int) : List (Str × V) := [("own_top", .int t), ("own_bottom", .int b)]
abbrev rootF (x y z : V) : List (Str × V) := [("own_poly", x), ("own_nearest", y), ("own_rest", z)]
section
variable (K : PySem.W.Frag) (H : Hp)
mutual
/-- the value v is this datum (which nobody changes) -/
def Is : Dat → V → Prop
  | .non, v => v = .non
  | .bl b, v => v = .bl b
  | .int i, v => v = .int i
  | .str x, v => v = .str x
  | .lst ds, v => ∃ p vs, v = .ref p ∧ H p = some (.lst vs) ∧ IsL ds vs
  | .tup ds, v => ∃ p vs, v = .ref p ∧ H p = some (.tup vs) ∧ IsL ds vs
  | .rat t b, v => ∃ p dx, v = .ref p ∧ H p = some (.ins (He.ga K "Ratio") dx (rF t b))
  | .root d a r, v => ∃ p dx x y z, v = .ref p ∧ H p = some (.ins (He.ga K "Root") dx (rootF x y z)) ∧ Is d x ∧ Is a y ∧ Is r z
  | .ob C ns ds, v => ∃ p dx vs, v = .ref p ∧ H p = some (.ins (He.ga K C) dx (ns.zip vs)) ∧ IsL ds vs
def IsL : List Dat → List V → Prop
  | [], vs => vs = []
  | d :: ds, vs => ∃ v r, vs = v :: r ∧ Is d v ∧ IsL ds r
end
end
section
variable {K : PySem.W.Frag} {H H' Hb Hb' : Hp}
mutual
theorem Is.mono (e : Ex H H') : ∀ (d : Dat) {v : V}, Is K H d v → Is K H' d v
  | .non, _, h => h
  | .bl _, _, h => h
  | .int _, _, h => h
  | .str _, _, h => h
  | .lst ds, _, ⟨p, vs, h1, h2, h3⟩ => ⟨p, vs, h1, e _ _ h2, IsL.mono e ds h3⟩
  | .tup ds, _, ⟨p, vs, h1, h2, h3⟩ => ⟨p, vs, h1, e _ _ h2, IsL.mono e ds h3⟩
  | .rat _ _, _, ⟨p, dx, h1, h2⟩ => ⟨p, dx, h1, e _ _ h2⟩
  | .root d a r, _, ⟨p, dx, x, y, z, h1, h2, h3, h4, h5⟩ => ⟨p, dx, x, y, z, h1, e _ _ h2, Is.mono e d h3, Is.mono e a h4, Is.mono e r h5⟩
  | .ob C ns ds, _, ⟨p, dx, vs, h1, h2, h3⟩ => ⟨p, dx, vs, h1, e _ _ h2, IsL.mono e ds h3⟩
theorem IsL.mono (e : Ex H H') : ∀ (ds : List Dat) {vs : List V}, IsL K H ds vs → IsL K H' ds vs
  | [], _, h => h
  | d :: ds, _, ⟨v, r, h1, h2, h3⟩ => ⟨v, r, h1, Is.mono e d h2, IsL.mono e ds h3⟩
end
theorem IsL.length : ∀ {ds : List Dat} {vs : List V}, IsL K H ds vs → vs.length = ds.length
  | [], _, h => by rw [show _ = [] from h] <;> rfl
  | d :: ds, _, ⟨v, r, h1, h2, h3⟩ => by rw [h1, List.length_cons, List.length_cons, IsL.length h3]
theorem IsL.get : ∀ {ds : List Dat} {vs : List V} {i : Nat} {d : Dat}, IsL K H ds vs → ds[i]? = some d → ∃ v, vs[i]? = some v ∧ Is K H d v
  | [], _, _, _, _, e => by simp at e
  | d :: ds, _, 0, _, ⟨v, r, h1, h2, h3⟩, e => by
    cases Option.some.inj (show some d = _ from e)
    exact ⟨v, by rw [h1] <;> rfl, h2⟩
  | d :: ds, _, i + 1, _, ⟨v, r, h1, h2, h3⟩, e => by
    obtain ⟨w, e1, e2⟩ := IsL.get (i := i) h3 (by simpa using e)
    exact ⟨w, by rw [h1]; simpa using e1, e2⟩
theorem IsL.set : ∀ {ds : List Dat} {vs : List V} {i : Nat} {d : Dat} {v : V}, IsL K H ds vs → Is K H d v → IsL K H (ds.set i d) (vs.set i v)
  | [], _, _, _, _, h, _ => by rw [show _ = [] from h]; exact rfl
  | _ :: ds, _, 0, d, v, ⟨w, r, h1, h2, h3⟩, e => by rw [h1]; exact ⟨v, r, rfl, e, h3⟩
  | _ :: ds, _, i + 1, d, v, ⟨w, r, h1, h2, h3⟩, e => by rw [h1]; exact ⟨w, r.set i v, rfl, h2, IsL.set h3 e⟩
theorem IsL.append : ∀ {ds es : List Dat} {vs ws : List V}, IsL K H ds vs → IsL K H es ws → IsL K H (ds ++ es) (vs ++ ws)
  | [], _, _, _, h, g => by rw [show _ = [] from h]; exact g
  | d :: ds, _, _, _, ⟨v, r, h1, h2, h3⟩, g => by rw [h1]; exact ⟨v, _, rfl, h2, IsL.append h3 g⟩
theorem IsL.take : ∀ {ds : List Dat} {vs : List V} (n : Nat), IsL K H ds vs → IsL K H (ds.take n) (vs.take n)
  | [], _, n, h => by rw [show _ = [] from h]; simp; rfl
  | d :: ds, _, 0, h => rfl
  | d :: ds, _, n + 1, ⟨v, r, h1, h2, h3⟩ => by rw [h1]; exact ⟨v, _, rfl, h2, IsL.take n h3⟩
theorem IsL.drop : ∀ {ds : List Dat} {vs : List V} (n : Nat), IsL K H ds vs → IsL K H (ds.drop n) (vs.drop n)
  | [], _, n, h => by rw [show _ = [] from h]; simp; rfl
  | d :: ds, _, 0, h => h
  | d :: ds, _, n + 1, ⟨v, r, h1, h2, h3⟩ => by rw [h1]; exact IsL.drop n h3
theorem IsL.cons {d : Dat} {ds : List Dat} {v : V} {vs : List V} (h : Is K H d v) (g : IsL K H ds vs) : IsL K H (d :: ds) (v :: vs) := ⟨v, vs, rfl, h, g⟩
theorem IsL.nil : IsL K H [] [] := rfl
theorem IsL.rep {d : Dat} {v : V} (h : Is K H d v) : ∀ n : Nat, IsL K H (List.replicate n d) (List.replicate n v)
  | 0 => rfl
  | n + 1 => ⟨v, _, rfl, h, IsL.rep h n⟩
theorem IsL.reverse : ∀ {ds : List Dat} {vs : List V}, IsL K H ds vs → IsL K H ds.reverse vs.reverse
  | [], _, h => by rw [show _ = [] from h]; exact rfl
  | d :: ds, _, ⟨v, r, h1, h2, h3⟩ => by
    rw [h1, List.reverse_cons, List.reverse_cons]
    exact IsL.append (IsL.reverse h3) (IsL.cons h2 IsL.nil)
/-- ints -/
theorem IsL.ints : ∀ {l : List Int} {vs : List V}, IsL K H (l.map Dat.int) vs ↔ vs = l.map V.int
  | [], _ => Iff.rfl
  | i :: l, vs => by
    constructor
    · rintro ⟨v, r, h1, h2, h3⟩
      rw [h1, show v = .int i from h2, (IsL.ints (l := l)).mp h3] <;> rfl
    · intro h
      exact ⟨.int i, l.map V.int, h, rfl, IsL.ints.mpr rfl⟩
theorem Is.il {l : List Int} {v : V} : Is K H (il l) v ↔ ∃ p, v = .ref p ∧ H p = some (.lst (l.map V.int)) := by
  constructor
  · rintro ⟨p, vs, h1, h2, h3⟩
    exact ⟨p, h1, by rw [h2, IsL.ints.mp h3]⟩
  · rintro ⟨p, h1, h2⟩
    exact ⟨p, _, h1, h2, IsL.ints.mpr rfl⟩
theorem IsL.bls : ∀ {l : List Bool} {vs : List V}, IsL K H (l.map Dat.bl) vs ↔ vs = l.map V.bl
  | [], _ => Iff.rfl
  | i :: l, vs => by
    constructor
    · rintro ⟨v, r, h1, h2, h3⟩
      rw [h1, show v = .bl i from h2, (IsL.bls (l := l)).mp h3] <;> rfl
    · intro h
      exact ⟨.bl i, l.map V.bl, h, rfl, IsL.bls.mpr rfl⟩
end
/-! ### what may change (a mode), what grows -/
/-- M: the objects that may change; J: what stays true of them -/
structure Md where
  M : Addr → Prop
  J : HO → Prop
  /-- where a def's own lists may lie -/
  F : Addr → Prop
  /-- where an instance of one's own may lie -/
  W : Addr → Prop
def pure0 : Md := ⟨fun _ => False, fun _ => True, fun _ => True, fun _ => True⟩
/-- from the heap H (Hb in it: what nobody changes) to H' (Hb' in it) -/
structure Gr (m : Md) (Hb H Hb' H' : Hp) : Prop where
  b : Ex Hb Hb'
  s : Ex Hb' H'
  k : ∀ a o, ¬ m.M a → H a = some o → H' a = some o
  t : ∀ a, H a ≠ none → H' a ≠ none
  f : ∀ a, Hb' a ≠ none → Hb a = none → H a = none
  j : ∀ a, m.M a → (∃ o, H a = some o ∧ m.J o) → ∃ o, H' a = some o ∧ m.J o
section
variable {m : Md} {K : PySem.W.Frag} {Hb H Hb' H' Hb2 H2 : Hp}
theorem Gr.refl (s : Ex Hb H) : Gr m Hb H Hb H := ⟨Ex.refl _, s, fun _ _ _ h => h, fun _ h => h, fun _ h g => absurd g h, fun _ _ h => h⟩
theorem Gr.trans (a : Gr m Hb H Hb' H') (c : Gr m Hb' H' Hb2 H2) : Gr m Hb H Hb2 H2 where
  b := a.b.trans c.b
  s := c.s
  k := fun x o hx h => c.k x o hx (a.k x o hx h)
  t := fun x h => c.t x (a.t x h)
  f := fun x h2 h0 => by
    cases e : Hb' x with
    | none =>
      have n := c.f x h2 e
      cases q : H x with
      | none => rfl
      | some o => exact absurd n (a.t x (by rw [q]; exact Option.some_ne_none _))
    | some o => exact a.f x (by rw [e]; exact Option.some_ne_none _) h0
  j := fun x hx h => c.j x hx (a.j x hx h)
/-- what nobody may change grows: any mode -/
theorem Gr.any (a : Gr pure0 Hb H Hb' H') : Gr m Hb H Hb' H' :=
  ⟨a.b, a.s, fun x o _ h => a.k x o id h, a.t, a.f, fun x _ ⟨o, e, h⟩ => ⟨o, a.k x o id e, h⟩⟩
theorem Gr.ex (a : Gr pure0 Hb H Hb' H') : Ex H H' := fun x o h => a.k x o id h
/-- the heap alone grows -/
theorem Gr.grow (s : Ex Hb H) (e : Ex H H') : Gr m Hb H Hb H' :=
  ⟨Ex.refl _, s.trans e, fun x o _ h => e x o h, (fun x h => by
    cases q : H x with
    | none => exact absurd q h
    | some o => rw [e x o q]; exact Option.some_ne_none _), fun _ h g => absurd g h, fun x _ ⟨o, h1, h2⟩ => ⟨o, e x o h1, h2⟩⟩
/-- a new object, known to nobody else -/
theorem Gr.new {p : Addr} {o : HO} (s : Ex Hb H) (hp : H p = none) : Gr m Hb H (upd Hb p o) (upd H p o) := by
  have nb : Hb p = none := fresh_back s hp
  refine ⟨Ex.new nb, fun x u h => ?_, fun x u _ h => Ex.new hp x u h, fun x h => ?_, fun x h g => ?_, fun x _ ⟨u, h1, h2⟩ => ⟨u, Ex.new hp x u h1, h2⟩⟩
  · by_cases e : x = p
    · rw [e, upd_same] at h ⊢; exact h
    · rw [upd_ne e] at h ⊢; exact s x u h
  · by_cases e : x = p
    · rw [e, upd_same]; exact Option.some_ne_none _
    · rw [upd_ne e]; exact h
  · by_cases e : x = p
    · rw [e]; exact hp
    · rw [upd_ne e] at h; exact absurd g h
end
theorem Gr.back {m : Md} {Hb H Hb' H' : Hp} (g : Gr m Hb H Hb' H') {l : Addr} (e : H' l = none) : H l = none := by
  cases q : H l with
  | none => rfl
  | some o => exact absurd e (g.t l (by rw [q]; exact Option.some_ne_none _))
/-! ### the slots -/
/-- what a slot holds: nothing told; a datum; a list of the def's own (nobody else has it); one of the mode's objects -/
inductive Sv where
  | no | dat (d : Dat) | own (xs : List Dat) | mu
  /-- an instance of one's own, of the class C: its attributes -/
  | wk (C : Str) (ns : List Str) (xs : List Dat)
abbrev Ds := List Sv
def SvAt (m : Md) (K : PySem.W.Frag) (Hb H : Hp) (o : Option V) : Sv → Prop
  | .no => True
  | .dat d => ∃ v, o = some v ∧ Is K Hb d v
  | .own xs => ∃ l vs, o = some (.ref l) ∧ Hb l = none ∧ ¬ m.M l ∧ H l = some (.lst vs) ∧ IsL K Hb xs vs ∧ m.F l
  | .mu => ∃ a, o = some (.ref a) ∧ m.M a
  | .wk C ns xs => ∃ l dx vs, o = some (.ref l) ∧ Hb l = none ∧ ¬ m.M l ∧ H l = some (.ins (He.ga K C) dx (ns.zip vs)) ∧ IsL K Hb xs vs ∧ m.F l ∧ m.W l
structure Sl (m : Md) (K : PySem.W.Frag) (Hb H : Hp) (σ : L2.St) (ds : Ds) : Prop where
  sub : Ex Hb H
  len : σ.length = ds.length
  at_ : ∀ (i : Nat) (s : Sv), ds[i]? = some s → ∃ o, σ[i]? = some o ∧ SvAt m K Hb H o s
  sep : ∀ (i j : Nat) (xs ys : List Dat) (l : Addr), ds[i]? = some (.own xs) → ds[j]? = some (.own ys) → σ[i]? = some (some (.ref l)) → σ[j]? = some (some (.ref l)) → i = j
  mt : ∀ a, m.M a → Hb a = none ∧ ∃ o, H a = some o ∧ m.J o
  fr : ∀ l, H l = none → m.F l
section
variable {m : Md} {K : PySem.W.Frag} {Hb H Hb' H' : Hp} {σ : L2.St} {ds : Ds}
theorem SvAt.grow {o : Option V} {s : Sv} (g : Gr m Hb H Hb' H') (h : SvAt m K Hb H o s) : SvAt m K Hb' H' o s := by
  cases s with
  | no => trivial
  | dat d => obtain ⟨v, e, h⟩ := h; exact ⟨v, e, Is.mono g.b d h⟩
  | own xs =>
    obtain ⟨l, vs, e, h1, h2, h3, h4, h5⟩ := h
    refine ⟨l, vs, e, ?_, h2, g.k l _ h2 h3, IsL.mono g.b xs h4, h5⟩
    cases q : Hb' l with
    | none => rfl
    | some u =>
      have := g.f l (by rw [q]; exact Option.some_ne_none _) h1
      rw [h3] at this
      cases this
  | mu => exact h
  | wk C ns xs =>
    obtain ⟨l, dx, vs, e, h1, h2, h3, h4, h5⟩ := h
    refine ⟨l, dx, vs, e, ?_, h2, g.k l _ h2 h3, IsL.mono g.b xs h4, h5⟩
    cases q : Hb' l with
    | none => rfl
    | some u =>
      have := g.f l (by rw [q]; exact Option.some_ne_none _) h1
      rw [h3] at this
      cases this
theorem Sl.grow (S : Sl m K Hb H σ ds) (g : Gr m Hb H Hb' H') : Sl m K Hb' H' σ ds where
  sub := g.s
  len := S.len
  at_ := fun i s e => let ⟨o, e1, h⟩ := S.at_ i s e; ⟨o, e1, h.grow g⟩
  sep := S.sep
  mt := fun a ha => by
    obtain ⟨h1, h2⟩ := S.mt a ha
    refine ⟨?_, g.j a ha h2⟩
    cases q : Hb' a with
    | none => rfl
    | some u =>
      have := g.f a (by rw [q]; exact Option.some_ne_none _) h1
      obtain ⟨o, e, _⟩ := h2
      rw [e] at this
      cases this
  fr := fun l e => S.fr l (g.back e)
theorem Sl.dat (S : Sl m K Hb H σ ds) {i : Nat} {d : Dat} (e : ds[i]? = some (.dat d)) : ∃ v, σ[i]? = some (some v) ∧ Is K Hb d v := by
  obtain ⟨o, e1, v, e2, h⟩ := S.at_ i _ e
  exact ⟨v, by rw [e1, e2], h⟩
theorem Sl.own (S : Sl m K Hb H σ ds) {i : Nat} {xs : List Dat} (e : ds[i]? = some (.own xs)) : ∃ l vs, σ[i]? = some (some (.ref l)) ∧ Hb l = none ∧ ¬ m.M l ∧ H l = some (.lst vs) ∧ IsL K Hb xs vs ∧ m.F l := by
  obtain ⟨o, e1, l, vs, e2, h⟩ := S.at_ i _ e
  exact ⟨l, vs, by rw [e1, e2], h⟩
/-- a slot is set to a datum -/
theorem Sl.set (S : Sl m K Hb H σ ds) {i : Nat} {d : Dat} {v : V} (h : Is K Hb d v) : Sl m K Hb H (σ.set i (some v)) (ds.set i (.dat d)) where
  sub := S.sub
  len := by rw [List.length_set, List.length_set, S.len]
  at_ := fun j s e => by
    by_cases hj : i = j
    · subst hj
      have hi : i < ds.length := by
        have := (List.getElem?_eq_some_iff.mp e).1
        rwa [List.length_set] at this
      rw [List.getElem?_set_self hi] at e
      cases Option.some.inj e
      exact ⟨some v, List.getElem?_set_self (by rw [S.len]; exact hi), v, rfl, h⟩
    · rw [List.getElem?_set_ne hj] at e ⊢
      exact S.at_ j s e
  sep := fun j k xs ys l e1 e2 s1 s2 => by
    have nj : i ≠ j := fun q => by
      subst q
      have hi : i < ds.length := by
        have := (List.getElem?_eq_some_iff.mp e1).1
        rwa [List.length_set] at this
      rw [List.getElem?_set_self hi] at e1
      cases Option.some.inj e1
    have nk : i ≠ k := fun q => by
      subst q
      have hi : i < ds.length := by
        have := (List.getElem?_eq_some_iff.mp e2).1
        rwa [List.length_set] at this
      rw [List.getElem?_set_self hi] at e2
      cases Option.some.inj e2
    rw [List.getElem?_set_ne nj] at e1 s1
    rw [List.getElem?_set_ne nk] at e2 s2
    exact S.sep j k xs ys l e1 e2 s1 s2
  mt := S.mt
  fr := S.fr
/-- a slot is set to a list of one's own -/
theorem Sl.setO (S : Sl m K Hb H σ ds) {i : Nat} {xs : List Dat} {l : Addr} {vs : List V} (h1 : Hb l = none) (h2 : ¬ m.M l) (h3 : H l = some (.lst vs)) (h4 : IsL K Hb xs vs) (h5 : m.F l)
    (new : ∀ (j : Nat) (ys : List Dat), j ≠ i → ds[j]? = some (.own ys) → σ[j]? ≠ some (some (.ref l))) : Sl m K Hb H (σ.set i (some (.ref l))) (ds.set i (.own xs)) where
  sub := S.sub
  len := by rw [List.length_set, List.length_set, S.len]
  at_ := fun j s e => by
    by_cases hj : i = j
    · subst hj
      have hi : i < ds.length := by
        have := (List.getElem?_eq_some_iff.mp e).1
        rwa [List.length_set] at this
      rw [List.getElem?_set_self hi] at e
      cases Option.some.inj e
      exact ⟨some (.ref l), List.getElem?_set_self (by rw [S.len]; exact hi), l, vs, rfl, h1, h2, h3, h4, h5⟩
    · rw [List.getElem?_set_ne hj] at e ⊢
      exact S.at_ j s e
  sep := fun j k ys zs l' e1 e2 s1 s2 => by
    by_cases hj : i = j
    · by_cases hk : i = k
      · rw [← hj, ← hk]
      · subst hj
        have hi : i < σ.length := by
          have := (List.getElem?_eq_some_iff.mp s1).1
          rwa [List.length_set] at this
        rw [List.getElem?_set_self hi] at s1
        cases s1
        rw [List.getElem?_set_ne hk] at e2 s2
        exact absurd s2 (new k zs (Ne.symm hk) e2)
    · by_cases hk : i = k
      · subst hk
        have hi : i < σ.length := by
          have := (List.getElem?_eq_some_iff.mp s2).1
          rwa [List.length_set] at this
        rw [List.getElem?_set_self hi] at s2
        cases s2
        rw [List.getElem?_set_ne hj] at e1 s1
        exact absurd s1 (new j ys (Ne.symm hj) e1)
      · rw [List.getElem?_set_ne hj] at e1 s1
        rw [List.getElem?_set_ne hk] at e2 s2
        exact S.sep j k ys zs l' e1 e2 s1 s2
  mt := S.mt
  fr := S.fr
/-- a list of one's own is changed -/
theorem Sl.write (S : Sl m K Hb H σ ds) {i : Nat} {xs ys : List Dat} {l : Addr} {ws : List V} (e : ds[i]? = some (.own xs)) (el : σ[i]? = some (some (.ref l))) (hw : IsL K Hb ys ws) : Sl m K Hb (upd H l (.lst ws)) σ (ds.set i (.own ys)) := by
  obtain ⟨l', vs, el', h1, h2, h3, h4, h5⟩ := S.own e
  rw [el] at el'
  cases el'
  have hi : i < ds.length := (List.getElem?_eq_some_iff.mp e).1
  refine ⟨fun a o h => ?_, by rw [List.length_set, S.len], fun j s ej => ?_, fun j k ys zs l' e1 e2 s1 s2 => ?_, fun a ha => ?_, fun a ha => ?_⟩
  · have na : a ≠ l := fun q => by rw [q, h1] at h; cases h
    rw [upd_ne na]
    exact S.sub a o h
  · by_cases hj : i = j
    · subst hj
      rw [List.getElem?_set_self hi] at ej
      cases Option.some.inj ej
      exact ⟨_, el, l, ws, rfl, h1, h2, upd_same, hw, h5⟩
    · rw [List.getElem?_set_ne hj] at ej
      obtain ⟨o, e1, h⟩ := S.at_ j s ej
      refine ⟨o, e1, ?_⟩
      cases s with
      | no => trivial
      | dat d => exact h
      | own zs =>
        obtain ⟨l2, us, e2, a1, a2, a3, a4, a5⟩ := h
        have nl : l2 ≠ l := fun q => by
          rw [q] at e2
          exact hj (S.sep i j xs zs l e ej el (by rw [e1, e2]))
        exact ⟨l2, us, e2, a1, a2, by rw [upd_ne nl]; exact a3, a4, a5⟩
      | mu => exact h
      | wk C ns zs =>
        obtain ⟨l2, dx, us, e2, a1, a2, a3, a4, a5⟩ := h
        have nl : l2 ≠ l := fun q => by
          rw [q, h3] at a3
          cases a3
        exact ⟨l2, dx, us, e2, a1, a2, by rw [upd_ne nl]; exact a3, a4, a5⟩
  · have o1 : ∃ ts, ds[j]? = some (.own ts) := by
      by_cases hj : i = j
      · exact ⟨xs, hj ▸ e⟩
      · rw [List.getElem?_set_ne hj] at e1; exact ⟨_, e1⟩
    have o2 : ∃ ts, ds[k]? = some (.own ts) := by
      by_cases hj : i = k
      · exact ⟨xs, hj ▸ e⟩
      · rw [List.getElem?_set_ne hj] at e2; exact ⟨_, e2⟩
    obtain ⟨t1, q1⟩ := o1
    obtain ⟨t2, q2⟩ := o2
    exact S.sep j k t1 t2 l' q1 q2 s1 s2
  · obtain ⟨b1, o, b2, b3⟩ := S.mt a ha
    have na : a ≠ l := fun q => h2 (q ▸ ha)
    exact ⟨b1, o, by rw [upd_ne na]; exact b2, b3⟩
  · by_cases na : a = l
    · rw [na]; exact h5
    · rw [upd_ne na] at ha; exact S.fr a ha
/-- a list of one's own is handed on -/
theorem Sl.freeze (S : Sl m K Hb H σ ds) {i : Nat} {xs : List Dat} {l : Addr} {vs : List V} (e : ds[i]? = some (.own xs)) (el : σ[i]? = some (some (.ref l))) (hv : H l = some (.lst vs)) : Sl m K (upd Hb l (.lst vs)) H σ (ds.set i (.dat (.lst xs))) := by
  obtain ⟨l', vs', el', h1, h2, h3, h4, h5⟩ := S.own e
  rw [el] at el'
  cases el'
  rw [hv] at h3
  cases h3
  have hi : i < ds.length := (List.getElem?_eq_some_iff.mp e).1
  have x1 : Ex Hb (upd Hb l (.lst vs)) := Ex.new h1
  refine ⟨fun a o h => ?_, by rw [List.length_set, S.len], fun j s ej => ?_, fun j k ys zs l' e1 e2 s1 s2 => ?_, fun a ha => ?_, S.fr⟩
  · by_cases na : a = l
    · rw [na, upd_same] at h; rw [na, hv]; exact h
    · rw [upd_ne na] at h; exact S.sub a o h
  · by_cases hj : i = j
    · subst hj
      rw [List.getElem?_set_self hi] at ej
      cases Option.some.inj ej
      exact ⟨_, el, _, rfl, l, vs, rfl, upd_same, IsL.mono x1 xs h4⟩
    · rw [List.getElem?_set_ne hj] at ej
      obtain ⟨o, e1, h⟩ := S.at_ j s ej
      refine ⟨o, e1, ?_⟩
      cases s with
      | no => trivial
      | dat d => obtain ⟨v, e2, h⟩ := h; exact ⟨v, e2, Is.mono x1 d h⟩
      | own zs =>
        obtain ⟨l2, us, e2, a1, a2, a3, a4, a5⟩ := h
        have nl : l2 ≠ l := fun q => by
          rw [q] at e2
          exact hj (S.sep i j xs zs l e ej el (by rw [e1, e2]))
        exact ⟨l2, us, e2, by rw [upd_ne nl]; exact a1, a2, a3, IsL.mono x1 zs a4, a5⟩
      | mu => exact h
      | wk C ns zs =>
        obtain ⟨l2, dx, us, e2, a1, a2, a3, a4, a5⟩ := h
        have nl : l2 ≠ l := fun q => by
          rw [q, hv] at a3
          cases a3
        exact ⟨l2, dx, us, e2, by rw [upd_ne nl]; exact a1, a2, a3, IsL.mono x1 zs a4, a5⟩
  · have o1 : ds[j]? = some (.own ys) := by
      by_cases hj : i = j
      · subst hj; rw [List.getElem?_set_self hi] at e1; cases Option.some.inj e1
      · rw [List.getElem?_set_ne hj] at e1; exact e1
    have o2 : ds[k]? = some (.own zs) := by
      by_cases hj : i = k
      · subst hj; rw [List.getElem?_set_self hi] at e2; cases Option.some.inj e2
      · rw [List.getElem?_set_ne hj] at e2; exact e2
    exact S.sep j k ys zs l' o1 o2 s1 s2
  · obtain ⟨b1, b2⟩ := S.mt a ha
    have na : a ≠ l := fun q => h2 (q ▸ ha)
    exact ⟨by rw [upd_ne na]; exact b1, b2⟩
/-- a slot is forgotten -/
theorem Sl.wipe (S : Sl m K Hb H σ ds) {i : Nat} : Sl m K Hb H (σ.set i none) (ds.set i .no) where
  sub := S.sub
  len := by rw [List.length_set, List.length_set, S.len]
  at_ := fun j s e => by
    by_cases hj : i = j
    · subst hj
      have hi : i < ds.length := by
        have := (List.getElem?_eq_some_iff.mp e).1
        rwa [List.length_set] at this
      rw [List.getElem?_set_self hi] at e
      cases Option.some.inj e
      exact ⟨none, List.getElem?_set_self (by rw [S.len]; exact hi), trivial⟩
    · rw [List.getElem?_set_ne hj] at e ⊢
      exact S.at_ j s e
  sep := fun j k ys zs l' e1 e2 s1 s2 => by
    have nj : i ≠ j := fun q => by
      subst q
      have hi : i < σ.length := by
        have := (List.getElem?_eq_some_iff.mp s1).1
        rwa [List.length_set] at this
      rw [List.getElem?_set_self hi] at s1
      cases Option.some.inj s1
    have nk : i ≠ k := fun q => by
      subst q
      have hi : i < σ.length := by
        have := (List.getElem?_eq_some_iff.mp s2).1
        rwa [List.length_set] at this
      rw [List.getElem?_set_self hi] at s2
      cases Option.some.inj s2
    rw [List.getElem?_set_ne nj] at e1 s1
    rw [List.getElem?_set_ne nk] at e2 s2
    exact S.sep j k ys zs l' e1 e2 s1 s2
  mt := S.mt
  fr := S.fr
end
end RR
/-! ### RCalc2 -/
/-! The calculus: what an expression's reading comes to, over data. -/
namespace RR
open PySem PySem.Spec PyProof.Rows L2 Evl
section
variable (m : Md) (K : PySem.W.Frag)
def EvD (te : TE) (ds : Ds) (d : Dat) : Prop := ∀ (Hb H : Hp) (σ : L2.St) (Q : VK), Sl m K Hb H σ ds → (∀ v Hb' H', Gr m Hb H Hb' H' → Is K Hb' d v → Q v H') → te σ H Q
/-- a new list that nobody else has -/
def EvO (te : TE) (ds : Ds) (xs : List Dat) : Prop := ∀ (Hb H : Hp) (σ : L2.St) (Q : VK), Sl m K Hb H σ ds →
  (∀ l vs Hb' H', Gr m Hb H Hb' H' → Hb' l = none → H l = none → ¬ m.M l → H' l = some (.lst vs) → IsL K Hb' xs vs → Q (.ref l) H') → te σ H Q
def EvT (tt : TT) (ds : Ds) (b : Bool) : Prop := ∀ (Hb H : Hp) (σ : L2.St) (Q : Bool → Hp → Prop), Sl m K Hb H σ ds → (∀ Hb' H', Gr m Hb H Hb' H' → Q b H') → tt σ H Q
def EvA (ta : TA) (ds : Ds) (dl : List Dat) : Prop := ∀ (Hb H : Hp) (σ : L2.St) (Q : List V → Hp → Prop), Sl m K Hb H σ ds → (∀ vs Hb' H', Gr m Hb H Hb' H' → IsL K Hb' dl vs → Q vs H') → ta σ H Q
/-- a part of a slice -/
def EvP (to : TO) (ds : Ds) (o : Option Int) : Prop := ∀ (Hb H : Hp) (σ : L2.St) (Q : Option Int → Hp → Prop), Sl m K Hb H σ ds → (∀ Hb' H', Gr m Hb H Hb' H' → Q o H') → to σ H Q
def RvD (r : R2) (x y z : Dat) : Prop := ∀ (Hb H : Hp) (u v : V) (Q : VK), Ex Hb H → Is K Hb x u → Is K Hb y v → (∀ w Hb' H', Gr m Hb H Hb' H' → Is K Hb' z w → Q w H') → r u v H Q
def RcD (r : List V → Hp → VK → Prop) (dl : List Dat) (z : Dat) : Prop := ∀ (Hb H : Hp) (vs : List V) (Q : VK), Ex Hb H → IsL K Hb dl vs → (∀ w Hb' H', Gr m Hb H Hb' H' → Is K Hb' z w → Q w H') → r vs H Q
end
section
variable {m : Md} {K : PySem.W.Frag} {ds : Ds} {ta tb te ti : TE} {d x y z : Dat} {t u : TT} {r : R2}
theorem ev_var {i : Nat} (h : ds[i]? = some (.dat d)) : EvD m K (tVar i) ds d := fun Hb H σ Q S k => by
  obtain ⟨v, e, hv⟩ := S.dat h
  exact ⟨v, e, k v Hb H (.refl S.sub) hv⟩
theorem ev_int {i : Int} : EvD m K (tC (.int i)) ds (.int i) := fun Hb H σ Q S k => k _ Hb H (.refl S.sub) rfl
theorem ev_bl {b : Bool} : EvD m K (tC (.bl b)) ds (.bl b) := fun Hb H σ Q S k => k _ Hb H (.refl S.sub) rfl
theorem ev_str {x : Str} : EvD m K (tC (.str x)) ds (.str x) := fun Hb H σ Q S k => k _ Hb H (.refl S.sub) rfl
theorem ev_non : EvD m K (tC .non) ds .non := fun Hb H σ Q S k => k _ Hb H (.refl S.sub) rfl
theorem EvD.to {te : TE} {d d' : Dat} (h : EvD m K te ds d) (e : d = d') : EvD m K te ds d' := e ▸ h
theorem EvT.to {tt : TT} {b b' : Bool} (h : EvT m K tt ds b) (e : b = b') : EvT m K tt ds b' := e ▸ h
theorem EvO.to {te : TE} {xs ys : List Dat} (h : EvO m K te ds xs) (e : xs = ys) : EvO m K te ds ys := e ▸ h
theorem ev_op (ha : EvD m K ta ds x) (hb : EvD m K tb ds y) (hr : RvD m K r x y z) : EvD m K (tOp r ta tb) ds z := fun Hb H σ Q S k =>
  ha Hb H σ _ S fun v Hb1 H1 g1 h1 => hb Hb1 H1 σ _ (S.grow g1) fun w Hb2 H2 g2 h2 => hr Hb2 H2 v w Q g2.s (Is.mono g2.b x h1) h2 fun q Hb3 H3 g3 h3 => k q Hb3 H3 ((g1.trans g2).trans g3) h3
theorem ev_un {r : V → Hp → VK → Prop} (ha : EvD m K ta ds x) (hr : ∀ (Hb H : Hp) (u : V) (Q : VK), Ex Hb H → Is K Hb x u → (∀ w Hb' H', Gr m Hb H Hb' H' → Is K Hb' z w → Q w H') → r u H Q) : EvD m K (tUn r ta) ds z := fun Hb H σ Q S k =>
  ha Hb H σ _ S fun v Hb1 H1 g1 h1 => hr Hb1 H1 v Q g1.s h1 fun q Hb3 H3 g3 h3 => k q Hb3 H3 (g1.trans g3) h3
theorem ev_neg {i : Int} (ha : EvD m K ta ds (.int i)) : EvD m K (tUn (rU fun i => .int (-i)) ta) ds (.int (-i)) :=
  ev_un ha fun Hb H u Q s h k => ⟨i, h, k _ Hb H (.refl s) rfl⟩
/-! ### operations on data -/
theorem rv_int {g : Int → Int → Int} {i j : Int} : RvD m K (rI0 fun i j => .int (g i j)) (.int i) (.int j) (.int (g i j)) := fun Hb H u v Q s hu hv k => ⟨i, j, hu, hv, k _ Hb H (.refl s) rfl⟩
theorem rv_bl {g : Int → Int → Bool} {i j : Int} : RvD m K (rI0 fun i j => .bl (g i j)) (.int i) (.int j) (.bl (g i j)) := fun Hb H u v Q s hu hv k => ⟨i, j, hu, hv, k _ Hb H (.refl s) rfl⟩
theorem rv_intC {C : Int → Int → Prop} {g : Int → Int → Int} {i j : Int} (c : C i j) : RvD m K (rI C fun i j => .int (g i j)) (.int i) (.int j) (.int (g i j)) := fun Hb H u v Q s hu hv k => ⟨i, j, hu, hv, c, k _ Hb H (.refl s) rfl⟩
theorem rv_eq {i j : Int} : RvD m K rEq (.int i) (.int j) (.bl (decide (i = j))) := fun Hb H u v Q s hu hv k => by
  rw [show u = .int i from hu, show v = .int j from hv]
  refine ⟨rfl, ?_⟩
  rw [show decide (V.int i = V.int j) = decide (i = j) from dec_int.trans rfl]
  exact k _ Hb H (.refl s) rfl
theorem rv_ne {i j : Int} : RvD m K rNe (.int i) (.int j) (.bl (!decide (i = j))) := fun Hb H u v Q s hu hv k => by
  rw [show u = .int i from hu, show v = .int j from hv]
  refine ⟨rfl, ?_⟩
  rw [show decide (V.int i = V.int j) = decide (i = j) from dec_int.trans rfl]
  exact k _ Hb H (.refl s) rfl
theorem rv_neS {i j : Str} : RvD m K rNe (.str i) (.str j) (.bl (!decide (i = j))) := fun Hb H u v Q s hu hv k => by
  rw [show u = .str i from hu, show v = .str j from hv]
  refine ⟨rfl, ?_⟩
  rw [show decide (V.str i = V.str j) = decide (i = j) from by by_cases h : i = j <;> simp [h]]
  exact k _ Hb H (.refl s) rfl
theorem rv_neB {i j : Bool} : RvD m K rNe (.bl i) (.bl j) (.bl (!decide (i = j))) := fun Hb H u v Q s hu hv k => by
  rw [show u = .bl i from hu, show v = .bl j from hv]
  refine ⟨rfl, ?_⟩
  rw [show decide (V.bl i = V.bl j) = decide (i = j) from by cases i <;> cases j <;> rfl]
  exact k _ Hb H (.refl s) rfl
/-- is None -/
def Dat.isNon : Dat → Bool
  | .non => true
  | _ => false
theorem Is.isNon {H : Hp} : ∀ {d : Dat} {v : V}, Is K H d v → decide (v = .non) = d.isNon
  | .non, v, h => by rw [show v = .non from h] <;> rfl
  | .bl _, v, h => by rw [show v = _ from h] <;> rfl
  | .int _, v, h => by rw [show v = _ from h] <;> rfl
  | .str _, v, h => by rw [show v = _ from h] <;> rfl
  | .lst _, v, ⟨p, vs, h, _⟩ => by rw [h] <;> rfl
  | .tup _, v, ⟨p, vs, h, _⟩ => by rw [h] <;> rfl
  | .rat _ _, v, ⟨p, dx, h, _⟩ => by rw [h] <;> rfl
  | .root _ _ _, v, ⟨p, dx, _, _, _, h, _⟩ => by rw [h] <;> rfl
  | .ob _ _ _, v, ⟨p, dx, _, h, _⟩ => by rw [h] <;> rfl
abbrev rIsNon : R2 := fun x y H Q => y = .non ∧ Q (.bl (decide (x = .non))) H
theorem rv_isN : RvD m K rIsNon x .non (.bl x.isNon) := fun Hb H u v Q s hu hv k => ⟨hv, k _ Hb H (.refl s) (by rw [hu.isNon] <;> rfl)⟩
/-- items -/
theorem atI_get2 {ds : List Dat} {vs : List V} {H : Hp} (h : IsL K H ds vs) {i : Int} {d : Dat} (e : atI ds i = some d) : ∃ v, atI vs i = some v ∧ Is K H d v := by
  unfold atI at e ⊢
  rw [h.length]
  obtain ⟨j, e1, e2⟩ := Option.bind_eq_some_iff.mp e
  obtain ⟨v, e3, h3⟩ := h.get e2
  exact ⟨v, Option.bind_eq_some_iff.mpr ⟨j, e1, e3⟩, h3⟩
theorem rv_ixL {xs : List Dat} {i : Int} (e : atI xs i = some d) : RvD m K (rIxL K) (.lst xs) (.int i) d := fun Hb H u v Q s hu hv k => by
  obtain ⟨p, vs, h1, h2, h3⟩ := hu
  obtain ⟨w, e1, hw⟩ := atI_get2 h3 e
  exact ⟨p, vs, i, w, h1, hv, .inl (.inl (s _ _ h2)), e1, k w Hb H (.refl s) hw⟩
theorem rv_ixT {xs : List Dat} {i : Int} (e : atI xs i = some d) : RvD m K (rIxT K) (.tup xs) (.int i) d := fun Hb H u v Q s hu hv k => by
  obtain ⟨p, vs, h1, h2, h3⟩ := hu
  obtain ⟨w, e1, hw⟩ := atI_get2 h3 e
  exact ⟨p, vs, i, w, h1, hv, .inl (.inl (s _ _ h2)), e1, k w Hb H (.refl s) hw⟩
/-- an item of a list of one's own -/
theorem ev_ixO {i : Nat} {xs : List Dat} {j : Int} (h : ds[i]? = some (.own xs)) (hi : EvD m K ti ds (.int j)) (e : atI xs j = some d) : EvD m K (tOp (rIxL K) (tVar i) ti) ds d := fun Hb H σ Q S k => by
  obtain ⟨l, vs, e1, _⟩ := S.own h
  refine ⟨.ref l, e1, ?_⟩
  refine hi Hb H σ _ S fun v Hb' H' g hv => ?_
  obtain ⟨l', vs', e1', h1, h2, h3, h4, _⟩ := (S.grow g).own h
  rw [e1] at e1'
  cases e1'
  obtain ⟨w, e5, hw⟩ := atI_get2 h4 e
  exact ⟨l, vs', j, w, rfl, hv, .inl (.inl h3), e5, k w Hb' H' g hw⟩
/-! ### tests, truth values, choices -/
theorem et_test {b : Bool} (h : EvD m K te ds (.bl b)) : EvT m K (tTest te) ds b := fun Hb H σ Q S k => h Hb H σ _ S fun v Hb' H' g hv => ⟨b, hv, k Hb' H' g⟩
theorem et_B {b : Bool} (h : EvD m K te ds (.bl b)) : EvT m K (tB te) ds b := fun Hb H σ Q S k => h Hb H σ _ S fun v Hb' H' g hv => ⟨b, hv, k Hb' H' g⟩
theorem et_yes : EvT m K tYes ds true := fun Hb H σ Q S k => k Hb H (.refl S.sub)
theorem et_not {a : Bool} (h : EvT m K t ds a) : EvT m K (tNot t) ds (!a) := fun Hb H σ Q S k => h Hb H σ _ S k
theorem et_and {a b : Bool} (h1 : EvT m K t ds a) (h2 : a = true → EvT m K u ds b) : EvT m K (tAnd t u) ds (a && b) := fun Hb H σ Q S k => h1 Hb H σ _ S fun Hb1 H1 g1 => by
  cases a with
  | true => exact h2 rfl Hb1 H1 σ Q (S.grow g1) fun Hb2 H2 g2 => k Hb2 H2 (g1.trans g2)
  | false => exact k Hb1 H1 g1
theorem et_or {a b : Bool} (h1 : EvT m K t ds a) (h2 : a = false → EvT m K u ds b) : EvT m K (tOr t u) ds (a || b) := fun Hb H σ Q S k => h1 Hb H σ _ S fun Hb1 H1 g1 => by
  cases a with
  | true => exact k Hb1 H1 g1
  | false => exact h2 rfl Hb1 H1 σ Q (S.grow g1) fun Hb2 H2 g2 => k Hb2 H2 (g1.trans g2)
theorem ev_andV {a b : Bool} (h1 : EvD m K ta ds (.bl a)) (h2 : a = true → EvD m K tb ds (.bl b)) : EvD m K (tAndV ta tb) ds (.bl (a && b)) := fun Hb H σ Q S k => h1 Hb H σ _ S fun v Hb1 H1 g1 hv => ⟨a, hv, by
  cases a with
  | true => exact h2 rfl Hb1 H1 σ Q (S.grow g1) fun w Hb2 H2 g2 hw => k w Hb2 H2 (g1.trans g2) hw
  | false => exact k _ Hb1 H1 g1 rfl⟩
theorem ev_orV {a b : Bool} (h1 : EvD m K ta ds (.bl a)) (h2 : a = false → EvD m K tb ds (.bl b)) : EvD m K (tOrV ta tb) ds (.bl (a || b)) := fun Hb H σ Q S k => h1 Hb H σ _ S fun v Hb1 H1 g1 hv => ⟨a, hv, by
  cases a with
  | true => exact k _ Hb1 H1 g1 rfl
  | false => exact h2 rfl Hb1 H1 σ Q (S.grow g1) fun w Hb2 H2 g2 hw => k w Hb2 H2 (g1.trans g2) hw⟩
theorem ev_notV {a : Bool} (h1 : EvD m K ta ds (.bl a)) : EvD m K (tNotV ta) ds (.bl (!a)) := fun Hb H σ Q S k => h1 Hb H σ _ S fun v Hb1 H1 g1 hv => ⟨a, hv, k _ Hb1 H1 g1 rfl⟩
theorem ev_if {b : Bool} (h : EvT m K t ds b) (h1 : b = true → EvD m K ta ds d) (h2 : b = false → EvD m K tb ds d) : EvD m K (tIf t ta tb) ds d := fun Hb H σ Q S k => h Hb H σ _ S fun Hb1 H1 g1 => by
  cases b with
  | true => exact h1 rfl Hb1 H1 σ Q (S.grow g1) fun w Hb2 H2 g2 hw => k w Hb2 H2 (g1.trans g2) hw
  | false => exact h2 rfl Hb1 H1 σ Q (S.grow g1) fun w Hb2 H2 g2 hw => k w Hb2 H2 (g1.trans g2) hw
theorem eo_if {b : Bool} {xs : List Dat} (h : EvT m K t ds b) (h1 : b = true → EvO m K ta ds xs) (h2 : b = false → EvO m K tb ds xs) : EvO m K (tIf t ta tb) ds xs := fun Hb H σ Q S k => h Hb H σ _ S fun Hb1 H1 g1 => by
  cases b with
  | true => exact h1 rfl Hb1 H1 σ Q (S.grow g1) fun l vs Hb2 H2 g2 a1 a2 a3 a4 a5 => k l vs Hb2 H2 (g1.trans g2) a1 (g1.back a2) a3 a4 a5
  | false => exact h2 rfl Hb1 H1 σ Q (S.grow g1) fun l vs Hb2 H2 g2 a1 a2 a3 a4 a5 => k l vs Hb2 H2 (g1.trans g2) a1 (g1.back a2) a3 a4 a5
/-! ### arguments, calls -/
theorem ea_nil : EvA m K tNil ds [] := fun Hb H σ Q S k => k _ Hb H (.refl S.sub) rfl
theorem ea_cons {tr : TA} {dl : List Dat} (h : EvD m K te ds d) (hr : EvA m K tr ds dl) : EvA m K (tCons te tr) ds (d :: dl) := fun Hb H σ Q S k =>
  h Hb H σ _ S fun v Hb1 H1 g1 hv => hr Hb1 H1 σ _ (S.grow g1) fun vs Hb2 H2 g2 hvs => k _ Hb2 H2 (g1.trans g2) (IsL.cons (Is.mono g2.b d hv) hvs)
/-- a promise over data: called with dl it hands back d -/
def spD (K : PySem.W.Frag) (P : List Dat → Dat → Prop) : Sp := fun vs H Q _ => ∃ Hb dl d, Ex Hb H ∧ IsL K Hb dl vs ∧ P dl d ∧ ∀ v Hb' H', Gr pure0 Hb H Hb' H' → Is K Hb' d v → Q v H'
def tCf (sp : Sp) (t : TA) : TE := fun σ H Q => t σ H fun vs H1 => sp vs H1 Q E0
theorem ev_call {P : List Dat → Dat → Prop} {t : TA} {dl : List Dat} (h : EvA m K t ds dl) (p : P dl d) : EvD m K (tCf (spD K P) t) ds d := fun Hb H σ Q S k =>
  h Hb H σ _ S fun vs Hb1 H1 g1 hv => ⟨Hb1, dl, d, g1.s, hv, p, fun v Hb' H' g hd => k v Hb' H' (g1.trans g.any) hd⟩
theorem ev_cb {r : List V → Hp → VK → Prop} {t : TA} {dl : List Dat} (h : EvA m K t ds dl) (hr : RcD m K r dl z) : EvD m K (tCB r t) ds z := fun Hb H σ Q S k =>
  h Hb H σ _ S fun vs Hb1 H1 g1 hv => hr Hb1 H1 vs Q g1.s hv fun w Hb' H' g hw => k w Hb' H' (g1.trans g) hw
/-! ### new lists and tuples -/
/-- an object of one's own is handed on: nobody changes it any more -/
theorem Gr.add {Hb H Hb' H' : Hp} {l : Addr} {o : HO} (g : Gr m Hb H Hb' H') (h1 : Hb' l = none) (h2 : H l = none) (h3 : H' l = some o) : Gr m Hb H (upd Hb' l o) H' where
  b := g.b.trans (Ex.new h1)
  s := fun x u e => by
    by_cases q : x = l
    · rw [q, upd_same] at e; rw [q, h3]; exact e
    · rw [upd_ne q] at e; exact g.s x u e
  k := g.k
  t := g.t
  f := fun x e n => by
    by_cases q : x = l
    · rw [q]; exact h2
    · rw [upd_ne q] at e; exact g.f x e n
  j := g.j
theorem EvO.dd {xs : List Dat} (h : EvO m K te ds xs) : EvD m K te ds (.lst xs) := fun Hb H σ Q S k => h Hb H σ Q S fun l vs Hb' H' g h1 h2 h3 h4 h5 =>
  k (.ref l) _ H' (g.add h1 h2 h4) ⟨l, vs, rfl, upd_same, IsL.mono (Ex.new h1) xs h5⟩
/-- a reading that lays a new list -/
theorem eo_new {Hb H : Hp} {σ : L2.St} {Q : VK} {xs : List Dat} {vs : List V} (S : Sl m K Hb H σ ds) (hv : IsL K Hb xs vs) (k : ∀ l vs Hb' H', Gr m Hb H Hb' H' → Hb' l = none → H l = none → ¬ m.M l → H' l = some (.lst vs) → IsL K Hb' xs vs → Q (.ref l) H') :
    ∀ l, H l = none → Q (.ref l) (upd H l (.lst vs)) := fun l hl =>
  k l vs Hb _ (.grow S.sub (Ex.new hl)) (fresh_back S.sub hl) hl (fun hm => by
    obtain ⟨_, o, e, _⟩ := S.mt l hm
    rw [e] at hl
    cases hl) upd_same hv
theorem EvO.pre {Hb H Hb1 H1 : Hp} {Q : VK} {xs : List Dat} (g1 : Gr m Hb H Hb1 H1) (k : ∀ l vs Hb' H', Gr m Hb H Hb' H' → Hb' l = none → H l = none → ¬ m.M l → H' l = some (.lst vs) → IsL K Hb' xs vs → Q (.ref l) H') :
    ∀ l vs Hb' H', Gr m Hb1 H1 Hb' H' → Hb' l = none → H1 l = none → ¬ m.M l → H' l = some (.lst vs) → IsL K Hb' xs vs → Q (.ref l) H' := fun l vs Hb2 H2 g2 a1 a2 a3 a4 a5 => k l vs Hb2 H2 (g1.trans g2) a1 (g1.back a2) a3 a4 a5
theorem eo_lst {t : TA} {dl : List Dat} (h : EvA m K t ds dl) (hl : dl.length ≤ 100000) : EvO m K (tLst t) ds dl := fun Hb H σ Q S k =>
  h Hb H σ _ S fun vs Hb1 H1 g1 hv => ⟨by rw [hv.length]; exact sz_of hl, eo_new (S.grow g1) hv (EvO.pre g1 k)⟩
theorem ev_tup {t : TA} {dl : List Dat} (h : EvA m K t ds dl) (hl : dl.length ≤ 100000) : EvD m K (tTup t) ds (.tup dl) := fun Hb H σ Q S k =>
  h Hb H σ _ S fun vs Hb1 H1 g1 hv => ⟨by rw [hv.length]; exact sz_of hl, fun p hp =>
    k (.ref p) _ _ (g1.trans (Gr.new g1.s hp)) ⟨p, vs, rfl, upd_same, IsL.mono (Ex.new (fresh_back g1.s hp)) dl hv⟩⟩
/-- a new list by an operation, by a call of a builtin -/
theorem eo_op {xs : List Dat} (ha : EvD m K ta ds x) (hb : EvD m K tb ds y) (hr : ∀ (Hb H : Hp) (u v : V) (Q : VK), Ex Hb H → Is K Hb x u → Is K Hb y v → (∀ vs, IsL K Hb xs vs → ∀ l, H l = none → Q (.ref l) (upd H l (.lst vs))) → r u v H Q) : EvO m K (tOp r ta tb) ds xs := fun Hb H σ Q S k =>
  ha Hb H σ _ S fun v Hb1 H1 g1 h1 => hb Hb1 H1 σ _ (S.grow g1) fun w Hb2 H2 g2 h2 => hr Hb2 H2 v w Q g2.s (Is.mono g2.b x h1) h2 fun vs hv => eo_new ((S.grow g1).grow g2) hv (EvO.pre (g1.trans g2) k)
theorem eo_rep {xs : List Dat} {n : Int} (ha : EvO m K ta ds xs) (hb : EvD m K tb ds (.int n)) (hn : -(2 ^ 62) ≤ n ∧ n ≤ 100000) (hz : xs.length * n.toNat ≤ 100000) : EvO m K (tOp rRep ta tb) ds ((List.replicate n.toNat xs).flatten) := by
  intro Hb H σ Q S k
  have ha2 := EvO.dd ha
  refine eo_op (r := rRep) ha2 hb (fun Hb H u v Q s hu hv q => ?_) Hb H σ Q S k
  obtain ⟨p, vs, h1, h2, h3⟩ := hu
  refine ⟨p, n, vs, h1, hv, s _ _ h2, by omega, by omega, by rw [h3.length]; exact sz_of hz, q _ ?_⟩
  clear hz hn
  induction n.toNat with
  | zero => exact rfl
  | succ j ih =>
    rw [List.replicate_succ, List.replicate_succ, List.flatten_cons, List.flatten_cons]
    exact IsL.append h3 ih
theorem eo_cat {xs ys : List Dat} (ha : EvD m K ta ds (.lst xs)) (hb : EvD m K tb ds (.lst ys)) (hz : xs.length + ys.length ≤ 100000) : EvO m K (tOp rCat ta tb) ds (xs ++ ys) :=
  eo_op ha hb fun Hb H u v Q s hu hv q => by
    obtain ⟨p, vs, h1, h2, h3⟩ := hu
    obtain ⟨p', vs', h1', h2', h3'⟩ := hv
    exact ⟨p, p', vs, vs', h1, h1', s _ _ h2, s _ _ h2', by rw [h3.length, h3'.length]; exact sz_of hz, q _ (IsL.append h3 h3')⟩
/-! ### builtins -/
theorem ev_len {xs : List Dat} (ha : EvD m K ta ds (.lst xs)) : EvD m K (tCB (rLenS K) (tCons ta tNil)) ds (.int xs.length) :=
  ev_cb (ea_cons ha ea_nil) fun Hb H vs Q s hv k => by
    obtain ⟨v, r, e, ⟨p, us, h1, h2, h3⟩, e2⟩ := hv
    rw [e, h1, show r = [] from e2]
    exact ⟨p, us, rfl, .inl (.inl (.inl (s _ _ h2))), k _ Hb H (.refl s) (by rw [h3.length] <;> rfl)⟩
theorem ev_lenT {xs : List Dat} (ha : EvD m K ta ds (.tup xs)) : EvD m K (tCB (rLenS K) (tCons ta tNil)) ds (.int xs.length) :=
  ev_cb (ea_cons ha ea_nil) fun Hb H vs Q s hv k => by
    obtain ⟨v, r, e, ⟨p, us, h1, h2, h3⟩, e2⟩ := hv
    rw [e, h1, show r = [] from e2]
    exact ⟨p, us, rfl, .inr (.inl (.inl (s _ _ h2))), k _ Hb H (.refl s) (by rw [h3.length] <;> rfl)⟩
theorem ev_lenO {i : Nat} {xs : List Dat} (h : ds[i]? = some (.own xs)) : EvD m K (tCB (rLenS K) (tCons (tVar i) tNil)) ds (.int xs.length) := fun Hb H σ Q S k => by
  obtain ⟨l, vs, e1, h1, h2, h3, h4, _⟩ := S.own h
  exact ⟨.ref l, e1, l, vs, rfl, .inl (.inl (.inl h3)), k _ Hb H (.refl S.sub) (by rw [h4.length] <;> rfl)⟩
theorem eo_list {xs : List Dat} (ha : EvD m K ta ds (.lst xs)) : EvO m K (tCB (rListS K) (tCons ta tNil)) ds xs := fun Hb H σ Q S k =>
  ha Hb H σ _ S fun v Hb1 H1 g1 hv => by
    obtain ⟨p, us, h1, h2, h3⟩ := hv
    exact ⟨p, us, by rw [h1], .inl (.inl (.inl (g1.s _ _ h2))), eo_new (S.grow g1) h3 (EvO.pre g1 k)⟩
theorem eo_listT {xs : List Dat} (ha : EvD m K ta ds (.tup xs)) : EvO m K (tCB (rListS K) (tCons ta tNil)) ds xs := fun Hb H σ Q S k =>
  ha Hb H σ _ S fun v Hb1 H1 g1 hv => by
    obtain ⟨p, us, h1, h2, h3⟩ := hv
    exact ⟨p, us, by rw [h1], .inr (.inl (.inl (g1.s _ _ h2))), eo_new (S.grow g1) h3 (EvO.pre g1 k)⟩
/-- list(a slot of one's own) -/
theorem eo_listO {i : Nat} {xs : List Dat} (h : ds[i]? = some (.own xs)) : EvO m K (tCB (rListS K) (tCons (tVar i) tNil)) ds xs := fun Hb H σ Q S k => by
  obtain ⟨l, vs, e1, h1, h2, h3, h4, _⟩ := S.own h
  exact ⟨.ref l, e1, l, vs, rfl, .inl (.inl (.inl h3)), eo_new S h4 k⟩
/-! ### slices -/
theorem ep_none : EvP m K tNoPart ds none := fun Hb H σ Q S k => k Hb H (.refl S.sub)
theorem ep_some {i : Int} (h : EvD m K te ds (.int i)) : EvP m K (tPart te) ds (some i) := fun Hb H σ Q S k => h Hb H σ _ S fun v Hb1 H1 g1 hv => ⟨i, hv, k Hb1 H1 g1⟩
def cutD (xs : List Dat) (lo hi : Option Int) : List Dat := (xs.drop (HT.sIx xs.length 0 lo)).take (HT.sIx xs.length xs.length hi - HT.sIx xs.length 0 lo)
theorem IsL.cut {H : Hp} {xs : List Dat} {vs : List V} (h : IsL K H xs vs) (lo hi : Option Int) : IsL K H (cutD xs lo hi) (cutV vs lo hi) := by
  unfold cutD cutV
  rw [h.length]
  exact (h.drop _).take _
theorem eo_slice {xs : List Dat} {tl th : TO} {lo hi : Option Int} (ha : EvD m K ta ds (.lst xs)) (hl : EvP m K tl ds lo) (hh : EvP m K th ds hi) : EvO m K (tSl (rSlL K) ta tl th) ds (cutD xs lo hi) := fun Hb H σ Q S k =>
  ha Hb H σ _ S fun v Hb1 H1 g1 hv => hl Hb1 H1 σ _ (S.grow g1) fun Hb2 H2 g2 => hh Hb2 H2 σ _ ((S.grow g1).grow g2) fun Hb3 H3 g3 => by
    obtain ⟨p, us, h1, h2, h3⟩ := hv
    exact ⟨p, us, h1, .inl (.inl (g3.s _ _ (g3.b _ _ (g2.b _ _ h2)))), eo_new (((S.grow g1).grow g2).grow g3) (IsL.mono (g2.b.trans g3.b) _ (h3.cut lo hi)) (EvO.pre ((g1.trans g2).trans g3) k)⟩
theorem eo_sliceO {i : Nat} {xs : List Dat} {tl th : TO} {lo hi : Option Int} (h : ds[i]? = some (.own xs)) (hl : EvP m K tl ds lo) (hh : EvP m K th ds hi) : EvO m K (tSl (rSlL K) (tVar i) tl th) ds (cutD xs lo hi) := fun Hb H σ Q S k => by
  obtain ⟨l, vs, e1, _⟩ := S.own h
  refine ⟨.ref l, e1, ?_⟩
  refine hl Hb H σ _ S fun Hb2 H2 g2 => hh Hb2 H2 σ _ (S.grow g2) fun Hb3 H3 g3 => ?_
  obtain ⟨l', vs', e1', h1, h2, h3, h4, _⟩ := ((S.grow g2).grow g3).own h
  rw [e1] at e1'
  cases e1'
  exact ⟨l, vs', rfl, .inl (.inl h3), eo_new ((S.grow g2).grow g3) (h4.cut lo hi) (EvO.pre (g2.trans g3) k)⟩
theorem eo_rev {xs : List Dat} (ha : EvD m K ta ds (.lst xs)) : EvO m K (tRevL K ta) ds xs.reverse := fun Hb H σ Q S k =>
  ha Hb H σ _ S fun v Hb1 H1 g1 hv => by
    obtain ⟨p, us, h1, h2, h3⟩ := hv
    exact ⟨p, us, h1, .inl (.inl (g1.s _ _ h2)), eo_new (S.grow g1) h3.reverse (EvO.pre g1 k)⟩
end
end RR
/-! ### RCalc3 -/
/-! The calculus: statements, loops, comprehensions, over data. -/
namespace RR
open PySem PySem.Spec PyProof.Rows L2 Evl
/-- the state of a body: since the entry (Hb0, H0) -/
structure Stt (m : Md) (K : PySem.W.Frag) (Hb0 H0 : Hp) (ds : Ds) (Hb : Hp) (σ : L2.St) (H : Hp) : Prop where
  gr : Gr m Hb0 H0 Hb H
  sl : Sl m K Hb H σ ds
  ff : ∀ l, m.F l → H0 l = none
def SD (m : Md) (K : PySem.W.Frag) (t : TS) (ds : Ds) (N : Ds → Prop) (R : Dat → Prop) : Prop := ∀ (Hb0 H0 Hb : Hp) (σ : L2.St) (H : Hp) (D : Ends), Stt m K Hb0 H0 ds Hb σ H →
  (∀ ds' Hb' σ' H', N ds' → Ex Hb Hb' → Stt m K Hb0 H0 ds' Hb' σ' H' → D.nx σ' H') → (∀ d v Hb' H', R d → Gr m Hb0 H0 Hb' H' → Is K Hb' d v → D.rt v H') → t D σ H
section
variable {m : Md} {K : PySem.W.Frag} {ds ds1 : Ds} {ta tb te ti to : TE} {d x y z : Dat} {tt : TT} {t u : TS} {N M : Ds → Prop} {R : Dat → Prop} {Hb0 H0 Hb H Hb' H' : Hp} {σ : L2.St}
theorem Stt.grow (S : Stt m K Hb0 H0 ds Hb σ H) (g : Gr m Hb H Hb' H') : Stt m K Hb0 H0 ds Hb' σ H' := ⟨S.gr.trans g, S.sl.grow g, S.ff⟩
theorem sd_seq (h : SD m K t ds M R) (k : ∀ ds', M ds' → SD m K u ds' N R) : SD m K (tSeq t u) ds N R := fun Hb0 H0 Hb σ H D S n r =>
  h Hb0 H0 Hb σ H { D with nx := u D } S (fun ds' Hb' σ' H' e x S' => k ds' e Hb0 H0 Hb' σ' H' D S' (fun ds2 Hb2 σ2 H2 e2 x2 => n ds2 Hb2 σ2 H2 e2 (x.trans x2)) r) r
theorem sd_then (h : SD m K t ds (· = ds1) R) (k : SD m K u ds1 N R) : SD m K (tSeq t u) ds N R := sd_seq h fun _ e => e ▸ k
theorem SD.weak {N' : Ds → Prop} {R' : Dat → Prop} (h : SD m K t ds N R) (hn : ∀ d, N d → N' d) (hr : ∀ d, R d → R' d) : SD m K t ds N' R' := fun Hb0 H0 Hb σ H D S n r =>
  h Hb0 H0 Hb σ H D S (fun ds' Hb' σ' H' e x => n ds' Hb' σ' H' (hn _ e) x) fun d v Hb' H' e => r d v Hb' H' (hr _ e)
theorem sd_next (n : N ds) : SD m K tNext ds N R := fun Hb0 H0 Hb σ H D S k _ => k ds Hb σ H n (Ex.refl _) S
theorem sd_set {i : Nat} (h : EvD m K te ds d) (n : N (ds.set i (.dat d))) : SD m K (tAsg te (gName i)) ds N R := fun Hb0 H0 Hb σ H D S k _ =>
  h Hb H σ _ S.sl fun v Hb' H' g hv => k _ Hb' _ H' n g.b ⟨S.gr.trans g, (S.sl.grow g).set hv, S.ff⟩
theorem sd_own {i : Nat} {xs : List Dat} (h : EvO m K te ds xs) (n : N (ds.set i (.own xs))) : SD m K (tAsg te (gName i)) ds N R := fun Hb0 H0 Hb σ H D S k _ =>
  h Hb H σ _ S.sl fun l vs Hb' H' g h1 h2 h3 h4 h5 => k _ Hb' _ H' n g.b ⟨S.gr.trans g, (S.sl.grow g).setO h1 h3 h4 h5 (S.sl.fr l h2) (fun j ys _ e q => by
    obtain ⟨l', vs', e', _, _, b3, _⟩ := S.sl.own e
    rw [q] at e'
    cases e'
    rw [h2] at b3
    cases b3), S.ff⟩
theorem sd_ret (h : EvD m K te ds d) (r : R d) : SD m K (tRet te) ds N R := fun Hb0 H0 Hb σ H D S _ k =>
  h Hb H σ _ S.sl fun v Hb' H' g hv => k d v Hb' H' r (S.gr.trans g) hv
theorem sd_if {b : Bool} (h : EvT m K tt ds b) (h1 : b = true → SD m K t ds N R) (h2 : b = false → SD m K u ds N R) : SD m K (tIfS tt t u) ds N R := fun Hb0 H0 Hb σ H D S n r =>
  h Hb H σ _ S.sl fun Hb' H' g => by
    cases b with
    | true => exact h1 rfl Hb0 H0 Hb' σ H' D (S.grow g) (fun ds2 Hb2 σ2 H2 e2 x2 => n ds2 Hb2 σ2 H2 e2 (g.b.trans x2)) r
    | false => exact h2 rfl Hb0 H0 Hb' σ H' D (S.grow g) (fun ds2 Hb2 σ2 H2 e2 x2 => n ds2 Hb2 σ2 H2 e2 (g.b.trans x2)) r
theorem sd_drop (h : EvD m K te ds d) (n : N ds) : SD m K (tDrop te) ds N R := fun Hb0 H0 Hb σ H D S k _ =>
  h Hb H σ _ S.sl fun v Hb' H' g hv => k ds Hb' σ H' n g.b (S.grow g)
/-- a list of one's own is handed on -/
theorem sd_freeze {i : Nat} {xs : List Dat} (e : ds[i]? = some (.own xs)) (h : SD m K t (ds.set i (.dat (.lst xs))) N R) : SD m K t ds N R := fun Hb0 H0 Hb σ H D S n r => by
  obtain ⟨l, vs, el, h1, h2, h3, h4, h5⟩ := S.sl.own e
  exact h Hb0 H0 _ σ H D ⟨S.gr.add h1 (S.ff l h5) h3, S.sl.freeze e el h3, S.ff⟩ (fun ds2 Hb2 σ2 H2 e2 x2 => n ds2 Hb2 σ2 H2 e2 ((Ex.new h1).trans x2)) r
/-- a list of one's own is written -/
theorem Stt.write (S : Stt m K Hb0 H0 ds Hb σ H) {i : Nat} {xs ys : List Dat} {l : Addr} {ws : List V} (e : ds[i]? = some (.own xs)) (el : σ[i]? = some (some (.ref l))) (hw : IsL K Hb ys ws) : Stt m K Hb0 H0 (ds.set i (.own ys)) Hb σ (upd H l (.lst ws)) := by
  have S2 := S.sl.write e el hw
  obtain ⟨l', vs, el', h1, h2, h3, h4, h5⟩ := S.sl.own e
  rw [el] at el'
  cases el'
  have n0 := S.ff l h5
  refine ⟨⟨S.gr.b, S2.sub, fun a o hm ha => ?_, fun a ha => ?_, S.gr.f, fun a hm ha => ?_⟩, S2, S.ff⟩
  · have na : a ≠ l := ne_of_none ha n0
    rw [upd_ne na]
    exact S.gr.k a o hm ha
  · by_cases na : a = l
    · rw [na, upd_same]; exact Option.some_ne_none _
    · rw [upd_ne na]; exact S.gr.t a ha
  · obtain ⟨o, b1, b2⟩ := S.gr.j a hm ha
    have na : a ≠ l := fun q => h2 (q ▸ hm)
    exact ⟨o, by rw [upd_ne na]; exact b1, b2⟩
theorem ixN_of {n j : Nat} (h : j < n) : ixN n (j : Int) = some j := ixN_nat h
/-- xs.append(e) -/
theorem sd_app {i : Nat} {xs : List Dat} (e : ds[i]? = some (.own xs)) (h : EvD m K te ds d) (hz : xs.length < 100000) (n : N (ds.set i (.own (xs ++ [d])))) : SD m K (tDrop (tBM K "list" rAppend (tVar i) (tCons te tNil))) ds N R := fun Hb0 H0 Hb σ H D S k _ => by
  obtain ⟨l, vs, el, h1, h2, h3, h4, h5⟩ := S.sl.own e
  refine ⟨.ref l, el, .inl ⟨rfl, _, .inl (.inl h3)⟩, ?_⟩
  refine h Hb H σ _ S.sl fun v Hb' H' g hv => ?_
  obtain ⟨l', vs', el', _, _, h3', h4', _⟩ := (S.sl.grow g).own e
  rw [el] at el'
  cases el'
  exact ⟨l, vs', v, rfl, rfl, h3', by rw [h4'.length]; exact sz_lt hz, k _ Hb' σ _ n g.b ((S.grow g).write e el (h4'.append (.cons hv .nil)))⟩
/-- xs.pop() -/
theorem sd_pop {i : Nat} {xs : List Dat} (e : ds[i]? = some (.own (xs ++ [x]))) (n : N (ds.set i (.own xs))) : SD m K (tDrop (tBM0 K "list" rPop (tVar i))) ds N R := fun Hb0 H0 Hb σ H D S k _ => by
  obtain ⟨l, vs, el, h1, h2, h3, h4, h5⟩ := S.sl.own e
  have hl := h4.length
  rw [List.length_append] at hl
  obtain ⟨w, ew, _⟩ := h4.get (i := vs.length - 1) (d := x) (by rw [hl]; simp)
  refine ⟨.ref l, el, .inl ⟨rfl, _, .inl (.inl h3)⟩, l, vs, w, rfl, rfl, h3, ew, k _ Hb σ _ n (Ex.refl _) (S.write e el ?_)⟩
  have q := h4.take xs.length
  rw [List.take_left] at q
  rw [List.dropLast_eq_take, hl]
  exact q
/-- xs[i] = e -/
theorem sd_store {i : Nat} {xs : List Dat} {j : Nat} (e : ds[i]? = some (.own xs)) (h : EvD m K te ds d) (hi : EvD m K ti ds (.int (j : Int))) (hj : j < xs.length) (n : N (ds.set i (.own (xs.set j d)))) : SD m K (tAsg te (gSub (tVar i) ti rSetL)) ds N R := fun Hb0 H0 Hb σ H D S k _ =>
  h Hb H σ _ S.sl fun v Hb1 H1 g1 hv => by
    obtain ⟨l, vs, el, _⟩ := S.sl.own e
    refine ⟨.ref l, el, ?_⟩
    refine hi Hb1 H1 σ _ (S.sl.grow g1) fun w Hb2 H2 g2 hw => ?_
    obtain ⟨l', vs', el', _, _, h3', h4', _⟩ := ((S.sl.grow g1).grow g2).own e
    rw [el] at el'
    cases el'
    refine ⟨l, vs', (j : Int), j, rfl, hw, h3', ixN_of (by rw [h4'.length]; exact hj), ?_⟩
    exact k _ Hb2 σ _ n (g1.b.trans g2.b) (((S.grow g1).grow g2).write e el (h4'.set (Is.mono g2.b d hv)))
/-- xs[i] op= e -/
def rGetL (K : PySem.W.Frag) : V → V → Hp → VK → Prop := fun x y H Q => ∃ p xs i v, x = .ref p ∧ y = .int i ∧ SqL K H p xs ∧ atI xs i = some v ∧ Q v H
theorem sd_augS {i : Nat} {xs : List Dat} {j : Nat} {a b : Int} {f : Int → Int → Int} (e : ds[i]? = some (.own xs)) (hi : EvD m K ti ds (.int (j : Int))) (ha : xs[j]? = some (.int a)) (h : EvD m K te ds (.int b)) (n : N (ds.set i (.own (xs.set j (.int (f a b)))))) :
    SD m K (tAugS (tVar i) ti te (rGetL K) (ipI f) rSetL) ds N R := fun Hb0 H0 Hb σ H D S k _ => by
  obtain ⟨l, vs, el, _⟩ := S.sl.own e
  have hj : j < xs.length := (List.getElem?_eq_some_iff.mp ha).1
  refine ⟨.ref l, el, ?_⟩
  refine hi Hb H σ _ S.sl fun v Hb1 H1 g1 hv => ?_
  obtain ⟨l1, vs1, el1, _, _, c3, c4, _⟩ := (S.sl.grow g1).own e
  rw [el] at el1
  cases el1
  obtain ⟨w, ew, hw⟩ := c4.get ha
  refine ⟨l, vs1, (j : Int), w, rfl, hv, .inl (.inl c3), atI_nat ew, ?_⟩
  refine h Hb1 H1 σ _ (S.sl.grow g1) fun y Hb2 H2 g2 hy => ?_
  obtain ⟨l', vs', el', _, _, h3', h4', _⟩ := ((S.sl.grow g1).grow g2).own e
  rw [el] at el'
  cases el'
  refine ⟨a, b, hw, hy, l, vs', (j : Int), j, rfl, hv, h3', ixN_of (by rw [h4'.length]; exact hj), ?_⟩
  exact k _ Hb2 σ _ n (g1.b.trans g2.b) (((S.grow g1).grow g2).write e el (h4'.set rfl))
/-! ### several targets at once -/
theorem sd_par {i j : Nat} {ta : TA} (h : EvA m K ta ds [x, y]) (n : N ((ds.set i (.dat x)).set j (.dat y))) : SD m K (tPar i j ta) ds N R := fun Hb0 H0 Hb σ H D S k _ =>
  h Hb H σ _ S.sl fun vs Hb' H' g hv => by
    obtain ⟨v, r, e1, h1, w, r2, e2, h2, e3⟩ := hv
    refine ⟨v, w, by rw [e1, e2, show r2 = [] from e3], ?_⟩
    exact k _ Hb' _ H' n g.b ⟨S.gr.trans g, ((S.sl.grow g).set h1).set h2, S.ff⟩
/-- the first one a list of one's own -/
theorem sd_parO {i j : Nat} {xs : List Dat} {t1 t2 : TE} (h1 : EvO m K t1 ds xs) (h2 : EvD m K t2 ds y) (hij : i ≠ j) (n : N ((ds.set i (.own xs)).set j (.dat y))) : SD m K (tPar i j (tCons t1 (tCons t2 tNil))) ds N R := fun Hb0 H0 Hb σ H D S k _ =>
  h1 Hb H σ _ S.sl fun l vs Hb1 H1 g1 a1 a2 a3 a4 a5 => h2 Hb1 H1 σ _ (S.sl.grow g1) fun w Hb2 H2 g2 hw => by
    refine ⟨.ref l, w, rfl, ?_⟩
    have q : Hb2 l = none := by
      cases c : Hb2 l with
      | none => rfl
      | some o =>
        have := g2.f l (by rw [c]; exact Option.some_ne_none _) a1
        rw [a4] at this
        cases this
    exact k _ Hb2 _ H2 n (g1.b.trans g2.b) ⟨(S.gr.trans g1).trans g2, (((S.sl.grow g1).grow g2).setO q a3 (g2.k l _ a3 a4) (IsL.mono g2.b xs a5) (S.sl.fr l a2) (fun k' ys _ e q2 => by
      obtain ⟨l', vs', e', _, _, b3, _⟩ := S.sl.own e
      rw [q2] at e'
      cases e'
      rw [a2] at b3
      cases b3)).set hw, S.ff⟩
theorem sd_par3 {i j l : Nat} {ta : TA} (h : EvA m K ta ds [x, y, z]) (n : N (((ds.set i (.dat x)).set j (.dat y)).set l (.dat z))) : SD m K (tPar3 i j l ta) ds N R := fun Hb0 H0 Hb σ H D S k _ =>
  h Hb H σ _ S.sl fun vs Hb' H' g hv => by
    obtain ⟨v, r, e1, h1, w, r2, e2, h2, w3, r3, e3, h3, e4⟩ := hv
    refine ⟨v, w, w3, by rw [e1, e2, e3, show r3 = [] from e4], ?_⟩
    exact k _ Hb' _ H' n g.b ⟨S.gr.trans g, (((S.sl.grow g).set h1).set h2).set h3, S.ff⟩
/-- names off a tuple -/
def setAll : List Nat → List Dat → Ds → Ds
  | i :: is, d :: dl, ds => setAll is dl (ds.set i (.dat d))
  | _, _, ds => ds
def gNames : List Nat → TGs
  | [] => gNil
  | i :: is => gCons (gName i) (gNames is)
theorem Sl.setAll : ∀ {is : List Nat} {dl : List Dat} {vs : List V} {σ : L2.St} {ds : Ds} {Q : L2.St → Hp → Prop}, is.length = dl.length → Sl m K Hb H σ ds → IsL K Hb dl vs → (∀ σ', Sl m K Hb H σ' (RR.setAll is dl ds) → Q σ' H) → gNames is vs σ H Q
  | [], [], vs, σ, ds, Q, _, S, hv, k => ⟨hv, k σ S⟩
  | i :: is, d :: dl, vs, σ, ds, Q, hl, S, ⟨v, r, e, h1, h2⟩, k => ⟨v, r, e, Sl.setAll (is := is) (Nat.succ.inj hl) (S.set h1) h2 k⟩
  | [], _ :: _, _, _, _, _, hl, _, _, _ => by cases hl
  | _ :: _, [], _, _, _, _, hl, _, _, _ => by cases hl
theorem sd_unp {is : List Nat} {dl : List Dat} {k' : Nat} (h : EvD m K te ds (.tup dl)) (hl : is.length = dl.length) (hk : dl.length = k') (n : N (setAll is dl ds)) : SD m K (tAsg te (gTup K k' (gNames is))) ds N R := fun Hb0 H0 Hb σ H D S k _ =>
  h Hb H σ _ S.sl fun v Hb' H' g ⟨p, vs, h1, h2, h3⟩ => ⟨p, vs, h1, .inl (.inl (g.s _ _ h2)), by rw [h3.length, hk], Sl.setAll hl (S.sl.grow g) h3 fun σ' S' => k _ Hb' σ' H' n g.b ⟨S.gr.trans g, S', S.ff⟩⟩
theorem sd_unl {is : List Nat} {dl : List Dat} {k' : Nat} (h : EvD m K te ds (.lst dl)) (hl : is.length = dl.length) (hk : dl.length = k') (n : N (setAll is dl ds)) : SD m K (tAsg te (gUnl K k' (gNames is))) ds N R := fun Hb0 H0 Hb σ H D S k _ =>
  h Hb H σ _ S.sl fun v Hb' H' g ⟨p, vs, h1, h2, h3⟩ => ⟨p, vs, h1, .inl (.inl (g.s _ _ h2)), by rw [h3.length, hk], Sl.setAll hl (S.sl.grow g) h3 fun σ' S' => k _ Hb' σ' H' n g.b ⟨S.gr.trans g, S', S.ff⟩⟩
/-! ### while -/
theorem sd_while {tb : TS} (W : Nat → Ds → Prop) (m0 : Nat) (h0 : W m0 ds) (hs : ∀ n ds', W n ds' → ∃ b, EvT m K tt ds' b ∧ (b = true → SD m K tb ds' (fun ds2 => ∃ n', n' < n ∧ W n' ds2) R) ∧ (b = false → N ds')) : SD m K (tWhile tt tb) ds N R := fun Hb0 H0 Hb σ H D S k r =>
  ⟨fun n σ' H' => ∃ ds' Hb', W n ds' ∧ Ex Hb Hb' ∧ Stt m K Hb0 H0 ds' Hb' σ' H', ⟨m0, ds, Hb, h0, Ex.refl _, S⟩, fun n σ' H' ⟨ds', Hb', w, x1, S'⟩ => by
    obtain ⟨b, hb, h1, h2⟩ := hs n ds' w
    refine hb Hb' H' σ' _ S'.sl fun Hb2 H2 g => ?_
    cases b with
    | true =>
      refine ⟨fun σ3 H3 => ∃ n', n' < n ∧ ∃ ds3 Hb3, W n' ds3 ∧ Ex Hb Hb3 ∧ Stt m K Hb0 H0 ds3 Hb3 σ3 H3, fun _ _ q => q, ?_⟩
      exact h1 rfl Hb0 H0 Hb2 σ' H2 _ (S'.grow g) (fun ds3 Hb3 σ3 H3 ⟨n', l, w'⟩ x3 S3 => ⟨n', l, ds3, Hb3, w', (x1.trans g.b).trans x3, S3⟩) r
    | false => exact k ds' Hb2 σ' H2 (h2 rfl) (x1.trans g.b) (S'.grow g)⟩
/-! ### what is walked -/
theorem set_off1 {σ : L2.St} (j : Nat) (x : Option V) : (σ.set j x).length = σ.length ∧ ∀ l, l ∉ [j] → (σ.set j x)[l]? = σ[l]? := ⟨List.length_set, fun l h => List.getElem?_set_ne (fun q => h (by simp [q]))⟩
theorem set_off2 {σ : L2.St} (i j : Nat) (x y : Option V) : ((σ.set i x).set j y).length = σ.length ∧ ∀ l, l ∉ [i, j] → ((σ.set i x).set j y)[l]? = σ[l]? := ⟨by rw [List.length_set, List.length_set], fun l h => by
  rw [List.getElem?_set_ne (fun q => h (by simp [q])), List.getElem?_set_ne (fun q => h (by simp [q]))]⟩
/-- n turns; turn i sets the target as T i tells -/
def ItD (m : Md) (K : PySem.W.Frag) (wi : TI) (g : TG) (ds : Ds) (n : Nat) (T : Nat → Ds → Ds) (js : List Nat) : Prop := ∀ (Hb H : Hp) (σ : L2.St) (R : It → Hp → Prop), Sl m K Hb H σ ds →
  (∀ (J : It) (G : Hp → Prop) (Y : Nat → Hp → V → Hp → Prop) (Hb1 H1 : Hp), Gr m Hb H Hb1 H1 → Walk J n G Y → (∀ H2, Ex Hb1 H2 → G H2) →
    (∀ i x Hb2 H2 H3 σ2 ds2 (Q : L2.St → Hp → Prop), i < n → Ex Hb1 Hb2 → Sl m K Hb2 H2 σ2 ds2 → Y i H2 x H3 → (∀ σ3 H4, Gr m Hb2 H2 Hb2 H4 → Sl m K Hb2 H4 σ3 (T i ds2) → σ3.length = σ2.length ∧ (∀ j, j ∉ js → σ3[j]? = σ2[j]?) → Q σ3 H4) → g x σ2 H3 Q) → R J H1) → wi σ H R
theorem it_list {xs : List Dat} {j : Nat} {tl : TE} (h : EvD m K tl ds (.lst xs)) : ItD m K (iList K tl) (gName j) ds xs.length (fun i ds2 => match xs[i]? with | some d => ds2.set j (.dat d) | none => ds2) [j] := fun Hb H σ R S k =>
  h Hb H σ _ S fun v Hb1 H1 g ⟨p, vs, h1, h2, h3⟩ => ⟨p, h1, ⟨vs, .inl (.inl (g.s _ _ h2))⟩, k _ (fun H2 => SqL K H2 p vs) (YAt vs) Hb1 H1 g (h3.length ▸ walk_list) (fun H2 e => .inl (.inl (e _ _ h2)))
    fun i x Hb2 H2 H3 σ2 ds2 Q hi e2 S2 y q => by
      obtain ⟨y1, y2⟩ := y
      rw [y1]
      obtain ⟨d, ed⟩ : ∃ d, xs[i]? = some d := ⟨xs[i], List.getElem?_eq_getElem hi⟩
      obtain ⟨w, ew, hw⟩ := h3.get ed
      rw [ew] at y2
      cases Option.some.inj y2
      simp only [ed] at q
      exact q _ H2 (.refl S2.sub) (S2.set (Is.mono e2 d hw)) (set_off1 _ _)⟩
theorem it_tup {xs : List Dat} {j : Nat} {tl : TE} (h : EvD m K tl ds (.tup xs)) : ItD m K (iTup K tl) (gName j) ds xs.length (fun i ds2 => match xs[i]? with | some d => ds2.set j (.dat d) | none => ds2) [j] := fun Hb H σ R S k =>
  h Hb H σ _ S fun v Hb1 H1 g ⟨p, vs, h1, h2, h3⟩ => ⟨p, h1, ⟨vs, .inl (.inl (g.s _ _ h2))⟩, k _ (fun H2 => SqT K H2 p vs) (YAt vs) Hb1 H1 g (h3.length ▸ walk_tup) (fun H2 e => .inl (.inl (e _ _ h2)))
    fun i x Hb2 H2 H3 σ2 ds2 Q hi e2 S2 y q => by
      obtain ⟨y1, y2⟩ := y
      rw [y1]
      obtain ⟨d, ed⟩ : ∃ d, xs[i]? = some d := ⟨xs[i], List.getElem?_eq_getElem hi⟩
      obtain ⟨w, ew, hw⟩ := h3.get ed
      rw [ew] at y2
      cases Option.some.inj y2
      simp only [ed] at q
      exact q _ H2 (.refl S2.sub) (S2.set (Is.mono e2 d hw)) (set_off1 _ _)⟩
theorem it_range1 {n : Int} {j : Nat} {ta : TA} (h : EvA m K ta ds [.int n]) (hn : n ≤ 100000 ∧ -100000 ≤ n) : ItD m K (iRng1 ta) (gName j) ds n.toNat (fun i ds2 => ds2.set j (.dat (.int (i : Int)))) [j] := fun Hb H σ R S k =>
  h Hb H σ _ S fun vs Hb1 H1 g hv => by
    obtain ⟨v, r, e1, h1, e2⟩ := hv
    refine ⟨n, by rw [e1, show r = [] from e2, show v = .int n from h1], by omega, by omega, k _ (fun _ => True) _ Hb1 H1 g walk_range (fun _ _ => trivial) fun i x Hb2 H2 H3 σ2 ds2 Q hi _ S2 y q => ?_⟩
    obtain ⟨y1, y2⟩ := y
    rw [y1, y2]
    exact q _ H2 (.refl S2.sub) (S2.set (show V.int (0 + (i : Int)) = V.int (i : Int) by rw [Int.zero_add])) (set_off1 _ _)
theorem it_range2 {a n : Int} {j : Nat} {ta : TA} (h : EvA m K ta ds [.int a, .int n]) (hn : n ≤ 100000 ∧ -100000 ≤ n ∧ a ≤ 100000 ∧ -100000 ≤ a) : ItD m K (iRng2 ta) (gName j) ds (n - a).toNat (fun i ds2 => ds2.set j (.dat (.int (a + (i : Int))))) [j] := fun Hb H σ R S k =>
  h Hb H σ _ S fun vs Hb1 H1 g hv => by
    obtain ⟨v, r, e1, h1, w, r2, e2, h2, e3⟩ := hv
    refine ⟨a, n, by rw [e1, e2, show r2 = [] from e3, show v = .int a from h1, show w = .int n from h2], ⟨by omega, by omega, by omega, by omega⟩, k _ (fun _ => True) _ Hb1 H1 g walk_range (fun _ _ => trivial) fun i x Hb2 H2 H3 σ2 ds2 Q hi _ S2 y q => ?_⟩
    obtain ⟨y1, y2⟩ := y
    rw [y1, y2]
    exact q _ H2 (.refl S2.sub) (S2.set rfl) (set_off1 _ _)
theorem it_range3 {a b c : Int} {n j : Nat} {ta : TA} (h : EvA m K ta ds [.int a, .int b, .int c]) (hn : RgC a b c n) : ItD m K (iRng3 ta) (gName j) ds n (fun i ds2 => ds2.set j (.dat (.int (a + (i : Int) * c)))) [j] := fun Hb H σ R S k =>
  h Hb H σ _ S fun vs Hb1 H1 g hv => by
    obtain ⟨v, r, e1, h1, w, r2, e2, h2, w3, r3, e3, h3, e4⟩ := hv
    refine ⟨a, b, c, n, by rw [e1, e2, e3, show r3 = [] from e4, show v = .int a from h1, show w = .int b from h2, show w3 = .int c from h3], hn, k _ (fun _ => True) _ Hb1 H1 g walk_rangeC (fun _ _ => trivial) fun i x Hb2 H2 H3 σ2 ds2 Q hi _ S2 y q => ?_⟩
    obtain ⟨y1, y2⟩ := y
    rw [y1, y2]
    exact q _ H2 (.refl S2.sub) (S2.set rfl) (set_off1 _ _)
abbrev gTwo (K : PySem.W.Frag) (i j : Nat) : TG := gTup K 2 (gCons (gName i) (gCons (gName j) gNil))
theorem two_of {Hb2 H2 H3 : Hp} {σ2 : L2.St} {ds2 : Ds} {i j : Nat} {d e : Dat} {a b x : V} {Q : L2.St → Hp → Prop} {T : Addr} (S2 : Sl m K Hb2 H2 σ2 ds2) (hT : H2 T = none) (h3 : H3 = upd H2 T (.tup [a, b])) (hx : x = .ref T) (ha : Is K Hb2 d a) (hb : Is K Hb2 e b)
    (q : ∀ σ3 H4, Gr m Hb2 H2 Hb2 H4 → Sl m K Hb2 H4 σ3 ((ds2.set i (.dat d)).set j (.dat e)) → σ3.length = σ2.length ∧ (∀ l, l ∉ [i, j] → σ3[l]? = σ2[l]?) → Q σ3 H4) : gTwo K i j x σ2 H3 Q := by
  subst h3 hx
  have g : Gr m Hb2 H2 Hb2 (upd H2 T (.tup [a, b])) := .grow S2.sub (Ex.new hT)
  exact ⟨T, [a, b], rfl, .inl (.inl upd_same), rfl, a, [b], rfl, b, [], rfl, rfl, q _ _ g (((S2.grow g).set ha).set hb) (set_off2 _ _ _ _)⟩
theorem it_enum {xs : List Dat} {i j : Nat} {ta : TA} (h : EvA m K ta ds [.lst xs]) : ItD m K (iEnum K ta) (gTwo K i j) ds xs.length (fun k ds2 => match xs[k]? with | some d => (ds2.set i (.dat (.int (k : Int)))).set j (.dat d) | none => ds2) [i, j] := fun Hb H σ R S k =>
  h Hb H σ _ S fun ws Hb1 H1 g hv => by
    obtain ⟨v, r, e1, ⟨p, vs, h1, h2, h3⟩, e2⟩ := hv
    refine ⟨p, vs, by rw [e1, h1, show r = [] from e2], .inl (.inl (g.s _ _ h2)), k _ (fun H2 => SqL K H2 p vs) _ Hb1 H1 g (h3.length ▸ walk_enum) (fun H2 e => .inl (.inl (e _ _ h2))) fun n x Hb2 H2 H3 σ2 ds2 Q hi e2 S2 y q => ?_⟩
    obtain ⟨T, a, b, y1, y2, y3, y4, y5⟩ := y
    obtain ⟨d, ed⟩ : ∃ d, xs[n]? = some d := ⟨xs[n], List.getElem?_eq_getElem hi⟩
    obtain ⟨w, ew, hw⟩ := h3.get ed
    have y6 : vs[n]? = some b := y5
    rw [ew] at y6
    cases Option.some.inj y6
    cases Option.some.inj y4
    simp only [ed] at q
    exact two_of S2 y2 y3 y1 (show Is K Hb2 (.int (n : Int)) (.int (n : Int)) from rfl) (Is.mono e2 d hw) q
theorem it_zip {xs ys : List Dat} {i j n : Nat} {ta : TA} (h : EvA m K ta ds [.lst xs, .lst ys]) (hx : xs.length = n) (hy : ys.length = n) : ItD m K (iZip K ta) (gTwo K i j) ds n (fun k ds2 => match xs[k]?, ys[k]? with | some d, some e => (ds2.set i (.dat d)).set j (.dat e) | _, _ => ds2) [i, j] := fun Hb H σ R S k =>
  h Hb H σ _ S fun ws Hb1 H1 g hv => by
    obtain ⟨v, r, e1, ⟨p, vs, h1, h2, h3⟩, v', r', e1', ⟨p', vs', h1', h2', h3'⟩, e2⟩ := hv
    refine ⟨p, p', vs, vs', by rw [e1, h1, e1', h1', show r' = [] from e2], .inl (.inl (g.s _ _ h2)), .inl (.inl (g.s _ _ h2')), k _ (fun H2 => SqL K H2 p vs ∧ SqL K H2 p' vs') _ Hb1 H1 g (walk_zip (by rw [h3.length, h3'.length, hx, hy]; simp)) (fun H2 e => ⟨.inl (.inl (e _ _ h2)), .inl (.inl (e _ _ h2'))⟩) fun n x Hb2 H2 H3 σ2 ds2 Q hi e2 S2 y q => ?_⟩
    obtain ⟨T, a, b, y1, y2, y3, y4, y5⟩ := y
    obtain ⟨d, ed⟩ : ∃ d, xs[n]? = some d := ⟨xs[n], List.getElem?_eq_getElem (by omega)⟩
    obtain ⟨e, ee⟩ : ∃ d, ys[n]? = some d := ⟨ys[n], List.getElem?_eq_getElem (by omega)⟩
    obtain ⟨w, ew, hw⟩ := h3.get ed
    obtain ⟨w', ew', hw'⟩ := h3'.get ee
    have y6 : vs'[n]? = some b := y5
    rw [ew'] at y6
    cases Option.some.inj y6
    have y7 : vs[n]? = some a := y4
    rw [ew] at y7
    cases Option.some.inj y7
    simp only [ed, ee] at q
    exact two_of S2 y2 y3 y1 (Is.mono e2 d hw) (Is.mono e2 e hw') q
/-! ### for -/
theorem sd_for {wi : TI} {g : TG} {tb : TS} {n : Nat} {T : Nat → Ds → Ds} {js : List Nat} (I : ItD m K wi g ds n T js) (W : Nat → Ds → Prop) (h0 : W 0 ds) (hs : ∀ i ds', i < n → W i ds' → SD m K tb (T i ds') (W (i + 1)) R) (hd : ∀ ds', W n ds' → N ds') : SD m K (tFor wi g tb) ds N R := fun Hb0 H0 Hb σ H D S k r =>
  I Hb H σ _ S.sl fun J G Y Hb1 H1 g1 w hG hy =>
    for_it w (fun i σ' H' => ∃ ds' Hb', W i ds' ∧ Ex Hb1 Hb' ∧ Stt m K Hb0 H0 ds' Hb' σ' H') ⟨ds, Hb1, h0, Ex.refl _, S.grow g1⟩ (fun i σ' H' _ ⟨ds', Hb', _, e, S'⟩ => hG H' (e.trans S'.sl.sub))
      (fun i x σ' H' H2 hi ⟨ds', Hb', wi', e, S'⟩ y => hy i x Hb' H' H2 σ' ds' _ hi e S'.sl y fun σ3 H4 g4 S4 _ =>
        hs i ds' hi wi' Hb0 H0 Hb' σ3 H4 _ ⟨S'.gr.trans g4, S4, S'.ff⟩ (fun ds2 Hb2 σ2 H2 w2 x2 S2 => ⟨ds2, Hb2, w2, e.trans x2, S2⟩) r)
      fun σ' H' ⟨ds', Hb', wn, e, S'⟩ => k ds' Hb' σ' H' (hd ds' wn) (g1.b.trans e) S'
end
end RR
/-! ### RCalc4 -/
/-! The calculus: comprehensions, comparisons of data, the defs' promises. -/
namespace RR
open PySem PySem.Spec PyProof.Rows L2 Evl
section
variable {m : Md} {K : PySem.W.Frag} {ds : Ds} {ta tb te ti to : TE} {d x y z : Dat} {tt : TT} {Hb H Hb' H' : Hp} {σ : L2.St}
/-! ### a list that grows within a comprehension -/
theorem Gr.wr {l : Addr} {o : HO} (g : Gr m Hb H Hb' H') (n : H l = none) (n' : Hb' l = none) (hm : ¬ m.M l) : Gr m Hb H Hb' (upd H' l o) where
  b := g.b
  s := fun a u e => by rw [upd_ne (ne_of_none e n')]; exact g.s a u e
  k := fun a u ha e => by rw [upd_ne (ne_of_none e n)]; exact g.k a u ha e
  t := fun a e => by
    by_cases q : a = l
    · rw [q, upd_same]; exact Option.some_ne_none _
    · rw [upd_ne q]; exact g.t a e
  f := g.f
  j := fun a ha e => by
    obtain ⟨u, e1, e2⟩ := g.j a ha e
    have na : a ≠ l := fun q => hm (q ▸ ha)
    exact ⟨u, by rw [upd_ne na]; exact e1, e2⟩
/-- what the slots hold does not hang on a new list -/
theorem Sl.wr {l : Addr} {o : HO} (S : Sl m K Hb' H' σ ds) (n' : Hb' l = none) (hm : ¬ m.M l) (hf : m.F l) (hd : ∀ (i : Nat) (xs : List Dat), ds[i]? = some (.own xs) → σ[i]? ≠ some (some (.ref l))) (hw : ∀ c dx fs, H' l ≠ some (.ins c dx fs)) : Sl m K Hb' (upd H' l o) σ ds where
  sub := fun a u e => by rw [upd_ne (ne_of_none e n')]; exact S.sub a u e
  len := S.len
  at_ := fun i s e => by
    obtain ⟨q, e1, h⟩ := S.at_ i s e
    refine ⟨q, e1, ?_⟩
    cases s with
    | no => trivial
    | dat d => exact h
    | own xs =>
      obtain ⟨l2, us, e2, a1, a2, a3, a4, a5⟩ := h
      have nl : l2 ≠ l := fun q2 => hd i xs e (by rw [e1, e2, q2])
      exact ⟨l2, us, e2, a1, a2, by rw [upd_ne nl]; exact a3, a4, a5⟩
    | mu => exact h
    | wk C ns xs =>
      obtain ⟨l2, dx, us, e2, a1, a2, a3, a4, a5⟩ := h
      have nl : l2 ≠ l := fun q2 => hw _ _ _ (q2 ▸ a3)
      exact ⟨l2, dx, us, e2, a1, a2, by rw [upd_ne nl]; exact a3, a4, a5⟩
  sep := S.sep
  mt := fun a ha => by
    obtain ⟨b1, u, b2, b3⟩ := S.mt a ha
    have na : a ≠ l := fun q => hm (q ▸ ha)
    exact ⟨b1, u, by rw [upd_ne na]; exact b2, b3⟩
  fr := fun a ha => by
    by_cases na : a = l
    · rw [na]; exact hf
    · rw [upd_ne na] at ha; exact S.fr a ha
def wipeD (ds : Ds) : List Nat → Ds
  | [] => ds
  | v :: vs => (wipeD ds vs).set v .no
theorem Sl.wipes (S : Sl m K Hb H σ ds) : ∀ vs : List Nat, Sl m K Hb H (L2.wipe σ vs) (wipeD ds vs)
  | [] => S
  | v :: vs => (Sl.wipes S vs).wipe
theorem wipe_get {σ : L2.St} : ∀ {vs : List Nat} {i : Nat}, (wipe σ vs)[i]? = if i ∈ vs ∧ i < σ.length then some none else σ[i]?
  | [], i => by simp [wipe]
  | v :: vs, i => by
    unfold wipe
    by_cases hv : v = i
    · subst hv
      by_cases hl : v < σ.length
      · rw [List.getElem?_set_self (by rw [wipe_length]; exact hl), if_pos ⟨by simp, hl⟩]
      · rw [if_neg (fun h => hl h.2), List.getElem?_eq_none (by rw [List.length_set, wipe_length]; omega), List.getElem?_eq_none (by omega)]
    · rw [List.getElem?_set_ne hv, wipe_get (vs := vs)]
      have : (i ∈ v :: vs) ↔ i ∈ vs := by simp [Ne.symm hv]
      simp only [this]
theorem wipe_eq {σ σ2 : L2.St} {vs js : List Nat} (hl : σ2.length = σ.length) (hj : ∀ j ∈ js, j ∈ vs) (h : ∀ j, j ∉ js → σ2[j]? = (wipe σ vs)[j]?) : wipe σ2 vs = wipe σ vs := by
  apply List.ext_getElem?
  intro i
  rw [wipe_get, wipe_get, hl]
  by_cases q : i ∈ vs ∧ i < σ.length
  · rw [if_pos q, if_pos q]
  · rw [if_neg q, if_neg q]
    by_cases hi : i ∈ js
    · have : ¬ i < σ.length := fun z => q ⟨hj i hi, z⟩
      rw [List.getElem?_eq_none (by omega), List.getElem?_eq_none (by omega)]
    · rw [h i hi, wipe_get, if_neg q]
def given (n : Nat) (f : Nat → Bool) (y : Nat → Dat) : List Dat := ((List.range n).filter f).map y
theorem given_yes {n : Nat} {f : Nat → Bool} {v : Nat → Dat} (h : f n = true) : given (n + 1) f v = given n f v ++ [v n] := by
  simp [given, List.range_succ, List.filter_append, List.filter_cons, h]
theorem given_no {n : Nat} {f : Nat → Bool} {v : Nat → Dat} (h : f n = false) : given (n + 1) f v = given n f v := by
  simp [given, List.range_succ, List.filter_append, List.filter_cons, h]
theorem given_len (n : Nat) (f : Nat → Bool) (v : Nat → Dat) : (given n f v).length ≤ n := by
  have h := List.length_filter_le f (List.range n)
  rw [List.length_range] at h
  simpa [given] using h
theorem eo_lc {wi : TI} {g : TG} {vs js : List Nat} {n : Nat} {T : Nat → Ds → Ds} (I : ItD m K wi g ds n T js) (hj : ∀ j ∈ js, j ∈ vs) (f : Nat → Bool) (y : Nat → Dat) (hz : n ≤ 50000)
    (ht : ∀ i, i < n → EvT m K tt (T i (wipeD ds vs)) (f i)) (he : ∀ i, i < n → f i = true → EvD m K te (T i (wipeD ds vs)) (y i)) : EvO m K (tLc wi g tt te vs) ds (given n f y) := fun Hb H σ Q S k =>
  I Hb H σ _ S fun J G Y Hb1 H1 g1 w hG hy Dl hD => by
    have n0 : H Dl = none := g1.back hD
    have hm : ¬ m.M Dl := fun q => by
      obtain ⟨_, o, e, _⟩ := S.mt Dl q
      rw [n0] at e
      cases e
    have hf : m.F Dl := S.fr Dl n0
    have hd : ∀ (i : Nat) (xs : List Dat), ds[i]? = some (.own xs) → σ[i]? ≠ some (some (.ref Dl)) := fun i xs e q => by
      obtain ⟨l, us, e1, _, _, e2, _⟩ := S.own e
      rw [q] at e1
      cases e1
      rw [n0] at e2
      cases e2
    have S1 := S.grow g1
    have nb1 : Hb1 Dl = none := fresh_back g1.s hD
    refine lc_it w (fun i H2 => ∃ Hb2 acc, Gr m Hb H Hb2 H2 ∧ Sl m K Hb2 H2 σ ds ∧ Ex Hb1 Hb2 ∧ Hb2 Dl = none ∧ H2 Dl = some (.lst acc) ∧ IsL K Hb2 (given i f y) acc) ?_ (fun i H2 _ ⟨Hb2, acc, g2, S2, e2, _⟩ => hG H2 (e2.trans g2.s)) ?_ ?_
    · exact ⟨Hb1, [], g1.wr n0 nb1 hm, S1.wr nb1 hm hf hd (fun _ _ _ q => by rw [hD] at q; cases q), Ex.refl _, nb1, upd_same, rfl⟩
    · rintro i x H2 H3 hi ⟨Hb2, acc, g2, S2, e2, n2, h2, h3⟩ hyi
      refine hy i x Hb2 H2 H3 (wipe σ vs) (wipeD ds vs) _ hi e2 (S2.wipes vs) hyi fun σ3 H4 g4 S4 hoff => ⟨wipe_eq ?_ hj hoff.2, ?_⟩
      · rw [hoff.1, wipe_length]
      · have fin : ∀ Hb5 H5, Gr m Hb2 H4 Hb5 H5 → Gr m Hb H Hb5 H5 ∧ Sl m K Hb5 H5 σ ds ∧ Ex Hb1 Hb5 ∧ Hb5 Dl = none ∧ H5 Dl = some (.lst acc) := fun Hb5 H5 g5 => by
          have q4 : H4 Dl = some (.lst acc) := g4.k Dl _ hm h2
          refine ⟨(g2.trans g4).trans g5, (S2.grow g4).grow g5, e2.trans g5.b, ?_, g5.k Dl _ hm q4⟩
          cases c : Hb5 Dl with
          | none => rfl
          | some u =>
            have := g5.f Dl (by rw [c]; exact Option.some_ne_none _) n2
            rw [q4] at this
            cases this
        refine ht i hi Hb2 H4 σ3 _ S4 fun Hb5 H5 g5 => ?_
        cases hfi : f i with
        | false =>
          obtain ⟨f1, f2, f3, f4, f5⟩ := fin Hb5 H5 g5
          exact ⟨Hb5, acc, f1, f2, f3, f4, f5, by rw [given_no hfi]; exact IsL.mono g5.b _ h3⟩
        | true =>
          refine he i hi hfi Hb5 H5 σ3 _ (S4.grow g5) fun v Hb6 H6 g6 hv => ?_
          obtain ⟨f1, f2, f3, f4, f5⟩ := fin Hb6 H6 (g5.trans g6)
          refine ⟨acc, f5, by rw [h3.length]; exact sz_lt (by have := given_len i f y; omega), Hb6, acc ++ [v], f1.wr n0 f4 hm, f2.wr f4 hm hf hd (fun _ _ _ q => by rw [f5] at q; cases q), f3, f4, upd_same, ?_⟩
          rw [given_yes hfi]
          exact (IsL.mono (g5.b.trans g6.b) _ h3).append (.cons hv .nil)
    · rintro H2 ⟨Hb2, acc, g2, S2, e2, n2, h2, h3⟩
      exact k Dl acc Hb2 H2 g2 n2 n0 hm h2 h3
/-! ### data as the library's comparisons see it -/
theorem il_all {H : Hp} : ∀ l : List Int, DpAll K H (l.map V.int) (l.map PyData.int)
  | [] => .nil
  | i :: l => .cons (.int i) (il_all l)
theorem il_dp {l : List Int} {v : V} (s : Ex Hb H) (h : Is K Hb (il l) v) : Dp K H v (.list (l.map PyData.int)) := by
  obtain ⟨p, rfl, e⟩ := Is.il.mp h
  exact .lst (.inl (.inl (s _ _ e))) (il_all l)
theorem eqv_ints : ∀ l l' : List Int, PyData.eqvAll (l.map PyData.int) (l'.map PyData.int) = decide (l = l')
  | [], [] => by simp [PyData.eqvAll]
  | [], _ :: _ => by simp [PyData.eqvAll]
  | _ :: _, [] => by simp [PyData.eqvAll]
  | a :: l, b :: l' => by
    simp only [List.map_cons, PyData.eqvAll, PyData.eqv, eqv_ints l l']
    by_cases h1 : a = b <;> by_cases h2 : l = l' <;> simp [h1, h2]
theorem lay_ints : ∀ l : List Int, PyData.canLayAll0 (l.map PyData.int) = true
  | [] => rfl
  | a :: l => by simp only [List.map_cons, PyData.canLayAll0, lay_ints l] <;> rfl
theorem depth_ints : ∀ l : List Int, PyData.depthAll (l.map PyData.int) ≤ 1
  | [] => by simp [PyData.depthAll]
  | a :: l => by
    have := depth_ints l
    simp only [List.map_cons, PyData.depthAll, PyData.depth]
    omega
theorem shaped_il (l : List Int) : SeqAt.shaped (.list (l.map PyData.int)) = true := by
  have := depth_ints l
  rw [SeqAt.shaped, PyData.canLay0, lay_ints l, PyData.depth, Bool.true_and]
  exact decide_eq_true (by omega)
theorem rv_eqL {l l' : List Int} : RvD m K (rEqD K) (il l) (il l') (.bl (decide (l = l'))) := fun Hb H u v Q s hu hv k =>
  ⟨_, _, il_dp s hu, il_dp s hv, shaped_il l, shaped_il l', by
    rw [show PyData.eqv (.list (l.map PyData.int)) (.list (l'.map PyData.int)) = decide (l = l') from (by rw [PyData.eqv]; exact eqv_ints l l')]
    exact k _ Hb H (.refl s) rfl⟩
theorem rv_neL {l l' : List Int} : RvD m K (rNeD K) (il l) (il l') (.bl (!decide (l = l'))) := fun Hb H u v Q s hu hv k =>
  ⟨_, _, il_dp s hu, il_dp s hv, shaped_il l, shaped_il l', by
    rw [show PyData.eqv (.list (l.map PyData.int)) (.list (l'.map PyData.int)) = decide (l = l') from (by rw [PyData.eqv]; exact eqv_ints l l')]
    exact k _ Hb H (.refl s) rfl⟩
/-- a list of ints of one's own beside [] -/
theorem ev_neO {i : Nat} {l : List Int} (h : ds[i]? = some (.own (l.map Dat.int))) : EvD m K (tOp (rNeD K) (tVar i) (tLst tNil)) ds (.bl (!decide (l = []))) := fun Hb H σ Q S k => by
  obtain ⟨p, vs, e1, h1, h2, h3, h4, _⟩ := S.own h
  refine ⟨.ref p, e1, Nat.zero_le _, fun q hq => ?_⟩
  have g : Gr m Hb H Hb (upd H q (.lst [])) := .grow S.sub (Ex.new hq)
  have e := IsL.ints.mp h4
  subst e
  refine ⟨.list (l.map PyData.int), .list (([] : List Int).map PyData.int), .lst (.inl (.inl (Ex.new hq _ _ h3))) (il_all l), .lst (.inl (.inl upd_same)) .nil, shaped_il l, shaped_il [], ?_⟩
  rw [show PyData.eqv (.list (l.map PyData.int)) (.list (([] : List Int).map PyData.int)) = decide (l = []) from (by rw [PyData.eqv]; exact eqv_ints l [])]
  exact k _ Hb _ g rfl
theorem pair_dp {a b : List Int} {v : V} (s : Ex Hb H) (h : Is K Hb (.tup [il a, il b]) v) : Dp K H v (.tuple [.list (a.map PyData.int), .list (b.map PyData.int)]) := by
  obtain ⟨p, vs, rfl, e, v1, r, rfl, h1, v2, r2, rfl, h2, e3⟩ := h
  rw [show r2 = [] from e3] at e
  exact .tup (.inl (.inl (s _ _ e))) (.cons (il_dp s h1) (.cons (il_dp s h2) .nil))
theorem shaped_pair (a b : List Int) : SeqAt.shaped (.tuple [.list (a.map PyData.int), .list (b.map PyData.int)]) = true := by
  have h1 := depth_ints a
  have h2 := depth_ints b
  have e : PyData.depth (.tuple [.list (a.map PyData.int), .list (b.map PyData.int)]) ≤ 64 := by
    simp only [PyData.depth, PyData.depthAll]
    omega
  have c : PyData.canLay0 (.tuple [.list (a.map PyData.int), .list (b.map PyData.int)]) = true := by simp only [PyData.canLay0, PyData.canLayAll0, lay_ints, Bool.true_and]
  rw [SeqAt.shaped, c, Bool.true_and]
  exact decide_eq_true e
theorem rv_neT {a b c d : List Int} : RvD m K (rNeD K) (.tup [il a, il b]) (.tup [il c, il d]) (.bl (!(decide (a = c) && decide (b = d)))) := fun Hb H u v Q s hu hv k =>
  ⟨_, _, pair_dp s hu, pair_dp s hv, shaped_pair a b, shaped_pair c d, by
    rw [show PyData.eqv (.tuple [.list (a.map PyData.int), .list (b.map PyData.int)]) (.tuple [.list (c.map PyData.int), .list (d.map PyData.int)]) = (decide (a = c) && decide (b = d)) from (by simp only [PyData.eqv, PyData.eqvAll, eqv_ints, Bool.and_true])]
    exact k _ Hb H (.refl s) rfl⟩
end
/-! ### the defs' promises -/
section
variable {P : Program} {w : World} {K : PySem.W.Frag} {mg : Str → Option Value} {base : Heap}
/-- a def of the module, called by its name -/
structure Cal (P : Program) (w : World) (K : PySem.W.Frag) (mg : Str → Option Value) (base : Heap) (k : Nat) (x : Str) (sp : Sp) : Prop where
  run : FnR P w K mg base CX0 k (He.ga K x) sp
  gl : mg x = some (.ref (He.ga K x))
  kp : PySem.W.keepIn K (.ref (He.ga K x)) = true
theorem Cal.mono {j k : Nat} {x : Str} {sp : Sp} (c : Cal P w K mg base j x sp) (h : j ≤ k) : Cal P w K mg base k x sp := ⟨c.run.mono h, c.gl, c.kp⟩
theorem pe_cf {X : Cx} {k : Nat} {x : Str} {sp : Sp} {p pos : Pos} {e : Expr} {es : List Expr} {t : TA} (c : Cal X.prog X.w X.K X.mg X.base k x sp) (hr : Room k X.A) (hg : Gl X x) (ha : PA X (e :: es) t)
    (hdb : (x == ("__debug__" : Str)) = false := by decide) (he : starEach (e :: es) X.env = (false, eval e X.env) :: starEach es X.env := by rfl) (hpl : (backTo pos (starEach es X.env)).any (·.1) = false := by rfl) :
    PE X (.Call (.Name x p) (e :: es) [] pos) (tCf sp t) := by
  refine ⟨fun pins s σ H Q I h => ?_⟩
  refine wpAny_Call_Name_kw (ld_glob I hg c.gl ?_ hdb)
  exact PySem.W.callWith_K (h₀ := X.base) I.ok.mod.kin c.kp (thn (ha.run pos pins s σ H _ I h) fun us s1 ⟨vs, H1, I1, r, q⟩ => ⟨I1.kIn, wpAny_call (run_fnR c.run hr pass0 I1 r q)⟩) he hpl
def md0 (H0 : Hp) : Md := ⟨fun _ => False, fun _ => True, fun l => H0 l = none, fun l => H0 l = none⟩
theorem gr0 {H0 Hb H Hb' H' : Hp} (g : Gr (md0 H0) Hb H Hb' H') : Gr pure0 Hb H Hb' H' := ⟨g.b, g.s, g.k, g.t, g.f, fun a h => h.elim⟩
def ds0 (N : List Str) (dl : List Dat) : Ds := dl.map Sv.dat ++ List.replicate (N.length - dl.length) Sv.no
theorem sl0 {N : List Str} {dl : List Dat} {vs : List V} {Hb H : Hp} (s : Ex Hb H) (hv : IsL K Hb dl vs) : Sl (md0 H) K Hb H (start N vs) (ds0 N dl) where
  sub := s
  len := by simp [L2.start, ds0, hv.length]
  at_ := fun i q e => by
    unfold ds0 at e
    unfold L2.start
    by_cases hi : i < dl.length
    · rw [List.getElem?_append_left (by simpa using hi), List.getElem?_map, List.getElem?_eq_getElem hi] at e
      cases Option.some.inj e
      obtain ⟨v, e1, h⟩ := hv.get (List.getElem?_eq_getElem hi)
      refine ⟨some v, ?_, v, rfl, h⟩
      rw [List.getElem?_append_left (by rw [List.length_map, hv.length]; exact hi), List.getElem?_map, e1]
      rfl
    · have hl : i < (dl.map Sv.dat ++ List.replicate (N.length - dl.length) Sv.no).length := (List.getElem?_eq_some_iff.mp e).1
      rw [List.length_append, List.length_map, List.length_replicate] at hl
      rw [List.getElem?_append_right (by simpa using hi), List.getElem?_replicate] at e
      split at e
      · cases Option.some.inj e
        refine ⟨none, ?_, trivial⟩
        rw [List.getElem?_append_right (by rw [List.length_map, hv.length]; omega), List.getElem?_replicate, if_pos (by rw [List.length_map, hv.length]; omega)]
      · cases e
  sep := fun i j xs ys l e1 _ _ _ => by
    unfold ds0 at e1
    by_cases hi : i < dl.length
    · rw [List.getElem?_append_left (by simpa using hi), List.getElem?_map, List.getElem?_eq_getElem hi] at e1
      cases Option.some.inj e1
    · rw [List.getElem?_append_right (by simpa using hi), List.getElem?_replicate] at e1
      split at e1 <;> cases e1
  mt := fun a h => h.elim
  fr := fun l h => h
/-- THE RULE for a def without defaults -/
theorem fn_d {d : Df} {N ps : List Str} {k : Nat} {Pm : List Dat → Dat → Prop} (F : ∃ fd, FunD K d.name d.qual (defArgs d.st) (defBody d.st) (defScope d.st) [] [] (d.adr K) fd) (S : FnScope N ps (defScope d.st))
    (hb : ∀ (kV doc pm : Value) (an : Option Addr) (cdv ct : Value) (us : List Value), us.length = ps.length → bindArgs (PySem.W.fnOf d.name d.qual (defArgs d.st) (defBody d.st) (defScope d.st) .none kV doc pm an cdv ct) ⟨us, []⟩ = pure (ps.zip us))
    (hl : ∀ dl r, Pm dl r → dl.length = ps.length)
    (body : ∀ (cdv : Value) (A : Around) (outer : List Env) (s : Shared) (H : Hp) (E : XK), Room k (A.deeper (envOfC d.qual (defScope d.st) s.heap.objs.size (d.adr K) cdv)) → ∃ t, PSs (cxOf CX0 P w K mg base N d.qual (defScope d.st) (d.adr K) cdv A outer s H E).nox (defBody d.st) t ∧
      ∀ m dl r, Pm dl r → SD m K t (ds0 N dl) (fun _ => r = .non) (· = r)) : FnR P w K mg base CX0 (k + 1) (d.adr K) (spD K Pm) := by
  obtain ⟨fd, F⟩ := F
  have ok : FnOk P w K mg base CX0 (k + 1) (d.adr K) fd ps (spD K Pm) := F.ok S (fun vs H Q E ⟨Hb, dl, r, s, hv, p, _⟩ => by rw [hv.length]; exact hl dl r p)
    fun cdv A outer s H vs Q E hr ⟨Hb, dl, r, e, hv, p, q⟩ => let ⟨t, body, run⟩ := body cdv A outer s H E hr; ⟨t, body.nox,
      run (md0 H) dl r p Hb H Hb _ H _ ⟨.refl e, sl0 e hv, fun _ h => h⟩ (fun ds' Hb' σ' H' n _ S' => q .non Hb' H' (gr0 S'.gr) (by rw [n]; exact rfl)) fun d' v Hb' H' n g h => q v Hb' H' (gr0 g) (n ▸ h)⟩
  have r := ok.raw (F.bindsN hb) .nil
  exact r.imp fun vs H Q E h => by rw [List.append_nil]; exact h
end
end RR
/-! ### RCalc5 -/
/-! The calculus: known answers; list items by op=; isinstance; gcd and lcm; great divisors. -/
namespace RR
open PySem PySem.Spec PyProof.Rows L2 Evl
section
variable {m : Md} {K : PySem.W.Frag} {ds : Ds} {ta tb te ti to : TE} {d x y z : Dat} {tt t' : TT} {t u : TS} {N : Ds → Prop} {R : Dat → Prop}
theorem et_andF (h : EvT m K tt ds false) : EvT m K (tAnd tt t') ds false := et_and (b := false) h fun q => by cases q
theorem et_andT {b : Bool} (h : EvT m K tt ds true) (h2 : EvT m K t' ds b) : EvT m K (tAnd tt t') ds b := et_and (b := b) h fun _ => h2
theorem et_orT (h : EvT m K tt ds true) : EvT m K (tOr tt t') ds true := et_or (b := false) h fun q => by cases q
theorem et_orF {b : Bool} (h : EvT m K tt ds false) (h2 : EvT m K t' ds b) : EvT m K (tOr tt t') ds b := et_or (b := b) h fun _ => h2
theorem et_notT (h : EvT m K tt ds true) : EvT m K (tNot tt) ds false := et_not h
theorem et_notF (h : EvT m K tt ds false) : EvT m K (tNot tt) ds true := et_not h
theorem ev_andF (h : EvD m K ta ds (.bl false)) : EvD m K (tAndV ta tb) ds (.bl false) := ev_andV (b := false) h fun q => by cases q
theorem ev_andT {b : Bool} (h : EvD m K ta ds (.bl true)) (h2 : EvD m K tb ds (.bl b)) : EvD m K (tAndV ta tb) ds (.bl b) := ev_andV (b := b) h fun _ => h2
theorem ev_orT (h : EvD m K ta ds (.bl true)) : EvD m K (tOrV ta tb) ds (.bl true) := ev_orV (b := false) h fun q => by cases q
theorem ev_orF {b : Bool} (h : EvD m K ta ds (.bl false)) (h2 : EvD m K tb ds (.bl b)) : EvD m K (tOrV ta tb) ds (.bl b) := ev_orV (b := b) h fun _ => h2
theorem ev_ifT (h : EvT m K tt ds true) (h1 : EvD m K ta ds d) : EvD m K (tIf tt ta tb) ds d := ev_if h (fun _ => h1) fun q => by cases q
theorem ev_ifF (h : EvT m K tt ds false) (h1 : EvD m K tb ds d) : EvD m K (tIf tt ta tb) ds d := ev_if h (fun q => by cases q) fun _ => h1
theorem eo_ifT {xs : List Dat} (h : EvT m K tt ds true) (h1 : EvO m K ta ds xs) : EvO m K (tIf tt ta tb) ds xs := eo_if h (fun _ => h1) fun q => by cases q
theorem eo_ifF {xs : List Dat} (h : EvT m K tt ds false) (h1 : EvO m K tb ds xs) : EvO m K (tIf tt ta tb) ds xs := eo_if h (fun q => by cases q) fun _ => h1
theorem sd_ifT (h : EvT m K tt ds true) (h1 : SD m K t ds N R) : SD m K (tIfS tt t u) ds N R := sd_if h (fun _ => h1) fun q => by cases q
theorem sd_ifF (h : EvT m K tt ds false) (h1 : SD m K u ds N R) : SD m K (tIfS tt t u) ds N R := sd_if h (fun q => by cases q) fun _ => h1
theorem sd_ifC {c : Prop} [Decidable c] (h : EvT m K tt ds (decide c)) (h1 : c → SD m K t ds N R) (h2 : ¬ c → SD m K u ds N R) : SD m K (tIfS tt t u) ds N R := sd_if h (fun q => h1 (of_decide_eq_true q)) fun q => h2 (of_decide_eq_false q)
theorem ev_ifC {c : Prop} [Decidable c] (h : EvT m K tt ds (decide c)) (h1 : c → EvD m K ta ds d) (h2 : ¬ c → EvD m K tb ds d) : EvD m K (tIf tt ta tb) ds d := ev_if h (fun q => h1 (of_decide_eq_true q)) fun q => h2 (of_decide_eq_false q)
theorem EvT.neg {c : Prop} [Decidable c] (h : EvT m K tt ds (!decide c)) : EvT m K tt ds (decide (¬ c)) := h.to (by by_cases q : c <;> simp [q])
theorem EvT.yes {b : Bool} (h : EvT m K tt ds b) (e : b = true) : EvT m K tt ds true := e ▸ h
theorem EvT.nay {b : Bool} (h : EvT m K tt ds b) (e : b = false) : EvT m K tt ds false := e ▸ h
/-! ### the number of what is walked, by its list -/
theorem it_listc {n : Nat} {T T' : Nat → Ds → Ds} {wi : TI} {g : TG} {js : List Nat} (h : ItD m K wi g ds n T js) (e : ∀ i ds2, i < n → T i ds2 = T' i ds2) : ItD m K wi g ds n T' js := fun Hb H σ R S k =>
  h Hb H σ R S fun J G Y Hb1 H1 g1 w hG hy => k J G Y Hb1 H1 g1 w hG fun i x Hb2 H2 H3 σ2 ds2 Q hi e2 S2 y q => hy i x Hb2 H2 H3 σ2 ds2 Q hi e2 S2 y (by rw [e i ds2 hi]; exact q)
/-! ### bool lists -/
theorem ev_all {l : List Bool} (ha : EvD m K ta ds (.lst (l.map Dat.bl))) : EvD m K (tCB (rAll K) (tCons ta tNil)) ds (.bl (l.all id)) :=
  ev_cb (ea_cons ha ea_nil) fun Hb H vs Q s hv k => by
    obtain ⟨v, r, e, ⟨p, us, h1, h2, h3⟩, e2⟩ := hv
    rw [e, h1, show r = [] from e2]
    rw [IsL.bls.mp h3] at h2
    exact ⟨p, l, rfl, .inl (.inl (s _ _ h2)), k _ Hb H (.refl s) rfl⟩
theorem rc_int {n : Int} : RcD m K (fun xs H Q => (∃ i, xs = [.int i] ∧ Q (.int i) H) ∨ ∃ k, xs = [.bl k] ∧ Q (.int (if k then 1 else 0)) H) [.int n] (.int n) := fun Hb H vs Q s hv k => by
  obtain ⟨v, r, e, h1, e2⟩ := hv
  rw [e, show v = _ from h1, show r = [] from e2]
  exact .inl ⟨n, rfl, k _ Hb H (.refl s) rfl⟩
theorem rc_intB {b : Bool} : RcD m K (fun xs H Q => (∃ i, xs = [.int i] ∧ Q (.int i) H) ∨ ∃ k, xs = [.bl k] ∧ Q (.int (if k then 1 else 0)) H) [.bl b] (.int (if b then 1 else 0)) := fun Hb H vs Q s hv k => by
  obtain ⟨v, r, e, h1, e2⟩ := hv
  rw [e, show v = _ from h1, show r = [] from e2]
  exact .inr ⟨b, rfl, k _ Hb H (.refl s) rfl⟩
theorem rc_abs {n : Int} : RcD m K (fun xs H Q => ∃ i, xs = [.int i] ∧ Q (.int (if i < 0 then -i else i)) H) [.int n] (.int (if n < 0 then -n else n)) := fun Hb H vs Q s hv k => by
  obtain ⟨v, r, e, h1, e2⟩ := hv
  rw [e, show v = _ from h1, show r = [] from e2]
  exact ⟨n, rfl, k _ Hb H (.refl s) rfl⟩
theorem rc_max {a b : Int} : RcD m K (fun xs H Q => ∃ i j, xs = [.int i, .int j] ∧ Q (.int (if j > i then j else i)) H) [.int a, .int b] (.int (if b > a then b else a)) := fun Hb H vs Q s hv k => by
  obtain ⟨v, r, e, h1, w, r2, e3, h2, e2⟩ := hv
  rw [e, e3, show v = _ from h1, show w = _ from h2, show r2 = [] from e2]
  exact ⟨a, b, rfl, k _ Hb H (.refl s) rfl⟩
theorem rc_gcd {a b : Int} : RcD m K rGcd [.int a, .int b] (.int (Nat.gcd a.natAbs b.natAbs)) := fun Hb H vs Q s hv k => by
  obtain ⟨v, r, e, h1, w, r2, e3, h2, e2⟩ := hv
  rw [e, e3, show v = _ from h1, show w = _ from h2, show r2 = [] from e2]
  exact ⟨a, b, rfl, k _ Hb H (.refl s) rfl⟩
/-! ### isinstance -/
/-- a datum's type -/
def Dat.tyV (K : PySem.W.Frag) : Dat → Value
  | .non => .type "NoneType"
  | .bl _ => .type "bool"
  | .int _ => .type "int"
  | .str _ => .type "str"
  | .lst _ => .type "list"
  | .tup _ => .type "tuple"
  | .rat _ _ => .ref (He.ga K "Ratio")
  | .root _ _ _ => .ref (He.ga K "Root")
  | .ob C _ _ => .ref (He.ga K C)
def Dat.isOb : Dat → Bool
  | .ob _ _ _ => true
  | _ => false
theorem Is.tyX {mg : Str → Option Value} (T : Txt K mg) {Hb H : Hp} (s : Ex Hb H) : ∀ {d : Dat} {v : V}, d.isOb = false → Is K Hb d v → TyX K H v (d.tyV K)
  | .non, v, _, h => by rw [show v = _ from h]; exact .base .non
  | .bl b, v, _, h => by rw [show v = _ from h]; exact .base (.bl b)
  | .int i, v, _, h => by rw [show v = _ from h]; exact .base (.int i)
  | .str x, v, _, h => by rw [show v = _ from h]; exact .base (.str x)
  | .lst _, v, _, ⟨p, vs, h1, h2, _⟩ => by rw [h1]; exact .base (.lst (s _ _ h2))
  | .tup _, v, _, ⟨p, vs, h1, h2, _⟩ => by rw [h1]; exact .base (.tup (s _ _ h2))
  | .rat _ _, v, _, ⟨p, dx, h1, h2⟩ => by rw [h1]; exact T.xt_Ratio (s _ _ h2)
  | .root _ _ _, v, _, ⟨p, dx, _, _, _, h1, h2, _⟩ => by rw [h1]; exact T.xt_Root (s _ _ h2)
theorem ev_isi {mg : Str → Option Value} (T : Txt K mg) {c : V} {u : Value} {b : Bool} (ha : EvD m K ta ds d) (hc : ClsV c u) (hk : PySem.W.kitOne K (d.tyV K) u = some b) (ho : d.isOb = false := by rfl) : EvD m K (tCB (rIsi K) (tCons ta (tCons (tC c) tNil))) ds (.bl b) := fun Hb H σ Q S k =>
  ha Hb H σ _ S fun v Hb1 H1 g hv => ⟨v, c, d.tyV K, u, b, rfl, hc, Is.tyX T g.s ho hv, hk, k _ Hb1 H1 g rfl⟩
theorem ev_isiT {mg : Str → Option Value} (T : Txt K mg) {c1 c2 : V} {u1 u2 : Value} {b : Bool} (ha : EvD m K ta ds d) (h1 : ClsV c1 u1) (h2 : ClsV c2 u2) (hk : PySem.W.kitAny K (d.tyV K) [u1, u2] = some b) (ho : d.isOb = false := by rfl) : EvD m K (tCB (rIsiT K) (tCons ta (tCons (tTup (tCons (tC c1) (tCons (tC c2) tNil))) tNil))) ds (.bl b) := fun Hb H σ Q S k =>
  ha Hb H σ _ S fun v Hb1 H1 g hv => ⟨by show 2 ≤ sizeLine; decide, fun p hp => ⟨v, p, [c1, c2], d.tyV K, [u1, u2], b, rfl, upd_same, .cons h1 (.cons h2 .nil), Is.tyX T (g.s.trans (Ex.new hp)) ho hv, hk, k _ Hb1 _ (g.trans (.grow g.s (Ex.new hp))) rfl⟩⟩
end
/-- math.lcm of numbers below 2 ^ 9000 -/
def rLcm : List V → Hp → VK → Prop := fun vs H Q => ∃ a b : Int, vs = [.int a, .int b] ∧ a.natAbs.log2 < 9000 ∧ b.natAbs.log2 < 9000 ∧ Q (.int ((Nat.lcm a.natAbs b.natAbs : Nat) : Int)) H
theorem log2_max {a b n : Nat} (ha : a.log2 < n) (hb : b.log2 < n) : (max a b).log2 < n := by
  rcases Nat.le_total a b with h | h
  · rw [Nat.max_eq_right h]; exact hb
  · rw [Nat.max_eq_left h]; exact ha
theorem log2_mono {a b : Nat} (h : a ≤ b) : a.log2 ≤ b.log2 := by
  by_cases ha : a = 0
  · subst ha; simp
  · exact (Nat.le_log2 (by omega)).mpr (Nat.le_trans (Nat.log2_self_le ha) h)
theorem log2_mul_lt {a b n k : Nat} (ha : a.log2 < n) (hb : b.log2 < k) : (a * b).log2 < n + k := by
  by_cases h : a * b = 0
  · rw [h]; simp; omega
  · refine (Nat.log2_lt h).mpr ?_
    rw [Nat.pow_add]
    exact Nat.mul_lt_mul'' ((Nat.log2_lt (fun q => h (by rw [q, Nat.zero_mul]))).mp ha) ((Nat.log2_lt (fun q => h (by rw [q, Nat.mul_zero]))).mp hb)
theorem cr_lcm {X : Cx} : CallR X (.builtin "math.lcm") rLcm := by
  intro pins s σ H vs us Q I r h
  obtain ⟨a, b, rfl, ha, hb, q⟩ := h
  obtain ⟨t, u, rfl⟩ := Vals.int2 r
  have e : Nat.lcm 1 a.natAbs = a.natAbs := by simp [Nat.lcm]
  have h1 : (max 1 a.natAbs).log2 < 9000 := log2_max (by decide) ha
  have h2 : (max a.natAbs b.natAbs).log2 < 9000 := log2_max ha hb
  have hl : (Nat.lcm a.natAbs b.natAbs).log2 < 18000 := Nat.lt_of_le_of_lt (log2_mono (Nat.div_le_self _ _)) (log2_mul_lt ha hb)
  have hz : ((((Nat.lcm 1 a.natAbs).lcm b.natAbs : Nat) : Int)).natAbs.log2 < bitsLine := by
    rw [e, Int.natAbs_natCast, show bitsLine = 134217728 from by decide]
    omega
  refine call_function_meets PySem.W.MGF.kind_lcm PySem.W.MGF.plain_lcm PySem.W.MGF.entry_lcm (PySem.W.MGF.args_lcm _ _) (PySem.W.mg_run_lcm a t b u (by omega) (by omega) hz).meets ?_
  rw [e]
  exact ⟨.int _, H, I.tok _, ⟨_, rfl⟩, q⟩
section
variable {m : Md} {K : PySem.W.Frag}
theorem rc_lcm {a b : Int} (ha : a.natAbs.log2 < 9000) (hb : b.natAbs.log2 < 9000) : RcD m K rLcm [.int a, .int b] (.int (Nat.lcm a.natAbs b.natAbs)) := fun Hb H vs Q s hv k => by
  obtain ⟨v, r, e, h1, w, r2, e3, h2, e2⟩ := hv
  rw [e, e3, show v = _ from h1, show w = _ from h2, show r2 = [] from e2]
  exact ⟨a, b, rfl, ha, hb, k _ Hb H (.refl s) rfl⟩
end
section
variable {X : Cx}
/-- xs[i] of a list, for xs[i] op= e -/
theorem get_list : PGet X (rGetL X.K) := by
  intro pins s σ H o i ov iv Q I ro ri h
  obtain ⟨p, xs, j, z, rfl, rfl, hq, he, q⟩ := h
  cases ro
  obtain ⟨t, rfl⟩ := ri
  obtain ⟨its, r, pl, hz⟩ := I.list hq
  obtain ⟨n, h1, h2, h3, h4, h5⟩ := atI_get he
  obtain ⟨v, ev, rv⟩ := r.get h2
  have hl := r.length
  have hn := line63
  have fin : EP X pins σ Q v s := ⟨z, H, I, rv, q⟩
  by_cases h0 : 0 ≤ j
  · have hj : j.toNat = n := by
      rw [seqIndex_of h0 h5] at h1
      exact Option.some.inj h1
    exact wpAny_getItem_list pl.isList h0 (by omega) (by rw [hj]; simpa using ev) fin
  · have hj : (j + (its.toArray.size : Int)).toNat = n := by
      rw [seqIndex_neg (by omega) h4] at h1
      rw [List.size_toArray, ← hl]
      exact Option.some.inj h1
    exact wpAny_getItem_list_neg pl.isList (by omega) (by rw [List.size_toArray] <;> omega) (by omega) (by rw [hj]; simpa using ev) fin
/-- // by any divisor below 2 ^ 9000 in size -/
def CDivA (_ j : Int) : Prop := j ≠ 0 ∧ j.natAbs.log2 < 9000
theorem op_fdivA : OpR X (binaryOp .FloorDiv) (rI CDivA fun i j => .int (i.fdiv j)) := opI fun _ _ _ _ _ _ _ hc q => floordiv_int hc.1 q (.inl (PyProof.noPylong_of_log2 hc.2))
end
end RR
/-! ### RCalc6 -/
/-! The calculus: loops that change a list of ints item by item. -/
namespace RR
open PySem PySem.Spec PyProof.Rows L2 Evl
section
variable {m : Md} {K : PySem.W.Frag} {ds : Ds} {N : Ds → Prop} {R : Dat → Prop}
abbrev rIntC : List V → Hp → VK → Prop := fun xs H Q => (∃ i, xs = [.int i] ∧ Q (.int i) H) ∨ ∃ k, xs = [.bl k] ∧ Q (.int (if k then 1 else 0)) H
/-- for at, x in enumerate(ys): found[s + at] = F (found[s + at]) x -/
theorem sd_enum {F : Int → Int → Int} {s a b : Nat} {xs ys : List Int} {ta : TA} {tb : TS} (mk : Sv → Sv → List Dat → Ds) {s1 s2 : Sv} (h0 : ds = mk s1 s2 (xs.map Dat.int)) (hta : EvA m K ta ds [il ys])
    (hT : ∀ (i : Nat) (y : Int) (sa sb : Sv) (o : List Dat), ((mk sa sb o).set a (.dat (.int i))).set b (.dat (.int y)) = mk (.dat (.int i)) (.dat (.int y)) o)
    (hlen : ys = [] ∨ s + ys.length ≤ xs.length)
    (body : ∀ (i : Nat) (x y : Int) (zs : List Int), ys[i]? = some y → xs[s + i]? = some x → zs[s + i]? = some x → zs.length = xs.length →
      SD m K tb (mk (.dat (.int i)) (.dat (.int y)) (zs.map Dat.int)) (· = mk (.dat (.int i)) (.dat (.int y)) ((zs.set (s + i) (F x y)).map Dat.int)) R)
    (hN : ∀ sa sb, N (mk sa sb ((updS F s xs ys).map Dat.int))) : SD m K (tFor (iEnum K ta) (gTwo K a b) tb) ds N R := by
  refine sd_for (it_enum hta) (fun i ds' => ∃ sa sb, ds' = mk sa sb ((updS F s xs (ys.take i)).map Dat.int)) ⟨s1, s2, by rw [List.take_zero, updS_nil]; exact h0⟩ ?_ ?_
  · rintro i ds' hi ⟨sa, sb, rfl⟩
    rw [List.length_map] at hi
    have hlen : s + ys.length ≤ xs.length := hlen.resolve_left fun q => by rw [q] at hi; exact absurd hi (Nat.not_lt_zero _)
    have ey : ys[i]? = some ys[i] := List.getElem?_eq_getElem hi
    have ex : xs[s + i]? = some (xs[s + i]'(by omega)) := List.getElem?_eq_getElem (by omega)
    simp only [List.getElem?_map, ey, Option.map_some]
    rw [hT]
    refine (body i _ _ _ ey ex (by rw [updS_off]; exact ex) (updS_len _ _ _)).weak (fun d e => ?_) fun _ h => h
    exact ⟨.dat (.int (i : Int)), .dat (.int ys[i]), by rw [e, updS_set _ _ _ _ _ _ ex ey]⟩
  · rintro ds' ⟨sa, sb, rfl⟩
    rw [List.length_map, List.take_length]
    exact hN sa sb
/-- for at, x in enumerate(one): found = row by row -/
theorem sd_rows {G : Int → Int → Int → Int} {a b : Nat} {one other zs : List Int} {ta : TA} {tb : TS} (mk : Sv → Sv → List Dat → Ds → Ds) {s1 s2 : Sv} {r0 : Ds} (h0 : ds = mk s1 s2 (zs.map Dat.int) r0) (hta : EvA m K ta ds [il one])
    (hT : ∀ (i : Nat) (y : Int) (sa sb : Sv) (o : List Dat) (r : Ds), ((mk sa sb o r).set a (.dat (.int i))).set b (.dat (.int y)) = mk (.dat (.int i)) (.dat (.int y)) o r)
    (ok : Ds → Prop) (ok0 : ok r0)
    (body : ∀ (i : Nat) (x : Int) (acc : List Int) (r : Ds), ok r → one[i]? = some x → i < one.length → acc = mulAcc G one other zs i →
      SD m K tb (mk (.dat (.int i)) (.dat (.int x)) (acc.map Dat.int) r) (fun d => ∃ r', ok r' ∧ d = mk (.dat (.int i)) (.dat (.int x)) ((updS (G x) i acc other).map Dat.int) r') R)
    (hN : ∀ (sa sb : Sv) (r : Ds), ok r → N (mk sa sb ((mulAcc G one other zs one.length).map Dat.int) r)) : SD m K (tFor (iEnum K ta) (gTwo K a b) tb) ds N R := by
  refine sd_for (it_enum hta) (fun i ds' => ∃ sa sb r, ok r ∧ ds' = mk sa sb ((mulAcc G one other zs i).map Dat.int) r) ⟨s1, s2, r0, ok0, h0⟩ ?_ ?_
  · rintro i ds' hi ⟨sa, sb, r, hr, rfl⟩
    rw [List.length_map] at hi
    have ey : one[i]? = some one[i] := List.getElem?_eq_getElem hi
    simp only [List.getElem?_map, ey, Option.map_some]
    rw [hT]
    refine (body i _ _ r hr ey hi rfl).weak (fun d ⟨r', hr', e⟩ => ⟨.dat (.int (i : Int)), .dat (.int one[i]), r', hr', by rw [e, mulAcc_succ ey]⟩) fun _ h => h
  · rintro ds' ⟨sa, sb, r, hr, rfl⟩
    rw [List.length_map]
    exact hN sa sb r hr
theorem at_int {l : List Int} {i : Nat} {x : Int} (h : l[i]? = some x) : atI (l.map Dat.int) (i : Int) = some (.int x) := atI_nat (by rw [List.getElem?_map, h] <;> rfl)
theorem at_last {l : List Int} {x : Int} : atI ((l ++ [x]).map Dat.int) (-1) = some (.int x) := by rw [List.map_append]; exact atI_last _ _
theorem set_int {l : List Int} {i : Nat} {x : Int} : (l.map Dat.int).set i (.int x) = (l.set i x).map Dat.int := by rw [List.map_set]
theorem given_all {n : Nat} {f : Nat → Bool} {y : Nat → Dat} (h : ∀ i, i < n → f i = true) : given n f y = (List.range n).map y := by
  unfold given
  rw [List.filter_eq_self.mpr fun i hi => h i (List.mem_range.mp hi)]
theorem given_map {α : Type} {l : List α} {g : α → Dat} {y : Nat → Dat} (h : ∀ i x, l[i]? = some x → y i = g x) : given l.length (fun _ => true) y = l.map g := by
  rw [given_all fun _ _ => rfl]
  apply List.ext_getElem?
  intro i
  rw [List.getElem?_map, List.getElem?_map]
  by_cases hi : i < l.length
  · rw [List.getElem?_range hi, List.getElem?_eq_getElem hi]
    exact congrArg some (h i _ (List.getElem?_eq_getElem hi))
  · rw [List.getElem?_eq_none (by rw [List.length_range]; omega), List.getElem?_eq_none (by omega)] <;> rfl
/-- [e for x in xs], xs ints, e an int -/
theorem eo_map {tl te : TE} {j : Nat} {l : List Int} {g : Int → Int} (hl : EvD m K tl ds (il l)) (hz : l.length ≤ 50000) (he : ∀ x, x ∈ l → EvD m K te ((wipeD ds [j]).set j (.dat (.int x))) (.int (g x))) :
    EvO m K (tLc (iList K tl) (gName j) tYes te [j]) ds ((l.map g).map Dat.int) := by
  have h := eo_lc (it_list (j := j) hl) (vs := [j]) (fun _ h => h) (fun _ => true) (fun i => .int (g (l.getD i 0))) (te := te) (tt := tYes) (by rw [List.length_map]; exact hz) (fun i hi => et_yes) fun i hi _ => by
    rw [List.length_map] at hi
    simp only [List.getElem?_map, List.getElem?_eq_getElem hi, Option.map_some, List.getD_eq_getElem?_getD, Option.getD_some]
    exact he _ (List.getElem_mem hi)
  refine h.to ?_
  rw [List.length_map, given_map (l := l) (g := fun x => .int (g x)) fun i x e => by rw [List.getD_eq_getElem?_getD, e] <;> rfl]
  simp
/-- [e for a, b in zip(xs, ys)], lists of one length, e an int -/
theorem eo_zip {ta : TA} {te : TE} {i j : Nat} {l l' : List Int} {g : Int → Int → Int} (hl : EvA m K ta ds [il l, il l']) (hz : l.length ≤ 50000) (hq : l'.length = l.length) (he : ∀ x y, x ∈ l → EvD m K te (((wipeD ds [i, j]).set i (.dat (.int x))).set j (.dat (.int y))) (.int (g x y))) :
    EvO m K (tLc (iZip K ta) (gTwo K i j) tYes te [i, j]) ds ((List.zipWith g l l').map Dat.int) := by
  have h := eo_lc (it_zip (i := i) (j := j) (n := l.length) hl (by simp) (by simp [hq])) (vs := [i, j]) (fun _ h => h) (fun _ => true) (fun k => .int (g (l.getD k 0) (l'.getD k 0))) (te := te) (tt := tYes) hz (fun _ _ => et_yes) fun k hk _ => by
    have hk' : k < l'.length := by omega
    simp only [List.getElem?_map, List.getElem?_eq_getElem hk, List.getElem?_eq_getElem hk', Option.map_some, List.getD_eq_getElem?_getD, Option.getD_some]
    exact he _ _ (List.getElem_mem hk)
  refine h.to ?_
  have e : (List.zipWith g l l').length = l.length := by simp [hq]
  rw [← e, given_map (l := List.zipWith g l l') (g := Dat.int) fun k x ex => ?_]
  rw [List.getElem?_zipWith] at ex
  cases e1 : l[k]? with
  | none => rw [e1] at ex; simp at ex
  | some a =>
    cases e2 : l'[k]? with
    | none => rw [e1, e2] at ex; simp at ex
    | some b =>
      rw [e1, e2] at ex
      simp only [Option.some.injEq] at ex
      rw [List.getD_eq_getElem?_getD, List.getD_eq_getElem?_getD, e1, e2, ← ex] <;> rfl
/-- three targets, the second one a list of one's own -/
theorem sd_par3O {i j l : Nat} {x z : Dat} {xs : List Dat} {t1 t2 t3 : TE} (h1 : EvD m K t1 ds x) (h2 : EvO m K t2 ds xs) (h3 : EvD m K t3 ds z) (hij : i ≠ j) (hil : i ≠ l) (hjl : j ≠ l) (n : N (((ds.set i (.dat x)).set j (.own xs)).set l (.dat z))) : SD m K (tPar3 i j l (tCons t1 (tCons t2 (tCons t3 tNil)))) ds N R := fun Hb0 H0 Hb σ H D S k _ =>
  h1 Hb H σ _ S.sl fun v Hb1 H1 g1 hv => h2 Hb1 H1 σ _ (S.sl.grow g1) fun p vs Hb2 H2 g2 a1 a2 a3 a4 a5 => h3 Hb2 H2 σ _ ((S.sl.grow g1).grow g2) fun w Hb3 H3 g3 hw => by
    refine ⟨v, .ref p, w, rfl, ?_⟩
    have q : Hb3 p = none := by
      cases c : Hb3 p with
      | none => rfl
      | some o =>
        have := g3.f p (by rw [c]; exact Option.some_ne_none _) a1
        rw [a4] at this
        cases this
    have S1 := (((S.sl.grow g1).grow g2).grow g3).set (i := i) (Is.mono (g2.b.trans g3.b) x hv)
    have S2 := S1.setO (i := j) q a3 (g3.k p _ a3 a4) (IsL.mono g3.b xs a5) (S.sl.fr p (g1.back a2)) (fun k' ys _ e q2 => by
      have e' : ds[k']? = some (.own ys) := by
        by_cases hk : i = k'
        · subst hk
          have hi : i < ds.length := by
            have := (List.getElem?_eq_some_iff.mp e).1
            rwa [List.length_set] at this
          rw [List.getElem?_set_self hi] at e
          cases Option.some.inj e
        · rw [List.getElem?_set_ne hk] at e; exact e
      have nk : i ≠ k' := fun q3 => by
        subst q3
        have hi : i < ds.length := by
          have := (List.getElem?_eq_some_iff.mp e).1
          rwa [List.length_set] at this
        rw [List.getElem?_set_self hi] at e
        cases Option.some.inj e
      obtain ⟨l', vs', e2, _, _, b3, _⟩ := S.sl.own e'
      rw [List.getElem?_set_ne nk] at q2
      rw [q2] at e2
      cases e2
      have := g1.back a2
      rw [b3] at this
      cases this)
    exact k _ Hb3 _ H3 n ((g1.b.trans g2.b).trans g3.b) ⟨((S.gr.trans g1).trans g2).trans g3, S2.set hw, S.ff⟩
end
end RR
/-! ### RW1 -/
namespace RR
open PySem PySem.Spec PyProof.Rows L2 Evl

theorem cutD_take (l : List Int) (k : Nat) : cutD (l.map Dat.int) none (some (k : Int)) = (l.take k).map Dat.int := by
  unfold cutD
  rw [HT.sIx_none, HT.sIx_nat, List.drop_zero, Nat.sub_zero, List.length_map, List.map_take]
  by_cases h : k ≤ l.length
  · rw [Nat.min_eq_left h]
  · rw [Nat.min_eq_right (by omega), List.take_of_length_le (by rw [List.length_map]; exact Nat.le_refl _), List.take_of_length_le (by rw [List.length_map]; omega)]
theorem rep_zeros (n : Nat) : (List.replicate n [Dat.int 0]).flatten = (zeros n).map Dat.int := by
  unfold zeros
  rw [List.map_replicate]
  induction n with
  | zero => rfl
  | succ n ih => rw [List.replicate_succ, List.flatten_cons, ih, List.replicate_succ] <;> rfl
theorem eo_zeros {m : Md} {K : PySem.W.Frag} {ds : Ds} {tb : TE} {n : Int} (h : EvD m K tb ds (.int n)) (hn : -100000 ≤ n ∧ n ≤ 50000) : EvO m K (tOp rRep (tLst (tCons (tC (.int 0)) tNil)) tb) ds ((zeros n.toNat).map Dat.int) :=
  (eo_rep (eo_lst (ea_cons ev_int ea_nil) (by show 1 ≤ 100000; decide)) h (by omega) (by show 1 * n.toNat ≤ 100000; omega)).to (rep_zeros _)

theorem sc_want_at_most : FnScope ["what", "limit", "number"] ["what", "limit", "number"] (defScope s_want_at_most) := ⟨rfl, rfl, rfl, by decide +kernel, rfl, by decide +kernel, by decide +kernel⟩
def pAtMost : List Dat → Dat → Prop := fun dl r => ∃ (x : Str) (a b : Int), dl = [.str x, .int a, .int b] ∧ b ≤ a ∧ r = .non
theorem ok_want_at_most {P : Program} {w : World} {K : PySem.W.Frag} {mg : Str → Option Value} {base : Heap} (T : Txt K mg) : Cal P w K mg base (0 + 1) "want_at_most" (spD K pAtMost) := by
  refine ⟨?_, T.g_want_at_most, (T.d_want_at_most).elim fun _ F => F.kp⟩
  refine fn_d (d := d_want_at_most) (k := 0) (T.d_want_at_most) sc_want_at_most (fun _ _ _ _ _ _ us hl => match us, hl with | [_, _, _], _ => rfl) ?_ ?_
  · rintro dl r ⟨_, _, _, rfl, _⟩; rfl
  · intro cdv A outer s H E hr
    refine ⟨_, (pss_one (ps_if (pt_cmpR op_gt (pv 2) (pv 1) (nomark _))
        (pss_one ps_never)
        pss_nil)), ?_⟩
    rintro m dl r ⟨x, a, b, rfl, h, rfl⟩
    exact sd_ifF ((et_test (ev_op (ev_var rfl) (ev_var rfl) rv_bl)).nay (decide_eq_false (by omega))) (sd_next rfl)

theorem sc_without_noughts : FnScope ["rests", "found"] ["rests"] (defScope s_without_noughts) := ⟨rfl, rfl, rfl, by decide +kernel, rfl, by decide +kernel, by decide +kernel⟩
def pTrim : List Dat → Dat → Prop := fun dl r => ∃ l : List Int, dl = [il l] ∧ True ∧ r = il (trim l)
theorem ok_without_noughts {P : Program} {w : World} {K : PySem.W.Frag} {mg : Str → Option Value} {base : Heap} (T : Txt K mg) : Cal P w K mg base (0 + 1) "without_noughts" (spD K pTrim) := by
  refine ⟨?_, T.g_without_noughts, (T.d_without_noughts).elim fun _ F => F.kp⟩
  refine fn_d (d := d_without_noughts) (k := 0) (T.d_without_noughts) sc_without_noughts (fun _ _ _ _ _ _ us hl => match us, hl with | [_], _ => rfl) ?_ ?_
  · rintro dl r ⟨_, rfl, _⟩; rfl
  · intro cdv A outer s H E hr
    refine ⟨_, (pss_cons (ps_set (i := 1) sc_without_noughts.nd rfl (.inl rfl) (pe_callTy call_list_of (by rfl) T.b_list (by decide +kernel) (pa_cons (pv 0) pa_nil)))
      (pss_cons (ps_while PassesOwn.never (PW.pt (pw_and (pt_cmpR (op_neD hr.units) (pv 1) (pe_lst pa_nil) (nomark _)) (pw_and1 (pt_cmpR op_eq (pe_ix ix_list (pv 1) (pe_un un_neg pe_int) (fun _ _ => rfl)) pe_int (nomark _)))))
        (pss_one (ps_expr (pe_bm0 PySem.F.plainAttrs_list PySem.F.slot_list_pop PySem.F.type_list_pop mt_pop (pv 1)))))
      (pss_one (ps_ret (pv 1))))), ?_⟩
    rintro m dl r ⟨l, rfl, _, rfl⟩
    refine sd_then (sd_own (eo_list (ev_var rfl)) rfl) ?_
    refine sd_then (ds1 := [.dat (il l), .own ((trim l).map Dat.int)]) (sd_while (fun n ds' => ∃ l', ds' = [.dat (il l), .own (l'.map Dat.int)] ∧ trim l' = trim l ∧ n = l'.length) l.length ⟨l, rfl, rfl, rfl⟩ ?_) ?_
    · rintro n ds' ⟨l', rfl, e, rfl⟩
      rcases list_end l' with rfl | ⟨l2, x, rfl⟩
      · exact ⟨false, et_andF ((et_test (ev_neO (l := []) rfl)).nay rfl), (fun h => by cases h), fun _ => by rw [← e] <;> rfl⟩
      · by_cases hx : x = 0
        · subst hx
          refine ⟨true, et_andT ((et_test (ev_neO (l := l2 ++ [0]) rfl)).yes (by simp)) ((et_test (ev_op (ev_ixO (d := .int 0) (j := -1) rfl (ev_neg ev_int) at_last) ev_int rv_eq)).yes rfl), fun _ => ?_, (fun h => by cases h)⟩
          refine sd_pop (i := 1) (xs := l2.map Dat.int) (x := .int 0) (by rw [List.map_append] <;> rfl) ?_
          exact ⟨l2.length, by simp, l2, rfl, by rw [← e, trim_zero], rfl⟩
        · refine ⟨false, et_andT ((et_test (ev_neO (l := l2 ++ [x]) rfl)).yes (by simp)) ((et_test (ev_op (ev_ixO (d := .int x) (j := -1) rfl (ev_neg ev_int) at_last) ev_int rv_eq)).nay (decide_eq_false hx)), (fun h => by cases h), fun _ => ?_⟩
          rw [← e, trim_app hx]
    · exact sd_freeze (i := 1) rfl (sd_ret (ev_var rfl) rfl)

theorem sc_rest_sum : FnScope ["one", "other", "times", "prime", "found", "at", "number"] ["one", "other", "times", "prime"] (defScope s_rest_sum) := ⟨rfl, rfl, rfl, by decide +kernel, rfl, by decide +kernel, by decide +kernel⟩
def pSum : List Dat → Dat → Prop := fun dl r => ∃ (one other : List Int) (t p : Int), dl = [il one, il other, .int t, .int p] ∧ (Pr p ∧ (t = 1 ∨ t = -1) ∧ one.length ≤ 20000 ∧ other.length ≤ 20000) ∧ r = il (sumM p t one other)
theorem ok_rest_sum {P : Program} {w : World} {K : PySem.W.Frag} {mg : Str → Option Value} {base : Heap} (T : Txt K mg) (c_without_noughts : Cal P w K mg base 1 "without_noughts" (spD K pTrim)) : Cal P w K mg base (1 + 1) "rest_sum" (spD K pSum) := by
  refine ⟨?_, T.g_rest_sum, (T.d_rest_sum).elim fun _ F => F.kp⟩
  refine fn_d (d := d_rest_sum) (k := 1) (T.d_rest_sum) sc_rest_sum (fun _ _ _ _ _ _ us hl => match us, hl with | [_, _, _, _], _ => rfl) ?_ ?_
  · rintro dl r ⟨_, _, _, _, rfl, _⟩; rfl
  · intro cdv A outer s H E hr
    refine ⟨_, (pss_cons (ps_set (i := 4) sc_rest_sum.nd rfl (.inl rfl) (pe_op op_cat (pe_callTy call_list_of (by rfl) T.b_list (by decide +kernel) (pa_cons (pv 0) pa_nil)) (pe_op op_rep (pe_lst (pa_cons pe_int pa_nil)) (pe_op op_sub (pe_callB call_len_seq (by rfl) T.b_len (by decide +kernel) (pa_cons (pv 1) pa_nil)) (pe_callB call_len_seq (by rfl) T.b_len (by decide +kernel) (pa_cons (pv 0) pa_nil))))))
      (pss_cons (ps_for PassesOwn.never rfl (pi_enum (by rfl) T.b_enumerate (pa_cons (pv 1) pa_nil)) (pg_tup rfl (pgs_cons (pg_name (i := 5) sc_rest_sum.nd rfl (.inl rfl)) (pgs_cons (pg_name (i := 6) sc_rest_sum.nd rfl (.inl rfl)) pgs_nil)))
        (pss_one (ps_asg (pe_op op_mod (pe_op op_add (pe_ix ix_list (pv 4) (pv 5) (fun _ _ => rfl)) (pe_op op_mul (pv 2) (pv 6))) (pv 3)) (pg_sub (pv 4) (pv 5) set_list))))
      (pss_one (ps_ret (pe_cf (c_without_noughts.mono (by decide)) hr (by rfl) (pa_cons (pv 4) pa_nil)))))), ?_⟩
    rintro m dl r ⟨one, other, t, p, rfl, ⟨hp, ht, h1, h2⟩, rfl⟩
    have hp2 := hp.pos
    refine sd_then (sd_own ((eo_cat (xs := one.map Dat.int) (ys := (zeros (other.length - one.length)).map Dat.int) (EvO.dd (eo_list (ev_var rfl))) ((EvO.dd (eo_zeros (ev_op (ev_len (ev_var rfl)) (ev_len (ev_var rfl)) rv_int) ?_)).to ?_) ?_).to List.map_append.symm) rfl) ?_
    · simp only [List.length_map]; omega
    · simp only [List.length_map]; rw [show ((other.length : Int) - (one.length : Int)).toNat = other.length - one.length from by omega]
    · simp [zeros]; omega
    refine sd_seq (M := fun d => ∃ sa sb, d = [.dat (il one), .dat (il other), .dat (.int t), .dat (.int p), .own ((updS (fun a b => (a + t * b) % p) 0 (one ++ zeros (other.length - one.length)) other).map Dat.int), sa, sb]) (sd_enum (s := 0) (F := fun a b => (a + t * b) % p) (ys := other) (xs := one ++ zeros (other.length - one.length)) (fun sa sb o => [.dat (il one), .dat (il other), .dat (.int t), .dat (.int p), .own o, sa, sb]) rfl (ea_cons (ev_var rfl) ea_nil) (fun _ _ _ _ _ => rfl) ?_ ?_ fun sa sb => ⟨sa, sb, rfl⟩) ?_
    · simp [zeros]; omega
    · intro i x y zs ey ex ez hl
      have hi : i < zs.length := by have := (List.getElem?_eq_some_iff.mp ez).1; omega
      rw [Nat.zero_add] at ez ⊢
      refine sd_store (i := 4) (j := i) rfl (ev_op (ev_op (ev_ixO rfl (ev_var rfl) (at_int ez)) (ev_op (ev_var rfl) (ev_var rfl) (rv_intC (.inl ?_))) rv_int) (ev_var rfl) (rv_intC (by omega))) (ev_var rfl) (by rw [List.length_map]; exact hi) ?_
      · rcases ht with h | h <;> rw [h] <;> decide
      · rw [set_int] <;> rfl
    · rintro d ⟨sa, sb, rfl⟩
      exact sd_freeze (i := 4) rfl (sd_ret (ev_call (ea_cons (ev_var rfl) ea_nil) ⟨_, rfl, trivial, rfl⟩) rfl)

theorem sc_rest_less : FnScope ["one", "other", "prime"] ["one", "other", "prime"] (defScope s_rest_less) := ⟨rfl, rfl, rfl, by decide +kernel, rfl, by decide +kernel, by decide +kernel⟩
def pLess : List Dat → Dat → Prop := fun dl r => ∃ (one other : List Int) (p : Int), dl = [il one, il other, .int p] ∧ (Pr p ∧ one.length ≤ 20000 ∧ other.length ≤ 20000) ∧ r = il (lessM p one other)
theorem ok_rest_less {P : Program} {w : World} {K : PySem.W.Frag} {mg : Str → Option Value} {base : Heap} (T : Txt K mg) (c_rest_sum : Cal P w K mg base 2 "rest_sum" (spD K pSum)) : Cal P w K mg base (2 + 1) "rest_less" (spD K pLess) := by
  refine ⟨?_, T.g_rest_less, (T.d_rest_less).elim fun _ F => F.kp⟩
  refine fn_d (d := d_rest_less) (k := 2) (T.d_rest_less) sc_rest_less (fun _ _ _ _ _ _ us hl => match us, hl with | [_, _, _], _ => rfl) ?_ ?_
  · rintro dl r ⟨_, _, _, rfl, _⟩; rfl
  · intro cdv A outer s H E hr
    refine ⟨_, (pss_one (ps_ret (pe_cf (c_rest_sum.mono (by decide)) hr (by rfl) (pa_cons (pv 0) (pa_cons (pv 1) (pa_cons (pe_un un_neg pe_int) (pa_cons (pv 2) pa_nil))))))), ?_⟩
    rintro m dl r ⟨one, other, p, rfl, ⟨hp, h1, h2⟩, rfl⟩
    exact sd_ret (ev_call (ea_cons (ev_var rfl) (ea_cons (ev_var rfl) (ea_cons (ev_neg ev_int) (ea_cons (ev_var rfl) ea_nil)))) ⟨one, other, -1, p, rfl, ⟨hp, .inr rfl, h1, h2⟩, rfl⟩) rfl

theorem sc_rest_times : FnScope ["one", "other", "prime", "found", "at", "number", "to", "factor"] ["one", "other", "prime"] (defScope s_rest_times) := ⟨rfl, rfl, rfl, by decide +kernel, rfl, by decide +kernel, by decide +kernel⟩
def pMul : List Dat → Dat → Prop := fun dl r => ∃ (one other : List Int) (p : Int), dl = [il one, il other, .int p] ∧ (Pr p ∧ Sm one ∧ one.length ≤ 20000 ∧ other.length ≤ 20000) ∧ r = il (mulM p one other)
theorem ok_rest_times {P : Program} {w : World} {K : PySem.W.Frag} {mg : Str → Option Value} {base : Heap} (T : Txt K mg) (c_without_noughts : Cal P w K mg base 1 "without_noughts" (spD K pTrim)) : Cal P w K mg base (1 + 1) "rest_times" (spD K pMul) := by
  refine ⟨?_, T.g_rest_times, (T.d_rest_times).elim fun _ F => F.kp⟩
  refine fn_d (d := d_rest_times) (k := 1) (T.d_rest_times) sc_rest_times (fun _ _ _ _ _ _ us hl => match us, hl with | [_, _, _], _ => rfl) ?_ ?_
  · rintro dl r ⟨_, _, _, rfl, _⟩; rfl
  · intro cdv A outer s H E hr
    refine ⟨_, (pss_cons (ps_if (PW.pt (pw_or (pt_cmpR (op_eqD hr.units) (pv 0) (pe_lst pa_nil) (nomark _)) (pw_or1 (pt_cmpR (op_eqD hr.units) (pv 1) (pe_lst pa_nil) (nomark _)))))
        (pss_one (ps_ret (pe_lst pa_nil)))
        pss_nil)
      (pss_cons (ps_set (i := 3) sc_rest_times.nd rfl (.inl rfl) (pe_op op_rep (pe_lst (pa_cons pe_int pa_nil)) (pe_op op_sub (pe_op op_add (pe_callB call_len_seq (by rfl) T.b_len (by decide +kernel) (pa_cons (pv 0) pa_nil)) (pe_callB call_len_seq (by rfl) T.b_len (by decide +kernel) (pa_cons (pv 1) pa_nil))) pe_int)))
      (pss_cons (ps_for PassesOwn.never rfl (pi_enum (by rfl) T.b_enumerate (pa_cons (pv 0) pa_nil)) (pg_tup rfl (pgs_cons (pg_name (i := 4) sc_rest_times.nd rfl (.inl rfl)) (pgs_cons (pg_name (i := 5) sc_rest_times.nd rfl (.inl rfl)) pgs_nil)))
        (pss_one (ps_if (pt_cmpR op_ne (pv 5) pe_int (nomark _))
          (pss_one (ps_for PassesOwn.never rfl (pi_enum (by rfl) T.b_enumerate (pa_cons (pv 1) pa_nil)) (pg_tup rfl (pgs_cons (pg_name (i := 6) sc_rest_times.nd rfl (.inl rfl)) (pgs_cons (pg_name (i := 7) sc_rest_times.nd rfl (.inl rfl)) pgs_nil)))
            (pss_one (ps_augS (pv 3) (pe_op op_add (pv 4) (pv 6)) get_list (pe_op op_mul (pv 5) (pv 7)) ip_add set_list))))
          pss_nil)))
      (pss_one (ps_ret (pe_cf (c_without_noughts.mono (by decide)) hr (by rfl) (pa_cons (pe_lc (own := [("number", 5)]) (g := (gName 5)) (tt := tYes) (te := (tOp (rI (fun _ j => 0 < j) fun i j => .int (i % j)) (tVar 5) (tVar 2))) rfl sc_rest_times.nd (pi_list (pv 3)) (blkOk_by (own := [("number", 5)]) (N := ["one", "other", "prime", "found", "at", "number", "to", "factor"]) (sc := defScope s_rest_times) (by decide +kernel)) (fun _ _ _ _ _ => (pg_name (i := 5) sc_rest_times.nd rfl (Or.inl rfl))) (fun _ _ _ _ _ => pts_nil) (fun _ _ _ _ _ => (pe_op op_mod (pv 5) (pv 2)))) pa_nil))))))), ?_⟩
    rintro m dl r ⟨one, other, p, rfl, ⟨hp, hs, h1, h2⟩, rfl⟩
    have hp2 := hp.pos
    have e1 : EvD m K (tOp (rEqD K) (tVar 0) (tLst tNil)) (ds0 ["one", "other", "prime", "found", "at", "number", "to", "factor"] [il one, il other, .int p]) (.bl (decide (one = []))) := ev_op (ev_var rfl) (EvO.dd (eo_lst ea_nil (by decide))) (rv_eqL (l' := []))
    have e2 : EvD m K (tOp (rEqD K) (tVar 1) (tLst tNil)) (ds0 ["one", "other", "prime", "found", "at", "number", "to", "factor"] [il one, il other, .int p]) (.bl (decide (other = []))) := ev_op (ev_var rfl) (EvO.dd (eo_lst ea_nil (by decide))) (rv_eqL (l' := []))
    by_cases c : one = [] ∨ other = []
    · have em : mulM p one other = [] := by unfold mulM; rw [if_pos c]
      refine sd_seq (M := fun _ => False) (sd_ifT ?_ (sd_ret (EvO.dd (eo_lst ea_nil (by decide))) (by rw [em] <;> rfl))) (fun _ h => h.elim)
      by_cases c1 : one = []
      · exact et_orT ((et_test e1).yes (decide_eq_true c1))
      · exact et_orF ((et_test e1).nay (decide_eq_false c1)) ((et_test e2).yes (decide_eq_true (c.resolve_left c1)))
    · have em : mulM p one other = trim ((rawMul one other).map (· % p)) := by unfold mulM; rw [if_neg c]
      rw [em]
      refine sd_then (sd_ifF (et_orF ((et_test e1).nay (decide_eq_false fun q => c (.inl q))) ((et_test e2).nay (decide_eq_false fun q => c (.inr q)))) (sd_next rfl)) ?_
      have l1 : 0 < one.length := List.length_pos_iff.mpr fun q => c (.inl q)
      refine sd_then (sd_own ((eo_zeros (ev_op (ev_op (ev_len (ev_var rfl)) (ev_len (ev_var rfl)) rv_int) ev_int rv_int) ?_).to (ys := (zeros (one.length + other.length - 1)).map Dat.int) ?_) rfl) ?_
      · simp only [List.length_map]; omega
      · simp only [List.length_map]; rw [show ((one.length : Int) + (other.length : Int) - 1).toNat = one.length + other.length - 1 from by omega]
      refine sd_seq (M := fun d => ∃ sa sb r : Sv, ∃ r2 : Sv, d = [.dat (il one), .dat (il other), .dat (.int p), .own ((rawMul one other).map Dat.int), sa, sb, r, r2]) (sd_rows (G := fun n a b => a + n * b) (one := one) (other := other) (zs := zeros (one.length + other.length - 1)) (fun sa sb o r => [.dat (il one), .dat (il other), .dat (.int p), .own o, sa, sb] ++ r) rfl (ea_cons (ev_var rfl) ea_nil) (fun _ _ _ _ _ _ => rfl) (fun r => ∃ a b, r = [a, b]) ⟨_, _, rfl⟩ ?_ ?_) ?_
      · rintro i x acc r ⟨ra, rb, rfl⟩ ex hi ea
        have hx := hs x (List.mem_of_getElem? ex)
        by_cases c2 : x = 0
        · subst c2
          refine sd_ifF ((et_test (ev_op (ev_var rfl) ev_int rv_ne)).nay rfl) (sd_next ⟨_, ⟨ra, rb, rfl⟩, ?_⟩)
          rw [updS_id (fun a b => by omega)] <;> rfl
        · refine sd_ifT ((et_test (ev_op (ev_var rfl) ev_int rv_ne)).yes (by simp [c2])) ?_
          refine sd_enum (s := i) (F := fun a b => a + x * b) (ys := other) (xs := acc) (fun sa sb o => [.dat (il one), .dat (il other), .dat (.int p), .own o, .dat (.int i), .dat (.int x), sa, sb]) rfl (ea_cons (ev_var rfl) ea_nil) (fun _ _ _ _ _ => rfl) ?_ ?_ fun sa sb => ⟨_, ⟨sa, sb, rfl⟩, rfl⟩
          · rw [ea, mulAcc_len]; simp [zeros]; omega
          · intro j a b zs eb exa ez hl
            have hj : i + j < zs.length := (List.getElem?_eq_some_iff.mp ez).1
            refine sd_augS (i := 3) (j := i + j) (f := fun a b => a + b) rfl ?_ (by rw [List.getElem?_map, ez] <;> rfl) (ev_op (ev_var rfl) (ev_var rfl) (rv_intC (.inl ⟨by omega, by omega⟩))) ?_
            · exact (ev_op (ev_var rfl) (ev_var rfl) rv_int).to (by simp)
            · rw [set_int] <;> rfl
      · rintro sa sb r ⟨ra, rb, rfl⟩
        exact ⟨sa, sb, ra, rb, rfl⟩
      · rintro d ⟨sa, sb, ra, rb, rfl⟩
        refine sd_freeze (i := 3) rfl (sd_ret (ev_call (ea_cons (EvO.dd (eo_map (g := fun x => x % p) (ev_var rfl) ?_ fun x _ => ev_op (ev_var rfl) (ev_var rfl) (rv_intC (by omega)))) ea_nil) ⟨_, rfl, trivial, rfl⟩) rfl)
        unfold rawMul
        rw [mulAcc_len]
        simp [zeros]
        omega

theorem sc_undone_rest : FnScope ["number", "prime", "near", "far", "first", "other", "whole"] ["number", "prime"] (defScope s_undone_rest) := ⟨rfl, rfl, rfl, by decide +kernel, rfl, by decide +kernel, by decide +kernel⟩
def pInv : List Dat → Dat → Prop := fun dl r => ∃ (n p : Int), dl = [.int n, .int p] ∧ (Pr p ∧ n % p ≠ 0) ∧ r = .int (inv p n)
theorem ok_undone_rest {P : Program} {w : World} {K : PySem.W.Frag} {mg : Str → Option Value} {base : Heap} (T : Txt K mg) : Cal P w K mg base (0 + 1) "undone_rest" (spD K pInv) := by
  refine ⟨?_, T.g_undone_rest, (T.d_undone_rest).elim fun _ F => F.kp⟩
  refine fn_d (d := d_undone_rest) (k := 0) (T.d_undone_rest) sc_undone_rest (fun _ _ _ _ _ _ us hl => match us, hl with | [_, _], _ => rfl) ?_ ?_
  · rintro dl r ⟨_, _, rfl, _⟩; rfl
  · intro cdv A outer s H E hr
    refine ⟨_, (pss_cons (ps_asg (pe_tup (pa_cons (pv 1) (pa_cons (pe_op op_mod (pv 0) (pv 1)) (pa_cons pe_int (pa_cons pe_int pa_nil))))) (pg_tup rfl (pgs_cons (pg_name (i := 2) sc_undone_rest.nd rfl (.inl rfl)) (pgs_cons (pg_name (i := 3) sc_undone_rest.nd rfl (.inl rfl)) (pgs_cons (pg_name (i := 4) sc_undone_rest.nd rfl (.inl rfl)) (pgs_cons (pg_name (i := 5) sc_undone_rest.nd rfl (.inl rfl)) pgs_nil))))))
      (pss_cons (ps_while PassesOwn.never (pt_cmpR op_gt (pv 3) pe_int (nomark _))
        (pss_cons (ps_set (i := 6) sc_undone_rest.nd rfl (.inl rfl) (pe_op op_fdiv (pv 2) (pv 3)))
        (pss_one (ps_asg (pe_tup (pa_cons (pv 3) (pa_cons (pe_op op_sub (pv 2) (pe_op op_mul (pv 6) (pv 3))) (pa_cons (pv 5) (pa_cons (pe_op op_sub (pv 4) (pe_op op_mul (pv 6) (pv 5))) pa_nil))))) (pg_tup rfl (pgs_cons (pg_name (i := 2) sc_undone_rest.nd rfl (.inl rfl)) (pgs_cons (pg_name (i := 3) sc_undone_rest.nd rfl (.inl rfl)) (pgs_cons (pg_name (i := 4) sc_undone_rest.nd rfl (.inl rfl)) (pgs_cons (pg_name (i := 5) sc_undone_rest.nd rfl (.inl rfl)) pgs_nil)))))))))
      (pss_one (ps_ret (pe_op op_mod (pv 4) (pv 1)))))), ?_⟩
    rintro m dl r ⟨n, p, rfl, ⟨hp, hn⟩, rfl⟩
    have hp2 := hp.pos
    refine sd_then (sd_unp (is := [2, 3, 4, 5]) (dl := [.int p, .int (n % p), .int 0, .int 1]) (ev_tup (ea_cons (ev_var rfl) (ea_cons (ev_op (ev_var rfl) (ev_var rfl) (rv_intC (by omega))) (ea_cons ev_int (ea_cons ev_int ea_nil)))) (by simp)) rfl rfl rfl) ?_
    refine sd_seq (M := fun d => ∃ nr fi ot w, d = [.dat (.int n), .dat (.int p), .dat (.int nr), .dat (.int 0), .dat (.int fi), .dat (.int ot), w] ∧ Und p n nr 0 fi ot)
      (sd_while (fun k ds' => ∃ nr fr fi ot w, ds' = [.dat (.int n), .dat (.int p), .dat (.int nr), .dat (.int fr), .dat (.int fi), .dat (.int ot), w] ∧ Und p n nr fr fi ot ∧ k = fr.toNat) _ ⟨_, _, _, _, _, rfl, Und.start hp hn, rfl⟩ ?_) ?_
    · rintro k ds' ⟨nr, fr, fi, ot, w, rfl, U, rfl⟩
      by_cases c : 0 < fr
      · obtain ⟨U2, h2, h3, h4⟩ := U.turn c
        refine ⟨true, (et_test (ev_op (ev_var rfl) ev_int rv_bl)).yes (decide_eq_true c), fun _ => ?_, (fun h => by cases h)⟩
        have hf := U.f1
        refine sd_then (sd_set (ev_op (ev_var rfl) (ev_var rfl) (rv_intC ⟨c, by omega⟩)) rfl) ?_
        refine sd_unp (is := [2, 3, 4, 5]) (dl := [.int fr, .int (nr - nr / fr * fr), .int ot, .int (fi - nr / fr * ot)]) (ev_tup (ea_cons (ev_var rfl) (ea_cons (ev_op (ev_var rfl) (ev_op (ev_var rfl) (ev_var rfl) (rv_intC (.inl ⟨by omega, by omega⟩))) rv_int) (ea_cons (ev_var rfl) (ea_cons (ev_op (ev_var rfl) (ev_op (ev_var rfl) (ev_var rfl) (rv_intC (.inl ⟨by omega, by omega⟩))) rv_int) ea_nil)))) (by simp)) rfl rfl ?_
        exact ⟨_, h2, _, _, _, _, _, rfl, U2, rfl⟩
      · refine ⟨false, (et_test (ev_op (ev_var rfl) ev_int rv_bl)).nay (decide_eq_false c), (fun h => by cases h), fun _ => ?_⟩
        have e : fr = 0 := by have := U.f0; omega
        subst e
        exact ⟨_, _, _, _, rfl, U⟩
    · rintro d ⟨nr, fi, ot, w, rfl, U⟩
      exact sd_ret (ev_op (ev_var rfl) (ev_var rfl) (rv_intC (by omega))) (by show Dat.int (fi % p) = _; rw [U.done hp hn])

theorem sc_rest_parts : FnScope ["one", "other", "prime", "left", "back", "found", "at", "times", "to", "number"] ["one", "other", "prime"] (defScope s_rest_parts) := ⟨rfl, rfl, rfl, by decide +kernel, rfl, by decide +kernel, by decide +kernel⟩
def pParts : List Dat → Dat → Prop := fun dl r => ∃ (one other : List Int) (p : Int), dl = [il one, il other, .int p] ∧ (Pr p ∧ other ≠ [] ∧ (other.getLastD 0) % p ≠ 0 ∧ one.length ≤ 20000 ∧ other.length ≤ 20000) ∧ r = .tup [il (partsM p one other).1, il (partsM p one other).2]
theorem ok_rest_parts {P : Program} {w : World} {K : PySem.W.Frag} {mg : Str → Option Value} {base : Heap} (T : Txt K mg) (c_without_noughts : Cal P w K mg base 1 "without_noughts" (spD K pTrim)) (c_undone_rest : Cal P w K mg base 1 "undone_rest" (spD K pInv)) : Cal P w K mg base (1 + 1) "rest_parts" (spD K pParts) := by
  refine ⟨?_, T.g_rest_parts, (T.d_rest_parts).elim fun _ F => F.kp⟩
  refine fn_d (d := d_rest_parts) (k := 1) (T.d_rest_parts) sc_rest_parts (fun _ _ _ _ _ _ us hl => match us, hl with | [_, _, _], _ => rfl) ?_ ?_
  · rintro dl r ⟨_, _, _, rfl, _⟩; rfl
  · intro cdv A outer s H E hr
    refine ⟨_, (pss_cons (ps_par (i := 3) (j := 4) (by rfl) sc_rest_parts.nd rfl rfl (by decide) rfl rfl (pa_cons (pe_callTy call_list_of (by rfl) T.b_list (by decide +kernel) (pa_cons (pv 0) pa_nil)) (pa_cons (pe_cf (c_undone_rest.mono (by decide)) hr (by rfl) (pa_cons (pe_ix ix_list (pv 1) (pe_un un_neg pe_int) (fun _ _ => rfl)) (pa_cons (pv 2) pa_nil))) pa_nil)) (by rfl))
      (pss_cons (ps_set (i := 5) sc_rest_parts.nd rfl (.inl rfl) (pe_op op_rep (pe_lst (pa_cons pe_int pa_nil)) (pe_callB (call_max2 rfl) (by rfl) T.b_max (by decide +kernel) (pa_cons pe_int (pa_cons (pe_op op_add (pe_op op_sub (pe_callB call_len_seq (by rfl) T.b_len (by decide +kernel) (pa_cons (pv 0) pa_nil)) (pe_callB call_len_seq (by rfl) T.b_len (by decide +kernel) (pa_cons (pv 1) pa_nil))) pe_int) pa_nil)))))
      (pss_cons (ps_for PassesOwn.never rfl (pi_range3 (by rfl) T.b_range (pa_cons (pe_op op_sub (pe_callB call_len_seq (by rfl) T.b_len (by decide +kernel) (pa_cons (pv 0) pa_nil)) (pe_callB call_len_seq (by rfl) T.b_len (by decide +kernel) (pa_cons (pv 1) pa_nil))) (pa_cons (pe_un un_neg pe_int) (pa_cons (pe_un un_neg pe_int) pa_nil)))) (pg_name (i := 6) sc_rest_parts.nd rfl (.inl rfl))
        (pss_cons (ps_set (i := 7) sc_rest_parts.nd rfl (.inl rfl) (pe_op op_mod (pe_op op_mul (pe_ix ix_list (pv 3) (pe_op op_sub (pe_op op_add (pv 6) (pe_callB call_len_seq (by rfl) T.b_len (by decide +kernel) (pa_cons (pv 1) pa_nil))) pe_int) (fun _ _ => rfl)) (pv 4)) (pv 2)))
        (pss_cons (ps_asg (pv 7) (pg_sub (pv 5) (pv 6) set_list))
        (pss_one (ps_if (pt_cmpR op_ne (pv 7) pe_int (nomark _))
          (pss_one (ps_for PassesOwn.never rfl (pi_enum (by rfl) T.b_enumerate (pa_cons (pv 1) pa_nil)) (pg_tup rfl (pgs_cons (pg_name (i := 8) sc_rest_parts.nd rfl (.inl rfl)) (pgs_cons (pg_name (i := 9) sc_rest_parts.nd rfl (.inl rfl)) pgs_nil)))
            (pss_one (ps_asg (pe_op op_mod (pe_op op_sub (pe_ix ix_list (pv 3) (pe_op op_add (pv 6) (pv 8)) (fun _ _ => rfl)) (pe_op op_mul (pv 7) (pv 9))) (pv 2)) (pg_sub (pv 3) (pe_op op_add (pv 6) (pv 8)) set_list)))))
          pss_nil)))))
      (pss_one (ps_ret (pe_tup (pa_cons (pe_cf (c_without_noughts.mono (by decide)) hr (by rfl) (pa_cons (pv 5) pa_nil)) (pa_cons (pe_cf (c_without_noughts.mono (by decide)) hr (by rfl) (pa_cons (pe_ifExp (pt_cmpR op_ge (pe_callB call_len_seq (by rfl) T.b_len (by decide +kernel) (pa_cons (pv 0) pa_nil)) (pe_callB call_len_seq (by rfl) T.b_len (by decide +kernel) (pa_cons (pv 1) pa_nil)) (nomark _)) (pe_slice sl_list (pv 3) po_none (po_some (pe_op op_sub (pe_callB call_len_seq (by rfl) T.b_len (by decide +kernel) (pa_cons (pv 1) pa_nil)) pe_int))) (pv 3)) pa_nil)) pa_nil)))))))), ?_⟩
    rintro m dl r ⟨one, other, p, rfl, ⟨hp, hne, hl, h1, h2⟩, rfl⟩
    have hp2 := hp.pos
    obtain ⟨o2, c, rfl⟩ := (list_end other).resolve_left hne
    have lst : (o2 ++ [c]).getLastD 0 = c := by simp
    rw [lst] at hl
    obtain ⟨b0, b1⟩ := inv_range (n := c) hp
    generalize eo : o2 ++ [c] = other at *
    have lo : 0 < other.length := by rw [← eo]; simp
    generalize eb : inv p c = back at *
    have nn : partsN one other = one.length + 1 - other.length := rfl
    generalize en : partsN one other = n at *
    refine sd_then (sd_parO (xs := one.map Dat.int) (y := .int back) (eo_list (ev_var rfl)) ((ev_call (ea_cons (ev_op (ev_var rfl) (ev_neg ev_int) (rv_ixL (d := .int c) (by rw [← eo]; exact at_last))) (ea_cons (ev_var rfl) ea_nil)) ⟨c, p, rfl, ⟨hp, hl⟩, rfl⟩).to (by rw [eb])) (by decide) rfl) ?_
    refine sd_then (sd_own ((eo_zeros (n := if (0 : Int) < (one.length : Int) - other.length + 1 then (one.length : Int) - other.length + 1 else 0) ((ev_cb (ea_cons ev_int (ea_cons (ev_op (ev_op (ev_len (ev_var rfl)) (ev_len (ev_var rfl)) rv_int) ev_int rv_int) ea_nil)) rc_max).to ?_) ?_).to (ys := (zeros n).map Dat.int) ?_) rfl) ?_
    · simp only [List.length_map]
    · split <;> omega
    · rw [show (if (0 : Int) < (one.length : Int) - other.length + 1 then (one.length : Int) - other.length + 1 else 0).toNat = n from by split <;> omega]
    refine sd_seq (M := fun d => ∃ sa sb sc sd : Sv, d = [.dat (il one), .dat (il other), .dat (.int p), .own ((divLoop p back one other n n).1.map Dat.int), .dat (.int back), .own ((divLoop p back one other n n).2.map Dat.int), sa, sb, sc, sd])
      (sd_for (it_range3 (n := n) (a := (one.length : Int) - other.length) (b := -1) (c := -1) (ea_cons ((ev_op (ev_len (ev_var rfl)) (ev_len (ev_var rfl)) rv_int).to (by simp only [List.length_map])) (ea_cons (ev_neg ev_int) (ea_cons (ev_neg ev_int) ea_nil))) ?_)
        (fun k ds' => ∃ sa sb sc sd : Sv, ds' = [.dat (il one), .dat (il other), .dat (.int p), .own ((divLoop p back one other n k).1.map Dat.int), .dat (.int back), .own ((divLoop p back one other n k).2.map Dat.int), sa, sb, sc, sd]) ⟨_, _, _, _, rfl⟩ ?_ fun _ h => h) ?_
    · have q := RgC.neg (i := (one.length : Int) - other.length) (j := -1) (by omega) (by omega) (by omega) (by omega)
      rw [show ((one.length : Int) - other.length - -1).toNat = n from by omega] at q
      exact q
    · rintro k ds' hk ⟨sa, sb, sc, sd, rfl⟩
      obtain ⟨l1, l2⟩ := divLoop_len (p := p) (back := back) (one := one) (other := other) (n := n) k
      generalize es : divLoop p back one other n k = s at *
      have ea : (one.length : Int) - other.length + (k : Int) * -1 = ((n - 1 - k : Nat) : Int) := by omega
      have eq : divLoop p back one other n (k + 1) = divStep p back other (n - 1 - k) s := by rw [divLoop, es]
      generalize ei : n - 1 - k = at_ at *
      rw [ea]
      have hx : at_ + other.length - 1 < s.1.length := by omega
      have ex : s.1[at_ + other.length - 1]? = some (s.1.getD (at_ + other.length - 1) 0) := by rw [List.getElem?_eq_getElem hx, List.getD_eq_getElem?_getD, List.getElem?_eq_getElem hx] <;> rfl
      generalize s.1.getD (at_ + other.length - 1) 0 = x at *
      have t1 : 0 ≤ x * back % p := Int.emod_nonneg _ (by omega)
      have t2 : x * back % p < p := Int.emod_lt_of_pos _ (by omega)
      refine sd_then (sd_set (d := .int (x * back % p)) (ev_op (ev_op (ev_ixO (j := ((at_ + other.length - 1 : Nat) : Int)) rfl ((ev_op (ev_op (ev_var rfl) (ev_len (ev_var rfl)) rv_int) ev_int rv_int).to ?_) (at_int ex)) (ev_var rfl) (rv_intC (.inr ⟨by omega, by omega⟩))) (ev_var rfl) (rv_intC (by omega))) rfl) ?_
      · simp only [List.length_map]; congr 1; omega
      refine sd_then (sd_store (i := 5) (j := at_) rfl (ev_var rfl) (ev_var rfl) (by rw [List.length_map]; omega) rfl) ?_
      by_cases ct : x * back % p = 0
      · refine sd_ifF ((et_test (ev_op (ev_var rfl) ev_int rv_ne)).nay (by simp [ct])) (sd_next ⟨.dat (.int at_), .dat (.int (x * back % p)), sc, sd, ?_⟩)
        have e2 : divLoop p back one other n (k + 1) = (s.1, s.2.set at_ (x * back % p)) := by rw [eq]; unfold divStep; simp only [List.getD_eq_getElem?_getD, ex, Option.getD_some]; rw [if_pos ct]
        rw [e2, ← set_int] <;> rfl
      · have e2 : divLoop p back one other n (k + 1) = (updS (fun a b => (a - x * back % p * b) % p) at_ s.1 other, s.2.set at_ (x * back % p)) := by rw [eq]; unfold divStep; simp only [List.getD_eq_getElem?_getD, ex, Option.getD_some]; rw [if_neg ct]
        rw [e2]
        refine sd_ifT ((et_test (ev_op (ev_var rfl) ev_int rv_ne)).yes (by simp [ct])) ?_
        generalize x * back % p = t at *
        refine sd_enum (s := at_) (F := fun a b => (a - t * b) % p) (ys := other) (xs := s.1) (fun sa sb o => [.dat (il one), .dat (il other), .dat (.int p), .own o, .dat (.int back), .own ((s.2.set at_ t).map Dat.int), .dat (.int at_), .dat (.int t), sa, sb]) (by rw [← set_int] <;> rfl) (ea_cons (ev_var rfl) ea_nil) (fun _ _ _ _ _ => rfl) (by omega) ?_ fun sa sb => ⟨_, _, sa, sb, rfl⟩
        intro j a b zs eb2 exa ez hlz
        have hj : at_ + j < zs.length := (List.getElem?_eq_some_iff.mp ez).1
        have eidx : ∀ ds2 : Ds, ds2[6]? = some (.dat (.int (at_ : Int))) → ds2[8]? = some (.dat (.int (j : Int))) → EvD m K (tOp (rI0 fun i j => .int (i + j)) (tVar 6) (tVar 8)) ds2 (.int ((at_ + j : Nat) : Int)) := fun ds2 q1 q2 => (ev_op (ev_var q1) (ev_var q2) rv_int).to (by simp)
        refine sd_store (i := 3) (j := at_ + j) rfl (ev_op (ev_op (ev_ixO rfl (eidx _ rfl rfl) (at_int ez)) (ev_op (ev_var rfl) (ev_var rfl) (rv_intC (.inl ⟨by omega, by omega⟩))) rv_int) (ev_var rfl) (rv_intC (by omega))) (eidx _ rfl rfl) (by rw [List.length_map]; exact hj) ?_
        rw [set_int] <;> rfl
    · rintro d ⟨sa, sb, sc, sd, rfl⟩
      have em : partsM p one other = (trim (divLoop p back one other n n).2, trim (if other.length ≤ one.length then (divLoop p back one other n n).1.take (other.length - 1) else (divLoop p back one other n n).1)) := by
        unfold partsM
        rw [lst, eb, en]
      rw [em]
      generalize divLoop p back one other n n = s at *
      refine sd_freeze (i := 3) rfl (sd_freeze (i := 5) rfl (sd_ret (ev_tup (ea_cons (ev_call (ea_cons (ev_var rfl) ea_nil) ⟨_, rfl, trivial, rfl⟩) (ea_cons (ev_call (ea_cons (d := il (if other.length ≤ one.length then s.1.take (other.length - 1) else s.1)) ?_ ea_nil) ⟨_, rfl, trivial, rfl⟩) ea_nil)) (by simp)) rfl))
      refine ev_ifC (c := other.length ≤ one.length) ((et_test (ev_op (ev_len (ev_var rfl)) (ev_len (ev_var rfl)) rv_bl)).to (by simp only [List.length_map]; exact decide_eq_decide.mpr (by omega))) (fun c => ?_) (fun c => ?_)
      · rw [if_pos c]
        refine EvO.dd ((eo_slice (ev_var rfl) ep_none (ep_some (i := ((other.length - 1 : Nat) : Int)) ((ev_op (ev_len (ev_var rfl)) ev_int rv_int).to ?_))).to (cutD_take _ _))
        simp only [List.length_map]; congr 1; omega
      · rw [if_neg c]
        exact ev_var rfl

end RR
/-! ### RW2 -/
namespace RR
open PySem PySem.Spec PyProof.Rows L2 Evl

theorem ev_intc {m : Md} {K : PySem.W.Frag} {ds : Ds} {te : TE} {n : Int} (h : EvD m K te ds (.int n)) : EvD m K (tCB (fun xs H Q => (∃ i, xs = [.int i] ∧ Q (.int i) H) ∨ ∃ k, xs = [.bl k] ∧ Q (.int (if k then 1 else 0)) H) (tCons te tNil)) ds (.int n) := ev_cb (ea_cons h ea_nil) rc_int

theorem sc_law_trim : FnScope ["_law_rows", "_law_found"] ["_law_rows"] (defScope s_law_trim) := ⟨rfl, rfl, rfl, by decide +kernel, rfl, by decide +kernel, by decide +kernel⟩

theorem ok_law_trim {P : Program} {w : World} {K : PySem.W.Frag} {mg : Str → Option Value} {base : Heap} (T : Txt K mg) : Cal P w K mg base (0 + 1) "_law_trim" (spD K pTrim) := by
  refine ⟨?_, T.g_law_trim, (T.d_law_trim).elim fun _ F => F.kp⟩
  refine fn_d (d := d_law_trim) (k := 0) (T.d_law_trim) sc_law_trim (fun _ _ _ _ _ _ us hl => match us, hl with | [_], _ => rfl) ?_ ?_
  · rintro dl r ⟨_, rfl, _⟩; rfl
  · intro cdv A outer s H E hr
    refine ⟨_, (pss_cons (ps_set (i := 1) sc_law_trim.nd rfl (.inl rfl) (pe_callTy call_list_of (by rfl) T.b_list (by decide +kernel) (pa_cons (pv 0) pa_nil)))
      (pss_cons (ps_while PassesOwn.never (PW.pt (pw_and (pt_cmpR (op_neD hr.units) (pv 1) (pe_lst pa_nil) (nomark _)) (pw_and1 (pt_cmpR op_eq (pe_ix ix_list (pv 1) (pe_un un_neg pe_int) (fun _ _ => rfl)) pe_int (nomark _)))))
        (pss_one (ps_expr (pe_bm0 PySem.F.plainAttrs_list PySem.F.slot_list_pop PySem.F.type_list_pop mt_pop (pv 1)))))
      (pss_one (ps_ret (pv 1))))), ?_⟩
    rintro m dl r ⟨l, rfl, _, rfl⟩
    refine sd_then (sd_own (eo_list (ev_var rfl)) rfl) ?_
    refine sd_then (ds1 := [.dat (il l), .own ((trim l).map Dat.int)]) (sd_while (fun n ds' => ∃ l', ds' = [.dat (il l), .own (l'.map Dat.int)] ∧ trim l' = trim l ∧ n = l'.length) l.length ⟨l, rfl, rfl, rfl⟩ ?_) ?_
    · rintro n ds' ⟨l', rfl, e, rfl⟩
      rcases list_end l' with rfl | ⟨l2, x, rfl⟩
      · exact ⟨false, et_andF ((et_test (ev_neO (l := []) rfl)).nay rfl), (fun h => by cases h), fun _ => by rw [← e] <;> rfl⟩
      · by_cases hx : x = 0
        · subst hx
          refine ⟨true, et_andT ((et_test (ev_neO (l := l2 ++ [0]) rfl)).yes (by simp)) ((et_test (ev_op (ev_ixO (d := .int 0) (j := -1) rfl (ev_neg ev_int) at_last) ev_int rv_eq)).yes rfl), fun _ => ?_, (fun h => by cases h)⟩
          refine sd_pop (i := 1) (xs := l2.map Dat.int) (x := .int 0) (by rw [List.map_append] <;> rfl) ?_
          exact ⟨l2.length, by simp, l2, rfl, by rw [← e, trim_zero], rfl⟩
        · refine ⟨false, et_andT ((et_test (ev_neO (l := l2 ++ [x]) rfl)).yes (by simp)) ((et_test (ev_op (ev_ixO (d := .int x) (j := -1) rfl (ev_neg ev_int) at_last) ev_int rv_eq)).nay (decide_eq_false hx)), (fun h => by cases h), fun _ => ?_⟩
          rw [← e, trim_app hx]
    · exact sd_freeze (i := 1) rfl (sd_ret (ev_var rfl) rfl)

theorem sc_law_times : FnScope ["_law_one", "_law_other", "_law_prime", "_law_found", "_law_i", "_law_near", "_law_j", "_law_far"] ["_law_one", "_law_other", "_law_prime"] (defScope s_law_times) := ⟨rfl, rfl, rfl, by decide +kernel, rfl, by decide +kernel, by decide +kernel⟩
def pMulL : List Dat → Dat → Prop := fun dl r => ∃ (one other : List Int) (p : Int), dl = [il one, il other, .int p] ∧ (Pr p ∧ Sm one ∧ one.length ≤ 20000 ∧ other.length ≤ 20000) ∧ r = il (mulL p one other)
theorem ok_law_times {P : Program} {w : World} {K : PySem.W.Frag} {mg : Str → Option Value} {base : Heap} (T : Txt K mg) (c_law_trim : Cal P w K mg base 1 "_law_trim" (spD K pTrim)) : Cal P w K mg base (1 + 1) "_law_times" (spD K pMulL) := by
  refine ⟨?_, T.g_law_times, (T.d_law_times).elim fun _ F => F.kp⟩
  refine fn_d (d := d_law_times) (k := 1) (T.d_law_times) sc_law_times (fun _ _ _ _ _ _ us hl => match us, hl with | [_, _, _], _ => rfl) ?_ ?_
  · rintro dl r ⟨_, _, _, rfl, _⟩; rfl
  · intro cdv A outer s H E hr
    refine ⟨_, (pss_cons (ps_set (i := 3) sc_law_times.nd rfl (.inl rfl) (pe_ifExp (PW.pt (pw_and (pt_cmpR (op_neD hr.units) (pv 0) (pe_lst pa_nil) (nomark _)) (pw_and1 (pt_cmpR (op_neD hr.units) (pv 1) (pe_lst pa_nil) (nomark _))))) (pe_op op_rep (pe_lst (pa_cons pe_int pa_nil)) (pe_op op_sub (pe_op op_add (pe_callB call_len_seq (by rfl) T.b_len (by decide +kernel) (pa_cons (pv 0) pa_nil)) (pe_callB call_len_seq (by rfl) T.b_len (by decide +kernel) (pa_cons (pv 1) pa_nil))) pe_int)) (pe_lst pa_nil)))
      (pss_cons (ps_for PassesOwn.never rfl (pi_enum (by rfl) T.b_enumerate (pa_cons (pv 0) pa_nil)) (pg_tup rfl (pgs_cons (pg_name (i := 4) sc_law_times.nd rfl (.inl rfl)) (pgs_cons (pg_name (i := 5) sc_law_times.nd rfl (.inl rfl)) pgs_nil)))
        (pss_one (ps_for PassesOwn.never rfl (pi_enum (by rfl) T.b_enumerate (pa_cons (pv 1) pa_nil)) (pg_tup rfl (pgs_cons (pg_name (i := 6) sc_law_times.nd rfl (.inl rfl)) (pgs_cons (pg_name (i := 7) sc_law_times.nd rfl (.inl rfl)) pgs_nil)))
          (pss_one (ps_asg (pe_op op_mod (pe_callTy call_int1 (by rfl) T.b_int (by decide +kernel) (pa_cons (pe_op op_add (pe_ix ix_list (pv 3) (pe_op op_add (pv 4) (pv 6)) (fun _ _ => rfl)) (pe_op op_mul (pv 5) (pv 7))) pa_nil)) (pv 2)) (pg_sub (pv 3) (pe_op op_add (pv 4) (pv 6)) set_list))))))
      (pss_one (ps_ret (pe_cf (c_law_trim.mono (by decide)) hr (by rfl) (pa_cons (pv 3) pa_nil)))))), ?_⟩
    rintro m dl r ⟨one, other, p, rfl, ⟨hp, hs, h1, h2⟩, rfl⟩
    have hp2 := hp.pos
    have e1 : EvD m K (tOp (rNeD K) (tVar 0) (tLst tNil)) (ds0 ["_law_one", "_law_other", "_law_prime", "_law_found", "_law_i", "_law_near", "_law_j", "_law_far"] [il one, il other, .int p]) (.bl (!decide (one = []))) := ev_op (ev_var rfl) (EvO.dd (eo_lst ea_nil (by decide))) (rv_neL (l' := []))
    have e2 : EvD m K (tOp (rNeD K) (tVar 1) (tLst tNil)) (ds0 ["_law_one", "_law_other", "_law_prime", "_law_found", "_law_i", "_law_near", "_law_j", "_law_far"] [il one, il other, .int p]) (.bl (!decide (other = []))) := ev_op (ev_var rfl) (EvO.dd (eo_lst ea_nil (by decide))) (rv_neL (l' := []))
    generalize ez : (if one ≠ [] ∧ other ≠ [] then zeros (one.length + other.length - 1) else []) = z0
    have em : mulL p one other = trim (mulAcc (fun n a b => (a + n * b) % p) one other z0 one.length) := by unfold mulL; rw [ez]
    rw [em]
    refine sd_then (sd_own (xs := z0.map Dat.int) ?_ rfl) ?_
    · by_cases c1 : one = []
      · rw [if_neg (fun q => q.1 c1)] at ez
        rw [← ez]
        exact eo_ifF (et_andF ((et_test e1).nay (by simp [c1]))) (eo_lst ea_nil (by decide))
      · by_cases c2 : other = []
        · rw [if_neg (fun q => q.2 c2)] at ez
          rw [← ez]
          exact eo_ifF (et_andT ((et_test e1).yes (by simp [c1])) ((et_test e2).nay (by simp [c2]))) (eo_lst ea_nil (by decide))
        · rw [if_pos ⟨c1, c2⟩] at ez
          have l1 : 0 < one.length := List.length_pos_iff.mpr c1
          refine eo_ifT (et_andT ((et_test e1).yes (by simp [c1])) ((et_test e2).yes (by simp [c2]))) ((eo_zeros (ev_op (ev_op (ev_len (ev_var rfl)) (ev_len (ev_var rfl)) rv_int) ev_int rv_int) ?_).to ?_)
          · simp only [List.length_map]; omega
          · simp only [List.length_map]; rw [← ez, show ((one.length : Int) + (other.length : Int) - 1).toNat = one.length + other.length - 1 from by omega]
    refine sd_seq (M := fun d => ∃ sa sb r r2 : Sv, d = [.dat (il one), .dat (il other), .dat (.int p), .own ((mulAcc (fun n a b => (a + n * b) % p) one other z0 one.length).map Dat.int), sa, sb, r, r2]) (sd_rows (G := fun n a b => (a + n * b) % p) (one := one) (other := other) (zs := z0) (fun sa sb o r => [.dat (il one), .dat (il other), .dat (.int p), .own o, sa, sb] ++ r) rfl (ea_cons (ev_var rfl) ea_nil) (fun _ _ _ _ _ _ => rfl) (fun r => ∃ a b, r = [a, b]) ⟨_, _, rfl⟩ ?_ ?_) ?_
    · rintro i x acc r ⟨ra, rb, rfl⟩ ex hi ea
      have hx := hs x (List.mem_of_getElem? ex)
      refine sd_enum (s := i) (F := fun a b => (a + x * b) % p) (ys := other) (xs := acc) (fun sa sb o => [.dat (il one), .dat (il other), .dat (.int p), .own o, .dat (.int i), .dat (.int x), sa, sb]) rfl (ea_cons (ev_var rfl) ea_nil) (fun _ _ _ _ _ => rfl) ?_ ?_ fun sa sb => ⟨_, ⟨sa, sb, rfl⟩, rfl⟩
      · by_cases c2 : other = []
        · exact .inl c2
        · right
          have c1 : one ≠ [] := fun q => by rw [q] at hi; exact absurd hi (Nat.not_lt_zero _)
          rw [if_pos ⟨c1, c2⟩] at ez
          rw [ea, mulAcc_len, ← ez]
          simp [zeros]
          omega
      · intro j a b zs eb exa ezz hl
        have hj : i + j < zs.length := (List.getElem?_eq_some_iff.mp ezz).1
        have eidx : ∀ ds2 : Ds, ds2[4]? = some (.dat (.int (i : Int))) → ds2[6]? = some (.dat (.int (j : Int))) → EvD m K (tOp (rI0 fun i j => .int (i + j)) (tVar 4) (tVar 6)) ds2 (.int ((i + j : Nat) : Int)) := fun ds2 q1 q2 => (ev_op (ev_var q1) (ev_var q2) rv_int).to (by simp)
        refine sd_store (i := 3) (j := i + j) rfl (ev_op (ev_intc (ev_op (ev_ixO rfl (eidx _ rfl rfl) (at_int ezz)) (ev_op (ev_var rfl) (ev_var rfl) (rv_intC (.inl ⟨by omega, by omega⟩))) rv_int)) (ev_var rfl) (rv_intC (by omega))) (eidx _ rfl rfl) (by rw [List.length_map]; exact hj) ?_
        rw [set_int] <;> rfl
    · rintro sa sb r ⟨ra, rb, rfl⟩
      exact ⟨sa, sb, ra, rb, rfl⟩
    · rintro d ⟨sa, sb, ra, rb, rfl⟩
      exact sd_freeze (i := 3) rfl (sd_ret (ev_call (ea_cons (ev_var rfl) ea_nil) ⟨_, rfl, trivial, rfl⟩) rfl)

theorem sc_law_plus : FnScope ["_law_one", "_law_other", "_law_sign", "_law_prime", "_law_many", "_law_near", "_law_far", "_law_a", "_law_b"] ["_law_one", "_law_other", "_law_sign", "_law_prime"] (defScope s_law_plus) := ⟨rfl, rfl, rfl, by decide +kernel, rfl, by decide +kernel, by decide +kernel⟩
def pPlus : List Dat → Dat → Prop := fun dl r => ∃ (one other : List Int) (s p : Int), dl = [il one, il other, .int s, .int p] ∧ (Pr p ∧ (s = 1 ∨ s = -1) ∧ one.length ≤ 20000 ∧ other.length ≤ 20000) ∧ r = il (plusL p s one other)
theorem ok_law_plus {P : Program} {w : World} {K : PySem.W.Frag} {mg : Str → Option Value} {base : Heap} (T : Txt K mg) (c_law_trim : Cal P w K mg base 1 "_law_trim" (spD K pTrim)) : Cal P w K mg base (1 + 1) "_law_plus" (spD K pPlus) := by
  refine ⟨?_, T.g_law_plus, (T.d_law_plus).elim fun _ F => F.kp⟩
  refine fn_d (d := d_law_plus) (k := 1) (T.d_law_plus) sc_law_plus (fun _ _ _ _ _ _ us hl => match us, hl with | [_, _, _, _], _ => rfl) ?_ ?_
  · rintro dl r ⟨_, _, _, _, rfl, _⟩; rfl
  · intro cdv A outer s H E hr
    refine ⟨_, (pss_cons (ps_set (i := 4) sc_law_plus.nd rfl (.inl rfl) (pe_callB (call_max2 rfl) (by rfl) T.b_max (by decide +kernel) (pa_cons (pe_callB call_len_seq (by rfl) T.b_len (by decide +kernel) (pa_cons (pv 0) pa_nil)) (pa_cons (pe_callB call_len_seq (by rfl) T.b_len (by decide +kernel) (pa_cons (pv 1) pa_nil)) pa_nil))))
      (pss_cons (ps_par (i := 5) (j := 6) (by rfl) sc_law_plus.nd rfl rfl (by decide) rfl rfl (pa_cons (pe_op op_cat (pv 0) (pe_op op_rep (pe_lst (pa_cons pe_int pa_nil)) (pe_op op_sub (pv 4) (pe_callB call_len_seq (by rfl) T.b_len (by decide +kernel) (pa_cons (pv 0) pa_nil))))) (pa_cons (pe_op op_cat (pv 1) (pe_op op_rep (pe_lst (pa_cons pe_int pa_nil)) (pe_op op_sub (pv 4) (pe_callB call_len_seq (by rfl) T.b_len (by decide +kernel) (pa_cons (pv 1) pa_nil))))) pa_nil)) (by rfl))
      (pss_one (ps_ret (pe_cf (c_law_trim.mono (by decide)) hr (by rfl) (pa_cons (pe_lc (own := [("_law_a", 7), ("_law_b", 8)]) (g := (gTwo K 7 8)) (tt := tYes) (te := (tOp (rI (fun _ j => 0 < j) fun i j => .int (i % j)) (tCB rIntC (tCons (tOp (rI0 fun i j => .int (i + j)) (tVar 7) (tOp (rI CMul fun i j => .int (i * j)) (tVar 2) (tVar 8))) tNil)) (tVar 3))) rfl sc_law_plus.nd (pi_zip (by rfl) T.b_zip (pa_cons (pv 5) (pa_cons (pv 6) pa_nil))) (blkOk_by (own := [("_law_a", 7), ("_law_b", 8)]) (N := ["_law_one", "_law_other", "_law_sign", "_law_prime", "_law_many", "_law_near", "_law_far", "_law_a", "_law_b"]) (sc := defScope s_law_plus) (by decide +kernel)) (fun _ _ _ _ _ => (pg_tup rfl (pgs_cons (pg_name (i := 7) sc_law_plus.nd rfl (Or.inl rfl)) (pgs_cons (pg_name (i := 8) sc_law_plus.nd rfl (Or.inl rfl)) pgs_nil)))) (fun _ _ _ _ _ => pts_nil) (fun _ _ _ _ _ => (pe_op op_mod (pe_callTy call_int1 (by rfl) T.b_int (by decide +kernel) (pa_cons (pe_op op_add (pv 7) (pe_op op_mul (pv 2) (pv 8))) pa_nil)) (pv 3)))) pa_nil)))))), ?_⟩
    rintro m dl r ⟨one, other, s, p, rfl, ⟨hp, hs, h1, h2⟩, rfl⟩
    have hp2 := hp.pos
    generalize en : max one.length other.length = n
    have n1 : one.length ≤ n := by omega
    have n2 : other.length ≤ n := by omega
    refine sd_then (sd_set (d := .int (n : Int)) ((ev_cb (ea_cons (ev_len (ev_var rfl)) (ea_cons (ev_len (ev_var rfl)) ea_nil)) rc_max).to ?_) rfl) ?_
    · simp only [List.length_map]
      congr 1
      split <;> omega
    have pad : ∀ (l : List Int) (i : Nat) (ds2 : Ds), ds2[i]? = some (.dat (il l)) → ds2[4]? = some (.dat (.int (n : Int))) → l.length ≤ n → EvD m K (tOp rCat (tVar i) (tOp rRep (tLst (tCons (tC (.int 0)) tNil)) (tOp (rI0 fun i j => .int (i - j)) (tVar 4) (tCB (rLenS K) (tCons (tVar i) tNil))))) ds2 (il (padL l n)) := fun l i ds2 q1 q2 hl => by
      refine (EvO.dd (eo_cat (ev_var q1) (EvO.dd (eo_zeros (ev_op (ev_var q2) (ev_len (ev_var q1)) rv_int) ?_)) ?_)).to ?_
      · simp only [List.length_map]; omega
      · simp [zeros]; omega
      · simp only [List.length_map]
        rw [← List.map_append, padL, show ((n : Int) - (l.length : Int)).toNat = n - l.length from by omega]
    refine sd_then (sd_par (ea_cons (pad one 0 _ rfl rfl n1) (ea_cons (pad other 1 _ rfl rfl n2) ea_nil)) rfl) ?_
    have em : plusL p s one other = trim (List.zipWith (fun a b => (a + s * b) % p) (padL one n) (padL other n)) := by unfold plusL; rw [en]
    rw [em]
    refine sd_ret (ev_call (ea_cons (EvO.dd (eo_zip (g := fun a b => (a + s * b) % p) (ea_cons (ev_var rfl) (ea_cons (ev_var rfl) ea_nil)) ?_ ?_ fun x y _ => ?_)) ea_nil) ⟨_, rfl, trivial, rfl⟩) rfl
    · rw [padL_len n1]; omega
    · rw [padL_len n1, padL_len n2]
    · refine ev_op (ev_intc (ev_op (ev_var rfl) (ev_op (ev_var rfl) (ev_var rfl) (rv_intC (.inl ?_))) rv_int)) (ev_var rfl) (rv_intC (by omega))
      rcases hs with h | h <;> rw [h] <;> decide

theorem back_turn {p f w l : Int} {k : Int} (hp : 0 < p) (h0 : 0 < l) (h : f * w ^ l.toNat % p = k) : (if l % 2 = 1 then f * w % p else f) * (w * w % p) ^ (l / 2).toNat % p = k := by
  obtain ⟨n, rfl⟩ : ∃ n : Nat, l = (n : Int) := ⟨l.toNat, by omega⟩
  have e2 : ((n : Int) / 2).toNat = n / 2 := by omega
  rw [e2]
  rw [Int.toNat_natCast] at h
  have pw : ∀ (a : Int) (j : Nat), (a % p) ^ j % p = a ^ j % p := fun a j => by
    induction j with
    | zero => simp
    | succ j ih => rw [Int.pow_succ, Int.pow_succ, Int.mul_emod, ih, Int.emod_emod_of_dvd _ (Int.dvd_refl _), ← Int.mul_emod]
  have mm : ∀ a j, a * (w * w % p) ^ j % p = a * (w * w) ^ j % p := fun a j => by rw [Int.mul_emod, pw, ← Int.mul_emod]
  rw [mm]
  have ww : ∀ j : Nat, (w * w) ^ j = w ^ (2 * j) := fun j => by rw [Int.pow_mul, Int.pow_succ, Int.pow_succ, Int.pow_zero, Int.one_mul]
  rw [ww]
  by_cases c : (n : Int) % 2 = 1
  · rw [if_pos c]
    rw [Int.mul_emod, Int.emod_emod_of_dvd _ (Int.dvd_refl _), ← Int.mul_emod, Int.mul_assoc, ← Int.pow_succ']
    rw [show 2 * (n / 2) + 1 = n from by omega]
    exact h
  · rw [if_neg c, show 2 * (n / 2) = n from by omega]
    exact h

theorem sc_law_back : FnScope ["_law_number", "_law_prime", "_law_found", "_law_power", "_law_left"] ["_law_number", "_law_prime"] (defScope s_law_back) := ⟨rfl, rfl, rfl, by decide +kernel, rfl, by decide +kernel, by decide +kernel⟩

theorem ok_law_back {P : Program} {w : World} {K : PySem.W.Frag} {mg : Str → Option Value} {base : Heap} (T : Txt K mg) : Cal P w K mg base (0 + 1) "_law_back" (spD K pInv) := by
  refine ⟨?_, T.g_law_back, (T.d_law_back).elim fun _ F => F.kp⟩
  refine fn_d (d := d_law_back) (k := 0) (T.d_law_back) sc_law_back (fun _ _ _ _ _ _ us hl => match us, hl with | [_, _], _ => rfl) ?_ ?_
  · rintro dl r ⟨_, _, rfl, _⟩; rfl
  · intro cdv A outer s H E hr
    refine ⟨_, (pss_cons (ps_par3 (i := 2) (j := 3) (l := 4) (by rfl) sc_law_back.nd rfl rfl rfl (by decide) (by decide) (by decide) rfl rfl rfl (pa_cons pe_int (pa_cons (pe_op op_mod (pe_callTy call_int1 (by rfl) T.b_int (by decide +kernel) (pa_cons (pv 0) pa_nil)) (pv 1)) (pa_cons (pe_op op_sub (pv 1) pe_int) pa_nil))) (by rfl))
      (pss_cons (ps_while PassesOwn.never (pt_cmpR op_gt (pv 4) pe_int (nomark _))
        (pss_cons (ps_set (i := 2) sc_law_back.nd rfl (.inl rfl) (pe_ifExp (pt_cmpR op_eq (pe_op op_mod (pv 4) pe_int) pe_int (nomark _)) (pe_op op_mod (pe_callTy call_int1 (by rfl) T.b_int (by decide +kernel) (pa_cons (pe_op op_mul (pv 2) (pv 3)) pa_nil)) (pv 1)) (pv 2)))
        (pss_one (ps_par (i := 3) (j := 4) (by rfl) sc_law_back.nd rfl rfl (by decide) rfl rfl (pa_cons (pe_op op_mod (pe_callTy call_int1 (by rfl) T.b_int (by decide +kernel) (pa_cons (pe_op op_mul (pv 3) (pv 3)) pa_nil)) (pv 1)) (pa_cons (pe_op op_fdiv (pv 4) pe_int) pa_nil)) (by rfl)))))
      (pss_one (ps_ret (pv 2))))), ?_⟩
    rintro m dl r ⟨n, p, rfl, ⟨hp, hn⟩, rfl⟩
    have hp2 := hp.pos
    have w0 := Int.emod_nonneg n (b := p) (by omega)
    have w1 := Int.emod_lt_of_pos n (b := p) (by omega)
    refine sd_then (sd_par3 (ea_cons ev_int (ea_cons (ev_op (ev_intc (ev_var rfl)) (ev_var rfl) (rv_intC (by omega))) (ea_cons (ev_op (ev_var rfl) ev_int rv_int) ea_nil))) rfl) ?_
    refine sd_seq (M := fun d => ∃ w l, d = [.dat (.int n), .dat (.int p), .dat (.int (inv p n)), w, l])
      (sd_while (fun k ds' => ∃ f w l : Int, ds' = [.dat (.int n), .dat (.int p), .dat (.int f), .dat (.int w), .dat (.int l)] ∧ (0 ≤ f ∧ f < p) ∧ (0 ≤ w ∧ w < p) ∧ (0 ≤ l ∧ l < 20) ∧ f * w ^ l.toNat % p = inv p n ∧ k = l.toNat) _ ⟨1, n % p, p - 2, rfl, by omega, by omega, by omega, ?_, rfl⟩ ?_) ?_
    · rw [Int.one_mul, show (p - 2).toNat = p.toNat - 2 from by omega] <;> rfl
    · rintro k ds' ⟨f, w, l, rfl, hf, hw, hl, h, rfl⟩
      by_cases c : 0 < l
      · refine ⟨true, (et_test (ev_op (ev_var rfl) ev_int rv_bl)).yes (decide_eq_true c), fun _ => ?_, (fun h => by cases h)⟩
        have f0 := Int.emod_nonneg (f * w) (b := p) (by omega)
        have f1 := Int.emod_lt_of_pos (f * w) (b := p) (by omega)
        have x0 := Int.emod_nonneg (w * w) (b := p) (by omega)
        have x1 := Int.emod_lt_of_pos (w * w) (b := p) (by omega)
        refine sd_then (sd_set (d := .int (if l % 2 = 1 then f * w % p else f)) (ev_ifC (c := l % 2 = 1) (et_test (ev_op (ev_op (ev_var rfl) ev_int (rv_intC (by show (0 : Int) < 2; decide))) ev_int rv_eq)) (fun c2 => ?_) (fun c2 => ?_)) rfl) ?_
        · rw [if_pos c2]
          exact ev_op (ev_intc (ev_op (ev_var rfl) (ev_var rfl) (rv_intC (.inl ⟨by omega, by omega⟩)))) (ev_var rfl) (rv_intC (by omega))
        · rw [if_neg c2]
          exact ev_var rfl
        refine sd_par (ea_cons (ev_op (ev_intc (ev_op (ev_var rfl) (ev_var rfl) (rv_intC (.inl ⟨by omega, by omega⟩)))) (ev_var rfl) (rv_intC (by omega))) (ea_cons (ev_op (ev_var rfl) ev_int (rv_intC ⟨by decide, by decide⟩)) ea_nil)) ?_
        exact ⟨(l / 2).toNat, by omega, _, _, _, rfl, by split <;> omega, ⟨x0, x1⟩, by omega, back_turn (by omega) c h, rfl⟩
      · refine ⟨false, (et_test (ev_op (ev_var rfl) ev_int rv_bl)).nay (decide_eq_false c), (fun h => by cases h), fun _ => ?_⟩
        have e : l = 0 := by omega
        subst e
        have e2 : f = inv p n := by
          rw [← h]
          simp only [Int.toNat_zero, Int.pow_zero, Int.mul_one]
          exact (Int.emod_eq_of_lt hf.1 hf.2).symm
        rw [← e2]
        exact ⟨_, _, rfl⟩
    · rintro d ⟨w, l, rfl⟩
      exact sd_ret (ev_var rfl) rfl

end RR
/-! ### RW3 -/
namespace RR
open PySem PySem.Spec PyProof.Rows L2 Evl

theorem sc_law_split : FnScope ["_law_one", "_law_other", "_law_prime", "_law_left", "_law_found", "_law_back_here", "_law_share", "_law_place", "_law_number"] ["_law_one", "_law_other", "_law_prime"] (defScope s_law_split) := ⟨rfl, rfl, rfl, by decide +kernel, rfl, by decide +kernel, by decide +kernel⟩
def pSplit : List Dat → Dat → Prop := fun dl r => ∃ (one other : List Int) (p : Int), dl = [il one, il other, .int p] ∧ (Pr p ∧ other ≠ [] ∧ (other.getLastD 0) % p ≠ 0 ∧ one.length ≤ 20000 ∧ other.length ≤ 20000) ∧ r = .tup [il (splitL p one other).1, il (splitL p one other).2]
theorem ok_law_split {P : Program} {w : World} {K : PySem.W.Frag} {mg : Str → Option Value} {base : Heap} (T : Txt K mg) (c_law_trim : Cal P w K mg base 1 "_law_trim" (spD K pTrim)) (c_law_plus : Cal P w K mg base 2 "_law_plus" (spD K pPlus)) (c_law_back : Cal P w K mg base 1 "_law_back" (spD K pInv)) : Cal P w K mg base (2 + 1) "_law_split" (spD K pSplit) := by
  refine ⟨?_, T.g_law_split, (T.d_law_split).elim fun _ F => F.kp⟩
  refine fn_d (d := d_law_split) (k := 2) (T.d_law_split) sc_law_split (fun _ _ _ _ _ _ us hl => match us, hl with | [_, _, _], _ => rfl) ?_ ?_
  · rintro dl r ⟨_, _, _, rfl, _⟩; rfl
  · intro cdv A outer s H E hr
    refine ⟨_, (pss_cons (ps_par3 (i := 3) (j := 4) (l := 5) (by rfl) sc_law_split.nd rfl rfl rfl (by decide) (by decide) (by decide) rfl rfl rfl (pa_cons (pe_callTy call_list_of (by rfl) T.b_list (by decide +kernel) (pa_cons (pv 0) pa_nil)) (pa_cons (pe_op op_rep (pe_lst (pa_cons pe_int pa_nil)) (pe_callB (call_max2 rfl) (by rfl) T.b_max (by decide +kernel) (pa_cons pe_int (pa_cons (pe_op op_add (pe_op op_sub (pe_callB call_len_seq (by rfl) T.b_len (by decide +kernel) (pa_cons (pv 0) pa_nil)) (pe_callB call_len_seq (by rfl) T.b_len (by decide +kernel) (pa_cons (pv 1) pa_nil))) pe_int) pa_nil)))) (pa_cons (pe_cf (c_law_back.mono (by decide)) hr (by rfl) (pa_cons (pe_ix ix_list (pv 1) (pe_un un_neg pe_int) (fun _ _ => rfl)) (pa_cons (pv 2) pa_nil))) pa_nil))) (by rfl))
      (pss_cons (ps_while PassesOwn.never (pt_cmpR op_ge (pe_callB call_len_seq (by rfl) T.b_len (by decide +kernel) (pa_cons (pv 3) pa_nil)) (pe_callB call_len_seq (by rfl) T.b_len (by decide +kernel) (pa_cons (pv 1) pa_nil)) (nomark _))
        (pss_cons (ps_asg (pe_tup (pa_cons (pe_op op_mod (pe_callTy call_int1 (by rfl) T.b_int (by decide +kernel) (pa_cons (pe_op op_mul (pe_ix ix_list (pv 3) (pe_un un_neg pe_int) (fun _ _ => rfl)) (pv 5)) pa_nil)) (pv 2)) (pa_cons (pe_op op_sub (pe_callB call_len_seq (by rfl) T.b_len (by decide +kernel) (pa_cons (pv 3) pa_nil)) (pe_callB call_len_seq (by rfl) T.b_len (by decide +kernel) (pa_cons (pv 1) pa_nil))) pa_nil))) (pg_tup rfl (pgs_cons (pg_name (i := 6) sc_law_split.nd rfl (.inr rfl)) (pgs_cons (pg_name (i := 7) sc_law_split.nd rfl (.inl rfl)) pgs_nil))))
        (pss_cons (ps_asg (pv 6) (pg_sub (pv 4) (pv 7) set_list))
        (pss_one (ps_set (i := 3) sc_law_split.nd rfl (.inl rfl) (pe_cf (c_law_plus.mono (by decide)) hr (by rfl) (pa_cons (pv 3) (pa_cons (pe_op op_cat (pe_op op_rep (pe_lst (pa_cons pe_int pa_nil)) (pv 7)) (pe_lc (own := [("_law_number", 8)]) (g := (gName 8)) (tt := tYes) (te := (tOp (rI CMul fun i j => .int (i * j)) (tVar 6) (tVar 8))) rfl sc_law_split.nd (pi_list (pv 1)) (blkOk_by (own := [("_law_number", 8)]) (N := ["_law_one", "_law_other", "_law_prime", "_law_left", "_law_found", "_law_back_here", "_law_share", "_law_place", "_law_number"]) (sc := defScope s_law_split) (by decide +kernel)) (fun _ _ _ _ _ => (pg_name (i := 8) sc_law_split.nd rfl (Or.inl rfl))) (fun _ _ _ _ _ => pts_nil) (fun _ _ _ _ _ => (pe_op op_mul (pv 6) (pv 8))))) (pa_cons (pe_un un_neg pe_int) (pa_cons (pv 2) pa_nil))))))))))
      (pss_one (ps_ret (pe_tup (pa_cons (pe_cf (c_law_trim.mono (by decide)) hr (by rfl) (pa_cons (pv 4) pa_nil)) (pa_cons (pv 3) pa_nil))))))), ?_⟩
    rintro m dl r ⟨one, other, p, rfl, ⟨hp, hne, hl, h1, h2⟩, rfl⟩
    have hp2 := hp.pos
    obtain ⟨o2, c, eo⟩ := (list_end other).resolve_left hne
    have lst : other.getLastD 0 = c := by rw [eo]; simp
    obtain ⟨b0, b1⟩ := inv_range (n := c) hp
    have lo : 0 < other.length := by rw [eo]; simp
    generalize en : one.length + 1 - other.length = n
    refine sd_then (sd_par3O (x := il one) (xs := (zeros n).map Dat.int) (z := .int (inv p c)) (EvO.dd (eo_list (ev_var rfl))) ((eo_zeros (n := if (0 : Int) < (one.length : Int) - other.length + 1 then (one.length : Int) - other.length + 1 else 0) ((ev_cb (ea_cons ev_int (ea_cons (ev_op (ev_op (ev_len (ev_var rfl)) (ev_len (ev_var rfl)) rv_int) ev_int rv_int) ea_nil)) rc_max).to ?_) ?_).to ?_) (ev_call (ea_cons (ev_op (ev_var rfl) (ev_neg ev_int) (rv_ixL (d := .int c) (by rw [eo]; exact at_last))) (ea_cons (ev_var rfl) ea_nil)) ⟨c, p, rfl, ⟨hp, lst ▸ hl⟩, rfl⟩) (by decide) (by decide) (by decide) rfl) ?_
    · simp only [List.length_map]
    · split <;> omega
    · rw [show (if (0 : Int) < (one.length : Int) - other.length + 1 then (one.length : Int) - other.length + 1 else 0).toNat = n from by split <;> omega]
    refine sd_seq (M := fun d => ∃ (left found : List Int) (sa sb sc : Sv), d = [.dat (il one), .dat (il other), .dat (.int p), .dat (il left), .own (found.map Dat.int), .dat (.int (inv p c)), sa, sb, sc] ∧ splitL p one other = (trim found, left))
      (sd_while (fun k ds' => ∃ (left found : List Int) (sa sb sc : Sv), ds' = [.dat (il one), .dat (il other), .dat (.int p), .dat (il left), .own (found.map Dat.int), .dat (.int (inv p c)), sa, sb, sc] ∧ k = left.length ∧ left.length ≤ one.length ∧ found.length = n ∧
        splitLoop p (inv p (other.getLastD 0)) other (left.length + 1) left found = splitLoop p (inv p (other.getLastD 0)) other (one.length + 1) one (zeros n)) _ ⟨one, zeros n, _, _, _, rfl, rfl, Nat.le_refl _, by simp [zeros], rfl⟩ ?_) ?_
    · rintro k ds' ⟨left, found, sa, sb, sc, rfl, rfl, hle, hf, e⟩
      by_cases c2 : other.length ≤ left.length
      · refine ⟨true, (et_test (ev_op (ev_len (ev_var rfl)) (ev_len (ev_var rfl)) rv_bl)).yes (decide_eq_true (by simp only [List.length_map]; omega)), fun _ => ?_, (fun h => by cases h)⟩
        obtain ⟨l2, x, el⟩ := (list_end left).resolve_left (List.length_pos_iff.mp (by omega))
        have xl : left.getLastD 0 = x := by rw [el]; simp
        have lt := split_lt hp hne hl (left := left) c2
        rw [splitLoop, if_neg (by omega)] at e
        rw [lst, xl] at lt e
        simp only at e
        have s0 := Int.emod_nonneg (x * inv p c) (b := p) (by omega)
        have s1 := Int.emod_lt_of_pos (x * inv p c) (b := p) (by omega)
        refine sd_then (sd_unp (is := [6, 7]) (dl := [.int (x * inv p c % p), .int ((left.length - other.length : Nat) : Int)]) (ev_tup (ea_cons (ev_op (ev_intc (ev_op (ev_op (ev_var rfl) (ev_neg ev_int) (rv_ixL (d := .int x) (by rw [el]; exact at_last))) (ev_var rfl) (rv_intC (.inr ⟨by omega, by omega⟩)))) (ev_var rfl) (rv_intC (by omega))) (ea_cons ((ev_op (ev_len (ev_var rfl)) (ev_len (ev_var rfl)) rv_int).to ?_) ea_nil)) (by simp)) rfl rfl rfl) ?_
        · simp only [List.length_map]; congr 1; omega
        refine sd_then (sd_store (i := 4) (j := left.length - other.length) rfl (ev_var rfl) (ev_var rfl) (by rw [List.length_map]; omega) rfl) ?_
        generalize x * inv p c % p = share at *
        generalize ep : left.length - other.length = place at *
        refine sd_set (ev_call (dl := [il left, il (zeros place ++ other.map (share * ·)), .int (-1), .int p]) (ea_cons (ev_var rfl) (ea_cons ((EvO.dd (eo_cat (EvO.dd (eo_zeros (ev_var rfl) ⟨by omega, by omega⟩)) (EvO.dd (eo_map (g := (share * ·)) (ev_var rfl) (by omega) fun y _ => ev_op (ev_var rfl) (ev_var rfl) (rv_intC (.inl ⟨by omega, by omega⟩)))) ?_)).to ?_) (ea_cons (ev_neg ev_int) (ea_cons (ev_var rfl) ea_nil)))) ⟨left, _, -1, p, rfl, ⟨hp, .inr rfl, by omega, ?_⟩, rfl⟩) ?_
        · simp [zeros]; omega
        · rw [Int.toNat_natCast, ← List.map_append]
        · simp [zeros]; omega
        · refine ⟨_, lt, plusL p (-1) left (zeros place ++ other.map (share * ·)), found.set place share, _, _, _, by rw [← set_int] <;> rfl, rfl, by omega, by rw [List.length_set]; exact hf, ?_⟩
          rw [lst, ← e]
          have q := splitLoop_at hp hne hl (left := plusL p (-1) left (zeros place ++ other.map (share * ·))) (found := found.set place share) (n := left.length) (k := (plusL p (-1) left (zeros place ++ other.map (share * ·))).length + 1) (by omega) (by omega)
          rw [lst] at q
          exact q.symm
      · refine ⟨false, (et_test (ev_op (ev_len (ev_var rfl)) (ev_len (ev_var rfl)) rv_bl)).nay (decide_eq_false (by simp only [List.length_map]; omega)), (fun h => by cases h), fun _ => ?_⟩
        refine ⟨left, found, _, _, _, rfl, ?_⟩
        unfold splitL
        rw [en, ← e, splitLoop, if_pos (by omega)]
    · rintro d ⟨left, found, sa, sb, sc, rfl, e⟩
      rw [e]
      exact sd_freeze (i := 4) rfl (sd_ret (ev_tup (ea_cons (ev_call (ea_cons (ev_var rfl) ea_nil) ⟨found, rfl, trivial, rfl⟩) (ea_cons (ev_var rfl) ea_nil)) (by simp)) rfl)

abbrev rnD (nums : List Int) (side bottom : Int) : Dat := .tup [il nums, .int side, .int bottom]

theorem sc_law_rests : FnScope ["_law_root_now", "_law_prime", "_law_numbers", "_law_side", "_law_bottom", "_law_back_here", "_law_number"] ["_law_root_now", "_law_prime"] (defScope s_law_rests) := ⟨rfl, rfl, rfl, by decide +kernel, rfl, by decide +kernel, by decide +kernel⟩
def pRests : List Dat → Dat → Prop := fun dl r => ∃ (nums : List Int) (side bottom p : Int), dl = [rnD nums side bottom, .int p] ∧ (Pr p ∧ bottom % p ≠ 0 ∧ nums.length ≤ 1000) ∧ r = il (restsL p nums bottom)
theorem ok_law_rests {P : Program} {w : World} {K : PySem.W.Frag} {mg : Str → Option Value} {base : Heap} (T : Txt K mg) (c_law_trim : Cal P w K mg base 1 "_law_trim" (spD K pTrim)) (c_law_back : Cal P w K mg base 1 "_law_back" (spD K pInv)) : Cal P w K mg base (1 + 1) "_law_rests" (spD K pRests) := by
  refine ⟨?_, T.g_law_rests, (T.d_law_rests).elim fun _ F => F.kp⟩
  refine fn_d (d := d_law_rests) (k := 1) (T.d_law_rests) sc_law_rests (fun _ _ _ _ _ _ us hl => match us, hl with | [_, _], _ => rfl) ?_ ?_
  · rintro dl r ⟨_, _, _, _, rfl, _⟩; rfl
  · intro cdv A outer s H E hr
    refine ⟨_, (pss_cons (ps_asg (pv 0) (pg_tup rfl (pgs_cons (pg_name (i := 2) sc_law_rests.nd rfl (.inl rfl)) (pgs_cons (pg_name (i := 3) sc_law_rests.nd rfl (.inl rfl)) (pgs_cons (pg_name (i := 4) sc_law_rests.nd rfl (.inl rfl)) pgs_nil)))))
      (pss_cons (ps_set (i := 5) sc_law_rests.nd rfl (.inr rfl) (pe_cf (c_law_back.mono (by decide)) hr (by rfl) (pa_cons (pv 4) (pa_cons (pv 1) pa_nil))))
      (pss_one (ps_ret (pe_cf (c_law_trim.mono (by decide)) hr (by rfl) (pa_cons (pe_lc (own := [("_law_number", 6)]) (g := (gName 6)) (tt := tYes) (te := (tOp (rI (fun _ j => 0 < j) fun i j => .int (i % j)) (tCB rIntC (tCons (tOp (rI CMul fun i j => .int (i * j)) (tOp (rI CMul fun i j => .int (i * j)) (tVar 6) (tVar 5)) (tVar 5)) tNil)) (tVar 1))) rfl sc_law_rests.nd (pi_list (pv 2)) (blkOk_by (own := [("_law_number", 6)]) (N := ["_law_root_now", "_law_prime", "_law_numbers", "_law_side", "_law_bottom", "_law_back_here", "_law_number"]) (sc := defScope s_law_rests) (by decide +kernel)) (fun _ _ _ _ _ => (pg_name (i := 6) sc_law_rests.nd rfl (Or.inl rfl))) (fun _ _ _ _ _ => pts_nil) (fun _ _ _ _ _ => (pe_op op_mod (pe_callTy call_int1 (by rfl) T.b_int (by decide +kernel) (pa_cons (pe_op op_mul (pe_op op_mul (pv 6) (pv 5)) (pv 5)) pa_nil)) (pv 1)))) pa_nil)))))), ?_⟩
    rintro m dl r ⟨nums, side, bottom, p, rfl, ⟨hp, hb, h1⟩, rfl⟩
    have hp2 := hp.pos
    obtain ⟨b0, b1⟩ := inv_range (n := bottom) hp
    refine sd_then (sd_unp (is := [2, 3, 4]) (dl := [il nums, .int side, .int bottom]) (ev_var rfl) rfl rfl rfl) ?_
    refine sd_then (sd_set (ev_call (ea_cons (ev_var rfl) (ea_cons (ev_var rfl) ea_nil)) ⟨bottom, p, rfl, ⟨hp, hb⟩, rfl⟩) rfl) ?_
    exact sd_ret (ev_call (ea_cons (EvO.dd (eo_map (g := fun n => n * inv p bottom * inv p bottom % p) (ev_var rfl) (by omega) fun x _ => ev_op (ev_intc (ev_op (ev_op (ev_var rfl) (ev_var rfl) (rv_intC (.inr ⟨by omega, by omega⟩))) (ev_var rfl) (rv_intC (.inr ⟨by omega, by omega⟩)))) (ev_var rfl) (rv_intC (by omega)))) ea_nil) ⟨_, rfl, trivial, rfl⟩) rfl

theorem cutD_drop (l : List Dat) (k : Nat) : cutD l (some (k : Int)) none = l.drop k := by
  unfold cutD
  rw [HT.sIx_none, HT.sIx_nat]
  by_cases h : k ≤ l.length
  · rw [Nat.min_eq_left h, List.take_of_length_le (by rw [List.length_drop]; exact Nat.le_refl _)]
  · rw [Nat.min_eq_right (by omega), List.drop_eq_nil_of_le (Nat.le_refl _), List.drop_eq_nil_of_le (by omega), List.take_nil]
/-- [e for i, x in enumerate(l)], e an int -/
theorem eo_enum {m : Md} {K : PySem.W.Frag} {ds : Ds} {ta : TA} {te : TE} {i j : Nat} {l : List Int} {g : Nat → Int → Int} (hl : EvA m K ta ds [il l]) (hz : l.length ≤ 50000) (he : ∀ (k : Nat) x, l[k]? = some x → EvD m K te (((wipeD ds [i, j]).set i (.dat (.int (k : Int)))).set j (.dat (.int x))) (.int (g k x))) :
    EvO m K (tLc (iEnum K ta) (gTwo K i j) tYes te [i, j]) ds ((l.mapIdx g).map Dat.int) := by
  have h := eo_lc (it_enum (i := i) (j := j) hl) (vs := [i, j]) (fun _ h => h) (fun _ => true) (fun k => .int (g k (l.getD k 0))) (te := te) (tt := tYes) (by rw [List.length_map]; exact hz) (fun _ _ => et_yes) fun k hk _ => by
    rw [List.length_map] at hk
    simp only [List.getElem?_map, List.getElem?_eq_getElem hk, Option.map_some, List.getD_eq_getElem?_getD, Option.getD_some]
    exact he k _ (List.getElem?_eq_getElem hk)
  refine h.to ?_
  rw [List.length_map]
  have e : (l.mapIdx g).length = l.length := by simp
  rw [← e, given_map (l := l.mapIdx g) (g := Dat.int) fun k x ex => ?_]
  rw [List.getElem?_mapIdx] at ex
  cases e1 : l[k]? with
  | none => rw [e1] at ex; simp at ex
  | some a =>
    rw [e1] at ex
    simp only [Option.map_some, Option.some.injEq] at ex
    rw [List.getD_eq_getElem?_getD, e1, ← ex] <;> rfl
theorem at_tup2 {a b : Dat} : atI [a, b] (1 : Int) = some b ∧ atI [a, b] (0 : Int) = some a := ⟨atI_nat (j := 1) rfl, atI_nat (j := 0) rfl⟩
theorem at_tup3 {a b c : Dat} : atI [a, b, c] (2 : Int) = some c ∧ atI [a, b, c] (1 : Int) = some b ∧ atI [a, b, c] (0 : Int) = some a := ⟨atI_nat (j := 2) rfl, atI_nat (j := 1) rfl, atI_nat (j := 0) rfl⟩
theorem isne {l : List Int} : (!decide (l = [])) = decide (l ≠ []) := by by_cases h : l = [] <;> simp [h]

theorem sc_law_keeps : FnScope ["_law_root_now", "_law_prime", "_law_numbers", "_law_side", "_law_bottom", "_law_one", "_law_other", "_law_place", "_law_number"] ["_law_root_now", "_law_prime"] (defScope s_law_keeps) := ⟨rfl, rfl, rfl, by decide +kernel, rfl, by decide +kernel, by decide +kernel⟩
def pKeepsL : List Dat → Dat → Prop := fun dl r => ∃ (nums : List Int) (side bottom p : Int), dl = [rnD nums side bottom, .int p] ∧ (Pr p ∧ nums.length ≤ 1000) ∧ r = .bl (keepsL p nums side bottom)
theorem ok_law_keeps {P : Program} {w : World} {K : PySem.W.Frag} {mg : Str → Option Value} {base : Heap} (T : Txt K mg) (c_law_trim : Cal P w K mg base 1 "_law_trim" (spD K pTrim)) (c_law_rests : Cal P w K mg base 2 "_law_rests" (spD K pRests)) (c_law_split : Cal P w K mg base 3 "_law_split" (spD K pSplit)) : Cal P w K mg base (3 + 1) "_law_keeps" (spD K pKeepsL) := by
  refine ⟨?_, T.g_law_keeps, (T.d_law_keeps).elim fun _ F => F.kp⟩
  refine fn_d (d := d_law_keeps) (k := 3) (T.d_law_keeps) sc_law_keeps (fun _ _ _ _ _ _ us hl => match us, hl with | [_, _], _ => rfl) ?_ ?_
  · rintro dl r ⟨_, _, _, _, rfl, _⟩; rfl
  · intro cdv A outer s H E hr
    refine ⟨_, (pss_cons (ps_asg (pv 0) (pg_tup rfl (pgs_cons (pg_name (i := 2) sc_law_keeps.nd rfl (.inl rfl)) (pgs_cons (pg_name (i := 3) sc_law_keeps.nd rfl (.inl rfl)) (pgs_cons (pg_name (i := 4) sc_law_keeps.nd rfl (.inl rfl)) pgs_nil)))))
      (pss_cons (ps_if (PW.pt (pw_or (pt_cmpR op_eq (pe_op op_mod (pv 4) (pv 1)) pe_int (nomark _)) (pw_or1 (pt_cmpR op_eq (pe_op op_mod (pv 3) (pv 1)) pe_int (nomark _)))))
        (pss_one (ps_ret pe_bl))
        pss_nil)
      (pss_cons (ps_set (i := 5) sc_law_keeps.nd rfl (.inl rfl) (pe_cf (c_law_rests.mono (by decide)) hr (by rfl) (pa_cons (pv 0) (pa_cons (pv 1) pa_nil))))
      (pss_cons (ps_set (i := 6) sc_law_keeps.nd rfl (.inl rfl) (pe_cf (c_law_trim.mono (by decide)) hr (by rfl) (pa_cons (pe_slice sl_list (pe_lc (own := [("_law_place", 7), ("_law_number", 8)]) (g := (gTwo K 7 8)) (tt := tYes) (te := (tOp (rI (fun _ j => 0 < j) fun i j => .int (i % j)) (tCB rIntC (tCons (tOp (rI CMul fun i j => .int (i * j)) (tVar 7) (tVar 8)) tNil)) (tVar 1))) rfl sc_law_keeps.nd (pi_enum (by rfl) T.b_enumerate (pa_cons (pv 5) pa_nil)) (blkOk_by (own := [("_law_place", 7), ("_law_number", 8)]) (N := ["_law_root_now", "_law_prime", "_law_numbers", "_law_side", "_law_bottom", "_law_one", "_law_other", "_law_place", "_law_number"]) (sc := defScope s_law_keeps) (by decide +kernel)) (fun _ _ _ _ _ => (pg_tup rfl (pgs_cons (pg_name (i := 7) sc_law_keeps.nd rfl (Or.inl rfl)) (pgs_cons (pg_name (i := 8) sc_law_keeps.nd rfl (Or.inl rfl)) pgs_nil)))) (fun _ _ _ _ _ => pts_nil) (fun _ _ _ _ _ => (pe_op op_mod (pe_callTy call_int1 (by rfl) T.b_int (by decide +kernel) (pa_cons (pe_op op_mul (pv 7) (pv 8)) pa_nil)) (pv 1)))) (po_some pe_int) po_none) pa_nil)))
      (pss_cons (ps_while PassesOwn.never (pt_cmpR (op_neD hr.units) (pv 6) (pe_lst pa_nil) (nomark _))
        (pss_one (ps_par (i := 5) (j := 6) (by rfl) sc_law_keeps.nd rfl rfl (by decide) rfl rfl (pa_cons (pv 6) (pa_cons (pe_ix ix_tup (pe_cf (c_law_split.mono (by decide)) hr (by rfl) (pa_cons (pv 5) (pa_cons (pv 6) (pa_cons (pv 1) pa_nil)))) pe_int (fun _ _ => rfl)) pa_nil)) (by rfl))))
      (pss_one (ps_ret (pe_cmpR op_eq (pe_callB call_len_seq (by rfl) T.b_len (by decide +kernel) (pa_cons (pv 5) pa_nil)) pe_int (nomark _))))))))), ?_⟩
    rintro m dl r ⟨nums, side, bottom, p, rfl, ⟨hp, h1⟩, rfl⟩
    have hp2 := hp.pos
    refine sd_then (sd_unp (is := [2, 3, 4]) (dl := [il nums, .int side, .int bottom]) (ev_var rfl) rfl rfl rfl) ?_
    have t1 : ∀ ds2 : Ds, ds2[4]? = some (.dat (.int bottom)) → ds2[1]? = some (.dat (.int p)) → EvT m K (tTest (tOp rEq (tOp (rI (fun _ j => 0 < j) fun i j => .int (i % j)) (tVar 4) (tVar 1)) (tC (.int 0)))) ds2 (decide (bottom % p = 0)) := fun ds2 q1 q2 => et_test (ev_op (ev_op (ev_var q1) (ev_var q2) (rv_intC (by omega))) ev_int rv_eq)
    have t2 : ∀ ds2 : Ds, ds2[3]? = some (.dat (.int side)) → ds2[1]? = some (.dat (.int p)) → EvT m K (tTest (tOp rEq (tOp (rI (fun _ j => 0 < j) fun i j => .int (i % j)) (tVar 3) (tVar 1)) (tC (.int 0)))) ds2 (decide (side % p = 0)) := fun ds2 q1 q2 => et_test (ev_op (ev_op (ev_var q1) (ev_var q2) (rv_intC (by omega))) ev_int rv_eq)
    by_cases c : bottom % p = 0 ∨ side % p = 0
    · have em : keepsL p nums side bottom = false := by unfold keepsL; rw [if_pos c]
      rw [em]
      refine sd_seq (M := fun _ => False) (sd_ifT ?_ (sd_ret ev_bl rfl)) (fun _ h => h.elim)
      by_cases c1 : bottom % p = 0
      · exact et_orT ((t1 _ rfl rfl).yes (decide_eq_true c1))
      · exact et_orF ((t1 _ rfl rfl).nay (decide_eq_false c1)) ((t2 _ rfl rfl).yes (decide_eq_true (c.resolve_left c1)))
    · have em : keepsL p nums side bottom = decide ((commonR p (restsL p nums bottom) (slopeL p (restsL p nums bottom))).length = 1) := by unfold keepsL; rw [if_neg c]
      rw [em]
      have c1 : ¬ bottom % p = 0 := fun q => c (.inl q)
      have c2 : ¬ side % p = 0 := fun q => c (.inr q)
      refine sd_then (sd_ifF (et_orF ((t1 _ rfl rfl).nay (decide_eq_false c1)) ((t2 _ rfl rfl).nay (decide_eq_false c2))) (sd_next rfl)) ?_
      refine sd_then (sd_set (ev_call (ea_cons (ev_var rfl) (ea_cons (ev_var rfl) ea_nil)) ⟨nums, side, bottom, p, rfl, ⟨hp, c1, h1⟩, rfl⟩) rfl) ?_
      have rr := restsL_red hp nums bottom
      have rl := restsL_len p nums bottom
      generalize restsL p nums bottom = D at *
      refine sd_then (sd_set (d := il (slopeL p D)) (ev_call (ea_cons (EvO.dd (eo_slice (lo := some 1) (hi := none) (EvO.dd (eo_enum (g := fun i x => (i : Int) * x % p) (ea_cons (ev_var rfl) ea_nil) (by omega) fun k x hk => ev_op (ev_intc (ev_op (ev_var rfl) (ev_var rfl) (rv_intC (.inl ⟨by omega, ?_⟩)))) (ev_var rfl) (rv_intC (by omega)))) (ep_some ev_int) ep_none)) ea_nil) ⟨(D.mapIdx fun i x => (i : Int) * x % p).drop 1, ?_, trivial, rfl⟩) rfl) ?_
      · have := (List.getElem?_eq_some_iff.mp hk).1
        omega
      · rw [show ((1 : Int)) = ((1 : Nat) : Int) from rfl, cutD_drop, ← List.map_drop]
      have sr := slopeL_red hp D
      have sl := slopeL_len p D
      generalize slopeL p D = E at *
      refine sd_seq (M := fun d => ∃ sa sb : Sv, d = [.dat (rnD nums side bottom), .dat (.int p), .dat (il nums), .dat (.int side), .dat (.int bottom), .dat (il (commonR p D E)), .dat (il []), sa, sb])
        (sd_while (fun k ds' => ∃ (near far : List Int) (sa sb : Sv), ds' = [.dat (rnD nums side bottom), .dat (.int p), .dat (il nums), .dat (.int side), .dat (.int bottom), .dat (il near), .dat (il far), sa, sb] ∧ k = far.length ∧ Red p near ∧ Red p far ∧ near.length ≤ 1000 ∧ far.length ≤ 1000 ∧ commonR p near far = commonR p D E) _ ⟨D, E, _, _, rfl, rfl, rr, sr, by omega, by omega, rfl⟩ ?_) ?_
      · rintro k ds' ⟨near, far, sa, sb, rfl, rfl, r1, r2, n1, n2, e⟩
        by_cases c3 : far = []
        · refine ⟨false, (et_test (ev_op (ev_var rfl) (EvO.dd (eo_lst ea_nil (by decide))) (rv_neL (l' := [])))).nay (by simp [c3]), (fun h => by cases h), fun _ => ?_⟩
          subst c3
          rw [commonR_nil] at e
          exact ⟨_, _, by rw [e] <;> rfl⟩
        · refine ⟨true, (et_test (ev_op (ev_var rfl) (EvO.dd (eo_lst ea_nil (by decide))) (rv_neL (l' := [])))).yes (by simp [c3]), fun _ => ?_, (fun h => by cases h)⟩
          obtain ⟨a1, a2, a3, a4⟩ := parts_red hp r1 r2 c3
          refine sd_par (x := il far) (y := il (partsM p near far).2) (ea_cons (ev_var rfl) (ea_cons (ev_op (ev_call (ea_cons (ev_var rfl) (ea_cons (ev_var rfl) (ea_cons (ev_var rfl) ea_nil))) ⟨near, far, p, rfl, ⟨hp, c3, (r2.lead c3).2.2, by omega, by omega⟩, rfl⟩) ev_int (rv_ixT ?_)) ea_nil)) ?_
          · rw [law_split hp r1 r2 c3]; exact at_tup2.1
          · exact ⟨_, a3, far, (partsM p near far).2, _, _, rfl, rfl, r2, a2, n2, by omega, by rw [← commonR_step hp r1 r2 c3]; exact e⟩
      · rintro d ⟨sa, sb, rfl⟩
        refine sd_ret (ev_op (ev_len (ev_var rfl)) ev_int rv_eq) ?_
        show Dat.bl _ = _
        simp only [List.length_map]
        congr 1
        exact decide_eq_decide.mpr (by omega)

theorem sc_common_rests : FnScope ["one", "other", "prime", "near", "far"] ["one", "other", "prime"] (defScope s_common_rests) := ⟨rfl, rfl, rfl, by decide +kernel, rfl, by decide +kernel, by decide +kernel⟩
def pCommon : List Dat → Dat → Prop := fun dl r => ∃ (one other : List Int) (p : Int), dl = [il one, il other, .int p] ∧ (Pr p ∧ Red p one ∧ Red p other ∧ one.length ≤ 1000 ∧ other.length ≤ 1000) ∧ r = il (commonR p one other)
theorem ok_common_rests {P : Program} {w : World} {K : PySem.W.Frag} {mg : Str → Option Value} {base : Heap} (T : Txt K mg) (c_rest_parts : Cal P w K mg base 2 "rest_parts" (spD K pParts)) : Cal P w K mg base (2 + 1) "common_rests" (spD K pCommon) := by
  refine ⟨?_, T.g_common_rests, (T.d_common_rests).elim fun _ F => F.kp⟩
  refine fn_d (d := d_common_rests) (k := 2) (T.d_common_rests) sc_common_rests (fun _ _ _ _ _ _ us hl => match us, hl with | [_, _, _], _ => rfl) ?_ ?_
  · rintro dl r ⟨_, _, _, rfl, _⟩; rfl
  · intro cdv A outer s H E hr
    refine ⟨_, (pss_cons (ps_par (i := 3) (j := 4) (by rfl) sc_common_rests.nd rfl rfl (by decide) rfl rfl (pa_cons (pv 0) (pa_cons (pv 1) pa_nil)) (by rfl))
      (pss_cons (ps_while PassesOwn.never (pt_cmpR (op_neD hr.units) (pv 4) (pe_lst pa_nil) (nomark _))
        (pss_one (ps_par (i := 3) (j := 4) (by rfl) sc_common_rests.nd rfl rfl (by decide) rfl rfl (pa_cons (pv 4) (pa_cons (pe_ix ix_tup (pe_cf (c_rest_parts.mono (by decide)) hr (by rfl) (pa_cons (pv 3) (pa_cons (pv 4) (pa_cons (pv 2) pa_nil)))) pe_int (fun _ _ => rfl)) pa_nil)) (by rfl))))
      (pss_one (ps_ret (pv 3))))), ?_⟩
    rintro m dl r ⟨D, E, p, rfl, ⟨hp, rr, sr, h1, h2⟩, rfl⟩
    refine sd_then (sd_par (ea_cons (ev_var rfl) (ea_cons (ev_var rfl) ea_nil)) rfl) ?_
    refine sd_seq (M := fun d => d = [.dat (il D), .dat (il E), .dat (.int p), .dat (il (commonR p D E)), .dat (il [])])
      (sd_while (fun k ds' => ∃ (near far : List Int), ds' = [.dat (il D), .dat (il E), .dat (.int p), .dat (il near), .dat (il far)] ∧ k = far.length ∧ Red p near ∧ Red p far ∧ near.length ≤ 1000 ∧ far.length ≤ 1000 ∧ commonR p near far = commonR p D E) _ ⟨D, E, rfl, rfl, rr, sr, by omega, by omega, rfl⟩ ?_) ?_
    · rintro k ds' ⟨near, far, rfl, rfl, r1, r2, n1, n2, e⟩
      by_cases c3 : far = []
      · refine ⟨false, (et_test (ev_op (ev_var rfl) (EvO.dd (eo_lst ea_nil (by decide))) (rv_neL (l' := [])))).nay (by simp [c3]), (fun h => by cases h), fun _ => ?_⟩
        subst c3
        rw [commonR_nil] at e
        rw [e] <;> rfl
      · refine ⟨true, (et_test (ev_op (ev_var rfl) (EvO.dd (eo_lst ea_nil (by decide))) (rv_neL (l' := [])))).yes (by simp [c3]), fun _ => ?_, (fun h => by cases h)⟩
        obtain ⟨a1, a2, a3, a4⟩ := parts_red hp r1 r2 c3
        refine sd_par (x := il far) (y := il (partsM p near far).2) (ea_cons (ev_var rfl) (ea_cons (ev_op (ev_call (ea_cons (ev_var rfl) (ea_cons (ev_var rfl) (ea_cons (ev_var rfl) ea_nil))) ⟨near, far, p, rfl, ⟨hp, c3, (r2.lead c3).2.2, by omega, by omega⟩, rfl⟩) ev_int (rv_ixT at_tup2.1)) ea_nil)) ?_
        exact ⟨_, a3, far, (partsM p near far).2, rfl, rfl, r2, a2, n2, by omega, by rw [← commonR_step hp r1 r2 c3]; exact e⟩
    · rintro d rfl
      exact sd_ret (ev_var rfl) rfl

end RR
/-! ### RCalc7 -/
/-! The calculus: a list of one's own lent to a def, to a comprehension; zip of tuples. -/
namespace RR
open PySem PySem.Spec PyProof.Rows L2 Evl
section
variable {m : Md} {K : PySem.W.Frag} {ds : Ds}
/-- without the object at l -/
def off (Hb : Hp) (l : Addr) : Hp := fun a => if a = l then none else Hb a
theorem Gr.thaw {Hb H Hb' H' : Hp} {l : Addr} {o : HO} (g : Gr m (upd Hb l o) H Hb' H') (h1 : Hb l = none) : Gr m Hb H (off Hb' l) H' where
  b := fun a u e => by
    have n : a ≠ l := fun q => by rw [q, h1] at e; cases e
    unfold off
    rw [if_neg n]
    exact g.b a u (by rw [upd_ne n]; exact e)
  s := fun a u e => by
    unfold off at e
    split at e
    · cases e
    · exact g.s a u e
  k := g.k
  t := g.t
  f := fun a h n => by
    unfold off at h
    split at h
    · exact absurd rfl h
    · rename_i q
      exact g.f a h (by rw [upd_ne q]; exact n)
  j := g.j
theorem ints_ne {l l' : List Int} (h : l ≠ l') : HO.lst (l.map V.int) ≠ HO.lst (l'.map V.int) := fun q => by
  have : l.map V.int = l'.map V.int := HO.lst.inj q
  exact h (List.map_inj_right (fun a b e => V.int.inj e) |>.mp this)
/-- a call with a list of one's own, twice -/
theorem ev_callO {P : List Dat → Dat → Prop} {i j : Nat} {xs c : List Int} {d : Dat} (e : ds[i]? = some (.own (xs.map Dat.int))) (ej : ds[j]? = some (.dat d)) (p : P [il xs, il xs, d] (il c)) (hc : c ≠ xs) :
    EvD m K (tCf (spD K P) (tCons (tVar i) (tCons (tVar i) (tCons (tVar j) tNil)))) ds (il c) := fun Hb H σ Q S k => by
  obtain ⟨l, vs, e1, h1, h2, h3, h4, h5⟩ := S.own e
  obtain ⟨v, e2, hv⟩ := S.dat ej
  have ev := IsL.ints.mp h4
  have si : Ex (upd Hb l (.lst vs)) H := fun a u q => by
    by_cases n : a = l
    · rw [n, upd_same] at q; rw [n, h3]; exact q
    · rw [upd_ne n] at q; exact S.sub a u q
  have il' : Is K (upd Hb l (.lst vs)) (il xs) (.ref l) := ⟨l, vs, rfl, upd_same, IsL.mono (Ex.new h1) _ h4⟩
  refine ⟨.ref l, e1, .ref l, e1, v, e2, upd Hb l (.lst vs), [il xs, il xs, d], il c, si, ⟨_, _, rfl, il', _, _, rfl, il', _, _, rfl, Is.mono (Ex.new h1) d hv, rfl⟩, p, fun w Hb' H' g hw => ?_⟩
  have g2 : Gr m Hb H (off Hb' l) H' := (Gr.any g).thaw h1
  obtain ⟨q, e3, e4⟩ := Is.il.mp hw
  refine k w _ H' g2 (Is.il.mpr ⟨q, e3, ?_⟩)
  have n : q ≠ l := fun n => by
    have e5 := g.s _ _ e4
    have e6 := g.k l _ id h3
    rw [n, e6, ev] at e5
    exact ints_ne hc (Option.some.inj e5).symm
  unfold off
  rw [if_neg n]
  exact e4
/-- an answer that is no object, found with a list of one's own lent out -/
theorem ev_lend {te : TE} {i : Nat} {xs : List Dat} {d : Dat} (e : ds[i]? = some (.own xs)) (hd : ∀ Hb v, Is K Hb d v → ∀ Hb', Is K Hb' d v) (h : EvD m K te (ds.set i (.dat (.lst xs))) d) : EvD m K te ds d := fun Hb H σ Q S k => by
  obtain ⟨l, vs, e1, h1, h2, h3, h4, h5⟩ := S.own e
  exact h _ H σ Q (S.freeze e e1 h3) fun v Hb' H' g hv => k v _ H' (g.thaw h1) (hd _ _ hv _)
theorem et_lend {tt : TT} {i : Nat} {xs : List Dat} {b : Bool} (e : ds[i]? = some (.own xs)) (h : EvT m K tt (ds.set i (.dat (.lst xs))) b) : EvT m K tt ds b := fun Hb H σ Q S k => by
  obtain ⟨l, vs, e1, h1, h2, h3, h4, h5⟩ := S.own e
  exact h _ H σ Q (S.freeze e e1 h3) fun Hb' H' g => k _ H' (g.thaw h1)
theorem is_bl (b : Bool) : ∀ Hb v, Is K Hb (.bl b) v → ∀ Hb', Is K Hb' (.bl b) v := fun _ _ h _ => h
theorem is_int (b : Int) : ∀ Hb v, Is K Hb (.int b) v → ∀ Hb', Is K Hb' (.int b) v := fun _ _ h _ => h
theorem walk_zipT {n : Nat} {a b : Addr} {xs ys : List V} (hn : n = min xs.length ys.length) : Walk (RZ.ItzT K a b) n (fun H => SqT K H a xs ∧ SqT K H b ys) (YPair (fun i => xs[i]?) (fun i => ys[i]?)) := by
  subst hn
  refine ⟨fun i _ hi q => ?_, fun _ q => ⟨xs, ys, q.1, q.2, by omega⟩, fun i H v H' _ q y => ?_⟩
  · have h1 : i < xs.length := by omega
    have h2 : i < ys.length := by omega
    exact ⟨xs, ys, xs[i], ys[i], q.1, q.2, by simp [h1], by simp [h2]⟩
  · obtain ⟨T, x, z, h1, h2, h3, h4, h5⟩ := y
    exact ⟨T, x, z, h1, h2, h3, h4 xs q.1, h5 ys q.2⟩
theorem it_zipT {xs ys : List Dat} {i j n : Nat} {ta : TA} (h : EvA m K ta ds [.tup xs, .tup ys]) (hx : xs.length = n) (hy : ys.length = n) : ItD m K (RZ.iZipA K ta) (gTwo K i j) ds n (fun k ds2 => match xs[k]?, ys[k]? with | some d, some e => (ds2.set i (.dat d)).set j (.dat e) | _, _ => ds2) [i, j] := fun Hb H σ R S k =>
  h Hb H σ _ S fun ws Hb1 H1 g hv => by
    obtain ⟨v, r, e1, ⟨p, vs, h1, h2, h3⟩, v', r', e1', ⟨p', vs', h1', h2', h3'⟩, e2⟩ := hv
    refine ⟨p, p', vs, vs', by rw [e1, h1, e1', h1', show r' = [] from e2], .inr ⟨.inl (.inl (g.s _ _ h2)), .inl (.inl (g.s _ _ h2')), k _ (fun H2 => SqT K H2 p vs ∧ SqT K H2 p' vs') _ Hb1 H1 g (walk_zipT (by rw [h3.length, h3'.length, hx, hy]; simp)) (fun H2 e => ⟨.inl (.inl (e _ _ h2)), .inl (.inl (e _ _ h2'))⟩) fun n x Hb2 H2 H3 σ2 ds2 Q hi e2 S2 y q => ?_⟩⟩
    obtain ⟨T, a, b, y1, y2, y3, y4, y5⟩ := y
    obtain ⟨d, ed⟩ : ∃ d, xs[n]? = some d := ⟨xs[n], List.getElem?_eq_getElem (by omega)⟩
    obtain ⟨e, ee⟩ : ∃ d, ys[n]? = some d := ⟨ys[n], List.getElem?_eq_getElem (by omega)⟩
    obtain ⟨w, ew, hw⟩ := h3.get ed
    obtain ⟨w', ew', hw'⟩ := h3'.get ee
    have y6 : vs'[n]? = some b := y5
    rw [ew'] at y6
    cases Option.some.inj y6
    have y7 : vs[n]? = some a := y4
    rw [ew] at y7
    cases Option.some.inj y7
    simp only [ed, ee] at q
    exact two_of S2 y2 y3 y1 (Is.mono e2 d hw) (Is.mono e2 e hw') q
end
end RR
/-! ### RCalc8 -/
/-! The calculus: instances, their attributes, methods, properties, making. -/
namespace RR
open PySem PySem.Spec PyProof.Rows L2 Evl
section
variable {m : Md} {K : PySem.W.Frag} {ds : Ds} {te tv : TE} {d x : Dat} {N : Ds → Prop} {R : Dat → Prop}
theorem zip_get : ∀ {ns : List Str} {vs : List V} {f : Str} {k : Nat} {v : V}, ns[k]? = some f → vs[k]? = some v → (∀ j, j < k → ns[j]? ≠ some f) → (ns.zip vs).lookup f = some v
  | n :: ns, w :: vs, f, 0, v, h1, h2, _ => by
    cases Option.some.inj (show some n = some f from h1)
    cases Option.some.inj (show some w = some v from h2)
    simp [List.lookup]
  | n :: ns, w :: vs, f, k + 1, v, h1, h2, h3 => by
    have ne : n ≠ f := fun q => h3 0 (Nat.succ_pos k) (by rw [q] <;> rfl)
    rw [List.zip_cons_cons, List.lookup_cons]
    rw [show (f == n) = false from by simp [Ne.symm ne]]
    exact zip_get (k := k) (by simpa using h1) (by simpa using h2) fun j hj q => h3 (j + 1) (by omega) (by simpa using q)
  | [], _, _, _, _, h1, _, _ => by simp at h1
  | _ :: _, [], _, _, _, _, h2, _ => by simp at h2
theorem zip_none : ∀ {ns : List Str} {vs : List V} {f : Str}, f ∉ ns → (ns.zip vs).lookup f = none
  | [], _, _, _ => rfl
  | n :: ns, [], _, _ => rfl
  | n :: ns, w :: vs, f, h => by
    rw [List.zip_cons_cons, List.lookup_cons, show (f == n) = false from beq_eq_false_iff_ne.mpr fun q => h (by simp [q])]
    exact zip_none fun q => h (List.mem_cons_of_mem _ q)
theorem putF_new : ∀ {ns : List Str} {vs : List V} {f : Str} {y : V}, f ∉ ns → ns.length = vs.length → putF f y (ns.zip vs) = (ns ++ [f]).zip (vs ++ [y])
  | [], [], f, y, _, _ => rfl
  | n :: ns, w :: vs, f, y, h, hl => by
    have ne : n ≠ f := fun q => h (by simp [q])
    rw [List.zip_cons_cons, show putF f y ((n, w) :: ns.zip vs) = (if n = f then (n, y) :: ns.zip vs else (n, w) :: putF f y (ns.zip vs)) from rfl, if_neg ne, putF_new (fun q => h (List.mem_cons_of_mem _ q)) (by simpa using hl)]
    rfl
  | [], _ :: _, _, _, _, hl => by simp at hl
  | _ :: _, [], _, _, _, hl => by simp at hl
theorem putF_old : ∀ {ns : List Str} {vs : List V} {f : Str} {k : Nat} {y : V}, ns[k]? = some f → (∀ j, j < k → ns[j]? ≠ some f) → ns.length = vs.length → putF f y (ns.zip vs) = ns.zip (vs.set k y)
  | n :: ns, w :: vs, f, 0, y, h, _, hl => by
    cases Option.some.inj (show some n = some f from h)
    rw [List.zip_cons_cons, show putF n y ((n, w) :: ns.zip vs) = (if n = n then (n, y) :: ns.zip vs else (n, w) :: putF n y (ns.zip vs)) from rfl, if_pos rfl]
    rfl
  | n :: ns, w :: vs, f, k + 1, y, h, h3, hl => by
    have ne : n ≠ f := fun q => h3 0 (Nat.succ_pos k) (by rw [q] <;> rfl)
    rw [List.zip_cons_cons, show putF f y ((n, w) :: ns.zip vs) = (if n = f then (n, y) :: ns.zip vs else (n, w) :: putF f y (ns.zip vs)) from rfl, if_neg ne, putF_old (k := k) (by simpa using h) (fun j hj q => h3 (j + 1) (by omega) (by simpa using q)) (by simpa using hl)]
    rfl
  | [], _, _, _, _, h, _, _ => by simp at h
  | _ :: _, [], _, _, _, _, _, hl => by simp at hl
/-- the k-th of the attributes' names is f, the first such -/
def At (ns : List Str) (f : Str) (k : Nat) : Prop := ns[k]? = some f ∧ ∀ j, j < k → ns[j]? ≠ some f
/-! ### reading attributes -/
theorem ev_fOb {C : Str} {ns : List Str} {xs : List Dat} {f : Str} {k : Nat} (h : EvD m K te ds (.ob C ns xs)) (c : Cls K (He.ga K C)) (n : NoAttr K (He.ga K C) f) (hk : At ns f k) (hx : xs[k]? = some d) : EvD m K (tFld K te f) ds d := fun Hb H σ Q S kk =>
  h Hb H σ _ S fun v Hb1 H1 g ⟨p, dx, vs, h1, h2, h3⟩ => by
    obtain ⟨w, ew, hw⟩ := h3.get hx
    exact ⟨p, _, dx, _, w, h1, g.s _ _ h2, c, n, zip_get hk.1 ew hk.2, kk w Hb1 H1 g hw⟩
theorem ev_fRat {t b : Int} (T : Cls K (He.ga K "Ratio")) (n : NoAttr K (He.ga K "Ratio") "own_top") (h : EvD m K te ds (.rat t b)) : EvD m K (tFld K te "own_top") ds (.int t) := fun Hb H σ Q S kk =>
  h Hb H σ _ S fun v Hb1 H1 g ⟨p, dx, h1, h2⟩ => ⟨p, _, dx, _, .int t, h1, g.s _ _ h2, T, n, rfl, kk _ Hb1 H1 g rfl⟩
theorem ev_fRatB {t b : Int} (T : Cls K (He.ga K "Ratio")) (n : NoAttr K (He.ga K "Ratio") "own_bottom") (h : EvD m K te ds (.rat t b)) : EvD m K (tFld K te "own_bottom") ds (.int b) := fun Hb H σ Q S kk =>
  h Hb H σ _ S fun v Hb1 H1 g ⟨p, dx, h1, h2⟩ => ⟨p, _, dx, _, .int b, h1, g.s _ _ h2, T, n, rfl, kk _ Hb1 H1 g rfl⟩
theorem ev_fRoot {a b c : Dat} (T : Cls K (He.ga K "Root")) (h : EvD m K te ds (.root a b c)) : (NoAttr K (He.ga K "Root") "own_poly" → EvD m K (tFld K te "own_poly") ds a) ∧ (NoAttr K (He.ga K "Root") "own_nearest" → EvD m K (tFld K te "own_nearest") ds b) :=
  ⟨fun n Hb H σ Q S kk => h Hb H σ _ S fun v Hb1 H1 g ⟨p, dx, u1, u2, u3, h1, h2, h3, h4, h5⟩ => ⟨p, _, dx, _, u1, h1, g.s _ _ h2, T, n, rfl, kk _ Hb1 H1 g h3⟩,
   fun n Hb H σ Q S kk => h Hb H σ _ S fun v Hb1 H1 g ⟨p, dx, u1, u2, u3, h1, h2, h3, h4, h5⟩ => ⟨p, _, dx, _, u2, h1, g.s _ _ h2, T, n, rfl, kk _ Hb1 H1 g h4⟩⟩
/-! ### an instance of one's own -/
theorem Sl.wk (S : Sl m K Hb H σ ds) {i : Nat} {C : Str} {ns : List Str} {xs : List Dat} (e : ds[i]? = some (.wk C ns xs)) : ∃ l dx vs, σ[i]? = some (some (.ref l)) ∧ Hb l = none ∧ ¬ m.M l ∧ H l = some (.ins (He.ga K C) dx (ns.zip vs)) ∧ IsL K Hb xs vs ∧ m.F l ∧ m.W l := by
  obtain ⟨o, e1, l, dx, vs, e2, h⟩ := S.at_ i _ e
  exact ⟨l, dx, vs, by rw [e1, e2], h⟩
/-- a slot is set to an instance of one's own -/
theorem Sl.setW (S : Sl m K Hb H σ ds) {i : Nat} {C : Str} {ns : List Str} {xs : List Dat} {l dx : Addr} {vs : List V} (h1 : Hb l = none) (h2 : ¬ m.M l) (h3 : H l = some (.ins (He.ga K C) dx (ns.zip vs))) (h4 : IsL K Hb xs vs) (h5 : m.F l ∧ m.W l) : Sl m K Hb H (σ.set i (some (.ref l))) (ds.set i (.wk C ns xs)) where
  sub := S.sub
  len := by rw [List.length_set, List.length_set, S.len]
  at_ := fun j s e => by
    by_cases hj : i = j
    · subst hj
      have hi : i < ds.length := by
        have := (List.getElem?_eq_some_iff.mp e).1
        rwa [List.length_set] at this
      rw [List.getElem?_set_self hi] at e
      cases Option.some.inj e
      exact ⟨some (.ref l), List.getElem?_set_self (by rw [S.len]; exact hi), l, dx, vs, rfl, h1, h2, h3, h4, h5⟩
    · rw [List.getElem?_set_ne hj] at e ⊢
      exact S.at_ j s e
  sep := fun j k ys zs l' e1 e2 s1 s2 => by
    have nj : i ≠ j := fun q => by
      subst q
      have hi : i < ds.length := by
        have := (List.getElem?_eq_some_iff.mp e1).1
        rwa [List.length_set] at this
      rw [List.getElem?_set_self hi] at e1
      cases Option.some.inj e1
    have nk : i ≠ k := fun q => by
      subst q
      have hi : i < ds.length := by
        have := (List.getElem?_eq_some_iff.mp e2).1
        rwa [List.length_set] at this
      rw [List.getElem?_set_self hi] at e2
      cases Option.some.inj e2
    rw [List.getElem?_set_ne nj] at e1 s1
    rw [List.getElem?_set_ne nk] at e2 s2
    exact S.sep j k ys zs l' e1 e2 s1 s2
  mt := S.mt
  fr := S.fr
/-- the only one -/
def OneW (ds : Ds) (i : Nat) : Prop := ∀ (j : Nat) (C : Str) (ns : List Str) (xs : List Dat), ds[j]? = some (.wk C ns xs) → j = i
theorem Sl.writeW (S : Sl m K Hb H σ ds) {i : Nat} {C : Str} {ns ns' : List Str} {xs ys : List Dat} {l dx : Addr} {ws : List V} (e : ds[i]? = some (.wk C ns xs)) (one : OneW ds i) (el : σ[i]? = some (some (.ref l))) (hw : IsL K Hb ys ws) : Sl m K Hb (upd H l (.ins (He.ga K C) dx (ns'.zip ws))) σ (ds.set i (.wk C ns' ys)) := by
  obtain ⟨l', dx', vs, el', h1, h2, h3, h4, h5⟩ := S.wk e
  rw [el] at el'
  cases el'
  have hi : i < ds.length := (List.getElem?_eq_some_iff.mp e).1
  refine ⟨fun a o h => ?_, by rw [List.length_set, S.len], fun j s ej => ?_, fun j k ys zs l' e1 e2 s1 s2 => ?_, fun a ha => ?_, fun a ha => ?_⟩
  · have na : a ≠ l := fun q => by rw [q, h1] at h; cases h
    rw [upd_ne na]
    exact S.sub a o h
  · by_cases hj : i = j
    · subst hj
      rw [List.getElem?_set_self hi] at ej
      cases Option.some.inj ej
      exact ⟨_, el, l, dx, ws, rfl, h1, h2, upd_same, hw, h5⟩
    · rw [List.getElem?_set_ne hj] at ej
      obtain ⟨o, e1, h⟩ := S.at_ j s ej
      refine ⟨o, e1, ?_⟩
      cases s with
      | no => trivial
      | dat d => exact h
      | own zs =>
        obtain ⟨l2, us, e2, a1, a2, a3, a4, a5⟩ := h
        have nl : l2 ≠ l := fun q => by
          rw [q, h3] at a3
          cases a3
        exact ⟨l2, us, e2, a1, a2, by rw [upd_ne nl]; exact a3, a4, a5⟩
      | mu => exact h
      | wk C2 ns2 zs => exact absurd (one j C2 ns2 zs ej).symm hj
  · have o1 : ds[j]? = some (.own ys) := by
      by_cases hj : i = j
      · subst hj; rw [List.getElem?_set_self hi] at e1; cases Option.some.inj e1
      · rw [List.getElem?_set_ne hj] at e1; exact e1
    have o2 : ds[k]? = some (.own zs) := by
      by_cases hj : i = k
      · subst hj; rw [List.getElem?_set_self hi] at e2; cases Option.some.inj e2
      · rw [List.getElem?_set_ne hj] at e2; exact e2
    exact S.sep j k _ _ l' o1 o2 s1 s2
  · obtain ⟨b1, o, b2, b3⟩ := S.mt a ha
    have na : a ≠ l := fun q => h2 (q ▸ ha)
    exact ⟨b1, o, by rw [upd_ne na]; exact b2, b3⟩
  · by_cases na : a = l
    · rw [na]; exact h5.1
    · rw [upd_ne na] at ha; exact S.fr a ha
theorem Stt.writeW {Hb0 H0 : Hp} (S : Stt m K Hb0 H0 ds Hb σ H) {i : Nat} {C : Str} {ns ns' : List Str} {xs ys : List Dat} {l dx : Addr} {ws : List V} (e : ds[i]? = some (.wk C ns xs)) (one : OneW ds i) (el : σ[i]? = some (some (.ref l))) (hw : IsL K Hb ys ws) : Stt m K Hb0 H0 (ds.set i (.wk C ns' ys)) Hb σ (upd H l (.ins (He.ga K C) dx (ns'.zip ws))) := by
  obtain ⟨l', dx', vs, el', h1, h2, h3, h4, h5⟩ := S.sl.wk e
  rw [el] at el'
  cases el'
  refine ⟨S.gr.wr (S.ff l h5.1) h1 h2, S.sl.writeW e one el hw, S.ff⟩
theorem ev_fW {i : Nat} {C : Str} {ns : List Str} {xs : List Dat} {f : Str} {k : Nat} (e : ds[i]? = some (.wk C ns xs)) (c : Cls K (He.ga K C)) (n : NoAttr K (He.ga K C) f) (hk : At ns f k) (hx : xs[k]? = some d) : EvD m K (tFld K (tVar i) f) ds d := fun Hb H σ Q S kk => by
  obtain ⟨l, dx, vs, e1, h1, h2, h3, h4, h5⟩ := S.wk e
  obtain ⟨w, ew, hw⟩ := h4.get hx
  exact ⟨.ref l, e1, l, _, dx, _, w, rfl, h3, c, n, zip_get hk.1 ew hk.2, kk w Hb H (.refl S.sub) hw⟩
/-- self.f = e, f a new attribute -/
theorem sd_fldN {i : Nat} {C : Str} {ns : List Str} {xs : List Dat} {f : Str} (e : ds[i]? = some (.wk C ns xs)) (one : OneW ds i) (h : EvD m K tv ds d) (c : Cls K (He.ga K C)) (na : NoAttr K (He.ga K C) f) (hf : f ∉ ns) (hl : ns.length = xs.length) (hz : ns.length < 1000) (n : N (ds.set i (.wk C (ns ++ [f]) (xs ++ [d])))) : SD m K (sFld K (tVar i) tv f) ds N R := fun Hb0 H0 Hb σ H D S k _ =>
  h Hb H σ _ S.sl fun v Hb' H' g hv => by
    have S' := S.grow g
    obtain ⟨l, dx, vs, e1, h1, h2, h3, h4, h5⟩ := S'.sl.wk e
    refine ⟨.ref l, e1, l, _, dx, _, rfl, h3, c, na, by rw [List.length_zip]; omega, ?_⟩
    rw [putF_new hf (by rw [hl, h4.length])]
    exact k _ Hb' σ _ n g.b (S'.writeW e one e1 (h4.append (.cons hv .nil)))
/-- self.f = e, f there already -/
theorem sd_fldO {i : Nat} {C : Str} {ns : List Str} {xs : List Dat} {f : Str} {j : Nat} (e : ds[i]? = some (.wk C ns xs)) (one : OneW ds i) (h : EvD m K tv ds d) (c : Cls K (He.ga K C)) (na : NoAttr K (He.ga K C) f) (hf : At ns f j) (hl : ns.length = xs.length) (hz : ns.length < 1000) (n : N (ds.set i (.wk C ns (xs.set j d)))) : SD m K (sFld K (tVar i) tv f) ds N R := fun Hb0 H0 Hb σ H D S k _ =>
  h Hb H σ _ S.sl fun v Hb' H' g hv => by
    have S' := S.grow g
    obtain ⟨l, dx, vs, e1, h1, h2, h3, h4, h5⟩ := S'.sl.wk e
    refine ⟨.ref l, e1, l, _, dx, _, rfl, h3, c, na, by rw [List.length_zip]; omega, ?_⟩
    rw [putF_old hf.1 hf.2 (by rw [hl, h4.length])]
    exact k _ Hb' σ _ n g.b (S'.writeW e one e1 (h4.set hv))
/-- lent out as a datum -/
theorem Sl.freezeW (S : Sl m K Hb H σ ds) {i : Nat} {C : Str} {ns : List Str} {xs : List Dat} {l : Addr} {o : HO} (e : ds[i]? = some (.wk C ns xs)) (one : OneW ds i) (el : σ[i]? = some (some (.ref l))) (hv : H l = some o) : Sl m K (upd Hb l o) H σ (ds.set i (.dat (.ob C ns xs))) := by
  obtain ⟨l', dx, vs', el', h1, h2, h3, h4, h5⟩ := S.wk e
  rw [el] at el'
  cases el'
  rw [hv] at h3
  cases h3
  have hi : i < ds.length := (List.getElem?_eq_some_iff.mp e).1
  have x1 : Ex Hb (upd Hb l (.ins (He.ga K C) dx (ns.zip vs'))) := Ex.new h1
  refine ⟨fun a o h => ?_, by rw [List.length_set, S.len], fun j s ej => ?_, fun j k ys zs l' e1 e2 s1 s2 => ?_, fun a ha => ?_, S.fr⟩
  · by_cases na : a = l
    · rw [na, upd_same] at h; rw [na, hv]; exact h
    · rw [upd_ne na] at h; exact S.sub a o h
  · by_cases hj : i = j
    · subst hj
      rw [List.getElem?_set_self hi] at ej
      cases Option.some.inj ej
      exact ⟨_, el, _, rfl, l, dx, vs', rfl, upd_same, IsL.mono x1 xs h4⟩
    · rw [List.getElem?_set_ne hj] at ej
      obtain ⟨o, e1, h⟩ := S.at_ j s ej
      refine ⟨o, e1, ?_⟩
      cases s with
      | no => trivial
      | dat d => obtain ⟨v, e2, h⟩ := h; exact ⟨v, e2, Is.mono x1 d h⟩
      | own zs =>
        obtain ⟨l2, us, e2, a1, a2, a3, a4, a5⟩ := h
        have nl : l2 ≠ l := fun q => by
          rw [q, hv] at a3
          cases a3
        exact ⟨l2, us, e2, by rw [upd_ne nl]; exact a1, a2, a3, IsL.mono x1 zs a4, a5⟩
      | mu => exact h
      | wk C2 ns2 zs => exact absurd (one j C2 ns2 zs ej).symm hj
  · have o1 : ds[j]? = some (.own ys) := by
      by_cases hj : i = j
      · subst hj; rw [List.getElem?_set_self hi] at e1; cases Option.some.inj e1
      · rw [List.getElem?_set_ne hj] at e1; exact e1
    have o2 : ds[k]? = some (.own zs) := by
      by_cases hj : i = k
      · subst hj; rw [List.getElem?_set_self hi] at e2; cases Option.some.inj e2
      · rw [List.getElem?_set_ne hj] at e2; exact e2
    exact S.sep j k ys zs l' o1 o2 s1 s2
  · obtain ⟨b1, b2⟩ := S.mt a ha
    have na : a ≠ l := fun q => h2 (q ▸ ha)
    exact ⟨by rw [upd_ne na]; exact b1, b2⟩
theorem ev_lendW {te : TE} {i : Nat} {C : Str} {ns : List Str} {xs : List Dat} {d : Dat} (e : ds[i]? = some (.wk C ns xs)) (one : OneW ds i) (hd : ∀ Hb v, Is K Hb d v → ∀ Hb', Is K Hb' d v) (h : EvD m K te (ds.set i (.dat (.ob C ns xs))) d) : EvD m K te ds d := fun Hb H σ Q S k => by
  obtain ⟨l, dx, vs, e1, h1, h2, h3, h4, h5⟩ := S.wk e
  exact h _ H σ Q (S.freezeW e one e1 h3) fun v Hb' H' g hv => k v _ H' (g.thaw h1) (hd _ _ hv _)
/-- .. a list of ints is told -/
theorem ev_lendL {te : TE} {i : Nat} {C : Str} {ns : List Str} {xs : List Dat} {c : List Int} (e : ds[i]? = some (.wk C ns xs)) (one : OneW ds i) (h : EvD m K te (ds.set i (.dat (.ob C ns xs))) (il c)) : EvD m K te ds (il c) := fun Hb H σ Q S k => by
  obtain ⟨l, dx, vs, e1, h1, h2, h3, h4, h5⟩ := S.wk e
  refine h _ H σ Q (S.freezeW e one e1 h3) fun v Hb' H' g hv => k v _ H' (g.thaw h1) ?_
  obtain ⟨q, e3, e4⟩ := Is.il.mp hv
  have n : q ≠ l := fun n => by
    have e5 := g.b l _ upd_same
    rw [← n, e4] at e5
    cases e5
  refine Is.il.mpr ⟨q, e3, ?_⟩
  unfold off
  rw [if_neg n]
  exact e4
/-- handed on for good -/
theorem sd_freezeW {t : TS} {i : Nat} {C : Str} {ns : List Str} {xs : List Dat} (e : ds[i]? = some (.wk C ns xs)) (one : OneW ds i) (h : SD m K t (ds.set i (.dat (.ob C ns xs))) N R) : SD m K t ds N R := fun Hb0 H0 Hb σ H D S n r => by
  obtain ⟨l, dx, vs, el, h1, h2, h3, h4, h5⟩ := S.sl.wk e
  exact h Hb0 H0 _ σ H D ⟨S.gr.add h1 (S.ff l h5.1) h3, S.sl.freezeW e one el h3, S.ff⟩ (fun ds2 Hb2 σ2 H2 e2 x2 => n ds2 Hb2 σ2 H2 e2 ((Ex.new h1).trans x2)) r
end
/-! ### bodies that tell what stands in the end -/
/-- F: what is handed back, and the slots then -/
def SDM (m : Md) (K : PySem.W.Frag) (t : TS) (ds : Ds) (F : Dat → Ds → Prop) : Prop := ∀ (Hb0 H0 Hb : Hp) (σ : L2.St) (H : Hp) (D : Ends), Stt m K Hb0 H0 ds Hb σ H →
  (∀ ds' Hb' σ' H', F .non ds' → Stt m K Hb0 H0 ds' Hb' σ' H' → D.nx σ' H') → (∀ d ds' v Hb' σ' H', F d ds' → Stt m K Hb0 H0 ds' Hb' σ' H' → Is K Hb' d v → D.rt v H') → t D σ H
section
variable {m : Md} {K : PySem.W.Frag} {ds ds1 : Ds} {te : TE} {d : Dat} {t u : TS} {N M : Ds → Prop} {F : Dat → Ds → Prop}
theorem sdm_seq (h : SD m K t ds M (fun _ => False)) (k : ∀ ds', M ds' → SDM m K u ds' F) : SDM m K (tSeq t u) ds F := fun Hb0 H0 Hb σ H D S n r =>
  h Hb0 H0 Hb σ H { D with nx := u D } S (fun ds' Hb' σ' H' e x S' => k ds' e Hb0 H0 Hb' σ' H' D S' n r) fun d v Hb' H' q => q.elim
theorem sdm_then (h : SD m K t ds (· = ds1) (fun _ => False)) (k : SDM m K u ds1 F) : SDM m K (tSeq t u) ds F := sdm_seq h fun _ e => e ▸ k
theorem sdm_ret (h : EvD m K te ds d) (r : F d ds) : SDM m K (tRet te) ds F := fun Hb0 H0 Hb σ H D S _ k =>
  h Hb H σ _ S.sl fun v Hb' H' g hv => k d ds v Hb' σ H' r (S.grow g) hv
theorem sdm_end (h : SD m K t ds (F .non) (fun _ => False)) : SDM m K t ds F := fun Hb0 H0 Hb σ H D S n r =>
  h Hb0 H0 Hb σ H D S (fun ds' Hb' σ' H' e x S' => n ds' Hb' σ' H' e S') fun d v Hb' H' q => q.elim
end
/-! ### defs that change the instance they are called on -/
section
variable {P : Program} {w : World} {K : PySem.W.Frag} {mg : Str → Option Value} {base : Heap}
/-- called on an instance of the class C whose attributes are (ns, xs), with dl: it hands back r, the attributes are (ns', xs') then -/
def spW (K : PySem.W.Frag) (C : Str) (Pm : List Str → List Dat → List Dat → Dat → List Str → List Dat → Prop) : Sp := fun vs H Q _ => ∃ Hb a dx ns xs fv args dl r ns' xs', vs = .ref a :: args ∧ H a = some (.ins (He.ga K C) dx (ns.zip fv)) ∧ IsL K Hb xs fv ∧ IsL K Hb dl args ∧ Hb a = none ∧ Ex Hb H ∧ Pm ns xs dl r ns' xs' ∧
  ∀ v Hb' H' dx' fv', Gr pure0 Hb (off H a) Hb' H' → Hb' a = none → H' a = some (.ins (He.ga K C) dx' (ns'.zip fv')) → IsL K Hb' xs' fv' → Is K Hb' r v → Q v H'
/-- the mode of a def that changes the instance at a -/
def mdW (H : Hp) (a : Addr) : Md := ⟨fun _ => False, fun _ => True, fun l => off H a l = none, fun l => l = a⟩
def dsW (N : List Str) (C : Str) (ns : List Str) (xs dl : List Dat) : Ds := (.wk C ns xs) :: (dl.map Sv.dat ++ List.replicate (N.length - dl.length - 1) Sv.no)
theorem slW {N : List Str} {C : Str} {ns : List Str} {xs dl : List Dat} {args fv : List V} {Hb H : Hp} {a dx : Addr} (s : Ex Hb H) (ha : H a = some (.ins (He.ga K C) dx (ns.zip fv))) (hx : IsL K Hb xs fv) (hn : Hb a = none) (hv : IsL K Hb dl args) : Sl (mdW H a) K Hb H (start N (.ref a :: args)) (dsW N C ns xs dl) where
  sub := s
  len := by simp [L2.start, dsW, hv.length]; omega
  at_ := fun i q e => by
    unfold dsW at e
    unfold L2.start
    cases i with
    | zero =>
      cases Option.some.inj (show some (Sv.wk C ns xs) = some q from e)
      exact ⟨some (.ref a), rfl, a, dx, fv, rfl, hn, id, ha, hx, if_pos rfl, rfl⟩
    | succ i =>
      rw [List.getElem?_cons_succ] at e
      rw [List.map_cons, List.cons_append, List.getElem?_cons_succ]
      by_cases hi : i < dl.length
      · rw [List.getElem?_append_left (by simpa using hi), List.getElem?_map, List.getElem?_eq_getElem hi] at e
        cases Option.some.inj e
        obtain ⟨v, e1, h⟩ := hv.get (List.getElem?_eq_getElem hi)
        refine ⟨some v, ?_, v, rfl, h⟩
        rw [List.getElem?_append_left (by rw [List.length_map, hv.length]; exact hi), List.getElem?_map, e1]
        rfl
      · have hl : i < (dl.map Sv.dat ++ List.replicate (N.length - dl.length - 1) Sv.no).length := (List.getElem?_eq_some_iff.mp e).1
        rw [List.length_append, List.length_map, List.length_replicate] at hl
        rw [List.getElem?_append_right (by simpa using hi), List.getElem?_replicate] at e
        split at e
        · cases Option.some.inj e
          refine ⟨none, ?_, trivial⟩
          rw [List.getElem?_append_right (by rw [List.length_map, hv.length]; omega), List.getElem?_replicate, if_pos (by rw [List.length_map, List.length_cons, hv.length]; omega)]
        · cases e
  sep := fun i j xs ys l e1 _ _ _ => by
    unfold dsW at e1
    cases i with
    | zero => cases Option.some.inj (show some (Sv.wk C ns _) = some _ from e1)
    | succ i =>
      rw [List.getElem?_cons_succ] at e1
      by_cases hi : i < dl.length
      · rw [List.getElem?_append_left (by simpa using hi), List.getElem?_map, List.getElem?_eq_getElem hi] at e1
        cases Option.some.inj e1
      · rw [List.getElem?_append_right (by simpa using hi), List.getElem?_replicate] at e1
        split at e1 <;> cases e1
  mt := fun a h => h.elim
  fr := fun l h => by
    show off H a l = none
    unfold off
    split
    · rfl
    · exact h
theorem off_self {H : Hp} {a : Addr} : off H a a = none := if_pos rfl
theorem Ex.off {Hb H : Hp} {a : Addr} (s : Ex Hb H) (h : Hb a = none) : Ex Hb (off H a) := fun b o e => by
  have n : b ≠ a := fun q => by rw [q, h] at e; cases e
  unfold RR.off
  rw [if_neg n]
  exact s b o e
theorem grW {H0 Hb H Hb' H' : Hp} {a : Addr} (g : Gr (mdW H0 a) Hb H Hb' H') : Gr pure0 Hb H Hb' H' := ⟨g.b, g.s, g.k, g.t, g.f, fun a h => h.elim⟩
/-- THE RULE for such a def -/
theorem fn_m {d : Df} {N ps : List Str} {k : Nat} {C : Str} {Pm : List Str → List Dat → List Dat → Dat → List Str → List Dat → Prop} {dvs : List V} {fd : FuncData} (F : FunD K d.name d.qual (defArgs d.st) (defBody d.st) (defScope d.st) dvs [] (d.adr K) fd) (S : FnScope N ps (defScope d.st))
    (hl : ∀ ns xs dl r ns' xs', Pm ns xs dl r ns' xs' → dl.length + 1 = ps.length)
    (body : ∀ (cdv : Value) (A : Around) (outer : List Env) (s : Shared) (H : Hp) (E : XK), Room k (A.deeper (envOfC d.qual (defScope d.st) s.heap.objs.size (d.adr K) cdv)) → ∃ t, PSs (cxOf CX0 P w K mg base N d.qual (defScope d.st) (d.adr K) cdv A outer s H E).nox (defBody d.st) t ∧
      ∀ m ns xs dl r ns' xs', Pm ns xs dl r ns' xs' → SDM m K t (dsW N C ns xs dl) (fun r2 ds' => r2 = r ∧ ds'[0]? = some (.wk C ns' xs'))) : FnOk P w K mg base CX0 (k + 1) (d.adr K) fd ps (spW K C Pm) :=
  F.ok S (fun vs H Q E ⟨Hb, a, dx, ns, xs, fv, args, dl, r, ns', xs', e, _, _, hv, _, _, p, _⟩ => by rw [e, List.length_cons, hv.length]; exact hl _ _ _ _ _ _ p)
    fun cdv A outer s H vs Q E hr ⟨Hb, a, dx, ns, xs, fv, args, dl, r, ns', xs', e, ha, hx, hv, hn, sx, p, q⟩ => by
      obtain ⟨t, bd, run⟩ := body cdv A outer s H E hr
      refine ⟨t, bd.nox, ?_⟩
      rw [e]
      have fin : ∀ (ds' : Ds) (v : V) (Hb' : Hp) (σ' : L2.St) (H' : Hp), ds'[0]? = some (.wk C ns' xs') → Stt (mdW H a) K Hb (off H a) ds' Hb' σ' H' → Is K Hb' r v → Q v H' := fun ds' v Hb' σ' H' e0 S' hv' => by
        obtain ⟨l, dx', fv', _, h1, _, h3, h4, h5, h6⟩ := S'.sl.wk e0
        cases (show l = a from h6)
        exact q v Hb' H' dx' fv' (grW S'.gr) h1 h3 h4 hv'
      exact run (mdW H a) ns xs dl r ns' xs' p Hb (off H a) Hb _ H _ ⟨⟨Ex.refl _, sx, fun b o _ hb => by
          unfold off at hb
          split at hb
          · cases hb
          · exact hb, fun b hb => by
          unfold off at hb
          split at hb
          · exact absurd rfl hb
          · exact hb, fun _ h1 h2 => absurd h2 h1, fun _ h => h.elim⟩, slW sx ha hx hn hv, fun _ h => h⟩
        (fun ds' Hb' σ' H' ⟨e1, e2⟩ S' => fin ds' .non Hb' σ' H' e2 S' (by rw [← e1]; exact rfl)) fun d' ds' v Hb' σ' H' ⟨e1, e2⟩ S' hv' => fin ds' v Hb' σ' H' e2 S' (e1 ▸ hv')
end
/-! ### making -/
section
variable {m : Md} {K : PySem.W.Frag} {ds : Ds} {N : Ds → Prop} {R : Dat → Prop} {Pm : List Str → List Dat → List Dat → Dat → List Str → List Dat → Prop} {C : Str} {t : TA} {dl : List Dat} {dvs : List V} {dd : List Dat}
/-- what making comes to: an instance nobody else has -/
theorem make_run {Hb1 H1 : Hp} {vs : List V} {Q : VK} {ns' : List Str} {xs' : List Dat} (sx : Ex Hb1 H1) (hv : IsL K Hb1 dl vs) (hd : IsL K Hb1 dd dvs) (p : Pm [] [] (dl ++ dd) .non ns' xs')
    (k : ∀ l dx fv Hb' H', Gr m Hb1 H1 Hb' H' → Hb' l = none → H1 l = none → H' l = some (.ins (He.ga K C) dx (ns'.zip fv)) → IsL K Hb' xs' fv → Q (.ref l) H') :
    ∀ x dx, H1 x = none → H1 dx = none → dx ≠ x → spW K C Pm (.ref x :: (vs ++ dvs)) (upd (upd H1 dx (.own x)) x (.ins (He.ga K C) dx [])) (fun v H2 => v = .non ∧ Q (.ref x) H2) E0 := fun x dx hx hdx hne => by
  have nb : Hb1 x = none := fresh_back sx hx
  refine ⟨Hb1, x, dx, [], [], [], vs ++ dvs, dl ++ dd, .non, ns', xs', rfl, upd_same, rfl, hv.append hd, nb, ?_, p, fun v Hb' H' dx' fv' g hn ha hx' hv' => ⟨hv', ?_⟩⟩
  · intro a o e
    have n1 : a ≠ x := fun q => by rw [q, nb] at e; cases e
    have n2 : a ≠ dx := fun q => by
      have := sx _ _ e
      rw [q, hdx] at this
      cases this
    rw [upd_ne n1, upd_ne n2]
    exact sx a o e
  · have old : ∀ a o, H1 a = some o → off (upd (upd H1 dx (.own x)) x (.ins (He.ga K C) dx [])) x a = some o := fun a o e => by
      have n1 : a ≠ x := fun q => by rw [q, hx] at e; cases e
      have n2 : a ≠ dx := fun q => by rw [q, hdx] at e; cases e
      unfold off
      rw [if_neg n1, upd_ne n1, upd_ne n2]
      exact e
    refine k x dx' fv' Hb' H' ⟨g.b, g.s, fun a o _ e => g.k a o id (old a o e), fun a e => ?_, fun a e1 e2 => ?_, fun a ha' ⟨o, e, j⟩ => ⟨o, g.k a o id (old a o e), j⟩⟩ hn hx ha hx'
    · cases q : H1 a with
      | none => exact absurd q e
      | some o => exact g.t a (by rw [old a o q]; exact Option.some_ne_none _)
    · have := g.f a e1 e2
      cases q : H1 a with
      | none => rfl
      | some o => rw [old a o q] at this; cases this
/-- C(..), handed on at once -/
theorem ev_mk {d : Dat} {ns' : List Str} {xs' : List Dat} (h : EvA m K t ds dl) (hd : ∀ Hb, IsL K Hb dd dvs) (p : Pm [] [] (dl ++ dd) .non ns' xs') (is : ∀ Hb l dx fv, Hb l = some (.ins (He.ga K C) dx (ns'.zip fv)) → IsL K Hb xs' fv → Is K Hb d (.ref l)) : EvD m K (tMake (He.ga K C) (spW K C Pm) dvs E0 t) ds d := fun Hb H σ Q S k =>
  h Hb H σ _ S fun vs Hb1 H1 g hv => make_run (m := m) g.s hv (hd Hb1) p fun l dx fv Hb' H' g' h1 h2 h3 h4 =>
    k (.ref l) _ H' ((g.trans g').add h1 (g.back h2) h3) (is _ l dx fv upd_same (IsL.mono (Ex.new h1) _ h4))
/-- x = C(..), kept as one's own -/
theorem sd_mkW {i : Nat} {ns' : List Str} {xs' : List Dat} (h : EvA m K t ds dl) (hd : ∀ Hb, IsL K Hb dd dvs) (p : Pm [] [] (dl ++ dd) .non ns' xs') (hw : ∀ l, m.F l → m.W l) (n : N (ds.set i (.wk C ns' xs'))) (hM : ∀ a, ¬ m.M a) : SD m K (tAsg (tMake (He.ga K C) (spW K C Pm) dvs E0 t) (gName i)) ds N R := fun Hb0 H0 Hb σ H D S k _ =>
  h Hb H σ _ S.sl fun vs Hb1 H1 g hv => make_run (m := m) (Q := fun x H1 => gName i x σ H1 D.nx) g.s hv (hd Hb1) p fun l dx fv Hb' H' g' h1 h2 h3 h4 => by
    have S' := (S.grow g).grow g'
    exact k _ Hb' _ H' n (g.b.trans g'.b) ⟨S'.gr, S'.sl.setW h1 (hM l) h3 h4 ⟨S.sl.fr l (g.back h2), hw l (S.sl.fr l (g.back h2))⟩, S.ff⟩
/-! ### methods, properties -/
/-- o.m(..), o a datum -/
theorem ev_me {te : TE} {recv r : Dat} {mm : Str} {P : List Dat → Dat → Prop} (h : EvD m K te ds recv) (ht : EvA m K t ds dl) (sh : ∀ Hb v, Is K Hb recv v → ∃ a dx fs, v = .ref a ∧ Hb a = some (.ins (He.ga K C) dx fs) ∧ fs.lookup mm = none) (p : P (recv :: dl) r) : EvD m K (tMeth (He.ga K C) mm (spD K P) [] E0 te t) ds r := fun Hb H σ Q S k =>
  h Hb H σ _ S fun v Hb1 H1 g hv => by
    obtain ⟨a, dx, fs, e, ha, hl⟩ := sh Hb1 v hv
    refine ⟨a, dx, fs, e, g.s _ _ ha, hl, ht Hb1 H1 σ _ (S.grow g) fun vs Hb2 H2 g2 hvs => ⟨Hb2, recv :: dl, r, g2.s, ?_, p, fun w Hb' H' g3 hw => k w Hb' H' ((g.trans g2).trans g3.any) hw⟩⟩
    rw [List.append_nil]
    exact .cons (Is.mono g2.b recv hv) hvs
theorem ev_pr {te : TE} {recv r : Dat} {P : List Dat → Dat → Prop} (h : EvD m K te ds recv) (sh : ∀ Hb v, Is K Hb recv v → ∃ a dx fs, v = .ref a ∧ Hb a = some (.ins (He.ga K C) dx fs)) (p : P [recv] r) : EvD m K (tProp (He.ga K C) (spD K P) [] E0 te) ds r := fun Hb H σ Q S k =>
  h Hb H σ _ S fun v Hb1 H1 g hv => by
    obtain ⟨a, dx, fs, e, ha⟩ := sh Hb1 v hv
    exact ⟨a, dx, fs, e, g.s _ _ ha, Hb1, [recv], r, g.s, .cons (e ▸ hv) .nil, p, fun w Hb' H' g3 hw => k w Hb' H' (g.trans g3.any) hw⟩
theorem sh_rat {Hb : Hp} {t b : Int} {mm : Str} (h : mm ≠ "own_top" ∧ mm ≠ "own_bottom" := by decide) : ∀ v, Is K Hb (.rat t b) v → ∃ a dx fs, v = .ref a ∧ Hb a = some (.ins (He.ga K "Ratio") dx fs) ∧ fs.lookup mm = none := fun v ⟨p, dx, h1, h2⟩ => ⟨p, dx, _, h1, h2, by
  rw [List.lookup_cons, List.lookup_cons, show (mm == "own_top") = false from beq_eq_false_iff_ne.mpr h.1, show (mm == "own_bottom") = false from beq_eq_false_iff_ne.mpr h.2] <;> rfl⟩
theorem sh_ob {Hb : Hp} {C : Str} {ns : List Str} {xs : List Dat} {mm : Str} (h : mm ∉ ns) : ∀ v, Is K Hb (.ob C ns xs) v → ∃ a dx fs, v = .ref a ∧ Hb a = some (.ins (He.ga K C) dx fs) ∧ fs.lookup mm = none := fun v ⟨p, dx, vs, h1, h2, _⟩ => ⟨p, dx, _, h1, h2, zip_none h⟩
/-- o.m(..), m changes o, one's own -/
theorem run_go {Hb0 H0 Hb H : Hp} {σ : L2.St} {i : Nat} {ns ns' : List Str} {xs xs' : List Dat} {r : Dat} {mm : Str} {Q : VK} (S : Stt m K Hb0 H0 ds Hb σ H) (e : ds[i]? = some (.wk C ns xs)) (one : OneW ds i) (ht : EvA m K t ds dl) (hm : mm ∉ ns) (p : Pm ns xs dl r ns' xs')
    (k : ∀ v Hb' H', Ex Hb Hb' → Stt m K Hb0 H0 (ds.set i (.wk C ns' xs')) Hb' σ H' → Is K Hb' r v → Q v H') : tMeth (He.ga K C) mm (spW K C Pm) [] E0 (tVar i) t σ H Q := by
  obtain ⟨l, dx, fv, e1, h1, h2, h3, h4, h5⟩ := S.sl.wk e
  refine ⟨.ref l, e1, l, dx, _, rfl, h3, zip_none hm, ht Hb H σ _ S.sl fun vs Hb1 H1 g hv => ?_⟩
  have S1 := S.grow g
  obtain ⟨l', dx', fv', e1', c1, c2, c3, c4, c5⟩ := S1.sl.wk e
  rw [e1] at e1'
  cases e1'
  refine ⟨Hb1, l, dx', ns, xs, fv', vs, dl, r, ns', xs', by rw [List.append_nil], c3, c4, hv, c1, g.s, p, fun v Hb' H' dx2 fv2 g2 n2 a2 x2 v2 => ?_⟩
  have kk : ∀ a o, a ≠ l → H1 a = some o → H' a = some o := fun a o n q => g2.k a o id (by unfold off; rw [if_neg n]; exact q)
  have G : Gr m Hb1 H1 Hb' (upd H' l (.ins (He.ga K C) dx' (ns.zip fv'))) := by
    refine ⟨g2.b, fun a o q => ?_, fun a o _ q => ?_, fun a q => ?_, fun a q1 q2 => ?_, fun a qa ⟨o, q, j⟩ => ?_⟩
    · have n : a ≠ l := fun z => by rw [z, n2] at q; cases q
      rw [upd_ne n]
      exact g2.s a o q
    · by_cases n : a = l
      · rw [n, c3] at q; rw [n, upd_same]; exact q
      · rw [upd_ne n]; exact kk a o n q
    · by_cases n : a = l
      · rw [n, upd_same]; exact Option.some_ne_none _
      · rw [upd_ne n]
        cases z : H1 a with
        | none => exact absurd z q
        | some o => rw [kk a o n z]; exact Option.some_ne_none _
    · have n : a ≠ l := fun z => q1 (by rw [z]; exact n2)
      have := g2.f a q1 q2
      unfold off at this
      rwa [if_neg n] at this
    · have n : a ≠ l := fun z => c2 (z ▸ qa)
      exact ⟨o, by rw [upd_ne n]; exact kk a o n q, j⟩
  have S2 := (S1.grow G).writeW (ns' := ns') (dx := dx2) e one e1 x2
  have eq : upd (upd H' l (.ins (He.ga K C) dx' (ns.zip fv'))) l (.ins (He.ga K C) dx2 (ns'.zip fv2)) = H' := by
    funext a
    by_cases n : a = l
    · rw [n, upd_same, a2]
    · rw [upd_ne n, upd_ne n]
  rw [eq] at S2
  exact k v Hb' H' (g.b.trans g2.b) S2 v2
theorem sd_goD {i : Nat} {ns ns' : List Str} {xs xs' : List Dat} {r : Dat} {mm : Str} (e : ds[i]? = some (.wk C ns xs)) (one : OneW ds i) (ht : EvA m K t ds dl) (hm : mm ∉ ns) (p : Pm ns xs dl r ns' xs') (n : N (ds.set i (.wk C ns' xs'))) : SD m K (tDrop (tMeth (He.ga K C) mm (spW K C Pm) [] E0 (tVar i) t)) ds N R := fun Hb0 H0 Hb σ H D S k _ =>
  run_go S e one ht hm p fun v Hb' H' x S' _ => k _ Hb' σ H' n x S'
theorem sd_goS {i j : Nat} {ns ns' : List Str} {xs xs' : List Dat} {r : Dat} {mm : Str} (e : ds[i]? = some (.wk C ns xs)) (one : OneW ds i) (ht : EvA m K t ds dl) (hm : mm ∉ ns) (p : Pm ns xs dl r ns' xs') (n : N ((ds.set i (.wk C ns' xs')).set j (.dat r))) : SD m K (tAsg (tMeth (He.ga K C) mm (spW K C Pm) [] E0 (tVar i) t) (gName j)) ds N R := fun Hb0 H0 Hb σ H D S k _ =>
  run_go (Q := fun x H1 => gName j x σ H1 D.nx) S e one ht hm p fun v Hb' H' x S' hv => k _ Hb' _ H' n x ⟨S'.gr, S'.sl.set hv, S'.ff⟩
end
end RR
/-! ### RCalc9 -/
/-! The calculus: rules for methods, properties, own operators, making by a class's name. -/
namespace RR
open PySem PySem.Spec PyProof.Rows L2 Evl
section
variable {P : Program} {w : World} {K : PySem.W.Frag} {mg : Str → Option Value} {base : Heap}
/-- a def at the address f, all parameters given -/
structure Fok (P : Program) (w : World) (K : PySem.W.Frag) (mg : Str → Option Value) (base : Heap) (k : Nat) (f : Addr) (sp : Sp) : Prop where
  ex : ∃ (fd : FuncData) (ps : List Str), FnOk P w K mg base CX0 k f fd ps sp ∧ Binds K fd ps []
theorem Fok.mono {j k : Nat} {f : Addr} {sp : Sp} (c : Fok P w K mg base j f sp) (h : j ≤ k) : Fok P w K mg base k f sp := let ⟨fd, ps, F, b⟩ := c.ex; ⟨fd, ps, F.mono h, b⟩
theorem Fok.raw {k : Nat} {f : Addr} {sp : Sp} (c : Fok P w K mg base k f sp) : FnR P w K mg base CX0 k f sp := by
  obtain ⟨fd, ps, F, b⟩ := c.ex
  have r := F.raw b .nil
  exact r.imp fun vs H Q E h => by rw [List.append_nil]; exact h
/-- .. of data -/
theorem fok_d {d : Df} {N ps : List Str} {k : Nat} {Pm : List Dat → Dat → Prop} (F : ∃ fd, FunD K d.name d.qual (defArgs d.st) (defBody d.st) (defScope d.st) [] [] (d.adr K) fd) (S : FnScope N ps (defScope d.st))
    (hb : ∀ (kV doc pm : Value) (an : Option Addr) (cdv ct : Value) (us : List Value), us.length = ps.length → bindArgs (PySem.W.fnOf d.name d.qual (defArgs d.st) (defBody d.st) (defScope d.st) .none kV doc pm an cdv ct) ⟨us, []⟩ = pure (ps.zip us))
    (hl : ∀ dl r, Pm dl r → dl.length = ps.length)
    (body : ∀ (cdv : Value) (A : Around) (outer : List Env) (s : Shared) (H : Hp) (E : XK), Room k (A.deeper (envOfC d.qual (defScope d.st) s.heap.objs.size (d.adr K) cdv)) → ∃ t, PSs (cxOf CX0 P w K mg base N d.qual (defScope d.st) (d.adr K) cdv A outer s H E).nox (defBody d.st) t ∧
      ∀ m dl r, Pm dl r → SD m K t (ds0 N dl) (fun _ => r = .non) (· = r)) : Fok P w K mg base (k + 1) (d.adr K) (spD K Pm) := by
  obtain ⟨fd, F⟩ := F
  refine ⟨fd, ps, ?_, F.bindsN hb⟩
  exact F.ok S (fun vs H Q E ⟨Hb, dl, r, s, hv, p, _⟩ => by rw [hv.length]; exact hl dl r p)
    fun cdv A outer s H vs Q E hr ⟨Hb, dl, r, e, hv, p, q⟩ => let ⟨t, body, run⟩ := body cdv A outer s H E hr; ⟨t, body.nox,
      run (md0 H) dl r p Hb H Hb _ H _ ⟨.refl e, sl0 e hv, fun _ h => h⟩ (fun ds' Hb' σ' H' n _ S' => q .non Hb' H' (gr0 S'.gr) (by rw [n]; exact rfl)) fun d' v Hb' H' n g h => q v Hb' H' (gr0 g) (n ▸ h)⟩
/-- with instances of one's own -/
theorem fn_dW {d : Df} {N ps : List Str} {k : Nat} {Pm : List Dat → Dat → Prop} (F : ∃ fd, FunD K d.name d.qual (defArgs d.st) (defBody d.st) (defScope d.st) [] [] (d.adr K) fd) (S : FnScope N ps (defScope d.st))
    (hb : ∀ (kV doc pm : Value) (an : Option Addr) (cdv ct : Value) (us : List Value), us.length = ps.length → bindArgs (PySem.W.fnOf d.name d.qual (defArgs d.st) (defBody d.st) (defScope d.st) .none kV doc pm an cdv ct) ⟨us, []⟩ = pure (ps.zip us))
    (hl : ∀ dl r, Pm dl r → dl.length = ps.length)
    (body : ∀ (cdv : Value) (A : Around) (outer : List Env) (s : Shared) (H : Hp) (E : XK), Room k (A.deeper (envOfC d.qual (defScope d.st) s.heap.objs.size (d.adr K) cdv)) → ∃ t, PSs (cxOf CX0 P w K mg base N d.qual (defScope d.st) (d.adr K) cdv A outer s H E).nox (defBody d.st) t ∧
      ∀ m dl r, (∀ l, m.F l → m.W l) → (∀ a, ¬ m.M a) → Pm dl r → SD m K t (ds0 N dl) (fun _ => r = .non) (· = r)) : Fok P w K mg base (k + 1) (d.adr K) (spD K Pm) := by
  obtain ⟨fd, F⟩ := F
  refine ⟨fd, ps, ?_, F.bindsN hb⟩
  exact F.ok S (fun vs H Q E ⟨Hb, dl, r, s, hv, p, _⟩ => by rw [hv.length]; exact hl dl r p)
    fun cdv A outer s H vs Q E hr ⟨Hb, dl, r, e, hv, p, q⟩ => let ⟨t, body, run⟩ := body cdv A outer s H E hr; ⟨t, body.nox,
      run (md0 H) dl r (fun _ h => h) (fun _ h => h) p Hb H Hb _ H _ ⟨.refl e, sl0 e hv, fun _ h => h⟩ (fun ds' Hb' σ' H' n _ S' => q .non Hb' H' (gr0 S'.gr) (by rw [n]; exact rfl)) fun d' v Hb' H' n g h => q v Hb' H' (gr0 g) (n ▸ h)⟩
/-- a class, made by its name -/
structure MkC (P : Program) (w : World) (K : PySem.W.Frag) (mg : Str → Option Value) (base : Heap) (k : Nat) (C : Str) (sp : Sp) (dvs : List V) : Prop where
  ex : ∃ (f : Addr) (fd : FuncData) (ps : List Str) (ds : List Value), Mk K (He.ga K C) f ∧ FnOk P w K mg base CX0 k f fd ps sp ∧ Binds K fd ps ds ∧ Vals dvs ds
  gl : mg C = some (.ref (He.ga K C))
theorem MkC.mono {j k : Nat} {C : Str} {sp : Sp} {dvs : List V} (c : MkC P w K mg base j C sp dvs) (h : j ≤ k) : MkC P w K mg base k C sp dvs := let ⟨f, fd, ps, ds, a, F, b, d⟩ := c.ex; ⟨⟨f, fd, ps, ds, a, F.mono h, b, d⟩, c.gl⟩
end
section
variable {X : Cx} {k : Nat} {C mm : Str} {sp : Sp} {dvs : List V} {p pos apos : Pos} {e o : Expr} {es : List Expr} {ta : TE} {t : TA} {f : Addr}
theorem pe_mkC (c : MkC X.prog X.w X.K X.mg X.base k C sp dvs) (hr : Room (k + 1) X.A) (hg : Gl X C) (ha : PA X (e :: es) t)
    (hdb : (C == ("__debug__" : Str)) = false := by decide) (he : starEach (e :: es) X.env = (false, eval e X.env) :: starEach es X.env := by rfl) (hpl : (backTo pos (starEach es X.env)).any (·.1) = false := by rfl) :
    PE X (.Call (.Name C p) (e :: es) [] pos) (tMake (He.ga X.K C) sp dvs E0 t) := by
  obtain ⟨f, fd, ps, ds, M, F, b, d⟩ := c.ex
  exact pe_make M F hr hg c.gl b d pass0 ha hdb he hpl
theorem pe_meC {pl : Sem Bool} (he : PE X o ta) (c : Cls X.K (He.ga X.K C)) (hm : Meth X.K (He.ga X.K C) mm f) (F : Fok X.prog X.w X.K X.mg X.base k f sp) (hr : Room k X.A) (ha : PA X (e :: es) t)
    (hst : starEach (e :: es) X.env = (false, eval e X.env) :: starEach es X.env := by rfl) (hpl : (backTo pos (starEach es X.env)).any (·.1) = false := by rfl)
    (ht : eval (.Call (.Attribute o mm apos) (e :: es) [] pos) X.env = (do
      let ov ← eval o X.env
      standAt apos.atName
      let (f, first) ← holding [ov] (getMethod ov mm pl)
      callWith pos f first (backTo pos (starEach (e :: es) X.env)) (backToKw pos (keywordEach [] X.env))) := by rfl) :
    PE X (.Call (.Attribute o mm apos) (e :: es) [] pos) (tMeth (He.ga X.K C) mm sp [] E0 ta t) := by
  obtain ⟨fd, ps, F, b⟩ := F.ex
  exact pe_meth (pl := pl) he c hm F hr b .nil pass0 ha hst hpl ht
theorem pe_meC0 {pl : Sem Bool} (he : PE X o ta) (c : Cls X.K (He.ga X.K C)) (hm : Meth X.K (He.ga X.K C) mm f) (F : Fok X.prog X.w X.K X.mg X.base k f sp) (hr : Room k X.A)
    (ht : eval (.Call (.Attribute o mm apos) [] [] pos) X.env = (do
      let ov ← eval o X.env
      standAt apos.atName
      let (f, first) ← holding [ov] (getMethod ov mm pl)
      callWith pos f first (backTo pos (starEach [] X.env)) (backToKw pos (keywordEach [] X.env))) := by rfl) :
    PE X (.Call (.Attribute o mm apos) [] [] pos) (tMeth (He.ga X.K C) mm sp [] E0 ta tNil) := by
  obtain ⟨fd, ps, F, b⟩ := F.ex
  exact pe_meth0 (pl := pl) he c hm F hr b .nil pass0 ht
theorem pe_prC {g q : Addr} (he : PE X e ta) (c : Cls X.K (He.ga X.K C)) (hp : PropOf X.K (He.ga X.K C) mm q g) (F : Fok X.prog X.w X.K X.mg X.base k g sp) (hr : Room (k + 1) X.A)
    (hab : attributeBase e mm X.env (eval e X.env) = eval e X.env := by rfl) : PE X (.Attribute e mm pos) (tProp (He.ga X.K C) sp [] E0 ta) := by
  obtain ⟨fd, ps, F, b⟩ := F.ex
  exact pe_prop he c hp F hr b .nil pass0 hab
/-- a op b, both instances of the class C whose def for op it is -/
def rOwn (K : PySem.W.Frag) (C : Str) (sp : Sp) : R2 := fun x y H Q => ∃ a dx fs b dy gs, x = .ref a ∧ y = .ref b ∧ H a = some (.ins (He.ga K C) dx fs) ∧ H b = some (.ins (He.ga K C) dy gs) ∧ sp [x, y] H Q E0
theorem op_ownR {op : Operator} (hc : PySem.W.selfFirst X.K (He.ga X.K C) = true) (M : Meth X.K (He.ga X.K C) (PySem.dunder op.info.2) f) (F : Fok X.prog X.w X.K X.mg X.base k f sp) (hr : Room k X.A) : OpR X (binaryOp op) (rOwn X.K C sp) := by
  intro pins s σ H x y v u Q I rx ry h
  obtain ⟨a, dx, fs, b, dy, gs, rfl, rfl, ha, hb, q⟩ := h
  cases (show v = Value.ref a from rx)
  cases (show u = Value.ref b from ry)
  obtain ⟨mA, O, _⟩ := ins_get I.hok ha
  obtain ⟨mB, O', _⟩ := ins_get I.hok hb
  obtain ⟨od, J, _⟩ := O.look
  obtain ⟨od', J', _⟩ := O'.look
  obtain ⟨m, hF⟩ := I.fr
  refine PySem.W.binop_K (op := op) hF I.ok.mod.kin J J'.type hc M.at_ M.fn ?_
  refine wpAny_mono (wpAny_call (run_fnR (us := [.ref a, .ref b]) (vs := [.ref a, .ref b]) F.raw hr pass0 I (.cons rfl (.cons rfl .nil)) q)) (fun w s' z => ?_) fun _ _ x => x
  obtain ⟨z', H', I', rz, qz⟩ := z
  exact SlX.cmpback rz ⟨z', H', I', rz, qz⟩
/-- .. b an int -/
def rOwnI (K : PySem.W.Frag) (C : Str) (sp : Sp) : R2 := fun x y H Q => ∃ a dx fs i, x = .ref a ∧ y = .int i ∧ H a = some (.ins (He.ga K C) dx fs) ∧ sp [x, y] H Q E0
theorem op_ownI {op : Operator} {rc fo ro : Option Value} (hc : PySem.W.selfFirst X.K (He.ga X.K C) = true) (M : Meth X.K (He.ga X.K C) (PySem.dunder op.info.2) f) (hr' : PySem.W.findIn X.K (.ref (He.ga X.K C)) (dunderR op.info.2) = some rc) (hp : rc = none ∨ ∃ g : Addr, rc = some (.ref g))
    (h1 : PySem.W.findIn X.K (.type "int") (PySem.dunder op.info.2) = some fo) (h2 : PySem.W.findIn X.K (.type "int") (dunderR op.info.2) = some ro) (hsub : PySem.W.subIn X.K (.type "int") (.ref (He.ga X.K C)) = some false)
    (F : Fok X.prog X.w X.K X.mg X.base k f sp) (hr : Room k X.A) : OpR X (binaryOp op) (rOwnI X.K C sp) := by
  intro pins s σ H x y v u Q I rx ry h
  obtain ⟨a, dx, fs, i, rfl, rfl, ha, q⟩ := h
  cases (show v = Value.ref a from rx)
  obtain ⟨t, rfl⟩ := (show ∃ t, u = Value.int i t from ry)
  obtain ⟨mA, O, _⟩ := ins_get I.hok ha
  obtain ⟨od, J, _⟩ := O.look
  obtain ⟨m, hF⟩ := I.fr
  refine PySem.W.ksp_binT (op := op) (T := "int") hF I.ok.mod.kin J rfl hc M.at_ M.fn hr' hp h1 h2 hsub ?_
  refine wpAny_mono (wpAny_call (run_fnR (us := [.ref a, .int i t]) (vs := [.ref a, .int i]) F.raw hr pass0 I (.cons rfl (.cons ⟨t, rfl⟩ .nil)) q)) (fun w s' z => ?_) fun _ _ x => x
  obtain ⟨z', H', I', rz, qz⟩ := z
  exact SlX.cmpback rz ⟨z', H', I', rz, qz⟩
end
section
variable {m : Md} {K : PySem.W.Frag} {Pm : List Dat → Dat → Prop}
theorem rv_own {a b c d : Int} {r : Dat} (p : Pm [.rat a b, .rat c d] r) : RvD m K (rOwn K "Ratio" (spD K Pm)) (.rat a b) (.rat c d) r := fun Hb H u v Q s hu hv k => by
  obtain ⟨p1, dx, h1, h2⟩ := id hu
  obtain ⟨p2, dy, h3, h4⟩ := id hv
  exact ⟨p1, dx, _, p2, dy, _, h1, h3, s _ _ h2, s _ _ h4, Hb, _, r, s, .cons hu (.cons hv .nil), p, fun w Hb' H' g hw => k w Hb' H' g.any hw⟩
theorem rv_ownI {a b i : Int} {r : Dat} (p : Pm [.rat a b, .int i] r) : RvD m K (rOwnI K "Ratio" (spD K Pm)) (.rat a b) (.int i) r := fun Hb H u v Q s hu hv k => by
  obtain ⟨p1, dx, h1, h2⟩ := id hu
  exact ⟨p1, dx, _, i, h1, hv, s _ _ h2, Hb, _, r, s, .cons hu (.cons hv .nil), p, fun w Hb' H' g hw => k w Hb' H' g.any hw⟩
end
end RR
/-! ### RW5 -/
namespace RR
open PySem PySem.Spec PyProof.Rows L2 Evl

section
variable {m : Md} {K : PySem.W.Frag} {ds : Ds} {tl te : TE}
/-- an int or a ratio -/
def NumD (d : Dat) : Prop := (∃ i, d = .int i) ∨ ∃ t b, d = .rat t b
def Dat.isInt : Dat → Bool
  | .int _ => true
  | _ => false
def numP : Dat → Int × Int
  | .rat t b => (t, b)
  | .int i => (i, 1)
  | _ => (0, 1)
def ratOf : Dat → Int × Int
  | .rat t b => (t, b)
  | .int i => rN i 1
  | _ => (0, 1)
abbrev ratD (r : Int × Int) : Dat := .rat r.1 r.2
theorem rl_eq (l : List (Int × Int)) : rl l = .lst (l.map ratD) := rfl
theorem eo_mapG {α : Type} {j : Nat} {f g : α → Dat} {l : List α} (hl : EvD m K tl ds (.lst (l.map f))) (hz : l.length ≤ 50000) (he : ∀ x, x ∈ l → EvD m K te ((wipeD ds [j]).set j (.dat (f x))) (g x)) :
    EvO m K (tLc (iList K tl) (gName j) tYes te [j]) ds (l.map g) := by
  have h := eo_lc (it_list (j := j) hl) (vs := [j]) (fun _ h => h) (fun _ => true) (fun i => match l[i]? with | some x => g x | none => .non) (te := te) (tt := tYes) (by rw [List.length_map]; exact hz) (fun i hi => et_yes) fun i hi _ => by
    rw [List.length_map] at hi
    simp only [List.getElem?_map, List.getElem?_eq_getElem hi, Option.map_some]
    exact he _ (List.getElem_mem hi)
  refine h.to ?_
  rw [List.length_map]
  exact given_map fun i x e => by simp only [e]
theorem et_allG {α : Type} {j : Nat} {f : α → Dat} {l : List α} {b : α → Bool} (hl : EvD m K tl ds (.lst (l.map f))) (hz : l.length ≤ 50000) (he : ∀ x, x ∈ l → EvD m K te ((wipeD ds [j]).set j (.dat (f x))) (.bl (b x))) :
    EvD m K (tCB (rAll K) (tCons (tLc (iList K tl) (gName j) tYes te [j]) tNil)) ds (.bl (l.all b)) := by
  have h := eo_mapG (g := fun x => .bl (b x)) hl hz he
  have h2 := ev_all (l := l.map b) ((EvO.dd h).to (by simp))
  refine h2.to ?_
  rw [List.all_map]
  rfl
/-- no other instance of one's own -/
def Sv.isWk : Sv → Bool
  | .wk _ _ _ => true
  | _ => false
theorem one_of {i : Nat} (h : (ds.set i .no).all (fun s => !s.isWk) = true) : OneW ds i := fun j C ns xs e => by
  rcases Nat.decEq j i with q | q
  · have e2 : (ds.set i .no)[j]? = some (.wk C ns xs) := by rw [List.getElem?_set_ne (Ne.symm q)]; exact e
    have := List.all_eq_true.mp h _ (List.mem_of_getElem? e2)
    simp [Sv.isWk] at this
  · exact q
theorem is_ratio {Hb : Hp} {l dx : Addr} {fv : List V} {t b : Int} (h : Hb l = some (.ins (He.ga K "Ratio") dx ((["own_top", "own_bottom"] : List Str).zip fv))) (hv : IsL K Hb [.int t, .int b] fv) : Is K Hb (.rat t b) (.ref l) := by
  obtain ⟨v, r, e1, h1, w, r2, e2, h2, e3⟩ := hv
  subst e1 e2
  rw [show v = _ from h1, show w = _ from h2, show r2 = [] from e3] at h
  exact ⟨l, dx, rfl, h⟩
end

theorem sc_is_integer : FnScope ["value"] ["value"] (defScope s_is_integer) := ⟨rfl, rfl, rfl, by decide +kernel, rfl, by decide +kernel, by decide +kernel⟩
def pIsInt : List Dat → Dat → Prop := fun dl r => ∃ (d : Dat), dl = [d] ∧ NumD d ∧ r = .bl d.isInt
theorem ok_is_integer {P : Program} {w : World} {K : PySem.W.Frag} {mg : Str → Option Value} {base : Heap} (T : Txt K mg) : Cal P w K mg base (0 + 1) "is_integer" (spD K pIsInt) := by
  refine ⟨?_, T.g_is_integer, (T.d_is_integer).elim fun _ F => F.kp⟩
  refine fn_d (d := d_is_integer) (k := 0) (T.d_is_integer) sc_is_integer (fun _ _ _ _ _ _ us hl => match us, hl with | [_], _ => rfl) ?_ ?_
  · rintro dl r ⟨_, rfl, _⟩; rfl
  · intro cdv A outer s H E hr
    refine ⟨_, (pss_one (ps_ret (pe_and (pe_callB call_isi (by rfl) T.b_isinstance (by decide +kernel) (pa_cons (pv 0) (pa_cons (pe_bltn (v := .ty "int") (by rfl) T.b_int (by decide +kernel) rfl) pa_nil))) (pe_one (pe_not (pe_callB call_isi (by rfl) T.b_isinstance (by decide +kernel) (pa_cons (pv 0) (pa_cons (pe_bltn (v := .ty "bool") (by rfl) T.b_bool (by decide +kernel) rfl) pa_nil)))))))), ?_⟩
    rintro m dl r ⟨d, rfl, hd, rfl⟩
    rcases hd with ⟨i, rfl⟩ | ⟨t, b, rfl⟩
    · exact sd_ret (ev_andT (ev_isi T (ev_var rfl) (.ty _) T.k_int_int) (ev_notV (ev_isi T (ev_var rfl) (.ty _) T.k_int_bool))) rfl
    · exact sd_ret (ev_andF (ev_isi T (ev_var rfl) (.ty _) T.k_Ratio_int)) rfl

theorem sc_is_list : FnScope ["value"] ["value"] (defScope s_is_list) := ⟨rfl, rfl, rfl, by decide +kernel, rfl, by decide +kernel, by decide +kernel⟩
def pIsList : List Dat → Dat → Prop := fun dl r => ∃ (xs : List Dat), dl = [.lst xs] ∧ True ∧ r = .bl true
theorem ok_is_list {P : Program} {w : World} {K : PySem.W.Frag} {mg : Str → Option Value} {base : Heap} (T : Txt K mg) : Cal P w K mg base (0 + 1) "is_list" (spD K pIsList) := by
  refine ⟨?_, T.g_is_list, (T.d_is_list).elim fun _ F => F.kp⟩
  refine fn_d (d := d_is_list) (k := 0) (T.d_is_list) sc_is_list (fun _ _ _ _ _ _ us hl => match us, hl with | [_], _ => rfl) ?_ ?_
  · rintro dl r ⟨_, rfl, _⟩; rfl
  · intro cdv A outer s H E hr
    refine ⟨_, (pss_one (ps_ret (pe_callB call_isiT (by rfl) T.b_isinstance (by decide +kernel) (pa_cons (pv 0) (pa_cons (pe_tup (pa_cons (pe_bltn (v := .ty "list") (by rfl) T.b_list (by decide +kernel) rfl) (pa_cons (pe_bltn (v := .ty "tuple") (by rfl) T.b_tuple (by decide +kernel) rfl) pa_nil))) pa_nil))))), ?_⟩
    rintro m dl r ⟨xs, rfl, _, rfl⟩
    exact sd_ret (ev_isiT T (b := true) (ev_var rfl) (.ty _) (.ty _) (by simp [PySem.W.kitAny, Dat.tyV, T.k_list_list])) rfl

theorem sc_common_part : FnScope ["one", "other"] ["one", "other"] (defScope s_common_part) := ⟨rfl, rfl, rfl, by decide +kernel, rfl, by decide +kernel, by decide +kernel⟩
def pGcd : List Dat → Dat → Prop := fun dl r => ∃ (a b : Int), dl = [.int a, .int b] ∧ True ∧ r = .int (Nat.gcd a.natAbs b.natAbs : Nat)
theorem ok_common_part {P : Program} {w : World} {K : PySem.W.Frag} {mg : Str → Option Value} {base : Heap} (T : Txt K mg) : Cal P w K mg base (0 + 1) "common_part" (spD K pGcd) := by
  refine ⟨?_, T.g_common_part, (T.d_common_part).elim fun _ F => F.kp⟩
  refine fn_d (d := d_common_part) (k := 0) (T.d_common_part) sc_common_part (fun _ _ _ _ _ _ us hl => match us, hl with | [_, _], _ => rfl) ?_ ?_
  · rintro dl r ⟨_, _, rfl, _⟩; rfl
  · intro cdv A outer s H E hr
    refine ⟨_, (pss_one (ps_ret (pe_callBfun cr_gcd (by rfl) T.x_gcd (pa_cons (pv 0) (pa_cons (pv 1) pa_nil))))), ?_⟩
    rintro m dl r ⟨a, b, rfl, _, rfl⟩
    exact sd_ret (ev_cb (ea_cons (ev_var rfl) (ea_cons (ev_var rfl) ea_nil)) rc_gcd) rfl

theorem sc_Ratio_init : FnScope ["self", "top", "bottom", "common"] ["self", "top", "bottom"] (defScope s_Ratio_init) := ⟨rfl, rfl, rfl, by decide +kernel, rfl, by decide +kernel, by decide +kernel⟩
def pRInit : List Str → List Dat → List Dat → Dat → List Str → List Dat → Prop := fun ns xs dl r ns' xs' => ∃ t b : Int, ns = [] ∧ xs = [] ∧ dl = [.int t, .int b] ∧ (b ≠ 0 ∧ Bt 8900 b) ∧ r = .non ∧ ns' = (["own_top", "own_bottom"] : List Str) ∧ xs' = [.int (rN t b).1, .int (rN t b).2]
theorem ok_Ratio_init {P : Program} {w : World} {K : PySem.W.Frag} {mg : Str → Option Value} {base : Heap} (T : Txt K mg) (c_is_integer : Cal P w K mg base 1 "is_integer" (spD K pIsInt)) (c_common_part : Cal P w K mg base 1 "common_part" (spD K pGcd)) : ∃ fd, FunD K d_Ratio_init.name d_Ratio_init.qual (defArgs s_Ratio_init) (defBody s_Ratio_init) (defScope s_Ratio_init) (d_Ratio_init.dfl.map (He.Dv.v K)) [] (d_Ratio_init.adr K) fd ∧ FnOk P w K mg base CX0 (1 + 1) (d_Ratio_init.adr K) fd ["self", "top", "bottom"] (spW K "Ratio" pRInit) := by
  obtain ⟨fd, F⟩ := T.d_Ratio_init
  refine ⟨fd, F, fn_m (d := d_Ratio_init) (k := 1) (C := "Ratio") F sc_Ratio_init ?_ ?_⟩
  · rintro ns xs dl r ns' xs' ⟨_, _, rfl, rfl, rfl, _⟩; rfl
  · intro cdv A outer s H E hr
    refine ⟨_, (pss_cons (ps_if (pt_not (pt_val (pe_cf (c_is_integer.mono (by decide)) hr (by rfl) (pa_cons (pv 1) pa_nil))))
        (pss_one ps_never)
        pss_nil)
      (pss_cons (ps_if (PW.pt (pw_or (pt_not (pt_val (pe_cf (c_is_integer.mono (by decide)) hr (by rfl) (pa_cons (pv 2) pa_nil)))) (pw_or1 (pt_cmpR op_eq (pv 2) pe_int (nomark _)))))
        (pss_one ps_never)
        pss_nil)
      (pss_cons (ps_set (i := 3) sc_Ratio_init.nd rfl (.inl rfl) (pe_cf (c_common_part.mono (by decide)) hr (by rfl) (pa_cons (pv 1) (pa_cons (pv 2) pa_nil))))
      (pss_cons (ps_if (pt_cmpR op_lt (pv 2) pe_int (nomark _))
        (pss_one (ps_set (i := 3) sc_Ratio_init.nd rfl (.inl rfl) (pe_op op_sub pe_int (pv 3))))
        pss_nil)
      (pss_cons (ps_fld (pv 0) (pe_op op_fdivA (pv 1) (pv 3)) rfl)
      (pss_one (ps_fld (pv 0) (pe_op op_fdivA (pv 2) (pv 3)) rfl))))))), ?_⟩
    rintro m ns xs dl r ns' xs' ⟨t, b, rfl, rfl, rfl, ⟨hb, hz⟩, rfl, rfl, rfl⟩
    have gl : (rG t b).natAbs.log2 < 9000 := by
      have h1 : (rG t b).natAbs = Nat.gcd t.natAbs b.natAbs := by unfold rG; split <;> omega
      have h2 : Nat.gcd t.natAbs b.natAbs ≤ b.natAbs := Nat.gcd_le_right _ (by omega)
      have h3 := log2_mono h2
      have h4 := hz.log
      rw [h1]
      omega
    refine sdm_then (sd_ifF (et_notT (et_B (ev_call (ea_cons (ev_var rfl) ea_nil) ⟨.int t, rfl, .inl ⟨t, rfl⟩, rfl⟩))) (sd_next rfl)) ?_
    refine sdm_then (sd_ifF (et_orF (et_notT (et_B (ev_call (ea_cons (ev_var rfl) ea_nil) ⟨.int b, rfl, .inl ⟨b, rfl⟩, rfl⟩))) ((et_test (ev_op (ev_var rfl) ev_int rv_eq)).nay (decide_eq_false hb))) (sd_next rfl)) ?_
    refine sdm_then (sd_set (ev_call (ea_cons (ev_var rfl) (ea_cons (ev_var rfl) ea_nil)) ⟨t, b, rfl, trivial, rfl⟩) rfl) ?_
    refine sdm_then (ds1 := [.wk "Ratio" [] [], .dat (.int t), .dat (.int b), .dat (.int (rG t b))]) (sd_ifC (c := b < 0) (et_test (ev_op (ev_var rfl) ev_int rv_bl)) (fun c => sd_set (ev_op ev_int (ev_var rfl) rv_int) (by unfold rG; rw [if_pos c] <;> rfl)) (fun c => sd_next (by unfold rG; rw [if_neg c] <;> rfl))) ?_
    have gn := rG_ne (t := t) hb
    refine sdm_then (sd_fldN (C := "Ratio") (i := 0) (ns := []) (xs := []) (f := "own_top") rfl (one_of rfl) (ev_op (ev_var rfl) (ev_var rfl) (rv_intC ⟨gn, gl⟩)) T.cls_Ratio T.no_Ratio_own_top (by decide) rfl (by decide) rfl) ?_
    exact sdm_end (sd_fldN (C := "Ratio") (i := 0) (ns := ["own_top"]) (f := "own_bottom") rfl (one_of rfl) (ev_op (ev_var rfl) (ev_var rfl) (rv_intC ⟨gn, gl⟩)) T.cls_Ratio T.no_Ratio_own_bottom (by decide) rfl (by decide) ⟨rfl, rfl⟩)

theorem mk_Ratio {P : Program} {w : World} {K : PySem.W.Frag} {mg : Str → Option Value} {base : Heap} (T : Txt K mg) {k : Nat} (h : ∃ fd, FunD K d_Ratio_init.name d_Ratio_init.qual (defArgs s_Ratio_init) (defBody s_Ratio_init) (defScope s_Ratio_init) (d_Ratio_init.dfl.map (He.Dv.v K)) [] (d_Ratio_init.adr K) fd ∧ FnOk P w K mg base CX0 k (d_Ratio_init.adr K) fd ["self", "top", "bottom"] (spW K "Ratio" pRInit)) :
    MkC P w K mg base k "Ratio" (spW K "Ratio" pRInit) [] ∧ MkC P w K mg base k "Ratio" (spW K "Ratio" pRInit) [.int 1] := by
  obtain ⟨fd, F, ok⟩ := h
  constructor
  · obtain ⟨ds, v, b⟩ := F.binds1 (ps := ["self", "top", "bottom"]) 3 1 (by simp [d_Ratio_init]) rfl fun T kV doc pm an cdv ct us its h1 h2 => match us, its, h1, h2 with | [_, _, _], [_], _, _ => ⟨_, rfl, rfl⟩
    exact ⟨⟨_, fd, _, ds, T.mkr_Ratio, ok, b, v⟩, T.g_Ratio⟩
  · obtain ⟨ds, v, b⟩ := F.binds1 (ps := ["self", "top", "bottom"]) 2 0 (by simp [d_Ratio_init]) rfl fun T kV doc pm an cdv ct us its h1 h2 => match us, its, h1, h2 with | [_, _], [_], _, _ => ⟨_, rfl, rfl⟩
    exact ⟨⟨_, fd, _, ds, T.mkr_Ratio, ok, b, v⟩, T.g_Ratio⟩
/-- Ratio(t, b), Ratio(t) -/
theorem ev_ratio {m : Md} {K : PySem.W.Frag} {ds : Ds} {ta : TA} {t b : Int} (h : EvA m K ta ds [.int t, .int b]) (hb : b ≠ 0) (hz : Bt 8900 b) : EvD m K (tMake (He.ga K "Ratio") (spW K "Ratio" pRInit) [] E0 ta) ds (ratD (rN t b)) :=
  ev_mk (dd := []) h (fun _ => rfl) ⟨t, b, rfl, rfl, rfl, ⟨hb, hz⟩, rfl, rfl, rfl⟩ fun _ _ _ _ h hv => is_ratio h hv
theorem ev_ratio1 {m : Md} {K : PySem.W.Frag} {ds : Ds} {ta : TA} {t : Int} (h : EvA m K ta ds [.int t]) : EvD m K (tMake (He.ga K "Ratio") (spW K "Ratio" pRInit) [.int 1] E0 ta) ds (ratD (rN t 1)) :=
  ev_mk (dd := [.int 1]) h (fun _ => ⟨_, _, rfl, rfl, rfl⟩) ⟨t, 1, rfl, rfl, rfl, ⟨by decide, by unfold Bt; exact Nat.one_lt_two_pow (by decide)⟩, rfl, rfl, rfl⟩ fun _ _ _ _ h hv => is_ratio h hv

theorem sc_Ratio_top : FnScope ["self"] ["self"] (defScope s_Ratio_top) := ⟨rfl, rfl, rfl, by decide +kernel, rfl, by decide +kernel, by decide +kernel⟩
def pTop : List Dat → Dat → Prop := fun dl r => ∃ (t b : Int), dl = [.rat t b] ∧ True ∧ r = .int t
theorem ok_Ratio_top {P : Program} {w : World} {K : PySem.W.Frag} {mg : Str → Option Value} {base : Heap} (T : Txt K mg) : Fok P w K mg base (0 + 1) (d_Ratio_top.adr K) (spD K pTop) := by
  refine fok_d (d := d_Ratio_top) (k := 0) (T.d_Ratio_top) sc_Ratio_top (fun _ _ _ _ _ _ us hl => match us, hl with | [_], _ => rfl) ?_ ?_
  · rintro dl r ⟨_, _, rfl, _⟩; rfl
  · intro cdv A outer s H E hr
    refine ⟨_, (pss_one (ps_ret (pe_fld (pv 0) rfl))), ?_⟩
    rintro m dl r ⟨t, b, rfl, _, rfl⟩
    exact sd_ret (ev_fRat T.cls_Ratio T.no_Ratio_own_top (ev_var rfl)) rfl

theorem sc_Ratio_bottom : FnScope ["self"] ["self"] (defScope s_Ratio_bottom) := ⟨rfl, rfl, rfl, by decide +kernel, rfl, by decide +kernel, by decide +kernel⟩
def pBottom : List Dat → Dat → Prop := fun dl r => ∃ (t b : Int), dl = [.rat t b] ∧ True ∧ r = .int b
theorem ok_Ratio_bottom {P : Program} {w : World} {K : PySem.W.Frag} {mg : Str → Option Value} {base : Heap} (T : Txt K mg) : Fok P w K mg base (0 + 1) (d_Ratio_bottom.adr K) (spD K pBottom) := by
  refine fok_d (d := d_Ratio_bottom) (k := 0) (T.d_Ratio_bottom) sc_Ratio_bottom (fun _ _ _ _ _ _ us hl => match us, hl with | [_], _ => rfl) ?_ ?_
  · rintro dl r ⟨_, _, rfl, _⟩; rfl
  · intro cdv A outer s H E hr
    refine ⟨_, (pss_one (ps_ret (pe_fld (pv 0) rfl))), ?_⟩
    rintro m dl r ⟨t, b, rfl, _, rfl⟩
    exact sd_ret (ev_fRatB T.cls_Ratio T.no_Ratio_own_bottom (ev_var rfl)) rfl

theorem sc_Ratio_is_whole : FnScope ["self"] ["self"] (defScope s_Ratio_is_whole) := ⟨rfl, rfl, rfl, by decide +kernel, rfl, by decide +kernel, by decide +kernel⟩
def pIsWhole : List Dat → Dat → Prop := fun dl r => ∃ (t b : Int), dl = [.rat t b] ∧ True ∧ r = .bl (decide (b = 1))
theorem ok_Ratio_is_whole {P : Program} {w : World} {K : PySem.W.Frag} {mg : Str → Option Value} {base : Heap} (T : Txt K mg) : Fok P w K mg base (0 + 1) (d_Ratio_is_whole.adr K) (spD K pIsWhole) := by
  refine fok_d (d := d_Ratio_is_whole) (k := 0) (T.d_Ratio_is_whole) sc_Ratio_is_whole (fun _ _ _ _ _ _ us hl => match us, hl with | [_], _ => rfl) ?_ ?_
  · rintro dl r ⟨_, _, rfl, _⟩; rfl
  · intro cdv A outer s H E hr
    refine ⟨_, (pss_one (ps_ret (pe_cmpR op_eq (pe_fld (pv 0) rfl) pe_int (nomark _)))), ?_⟩
    rintro m dl r ⟨t, b, rfl, _, rfl⟩
    exact sd_ret (ev_op (ev_fRatB T.cls_Ratio T.no_Ratio_own_bottom (ev_var rfl)) ev_int rv_eq) rfl

theorem sc_Ratio_sign : FnScope ["self"] ["self"] (defScope s_Ratio_sign) := ⟨rfl, rfl, rfl, by decide +kernel, rfl, by decide +kernel, by decide +kernel⟩
def pSign : List Dat → Dat → Prop := fun dl r => ∃ (t b : Int), dl = [.rat t b] ∧ True ∧ r = .int ((if decide (0 < t) then 1 else 0) - (if decide (t < 0) then 1 else 0))
theorem ok_Ratio_sign {P : Program} {w : World} {K : PySem.W.Frag} {mg : Str → Option Value} {base : Heap} (T : Txt K mg) : Fok P w K mg base (0 + 1) (d_Ratio_sign.adr K) (spD K pSign) := by
  refine fok_d (d := d_Ratio_sign) (k := 0) (T.d_Ratio_sign) sc_Ratio_sign (fun _ _ _ _ _ _ us hl => match us, hl with | [_], _ => rfl) ?_ ?_
  · rintro dl r ⟨_, _, rfl, _⟩; rfl
  · intro cdv A outer s H E hr
    refine ⟨_, (pss_one (ps_ret (pe_op op_sub (pe_callTy call_int1 (by rfl) T.b_int (by decide +kernel) (pa_cons (pe_cmpR op_gt (pe_fld (pv 0) rfl) pe_int (nomark _)) pa_nil)) (pe_callTy call_int1 (by rfl) T.b_int (by decide +kernel) (pa_cons (pe_cmpR op_lt (pe_fld (pv 0) rfl) pe_int (nomark _)) pa_nil))))), ?_⟩
    rintro m dl r ⟨t, b, rfl, _, rfl⟩
    exact sd_ret (ev_op (ev_cb (ea_cons (ev_op (ev_fRat T.cls_Ratio T.no_Ratio_own_top (ev_var rfl)) ev_int rv_bl) ea_nil) rc_intB) (ev_cb (ea_cons (ev_op (ev_fRat T.cls_Ratio T.no_Ratio_own_top (ev_var rfl)) ev_int rv_bl) ea_nil) rc_intB) rv_int) rfl

theorem sc_told_pair : FnScope ["value"] ["value"] (defScope s_told_pair) := ⟨rfl, rfl, rfl, by decide +kernel, rfl, by decide +kernel, by decide +kernel⟩
def pTold : List Dat → Dat → Prop := fun dl r => ∃ (d : Dat), dl = [d] ∧ NumD d ∧ r = .tup [.int (numP d).1, .int (numP d).2]
theorem ok_told_pair {P : Program} {w : World} {K : PySem.W.Frag} {mg : Str → Option Value} {base : Heap} (T : Txt K mg) (c_is_integer : Cal P w K mg base 1 "is_integer" (spD K pIsInt)) : Cal P w K mg base (1 + 1) "told_pair" (spD K pTold) := by
  refine ⟨?_, T.g_told_pair, (T.d_told_pair).elim fun _ F => F.kp⟩
  refine fn_d (d := d_told_pair) (k := 1) (T.d_told_pair) sc_told_pair (fun _ _ _ _ _ _ us hl => match us, hl with | [_], _ => rfl) ?_ ?_
  · rintro dl r ⟨_, rfl, _⟩; rfl
  · intro cdv A outer s H E hr
    refine ⟨_, (pss_cons (ps_if (pt_val (pe_callB call_isi (by rfl) T.b_isinstance (by decide +kernel) (pa_cons (pv 0) (pa_cons (pe_glob (v := .ref (He.ga K "Ratio")) rfl T.g_Ratio rfl) pa_nil))))
        (pss_one (ps_ret (pe_tup (pa_cons (pe_fld (pv 0) rfl) (pa_cons (pe_fld (pv 0) rfl) pa_nil)))))
        pss_nil)
      (pss_cons (ps_if (pt_not (pt_val (pe_cf (c_is_integer.mono (by decide)) hr (by rfl) (pa_cons (pv 0) pa_nil))))
        (pss_one ps_never)
        pss_nil)
      (pss_one (ps_ret (pe_tup (pa_cons (pv 0) (pa_cons pe_int pa_nil))))))), ?_⟩
    rintro m dl r ⟨d, rfl, hd, rfl⟩
    rcases hd with ⟨i, rfl⟩ | ⟨t, b, rfl⟩
    · refine sd_then (sd_ifF (et_B (ev_isi T (ev_var rfl) (.own _) T.k_int_Ratio)) (sd_next rfl)) ?_
      refine sd_then (sd_ifF (et_notT (et_B (ev_call (ea_cons (ev_var rfl) ea_nil) ⟨.int i, rfl, .inl ⟨i, rfl⟩, rfl⟩))) (sd_next rfl)) ?_
      exact sd_ret (ev_tup (ea_cons (ev_var rfl) (ea_cons ev_int ea_nil)) (by simp)) rfl
    · refine sd_seq (M := fun _ => False) (sd_ifT (et_B (ev_isi T (ev_var rfl) (.own _) T.k_Ratio_Ratio)) (sd_ret (ev_tup (ea_cons (ev_fRat T.cls_Ratio T.no_Ratio_own_top (ev_var rfl)) (ea_cons (ev_fRatB T.cls_Ratio T.no_Ratio_own_bottom (ev_var rfl)) ea_nil)) (by simp)) rfl)) fun _ h => h.elim

theorem sc_Ratio_add : FnScope ["self", "other", "top", "bottom"] ["self", "other"] (defScope s_Ratio_add) := ⟨rfl, rfl, rfl, by decide +kernel, rfl, by decide +kernel, by decide +kernel⟩
def pAddR : List Dat → Dat → Prop := fun dl r => ∃ (x : Int × Int) (d : Dat) (n k : Nat), dl = [ratD x, d] ∧ (NumD d ∧ Rt n x ∧ Rt k (numP d) ∧ n + k ≤ 8800) ∧ r = ratD (addR x (numP d))
theorem ok_Ratio_add {P : Program} {w : World} {K : PySem.W.Frag} {mg : Str → Option Value} {base : Heap} (T : Txt K mg) (c_told_pair : Cal P w K mg base 2 "told_pair" (spD K pTold)) (c_mk_Ratio : MkC P w K mg base 2 "Ratio" (spW K "Ratio" pRInit) []) : Fok P w K mg base (3 + 1) (d_Ratio_add.adr K) (spD K pAddR) := by
  refine fok_d (d := d_Ratio_add) (k := 3) (T.d_Ratio_add) sc_Ratio_add (fun _ _ _ _ _ _ us hl => match us, hl with | [_, _], _ => rfl) ?_ ?_
  · rintro dl r ⟨_, _, _, _, rfl, _⟩; rfl
  · intro cdv A outer s H E hr
    refine ⟨_, (pss_cons (ps_asg (pe_cf (c_told_pair.mono (by decide)) hr (by rfl) (pa_cons (pv 1) pa_nil)) (pg_tup rfl (pgs_cons (pg_name (i := 2) sc_Ratio_add.nd rfl (.inl rfl)) (pgs_cons (pg_name (i := 3) sc_Ratio_add.nd rfl (.inl rfl)) pgs_nil))))
      (pss_one (ps_ret (pe_mkC (c_mk_Ratio.mono (by decide)) hr (by rfl) (pa_cons (pe_op op_add (pe_op op_mulW (pe_fld (pv 0) rfl) (pv 3)) (pe_op op_mulW (pv 2) (pe_fld (pv 0) rfl))) (pa_cons (pe_op op_mulW (pe_fld (pv 0) rfl) (pv 3)) pa_nil)))))), ?_⟩
    rintro m dl r ⟨x, d, n, k, rfl, ⟨hd, h1, h2, hz⟩, rfl⟩
    have mw : ∀ {a b : Nat} {i j : Int}, Bt a i → Bt b j → a + b ≤ 8800 → CMulW i j := fun h g q => by
      have e1 := h.log
      have e2 := g.log
      show _ + _ < 1000000
      omega
    refine sd_then (sd_unp (is := [2, 3]) (dl := [.int (numP d).1, .int (numP d).2]) (ev_call (ea_cons (ev_var rfl) ea_nil) ⟨d, rfl, hd, rfl⟩) rfl rfl rfl) ?_
    exact sd_ret (ev_ratio (ea_cons (ev_op (ev_op (ev_fRat T.cls_Ratio T.no_Ratio_own_top (ev_var rfl)) (ev_var rfl) (rv_intC (mw h1.1 h2.2.1 hz))) (ev_op (ev_var rfl) (ev_fRatB T.cls_Ratio T.no_Ratio_own_bottom (ev_var rfl)) (rv_intC (mw h2.1 h1.2.1 (by omega)))) rv_int) (ea_cons (ev_op (ev_fRatB T.cls_Ratio T.no_Ratio_own_bottom (ev_var rfl)) (ev_var rfl) (rv_intC (mw h1.2.1 h2.2.1 hz))) ea_nil)) (Int.ne_of_gt (Int.mul_pos h1.2.2 h2.2.2)) (Bt.mono (h1.2.1.mul h2.2.1) (show _ ≤ 8900 by omega))) rfl

theorem sc_Ratio_sub : FnScope ["self", "other", "top", "bottom"] ["self", "other"] (defScope s_Ratio_sub) := ⟨rfl, rfl, rfl, by decide +kernel, rfl, by decide +kernel, by decide +kernel⟩
def pSubR : List Dat → Dat → Prop := fun dl r => ∃ (x : Int × Int) (d : Dat) (n k : Nat), dl = [ratD x, d] ∧ (NumD d ∧ Rt n x ∧ Rt k (numP d) ∧ n + k ≤ 8800) ∧ r = ratD (subR x (numP d))
theorem ok_Ratio_sub {P : Program} {w : World} {K : PySem.W.Frag} {mg : Str → Option Value} {base : Heap} (T : Txt K mg) (c_told_pair : Cal P w K mg base 2 "told_pair" (spD K pTold)) (c_mk_Ratio : MkC P w K mg base 2 "Ratio" (spW K "Ratio" pRInit) []) : Fok P w K mg base (3 + 1) (d_Ratio_sub.adr K) (spD K pSubR) := by
  refine fok_d (d := d_Ratio_sub) (k := 3) (T.d_Ratio_sub) sc_Ratio_sub (fun _ _ _ _ _ _ us hl => match us, hl with | [_, _], _ => rfl) ?_ ?_
  · rintro dl r ⟨_, _, _, _, rfl, _⟩; rfl
  · intro cdv A outer s H E hr
    refine ⟨_, (pss_cons (ps_asg (pe_cf (c_told_pair.mono (by decide)) hr (by rfl) (pa_cons (pv 1) pa_nil)) (pg_tup rfl (pgs_cons (pg_name (i := 2) sc_Ratio_sub.nd rfl (.inl rfl)) (pgs_cons (pg_name (i := 3) sc_Ratio_sub.nd rfl (.inl rfl)) pgs_nil))))
      (pss_one (ps_ret (pe_mkC (c_mk_Ratio.mono (by decide)) hr (by rfl) (pa_cons (pe_op op_sub (pe_op op_mulW (pe_fld (pv 0) rfl) (pv 3)) (pe_op op_mulW (pv 2) (pe_fld (pv 0) rfl))) (pa_cons (pe_op op_mulW (pe_fld (pv 0) rfl) (pv 3)) pa_nil)))))), ?_⟩
    rintro m dl r ⟨x, d, n, k, rfl, ⟨hd, h1, h2, hz⟩, rfl⟩
    have mw : ∀ {a b : Nat} {i j : Int}, Bt a i → Bt b j → a + b ≤ 8800 → CMulW i j := fun h g q => by
      have e1 := h.log
      have e2 := g.log
      show _ + _ < 1000000
      omega
    refine sd_then (sd_unp (is := [2, 3]) (dl := [.int (numP d).1, .int (numP d).2]) (ev_call (ea_cons (ev_var rfl) ea_nil) ⟨d, rfl, hd, rfl⟩) rfl rfl rfl) ?_
    exact sd_ret (ev_ratio (ea_cons (ev_op (ev_op (ev_fRat T.cls_Ratio T.no_Ratio_own_top (ev_var rfl)) (ev_var rfl) (rv_intC (mw h1.1 h2.2.1 hz))) (ev_op (ev_var rfl) (ev_fRatB T.cls_Ratio T.no_Ratio_own_bottom (ev_var rfl)) (rv_intC (mw h2.1 h1.2.1 (by omega)))) rv_int) (ea_cons (ev_op (ev_fRatB T.cls_Ratio T.no_Ratio_own_bottom (ev_var rfl)) (ev_var rfl) (rv_intC (mw h1.2.1 h2.2.1 hz))) ea_nil)) (Int.ne_of_gt (Int.mul_pos h1.2.2 h2.2.2)) (Bt.mono (h1.2.1.mul h2.2.1) (show _ ≤ 8900 by omega))) rfl

theorem sc_Ratio_mul : FnScope ["self", "other", "top", "bottom"] ["self", "other"] (defScope s_Ratio_mul) := ⟨rfl, rfl, rfl, by decide +kernel, rfl, by decide +kernel, by decide +kernel⟩
def pMulR : List Dat → Dat → Prop := fun dl r => ∃ (x : Int × Int) (d : Dat) (n k : Nat), dl = [ratD x, d] ∧ (NumD d ∧ Rt n x ∧ Rt k (numP d) ∧ n + k ≤ 8800) ∧ r = ratD (mulR x (numP d))
theorem ok_Ratio_mul {P : Program} {w : World} {K : PySem.W.Frag} {mg : Str → Option Value} {base : Heap} (T : Txt K mg) (c_told_pair : Cal P w K mg base 2 "told_pair" (spD K pTold)) (c_mk_Ratio : MkC P w K mg base 2 "Ratio" (spW K "Ratio" pRInit) []) : Fok P w K mg base (3 + 1) (d_Ratio_mul.adr K) (spD K pMulR) := by
  refine fok_d (d := d_Ratio_mul) (k := 3) (T.d_Ratio_mul) sc_Ratio_mul (fun _ _ _ _ _ _ us hl => match us, hl with | [_, _], _ => rfl) ?_ ?_
  · rintro dl r ⟨_, _, _, _, rfl, _⟩; rfl
  · intro cdv A outer s H E hr
    refine ⟨_, (pss_cons (ps_asg (pe_cf (c_told_pair.mono (by decide)) hr (by rfl) (pa_cons (pv 1) pa_nil)) (pg_tup rfl (pgs_cons (pg_name (i := 2) sc_Ratio_mul.nd rfl (.inl rfl)) (pgs_cons (pg_name (i := 3) sc_Ratio_mul.nd rfl (.inl rfl)) pgs_nil))))
      (pss_one (ps_ret (pe_mkC (c_mk_Ratio.mono (by decide)) hr (by rfl) (pa_cons (pe_op op_mulW (pe_fld (pv 0) rfl) (pv 2)) (pa_cons (pe_op op_mulW (pe_fld (pv 0) rfl) (pv 3)) pa_nil)))))), ?_⟩
    rintro m dl r ⟨x, d, n, k, rfl, ⟨hd, h1, h2, hz⟩, rfl⟩
    have mw : ∀ {a b : Nat} {i j : Int}, Bt a i → Bt b j → a + b ≤ 8800 → CMulW i j := fun h g q => by
      have e1 := h.log
      have e2 := g.log
      show _ + _ < 1000000
      omega
    refine sd_then (sd_unp (is := [2, 3]) (dl := [.int (numP d).1, .int (numP d).2]) (ev_call (ea_cons (ev_var rfl) ea_nil) ⟨d, rfl, hd, rfl⟩) rfl rfl rfl) ?_
    exact sd_ret (ev_ratio (ea_cons (ev_op (ev_fRat T.cls_Ratio T.no_Ratio_own_top (ev_var rfl)) (ev_var rfl) (rv_intC (mw h1.1 h2.1 hz))) (ea_cons (ev_op (ev_fRatB T.cls_Ratio T.no_Ratio_own_bottom (ev_var rfl)) (ev_var rfl) (rv_intC (mw h1.2.1 h2.2.1 hz))) ea_nil)) (Int.ne_of_gt (Int.mul_pos h1.2.2 h2.2.2)) (Bt.mono (h1.2.1.mul h2.2.1) (show _ ≤ 8900 by omega))) rfl

theorem sc_Ratio_over : FnScope ["self", "other", "top", "bottom"] ["self", "other"] (defScope s_Ratio_over) := ⟨rfl, rfl, rfl, by decide +kernel, rfl, by decide +kernel, by decide +kernel⟩
def pOver : List Dat → Dat → Prop := fun dl r => ∃ (x : Int × Int) (d : Dat) (n k : Nat), dl = [ratD x, d] ∧ (NumD d ∧ Rt n x ∧ Rt k (numP d) ∧ n + k ≤ 8800 ∧ (numP d).1 ≠ 0) ∧ r = ratD (overR x (numP d))
theorem ok_Ratio_over {P : Program} {w : World} {K : PySem.W.Frag} {mg : Str → Option Value} {base : Heap} (T : Txt K mg) (c_told_pair : Cal P w K mg base 2 "told_pair" (spD K pTold)) (c_mk_Ratio : MkC P w K mg base 2 "Ratio" (spW K "Ratio" pRInit) []) : Fok P w K mg base (3 + 1) (d_Ratio_over.adr K) (spD K pOver) := by
  refine fok_d (d := d_Ratio_over) (k := 3) (T.d_Ratio_over) sc_Ratio_over (fun _ _ _ _ _ _ us hl => match us, hl with | [_, _], _ => rfl) ?_ ?_
  · rintro dl r ⟨_, _, _, _, rfl, _⟩; rfl
  · intro cdv A outer s H E hr
    refine ⟨_, (pss_cons (ps_asg (pe_cf (c_told_pair.mono (by decide)) hr (by rfl) (pa_cons (pv 1) pa_nil)) (pg_tup rfl (pgs_cons (pg_name (i := 2) sc_Ratio_over.nd rfl (.inl rfl)) (pgs_cons (pg_name (i := 3) sc_Ratio_over.nd rfl (.inl rfl)) pgs_nil))))
      (pss_cons (ps_if (pt_cmpR op_eq (pv 2) pe_int (nomark _))
        (pss_one ps_never)
        pss_nil)
      (pss_one (ps_ret (pe_mkC (c_mk_Ratio.mono (by decide)) hr (by rfl) (pa_cons (pe_op op_mulW (pe_fld (pv 0) rfl) (pv 3)) (pa_cons (pe_op op_mulW (pe_fld (pv 0) rfl) (pv 2)) pa_nil))))))), ?_⟩
    rintro m dl r ⟨x, d, n, k, rfl, ⟨hd, h1, h2, hz, hn⟩, rfl⟩
    have mw : ∀ {a b : Nat} {i j : Int}, Bt a i → Bt b j → a + b ≤ 8800 → CMulW i j := fun h g q => by
      have e1 := h.log
      have e2 := g.log
      show _ + _ < 1000000
      omega
    refine sd_then (sd_unp (is := [2, 3]) (dl := [.int (numP d).1, .int (numP d).2]) (ev_call (ea_cons (ev_var rfl) ea_nil) ⟨d, rfl, hd, rfl⟩) rfl rfl rfl) ?_
    refine sd_then (sd_ifF ((et_test (ev_op (ev_var rfl) ev_int rv_eq)).nay (decide_eq_false hn)) (sd_next rfl)) ?_
    exact sd_ret (ev_ratio (ea_cons (ev_op (ev_fRat T.cls_Ratio T.no_Ratio_own_top (ev_var rfl)) (ev_var rfl) (rv_intC (mw h1.1 h2.2.1 hz))) (ea_cons (ev_op (ev_fRatB T.cls_Ratio T.no_Ratio_own_bottom (ev_var rfl)) (ev_var rfl) (rv_intC (mw h1.2.1 h2.1 hz))) ea_nil)) (by intro q; rcases Int.mul_eq_zero.mp q with q | q; exact absurd q (Int.ne_of_gt h1.2.2); exact hn q) (Bt.mono (h1.2.1.mul h2.1) (show _ ≤ 8900 by omega))) rfl

theorem sc_is_number : FnScope ["value"] ["value"] (defScope s_is_number) := ⟨rfl, rfl, rfl, by decide +kernel, rfl, by decide +kernel, by decide +kernel⟩
def pIsNum : List Dat → Dat → Prop := fun dl r => ∃ (d : Dat), dl = [d] ∧ NumD d ∧ r = .bl true
theorem ok_is_number {P : Program} {w : World} {K : PySem.W.Frag} {mg : Str → Option Value} {base : Heap} (T : Txt K mg) (c_is_integer : Cal P w K mg base 1 "is_integer" (spD K pIsInt)) : Cal P w K mg base (1 + 1) "is_number" (spD K pIsNum) := by
  refine ⟨?_, T.g_is_number, (T.d_is_number).elim fun _ F => F.kp⟩
  refine fn_d (d := d_is_number) (k := 1) (T.d_is_number) sc_is_number (fun _ _ _ _ _ _ us hl => match us, hl with | [_], _ => rfl) ?_ ?_
  · rintro dl r ⟨_, rfl, _⟩; rfl
  · intro cdv A outer s H E hr
    refine ⟨_, (pss_one (ps_ret (pe_or (pe_cf (c_is_integer.mono (by decide)) hr (by rfl) (pa_cons (pv 0) pa_nil)) (pe_one (pe_callB call_isi (by rfl) T.b_isinstance (by decide +kernel) (pa_cons (pv 0) (pa_cons (pe_glob (v := .ref (He.ga K "Ratio")) rfl T.g_Ratio rfl) pa_nil))))))), ?_⟩
    rintro m dl r ⟨d, rfl, hd, rfl⟩
    rcases hd with ⟨i, rfl⟩ | ⟨t, b, rfl⟩
    · exact sd_ret (ev_orT (ev_call (ea_cons (ev_var rfl) ea_nil) ⟨.int i, rfl, .inl ⟨i, rfl⟩, rfl⟩)) rfl
    · exact sd_ret (ev_orF (ev_call (ea_cons (ev_var rfl) ea_nil) ⟨.rat t b, rfl, .inr ⟨t, b, rfl⟩, rfl⟩) (ev_isi T (ev_var rfl) (.own _) T.k_Ratio_Ratio)) rfl

theorem sc_ratio_of : FnScope ["number"] ["number"] (defScope s_ratio_of) := ⟨rfl, rfl, rfl, by decide +kernel, rfl, by decide +kernel, by decide +kernel⟩
def pRatioOf : List Dat → Dat → Prop := fun dl r => ∃ (d : Dat), dl = [d] ∧ NumD d ∧ r = ratD (ratOf d)
theorem ok_ratio_of {P : Program} {w : World} {K : PySem.W.Frag} {mg : Str → Option Value} {base : Heap} (T : Txt K mg) (c_mk_Ratio1 : MkC P w K mg base 2 "Ratio" (spW K "Ratio" pRInit) [.int 1]) : Cal P w K mg base (3 + 1) "ratio_of" (spD K pRatioOf) := by
  refine ⟨?_, T.g_ratio_of, (T.d_ratio_of).elim fun _ F => F.kp⟩
  refine fn_d (d := d_ratio_of) (k := 3) (T.d_ratio_of) sc_ratio_of (fun _ _ _ _ _ _ us hl => match us, hl with | [_], _ => rfl) ?_ ?_
  · rintro dl r ⟨_, rfl, _⟩; rfl
  · intro cdv A outer s H E hr
    refine ⟨_, (pss_one (ps_ret (pe_ifExp (pt_val (pe_callB call_isi (by rfl) T.b_isinstance (by decide +kernel) (pa_cons (pv 0) (pa_cons (pe_glob (v := .ref (He.ga K "Ratio")) rfl T.g_Ratio rfl) pa_nil)))) (pv 0) (pe_mkC (c_mk_Ratio1.mono (by decide)) hr (by rfl) (pa_cons (pv 0) pa_nil))))), ?_⟩
    rintro m dl r ⟨d, rfl, hd, rfl⟩
    rcases hd with ⟨i, rfl⟩ | ⟨t, b, rfl⟩
    · exact sd_ret (ev_ifF (et_B (ev_isi T (ev_var rfl) (.own _) T.k_int_Ratio)) (ev_ratio1 (ea_cons (ev_var rfl) ea_nil))) rfl
    · exact sd_ret (ev_ifT (et_B (ev_isi T (ev_var rfl) (.own _) T.k_Ratio_Ratio)) (ev_var rfl)) rfl

end RR
/-! ### RW6 -/
namespace RR
open PySem PySem.Spec PyProof.Rows L2 Evl

theorem cutD_takeD (l : List Dat) (k : Nat) : cutD l none (some (k : Int)) = l.take k := by
  unfold cutD
  rw [HT.sIx_none, HT.sIx_nat, List.drop_zero, Nat.sub_zero]
  by_cases h : k ≤ l.length
  · rw [Nat.min_eq_left h]
  · rw [Nat.min_eq_right (by omega), List.take_of_length_le (Nat.le_refl _), List.take_of_length_le (by omega)]
section
variable {m : Md} {K : PySem.W.Frag} {ds : Ds} {te : TE} {ta : TA}
/-- [e for i in range(n)] -/
theorem eo_rng {j n : Nat} {y : Nat → Dat} (hl : EvA m K ta ds [.int (n : Int)]) (hz : n ≤ 50000) (he : ∀ i, i < n → EvD m K te ((wipeD ds [j]).set j (.dat (.int (i : Int)))) (y i)) :
    EvO m K (tLc (iRng1 ta) (gName j) tYes te [j]) ds ((List.range n).map y) := by
  have h := eo_lc (it_range1 (j := j) hl (by omega)) (vs := [j]) (fun _ h => h) (fun _ => true) y (te := te) (tt := tYes) (by rw [Int.toNat_natCast]; exact hz) (fun i hi => et_yes) fun i hi _ => he i (by rw [Int.toNat_natCast] at hi; exact hi)
  refine h.to ?_
  rw [Int.toNat_natCast, given_all fun _ _ => rfl]
theorem eo_rng2 {j n : Nat} {a b : Int} {y : Nat → Dat} (hl : EvA m K ta ds [.int a, .int b]) (hn : (b - a).toNat = n) (hz : b ≤ 50000 ∧ -50000 ≤ b ∧ a ≤ 50000 ∧ -50000 ≤ a) (hz2 : n ≤ 50000) (he : ∀ i : Nat, i < n → EvD m K te ((wipeD ds [j]).set j (.dat (.int (a + (i : Int))))) (y i)) :
    EvO m K (tLc (iRng2 ta) (gName j) tYes te [j]) ds ((List.range n).map y) := by
  subst hn
  have h := eo_lc (it_range2 (j := j) hl (by omega)) (vs := [j]) (fun _ h => h) (fun _ => true) y (te := te) (tt := tYes) hz2 (fun i hi => et_yes) fun i hi _ => he i hi
  refine h.to ?_
  rw [given_all fun _ _ => rfl]
end
theorem range_map {α : Type} {n : Nat} {f g : Nat → α} (h : ∀ i, i < n → f i = g i) : (List.range n).map f = (List.range n).map g := List.map_congr_left fun i hi => h i (List.mem_range.mp hi)
theorem mapIdx_range {α β : Type} (l : List α) (f : Nat → α → β) (y : Nat → β) (h : ∀ i x, l[i]? = some x → y i = f i x) : (List.range l.length).map y = l.mapIdx f := by
  apply List.ext_getElem (by simp)
  intro i h1 h2
  have hi : i < l.length := by simpa using h1
  simp only [List.getElem_map, List.getElem_range, List.getElem_mapIdx]
  exact h i _ (List.getElem?_eq_getElem hi)
theorem at_rat {l : List (Int × Int)} {i : Nat} {x : Int × Int} (h : l[i]? = some x) : atI (l.map ratD) (i : Int) = some (ratD x) := atI_nat (by rw [List.getElem?_map, h] <;> rfl)

theorem sc_wholes : FnScope ["ratios", "bottom", "ratio"] ["ratios"] (defScope s_wholes) := ⟨rfl, rfl, rfl, by decide +kernel, rfl, by decide +kernel, by decide +kernel⟩
def pWholes : List Dat → Dat → Prop := fun dl r => ∃ (l : List (Int × Int)) (n : Nat), dl = [rl l] ∧ (RtL n l ∧ 1 + n * l.length ≤ 8800 ∧ n ≤ 8800 ∧ l.length ≤ 64) ∧ r = .tup [.int (lcmR l), il (wholesR l)]
theorem ok_wholes {P : Program} {w : World} {K : PySem.W.Frag} {mg : Str → Option Value} {base : Heap} (T : Txt K mg) : Cal P w K mg base (0 + 1) "wholes" (spD K pWholes) := by
  refine ⟨?_, T.g_wholes, (T.d_wholes).elim fun _ F => F.kp⟩
  refine fn_d (d := d_wholes) (k := 0) (T.d_wholes) sc_wholes (fun _ _ _ _ _ _ us hl => match us, hl with | [_], _ => rfl) ?_ ?_
  · rintro dl r ⟨_, _, rfl, _⟩; rfl
  · intro cdv A outer s H E hr
    refine ⟨_, (pss_cons (ps_set (i := 1) sc_wholes.nd rfl (.inr rfl) pe_int)
      (pss_cons (ps_for PassesOwn.never rfl (pi_list (pv 0)) (pg_name (i := 2) sc_wholes.nd rfl (.inl rfl))
        (pss_one (ps_set (i := 1) sc_wholes.nd rfl (.inr rfl) (pe_callBfun cr_lcm (by rfl) T.x_lcm (pa_cons (pv 1) (pa_cons (pe_fld (pv 2) rfl) pa_nil))))))
      (pss_one (ps_ret (pe_tup (pa_cons (pv 1) (pa_cons (pe_lc (own := [("ratio", 2)]) (g := (gName 2)) (tt := tYes) (te := (tOp (rI CMulW fun i j => .int (i * j)) (tFld K (tVar 2) "own_top") (tOp (rI CDivA fun i j => .int (i.fdiv j)) (tVar 1) (tFld K (tVar 2) "own_bottom")))) rfl sc_wholes.nd (pi_list (pv 0)) (blkOk_by (own := [("ratio", 2)]) (N := ["ratios", "bottom", "ratio"]) (sc := defScope s_wholes) (by decide +kernel)) (fun _ _ _ _ _ => (pg_name (i := 2) sc_wholes.nd rfl (Or.inl rfl))) (fun _ _ _ _ _ => pts_nil) (fun _ _ _ _ _ => (pe_op op_mulW (pe_fld (pv 2) rfl) (pe_op op_fdivA (pv 1) (pe_fld (pv 2) rfl))))) pa_nil))))))), ?_⟩
    rintro m dl r ⟨l, n, rfl, ⟨hr, hz, hn, hl⟩, rfl⟩
    refine sd_then (sd_set ev_int rfl) ?_
    refine sd_seq (M := fun d => ∃ sa, d = [.dat (rl l), .dat (.int (lcmR l)), sa]) (sd_for (it_list (ev_var rfl)) (fun i ds' => ∃ sa, ds' = [.dat (rl l), .dat (.int (lcmR (l.take i))), sa]) ⟨_, rfl⟩ ?_ fun ds' ⟨sa, e⟩ => ⟨sa, by rw [List.length_map, List.take_length] at e; exact e⟩) ?_
    · rintro i ds' hi ⟨sa, rfl⟩
      rw [List.length_map] at hi
      simp only [List.getElem?_map, List.getElem?_eq_getElem hi, Option.map_some]
      obtain ⟨b1, b2, _⟩ := lcmR_take hr i (by omega)
      have r1 := hr l[i] (List.getElem_mem _)
      have e : l.take (i + 1) = l.take i ++ [l[i]] := by rw [List.take_add_one, List.getElem?_eq_getElem hi] <;> rfl
      have e2 : lcmR (l.take (i + 1)) = (Nat.lcm (lcmR (l.take i)).natAbs (l[i]).2.natAbs : Nat) := by rw [e]; exact lcmS_app 1 _ _
      have q1 := b1.log
      have q2 := r1.2.1.log
      have q3 : n * i ≤ n * l.length := Nat.mul_le_mul_left _ (by omega)
      exact sd_set (ev_cb (ea_cons (ev_var rfl) (ea_cons (ev_fRatB T.cls_Ratio T.no_Ratio_own_bottom (ev_var rfl)) ea_nil)) (rc_lcm (by omega) (by omega))) ⟨_, by rw [e2] <;> rfl⟩
    · rintro d ⟨sa, rfl⟩
      obtain ⟨b1, b2, b3⟩ := lcmR_spec hr
      refine sd_ret (ev_tup (ea_cons (ev_var rfl) (ea_cons ((EvO.dd (eo_mapG (f := ratD) (g := fun r => .int (r.1 * (lcmR l).fdiv r.2)) (ev_var rfl) (by omega) fun r hrm => ?_)).to ?_) ea_nil)) (by simp)) rfl
      · have r1 := hr r hrm
        have q1 := r1.1.log
        have q2 := r1.2.1.log
        have q3 := (fdiv_bt b1 r1.2.2 (by omega)).log
        exact ev_op (ev_fRat T.cls_Ratio T.no_Ratio_own_top (ev_var rfl)) (ev_op (ev_var rfl) (ev_fRatB T.cls_Ratio T.no_Ratio_own_bottom (ev_var rfl)) (rv_intC ⟨Int.ne_of_gt r1.2.2, by omega⟩)) (rv_intC (by show _ + _ < 1000000; omega))
      · rw [wholesR, show il (l.map fun r => r.1 * (lcmR l).fdiv r.2) = .lst ((l.map fun r => r.1 * (lcmR l).fdiv r.2).map Dat.int) from rfl, List.map_map] <;> rfl

theorem sc_is_poly : FnScope ["value", "number"] ["value"] (defScope s_is_poly) := ⟨rfl, rfl, rfl, by decide +kernel, rfl, by decide +kernel, by decide +kernel⟩
def pIsPoly : List Dat → Dat → Prop := fun dl r => ∃ (xs : List Dat), dl = [.lst xs] ∧ ((∀ d ∈ xs, NumD d) ∧ xs.length ≤ 61) ∧ r = .bl true
theorem ok_is_poly {P : Program} {w : World} {K : PySem.W.Frag} {mg : Str → Option Value} {base : Heap} (T : Txt K mg) (c_is_number : Cal P w K mg base 2 "is_number" (spD K pIsNum)) (c_is_list : Cal P w K mg base 1 "is_list" (spD K pIsList)) : Cal P w K mg base (2 + 1) "is_poly" (spD K pIsPoly) := by
  refine ⟨?_, T.g_is_poly, (T.d_is_poly).elim fun _ F => F.kp⟩
  refine fn_d (d := d_is_poly) (k := 2) (T.d_is_poly) sc_is_poly (fun _ _ _ _ _ _ us hl => match us, hl with | [_], _ => rfl) ?_ ?_
  · rintro dl r ⟨_, rfl, _⟩; rfl
  · intro cdv A outer s H E hr
    refine ⟨_, (pss_one (ps_ret (pe_and (pe_cf (c_is_list.mono (by decide)) hr (by rfl) (pa_cons (pv 0) pa_nil)) (pe_and (pe_cmpR op_le (pe_callB call_len_seq (by rfl) T.b_len (by decide +kernel) (pa_cons (pv 0) pa_nil)) (pe_glob (v := .int 61) rfl T.c_MOST_NUMBERS.choose_spec ⟨_, rfl⟩) (nomark _)) (pe_one (pe_callB (cr_all rfl) (by rfl) T.b_all (by decide +kernel) (pa_cons (pe_lc (own := [("number", 1)]) (g := (gName 1)) (tt := tYes) (te := (tCf (spD K pIsNum) (tCons (tVar 1) tNil))) rfl sc_is_poly.nd (pi_list (pv 0)) (blkOk_by (own := [("number", 1)]) (N := ["value", "number"]) (sc := defScope s_is_poly) (by decide +kernel)) (fun _ _ _ _ _ => (pg_name (i := 1) sc_is_poly.nd rfl (Or.inl rfl))) (fun _ _ _ _ _ => pts_nil) (fun _ _ _ _ _ => (pe_cf (c_is_number.mono (by decide)) hr (by rfl) (pa_cons (pv 1) pa_nil)))) pa_nil))))))), ?_⟩
    rintro m dl r ⟨xs, rfl, ⟨hx, hl⟩, rfl⟩
    refine sd_ret (ev_andT (ev_call (ea_cons (ev_var rfl) ea_nil) ⟨xs, rfl, trivial, rfl⟩) (ev_andT ((ev_op (ev_len (ev_var rfl)) ev_int rv_bl).to (by rw [decide_eq_true (show (xs.length : Int) ≤ 61 by omega)])) ((et_allG (f := id) (b := fun _ => true) ((ev_var rfl).to (by rw [List.map_id])) (by omega) fun d hd => ev_call (ea_cons (ev_var rfl) ea_nil) ⟨d, rfl, hx d hd, rfl⟩).to (by simp)))) rfl

theorem sc_trimmed : FnScope ["ratios", "many"] ["ratios"] (defScope s_trimmed) := ⟨rfl, rfl, rfl, by decide +kernel, rfl, by decide +kernel, by decide +kernel⟩
def pTrimmed : List Dat → Dat → Prop := fun dl r => ∃ (l : List (Int × Int)), dl = [rl l] ∧ l.length ≤ 50000 ∧ r = rl (trimR l)
theorem ok_trimmed {P : Program} {w : World} {K : PySem.W.Frag} {mg : Str → Option Value} {base : Heap} (T : Txt K mg) : Cal P w K mg base (0 + 1) "trimmed" (spD K pTrimmed) := by
  refine ⟨?_, T.g_trimmed, (T.d_trimmed).elim fun _ F => F.kp⟩
  refine fn_d (d := d_trimmed) (k := 0) (T.d_trimmed) sc_trimmed (fun _ _ _ _ _ _ us hl => match us, hl with | [_], _ => rfl) ?_ ?_
  · rintro dl r ⟨_, rfl, _⟩; rfl
  · intro cdv A outer s H E hr
    refine ⟨_, (pss_cons (ps_set (i := 1) sc_trimmed.nd rfl (.inl rfl) (pe_callB call_len_seq (by rfl) T.b_len (by decide +kernel) (pa_cons (pv 0) pa_nil)))
      (pss_cons (ps_while PassesOwn.never (PW.pt (pw_and (pt_cmpR op_gt (pv 1) pe_int (nomark _)) (pw_and1 (pt_cmpR op_eq (pe_fld (pe_ix ix_list (pv 0) (pe_op op_sub (pv 1) pe_int) (fun _ _ => rfl)) rfl) pe_int (nomark _)))))
        (pss_one (ps_set (i := 1) sc_trimmed.nd rfl (.inl rfl) (pe_op op_sub (pv 1) pe_int))))
      (pss_one (ps_ret (pe_callTy call_list_of (by rfl) T.b_list (by decide +kernel) (pa_cons (pe_slice sl_list (pv 0) po_none (po_some (pv 1))) pa_nil)))))), ?_⟩
    rintro m dl r ⟨l, rfl, hl, rfl⟩
    refine sd_then (sd_set (d := .int (l.length : Int)) ((ev_len (ev_var rfl)).to (by rw [List.length_map])) rfl) ?_
    refine sd_seq (M := fun d => ∃ k : Nat, d = [.dat (rl l), .dat (.int (k : Int))] ∧ l.take k = trimR l) (sd_while (fun k ds' => ds' = [.dat (rl l), .dat (.int (k : Int))] ∧ trimR (l.take k) = trimR l ∧ k ≤ l.length) l.length ⟨rfl, by rw [List.take_length], Nat.le_refl _⟩ ?_) ?_
    · rintro k ds' ⟨rfl, e, hk⟩
      by_cases c : 0 < k
      · have ex : l[k - 1]? = some l[k - 1] := List.getElem?_eq_getElem (by omega)
        have et : l.take k = l.take (k - 1) ++ [l[k - 1]] := by
          conv => lhs; rw [show k = (k - 1) + 1 from by omega]
          rw [List.take_add_one, ex] <;> rfl
        have tst : EvT m K (tTest (tOp rEq (tFld K (tOp (rIxL K) (tVar 0) (tOp (rI0 fun i j => .int (i - j)) (tVar 1) (tC (.int 1)))) "own_top") (tC (.int 0)))) [.dat (rl l), .dat (.int (k : Int))] (decide ((l[k - 1]).1 = 0)) :=
          et_test (ev_op (ev_fRat T.cls_Ratio T.no_Ratio_own_top (ev_op (ev_var rfl) ((ev_op (ev_var rfl) ev_int rv_int).to (d' := .int ((k - 1 : Nat) : Int)) (by congr 1; omega)) (rv_ixL (at_rat ex)))) ev_int rv_eq)
        by_cases c2 : (l[k - 1]).1 = 0
        · refine ⟨true, et_andT ((et_test (ev_op (ev_var rfl) ev_int rv_bl)).yes (decide_eq_true (by omega))) (tst.yes (decide_eq_true c2)), fun _ => ?_, (fun h => by cases h)⟩
          exact sd_set (d := .int ((k - 1 : Nat) : Int)) ((ev_op (ev_var rfl) ev_int rv_int).to (by congr 1; omega)) ⟨k - 1, by omega, rfl, by rw [← e, et, trimR_zero _ c2], by omega⟩
        · refine ⟨false, et_andT ((et_test (ev_op (ev_var rfl) ev_int rv_bl)).yes (decide_eq_true (by omega))) (tst.nay (decide_eq_false c2)), (fun h => by cases h), fun _ => ?_⟩
          exact ⟨k, rfl, by rw [← e, et, trimR_app c2]⟩
      · refine ⟨false, et_andF ((et_test (ev_op (ev_var rfl) ev_int rv_bl)).nay (decide_eq_false (by omega))), (fun h => by cases h), fun _ => ?_⟩
        have ek : k = 0 := by omega
        subst ek
        exact ⟨0, rfl, by rw [← e] <;> rfl⟩
    · rintro d ⟨k, rfl, e⟩
      refine sd_ret (EvO.dd (eo_list (EvO.dd ((eo_slice (lo := none) (hi := some (k : Int)) (ev_var rfl) ep_none (ep_some (ev_var rfl))).to (ys := (trimR l).map ratD) ?_)))) rfl
      rw [cutD_takeD, ← List.map_take, e]

theorem sc_want_poly : FnScope ["value", "number"] ["value"] (defScope s_want_poly) := ⟨rfl, rfl, rfl, by decide +kernel, rfl, by decide +kernel, by decide +kernel⟩
def pWantPoly : List Dat → Dat → Prop := fun dl r => ∃ (xs : List Dat), dl = [.lst xs] ∧ ((∀ d ∈ xs, NumD d) ∧ xs.length ≤ 61) ∧ r = rl (trimR (xs.map ratOf))
theorem ok_want_poly {P : Program} {w : World} {K : PySem.W.Frag} {mg : Str → Option Value} {base : Heap} (T : Txt K mg) (c_is_poly : Cal P w K mg base 3 "is_poly" (spD K pIsPoly)) (c_ratio_of : Cal P w K mg base 4 "ratio_of" (spD K pRatioOf)) (c_trimmed : Cal P w K mg base 1 "trimmed" (spD K pTrimmed)) : Cal P w K mg base (4 + 1) "want_poly" (spD K pWantPoly) := by
  refine ⟨?_, T.g_want_poly, (T.d_want_poly).elim fun _ F => F.kp⟩
  refine fn_d (d := d_want_poly) (k := 4) (T.d_want_poly) sc_want_poly (fun _ _ _ _ _ _ us hl => match us, hl with | [_], _ => rfl) ?_ ?_
  · rintro dl r ⟨_, rfl, _⟩; rfl
  · intro cdv A outer s H E hr
    refine ⟨_, (pss_cons (ps_if (pt_not (pt_val (pe_cf (c_is_poly.mono (by decide)) hr (by rfl) (pa_cons (pv 0) pa_nil))))
        (pss_one ps_never)
        pss_nil)
      (pss_one (ps_ret (pe_cf (c_trimmed.mono (by decide)) hr (by rfl) (pa_cons (pe_lc (own := [("number", 1)]) (g := (gName 1)) (tt := tYes) (te := (tCf (spD K pRatioOf) (tCons (tVar 1) tNil))) rfl sc_want_poly.nd (pi_list (pv 0)) (blkOk_by (own := [("number", 1)]) (N := ["value", "number"]) (sc := defScope s_want_poly) (by decide +kernel)) (fun _ _ _ _ _ => (pg_name (i := 1) sc_want_poly.nd rfl (Or.inl rfl))) (fun _ _ _ _ _ => pts_nil) (fun _ _ _ _ _ => (pe_cf (c_ratio_of.mono (by decide)) hr (by rfl) (pa_cons (pv 1) pa_nil)))) pa_nil))))), ?_⟩
    rintro m dl r ⟨xs, rfl, ⟨hx, hl⟩, rfl⟩
    refine sd_then (sd_ifF (et_notT (et_B (ev_call (ea_cons (ev_var rfl) ea_nil) ⟨xs, rfl, ⟨hx, hl⟩, rfl⟩))) (sd_next rfl)) ?_
    refine sd_ret (ev_call (dl := [rl (xs.map ratOf)]) (ea_cons ((EvO.dd (eo_mapG (f := id) (g := fun d => ratD (ratOf d)) ((ev_var rfl).to (by rw [List.map_id])) (by omega) fun d hd => ev_call (ea_cons (ev_var rfl) ea_nil) ⟨d, rfl, hx d hd, rfl⟩)).to ?_) ea_nil) ⟨_, rfl, by rw [List.length_map]; omega, rfl⟩) rfl
    rw [rl_eq, List.map_map] <;> rfl

theorem sc_sum_of : FnScope ["one", "other", "near", "far", "at"] ["one", "other"] (defScope s_sum_of) := ⟨rfl, rfl, rfl, by decide +kernel, rfl, by decide +kernel, by decide +kernel⟩
def pSumOf : List Dat → Dat → Prop := fun dl r => ∃ (one other : List (Int × Int)) (n k : Nat), dl = [rl one, rl other] ∧ (RtL n one ∧ RtL k other ∧ n + k ≤ 8800 ∧ one.length ≤ 1000 ∧ other.length ≤ 1000) ∧ r = rl (sumR one other)
theorem ok_sum_of {P : Program} {w : World} {K : PySem.W.Frag} {mg : Str → Option Value} {base : Heap} (T : Txt K mg) (c_Ratio_add : Fok P w K mg base 4 (d_Ratio_add.adr K) (spD K pAddR)) (c_trimmed : Cal P w K mg base 1 "trimmed" (spD K pTrimmed)) : Cal P w K mg base (4 + 1) "sum_of" (spD K pSumOf) := by
  refine ⟨?_, T.g_sum_of, (T.d_sum_of).elim fun _ F => F.kp⟩
  refine fn_d (d := d_sum_of) (k := 4) (T.d_sum_of) sc_sum_of (fun _ _ _ _ _ _ us hl => match us, hl with | [_, _], _ => rfl) ?_ ?_
  · rintro dl r ⟨_, _, _, _, rfl, _⟩; rfl
  · intro cdv A outer s H E hr
    refine ⟨_, (pss_cons (ps_asg (pe_ifExp (pt_cmpR op_ge (pe_callB call_len_seq (by rfl) T.b_len (by decide +kernel) (pa_cons (pv 0) pa_nil)) (pe_callB call_len_seq (by rfl) T.b_len (by decide +kernel) (pa_cons (pv 1) pa_nil)) (nomark _)) (pe_tup (pa_cons (pv 0) (pa_cons (pv 1) pa_nil))) (pe_tup (pa_cons (pv 1) (pa_cons (pv 0) pa_nil)))) (pg_tup rfl (pgs_cons (pg_name (i := 2) sc_sum_of.nd rfl (.inr rfl)) (pgs_cons (pg_name (i := 3) sc_sum_of.nd rfl (.inr rfl)) pgs_nil))))
      (pss_one (ps_ret (pe_cf (c_trimmed.mono (by decide)) hr (by rfl) (pa_cons (pe_lc (own := [("at", 4)]) (g := (gName 4)) (tt := tYes) (te := (tIf (tTest (tOp (rI0 fun i j => .bl (decide (i < j))) (tVar 4) (tCB (rLenS K) (tCons (tVar 3) tNil)))) (tOp (rOwn K "Ratio" (spD K pAddR)) (tOp (rIxL K) (tVar 2) (tVar 4)) (tOp (rIxL K) (tVar 3) (tVar 4))) (tOp (rIxL K) (tVar 2) (tVar 4)))) rfl sc_sum_of.nd (pi_range1 (by rfl) T.b_range (pa_cons (pe_callB call_len_seq (by rfl) T.b_len (by decide +kernel) (pa_cons (pv 2) pa_nil)) pa_nil)) (blkOk_by (own := [("at", 4)]) (N := ["one", "other", "near", "far", "at"]) (sc := defScope s_sum_of) (by decide +kernel)) (fun _ _ _ _ _ => (pg_name (i := 4) sc_sum_of.nd rfl (Or.inl rfl))) (fun _ _ _ _ _ => pts_nil) (fun _ _ _ _ _ => (pe_ifExp (pt_cmpR op_lt (pv 4) (pe_callB call_len_seq (by rfl) T.b_len (by decide +kernel) (pa_cons (pv 3) pa_nil)) (nomark _)) (pe_op (op_ownR (op := .Add) T.x_first T.m_Ratio_add (c_Ratio_add.mono (by decide)) hr) (pe_ix ix_list (pv 2) (pv 4) (fun _ _ => rfl)) (pe_ix ix_list (pv 3) (pv 4) (fun _ _ => rfl))) (pe_ix ix_list (pv 2) (pv 4) (fun _ _ => rfl))))) pa_nil))))), ?_⟩
    rintro m dl r ⟨one, other, n, k, rfl, ⟨h1, h2, hz, l1, l2⟩, rfl⟩
    obtain ⟨near, far, n', k', ep, g1, g2, gz, gl, gl2⟩ : ∃ (near far : List (Int × Int)) (n' k' : Nat), (if other.length ≤ one.length then (one, other) else (other, one)) = (near, far) ∧ RtL n' near ∧ RtL k' far ∧ n' + k' ≤ 8800 ∧ far.length ≤ near.length ∧ near.length ≤ 1000 := by
      by_cases c : other.length ≤ one.length
      · exact ⟨one, other, n, k, if_pos c, h1, h2, hz, c, l1⟩
      · exact ⟨other, one, k, n, if_neg c, h2, h1, by omega, by omega, l2⟩
    refine sd_then (sd_unp (is := [2, 3]) (dl := [rl near, rl far]) (ev_ifC (c := other.length ≤ one.length) ((et_test (ev_op (ev_len (ev_var rfl)) (ev_len (ev_var rfl)) rv_bl)).to ?_) (fun c => ?_) (fun c => ?_)) rfl rfl rfl) ?_
    · simp only [List.length_map]; exact decide_eq_decide.mpr (by omega)
    · rw [if_pos c] at ep; cases ep; exact ev_tup (ea_cons (ev_var rfl) (ea_cons (ev_var rfl) ea_nil)) (by simp)
    · rw [if_neg c] at ep; cases ep; exact ev_tup (ea_cons (ev_var rfl) (ea_cons (ev_var rfl) ea_nil)) (by simp)
    have es : sumR one other = trimR (near.mapIdx fun i x => match far[i]? with | some y => addR x y | none => x) := by unfold sumR; rw [ep] <;> rfl
    rw [es]
    refine sd_ret (ev_call (dl := [rl (near.mapIdx fun i x => match far[i]? with | some y => addR x y | none => x)]) (ea_cons ((EvO.dd (eo_rng (n := near.length) (y := fun i => ratD (match near[i]?, far[i]? with | some x, some y => addR x y | some x, none => x | _, _ => (0, 1))) (ea_cons ((ev_len (ev_var rfl)).to (by rw [List.length_map])) ea_nil) (by omega) fun i hi => ?_)).to ?_) ea_nil) ⟨_, rfl, by rw [List.length_mapIdx]; omega, rfl⟩) rfl
    · have ex : near[i]? = some near[i] := List.getElem?_eq_getElem hi
      refine ev_ifC (c := i < far.length) ((et_test (ev_op (ev_var rfl) (ev_len (ev_var rfl)) rv_bl)).to (by simp only [List.length_map]; exact decide_eq_decide.mpr (by omega))) (fun c => ?_) (fun c => ?_)
      · have ey : far[i]? = some far[i] := List.getElem?_eq_getElem c
        simp only [ex, ey]
        exact ev_op (ev_op (ev_var rfl) (ev_var rfl) (rv_ixL (at_rat ex))) (ev_op (ev_var rfl) (ev_var rfl) (rv_ixL (at_rat ey))) (rv_own ⟨near[i], ratD far[i], n', k', rfl, ⟨.inr ⟨_, _, rfl⟩, g1 _ (List.getElem_mem _), g2 _ (List.getElem_mem _), gz⟩, rfl⟩)
      · have ey : far[i]? = none := List.getElem?_eq_none (by omega)
        simp only [ex, ey]
        exact ev_op (ev_var rfl) (ev_var rfl) (rv_ixL (at_rat ex))
    · rw [rl_eq, ← mapIdx_range near _ (fun i => match near[i]?, far[i]? with | some x, some y => addR x y | some x, none => x | _, _ => (0, 1)) fun i x e => ?_, List.map_map]
      · rfl
      · simp only [e]
        cases far[i]? <;> rfl

theorem sc_by_number : FnScope ["poly", "ratio", "number"] ["poly", "ratio"] (defScope s_by_number) := ⟨rfl, rfl, rfl, by decide +kernel, rfl, by decide +kernel, by decide +kernel⟩
def pByNumber : List Dat → Dat → Prop := fun dl r => ∃ (l : List (Int × Int)) (x : Int × Int) (n k : Nat), dl = [rl l, ratD x] ∧ (RtL n l ∧ Rt k x ∧ n + k ≤ 8800 ∧ l.length ≤ 1000) ∧ r = rl (byR l x)
theorem ok_by_number {P : Program} {w : World} {K : PySem.W.Frag} {mg : Str → Option Value} {base : Heap} (T : Txt K mg) (c_Ratio_mul : Fok P w K mg base 4 (d_Ratio_mul.adr K) (spD K pMulR)) (c_trimmed : Cal P w K mg base 1 "trimmed" (spD K pTrimmed)) : Cal P w K mg base (4 + 1) "by_number" (spD K pByNumber) := by
  refine ⟨?_, T.g_by_number, (T.d_by_number).elim fun _ F => F.kp⟩
  refine fn_d (d := d_by_number) (k := 4) (T.d_by_number) sc_by_number (fun _ _ _ _ _ _ us hl => match us, hl with | [_, _], _ => rfl) ?_ ?_
  · rintro dl r ⟨_, _, _, _, rfl, _⟩; rfl
  · intro cdv A outer s H E hr
    refine ⟨_, (pss_one (ps_ret (pe_cf (c_trimmed.mono (by decide)) hr (by rfl) (pa_cons (pe_lc (own := [("number", 2)]) (g := (gName 2)) (tt := tYes) (te := (tOp (rOwn K "Ratio" (spD K pMulR)) (tVar 2) (tVar 1))) rfl sc_by_number.nd (pi_list (pv 0)) (blkOk_by (own := [("number", 2)]) (N := ["poly", "ratio", "number"]) (sc := defScope s_by_number) (by decide +kernel)) (fun _ _ _ _ _ => (pg_name (i := 2) sc_by_number.nd rfl (Or.inl rfl))) (fun _ _ _ _ _ => pts_nil) (fun _ _ _ _ _ => (pe_op (op_ownR (op := .Mult) T.x_first T.m_Ratio_mul (c_Ratio_mul.mono (by decide)) hr) (pv 2) (pv 1)))) pa_nil)))), ?_⟩
    rintro m dl r ⟨l, x, n, k, rfl, ⟨h1, h2, hz, hl⟩, rfl⟩
    refine sd_ret (ev_call (dl := [rl (l.map (mulR · x))]) (ea_cons ((EvO.dd (eo_mapG (f := ratD) (g := fun r => ratD (mulR r x)) (ev_var rfl) (by omega) fun r hr => ev_op (ev_var rfl) (ev_var rfl) (rv_own ⟨r, ratD x, n, k, rfl, ⟨.inr ⟨_, _, rfl⟩, h1 r hr, h2, hz⟩, rfl⟩))).to ?_) ea_nil) ⟨_, rfl, by rw [List.length_map]; omega, rfl⟩) rfl
    rw [rl_eq, List.map_map] <;> rfl

theorem sc_less_of : FnScope ["one", "other"] ["one", "other"] (defScope s_less_of) := ⟨rfl, rfl, rfl, by decide +kernel, rfl, by decide +kernel, by decide +kernel⟩
def pLessOf : List Dat → Dat → Prop := fun dl r => ∃ (one other : List (Int × Int)) (n k : Nat), dl = [rl one, rl other] ∧ (RtL n one ∧ RtL k other ∧ n + k ≤ 8000 ∧ one.length ≤ 1000 ∧ other.length ≤ 1000) ∧ r = rl (lessR one other)
theorem ok_less_of {P : Program} {w : World} {K : PySem.W.Frag} {mg : Str → Option Value} {base : Heap} (T : Txt K mg) (c_mk_Ratio1 : MkC P w K mg base 2 "Ratio" (spW K "Ratio" pRInit) [.int 1]) (c_by_number : Cal P w K mg base 5 "by_number" (spD K pByNumber)) (c_sum_of : Cal P w K mg base 5 "sum_of" (spD K pSumOf)) : Cal P w K mg base (5 + 1) "less_of" (spD K pLessOf) := by
  refine ⟨?_, T.g_less_of, (T.d_less_of).elim fun _ F => F.kp⟩
  refine fn_d (d := d_less_of) (k := 5) (T.d_less_of) sc_less_of (fun _ _ _ _ _ _ us hl => match us, hl with | [_, _], _ => rfl) ?_ ?_
  · rintro dl r ⟨_, _, _, _, rfl, _⟩; rfl
  · intro cdv A outer s H E hr
    refine ⟨_, (pss_one (ps_ret (pe_cf (c_sum_of.mono (by decide)) hr (by rfl) (pa_cons (pv 0) (pa_cons (pe_cf (c_by_number.mono (by decide)) hr (by rfl) (pa_cons (pv 1) (pa_cons (pe_mkC (c_mk_Ratio1.mono (by decide)) hr (by rfl) (pa_cons (pe_un un_neg pe_int) pa_nil)) pa_nil))) pa_nil))))), ?_⟩
    rintro m dl r ⟨one, other, n, k, rfl, ⟨h1, h2, hz, l1, l2⟩, rfl⟩
    have hm : Rt 1 (rN (-1) 1) := rN_bt (by decide) (by unfold Bt; decide) (by unfold Bt; decide)
    have bl : (byR other (rN (-1) 1)).length ≤ 1000 := by
      have := trimR_len (other.map (mulR · (rN (-1) 1)))
      rw [List.length_map] at this
      unfold byR
      omega
    exact sd_ret (ev_call (ea_cons (ev_var rfl) (ea_cons (ev_call (ea_cons (ev_var rfl) (ea_cons (ev_ratio1 (ea_cons (ev_neg ev_int) ea_nil)) ea_nil)) ⟨other, _, k, 1, rfl, ⟨h2, hm, by omega, l2⟩, rfl⟩) ea_nil)) ⟨one, _, n, k + 1, rfl, ⟨h1, byR_rt h2 hm, by omega, l1, bl⟩, rfl⟩) rfl

theorem sc_int_product : FnScope ["near", "far", "found", "at", "left", "to", "right"] ["near", "far"] (defScope s_int_product) := ⟨rfl, rfl, rfl, by decide +kernel, rfl, by decide +kernel, by decide +kernel⟩
def pIntProd : List Dat → Dat → Prop := fun dl r => ∃ (one other : List Int) (n k : Nat), dl = [il one, il other] ∧ (one ≠ [] ∧ other ≠ [] ∧ BtL n one ∧ BtL k other ∧ n + k ≤ 20000 ∧ one.length ≤ 1000 ∧ other.length ≤ 1000) ∧ r = il (rawMul one other)
theorem ok_int_product {P : Program} {w : World} {K : PySem.W.Frag} {mg : Str → Option Value} {base : Heap} (T : Txt K mg) : Cal P w K mg base (0 + 1) "int_product" (spD K pIntProd) := by
  refine ⟨?_, T.g_int_product, (T.d_int_product).elim fun _ F => F.kp⟩
  refine fn_d (d := d_int_product) (k := 0) (T.d_int_product) sc_int_product (fun _ _ _ _ _ _ us hl => match us, hl with | [_, _], _ => rfl) ?_ ?_
  · rintro dl r ⟨_, _, _, _, rfl, _⟩; rfl
  · intro cdv A outer s H E hr
    refine ⟨_, (pss_cons (ps_setLc (i := 2) (own := [("at", 3)]) (g := (gName 3)) (tt := tYes) (te := (tC (.int 0))) rfl sc_int_product.nd rfl rfl (sw_true rfl rfl rfl (by decide +kernel)) (pi_range1 (by rfl) T.b_range (pa_cons (pe_op op_sub (pe_op op_add (pe_callB call_len_seq (by rfl) T.b_len (by decide +kernel) (pa_cons (pv 0) pa_nil)) (pe_callB call_len_seq (by rfl) T.b_len (by decide +kernel) (pa_cons (pv 1) pa_nil))) pe_int) pa_nil)) (blkOk_by (own := [("at", 3)]) (N := ["near", "far", "found", "at", "left", "to", "right"]) (sc := defScope s_int_product) (by decide +kernel)) (fun _ _ _ _ _ => (pg_name (i := 3) sc_int_product.nd rfl (Or.inl rfl))) (fun _ _ _ _ _ => pts_nil) (fun _ _ _ _ _ => pe_int))
      (pss_cons (ps_for PassesOwn.never rfl (pi_enum (by rfl) T.b_enumerate (pa_cons (pv 0) pa_nil)) (pg_tup rfl (pgs_cons (pg_name (i := 3) sc_int_product.nd rfl (.inl rfl)) (pgs_cons (pg_name (i := 4) sc_int_product.nd rfl (.inl rfl)) pgs_nil)))
        (pss_one (ps_if (pt_cmpR op_ne (pv 4) pe_int (nomark _))
          (pss_one (ps_for PassesOwn.never rfl (pi_enum (by rfl) T.b_enumerate (pa_cons (pv 1) pa_nil)) (pg_tup rfl (pgs_cons (pg_name (i := 5) sc_int_product.nd rfl (.inl rfl)) (pgs_cons (pg_name (i := 6) sc_int_product.nd rfl (.inl rfl)) pgs_nil)))
            (pss_one (ps_asg (pe_op op_add (pe_ix ix_list (pv 2) (pe_op op_add (pv 3) (pv 5)) (fun _ _ => rfl)) (pe_op op_mulW (pv 4) (pv 6))) (pg_sub (pv 2) (pe_op op_add (pv 3) (pv 5)) set_list)))))
          pss_nil)))
      (pss_one (ps_ret (pv 2))))), ?_⟩
    rintro m dl r ⟨one, other, n, k, rfl, ⟨c1, c2, b1, b2, hz, h1, h2⟩, rfl⟩
    have l1 : 0 < one.length := List.length_pos_iff.mpr c1
    have l2 : 0 < other.length := List.length_pos_iff.mpr c2
    refine sd_then (sd_own ((eo_rng (n := one.length + other.length - 1) (y := fun _ => .int 0) (ea_cons ((ev_op (ev_op (ev_len (ev_var rfl)) (ev_len (ev_var rfl)) rv_int) ev_int rv_int).to ?_) ea_nil) (by omega) fun i hi => ev_int).to (ys := (zeros (one.length + other.length - 1)).map Dat.int) ?_) rfl) ?_
    · simp only [List.length_map]; congr 1; omega
    · rw [zeros, List.map_replicate, List.map_const', List.length_range]
    refine sd_seq (M := fun d => ∃ sa sb r r2 : Sv, d = [.dat (il one), .dat (il other), .own ((rawMul one other).map Dat.int), sa, sb, r, r2]) (sd_rows (G := fun n a b => a + n * b) (one := one) (other := other) (zs := zeros (one.length + other.length - 1)) (fun sa sb o r => [.dat (il one), .dat (il other), .own o, sa, sb] ++ r) rfl (ea_cons (ev_var rfl) ea_nil) (fun _ _ _ _ _ _ => rfl) (fun r => ∃ a b, r = [a, b]) ⟨_, _, rfl⟩ ?_ ?_) ?_
    · rintro i x acc r ⟨ra, rb, rfl⟩ ex hi ea
      have hx := (b1 x (List.mem_of_getElem? ex)).log
      by_cases c2 : x = 0
      · subst c2
        refine sd_ifF ((et_test (ev_op (ev_var rfl) ev_int rv_ne)).nay rfl) (sd_next ⟨_, ⟨ra, rb, rfl⟩, ?_⟩)
        rw [updS_id (fun a b => by omega)] <;> rfl
      · refine sd_ifT ((et_test (ev_op (ev_var rfl) ev_int rv_ne)).yes (by simp [c2])) ?_
        refine sd_enum (s := i) (F := fun a b => a + x * b) (ys := other) (xs := acc) (fun sa sb o => [.dat (il one), .dat (il other), .own o, .dat (.int i), .dat (.int x), sa, sb]) rfl (ea_cons (ev_var rfl) ea_nil) (fun _ _ _ _ _ => rfl) ?_ ?_ fun sa sb => ⟨_, ⟨sa, sb, rfl⟩, rfl⟩
        · right; rw [ea, mulAcc_len]; simp [zeros]; omega
        · intro j a b zs eb exa ez hl
          have hb := (b2 b (List.mem_of_getElem? eb)).log
          have hj : i + j < zs.length := (List.getElem?_eq_some_iff.mp ez).1
          have eidx : ∀ ds2 : Ds, ds2[3]? = some (.dat (.int (i : Int))) → ds2[5]? = some (.dat (.int (j : Int))) → EvD m K (tOp (rI0 fun i j => .int (i + j)) (tVar 3) (tVar 5)) ds2 (.int ((i + j : Nat) : Int)) := fun ds2 q1 q2 => (ev_op (ev_var q1) (ev_var q2) rv_int).to (by simp)
          refine sd_store (i := 2) (j := i + j) rfl (ev_op (ev_ixO rfl (eidx _ rfl rfl) (at_int ez)) (ev_op (ev_var rfl) (ev_var rfl) (rv_intC (by show _ + _ < 1000000; omega))) rv_int) (eidx _ rfl rfl) (by rw [List.length_map]; exact hj) ?_
          rw [set_int] <;> rfl
    · rintro sa sb r ⟨ra, rb, rfl⟩
      exact ⟨sa, sb, ra, rb, rfl⟩
    · rintro d ⟨sa, sb, ra, rb, rfl⟩
      exact sd_freeze (i := 2) rfl (sd_ret (ev_var rfl) rfl)

theorem sc_product_of : FnScope ["one", "other", "low", "near", "deep", "far", "top"] ["one", "other"] (defScope s_product_of) := ⟨rfl, rfl, rfl, by decide +kernel, rfl, by decide +kernel, by decide +kernel⟩
def pProdOf : List Dat → Dat → Prop := fun dl r => ∃ (one other : List (Int × Int)) (n k : Nat), dl = [rl one, rl other] ∧ (RtL n one ∧ RtL k other ∧ n + n * one.length ≤ 4000 ∧ k + k * other.length ≤ 4000 ∧ one.length ≤ 64 ∧ other.length ≤ 64) ∧ r = rl (prodR one other)
theorem ok_product_of {P : Program} {w : World} {K : PySem.W.Frag} {mg : Str → Option Value} {base : Heap} (T : Txt K mg) (c_wholes : Cal P w K mg base 1 "wholes" (spD K pWholes)) (c_int_product : Cal P w K mg base 1 "int_product" (spD K pIntProd)) (c_mk_Ratio : MkC P w K mg base 2 "Ratio" (spW K "Ratio" pRInit) []) : Cal P w K mg base (3 + 1) "product_of" (spD K pProdOf) := by
  refine ⟨?_, T.g_product_of, (T.d_product_of).elim fun _ F => F.kp⟩
  refine fn_d (d := d_product_of) (k := 3) (T.d_product_of) sc_product_of (fun _ _ _ _ _ _ us hl => match us, hl with | [_, _], _ => rfl) ?_ ?_
  · rintro dl r ⟨_, _, _, _, rfl, _⟩; rfl
  · intro cdv A outer s H E hr
    refine ⟨_, (pss_cons (ps_if (PW.pt (pw_or (pt_cmpR op_eq (pe_callB call_len_seq (by rfl) T.b_len (by decide +kernel) (pa_cons (pv 0) pa_nil)) pe_int (nomark _)) (pw_or1 (pt_cmpR op_eq (pe_callB call_len_seq (by rfl) T.b_len (by decide +kernel) (pa_cons (pv 1) pa_nil)) pe_int (nomark _)))))
        (pss_one (ps_ret (pe_lst pa_nil)))
        pss_nil)
      (pss_cons (ps_asg (pe_cf (c_wholes.mono (by decide)) hr (by rfl) (pa_cons (pv 0) pa_nil)) (pg_tup rfl (pgs_cons (pg_name (i := 2) sc_product_of.nd rfl (.inr rfl)) (pgs_cons (pg_name (i := 3) sc_product_of.nd rfl (.inl rfl)) pgs_nil))))
      (pss_cons (ps_asg (pe_cf (c_wholes.mono (by decide)) hr (by rfl) (pa_cons (pv 1) pa_nil)) (pg_tup rfl (pgs_cons (pg_name (i := 4) sc_product_of.nd rfl (.inr rfl)) (pgs_cons (pg_name (i := 5) sc_product_of.nd rfl (.inl rfl)) pgs_nil))))
      (pss_one (ps_ret (pe_lc (own := [("top", 6)]) (g := (gName 6)) (tt := tYes) (te := (tMake (He.ga K "Ratio") (spW K "Ratio" pRInit) [] E0 (tCons (tVar 6) (tCons (tOp (rI CMulW fun i j => .int (i * j)) (tVar 2) (tVar 4)) tNil)))) rfl sc_product_of.nd (pi_list (pe_cf (c_int_product.mono (by decide)) hr (by rfl) (pa_cons (pv 3) (pa_cons (pv 5) pa_nil)))) (blkOk_by (own := [("top", 6)]) (N := ["one", "other", "low", "near", "deep", "far", "top"]) (sc := defScope s_product_of) (by decide +kernel)) (fun _ _ _ _ _ => (pg_name (i := 6) sc_product_of.nd rfl (Or.inl rfl))) (fun _ _ _ _ _ => pts_nil) (fun _ _ _ _ _ => (pe_mkC (c_mk_Ratio.mono (by decide)) hr (by rfl) (pa_cons (pv 6) (pa_cons (pe_op op_mulW (pv 2) (pv 4)) pa_nil)))))))))), ?_⟩
    rintro m dl r ⟨one, other, n, k, rfl, ⟨h1, h2, z1, z2, l1, l2⟩, rfl⟩
    have t1 : ∀ (l : List (Int × Int)) (i : Nat) (ds2 : Ds), ds2[i]? = some (.dat (rl l)) → EvT m K (tTest (tOp rEq (tCB (rLenS K) (tCons (tVar i) tNil)) (tC (.int 0)))) ds2 (decide (l = [])) := fun l i ds2 q => (et_test (ev_op (ev_len (ev_var q)) ev_int rv_eq)).to (decide_eq_decide.mpr (by rw [List.length_map]; exact ⟨fun q => List.eq_nil_of_length_eq_zero (by omega), fun q => by rw [q] <;> rfl⟩))
    by_cases c : one = [] ∨ other = []
    · have em : prodR one other = [] := by unfold prodR; rw [if_pos c]
      rw [em]
      refine sd_seq (M := fun _ => False) (sd_ifT ?_ (sd_ret (EvO.dd (eo_lst ea_nil (by decide))) rfl)) (fun _ h => h.elim)
      by_cases c1 : one = []
      · exact et_orT ((t1 one 0 _ rfl).yes (decide_eq_true c1))
      · exact et_orF ((t1 one 0 _ rfl).nay (decide_eq_false c1)) ((t1 other 1 _ rfl).yes (decide_eq_true (c.resolve_left c1)))
    · have em : prodR one other = (rawMul (wholesR one) (wholesR other)).map fun t => rN t (lcmR one * lcmR other) := by unfold prodR; rw [if_neg c]
      rw [em]
      have c1 : one ≠ [] := fun q => c (.inl q)
      have c2 : other ≠ [] := fun q => c (.inr q)
      refine sd_then (sd_ifF (et_orF ((t1 one 0 _ rfl).nay (decide_eq_false c1)) ((t1 other 1 _ rfl).nay (decide_eq_false c2))) (sd_next rfl)) ?_
      refine sd_then (sd_unp (is := [2, 3]) (dl := [.int (lcmR one), il (wholesR one)]) (ev_call (ea_cons (ev_var rfl) ea_nil) ⟨one, n, rfl, ⟨h1, by omega, by omega, l1⟩, rfl⟩) rfl rfl rfl) ?_
      refine sd_then (sd_unp (is := [4, 5]) (dl := [.int (lcmR other), il (wholesR other)]) (ev_call (ea_cons (ev_var rfl) ea_nil) ⟨other, k, rfl, ⟨h2, by omega, by omega, l2⟩, rfl⟩) rfl rfl rfl) ?_
      obtain ⟨a1, a2, _⟩ := lcmR_spec h1
      obtain ⟨b1, b2, _⟩ := lcmR_spec h2
      have w1 : (wholesR one).length = one.length := by unfold wholesR; rw [List.length_map]
      have w2 : (wholesR other).length = other.length := by unfold wholesR; rw [List.length_map]
      have n1 : wholesR one ≠ [] := fun q => c1 (List.eq_nil_of_length_eq_zero (by rw [← w1, q] <;> rfl))
      have n2 : wholesR other ≠ [] := fun q => c2 (List.eq_nil_of_length_eq_zero (by rw [← w2, q] <;> rfl))
      have q1 := a1.log
      have q2 := b1.log
      refine sd_ret ((EvO.dd (eo_mapG (f := Dat.int) (g := fun t => ratD (rN t (lcmR one * lcmR other))) (ev_call (ea_cons (ev_var rfl) (ea_cons (ev_var rfl) ea_nil)) ⟨wholesR one, wholesR other, _, _, rfl, ⟨n1, n2, wholesR_bt h1, wholesR_bt h2, by omega, by omega, by omega⟩, rfl⟩) (by rw [rawMul_len]; omega) fun t ht => ev_ratio (ea_cons (ev_var rfl) (ea_cons (ev_op (ev_var rfl) (ev_var rfl) (rv_intC (by show _ + _ < 1000000; omega))) ea_nil)) (Int.ne_of_gt (Int.mul_pos a2 b2)) ((a1.mul b1).mono (by omega)))).to ?_) rfl
      rw [rl_eq, List.map_map] <;> rfl

theorem sc_square_of : FnScope ["poly"] ["poly"] (defScope s_square_of) := ⟨rfl, rfl, rfl, by decide +kernel, rfl, by decide +kernel, by decide +kernel⟩
def pSquareOf : List Dat → Dat → Prop := fun dl r => ∃ (l : List (Int × Int)) (n : Nat), dl = [rl l] ∧ (RtL n l ∧ n + n * l.length ≤ 4000 ∧ l.length ≤ 64) ∧ r = rl (prodR l l)
theorem ok_square_of {P : Program} {w : World} {K : PySem.W.Frag} {mg : Str → Option Value} {base : Heap} (T : Txt K mg) (c_product_of : Cal P w K mg base 4 "product_of" (spD K pProdOf)) : Cal P w K mg base (4 + 1) "square_of" (spD K pSquareOf) := by
  refine ⟨?_, T.g_square_of, (T.d_square_of).elim fun _ F => F.kp⟩
  refine fn_d (d := d_square_of) (k := 4) (T.d_square_of) sc_square_of (fun _ _ _ _ _ _ us hl => match us, hl with | [_], _ => rfl) ?_ ?_
  · rintro dl r ⟨_, _, rfl, _⟩; rfl
  · intro cdv A outer s H E hr
    refine ⟨_, (pss_one (ps_ret (pe_cf (c_product_of.mono (by decide)) hr (by rfl) (pa_cons (pv 0) (pa_cons (pv 0) pa_nil))))), ?_⟩
    rintro m dl r ⟨l, n, rfl, ⟨h1, z1, l1⟩, rfl⟩
    exact sd_ret (ev_call (ea_cons (ev_var rfl) (ea_cons (ev_var rfl) ea_nil)) ⟨l, l, n, n, rfl, ⟨h1, h1, z1, z1, l1, l1⟩, rfl⟩) rfl

theorem sc_slope_of : FnScope ["poly", "at"] ["poly"] (defScope s_slope_of) := ⟨rfl, rfl, rfl, by decide +kernel, rfl, by decide +kernel, by decide +kernel⟩
def pSlopeOf : List Dat → Dat → Prop := fun dl r => ∃ (l : List (Int × Int)) (n : Nat), dl = [rl l] ∧ (RtL n l ∧ n ≤ 8000 ∧ l.length ≤ 64) ∧ r = rl (slopeR l)
theorem ok_slope_of {P : Program} {w : World} {K : PySem.W.Frag} {mg : Str → Option Value} {base : Heap} (T : Txt K mg) (c_Ratio_mul : Fok P w K mg base 4 (d_Ratio_mul.adr K) (spD K pMulR)) : Cal P w K mg base (4 + 1) "slope_of" (spD K pSlopeOf) := by
  refine ⟨?_, T.g_slope_of, (T.d_slope_of).elim fun _ F => F.kp⟩
  refine fn_d (d := d_slope_of) (k := 4) (T.d_slope_of) sc_slope_of (fun _ _ _ _ _ _ us hl => match us, hl with | [_], _ => rfl) ?_ ?_
  · rintro dl r ⟨_, _, rfl, _⟩; rfl
  · intro cdv A outer s H E hr
    refine ⟨_, (pss_one (ps_ret (pe_lc (own := [("at", 1)]) (g := (gName 1)) (tt := tYes) (te := (tOp (rOwnI K "Ratio" (spD K pMulR)) (tOp (rIxL K) (tVar 0) (tVar 1)) (tVar 1))) rfl sc_slope_of.nd (pi_range2 (by rfl) T.b_range (pa_cons pe_int (pa_cons (pe_callB call_len_seq (by rfl) T.b_len (by decide +kernel) (pa_cons (pv 0) pa_nil)) pa_nil))) (blkOk_by (own := [("at", 1)]) (N := ["poly", "at"]) (sc := defScope s_slope_of) (by decide +kernel)) (fun _ _ _ _ _ => (pg_name (i := 1) sc_slope_of.nd rfl (Or.inl rfl))) (fun _ _ _ _ _ => pts_nil) (fun _ _ _ _ _ => (pe_op (op_ownI (op := .Mult) T.x_first T.m_Ratio_mul T.x_rmul (.inr ⟨_, rfl⟩) T.x_imul.1.choose_spec T.x_imul.2.choose_spec T.x_sub (c_Ratio_mul.mono (by decide)) hr) (pe_ix ix_list (pv 0) (pv 1) (fun _ _ => rfl)) (pv 1)))))), ?_⟩
    rintro m dl r ⟨l, n, rfl, ⟨h1, z1, l1⟩, rfl⟩
    refine sd_ret ((EvO.dd (eo_rng2 (n := l.length - 1) (a := 1) (b := (l.length : Int)) (y := fun i => match l[i + 1]? with | some x => ratD (mulR x (((i + 1 : Nat) : Int), 1)) | none => .non) (ea_cons ev_int (ea_cons ((ev_len (ev_var rfl)).to (by rw [List.length_map])) ea_nil)) (by omega) (by omega) (by omega) fun i hi => ?_)).to ?_) rfl
    · have ex : l[i + 1]? = some l[i + 1] := List.getElem?_eq_getElem (by omega)
      simp only [ex]
      have ei : (1 + (i : Int)) = ((i + 1 : Nat) : Int) := by omega
      rw [ei]
      refine ev_op (ev_op (ev_var rfl) (ev_var rfl) (rv_ixL (at_rat ex))) (ev_var rfl) (rv_ownI ⟨l[i + 1], .int ((i + 1 : Nat) : Int), n, 6, rfl, ⟨.inl ⟨_, rfl⟩, h1 _ (List.getElem_mem _), ⟨?_, by show (1:Int).natAbs < 2 ^ 6; decide, by show (0:Int) < 1; decide⟩, by omega⟩, rfl⟩)
      show (((i + 1 : Nat) : Int)).natAbs < 2 ^ 6
      omega
    · rw [rl_eq]
      congr 1
      unfold slopeR
      apply List.ext_getElem?
      intro i
      by_cases hi : i < l.length - 1
      · have ex : l[i + 1]? = some l[i + 1] := List.getElem?_eq_getElem (by omega)
        rw [List.getElem?_map, List.getElem?_range hi, List.getElem?_map, List.getElem?_drop, List.getElem?_mapIdx, show 1 + i = i + 1 from by omega, ex]
        simp only [Option.map_some, ex]
      · rw [List.getElem?_eq_none (by simp; omega), List.getElem?_eq_none (by simp; omega)]

end RR
/-! ### RW7 -/
namespace RR
open PySem PySem.Spec PyProof.Rows L2 Evl

theorem sc_plain_row : FnScope ["numbers", "many", "common", "number"] ["numbers"] (defScope s_plain_row) := ⟨rfl, rfl, rfl, by decide +kernel, rfl, by decide +kernel, by decide +kernel⟩
def pPlain : List Dat → Dat → Prop := fun dl r => ∃ (l : List Int) (n : Nat), dl = [il l] ∧ (BtL n l ∧ n ≤ 8800 ∧ l.length ≤ 1000) ∧ r = il (plainR l)
theorem ok_plain_row {P : Program} {w : World} {K : PySem.W.Frag} {mg : Str → Option Value} {base : Heap} (T : Txt K mg) (c_common_part : Cal P w K mg base 1 "common_part" (spD K pGcd)) : Cal P w K mg base (1 + 1) "plain_row" (spD K pPlain) := by
  refine ⟨?_, T.g_plain_row, (T.d_plain_row).elim fun _ F => F.kp⟩
  refine fn_d (d := d_plain_row) (k := 1) (T.d_plain_row) sc_plain_row (fun _ _ _ _ _ _ us hl => match us, hl with | [_], _ => rfl) ?_ ?_
  · rintro dl r ⟨_, _, rfl, _⟩; rfl
  · intro cdv A outer s H E hr
    refine ⟨_, (pss_cons (ps_asg (pe_tup (pa_cons (pe_callB call_len_seq (by rfl) T.b_len (by decide +kernel) (pa_cons (pv 0) pa_nil)) (pa_cons pe_int pa_nil))) (pg_tup rfl (pgs_cons (pg_name (i := 1) sc_plain_row.nd rfl (.inl rfl)) (pgs_cons (pg_name (i := 2) sc_plain_row.nd rfl (.inr rfl)) pgs_nil))))
      (pss_cons (ps_while PassesOwn.never (PW.pt (pw_and (pt_cmpR op_gt (pv 1) pe_int (nomark _)) (pw_and1 (pt_cmpR op_eq (pe_ix ix_list (pv 0) (pe_op op_sub (pv 1) pe_int) (fun _ _ => rfl)) pe_int (nomark _)))))
        (pss_one (ps_set (i := 1) sc_plain_row.nd rfl (.inl rfl) (pe_op op_sub (pv 1) pe_int))))
      (pss_cons (ps_for PassesOwn.never rfl (pi_list (pe_slice sl_list (pv 0) po_none (po_some (pv 1)))) (pg_name (i := 3) sc_plain_row.nd rfl (.inl rfl))
        (pss_one (ps_set (i := 2) sc_plain_row.nd rfl (.inr rfl) (pe_cf (c_common_part.mono (by decide)) hr (by rfl) (pa_cons (pv 2) (pa_cons (pv 3) pa_nil))))))
      (pss_one (ps_ret (pe_lc (own := [("number", 3)]) (g := (gName 3)) (tt := tYes) (te := (tOp (rI CDivA fun i j => .int (i.fdiv j)) (tVar 3) (tVar 2))) rfl sc_plain_row.nd (pi_list (pe_slice sl_list (pv 0) po_none (po_some (pv 1)))) (blkOk_by (own := [("number", 3)]) (N := ["numbers", "many", "common", "number"]) (sc := defScope s_plain_row) (by decide +kernel)) (fun _ _ _ _ _ => (pg_name (i := 3) sc_plain_row.nd rfl (Or.inl rfl))) (fun _ _ _ _ _ => pts_nil) (fun _ _ _ _ _ => (pe_op op_fdivA (pv 3) (pv 2))))))))), ?_⟩
    rintro m dl r ⟨l, n, rfl, ⟨hb, hn, hl⟩, rfl⟩
    refine sd_then (sd_unp (is := [1, 2]) (dl := [.int (l.length : Int), .int 0]) (ev_tup (ea_cons ((ev_len (ev_var rfl)).to (by rw [List.length_map])) (ea_cons ev_int ea_nil)) (by simp)) rfl rfl rfl) ?_
    refine sd_seq (M := fun d => ∃ (k : Nat), d = [.dat (il l), .dat (.int (k : Int)), .dat (.int 0), .no] ∧ l.take k = trim l) (sd_while (fun k ds' => ds' = [.dat (il l), .dat (.int (k : Int)), .dat (.int 0), .no] ∧ trim (l.take k) = trim l ∧ k ≤ l.length) l.length ⟨rfl, by rw [List.take_length], Nat.le_refl _⟩ ?_) ?_
    · rintro k ds' ⟨rfl, e, hk⟩
      by_cases c : 0 < k
      · have ex : l[k - 1]? = some l[k - 1] := List.getElem?_eq_getElem (by omega)
        have et : l.take k = l.take (k - 1) ++ [l[k - 1]] := by
          conv => lhs; rw [show k = (k - 1) + 1 from by omega]
          rw [List.take_add_one, ex] <;> rfl
        have tst : EvT m K (tTest (tOp rEq (tOp (rIxL K) (tVar 0) (tOp (rI0 fun i j => .int (i - j)) (tVar 1) (tC (.int 1)))) (tC (.int 0)))) [.dat (il l), .dat (.int (k : Int)), .dat (.int 0), .no] (decide (l[k - 1] = 0)) :=
          et_test (ev_op (ev_op (ev_var rfl) ((ev_op (ev_var rfl) ev_int rv_int).to (d' := .int ((k - 1 : Nat) : Int)) (by congr 1; omega)) (rv_ixL (at_int ex))) ev_int rv_eq)
        by_cases c2 : l[k - 1] = 0
        · refine ⟨true, et_andT ((et_test (ev_op (ev_var rfl) ev_int rv_bl)).yes (decide_eq_true (by omega))) (tst.yes (decide_eq_true c2)), fun _ => ?_, (fun h => by cases h)⟩
          exact sd_set (d := .int ((k - 1 : Nat) : Int)) ((ev_op (ev_var rfl) ev_int rv_int).to (by congr 1; omega)) ⟨k - 1, by omega, rfl, by rw [← e, et, c2, trim_zero], by omega⟩
        · refine ⟨false, et_andT ((et_test (ev_op (ev_var rfl) ev_int rv_bl)).yes (decide_eq_true (by omega))) (tst.nay (decide_eq_false c2)), (fun h => by cases h), fun _ => ?_⟩
          exact ⟨k, rfl, by rw [← e, et, trim_app c2]⟩
      · refine ⟨false, et_andF ((et_test (ev_op (ev_var rfl) ev_int rv_bl)).nay (decide_eq_false (by omega))), (fun h => by cases h), fun _ => ?_⟩
        have ek : k = 0 := by omega
        subst ek
        exact ⟨0, rfl, by rw [← e] <;> rfl⟩
    · rintro d ⟨k, rfl, e⟩
      have slc : ∀ ds2 : Ds, ds2[0]? = some (.dat (il l)) → ds2[1]? = some (.dat (.int (k : Int))) → EvD m K (tSl (rSlL K) (tVar 0) tNoPart (tPart (tVar 1))) ds2 (il (trim l)) := fun ds2 q1 q2 => (EvO.dd (eo_slice (lo := none) (hi := some (k : Int)) (ev_var q1) ep_none (ep_some (ev_var q2)))).to (by rw [cutD_take, e])
      have tl := trim_len l
      have gcd0 : ∀ i x, (trim l)[i]? = some x → gcdL ((trim l).take (i + 1)) = (Nat.gcd (gcdL ((trim l).take i)).natAbs x.natAbs : Nat) := fun i x ex => by
        rw [List.take_add_one, ex]
        exact gcdL_app _ _
      refine sd_seq (M := fun d => ∃ sa, d = [.dat (il l), .dat (.int (k : Int)), .dat (.int (gcdL (trim l))), sa]) (sd_for (it_list (slc _ rfl rfl)) (fun i ds' => ∃ sa, ds' = [.dat (il l), .dat (.int (k : Int)), .dat (.int (gcdL ((trim l).take i))), sa]) ⟨_, rfl⟩ ?_ fun ds' ⟨sa, q⟩ => ⟨sa, by rw [List.length_map, List.take_length] at q; exact q⟩) ?_
      · rintro i ds' hi ⟨sa, rfl⟩
        rw [List.length_map] at hi
        simp only [List.getElem?_map, List.getElem?_eq_getElem hi, Option.map_some]
        exact sd_set (ev_call (ea_cons (ev_var rfl) (ea_cons (ev_var rfl) ea_nil)) ⟨_, _, rfl, trivial, rfl⟩) ⟨_, by rw [gcd0 i _ (List.getElem?_eq_getElem hi)] <;> rfl⟩
      · rintro d ⟨sa, rfl⟩
        refine sd_ret (EvO.dd (eo_map (g := fun x => x.fdiv (gcdL (trim l))) (slc _ rfl rfl) (by omega) fun x hx => ?_)) rfl
        obtain ⟨l', z, e2, hz⟩ := trim_last_ne (l := l) (fun q => by rw [q] at hx; simp at hx)
        obtain ⟨g1, g2⟩ := gcdL_le hb.trim ⟨z, by rw [e2]; simp, hz⟩
        have q1 := g1.log
        exact ev_op (ev_var rfl) (ev_var rfl) (rv_intC ⟨by omega, by omega⟩)

theorem sc_int_rest : FnScope ["one", "other", "rest", "head", "shift", "last", "at", "number"] ["one", "other"] (defScope s_int_rest) := ⟨rfl, rfl, rfl, by decide +kernel, rfl, by decide +kernel, by decide +kernel⟩
def pIntRest : List Dat → Dat → Prop := fun dl r => ∃ (one other : List Int) (n k : Nat), dl = [il one, il other] ∧ (other ≠ [] ∧ BtL n one ∧ BtL k other ∧ n + (one.length + 1 - other.length) * (k + 1) ≤ 8000 ∧ one.length ≤ 100 ∧ other.length ≤ one.length) ∧ r = il (intRest one other)
theorem ok_int_rest {P : Program} {w : World} {K : PySem.W.Frag} {mg : Str → Option Value} {base : Heap} (T : Txt K mg) (c_plain_row : Cal P w K mg base 2 "plain_row" (spD K pPlain)) : Cal P w K mg base (2 + 1) "int_rest" (spD K pIntRest) := by
  refine ⟨?_, T.g_int_rest, (T.d_int_rest).elim fun _ F => F.kp⟩
  refine fn_d (d := d_int_rest) (k := 2) (T.d_int_rest) sc_int_rest (fun _ _ _ _ _ _ us hl => match us, hl with | [_, _], _ => rfl) ?_ ?_
  · rintro dl r ⟨_, _, _, _, rfl, _⟩; rfl
  · intro cdv A outer s H E hr
    refine ⟨_, (pss_cons (ps_asg (pe_tup (pa_cons (pe_callTy call_list_of (by rfl) T.b_list (by decide +kernel) (pa_cons (pv 0) pa_nil)) (pa_cons (pe_callB call_abs (by rfl) T.b_abs (by decide +kernel) (pa_cons (pe_ix ix_list (pv 1) (pe_un un_neg pe_int) (fun _ _ => rfl)) pa_nil)) pa_nil))) (pg_tup rfl (pgs_cons (pg_name (i := 2) sc_int_rest.nd rfl (.inl rfl)) (pgs_cons (pg_name (i := 3) sc_int_rest.nd rfl (.inr rfl)) pgs_nil))))
      (pss_cons (ps_while PassesOwn.never (pt_cmpR op_ge (pe_callB call_len_seq (by rfl) T.b_len (by decide +kernel) (pa_cons (pv 2) pa_nil)) (pe_callB call_len_seq (by rfl) T.b_len (by decide +kernel) (pa_cons (pv 1) pa_nil)) (nomark _))
        (pss_cons (ps_par (i := 4) (j := 5) (by rfl) sc_int_rest.nd rfl rfl (by decide) rfl rfl (pa_cons (pe_op op_sub (pe_callB call_len_seq (by rfl) T.b_len (by decide +kernel) (pa_cons (pv 2) pa_nil)) (pe_callB call_len_seq (by rfl) T.b_len (by decide +kernel) (pa_cons (pv 1) pa_nil))) (pa_cons (pe_ifExp (pt_cmpR op_gt (pe_ix ix_list (pv 1) (pe_un un_neg pe_int) (fun _ _ => rfl)) pe_int (nomark _)) (pe_ix ix_list (pv 2) (pe_un un_neg pe_int) (fun _ _ => rfl)) (pe_op op_sub pe_int (pe_ix ix_list (pv 2) (pe_un un_neg pe_int) (fun _ _ => rfl)))) pa_nil)) (by rfl))
        (pss_cons (ps_setLc (i := 2) (own := [("number", 7)]) (g := (gName 7)) (tt := tYes) (te := (tOp (rI CMulW fun i j => .int (i * j)) (tVar 7) (tVar 3))) rfl sc_int_rest.nd rfl rfl (sw_true rfl rfl rfl (by decide +kernel)) (pi_list (pv 2)) (blkOk_by (own := [("number", 7)]) (N := ["one", "other", "rest", "head", "shift", "last", "at", "number"]) (sc := defScope s_int_rest) (by decide +kernel)) (fun _ _ _ _ _ => (pg_name (i := 7) sc_int_rest.nd rfl (Or.inl rfl))) (fun _ _ _ _ _ => pts_nil) (fun _ _ _ _ _ => (pe_op op_mulW (pv 7) (pv 3))))
        (pss_cons (ps_for PassesOwn.never rfl (pi_enum (by rfl) T.b_enumerate (pa_cons (pv 1) pa_nil)) (pg_tup rfl (pgs_cons (pg_name (i := 6) sc_int_rest.nd rfl (.inl rfl)) (pgs_cons (pg_name (i := 7) sc_int_rest.nd rfl (.inl rfl)) pgs_nil)))
          (pss_one (ps_asg (pe_op op_sub (pe_ix ix_list (pv 2) (pe_op op_add (pv 4) (pv 6)) (fun _ _ => rfl)) (pe_op op_mulW (pv 5) (pv 7))) (pg_sub (pv 2) (pe_op op_add (pv 4) (pv 6)) set_list))))
        (pss_one (ps_set (i := 2) sc_int_rest.nd rfl (.inl rfl) (pe_cf (c_plain_row.mono (by decide)) hr (by rfl) (pa_cons (pv 2) pa_nil))))))))
      (pss_one (ps_ret (pe_cf (c_plain_row.mono (by decide)) hr (by rfl) (pa_cons (pv 2) pa_nil)))))), ?_⟩
    rintro m dl r ⟨one, other, n, k, rfl, ⟨hne, b1, b2, hz, hl, hle⟩, rfl⟩
    obtain ⟨o2, c, eo⟩ := (list_end other).resolve_left hne
    have lst : other.getLastD 0 = c := by rw [eo]; simp
    have lo : 0 < other.length := List.length_pos_iff.mpr hne
    have hk : k ≤ 8000 := by
      have : 1 * (k + 1) ≤ (one.length + 1 - other.length) * (k + 1) := Nat.mul_le_mul_right _ (by omega)
      omega
    have cix : ∀ ds2 : Ds, ds2[1]? = some (.dat (il other)) → EvD m K (tOp (rIxL K) (tVar 1) (tUn (rU fun i => .int (-i)) (tC (.int 1)))) ds2 (.int c) := fun ds2 q => ev_op (ev_var q) (ev_neg ev_int) (rv_ixL (d := .int c) (by rw [eo]; exact at_last))
    refine sd_then (sd_unp (is := [2, 3]) (dl := [il one, .int (c.natAbs : Int)]) (ev_tup (ea_cons (EvO.dd (eo_list (ev_var rfl))) (ea_cons ((ev_cb (ea_cons (cix _ rfl) ea_nil) rc_abs).to (by congr 1; split <;> omega)) ea_nil)) (by simp)) rfl rfl rfl) ?_
    have cl : Bt k c := b2 c (by rw [eo]; simp)
    refine sd_seq (M := fun d => ∃ (rest : List Int) (sa sb sc sd : Sv), d = [.dat (il one), .dat (il other), .dat (il rest), .dat (.int (c.natAbs : Int)), sa, sb, sc, sd] ∧ rest = irLoop other (one.length + 1) one ∧ BtL 8000 rest ∧ rest.length ≤ one.length)
      (sd_while (fun j ds' => ∃ (rest : List Int) (sa sb sc sd : Sv), ds' = [.dat (il one), .dat (il other), .dat (il rest), .dat (.int (c.natAbs : Int)), sa, sb, sc, sd] ∧ j = rest.length ∧ rest.length ≤ one.length ∧ BtL (n + (one.length - rest.length) * (k + 1)) rest ∧ irLoop other (rest.length + 1) rest = irLoop other (one.length + 1) one) _ ⟨one, _, _, _, _, rfl, rfl, Nat.le_refl _, by rw [Nat.sub_self, Nat.zero_mul]; exact b1, rfl⟩ ?_) ?_
    · rintro j ds' ⟨rest, sa, sb, sc, sd, rfl, rfl, hrl, hb, e⟩
      by_cases c2 : other.length ≤ rest.length
      · refine ⟨true, (et_test (ev_op (ev_len (ev_var rfl)) (ev_len (ev_var rfl)) rv_bl)).yes (decide_eq_true (by simp only [List.length_map]; omega)), fun _ => ?_, (fun h => by cases h)⟩
        obtain ⟨r2, x, er⟩ := (list_end rest).resolve_left (List.length_pos_iff.mp (by omega))
        have xl : rest.getLastD 0 = x := by rw [er]; simp
        have xb : Bt (n + (one.length - rest.length) * (k + 1)) x := hb x (by rw [er]; simp)
        have lt := irRaw_lt hne c2
        have rb := irRaw_bt b2 hb hne c2
        have tb : n + (one.length - rest.length) * (k + 1) + k + 1 ≤ 8000 := by
          have : (one.length - rest.length + 1) * (k + 1) ≤ (one.length + 1 - other.length) * (k + 1) := Nat.mul_le_mul_right _ (by omega)
          rw [Nat.add_mul, Nat.one_mul] at this
          omega
        rw [irLoop, if_neg (by omega)] at e
        have rix : ∀ ds2 : Ds, ds2[2]? = some (.dat (il rest)) → EvD m K (tOp (rIxL K) (tVar 2) (tUn (rU fun i => .int (-i)) (tC (.int 1)))) ds2 (.int x) := fun ds2 q => ev_op (ev_var q) (ev_neg ev_int) (rv_ixL (d := .int x) (by rw [er]; exact at_last))
        generalize el : (if 0 < c then x else 0 - x) = last
        have lb : Bt (n + (one.length - rest.length) * (k + 1)) last := by
          rw [← el]
          split
          · exact xb
          · unfold Bt at *; omega
        refine sd_then (sd_par (x := .int ((rest.length - other.length : Nat) : Int)) (y := .int last) (ea_cons ((ev_op (ev_len (ev_var rfl)) (ev_len (ev_var rfl)) rv_int).to ?_) (ea_cons (ev_ifC (c := 0 < c) (et_test (ev_op (cix _ rfl) ev_int rv_bl)) (fun q => (rix _ rfl).to (by rw [← el, if_pos q])) (fun q => (ev_op ev_int (rix _ rfl) rv_int).to (by rw [← el, if_neg q]))) ea_nil)) rfl) ?_
        · simp only [List.length_map]; congr 1; omega
        have q1 := cl.log
        have q2 := lb.log
        refine sd_then (sd_own (xs := (rest.map (· * (c.natAbs : Int))).map Dat.int) (eo_map (g := (· * (c.natAbs : Int))) (ev_var rfl) (by omega) fun y hy => ev_op (ev_var rfl) (ev_var rfl) (rv_intC (by
          have := (hb y hy).log
          show _ + (c.natAbs : Int).natAbs.log2 < 1000000
          rw [Int.natAbs_natCast]
          omega))) rfl) ?_
        have raw : irRaw other rest = updS (fun a b => a - last * b) (rest.length - other.length) (rest.map (· * (c.natAbs : Int))) other := by unfold irRaw; rw [lst, xl, el]
        refine sd_seq (M := fun d => ∃ sc sd, d = [.dat (il one), .dat (il other), .own ((irRaw other rest).map Dat.int), .dat (.int (c.natAbs : Int)), .dat (.int ((rest.length - other.length : Nat) : Int)), .dat (.int last), sc, sd]) (sd_enum (s := rest.length - other.length) (F := fun a b => a - last * b) (ys := other) (xs := rest.map (· * (c.natAbs : Int))) (fun sa sb o => [.dat (il one), .dat (il other), .own o, .dat (.int (c.natAbs : Int)), .dat (.int ((rest.length - other.length : Nat) : Int)), .dat (.int last), sa, sb]) rfl (ea_cons (ev_var rfl) ea_nil) (fun _ _ _ _ _ => rfl) ?_ ?_ fun sa sb => ⟨sa, sb, by rw [raw] <;> rfl⟩) ?_
        · right; rw [List.length_map]; omega
        · intro i a b zs eb exa ez hl2
          have hb2 := (b2 b (List.mem_of_getElem? eb)).log
          have hj : rest.length - other.length + i < zs.length := (List.getElem?_eq_some_iff.mp ez).1
          generalize rest.length - other.length = sh at *
          have eidx : ∀ ds2 : Ds, ds2[4]? = some (.dat (.int (sh : Int))) → ds2[6]? = some (.dat (.int (i : Int))) → EvD m K (tOp (rI0 fun i j => .int (i + j)) (tVar 4) (tVar 6)) ds2 (.int ((sh + i : Nat) : Int)) := fun ds2 q1 q2 => (ev_op (ev_var q1) (ev_var q2) rv_int).to (by simp)
          refine sd_store (i := 2) (j := sh + i) rfl (ev_op (ev_ixO rfl (eidx _ rfl rfl) (at_int ez)) (ev_op (ev_var rfl) (ev_var rfl) (rv_intC (by show _ + _ < 1000000; omega))) rv_int) (eidx _ rfl rfl) (by rw [List.length_map]; exact hj) ?_
          rw [set_int] <;> rfl
        · rintro d ⟨sc, sd, rfl⟩
          have rl2 : (irRaw other rest).length = rest.length := by rw [raw, updS_len, List.length_map]
          refine sd_freeze (i := 2) rfl (sd_set (ev_call (ea_cons (ev_var rfl) ea_nil) ⟨irRaw other rest, _, rfl, ⟨rb, by omega, by omega⟩, rfl⟩) ?_)
          refine ⟨(plainR (irRaw other rest)).length, lt, plainR (irRaw other rest), _, _, _, _, rfl, rfl, by omega, (plainR_bt rb).mono ?_, ?_⟩
          · have : (one.length - rest.length + 1) * (k + 1) ≤ (one.length - (plainR (irRaw other rest)).length) * (k + 1) := Nat.mul_le_mul_right _ (by omega)
            rw [Nat.add_mul, Nat.one_mul] at this
            omega
          · rw [← e]
            exact irLoop_more hne _ _ _ (by omega) (by omega)
      · refine ⟨false, (et_test (ev_op (ev_len (ev_var rfl)) (ev_len (ev_var rfl)) rv_bl)).nay (decide_eq_false (by simp only [List.length_map]; omega)), (fun h => by cases h), fun _ => ?_⟩
        rw [irLoop, if_pos (by omega)] at e
        refine ⟨rest, _, _, _, _, rfl, e, ?_, hrl⟩
        have := (irLoop_bt b2 hne (one.length + 1) n one (by omega) b1).1
        rw [← e] at this
        exact this.mono hz
    · rintro d ⟨rest, sa, sb, sc, sd, rfl, e, hb, hrl⟩
      exact sd_ret (ev_call (ea_cons (ev_var rfl) ea_nil) ⟨rest, 8000, rfl, ⟨hb, by omega, by omega⟩, rfl⟩) (by rw [e] <;> rfl)

theorem sc_int_common : FnScope ["one", "other", "near", "far"] ["one", "other"] (defScope s_int_common) := ⟨rfl, rfl, rfl, by decide +kernel, rfl, by decide +kernel, by decide +kernel⟩
def pIntCommon : List Dat → Dat → Prop := fun dl r => ∃ (one other : List Int) (n : Nat), dl = [il one, il other] ∧ (BtL n one ∧ BtL n other ∧ n ≤ 8000 ∧ one.length ≤ 100 ∧ other.length ≤ 100 ∧ Euc (plainR one) (plainR other)) ∧ r = il (intCommon one other)
theorem ok_int_common {P : Program} {w : World} {K : PySem.W.Frag} {mg : Str → Option Value} {base : Heap} (T : Txt K mg) (c_plain_row : Cal P w K mg base 2 "plain_row" (spD K pPlain)) (c_int_rest : Cal P w K mg base 3 "int_rest" (spD K pIntRest)) : Cal P w K mg base (3 + 1) "int_common" (spD K pIntCommon) := by
  refine ⟨?_, T.g_int_common, (T.d_int_common).elim fun _ F => F.kp⟩
  refine fn_d (d := d_int_common) (k := 3) (T.d_int_common) sc_int_common (fun _ _ _ _ _ _ us hl => match us, hl with | [_, _], _ => rfl) ?_ ?_
  · rintro dl r ⟨_, _, _, rfl, _⟩; rfl
  · intro cdv A outer s H E hr
    refine ⟨_, (pss_cons (ps_par (i := 2) (j := 3) (by rfl) sc_int_common.nd rfl rfl (by decide) rfl rfl (pa_cons (pe_cf (c_plain_row.mono (by decide)) hr (by rfl) (pa_cons (pv 0) pa_nil)) (pa_cons (pe_cf (c_plain_row.mono (by decide)) hr (by rfl) (pa_cons (pv 1) pa_nil)) pa_nil)) (by rfl))
      (pss_cons (ps_while PassesOwn.never (pt_cmpR op_gt (pe_callB call_len_seq (by rfl) T.b_len (by decide +kernel) (pa_cons (pv 3) pa_nil)) pe_int (nomark _))
        (pss_one (ps_par (i := 2) (j := 3) (by rfl) sc_int_common.nd rfl rfl (by decide) rfl rfl (pa_cons (pv 3) (pa_cons (pe_cf (c_int_rest.mono (by decide)) hr (by rfl) (pa_cons (pv 2) (pa_cons (pv 3) pa_nil))) pa_nil)) (by rfl))))
      (pss_one (ps_ret (pv 2))))), ?_⟩
    rintro m dl r ⟨one, other, n, rfl, ⟨b1, b2, hn, l1, l2, hE⟩, rfl⟩
    refine sd_then (sd_par (x := il (plainR one)) (y := il (plainR other)) (ea_cons (ev_call (ea_cons (ev_var rfl) ea_nil) ⟨one, n, rfl, ⟨b1, by omega, by omega⟩, rfl⟩) (ea_cons (ev_call (ea_cons (ev_var rfl) ea_nil) ⟨other, n, rfl, ⟨b2, by omega, by omega⟩, rfl⟩) ea_nil)) rfl) ?_
    refine sd_seq (M := fun d => ∃ sa, d = [.dat (il one), .dat (il other), .dat (il (intCommon one other)), sa])
      (sd_while (fun k ds' => ∃ near far, ds' = [.dat (il one), .dat (il other), .dat (il near), .dat (il far)] ∧ k = far.length ∧ Euc near far ∧ icLoop (far.length + 1) near far = intCommon one other) _ ⟨plainR one, plainR other, rfl, rfl, hE, rfl⟩ ?_) ?_
    · rintro k ds' ⟨near, far, rfl, rfl, hE, e⟩
      by_cases c : far = []
      · refine ⟨false, (et_test (ev_op (ev_len (ev_var rfl)) ev_int rv_bl)).nay (decide_eq_false (by rw [c]; simp)), (fun h => by cases h), fun _ => ?_⟩
        rw [icLoop, if_pos c] at e
        exact ⟨_, by rw [e] <;> rfl⟩
      · have lf : 0 < far.length := List.length_pos_iff.mpr c
        refine ⟨true, (et_test (ev_op (ev_len (ev_var rfl)) ev_int rv_bl)).yes (decide_eq_true (by simp only [List.length_map]; omega)), fun _ => ?_, (fun h => by cases h)⟩
        rw [icLoop, if_neg c] at e
        have lt := hE.lt
        have le := hE.le
        have six : near.length ≤ 6 ∨ far.length = 6 := by
          rcases hE.six with q | q | q
          · exact .inl q
          · exact .inr q
          · exact absurd q c
        have wm := Wt_max (by omega) lt six
        refine sd_par (ea_cons (ev_var rfl) (ea_cons (ev_call (ea_cons (ev_var rfl) (ea_cons (ev_var rfl) ea_nil)) ⟨near, far, _, _, rfl, ⟨c, hE.bn, hE.bf, by omega, by omega, by omega⟩, rfl⟩) ea_nil)) ?_
        have l3 := intRest_lt (near := near) c
        exact ⟨_, l3, far, intRest near far, rfl, rfl, hE.next c, by rw [← e]; exact icLoop_more _ _ _ _ (by omega) (by omega)⟩
    · rintro d ⟨sa, rfl⟩
      exact sd_ret (ev_var rfl) rfl

def commonRat (one other : List (Int × Int)) : List (Int × Int) := (intCommon (wholesR one) (wholesR other)).map fun x => rN x ((intCommon (wholesR one) (wholesR other)).getLastD 0)
theorem wholesR_len (l : List (Int × Int)) : (wholesR l).length = l.length := by unfold wholesR; rw [List.length_map]
theorem intCommon_last {one other : List Int} (h : Euc (plainR one) (plainR other)) : BtL 900 (intCommon one other) ∧ ∃ l' x, intCommon one other = l' ++ [x] ∧ x ≠ 0 := by
  refine ⟨icLoop_bt _ _ _ h, ?_⟩
  have n0 : plainR one ≠ [] := fun q => by have := h.lt; rw [q] at this; simp at this
  obtain ⟨⟨y, ey⟩, ne⟩ := icLoop_plain ((plainR other).length + 1) (plainR one) (plainR other) ⟨_, rfl⟩ n0 ⟨_, rfl⟩
  unfold intCommon
  rw [ey] at ne ⊢
  exact plainR_last ne
theorem slopeR_rt {n : Nat} {l : List (Int × Int)} (h : RtL n l) (hl : l.length ≤ 60) : RtL (n + 6) (slopeR l) := fun r hr => by
  obtain ⟨i, hi, rfl⟩ := List.mem_mapIdx.mp (List.mem_of_mem_drop hr)
  refine mulR_rt (h _ (List.getElem_mem _)) ⟨?_, by show (1:Int).natAbs < 2 ^ 6; decide, by show (0:Int) < 1; decide⟩
  show ((i : Int)).natAbs < 2 ^ 6
  omega
theorem slopeR_len (l : List (Int × Int)) : (slopeR l).length = l.length - 1 := by unfold slopeR; simp

theorem sc_common_of : FnScope ["one", "other", "near", "number"] ["one", "other"] (defScope s_common_of) := ⟨rfl, rfl, rfl, by decide +kernel, rfl, by decide +kernel, by decide +kernel⟩
def pCommonOf : List Dat → Dat → Prop := fun dl r => ∃ (one other : List (Int × Int)) (n : Nat), dl = [rl one, rl other] ∧ (RtL n one ∧ RtL n other ∧ n ≤ 100 ∧ one.length ≤ 10 ∧ other.length ≤ 10 ∧ Euc (plainR (wholesR one)) (plainR (wholesR other))) ∧ r = rl (commonRat one other)
theorem ok_common_of {P : Program} {w : World} {K : PySem.W.Frag} {mg : Str → Option Value} {base : Heap} (T : Txt K mg) (c_wholes : Cal P w K mg base 1 "wholes" (spD K pWholes)) (c_int_common : Cal P w K mg base 4 "int_common" (spD K pIntCommon)) (c_mk_Ratio : MkC P w K mg base 2 "Ratio" (spW K "Ratio" pRInit) []) : Cal P w K mg base (4 + 1) "common_of" (spD K pCommonOf) := by
  refine ⟨?_, T.g_common_of, (T.d_common_of).elim fun _ F => F.kp⟩
  refine fn_d (d := d_common_of) (k := 4) (T.d_common_of) sc_common_of (fun _ _ _ _ _ _ us hl => match us, hl with | [_, _], _ => rfl) ?_ ?_
  · rintro dl r ⟨_, _, _, rfl, _⟩; rfl
  · intro cdv A outer s H E hr
    refine ⟨_, (pss_cons (ps_set (i := 2) sc_common_of.nd rfl (.inr rfl) (pe_cf (c_int_common.mono (by decide)) hr (by rfl) (pa_cons (pe_ix ix_tup (pe_cf (c_wholes.mono (by decide)) hr (by rfl) (pa_cons (pv 0) pa_nil)) pe_int (fun _ _ => rfl)) (pa_cons (pe_ix ix_tup (pe_cf (c_wholes.mono (by decide)) hr (by rfl) (pa_cons (pv 1) pa_nil)) pe_int (fun _ _ => rfl)) pa_nil))))
      (pss_one (ps_ret (pe_lc (own := [("number", 3)]) (g := (gName 3)) (tt := tYes) (te := (tMake (He.ga K "Ratio") (spW K "Ratio" pRInit) [] E0 (tCons (tVar 3) (tCons (tOp (rIxL K) (tVar 2) (tUn (rU fun i => .int (-i)) (tC (.int 1)))) tNil)))) rfl sc_common_of.nd (pi_list (pv 2)) (blkOk_by (own := [("number", 3)]) (N := ["one", "other", "near", "number"]) (sc := defScope s_common_of) (by decide +kernel)) (fun _ _ _ _ _ => (pg_name (i := 3) sc_common_of.nd rfl (Or.inl rfl))) (fun _ _ _ _ _ => pts_nil) (fun _ _ _ _ _ => (pe_mkC (c_mk_Ratio.mono (by decide)) hr (by rfl) (pa_cons (pv 3) (pa_cons (pe_ix ix_list (pv 2) (pe_un un_neg pe_int) (fun _ _ => rfl)) pa_nil)))))))), ?_⟩
    rintro m dl r ⟨one, other, n, rfl, ⟨b1, b2, hn, l1, l2, hE⟩, rfl⟩
    have m1 : n * one.length ≤ 1000 := Nat.le_trans (Nat.mul_le_mul hn l1) (by decide)
    have m2 : n * other.length ≤ 1000 := Nat.le_trans (Nat.mul_le_mul hn l2) (by decide)
    have w1 : BtL 2000 (wholesR one) := (wholesR_bt b1).mono (by omega)
    have w2 : BtL 2000 (wholesR other) := (wholesR_bt b2).mono (by omega)
    refine sd_then (sd_set (ev_call (dl := [il (wholesR one), il (wholesR other)]) (ea_cons (ev_op (ev_call (ea_cons (ev_var rfl) ea_nil) ⟨one, n, rfl, ⟨b1, by omega, by omega, by omega⟩, rfl⟩) ev_int (rv_ixT at_tup2.1)) (ea_cons (ev_op (ev_call (ea_cons (ev_var rfl) ea_nil) ⟨other, n, rfl, ⟨b2, by omega, by omega, by omega⟩, rfl⟩) ev_int (rv_ixT at_tup2.1)) ea_nil)) ⟨_, _, 2000, rfl, ⟨w1, w2, by omega, by rw [wholesR_len]; omega, by rw [wholesR_len]; omega, hE⟩, rfl⟩) rfl) ?_
    obtain ⟨cb, l', x, ex, hx⟩ := intCommon_last hE
    have nl : (intCommon (wholesR one) (wholesR other)).length ≤ 7 := icLoop_len _ _ _ hE
    have lx : (intCommon (wholesR one) (wholesR other)).getLastD 0 = x := by rw [ex]; simp
    unfold commonRat
    rw [lx]
    generalize intCommon (wholesR one) (wholesR other) = near at *
    have xb : Bt 8900 x := (cb x (by rw [ex]; simp)).mono (by omega)
    refine sd_ret ((EvO.dd (eo_mapG (f := Dat.int) (g := fun y => ratD (rN y x)) (ev_var rfl) ?_ fun y hy => ev_ratio (ea_cons (ev_var rfl) (ea_cons (ev_op (ev_var rfl) (ev_neg ev_int) (rv_ixL (d := .int x) (by rw [ex]; exact at_last))) ea_nil)) hx xb)).to ?_) rfl
    · omega
    · rw [rl_eq, List.map_map] <;> rfl

end RR
/-! ### RW8 -/
namespace RR
open PySem PySem.Spec PyProof.Rows L2 Evl

theorem sh_ratP {K : PySem.W.Frag} {t b : Int} : ∀ Hb v, Is K Hb (.rat t b) v → ∃ a dx fs, v = .ref a ∧ Hb a = some (.ins (He.ga K "Ratio") dx fs) := fun Hb v ⟨p, dx, h1, h2⟩ => ⟨p, dx, _, h1, h2⟩

theorem sc_is_squared : FnScope ["poly"] ["poly"] (defScope s_is_squared) := ⟨rfl, rfl, rfl, by decide +kernel, rfl, by decide +kernel, by decide +kernel⟩
def pIsSquared : List Dat → Dat → Prop := fun dl r => ∃ (l : List (Int × Int)), dl = [rl l] ∧ (RtL 10 l ∧ l.length ≤ 10 ∧ Euc (plainR (wholesR l)) (plainR (wholesR (slopeR l)))) ∧ r = .bl (decide (1 < (intCommon (wholesR l) (wholesR (slopeR l))).length))
theorem ok_is_squared {P : Program} {w : World} {K : PySem.W.Frag} {mg : Str → Option Value} {base : Heap} (T : Txt K mg) (c_slope_of : Cal P w K mg base 5 "slope_of" (spD K pSlopeOf)) (c_common_of : Cal P w K mg base 5 "common_of" (spD K pCommonOf)) : Cal P w K mg base (5 + 1) "is_squared" (spD K pIsSquared) := by
  refine ⟨?_, T.g_is_squared, (T.d_is_squared).elim fun _ F => F.kp⟩
  refine fn_d (d := d_is_squared) (k := 5) (T.d_is_squared) sc_is_squared (fun _ _ _ _ _ _ us hl => match us, hl with | [_], _ => rfl) ?_ ?_
  · rintro dl r ⟨_, rfl, _⟩; rfl
  · intro cdv A outer s H E hr
    refine ⟨_, (pss_one (ps_ret (pe_cmpR op_gt (pe_callB call_len_seq (by rfl) T.b_len (by decide +kernel) (pa_cons (pe_cf (c_common_of.mono (by decide)) hr (by rfl) (pa_cons (pv 0) (pa_cons (pe_cf (c_slope_of.mono (by decide)) hr (by rfl) (pa_cons (pv 0) pa_nil)) pa_nil))) pa_nil)) pe_int (nomark _)))), ?_⟩
    rintro m dl r ⟨l, rfl, ⟨hr, hl, hE⟩, rfl⟩
    refine sd_ret (ev_op (ev_len (ev_call (ea_cons (ev_var rfl) (ea_cons (ev_call (ea_cons (ev_var rfl) ea_nil) ⟨l, 10, rfl, ⟨hr, by omega, by omega⟩, rfl⟩) ea_nil)) ⟨l, slopeR l, 16, rfl, ⟨hr.mono (by omega), slopeR_rt hr (by omega), by omega, by omega, by rw [slopeR_len]; omega, hE⟩, rfl⟩)) ev_int rv_bl) ?_
    simp only [List.length_map, commonRat]
    congr 1
    exact decide_eq_decide.mpr (by omega)

theorem sc_power_of : FnScope ["number", "many", "found", "turn"] ["number", "many"] (defScope s_power_of) := ⟨rfl, rfl, rfl, by decide +kernel, rfl, by decide +kernel, by decide +kernel⟩
def pPower : List Dat → Dat → Prop := fun dl r => ∃ (n : Int), dl = [.int n, .int 2] ∧ (-(2 ^ 60) < n ∧ n < 2 ^ 60) ∧ r = .int (n * n)
theorem ok_power_of {P : Program} {w : World} {K : PySem.W.Frag} {mg : Str → Option Value} {base : Heap} (T : Txt K mg) : Cal P w K mg base (0 + 1) "power_of" (spD K pPower) := by
  refine ⟨?_, T.g_power_of, (T.d_power_of).elim fun _ F => F.kp⟩
  refine fn_d (d := d_power_of) (k := 0) (T.d_power_of) sc_power_of (fun _ _ _ _ _ _ us hl => match us, hl with | [_, _], _ => rfl) ?_ ?_
  · rintro dl r ⟨_, rfl, _⟩; rfl
  · intro cdv A outer s H E hr
    refine ⟨_, (pss_cons (ps_set (i := 2) sc_power_of.nd rfl (.inl rfl) pe_int)
      (pss_cons (ps_for PassesOwn.never rfl (pi_range1 (by rfl) T.b_range (pa_cons (pv 1) pa_nil)) (pg_name (i := 3) sc_power_of.nd rfl (.inl rfl))
        (pss_one (ps_set (i := 2) sc_power_of.nd rfl (.inl rfl) (pe_op op_mul (pv 2) (pv 0)))))
      (pss_one (ps_ret (pv 2))))), ?_⟩
    rintro m dl r ⟨n, rfl, hn, rfl⟩
    refine sd_then (sd_set ev_int rfl) ?_
    refine sd_seq (M := fun d => ∃ sa, d = [.dat (.int n), .dat (.int 2), .dat (.int (n * n)), sa]) (sd_for (it_range1 (n := 2) (ea_cons (ev_var rfl) ea_nil) (by omega)) (fun i ds' => ∃ sa, ds' = [.dat (.int n), .dat (.int 2), .dat (.int (if i = 0 then 1 else if i = 1 then n else n * n)), sa]) ⟨_, rfl⟩ ?_ fun ds' ⟨sa, q⟩ => ⟨sa, q⟩) ?_
    · rintro i ds' hi ⟨sa, rfl⟩
      refine sd_set (ev_op (ev_var rfl) (ev_var rfl) (rv_intC (.inr ⟨by omega, by omega⟩))) ⟨.dat (.int ((i : Nat) : Int)), ?_⟩
      have h2 : i = 0 ∨ i = 1 := by
        have : i < 2 := hi
        omega
      rcases h2 with q | q <;> subst q
      · simp
      · simp
    · rintro d ⟨sa, rfl⟩
      exact sd_ret (ev_var rfl) rfl

theorem sc_whole_root : FnScope ["number", "order", "low", "high", "middle"] ["number", "order"] (defScope s_whole_root) := ⟨rfl, rfl, rfl, by decide +kernel, rfl, by decide +kernel, by decide +kernel⟩
def pWholeRoot : List Dat → Dat → Prop := fun dl r => ∃ (s : Int), dl = [.int (s * s), .int 2] ∧ (0 < s ∧ s ≤ 1000) ∧ r = .int s
theorem ok_whole_root {P : Program} {w : World} {K : PySem.W.Frag} {mg : Str → Option Value} {base : Heap} (T : Txt K mg) (c_power_of : Cal P w K mg base 1 "power_of" (spD K pPower)) : Cal P w K mg base (1 + 1) "whole_root" (spD K pWholeRoot) := by
  refine ⟨?_, T.g_whole_root, (T.d_whole_root).elim fun _ F => F.kp⟩
  refine fn_d (d := d_whole_root) (k := 1) (T.d_whole_root) sc_whole_root (fun _ _ _ _ _ _ us hl => match us, hl with | [_, _], _ => rfl) ?_ ?_
  · rintro dl r ⟨_, rfl, _⟩; rfl
  · intro cdv A outer s H E hr
    refine ⟨_, (pss_cons (ps_asg (pe_tup (pa_cons pe_int (pa_cons pe_int pa_nil))) (pg_tup rfl (pgs_cons (pg_name (i := 2) sc_whole_root.nd rfl (.inl rfl)) (pgs_cons (pg_name (i := 3) sc_whole_root.nd rfl (.inl rfl)) pgs_nil))))
      (pss_cons (ps_while PassesOwn.never (pt_cmpR op_le (pe_cf (c_power_of.mono (by decide)) hr (by rfl) (pa_cons (pv 3) (pa_cons (pv 1) pa_nil))) (pv 0) (nomark _))
        (pss_one (ps_set (i := 3) sc_whole_root.nd rfl (.inl rfl) (pe_op op_mul (pv 3) pe_int))))
      (pss_cons (ps_while PassesOwn.never (pt_cmpR op_gt (pe_op op_sub (pv 3) (pv 2)) pe_int (nomark _))
        (pss_cons (ps_set (i := 4) sc_whole_root.nd rfl (.inl rfl) (pe_op op_fdiv (pe_op op_add (pv 2) (pv 3)) pe_int))
        (pss_one (ps_if (pt_cmpR op_le (pe_cf (c_power_of.mono (by decide)) hr (by rfl) (pa_cons (pv 4) (pa_cons (pv 1) pa_nil))) (pv 0) (nomark _))
          (pss_one (ps_set (i := 2) sc_whole_root.nd rfl (.inl rfl) (pv 4)))
          (pss_one (ps_set (i := 3) sc_whole_root.nd rfl (.inl rfl) (pv 4)))))))
      (pss_one (ps_ret (pe_ifExp (pt_cmpR op_eq (pe_cf (c_power_of.mono (by decide)) hr (by rfl) (pa_cons (pv 2) (pa_cons (pv 1) pa_nil))) (pv 0) (nomark _)) (pv 2) pe_non)))))), ?_⟩
    rintro m dl r ⟨s, rfl, ⟨h0, h1⟩, rfl⟩
    have sq : ∀ h : Int, 0 ≤ h → (h * h ≤ s * s ↔ h ≤ s) := fun h hh => ⟨fun q => by
      rcases Int.lt_or_le s h with z | z
      · have a1 : s * s < h * h := Int.lt_of_lt_of_le (Int.mul_lt_mul_of_pos_left z h0) (Int.mul_le_mul_of_nonneg_right (Int.le_of_lt z) hh)
        omega
      · exact z, fun q => Int.mul_le_mul q q hh (by omega)⟩
    have tst : ∀ (i : Nat) (h : Int) (ds2 : Ds), ds2[i]? = some (.dat (.int h)) → ds2[0]? = some (.dat (.int (s * s))) → ds2[1]? = some (.dat (.int 2)) → 0 ≤ h → h ≤ 5000 → EvT m K (tTest (tOp (rI0 fun i j => .bl (decide (i ≤ j))) (tCf (spD K pPower) (tCons (tVar i) (tCons (tVar 1) tNil))) (tVar 0))) ds2 (decide (h ≤ s)) := fun i h ds2 q1 q2 q3 hh hl =>
      (et_test (ev_op (ev_call (ea_cons (ev_var q1) (ea_cons (ev_var q3) ea_nil)) ⟨h, rfl, ⟨by omega, by omega⟩, rfl⟩) (ev_var q2) rv_bl)).to (decide_eq_decide.mpr (sq h hh))
    refine sd_then (sd_unp (is := [2, 3]) (dl := [.int 0, .int 1]) (ev_tup (ea_cons ev_int (ea_cons ev_int ea_nil)) (by simp)) rfl rfl rfl) ?_
    refine sd_seq (M := fun d => ∃ h : Int, d = [.dat (.int (s * s)), .dat (.int 2), .dat (.int 0), .dat (.int h), .no] ∧ s < h ∧ h ≤ 2 * s)
      (sd_while (fun k ds' => ∃ h : Int, ds' = [.dat (.int (s * s)), .dat (.int 2), .dat (.int 0), .dat (.int h), .no] ∧ 1 ≤ h ∧ h ≤ 2 * s ∧ k = (2 * s + 1 - h).toNat) _ ⟨1, rfl, by omega, by omega, rfl⟩ ?_) ?_
    · rintro k ds' ⟨h, rfl, hh, hl, rfl⟩
      by_cases c : h ≤ s
      · refine ⟨true, (tst 3 h _ rfl rfl rfl (by omega) (by omega)).yes (decide_eq_true c), fun _ => ?_, (fun h => by cases h)⟩
        exact sd_set (ev_op (ev_var rfl) ev_int (rv_intC (.inr ⟨by decide, by decide⟩))) ⟨(2 * s + 1 - h * 2).toNat, by omega, h * 2, rfl, by omega, by omega, rfl⟩
      · exact ⟨false, (tst 3 h _ rfl rfl rfl (by omega) (by omega)).nay (decide_eq_false c), (fun h => by cases h), fun _ => ⟨h, rfl, by omega, hl⟩⟩
    · rintro d ⟨h, rfl, g1, g2⟩
      refine sd_seq (M := fun d => ∃ sa sb, d = [.dat (.int (s * s)), .dat (.int 2), .dat (.int s), sa, sb])
        (sd_while (fun k ds' => ∃ (low high : Int) (sb : Sv), ds' = [.dat (.int (s * s)), .dat (.int 2), .dat (.int low), .dat (.int high), sb] ∧ 0 ≤ low ∧ low ≤ s ∧ s < high ∧ high ≤ 2 * s ∧ k = (high - low).toNat) _ ⟨0, h, _, rfl, by omega, by omega, g1, g2, rfl⟩ ?_) ?_
      · rintro k ds' ⟨low, high, sb, rfl, l0, l1, l2, l3, rfl⟩
        by_cases c : 1 < high - low
        · refine ⟨true, (et_test (ev_op (ev_op (ev_var rfl) (ev_var rfl) rv_int) ev_int rv_bl)).yes (decide_eq_true (by omega)), fun _ => ?_, (fun h => by cases h)⟩
          refine sd_then (sd_set (ev_op (ev_op (ev_var rfl) (ev_var rfl) rv_int) ev_int (rv_intC ⟨by decide, by decide⟩)) rfl) ?_
          have e1 : low < (low + high) / 2 := by omega
          have e2 : (low + high) / 2 < high := by omega
          generalize (low + high) / 2 = mid at *
          refine sd_ifC (c := mid ≤ s) (tst 4 mid _ rfl rfl rfl (by omega) (by omega)) (fun q => ?_) (fun q => ?_)
          · exact sd_set (ev_var rfl) ⟨(high - mid).toNat, by omega, mid, high, _, rfl, by omega, q, l2, l3, rfl⟩
          · exact sd_set (ev_var rfl) ⟨(mid - low).toNat, by omega, low, mid, _, rfl, l0, l1, by omega, by omega, rfl⟩
        · refine ⟨false, (et_test (ev_op (ev_op (ev_var rfl) (ev_var rfl) rv_int) ev_int rv_bl)).nay (decide_eq_false (by omega)), (fun h => by cases h), fun _ => ?_⟩
          have e : low = s := by omega
          subst e
          exact ⟨_, _, rfl⟩
      · rintro d ⟨sa, sb, rfl⟩
        exact sd_ret (ev_ifT ((et_test (ev_op (ev_call (ea_cons (ev_var rfl) (ea_cons (ev_var rfl) ea_nil)) ⟨s, rfl, ⟨by omega, by omega⟩, rfl⟩) (ev_var rfl) rv_eq)).yes (by simp)) (ev_var rfl)) rfl

theorem sc_order_root : FnScope ["ratio", "order", "top", "bottom"] ["ratio", "order"] (defScope s_order_root) := ⟨rfl, rfl, rfl, by decide +kernel, rfl, by decide +kernel, by decide +kernel⟩
def pOrderRoot : List Dat → Dat → Prop := fun dl r => ∃ (s b : Int), dl = [.rat (s * s) (b * b), .int 2] ∧ (0 < s ∧ s ≤ 1000 ∧ 0 < b ∧ b ≤ 1000) ∧ r = ratD (rN s b)
theorem ok_order_root {P : Program} {w : World} {K : PySem.W.Frag} {mg : Str → Option Value} {base : Heap} (T : Txt K mg) (c_Ratio_sign : Fok P w K mg base 1 (d_Ratio_sign.adr K) (spD K pSign)) (c_whole_root : Cal P w K mg base 2 "whole_root" (spD K pWholeRoot)) (c_mk_Ratio : MkC P w K mg base 2 "Ratio" (spW K "Ratio" pRInit) []) : Cal P w K mg base (3 + 1) "order_root" (spD K pOrderRoot) := by
  refine ⟨?_, T.g_order_root, (T.d_order_root).elim fun _ F => F.kp⟩
  refine fn_d (d := d_order_root) (k := 3) (T.d_order_root) sc_order_root (fun _ _ _ _ _ _ us hl => match us, hl with | [_, _], _ => rfl) ?_ ?_
  · rintro dl r ⟨_, _, rfl, _⟩; rfl
  · intro cdv A outer s H E hr
    refine ⟨_, (pss_cons (ps_if (pt_cmpR op_lt (pe_prC (pv 0) T.cls_Ratio T.xp_Ratio_sign (c_Ratio_sign.mono (by decide)) hr) pe_int (nomark _))
        (pss_one (ps_ret pe_non))
        pss_nil)
      (pss_cons (ps_par (i := 2) (j := 3) (by rfl) sc_order_root.nd rfl rfl (by decide) rfl rfl (pa_cons (pe_cf (c_whole_root.mono (by decide)) hr (by rfl) (pa_cons (pe_fld (pv 0) rfl) (pa_cons (pv 1) pa_nil))) (pa_cons (pe_cf (c_whole_root.mono (by decide)) hr (by rfl) (pa_cons (pe_fld (pv 0) rfl) (pa_cons (pv 1) pa_nil))) pa_nil)) (by rfl))
      (pss_one (ps_ret (pe_ifExp (PW.pt (pw_or (pt_cmpR op_isN (pv 2) pe_non (nomark _)) (pw_or1 (pt_cmpR op_isN (pv 3) pe_non (nomark _))))) pe_non (pe_mkC (c_mk_Ratio.mono (by decide)) hr (by rfl) (pa_cons (pv 2) (pa_cons (pv 3) pa_nil)))))))), ?_⟩
    rintro m dl r ⟨s, b, rfl, ⟨s0, s1, b0, b1⟩, rfl⟩
    have sp : 0 < s * s := Int.mul_pos s0 s0
    refine sd_then (sd_ifF ((et_test (ev_op (ev_pr (ev_var rfl) sh_ratP ⟨s * s, b * b, rfl, trivial, rfl⟩) ev_int rv_bl)).nay (by rw [if_pos (decide_eq_true sp)]; split <;> decide)) (sd_next rfl)) ?_
    refine sd_then (sd_par (x := .int s) (y := .int b) (ea_cons (ev_call (ea_cons (ev_fRat T.cls_Ratio T.no_Ratio_own_top (ev_var rfl)) (ea_cons (ev_var rfl) ea_nil)) ⟨s, rfl, ⟨s0, s1⟩, rfl⟩) (ea_cons (ev_call (ea_cons (ev_fRatB T.cls_Ratio T.no_Ratio_own_bottom (ev_var rfl)) (ea_cons (ev_var rfl) ea_nil)) ⟨b, rfl, ⟨b0, b1⟩, rfl⟩) ea_nil)) rfl) ?_
    exact sd_ret (ev_ifF (et_orF ((et_test (ev_op (ev_var rfl) ev_non rv_isN)).nay rfl) ((et_test (ev_op (ev_var rfl) ev_non rv_isN)).nay rfl)) (ev_ratio (ea_cons (ev_var rfl) (ea_cons (ev_var rfl) ea_nil)) (by omega) (Bt.mono (n := 10) (by show b.natAbs < 2 ^ 10; omega) (by decide)))) rfl

theorem sc_square_root : FnScope ["ratio"] ["ratio"] (defScope s_square_root) := ⟨rfl, rfl, rfl, by decide +kernel, rfl, by decide +kernel, by decide +kernel⟩
def pSquareRoot : List Dat → Dat → Prop := fun dl r => ∃ (s b : Int), dl = [.rat (s * s) (b * b)] ∧ (0 < s ∧ s ≤ 1000 ∧ 0 < b ∧ b ≤ 1000) ∧ r = ratD (rN s b)
theorem ok_square_root {P : Program} {w : World} {K : PySem.W.Frag} {mg : Str → Option Value} {base : Heap} (T : Txt K mg) (c_order_root : Cal P w K mg base 4 "order_root" (spD K pOrderRoot)) : Cal P w K mg base (4 + 1) "square_root" (spD K pSquareRoot) := by
  refine ⟨?_, T.g_square_root, (T.d_square_root).elim fun _ F => F.kp⟩
  refine fn_d (d := d_square_root) (k := 4) (T.d_square_root) sc_square_root (fun _ _ _ _ _ _ us hl => match us, hl with | [_], _ => rfl) ?_ ?_
  · rintro dl r ⟨_, _, rfl, _⟩; rfl
  · intro cdv A outer s H E hr
    refine ⟨_, (pss_one (ps_ret (pe_cf (c_order_root.mono (by decide)) hr (by rfl) (pa_cons (pv 0) (pa_cons pe_int pa_nil))))), ?_⟩
    rintro m dl r ⟨s, b, rfl, h, rfl⟩
    exact sd_ret (ev_call (ea_cons (ev_var rfl) (ea_cons ev_int ea_nil)) ⟨s, b, rfl, h, rfl⟩) rfl

theorem sc_numbers_of : FnScope ["poly", "many", "last", "first", "found", "double", "place", "total", "at"] ["poly", "many"] (defScope s_numbers_of) := ⟨rfl, rfl, rfl, by decide +kernel, rfl, by decide +kernel, by decide +kernel⟩
def pNumbers : List Dat → Dat → Prop := fun dl r => ∃ (l : List (Int × Int)) (s b : Int) (k : Nat), dl = [rl l, .int ((k : Int) + 1)] ∧ (GoodL l s b ∧ k ≤ 3 ∧ k < l.length) ∧ r = rl (numLoop l (s, b) k)
theorem ok_numbers_of {P : Program} {w : World} {K : PySem.W.Frag} {mg : Str → Option Value} {base : Heap} (T : Txt K mg) (c_square_root : Cal P w K mg base 5 "square_root" (spD K pSquareRoot)) (c_Ratio_mul : Fok P w K mg base 4 (d_Ratio_mul.adr K) (spD K pMulR)) (c_mk_Ratio1 : MkC P w K mg base 2 "Ratio" (spW K "Ratio" pRInit) [.int 1]) (c_Ratio_sub : Fok P w K mg base 4 (d_Ratio_sub.adr K) (spD K pSubR)) (c_Ratio_over : Fok P w K mg base 4 (d_Ratio_over.adr K) (spD K pOver)) : Cal P w K mg base (5 + 1) "numbers_of" (spD K pNumbers) := by
  refine ⟨?_, T.g_numbers_of, (T.d_numbers_of).elim fun _ F => F.kp⟩
  refine fn_d (d := d_numbers_of) (k := 5) (T.d_numbers_of) sc_numbers_of (fun _ _ _ _ _ _ us hl => match us, hl with | [_, _], _ => rfl) ?_ ?_
  · rintro dl r ⟨_, _, _, _, rfl, _⟩; rfl
  · intro cdv A outer s H E hr
    refine ⟨_, (pss_cons (ps_par (i := 2) (j := 3) (by rfl) sc_numbers_of.nd rfl rfl (by decide) rfl rfl (pa_cons (pe_op op_sub (pe_callB call_len_seq (by rfl) T.b_len (by decide +kernel) (pa_cons (pv 0) pa_nil)) pe_int) (pa_cons (pe_cf (c_square_root.mono (by decide)) hr (by rfl) (pa_cons (pe_ix ix_list (pv 0) (pe_un un_neg pe_int) (fun _ _ => rfl)) pa_nil)) pa_nil)) (by rfl))
      (pss_cons (ps_par (i := 4) (j := 5) (by rfl) sc_numbers_of.nd rfl rfl (by decide) rfl rfl (pa_cons (pe_lst (pa_cons (pv 3) pa_nil)) (pa_cons (pe_op (op_ownI (op := .Mult) T.x_first T.m_Ratio_mul T.x_rmul (.inr ⟨_, rfl⟩) T.x_imul.1.choose_spec T.x_imul.2.choose_spec T.x_sub (c_Ratio_mul.mono (by decide)) hr) (pv 3) pe_int) pa_nil)) (by rfl))
      (pss_cons (ps_for PassesOwn.never rfl (pi_range2 (by rfl) T.b_range (pa_cons pe_int (pa_cons (pv 1) pa_nil))) (pg_name (i := 6) sc_numbers_of.nd rfl (.inl rfl))
        (pss_cons (ps_set (i := 7) sc_numbers_of.nd rfl (.inl rfl) (pe_ifExp (pt_cmpR op_le (pv 6) (pv 2) (nomark _)) (pe_ix ix_list (pv 0) (pe_op op_sub (pv 2) (pv 6)) (fun _ _ => rfl)) (pe_mkC (c_mk_Ratio1.mono (by decide)) hr (by rfl) (pa_cons pe_int pa_nil))))
        (pss_cons (ps_for PassesOwn.never rfl (pi_range2 (by rfl) T.b_range (pa_cons pe_int (pa_cons (pv 6) pa_nil))) (pg_name (i := 8) sc_numbers_of.nd rfl (.inl rfl))
          (pss_one (ps_set (i := 7) sc_numbers_of.nd rfl (.inl rfl) (pe_op (op_ownR (op := .Sub) T.x_first T.m_Ratio_sub (c_Ratio_sub.mono (by decide)) hr) (pv 7) (pe_op (op_ownR (op := .Mult) T.x_first T.m_Ratio_mul (c_Ratio_mul.mono (by decide)) hr) (pe_ix ix_list (pv 4) (pv 8) (fun _ _ => rfl)) (pe_ix ix_list (pv 4) (pe_op op_sub (pv 6) (pv 8)) (fun _ _ => rfl)))))))
        (pss_one (ps_expr (pe_bm PySem.F.plainAttrs_list PySem.F.slot_list_append PySem.F.type_list_append mt_append (pv 4) (pa_cons (pe_meC (pv 7) T.cls_Ratio T.m_Ratio_over (c_Ratio_over.mono (by decide)) hr (pa_cons (pv 5) pa_nil)) pa_nil)))))))
      (pss_one (ps_ret (pv 4)))))), ?_⟩
    rintro m dl r ⟨l, s, b, k, rfl, ⟨hg, hk, hkl⟩, rfl⟩
    obtain ⟨l', el⟩ := hg.last
    have ll : l.length ≤ 7 := by have := hg.len; omega
    have s0 := hg.s0
    have b0 := hg.b0
    have f4 : Rt 4 (s, b) := ⟨by show s.natAbs < 2 ^ 4; omega, by show b.natAbs < 2 ^ 4; omega, b0.1⟩
    have at_l : atI (l.map ratD) (-1) = some (.rat (s * s) (b * b)) := by rw [el, List.map_append]; exact atI_last _ _
    refine sd_then (sd_par (x := .int ((l.length - 1 : Nat) : Int)) (y := ratD (s, b)) (ea_cons ((ev_op (ev_len (ev_var rfl)) ev_int rv_int).to (by simp only [List.length_map]; congr 1; omega)) (ea_cons ((ev_call (ea_cons (ev_op (ev_var rfl) (ev_neg ev_int) (rv_ixL at_l)) ea_nil) ⟨s, b, rfl, ⟨by omega, by omega, by omega, by omega⟩, rfl⟩).to (by rw [hg.co])) ea_nil)) rfl) ?_
    refine sd_then (sd_parO (xs := [ratD (s, b)]) (y := ratD (mulR (s, b) (2, 1))) (eo_lst (ea_cons (ev_var rfl) ea_nil) (by simp)) (ev_op (ev_var rfl) ev_int (rv_ownI ⟨(s, b), .int 2, 4, 2, rfl, ⟨.inl ⟨_, rfl⟩, f4, ⟨by show (2:Int).natAbs < 2 ^ 2; decide, by show (1:Int).natAbs < 2 ^ 2; decide, by show (0:Int) < 1; decide⟩, by decide⟩, rfl⟩)) (by decide) rfl) ?_
    generalize ed : mulR (s, b) (2, 1) = dbl
    have fR : ∀ j, j ≤ k → RtL 600 (numLoop l (s, b) j) := fun j hj => (numLoop_rt hg.rt f4 (by show s ≠ 0; omega) j (by omega)).mono (Bn_le j (by omega))
    refine sd_seq (M := fun d => ∃ sa sb sc : Sv, d = [.dat (rl l), .dat (.int ((k : Int) + 1)), .dat (.int ((l.length - 1 : Nat) : Int)), .dat (ratD (s, b)), .own ((numLoop l (s, b) k).map ratD), .dat (ratD dbl), sa, sb, sc])
      (sd_for (it_range2 (a := 1) (n := (k : Int) + 1) (ea_cons ev_int (ea_cons (ev_var rfl) ea_nil)) (by omega)) (fun i ds' => ∃ sa sb sc : Sv, ds' = [.dat (rl l), .dat (.int ((k : Int) + 1)), .dat (.int ((l.length - 1 : Nat) : Int)), .dat (ratD (s, b)), .own ((numLoop l (s, b) i).map ratD), .dat (ratD dbl), sa, sb, sc]) ⟨_, _, _, rfl⟩ ?_ fun ds' h => by rw [show ((k : Int) + 1 - 1).toNat = k from by omega] at h; exact h) ?_
    · rintro i ds' hi ⟨sa, sb, sc, rfl⟩
      have hik : i < k := by omega
      have e1 : (1 + (i : Int)) = ((i + 1 : Nat) : Int) := by omega
      rw [e1]
      have fi := fR i (by omega)
      have fl : (numLoop l (s, b) i).length = i + 1 := numLoop_len i
      have es : numLoop l (s, b) (i + 1) = numLoop l (s, b) i ++ [overR (totR l (numLoop l (s, b) i) (i + 1) i) dbl] := by rw [← ed] <;> rfl
      have tR := fun j hj => totR_rt (place := i + 1) (found := numLoop l (s, b) i) hg.rt (by omega) fi fl j hj
      rw [es]
      generalize numLoop l (s, b) i = found at *
      have fg : ∀ j, j < i + 1 → atI (found.map ratD) ((j : Nat) : Int) = some (ratD (found.getD j (0, 1))) := fun j hj => by
        rw [List.getD_eq_getElem?_getD, List.getElem?_eq_getElem (by omega)]
        exact at_rat (List.getElem?_eq_getElem (by omega))
      have gr : ∀ j, j < i + 1 → Rt 600 (found.getD j (0, 1)) := fun j hj => by
        rw [List.getD_eq_getElem?_getD, List.getElem?_eq_getElem (by omega)]
        exact fi _ (List.getElem_mem _)
      have lx : l[l.length - 1 - (i + 1)]? = some (l.getD (l.length - 1 - (i + 1)) (0, 1)) := by rw [List.getD_eq_getElem?_getD, List.getElem?_eq_getElem (by omega)] <;> rfl
      refine sd_then (sd_set (d := ratD (totR l found (i + 1) 0)) (ev_ifT ((et_test (ev_op (ev_var rfl) (ev_var rfl) rv_bl)).yes (decide_eq_true (by omega))) (ev_op (ev_var rfl) ((ev_op (ev_var rfl) (ev_var rfl) rv_int).to (d' := .int ((l.length - 1 - (i + 1) : Nat) : Int)) (by congr 1; omega)) (rv_ixL (at_rat lx)))) rfl) ?_
      refine sd_seq (M := fun d => ∃ sc : Sv, d = [.dat (rl l), .dat (.int ((k : Int) + 1)), .dat (.int ((l.length - 1 : Nat) : Int)), .dat (ratD (s, b)), .own (found.map ratD), .dat (ratD dbl), .dat (.int ((i + 1 : Nat) : Int)), .dat (ratD (totR l found (i + 1) i)), sc])
        (sd_for (it_range2 (a := 1) (n := ((i + 1 : Nat) : Int)) (ea_cons ev_int (ea_cons (ev_var rfl) ea_nil)) (by omega)) (fun j ds' => ∃ sc : Sv, ds' = [.dat (rl l), .dat (.int ((k : Int) + 1)), .dat (.int ((l.length - 1 : Nat) : Int)), .dat (ratD (s, b)), .own (found.map ratD), .dat (ratD dbl), .dat (.int ((i + 1 : Nat) : Int)), .dat (ratD (totR l found (i + 1) j)), sc]) ⟨_, rfl⟩ ?_ fun ds' h => by rw [show (((i + 1 : Nat) : Int) - 1).toNat = i from by omega] at h; exact h) ?_
      · rintro j ds' hj ⟨sc, rfl⟩
        have hj2 : j < i := by omega
        have e2 : (1 + (j : Int)) = ((j + 1 : Nat) : Int) := by omega
        rw [e2]
        have tr := tR j (by omega)
        have mr := mulR_rt (gr (j + 1) (by omega)) (gr (i + 1 - (j + 1)) (by omega))
        have jb : j * (2 * 600 + 1) ≤ 3 * 1201 := Nat.mul_le_mul (by omega) (by decide)
        refine sd_set (d := ratD (totR l found (i + 1) (j + 1))) (ev_op (ev_var rfl) (ev_op (ev_ixO (d := ratD (found.getD (j + 1) (0, 1))) rfl (ev_var rfl) (fg _ (by omega))) (ev_ixO (d := ratD (found.getD (i + 1 - (j + 1)) (0, 1))) rfl ((ev_op (ev_var rfl) (ev_var rfl) rv_int).to (d' := .int ((i + 1 - (j + 1) : Nat) : Int)) (by congr 1; omega)) (fg _ (by omega))) (rv_own ⟨_, ratD _, 600, 600, rfl, ⟨.inr ⟨_, _, rfl⟩, gr _ (by omega), gr _ (by omega), by decide⟩, rfl⟩)) (rv_own ⟨_, ratD (mulR _ _), _, _, rfl, ⟨.inr ⟨_, _, rfl⟩, tr, mr, by omega⟩, rfl⟩)) ⟨_, rfl⟩
      · rintro d ⟨sc, rfl⟩
        have tr := tR i (by omega)
        have ib : i * (2 * 600 + 1) ≤ 3 * 1201 := Nat.mul_le_mul (by omega) (by decide)
        have dR : Rt 6 dbl := by rw [← ed]; exact mulR_rt (k := 2) (y := (2, 1)) f4 ⟨by show (2:Int).natAbs < 2 ^ 2; decide, by show (1:Int).natAbs < 2 ^ 2; decide, by show (0:Int) < 1; decide⟩
        have d0 : dbl.1 ≠ 0 := by
          have hb : b * 1 ≠ 0 := by omega
          obtain ⟨q1, _, _, _⟩ := rN_spec (t := s * 2) hb
          intro z
          rw [← ed] at z
          have e : (mulR (s, b) (2, 1)).1 = (rN (s * 2) (b * 1)).1 := rfl
          rw [e] at z
          rw [z, Int.mul_zero] at q1
          omega
        refine sd_app (i := 4) (xs := found.map ratD) rfl (ev_me (ev_var rfl) (ea_cons (ev_var rfl) ea_nil) (fun Hb v hv => sh_rat (h := by decide) v hv) ⟨totR l found (i + 1) i, ratD dbl, _, 6, rfl, ⟨.inr ⟨_, _, rfl⟩, tr, dR, by omega, d0⟩, rfl⟩) (by rw [List.length_map]; omega) ⟨_, _, _, by rw [List.map_append] <;> rfl⟩
    · rintro d ⟨sa, sb, sc, rfl⟩
      exact sd_freeze (i := 4) rfl (sd_ret (ev_var rfl) rfl)

end RR
/-! ### RW9 -/
namespace RR
open PySem PySem.Spec PyProof.Rows L2 Evl

theorem et_deg {m : Md} {K : PySem.W.Frag} {mg : Str → Option Value} (T : Txt K mg) {ds : Ds} {ta : TE} {n : Int} (ha : EvD m K ta ds (.int n)) (h : n = 2 ∨ n = 4 ∨ n = 6) : EvT m K (tTest (tOp (rIn K true) ta (tC (.ref (He.ga K "DEGREES"))))) ds false := fun Hb H σ Q S k =>
  ha Hb H σ _ S fun v Hb1 H1 g hv => by
    refine ⟨_, [.int 2, .int 4, .int 6, .int 8], rfl, .inr (T.x_DEGREES H1), ?_, rfl, _, rfl, ?_⟩
    · rw [show v = .int n from hv] <;> rfl
    · rw [show v = .int n from hv]
      have e : (if true = true then !inV (V.int n) [.int 2, .int 4, .int 6, .int 8] else inV (V.int n) [.int 2, .int 4, .int 6, .int 8]) = false := by
        rcases h with h | h | h <;> subst h <;> rfl
      rw [e]
      exact k Hb1 H1 g
theorem ratOf_map (l : List (Int × Int)) : (l.map ratD).map ratOf = l := by
  rw [List.map_map]
  exact (List.map_congr_left fun x _ => rfl).trans (List.map_id l)
theorem numD_map (l : List (Int × Int)) : ∀ d ∈ l.map ratD, NumD d := fun d hd => by
  obtain ⟨x, _, rfl⟩ := List.mem_map.mp hd
  exact .inr ⟨_, _, rfl⟩
abbrev rootD (l : List (Int × Int)) (s b : Int) : Dat := .root (rl l) (rl (nearR l (s, b))) (rl (restR l (s, b)))
theorem GoodL.size {l : List (Int × Int)} {s b : Int} (h : GoodL l s b) : l.length ≤ 7 ∧ RtL 600 (nearR l (s, b)) ∧ (nearR l (s, b)).length = l.length / 2 + 1 := by
  have hl : l.length ≤ 7 := by have := h.len; omega
  have s0 := h.s0
  have b0 := h.b0
  refine ⟨hl, fun r hr => ?_, by unfold nearR; rw [List.length_reverse, numLoop_len]⟩
  have := numLoop_rt (first := (s, b)) h.rt ⟨by show s.natAbs < 2 ^ 4; omega, by show b.natAbs < 2 ^ 4; omega, b0.1⟩ (by show s ≠ 0; omega) (l.length / 2) (by have := h.len; omega)
  exact (this r (List.mem_reverse.mp hr)).mono (Bn_le _ (by omega))

theorem sc_right_poly : FnScope ["value", "found"] ["value"] (defScope s_right_poly) := ⟨rfl, rfl, rfl, by decide +kernel, rfl, by decide +kernel, by decide +kernel⟩
def pRightPoly : List Dat → Dat → Prop := fun dl r => ∃ (xs : List Dat) (s b : Int), dl = [.lst xs] ∧ ((∀ d ∈ xs, NumD d) ∧ xs.length ≤ 61 ∧ GoodL (trimR (xs.map ratOf)) s b) ∧ r = rl (trimR (xs.map ratOf))
theorem ok_right_poly {P : Program} {w : World} {K : PySem.W.Frag} {mg : Str → Option Value} {base : Heap} (T : Txt K mg) (c_want_poly : Cal P w K mg base 5 "want_poly" (spD K pWantPoly)) (c_square_root : Cal P w K mg base 5 "square_root" (spD K pSquareRoot)) (c_is_squared : Cal P w K mg base 6 "is_squared" (spD K pIsSquared)) : Cal P w K mg base (6 + 1) "right_poly" (spD K pRightPoly) := by
  refine ⟨?_, T.g_right_poly, (T.d_right_poly).elim fun _ F => F.kp⟩
  refine fn_d (d := d_right_poly) (k := 6) (T.d_right_poly) sc_right_poly (fun _ _ _ _ _ _ us hl => match us, hl with | [_], _ => rfl) ?_ ?_
  · rintro dl r ⟨_, _, _, rfl, _⟩; rfl
  · intro cdv A outer s H E hr
    refine ⟨_, (pss_cons (ps_set (i := 1) sc_right_poly.nd rfl (.inl rfl) (pe_cf (c_want_poly.mono (by decide)) hr (by rfl) (pa_cons (pv 0) pa_nil)))
      (pss_cons (ps_if (pt_cmpR op_notIn_seq (pe_op op_sub (pe_callB call_len_seq (by rfl) T.b_len (by decide +kernel) (pa_cons (pv 1) pa_nil)) pe_int) (pe_glob (v := .ref (He.ga K "DEGREES")) rfl T.g_DEGREES rfl) (by rfl))
        (pss_one ps_never)
        pss_nil)
      (pss_cons (ps_if (pt_cmpR op_isN (pe_cf (c_square_root.mono (by decide)) hr (by rfl) (pa_cons (pe_ix ix_list (pv 1) (pe_un un_neg pe_int) (fun _ _ => rfl)) pa_nil)) pe_non (nomark _))
        (pss_one ps_never)
        pss_nil)
      (pss_cons (ps_if (pt_val (pe_cf (c_is_squared.mono (by decide)) hr (by rfl) (pa_cons (pv 1) pa_nil)))
        (pss_one ps_never)
        pss_nil)
      (pss_one (ps_ret (pv 1))))))), ?_⟩
    rintro m dl r ⟨xs, s, b, rfl, ⟨hx, hl, hg⟩, rfl⟩
    refine sd_then (sd_set (ev_call (ea_cons (ev_var rfl) ea_nil) ⟨xs, rfl, ⟨hx, hl⟩, rfl⟩) rfl) ?_
    generalize trimR (xs.map ratOf) = l at *
    obtain ⟨l', el⟩ := hg.last
    have s0 := hg.s0
    have b0 := hg.b0
    have at_l : atI (l.map ratD) (-1) = some (.rat (s * s) (b * b)) := by rw [el, List.map_append]; exact atI_last _ _
    refine sd_then (sd_ifF (et_deg T (n := (l.length : Int) - 1) ((ev_op (ev_len (ev_var rfl)) ev_int rv_int).to (by rw [List.length_map])) (by have := hg.len; omega)) (sd_next rfl)) ?_
    refine sd_then (sd_ifF ((et_test (ev_op (ev_call (ea_cons (ev_op (ev_var rfl) (ev_neg ev_int) (rv_ixL at_l)) ea_nil) ⟨s, b, rfl, ⟨by omega, by omega, by omega, by omega⟩, rfl⟩) ev_non rv_isN)).nay rfl) (sd_next rfl)) ?_
    refine sd_then (sd_ifF ((et_B (ev_call (ea_cons (ev_var rfl) ea_nil) ⟨l, rfl, ⟨hg.rt, by have := hg.len; omega, hg.euc⟩, rfl⟩)).nay (by rw [hg.sq] <;> rfl)) (sd_next rfl)) ?_
    exact sd_ret (ev_var rfl) rfl

theorem sc_Root_init : FnScope ["self", "poly"] ["self", "poly"] (defScope s_Root_init) := ⟨rfl, rfl, rfl, by decide +kernel, rfl, by decide +kernel, by decide +kernel⟩
def pRootInit : List Str → List Dat → List Dat → Dat → List Str → List Dat → Prop := fun ns xs dl r ns' xs' => ∃ (vs : List Dat) (s b : Int), ns = [] ∧ xs = [] ∧ dl = [.lst vs] ∧ ((∀ d ∈ vs, NumD d) ∧ vs.length ≤ 61 ∧ GoodL (trimR (vs.map ratOf)) s b) ∧ r = .non ∧ ns' = (["own_poly", "own_nearest", "own_rest"] : List Str) ∧ xs' = [rl (trimR (vs.map ratOf)), rl (nearR (trimR (vs.map ratOf)) (s, b)), rl (restR (trimR (vs.map ratOf)) (s, b))]
theorem ok_Root_init {P : Program} {w : World} {K : PySem.W.Frag} {mg : Str → Option Value} {base : Heap} (T : Txt K mg) (c_right_poly : Cal P w K mg base 7 "right_poly" (spD K pRightPoly)) (c_numbers_of : Cal P w K mg base 6 "numbers_of" (spD K pNumbers)) (c_square_of : Cal P w K mg base 5 "square_of" (spD K pSquareOf)) (c_less_of : Cal P w K mg base 6 "less_of" (spD K pLessOf)) : ∃ fd, FunD K d_Root_init.name d_Root_init.qual (defArgs s_Root_init) (defBody s_Root_init) (defScope s_Root_init) (d_Root_init.dfl.map (He.Dv.v K)) [] (d_Root_init.adr K) fd ∧ FnOk P w K mg base CX0 (7 + 1) (d_Root_init.adr K) fd ["self", "poly"] (spW K "Root" pRootInit) := by
  obtain ⟨fd, F⟩ := T.d_Root_init
  refine ⟨fd, F, fn_m (d := d_Root_init) (k := 7) (C := "Root") F sc_Root_init ?_ ?_⟩
  · rintro ns xs dl r ns' xs' ⟨_, _, _, rfl, rfl, rfl, _⟩; rfl
  · intro cdv A outer s H E hr
    refine ⟨_, (pss_cons (ps_fld (pv 0) (pe_ifExp (pt_val (pe_callB call_isi (by rfl) T.b_isinstance (by decide +kernel) (pa_cons (pv 1) (pa_cons (pe_glob (v := .ref (He.ga K "Known")) rfl T.g_Known rfl) pa_nil)))) (pe_fld (pv 1) rfl) (pe_cf (c_right_poly.mono (by decide)) hr (by rfl) (pa_cons (pv 1) pa_nil))) rfl)
      (pss_cons (ps_fld (pv 0) (pe_revL (pe_cf (c_numbers_of.mono (by decide)) hr (by rfl) (pa_cons (pe_fld (pv 0) rfl) (pa_cons (pe_op op_add (pe_op op_fdiv (pe_callB call_len_seq (by rfl) T.b_len (by decide +kernel) (pa_cons (pe_fld (pv 0) rfl) pa_nil)) pe_int) pe_int) pa_nil)))) rfl)
      (pss_one (ps_fld (pv 0) (pe_cf (c_less_of.mono (by decide)) hr (by rfl) (pa_cons (pe_fld (pv 0) rfl) (pa_cons (pe_cf (c_square_of.mono (by decide)) hr (by rfl) (pa_cons (pe_fld (pv 0) rfl) pa_nil)) pa_nil))) rfl)))), ?_⟩
    rintro m ns xs dl r ns' xs' ⟨vs, s, b, rfl, rfl, rfl, ⟨hx, hl, hg⟩, rfl, rfl, rfl⟩
    obtain ⟨l7, nr, nl⟩ := hg.size
    refine sdm_then (sd_fldN (C := "Root") (i := 0) (ns := []) (xs := []) (f := "own_poly") rfl (one_of rfl) (ev_ifF (et_B (ev_isi T (ev_var rfl) (.own _) T.k_list_Known)) (ev_call (ea_cons (ev_var rfl) ea_nil) ⟨vs, s, b, rfl, ⟨hx, hl, hg⟩, rfl⟩)) T.cls_Root T.no_Root_own_poly (by decide) rfl (by decide) rfl) ?_
    generalize trimR (vs.map ratOf) = l at *
    have fp : ∀ ds2 : Ds, ∀ ns2 xs2, ds2[0]? = some (.wk "Root" ("own_poly" :: ns2) (rl l :: xs2)) → EvD m K (tFld K (tVar 0) "own_poly") ds2 (rl l) := fun ds2 ns2 xs2 q => ev_fW (k := 0) q T.cls_Root T.no_Root_own_poly ⟨rfl, fun j hj => absurd hj (Nat.not_lt_zero _)⟩ rfl
    refine sdm_then (sd_fldN (C := "Root") (i := 0) (ns := ["own_poly"]) (xs := [rl l]) (f := "own_nearest") (d := rl (nearR l (s, b))) rfl (one_of rfl) ((EvO.dd (eo_rev (ev_call (ea_cons (fp _ _ _ rfl) (ea_cons ((ev_op (ev_op (ev_len (fp _ _ _ rfl)) ev_int (rv_intC ⟨by decide, by decide⟩)) ev_int rv_int).to (d' := .int (((l.length / 2 : Nat) : Int) + 1)) (by simp only [List.length_map]; congr 1)) ea_nil)) ⟨l, s, b, l.length / 2, rfl, ⟨hg, by omega, by have := hg.len; omega⟩, rfl⟩))).to (by rw [nearR, ← List.map_reverse])) T.cls_Root T.no_Root_own_nearest (by decide) rfl (by decide) rfl) ?_
    have fn : ∀ ds2 : Ds, ds2[0]? = some (.wk "Root" ["own_poly", "own_nearest"] [rl l, rl (nearR l (s, b))]) → EvD m K (tFld K (tVar 0) "own_nearest") ds2 (rl (nearR l (s, b))) := fun ds2 q => ev_fW (k := 1) q T.cls_Root T.no_Root_own_nearest ⟨rfl, fun j hj => by
      have : j = 0 := by omega
      subst this
      decide⟩ rfl
    have z1 : 600 * (nearR l (s, b)).length ≤ 600 * 4 := Nat.mul_le_mul_left _ (by omega)
    have pb := prodR_rt nr nr (by omega) (by omega)
    refine sdm_end (sd_fldN (C := "Root") (i := 0) (ns := ["own_poly", "own_nearest"]) (xs := [rl l, rl (nearR l (s, b))]) (f := "own_rest") (d := rl (restR l (s, b))) rfl (one_of rfl) (ev_call (dl := [rl l, rl (prodR (nearR l (s, b)) (nearR l (s, b)))]) (ea_cons (fp _ _ _ rfl) (ea_cons (ev_call (ea_cons (fn _ rfl) ea_nil) ⟨_, 600, rfl, ⟨nr, by omega, by omega⟩, rfl⟩) ea_nil)) ⟨l, _, 10, _, rfl, ⟨hg.rt, pb, by omega, by omega, ?_⟩, rfl⟩) T.cls_Root T.no_Root_own_rest (by decide) rfl (by decide) ⟨rfl, rfl⟩)
    unfold prodR
    split
    · simp
    · rw [List.length_map, rawMul_len, wholesR_len]; omega

theorem mk_Root {P : Program} {w : World} {K : PySem.W.Frag} {mg : Str → Option Value} {base : Heap} (T : Txt K mg) {k : Nat} (h : ∃ fd, FunD K d_Root_init.name d_Root_init.qual (defArgs s_Root_init) (defBody s_Root_init) (defScope s_Root_init) (d_Root_init.dfl.map (He.Dv.v K)) [] (d_Root_init.adr K) fd ∧ FnOk P w K mg base CX0 k (d_Root_init.adr K) fd ["self", "poly"] (spW K "Root" pRootInit)) :
    MkC P w K mg base k "Root" (spW K "Root" pRootInit) [] := by
  obtain ⟨fd, F, ok⟩ := h
  exact ⟨⟨_, fd, _, [], T.mkr_Root, ok, FunD.bindsN F (fun _ _ _ _ _ _ us hl => match us, hl with | [_, _], _ => rfl), .nil⟩, T.g_Root⟩
theorem is_root {K : PySem.W.Frag} {Hb : Hp} {l dx : Addr} {fv : List V} {a b c : Dat} (h : Hb l = some (.ins (He.ga K "Root") dx ((["own_poly", "own_nearest", "own_rest"] : List Str).zip fv))) (hv : IsL K Hb [a, b, c] fv) : Is K Hb (.root a b c) (.ref l) := by
  obtain ⟨v, r, e1, h1, w, r2, e2, h2, u, r3, e3, h3, e4⟩ := hv
  subst e1 e2 e3
  rw [show r3 = [] from e4] at h
  exact ⟨l, dx, v, w, u, rfl, h, h1, h2, h3⟩

theorem sc_Root_half : FnScope ["self"] ["self"] (defScope s_Root_half) := ⟨rfl, rfl, rfl, by decide +kernel, rfl, by decide +kernel, by decide +kernel⟩
def pHalf : List Dat → Dat → Prop := fun dl r => ∃ (l : List (Int × Int)) (a c : Dat), dl = [.root (rl l) a c] ∧ True ∧ r = .int ((l.length / 2 : Nat) : Int)
theorem ok_Root_half {P : Program} {w : World} {K : PySem.W.Frag} {mg : Str → Option Value} {base : Heap} (T : Txt K mg) : Fok P w K mg base (0 + 1) (d_Root_half.adr K) (spD K pHalf) := by
  refine fok_d (d := d_Root_half) (k := 0) (T.d_Root_half) sc_Root_half (fun _ _ _ _ _ _ us hl => match us, hl with | [_], _ => rfl) ?_ ?_
  · rintro dl r ⟨_, _, _, rfl, _⟩; rfl
  · intro cdv A outer s H E hr
    refine ⟨_, (pss_one (ps_ret (pe_op op_fdiv (pe_callB call_len_seq (by rfl) T.b_len (by decide +kernel) (pa_cons (pe_fld (pv 0) rfl) pa_nil)) pe_int))), ?_⟩
    rintro m dl r ⟨l, a, c, rfl, _, rfl⟩
    exact sd_ret ((ev_op (ev_len ((ev_fRoot T.cls_Root (ev_var rfl)).1 T.no_Root_own_poly)) ev_int (rv_intC ⟨by decide, by decide⟩)).to (by simp only [List.length_map]; congr 1)) rfl

theorem sc_Root_nearest : FnScope ["self"] ["self"] (defScope s_Root_nearest) := ⟨rfl, rfl, rfl, by decide +kernel, rfl, by decide +kernel, by decide +kernel⟩
def pNearest : List Dat → Dat → Prop := fun dl r => ∃ (l : List (Int × Int)) (a c : Dat), dl = [.root a (rl l) c] ∧ True ∧ r = rl l
theorem ok_Root_nearest {P : Program} {w : World} {K : PySem.W.Frag} {mg : Str → Option Value} {base : Heap} (T : Txt K mg) : Fok P w K mg base (0 + 1) (d_Root_nearest.adr K) (spD K pNearest) := by
  refine fok_d (d := d_Root_nearest) (k := 0) (T.d_Root_nearest) sc_Root_nearest (fun _ _ _ _ _ _ us hl => match us, hl with | [_], _ => rfl) ?_ ?_
  · rintro dl r ⟨_, _, _, rfl, _⟩; rfl
  · intro cdv A outer s H E hr
    refine ⟨_, (pss_one (ps_ret (pe_callTy call_list_of (by rfl) T.b_list (by decide +kernel) (pa_cons (pe_fld (pv 0) rfl) pa_nil)))), ?_⟩
    rintro m dl r ⟨l, a, c, rfl, _, rfl⟩
    exact sd_ret (EvO.dd (eo_list ((ev_fRoot T.cls_Root (ev_var rfl)).2 T.no_Root_own_nearest))) rfl

theorem sc_want_root : FnScope ["value"] ["value"] (defScope s_want_root) := ⟨rfl, rfl, rfl, by decide +kernel, rfl, by decide +kernel, by decide +kernel⟩
def pWantRoot : List Dat → Dat → Prop := fun dl r => ∃ (a b c : Dat), dl = [.root a b c] ∧ True ∧ r = .root a b c
theorem ok_want_root {P : Program} {w : World} {K : PySem.W.Frag} {mg : Str → Option Value} {base : Heap} (T : Txt K mg) : Cal P w K mg base (0 + 1) "want_root" (spD K pWantRoot) := by
  refine ⟨?_, T.g_want_root, (T.d_want_root).elim fun _ F => F.kp⟩
  refine fn_d (d := d_want_root) (k := 0) (T.d_want_root) sc_want_root (fun _ _ _ _ _ _ us hl => match us, hl with | [_], _ => rfl) ?_ ?_
  · rintro dl r ⟨_, _, _, rfl, _⟩; rfl
  · intro cdv A outer s H E hr
    refine ⟨_, (pss_cons (ps_if (pt_not (pt_val (pe_callB call_isi (by rfl) T.b_isinstance (by decide +kernel) (pa_cons (pv 0) (pa_cons (pe_glob (v := .ref (He.ga K "Root")) rfl T.g_Root rfl) pa_nil)))))
        (pss_one ps_never)
        pss_nil)
      (pss_one (ps_ret (pv 0)))), ?_⟩
    rintro m dl r ⟨a, b, c, rfl, _, rfl⟩
    refine sd_then (sd_ifF (et_notT (et_B (ev_isi T (ev_var rfl) (.own _) T.k_Root_Root))) (sd_next rfl)) ?_
    exact sd_ret (ev_var rfl) rfl

theorem sc_is_prime_number : FnScope ["number", "part"] ["number"] (defScope s_is_prime_number) := ⟨rfl, rfl, rfl, by decide +kernel, rfl, by decide +kernel, by decide +kernel⟩
def pIsPrimeN : List Dat → Dat → Prop := fun dl r => ∃ (p : Int), dl = [.int p] ∧ Pr p ∧ r = .bl true
theorem ok_is_prime_number {P : Program} {w : World} {K : PySem.W.Frag} {mg : Str → Option Value} {base : Heap} (T : Txt K mg) : Cal P w K mg base (0 + 1) "is_prime_number" (spD K pIsPrimeN) := by
  refine ⟨?_, T.g_is_prime_number, (T.d_is_prime_number).elim fun _ F => F.kp⟩
  refine fn_d (d := d_is_prime_number) (k := 0) (T.d_is_prime_number) sc_is_prime_number (fun _ _ _ _ _ _ us hl => match us, hl with | [_], _ => rfl) ?_ ?_
  · rintro dl r ⟨_, rfl, _⟩; rfl
  · intro cdv A outer s H E hr
    refine ⟨_, (pss_cons (ps_if (PW.pt (pw_or (pt_cmpR op_lt (pv 0) pe_int (nomark _)) (pw_or (pt_cmpR op_ge (pv 0) (pe_glob (v := .int 10000) rfl T.c_BELOW.choose_spec ⟨_, rfl⟩) (nomark _)) (pw_or1 (pt_cmpR op_eq (pe_op op_mod (pv 0) pe_int) pe_int (nomark _))))))
        (pss_one (ps_ret pe_bl))
        pss_nil)
      (pss_cons (ps_set (i := 1) sc_is_prime_number.nd rfl (.inl rfl) pe_int)
      (pss_cons (ps_while PassesOwn.never (pt_cmpR op_le (pe_op op_mul (pv 1) (pv 1)) (pv 0) (nomark _))
        (pss_cons (ps_if (pt_cmpR op_eq (pe_op op_mod (pv 0) (pv 1)) pe_int (nomark _))
          (pss_one (ps_ret pe_bl))
          pss_nil)
        (pss_one (ps_set (i := 1) sc_is_prime_number.nd rfl (.inl rfl) (pe_op op_add (pv 1) pe_int)))))
      (pss_one (ps_ret pe_bl))))), ?_⟩
    rintro m dl r ⟨p, rfl, hp, rfl⟩
    have hp2 := hp.pos
    have odd : p % 2 = 1 := by rcases hp with h | h | h | h | h <;> subst h <;> rfl
    refine sd_then (sd_ifF (et_orF ((et_test (ev_op (ev_var rfl) ev_int rv_bl)).nay (decide_eq_false (by omega))) (et_orF ((et_test (ev_op (ev_var rfl) ev_int rv_bl)).nay (decide_eq_false (by omega))) ((et_test (ev_op (ev_op (ev_var rfl) ev_int (rv_intC (by show (0:Int) < 2; decide))) ev_int rv_eq)).nay (decide_eq_false (by omega))))) (sd_next rfl)) ?_
    refine sd_then (sd_set ev_int rfl) ?_
    refine sd_seq (M := fun _ => True) (sd_while (fun k ds' => (ds' = [.dat (.int p), .dat (.int 3)] ∧ k = 1) ∨ (ds' = [.dat (.int p), .dat (.int 5)] ∧ k = 0)) 1 (.inl ⟨rfl, rfl⟩) ?_) ?_
    · rintro k ds' (⟨rfl, rfl⟩ | ⟨rfl, rfl⟩)
      · by_cases c : 9 ≤ p
        · refine ⟨true, (et_test (ev_op (ev_op (ev_var rfl) (ev_var rfl) (rv_intC (.inl ⟨by decide, by decide⟩))) (ev_var rfl) rv_bl)).yes (decide_eq_true (by omega)), fun _ => ?_, (fun h => by cases h)⟩
          have n3 : p % 3 ≠ 0 := by rcases hp with h | h | h | h | h <;> subst h <;> omega
          refine sd_then (sd_ifF ((et_test (ev_op (ev_op (ev_var rfl) (ev_var rfl) (rv_intC (by show (0:Int) < 3; decide))) ev_int rv_eq)).nay (decide_eq_false n3)) (sd_next rfl)) ?_
          exact sd_set (ev_op (ev_var rfl) ev_int rv_int) ⟨0, by decide, .inr ⟨rfl, rfl⟩⟩
        · exact ⟨false, (et_test (ev_op (ev_op (ev_var rfl) (ev_var rfl) (rv_intC (.inl ⟨by decide, by decide⟩))) (ev_var rfl) rv_bl)).nay (decide_eq_false (by omega)), (fun h => by cases h), fun _ => trivial⟩
      · exact ⟨false, (et_test (ev_op (ev_op (ev_var rfl) (ev_var rfl) (rv_intC (.inl ⟨by decide, by decide⟩))) (ev_var rfl) rv_bl)).nay (decide_eq_false (by omega)), (fun h => by cases h), fun _ => trivial⟩
    · intro d _
      exact sd_ret ev_bl rfl

theorem sc_is_prime : FnScope ["value"] ["value"] (defScope s_is_prime) := ⟨rfl, rfl, rfl, by decide +kernel, rfl, by decide +kernel, by decide +kernel⟩
def pIsPrime : List Dat → Dat → Prop := fun dl r => ∃ (p : Int), dl = [.int p] ∧ Pr p ∧ r = .bl true
theorem ok_is_prime {P : Program} {w : World} {K : PySem.W.Frag} {mg : Str → Option Value} {base : Heap} (T : Txt K mg) (c_is_prime_number : Cal P w K mg base 1 "is_prime_number" (spD K pIsPrimeN)) (c_is_integer : Cal P w K mg base 1 "is_integer" (spD K pIsInt)) : Cal P w K mg base (1 + 1) "is_prime" (spD K pIsPrime) := by
  refine ⟨?_, T.g_is_prime, (T.d_is_prime).elim fun _ F => F.kp⟩
  refine fn_d (d := d_is_prime) (k := 1) (T.d_is_prime) sc_is_prime (fun _ _ _ _ _ _ us hl => match us, hl with | [_], _ => rfl) ?_ ?_
  · rintro dl r ⟨_, rfl, _⟩; rfl
  · intro cdv A outer s H E hr
    refine ⟨_, (pss_one (ps_ret (pe_and (pe_cf (c_is_integer.mono (by decide)) hr (by rfl) (pa_cons (pv 0) pa_nil)) (pe_one (pe_cf (c_is_prime_number.mono (by decide)) hr (by rfl) (pa_cons (pv 0) pa_nil)))))), ?_⟩
    rintro m dl r ⟨p, rfl, hp, rfl⟩
    exact sd_ret (ev_andT (ev_call (ea_cons (ev_var rfl) ea_nil) ⟨.int p, rfl, .inl ⟨p, rfl⟩, rfl⟩) (ev_call (ea_cons (ev_var rfl) ea_nil) ⟨p, rfl, hp, rfl⟩)) rfl

theorem sc_want_prime : FnScope ["value"] ["value"] (defScope s_want_prime) := ⟨rfl, rfl, rfl, by decide +kernel, rfl, by decide +kernel, by decide +kernel⟩
def pWantPrime : List Dat → Dat → Prop := fun dl r => ∃ (p : Int), dl = [.int p] ∧ Pr p ∧ r = .int p
theorem ok_want_prime {P : Program} {w : World} {K : PySem.W.Frag} {mg : Str → Option Value} {base : Heap} (T : Txt K mg) (c_is_prime : Cal P w K mg base 2 "is_prime" (spD K pIsPrime)) : Cal P w K mg base (2 + 1) "want_prime" (spD K pWantPrime) := by
  refine ⟨?_, T.g_want_prime, (T.d_want_prime).elim fun _ F => F.kp⟩
  refine fn_d (d := d_want_prime) (k := 2) (T.d_want_prime) sc_want_prime (fun _ _ _ _ _ _ us hl => match us, hl with | [_], _ => rfl) ?_ ?_
  · rintro dl r ⟨_, rfl, _⟩; rfl
  · intro cdv A outer s H E hr
    refine ⟨_, (pss_cons (ps_if (pt_not (pt_val (pe_cf (c_is_prime.mono (by decide)) hr (by rfl) (pa_cons (pv 0) pa_nil))))
        (pss_one ps_never)
        pss_nil)
      (pss_one (ps_ret (pv 0)))), ?_⟩
    rintro m dl r ⟨p, rfl, hp, rfl⟩
    refine sd_then (sd_ifF (et_notT (et_B (ev_call (ea_cons (ev_var rfl) ea_nil) ⟨p, rfl, hp, rfl⟩))) (sd_next rfl)) ?_
    exact sd_ret (ev_var rfl) rfl

theorem sc_rests_in : FnScope ["poly", "prime", "found", "number"] ["poly", "prime"] (defScope s_rests_in) := ⟨rfl, rfl, rfl, by decide +kernel, rfl, by decide +kernel, by decide +kernel⟩
def pRestsIn : List Dat → Dat → Prop := fun dl r => ∃ (l : List (Int × Int)) (p : Int), dl = [rl l, .int p] ∧ (Pr p ∧ Away p l ∧ l.length ≤ 1000) ∧ r = il (restsM p l)
theorem ok_rests_in {P : Program} {w : World} {K : PySem.W.Frag} {mg : Str → Option Value} {base : Heap} (T : Txt K mg) (c_Ratio_bottom : Fok P w K mg base 1 (d_Ratio_bottom.adr K) (spD K pBottom)) (c_Ratio_top : Fok P w K mg base 1 (d_Ratio_top.adr K) (spD K pTop)) (c_undone_rest : Cal P w K mg base 1 "undone_rest" (spD K pInv)) (c_without_noughts : Cal P w K mg base 1 "without_noughts" (spD K pTrim)) : Cal P w K mg base (2 + 1) "rests_in" (spD K pRestsIn) := by
  refine ⟨?_, T.g_rests_in, (T.d_rests_in).elim fun _ F => F.kp⟩
  refine fn_d (d := d_rests_in) (k := 2) (T.d_rests_in) sc_rests_in (fun _ _ _ _ _ _ us hl => match us, hl with | [_, _], _ => rfl) ?_ ?_
  · rintro dl r ⟨_, _, rfl, _⟩; rfl
  · intro cdv A outer s H E hr
    refine ⟨_, (pss_cons (ps_set (i := 2) sc_rests_in.nd rfl (.inl rfl) (pe_lst pa_nil))
      (pss_cons (ps_for PassesOwn.never rfl (pi_list (pv 0)) (pg_name (i := 3) sc_rests_in.nd rfl (.inl rfl))
        (pss_cons (ps_if (pt_cmpR op_eq (pe_op op_mod (pe_prC (pv 3) T.cls_Ratio T.xp_Ratio_bottom (c_Ratio_bottom.mono (by decide)) hr) (pv 1)) pe_int (nomark _))
          (pss_one (ps_ret pe_non))
          pss_nil)
        (pss_one (ps_expr (pe_bm PySem.F.plainAttrs_list PySem.F.slot_list_append PySem.F.type_list_append mt_append (pv 2) (pa_cons (pe_op op_mod (pe_op op_mul (pe_prC (pv 3) T.cls_Ratio T.xp_Ratio_top (c_Ratio_top.mono (by decide)) hr) (pe_cf (c_undone_rest.mono (by decide)) hr (by rfl) (pa_cons (pe_prC (pv 3) T.cls_Ratio T.xp_Ratio_bottom (c_Ratio_bottom.mono (by decide)) hr) (pa_cons (pv 1) pa_nil)))) (pv 1)) pa_nil))))))
      (pss_one (ps_ret (pe_cf (c_without_noughts.mono (by decide)) hr (by rfl) (pa_cons (pv 2) pa_nil)))))), ?_⟩
    rintro m dl r ⟨l, p, rfl, ⟨hp, ha, hl⟩, rfl⟩
    have hp2 := hp.pos
    refine sd_then (sd_own (xs := []) (eo_lst ea_nil (by simp)) rfl) ?_
    refine sd_seq (M := fun d => ∃ sa, d = [.dat (rl l), .dat (.int p), .own ((l.map fun r => r.1 * inv p r.2 % p).map Dat.int), sa]) (sd_for (it_list (ev_var rfl)) (fun i ds' => ∃ sa, ds' = [.dat (rl l), .dat (.int p), .own (((l.take i).map fun r => r.1 * inv p r.2 % p).map Dat.int), sa]) ⟨_, rfl⟩ ?_ fun ds' ⟨sa, e⟩ => ⟨sa, by rw [List.length_map, List.take_length] at e; exact e⟩) ?_
    · rintro i ds' hi ⟨sa, rfl⟩
      rw [List.length_map] at hi
      simp only [List.getElem?_map, List.getElem?_eq_getElem hi, Option.map_some]
      have hb := ha l[i] (List.getElem_mem _)
      have e : l.take (i + 1) = l.take i ++ [l[i]] := by rw [List.take_add_one, List.getElem?_eq_getElem hi] <;> rfl
      obtain ⟨i0, i1⟩ := inv_range (n := (l[i]).2) hp
      have bt : ∀ ds2 : Ds, ds2[3]? = some (.dat (ratD l[i])) → EvD m K (tProp (He.ga K "Ratio") (spD K pBottom) [] E0 (tVar 3)) ds2 (.int (l[i]).2) := fun ds2 q => ev_pr (ev_var q) sh_ratP ⟨(l[i]).1, (l[i]).2, rfl, trivial, rfl⟩
      have tp : ∀ ds2 : Ds, ds2[3]? = some (.dat (ratD l[i])) → EvD m K (tProp (He.ga K "Ratio") (spD K pTop) [] E0 (tVar 3)) ds2 (.int (l[i]).1) := fun ds2 q => ev_pr (ev_var q) sh_ratP ⟨(l[i]).1, (l[i]).2, rfl, trivial, rfl⟩
      refine sd_then (sd_ifF ((et_test (ev_op (ev_op (bt _ rfl) (ev_var rfl) (rv_intC (by omega))) ev_int rv_eq)).nay (decide_eq_false hb)) (sd_next rfl)) ?_
      refine sd_app (i := 2) (xs := ((l.take i).map fun r => r.1 * inv p r.2 % p).map Dat.int) rfl (ev_op (ev_op (tp _ rfl) (ev_call (ea_cons (bt _ rfl) (ea_cons (ev_var rfl) ea_nil)) ⟨(l[i]).2, p, rfl, ⟨hp, hb⟩, rfl⟩) (rv_intC (.inr ⟨by omega, by omega⟩))) (ev_var rfl) (rv_intC (by omega))) (by simp only [List.length_map, List.length_take]; omega) ⟨_, by rw [e, List.map_append, List.map_append] <;> rfl⟩
    · rintro d ⟨sa, rfl⟩
      exact sd_freeze (i := 2) rfl (sd_ret (ev_call (ea_cons (ev_var rfl) ea_nil) ⟨_, rfl, trivial, rfl⟩) rfl)

theorem sc_does_keep : FnScope ["root", "prime", "rests", "slopes"] ["root", "prime"] (defScope s_does_keep) := ⟨rfl, rfl, rfl, by decide +kernel, rfl, by decide +kernel, by decide +kernel⟩
def pDoesKeep : List Dat → Dat → Prop := fun dl r => ∃ (l : List (Int × Int)) (a c : Dat) (p : Int), dl = [.root (rl l) a c, .int p] ∧ KeepM p l ∧ r = .bl true
theorem ok_does_keep {P : Program} {w : World} {K : PySem.W.Frag} {mg : Str → Option Value} {base : Heap} (T : Txt K mg) (c_rests_in : Cal P w K mg base 3 "rests_in" (spD K pRestsIn)) (c_slope_of : Cal P w K mg base 5 "slope_of" (spD K pSlopeOf)) (c_common_rests : Cal P w K mg base 3 "common_rests" (spD K pCommon)) : Cal P w K mg base (5 + 1) "does_keep" (spD K pDoesKeep) := by
  refine ⟨?_, T.g_does_keep, (T.d_does_keep).elim fun _ F => F.kp⟩
  refine fn_d (d := d_does_keep) (k := 5) (T.d_does_keep) sc_does_keep (fun _ _ _ _ _ _ us hl => match us, hl with | [_, _], _ => rfl) ?_ ?_
  · rintro dl r ⟨_, _, _, _, rfl, _⟩; rfl
  · intro cdv A outer s H E hr
    refine ⟨_, (pss_cons (ps_set (i := 2) sc_does_keep.nd rfl (.inl rfl) (pe_cf (c_rests_in.mono (by decide)) hr (by rfl) (pa_cons (pe_fld (pv 0) rfl) (pa_cons (pv 1) pa_nil))))
      (pss_cons (ps_if (PW.pt (pw_or (pt_cmpR op_isN (pv 2) pe_non (nomark _)) (pw_or1 (pt_cmpR op_lt (pe_callB call_len_seq (by rfl) T.b_len (by decide +kernel) (pa_cons (pv 2) pa_nil)) (pe_callB call_len_seq (by rfl) T.b_len (by decide +kernel) (pa_cons (pe_fld (pv 0) rfl) pa_nil)) (nomark _)))))
        (pss_one (ps_ret pe_bl))
        pss_nil)
      (pss_cons (ps_set (i := 3) sc_does_keep.nd rfl (.inl rfl) (pe_cf (c_rests_in.mono (by decide)) hr (by rfl) (pa_cons (pe_cf (c_slope_of.mono (by decide)) hr (by rfl) (pa_cons (pe_fld (pv 0) rfl) pa_nil)) (pa_cons (pv 1) pa_nil))))
      (pss_one (ps_ret (pe_and (pe_cmpR (op_neD hr.units) (pv 3) (pe_lst pa_nil) (nomark _)) (pe_one (pe_cmpR op_eq (pe_callB call_len_seq (by rfl) T.b_len (by decide +kernel) (pa_cons (pe_cf (c_common_rests.mono (by decide)) hr (by rfl) (pa_cons (pv 2) (pa_cons (pv 3) (pa_cons (pv 1) pa_nil)))) pa_nil)) pe_int (nomark _))))))))), ?_⟩
    rintro m dl r ⟨l, a, c, p, rfl, hk, rfl⟩
    have hp := hk.pr
    have l10 := hk.len
    have fp : ∀ ds2 : Ds, ds2[0]? = some (.dat (.root (rl l) a c)) → EvD m K (tFld K (tVar 0) "own_poly") ds2 (rl l) := fun ds2 q => (ev_fRoot T.cls_Root (ev_var q)).1 T.no_Root_own_poly
    have sl := slopeR_len l
    refine sd_then (sd_set (ev_call (ea_cons (fp _ rfl) (ea_cons (ev_var rfl) ea_nil)) ⟨l, p, rfl, ⟨hp, hk.aw, by omega⟩, rfl⟩) rfl) ?_
    refine sd_then (sd_ifF (et_orF ((et_test (ev_op (ev_var rfl) ev_non rv_isN)).nay rfl) ((et_test (ev_op (ev_len (ev_var rfl)) (ev_len (fp _ rfl)) rv_bl)).nay (decide_eq_false (by simp only [List.length_map]; have := hk.full; omega)))) (sd_next rfl)) ?_
    refine sd_then (sd_set (ev_call (dl := [rl (slopeR l), .int p]) (ea_cons (ev_call (ea_cons (fp _ rfl) ea_nil) ⟨l, 10, rfl, ⟨hk.rt, by omega, by omega⟩, rfl⟩) (ea_cons (ev_var rfl) ea_nil)) ⟨slopeR l, p, rfl, ⟨hp, hk.aws, by omega⟩, rfl⟩) rfl) ?_
    have m1 := restsM_len p l
    have m2 := restsM_len p (slopeR l)
    refine sd_ret (ev_andT ((ev_op (ev_var rfl) (EvO.dd (eo_lst ea_nil (by decide))) (rv_neL (l' := []))).to (by simp [hk.sl])) ((ev_op (ev_len (ev_call (ea_cons (ev_var rfl) (ea_cons (ev_var rfl) (ea_cons (ev_var rfl) ea_nil))) ⟨_, _, p, rfl, ⟨hp, restsM_red hp _, restsM_red hp _, by omega, by omega⟩, rfl⟩)) ev_int rv_eq).to (by simp [hk.one]))) rfl

theorem sc_want_kept : FnScope ["root", "prime"] ["root", "prime"] (defScope s_want_kept) := ⟨rfl, rfl, rfl, by decide +kernel, rfl, by decide +kernel, by decide +kernel⟩
def pWantKept : List Dat → Dat → Prop := fun dl r => ∃ (l : List (Int × Int)) (a c : Dat) (p : Int), dl = [.root (rl l) a c, .int p] ∧ KeepM p l ∧ r = .non
theorem ok_want_kept {P : Program} {w : World} {K : PySem.W.Frag} {mg : Str → Option Value} {base : Heap} (T : Txt K mg) (c_want_root : Cal P w K mg base 1 "want_root" (spD K pWantRoot)) (c_want_prime : Cal P w K mg base 3 "want_prime" (spD K pWantPrime)) (c_does_keep : Cal P w K mg base 6 "does_keep" (spD K pDoesKeep)) : Cal P w K mg base (6 + 1) "want_kept" (spD K pWantKept) := by
  refine ⟨?_, T.g_want_kept, (T.d_want_kept).elim fun _ F => F.kp⟩
  refine fn_d (d := d_want_kept) (k := 6) (T.d_want_kept) sc_want_kept (fun _ _ _ _ _ _ us hl => match us, hl with | [_, _], _ => rfl) ?_ ?_
  · rintro dl r ⟨_, _, _, _, rfl, _⟩; rfl
  · intro cdv A outer s H E hr
    refine ⟨_, (pss_cons (ps_expr (pe_cf (c_want_root.mono (by decide)) hr (by rfl) (pa_cons (pv 0) pa_nil)))
      (pss_cons (ps_expr (pe_cf (c_want_prime.mono (by decide)) hr (by rfl) (pa_cons (pv 1) pa_nil)))
      (pss_one (ps_if (pt_not (pt_val (pe_cf (c_does_keep.mono (by decide)) hr (by rfl) (pa_cons (pv 0) (pa_cons (pv 1) pa_nil)))))
        (pss_one ps_never)
        pss_nil)))), ?_⟩
    rintro m dl r ⟨l, a, c, p, rfl, hk, rfl⟩
    refine sd_then (sd_drop (ev_call (ea_cons (ev_var rfl) ea_nil) ⟨_, _, _, rfl, trivial, rfl⟩) rfl) ?_
    refine sd_then (sd_drop (ev_call (ea_cons (ev_var rfl) ea_nil) ⟨p, rfl, hk.pr, rfl⟩) rfl) ?_
    exact sd_ifF (et_notT (et_B (ev_call (ea_cons (ev_var rfl) (ea_cons (ev_var rfl) ea_nil)) ⟨l, a, c, p, rfl, hk, rfl⟩))) (sd_next rfl)

end RR
/-! ### RW10 -/
namespace RR
open PySem PySem.Spec PyProof.Rows L2 Evl

theorem at_of {ns : List Str} {f : Str} {k : Nat} (h1 : ns[k]? = some f) (h2 : (ns.take k).contains f = false) : At ns f k := ⟨h1, fun j hj q => by
  have : f ∈ ns.take k := List.mem_of_getElem? (i := j) (by rw [List.getElem?_take_of_lt hj]; exact q)
  rw [List.contains_iff_mem.mpr this] at h2
  cases h2⟩
section
variable {m : Md} {K : PySem.W.Frag} {ds : Ds} {N : Ds → Prop} {R : Dat → Prop} {Pm : List Str → List Dat → List Dat → Dat → List Str → List Dat → Prop} {C : Str} {t : TA} {dl : List Dat} {dvs : List V} {dd : List Dat}
/-- x, y = C(..), e -/
theorem sd_parW {i j : Nat} {ns' : List Str} {xs' : List Dat} {t2 : TE} {y : Dat} (h : EvA m K t ds dl) (hd : ∀ Hb, IsL K Hb dd dvs) (p : Pm [] [] (dl ++ dd) .non ns' xs') (hw : ∀ l, m.F l → m.W l) (hM : ∀ a, ¬ m.M a) (h2 : EvD m K t2 ds y) (n : N ((ds.set i (.wk C ns' xs')).set j (.dat y))) : SD m K (tPar i j (tCons (tMake (He.ga K C) (spW K C Pm) dvs E0 t) (tCons t2 tNil))) ds N R := fun Hb0 H0 Hb σ H D S k _ =>
  h Hb H σ _ S.sl fun vs Hb1 H1 g hv => make_run (m := m) (Q := fun x H1 => t2 σ H1 fun w H2 => ∃ v w', [x, w] = [v, w'] ∧ D.nx ((σ.set i (some v)).set j (some w')) H2) g.s hv (hd Hb1) p fun l dx fv Hb' H' g' h1 hl0 h3 h4 => by
    have S' := (S.grow g).grow g'
    refine h2 Hb' H' σ _ S'.sl fun w Hb2 H2 g2 hw2 => ⟨.ref l, w, rfl, ?_⟩
    have q : Hb2 l = none := by
      cases c : Hb2 l with
      | none => rfl
      | some o =>
        have := g2.f l (by rw [c]; exact Option.some_ne_none _) h1
        rw [h3] at this
        cases this
    have S2 := S'.grow g2
    exact k _ Hb2 _ H2 n ((g.b.trans g'.b).trans g2.b) ⟨S2.gr, (S2.sl.setW q (hM l) (g2.k l _ (hM l) h3) (IsL.mono g2.b _ h4) ⟨S.sl.fr l (g.back hl0), hw l (S.sl.fr l (g.back hl0))⟩).set hw2, S2.ff⟩
end
abbrev wkN : List Str := ["own_prime", "own_poly", "own_nearest", "own_first", "own_second", "own_degree"]
abbrev wkX (p : Int) (D A f s : List Int) (g : Int) : List Dat := [.int p, il D, il A, il f, il s, .int g]
theorem fokW_of {P : Program} {w : World} {K : PySem.W.Frag} {mg : Str → Option Value} {base : Heap} {d : Df} {ps : List Str} {k : Nat} {sp : Sp} (h : ∃ fd, FunD K d.name d.qual (defArgs d.st) (defBody d.st) (defScope d.st) [] [] (d.adr K) fd ∧ FnOk P w K mg base CX0 k (d.adr K) fd ps sp)
    (hb : ∀ (kV doc pm : Value) (an : Option Addr) (cdv ct : Value) (us : List Value), us.length = ps.length → bindArgs (PySem.W.fnOf d.name d.qual (defArgs d.st) (defBody d.st) (defScope d.st) .none kV doc pm an cdv ct) ⟨us, []⟩ = pure (ps.zip us)) : Fok P w K mg base k (d.adr K) sp := by
  obtain ⟨fd, F, ok⟩ := h
  exact ⟨fd, ps, ok, F.bindsN hb⟩

theorem sc_Walk_norm : FnScope ["self", "first", "second", "prime", "large"] ["self", "first", "second"] (defScope s_Walk_norm) := ⟨rfl, rfl, rfl, by decide +kernel, rfl, by decide +kernel, by decide +kernel⟩
def pNorm : List Dat → Dat → Prop := fun dl r => ∃ (ns : List Str) (xs : List Dat) (p : Int) (D f s : List Int), dl = [.ob "Walk" ("own_prime" :: "own_poly" :: ns) (.int p :: il D :: xs), il f, il s] ∧ (Pr p ∧ Red p D ∧ Red p f ∧ Red p s ∧ D.length ≤ 1000 ∧ f.length ≤ 1000 ∧ s.length ≤ 1000) ∧ r = il (normP p D f s)
theorem ok_Walk_norm {P : Program} {w : World} {K : PySem.W.Frag} {mg : Str → Option Value} {base : Heap} (T : Txt K mg) (c_rest_times : Cal P w K mg base 2 "rest_times" (spD K pMul)) (c_rest_less : Cal P w K mg base 3 "rest_less" (spD K pLess)) : Fok P w K mg base (3 + 1) (d_Walk_norm.adr K) (spD K pNorm) := by
  refine fok_d (d := d_Walk_norm) (k := 3) (T.d_Walk_norm) sc_Walk_norm (fun _ _ _ _ _ _ us hl => match us, hl with | [_, _, _], _ => rfl) ?_ ?_
  · rintro dl r ⟨_, _, _, _, _, _, rfl, _⟩; rfl
  · intro cdv A outer s H E hr
    refine ⟨_, (pss_cons (ps_set (i := 3) sc_Walk_norm.nd rfl (.inl rfl) (pe_fld (pv 0) rfl))
      (pss_cons (ps_set (i := 4) sc_Walk_norm.nd rfl (.inl rfl) (pe_cf (c_rest_times.mono (by decide)) hr (by rfl) (pa_cons (pe_fld (pv 0) rfl) (pa_cons (pe_cf (c_rest_times.mono (by decide)) hr (by rfl) (pa_cons (pv 2) (pa_cons (pv 2) (pa_cons (pv 3) pa_nil)))) (pa_cons (pv 3) pa_nil)))))
      (pss_one (ps_ret (pe_cf (c_rest_less.mono (by decide)) hr (by rfl) (pa_cons (pv 4) (pa_cons (pe_cf (c_rest_times.mono (by decide)) hr (by rfl) (pa_cons (pv 1) (pa_cons (pv 1) (pa_cons (pv 3) pa_nil)))) (pa_cons (pv 3) pa_nil)))))))), ?_⟩
    rintro m dl r ⟨ns, xs, p, D, f, s, rfl, ⟨hp, rD, rf, rs, l1, l2, l3⟩, rfl⟩
    have hp2 := hp.pos
    have fp : ∀ ds2 : Ds, ds2[0]? = some (.dat (.ob "Walk" ("own_prime" :: "own_poly" :: ns) (.int p :: il D :: xs))) → EvD m K (tFld K (tVar 0) "own_poly") ds2 (il D) := fun ds2 q => ev_fOb (k := 1) (ev_var q) T.cls_Walk T.no_Walk_own_poly (at_of rfl (by rfl)) rfl
    refine sd_then (sd_set (ev_fOb (k := 0) (d := .int p) (ev_var rfl) T.cls_Walk T.no_Walk_own_prime (at_of rfl (by rfl)) rfl) rfl) ?_
    have m1 := mulM_len (p := p) s s
    have m2 := mulM_len (p := p) f f
    have m3 := mulM_len (p := p) D (mulM p s s)
    refine sd_then (sd_set (ev_call (dl := [il D, il (mulM p s s), .int p]) (ea_cons (fp _ rfl) (ea_cons (ev_call (ea_cons (ev_var rfl) (ea_cons (ev_var rfl) (ea_cons (ev_var rfl) ea_nil))) ⟨s, s, p, rfl, ⟨hp, rs.1.sm hp2.2, by omega, by omega⟩, rfl⟩) (ea_cons (ev_var rfl) ea_nil))) ⟨D, _, p, rfl, ⟨hp, rD.1.sm hp2.2, by omega, by omega⟩, rfl⟩) rfl) ?_
    exact sd_ret (ev_call (dl := [il (mulM p D (mulM p s s)), il (mulM p f f), .int p]) (ea_cons (ev_var rfl) (ea_cons (ev_call (ea_cons (ev_var rfl) (ea_cons (ev_var rfl) (ea_cons (ev_var rfl) ea_nil))) ⟨f, f, p, rfl, ⟨hp, rf.1.sm hp2.2, by omega, by omega⟩, rfl⟩) (ea_cons (ev_var rfl) ea_nil))) ⟨_, _, p, rfl, ⟨hp, by omega, by omega⟩, rfl⟩) rfl

theorem sc_Walk_at_end : FnScope ["self"] ["self"] (defScope s_Walk_at_end) := ⟨rfl, rfl, rfl, by decide +kernel, rfl, by decide +kernel, by decide +kernel⟩
def pAtEnd : List Dat → Dat → Prop := fun dl r => ∃ (p : Int) (D A f s : List Int) (g : Int), dl = [.ob "Walk" wkN (wkX p D A f s g)] ∧ True ∧ r = .bl (decide (s.length = 1))
theorem ok_Walk_at_end {P : Program} {w : World} {K : PySem.W.Frag} {mg : Str → Option Value} {base : Heap} (T : Txt K mg) : Fok P w K mg base (0 + 1) (d_Walk_at_end.adr K) (spD K pAtEnd) := by
  refine fok_d (d := d_Walk_at_end) (k := 0) (T.d_Walk_at_end) sc_Walk_at_end (fun _ _ _ _ _ _ us hl => match us, hl with | [_], _ => rfl) ?_ ?_
  · rintro dl r ⟨_, _, _, _, _, _, rfl, _⟩; rfl
  · intro cdv A outer s H E hr
    refine ⟨_, (pss_one (ps_ret (pe_cmpR op_eq (pe_callB call_len_seq (by rfl) T.b_len (by decide +kernel) (pa_cons (pe_fld (pv 0) rfl) pa_nil)) pe_int (nomark _)))), ?_⟩
    rintro m dl r ⟨p, D, A, f, s, g, rfl, _, rfl⟩
    refine sd_ret (ev_op (ev_len (ev_fOb (k := 4) (d := il s) (ev_var rfl) T.cls_Walk T.no_Walk_own_second (at_of rfl (by decide)) rfl)) ev_int rv_eq) ?_
    simp only [List.length_map]
    congr 1
    exact decide_eq_decide.mpr (by omega)

theorem sc_Walk_init : FnScope ["self", "root", "prime"] ["self", "root", "prime"] (defScope s_Walk_init) := ⟨rfl, rfl, rfl, by decide +kernel, rfl, by decide +kernel, by decide +kernel⟩
def pWalkInit : List Str → List Dat → List Dat → Dat → List Str → List Dat → Prop := fun ns xs dl r ns' xs' => ∃ (l a : List (Int × Int)) (c : Dat) (p : Int), ns = [] ∧ xs = [] ∧ dl = [.root (rl l) (rl a) c, .int p] ∧ (Pr p ∧ Away p l ∧ Away p a ∧ l.length ≤ 100 ∧ a.length ≤ 100) ∧ r = .non ∧ ns' = wkN ∧
  xs' = wkX p (restsM p l) (restsM p a) (restsM p a) (lessM p (restsM p l) (mulM p (restsM p a) (restsM p a))) (((restsM p a).length : Int) - 1)
theorem ok_Walk_init {P : Program} {w : World} {K : PySem.W.Frag} {mg : Str → Option Value} {base : Heap} (T : Txt K mg) (c_rests_in : Cal P w K mg base 3 "rests_in" (spD K pRestsIn)) (c_Walk_norm : Fok P w K mg base 4 (d_Walk_norm.adr K) (spD K pNorm)) : ∃ fd, FunD K d_Walk_init.name d_Walk_init.qual (defArgs s_Walk_init) (defBody s_Walk_init) (defScope s_Walk_init) (d_Walk_init.dfl.map (He.Dv.v K)) [] (d_Walk_init.adr K) fd ∧ FnOk P w K mg base CX0 (4 + 1) (d_Walk_init.adr K) fd ["self", "root", "prime"] (spW K "Walk" pWalkInit) := by
  obtain ⟨fd, F⟩ := T.d_Walk_init
  refine ⟨fd, F, fn_m (d := d_Walk_init) (k := 4) (C := "Walk") F sc_Walk_init ?_ ?_⟩
  · rintro ns xs dl r ns' xs' ⟨_, _, _, _, rfl, rfl, rfl, _⟩; rfl
  · intro cdv A outer s H E hr
    refine ⟨_, (pss_cons (ps_fld (pv 0) (pv 2) rfl)
      (pss_cons (ps_fld (pv 0) (pe_cf (c_rests_in.mono (by decide)) hr (by rfl) (pa_cons (pe_fld (pv 1) rfl) (pa_cons (pv 2) pa_nil))) rfl)
      (pss_cons (ps_fld (pv 0) (pe_cf (c_rests_in.mono (by decide)) hr (by rfl) (pa_cons (pe_fld (pv 1) rfl) (pa_cons (pv 2) pa_nil))) rfl)
      (pss_cons (ps_fld (pv 0) (pe_fld (pv 0) rfl) rfl)
      (pss_cons (ps_fld (pv 0) (pe_meC (pv 0) T.cls_Walk T.m_Walk_norm (c_Walk_norm.mono (by decide)) hr (pa_cons (pe_fld (pv 0) rfl) (pa_cons (pe_lst (pa_cons pe_int pa_nil)) pa_nil))) rfl)
      (pss_one (ps_fld (pv 0) (pe_op op_sub (pe_callB call_len_seq (by rfl) T.b_len (by decide +kernel) (pa_cons (pe_fld (pv 0) rfl) pa_nil)) pe_int) rfl))))))), ?_⟩
    rintro m ns xs dl r ns' xs' ⟨l, a, c, p, rfl, rfl, rfl, ⟨hp, aw, aa, l1, l2⟩, rfl, rfl, rfl⟩
    have hp2 := hp.pos
    have m1 := restsM_len p l
    have m2 := restsM_len p a
    have r1 := restsM_red hp l
    have r2 := restsM_red hp a
    refine sdm_then (sd_fldN (C := "Walk") (i := 0) (ns := []) (xs := []) (f := "own_prime") (d := .int p) rfl (one_of rfl) (ev_var rfl) T.cls_Walk T.no_Walk_own_prime (by decide) rfl (by decide) rfl) ?_
    refine sdm_then (sd_fldN (C := "Walk") (i := 0) (ns := ["own_prime"]) (xs := [.int p]) (f := "own_poly") (d := il (restsM p l)) rfl (one_of rfl) (ev_call (ea_cons ((ev_fRoot T.cls_Root (ev_var rfl)).1 T.no_Root_own_poly) (ea_cons (ev_var rfl) ea_nil)) ⟨l, p, rfl, ⟨hp, aw, by omega⟩, rfl⟩) T.cls_Walk T.no_Walk_own_poly (by decide) rfl (by decide) rfl) ?_
    refine sdm_then (sd_fldN (C := "Walk") (i := 0) (ns := ["own_prime", "own_poly"]) (xs := [.int p, il (restsM p l)]) (f := "own_nearest") (d := il (restsM p a)) rfl (one_of rfl) (ev_call (ea_cons ((ev_fRoot T.cls_Root (ev_var rfl)).2 T.no_Root_own_nearest) (ea_cons (ev_var rfl) ea_nil)) ⟨a, p, rfl, ⟨hp, aa, by omega⟩, rfl⟩) T.cls_Walk T.no_Walk_own_nearest (by decide) rfl (by decide) rfl) ?_
    generalize restsM p l = D at *
    generalize restsM p a = A at *
    refine sdm_then (sd_fldN (C := "Walk") (i := 0) (ns := ["own_prime", "own_poly", "own_nearest"]) (xs := [.int p, il D, il A]) (f := "own_first") (d := il A) rfl (one_of rfl) (ev_fW (k := 2) rfl T.cls_Walk T.no_Walk_own_nearest (at_of rfl (by decide)) rfl) T.cls_Walk T.no_Walk_own_first (by decide) rfl (by decide) rfl) ?_
    refine sdm_then (sd_fldN (C := "Walk") (i := 0) (ns := ["own_prime", "own_poly", "own_nearest", "own_first"]) (xs := [.int p, il D, il A, il A]) (f := "own_second") (d := il (lessM p D (mulM p A A))) rfl (one_of rfl)
      (ev_lendL (i := 0) (C := "Walk") (ns := ["own_prime", "own_poly", "own_nearest", "own_first"]) (xs := [.int p, il D, il A, il A]) rfl (one_of rfl) ((ev_me (dl := [il A, il [1]]) (ev_var rfl) (ea_cons (ev_fOb (ns := ["own_prime", "own_poly", "own_nearest", "own_first"]) (xs := [.int p, il D, il A, il A]) (k := 2) (d := il A) (ev_var rfl) T.cls_Walk T.no_Walk_own_nearest (at_of rfl (by decide)) rfl) (ea_cons (EvO.dd (eo_lst (ea_cons ev_int ea_nil) (by simp))) ea_nil)) (fun Hb v hv => sh_ob (by decide) v hv) ⟨["own_nearest", "own_first"], [il A, il A], p, D, A, [1], rfl, ⟨hp, r1, r2, one_red hp, by omega, by omega, by simp⟩, rfl⟩).to (by rw [normP_one hp r1]))) T.cls_Walk T.no_Walk_own_second (by decide) rfl (by decide) rfl) ?_
    exact sdm_end (sd_fldN (C := "Walk") (i := 0) (ns := ["own_prime", "own_poly", "own_nearest", "own_first", "own_second"]) (xs := [.int p, il D, il A, il A, il (lessM p D (mulM p A A))]) (f := "own_degree") (d := .int ((A.length : Int) - 1)) rfl (one_of rfl) ((ev_op (ev_len (ev_fW (k := 2) (d := il A) rfl T.cls_Walk T.no_Walk_own_nearest (at_of rfl (by decide)) rfl)) ev_int rv_int).to (by simp only [List.length_map])) T.cls_Walk T.no_Walk_own_degree (by decide) rfl (by decide) ⟨rfl, rfl⟩)

theorem mk_Walk {P : Program} {w : World} {K : PySem.W.Frag} {mg : Str → Option Value} {base : Heap} (T : Txt K mg) {k : Nat} (h : ∃ fd, FunD K d_Walk_init.name d_Walk_init.qual (defArgs s_Walk_init) (defBody s_Walk_init) (defScope s_Walk_init) (d_Walk_init.dfl.map (He.Dv.v K)) [] (d_Walk_init.adr K) fd ∧ FnOk P w K mg base CX0 k (d_Walk_init.adr K) fd ["self", "root", "prime"] (spW K "Walk" pWalkInit)) :
    MkC P w K mg base k "Walk" (spW K "Walk" pWalkInit) [] := by
  obtain ⟨fd, F, ok⟩ := h
  exact ⟨⟨_, fd, _, [], T.mkr_Walk, ok, FunD.bindsN F (fun _ _ _ _ _ _ us hl => match us, hl with | [_, _, _], _ => rfl), .nil⟩, T.g_Walk⟩

theorem sc_Walk_go : FnScope ["self", "prime", "top", "whole", "rest"] ["self"] (defScope s_Walk_go) := ⟨rfl, rfl, rfl, by decide +kernel, rfl, by decide +kernel, by decide +kernel⟩
def pGo : List Str → List Dat → List Dat → Dat → List Str → List Dat → Prop := fun ns xs dl r ns' xs' => ∃ (p : Int) (D A : List Int) (x : Ch) (g : Int), ns = wkN ∧ xs = wkX p D A x.f x.s g ∧ dl = [] ∧ (Pr p ∧ Red p D ∧ Red p A ∧ RedC p x ∧ x.s ≠ [] ∧ D.length ≤ 100 ∧ A.length ≤ 100 ∧ x.f.length ≤ 1000 ∧ x.s.length ≤ 1000 ∧ (fstC p A x).length ≤ 1000) ∧
  r = il (partC p A x) ∧ ns' = wkN ∧ xs' = wkX p D A (fstC p A x) (sndC p D A x) (g + (partC p A x).length - 1)
theorem ok_Walk_go {P : Program} {w : World} {K : PySem.W.Frag} {mg : Str → Option Value} {base : Heap} (T : Txt K mg) (c_rest_sum : Cal P w K mg base 2 "rest_sum" (spD K pSum)) (c_rest_parts : Cal P w K mg base 2 "rest_parts" (spD K pParts)) (c_rest_less : Cal P w K mg base 3 "rest_less" (spD K pLess)) (c_Walk_norm : Fok P w K mg base 4 (d_Walk_norm.adr K) (spD K pNorm)) : ∃ fd, FunD K d_Walk_go.name d_Walk_go.qual (defArgs s_Walk_go) (defBody s_Walk_go) (defScope s_Walk_go) (d_Walk_go.dfl.map (He.Dv.v K)) [] (d_Walk_go.adr K) fd ∧ FnOk P w K mg base CX0 (4 + 1) (d_Walk_go.adr K) fd ["self"] (spW K "Walk" pGo) := by
  obtain ⟨fd, F⟩ := T.d_Walk_go
  refine ⟨fd, F, fn_m (d := d_Walk_go) (k := 4) (C := "Walk") F sc_Walk_go ?_ ?_⟩
  · rintro ns xs dl r ns' xs' ⟨_, _, _, _, _, rfl, rfl, rfl, _⟩; rfl
  · intro cdv A outer s H E hr
    refine ⟨_, (pss_cons (ps_set (i := 1) sc_Walk_go.nd rfl (.inl rfl) (pe_fld (pv 0) rfl))
      (pss_cons (ps_set (i := 2) sc_Walk_go.nd rfl (.inl rfl) (pe_cf (c_rest_sum.mono (by decide)) hr (by rfl) (pa_cons (pe_fld (pv 0) rfl) (pa_cons (pe_fld (pv 0) rfl) (pa_cons pe_int (pa_cons (pv 1) pa_nil))))))
      (pss_cons (ps_asg (pe_cf (c_rest_parts.mono (by decide)) hr (by rfl) (pa_cons (pv 2) (pa_cons (pe_fld (pv 0) rfl) (pa_cons (pv 1) pa_nil)))) (pg_tup rfl (pgs_cons (pg_name (i := 3) sc_Walk_go.nd rfl (.inl rfl)) (pgs_cons (pg_name (i := 4) sc_Walk_go.nd rfl (.inl rfl)) pgs_nil))))
      (pss_cons (ps_fld (pv 0) (pe_cf (c_rest_less.mono (by decide)) hr (by rfl) (pa_cons (pe_fld (pv 0) rfl) (pa_cons (pv 4) (pa_cons (pv 1) pa_nil)))) rfl)
      (pss_cons (ps_fld (pv 0) (pe_ix ix_tup (pe_cf (c_rest_parts.mono (by decide)) hr (by rfl) (pa_cons (pe_meC (pv 0) T.cls_Walk T.m_Walk_norm (c_Walk_norm.mono (by decide)) hr (pa_cons (pe_fld (pv 0) rfl) (pa_cons (pe_lst (pa_cons pe_int pa_nil)) pa_nil))) (pa_cons (pe_fld (pv 0) rfl) (pa_cons (pv 1) pa_nil)))) pe_int (fun _ _ => rfl)) rfl)
      (pss_cons (ps_fld (pv 0) (pe_op op_sub (pe_op op_add (pe_fld (pv 0) rfl) (pe_callB call_len_seq (by rfl) T.b_len (by decide +kernel) (pa_cons (pv 3) pa_nil))) pe_int) rfl)
      (pss_one (ps_ret (pv 3))))))))), ?_⟩
    rintro m ns xs dl r ns' xs' ⟨p, D, A, x, g, rfl, rfl, rfl, ⟨hp, rD, rA, rx, sn, l1, l2, l3, l4, l5⟩, rfl, rfl, rfl⟩
    have hp2 := hp.pos
    have sl := sumM_len (p := p) (t := 1) x.f A
    have sr := sumM_red (t := 1) (b := A) hp2.1 rx.f.1
    obtain ⟨pr1, pr2, pr3, pl⟩ := parts_red hp sr rx.s sn
    refine sdm_then (sd_set (d := .int p) (ev_fW (k := 0) rfl T.cls_Walk T.no_Walk_own_prime (at_of rfl (by decide)) rfl) rfl) ?_
    refine sdm_then (sd_set (ev_call (dl := [il x.f, il A, .int 1, .int p]) (ea_cons (ev_fW (k := 3) rfl T.cls_Walk T.no_Walk_own_first (at_of rfl (by decide)) rfl) (ea_cons (ev_fW (k := 2) rfl T.cls_Walk T.no_Walk_own_nearest (at_of rfl (by decide)) rfl) (ea_cons ev_int (ea_cons (ev_var rfl) ea_nil)))) ⟨x.f, A, 1, p, rfl, ⟨hp, .inl rfl, by omega, by omega⟩, rfl⟩) rfl) ?_
    refine sdm_then (sd_unp (is := [3, 4]) (dl := [il (partC p A x), il (restC p A x)]) (ev_call (dl := [il (sumM p 1 x.f A), il x.s, .int p]) (ea_cons (ev_var rfl) (ea_cons (ev_fW (k := 4) rfl T.cls_Walk T.no_Walk_own_second (at_of rfl (by decide)) rfl) (ea_cons (ev_var rfl) ea_nil))) ⟨_, x.s, p, rfl, ⟨hp, sn, (rx.s.lead sn).2.2, by omega, by omega⟩, rfl⟩) rfl rfl rfl) ?_
    have rl : (restC p A x).length ≤ 1000 := by unfold restC; omega
    have fr : Red p (fstC p A x) := sumM_red hp2.1 rA.1
    refine sdm_then (sd_fldO (C := "Walk") (i := 0) (ns := wkN) (j := 3) (f := "own_first") (d := il (fstC p A x)) rfl (one_of rfl) (ev_call (dl := [il A, il (restC p A x), .int p]) (ea_cons (ev_fW (k := 2) rfl T.cls_Walk T.no_Walk_own_nearest (at_of rfl (by decide)) rfl) (ea_cons (ev_var rfl) (ea_cons (ev_var rfl) ea_nil))) ⟨A, _, p, rfl, ⟨hp, by omega, by omega⟩, rfl⟩) T.cls_Walk T.no_Walk_own_first (at_of rfl (by decide)) rfl (by decide) rfl) ?_
    have ml := mulM_len (p := p) (fstC p A x) (fstC p A x)
    have nl := sumM_len (p := p) (t := -1) D (mulM p (fstC p A x) (fstC p A x))
    refine sdm_then (sd_fldO (C := "Walk") (i := 0) (ns := wkN) (j := 4) (f := "own_second") (d := il (sndC p D A x)) rfl (one_of rfl) (ev_op (ev_call (dl := [il (lessM p D (mulM p (fstC p A x) (fstC p A x))), il x.s, .int p]) (ea_cons
        (ev_lendL (i := 0) (C := "Walk") (ns := wkN) (xs := wkX p D A (fstC p A x) x.s g) rfl (one_of rfl) ((ev_me (dl := [il (fstC p A x), il [1]]) (ev_var rfl) (ea_cons (ev_fOb (ns := wkN) (xs := wkX p D A (fstC p A x) x.s g) (k := 3) (d := il (fstC p A x)) (ev_var rfl) T.cls_Walk T.no_Walk_own_first (at_of rfl (by decide)) rfl) (ea_cons (EvO.dd (eo_lst (ea_cons ev_int ea_nil) (by simp))) ea_nil)) (fun Hb v hv => sh_ob (by decide) v hv) ⟨["own_nearest", "own_first", "own_second", "own_degree"], [il A, il (fstC p A x), il x.s, .int g], p, D, fstC p A x, [1], rfl, ⟨hp, rD, fr, one_red hp, by omega, by omega, by simp⟩, rfl⟩).to (by rw [normP_one hp rD])))
        (ea_cons (ev_fW (k := 4) rfl T.cls_Walk T.no_Walk_own_second (at_of rfl (by decide)) rfl) (ea_cons (ev_var rfl) ea_nil))) ⟨_, x.s, p, rfl, ⟨hp, sn, (rx.s.lead sn).2.2, by unfold lessM; omega, by omega⟩, rfl⟩) ev_int (rv_ixT at_tup2.2)) T.cls_Walk T.no_Walk_own_second (at_of rfl (by decide)) rfl (by decide) rfl) ?_
    refine sdm_then (sd_fldO (C := "Walk") (i := 0) (ns := wkN) (j := 5) (f := "own_degree") (d := .int (g + (partC p A x).length - 1)) rfl (one_of rfl) ((ev_op (ev_op (ev_fW (k := 5) (d := .int g) rfl T.cls_Walk T.no_Walk_own_degree (at_of rfl (by decide)) rfl) (ev_len (ev_var rfl)) rv_int) ev_int rv_int).to (by simp only [List.length_map])) T.cls_Walk T.no_Walk_own_degree (at_of rfl (by decide)) rfl (by decide) rfl) ?_
    exact sdm_ret (ev_var rfl) ⟨rfl, rfl⟩

end RR
/-! ### RCalc10 -/
/-! The calculus: calls by keywords alone. -/
namespace RR
open PySem PySem.Spec PyProof.Rows L2 Evl
section
variable {P : Program} {w : World} {K : PySem.W.Frag} {mg : Str → Option Value} {base : Heap}
theorem fnx_d {d : Df} {N ps : List Str} {k : Nat} {Pm : List Dat → Dat → Prop} (F : ∃ fd, FunD K d.name d.qual (defArgs d.st) (defBody d.st) (defScope d.st) [] [] (d.adr K) fd) (S : FnScope N ps (defScope d.st))
    (hl : ∀ dl r, Pm dl r → dl.length = ps.length)
    (body : ∀ (cdv : Value) (A : Around) (outer : List Env) (s : Shared) (H : Hp) (E : XK), Room k (A.deeper (envOfC d.qual (defScope d.st) s.heap.objs.size (d.adr K) cdv)) → ∃ t, PSs (cxOf CX0 P w K mg base N d.qual (defScope d.st) (d.adr K) cdv A outer s H E).nox (defBody d.st) t ∧
      ∀ m dl r, Pm dl r → SD m K t (ds0 N dl) (fun _ => r = .non) (· = r)) : ∃ fd, FunD K d.name d.qual (defArgs d.st) (defBody d.st) (defScope d.st) [] [] (d.adr K) fd ∧ FnOk P w K mg base CX0 (k + 1) (d.adr K) fd ps (spD K Pm) := by
  obtain ⟨fd, F⟩ := F
  refine ⟨fd, F, ?_⟩
  exact F.ok S (fun vs H Q E ⟨Hb, dl, r, s, hv, p, _⟩ => by rw [hv.length]; exact hl dl r p)
    fun cdv A outer s H vs Q E hr ⟨Hb, dl, r, e, hv, p, q⟩ => let ⟨t, body, run⟩ := body cdv A outer s H E hr; ⟨t, body.nox,
      run (md0 H) dl r p Hb H Hb _ H _ ⟨.refl e, sl0 e hv, fun _ h => h⟩ (fun ds' Hb' σ' H' n _ S' => q .non Hb' H' (gr0 S'.gr) (by rw [n]; exact rfl)) fun d' v Hb' H' n g h => q v Hb' H' (gr0 g) (n ▸ h)⟩
/-- a def of two parameters, called with prime= and root= -/
structure CalK (P : Program) (w : World) (K : PySem.W.Frag) (mg : Str → Option Value) (base : Heap) (k : Nat) (x : Str) (sp : Sp) : Prop where
  ex : ∃ (fd : FuncData) (ps : List Str), FnOk P w K mg base CX0 k (He.ga K x) fd ps sp ∧ KBinds K fd ps ["prime", "root"] (fun us ws => us ++ ws.reverse) (fun vs zs => vs ++ zs.reverse)
  gl : mg x = some (.ref (He.ga K x))
  kp : PySem.W.keepIn K (.ref (He.ga K x)) = true
theorem CalK.mono {j k : Nat} {x : Str} {sp : Sp} (c : CalK P w K mg base j x sp) (h : j ≤ k) : CalK P w K mg base k x sp := let ⟨fd, ps, F, b⟩ := c.ex; ⟨⟨fd, ps, F.mono h, b⟩, c.gl, c.kp⟩
theorem vals_rev : ∀ {zs : List V} {ws : List Value}, Vals zs ws → Vals zs.reverse ws.reverse
  | _, _, .nil => .nil
  | z :: zs, w :: ws, .cons r t => by
    rw [List.reverse_cons, List.reverse_cons]
    exact (vals_rev t).append (.cons r .nil)
theorem kbinds2 {x qual : Str} {params : Arguments} {body : List Stmt} {scope : Scope} {f : Addr} {fd : FuncData} (F : FunD K x qual params body scope [] [] f fd)
    (h1 : ∀ (kV doc pm : Value) (an : Option Addr) (cdv ct : Value) (a b : Value), bindArgs (PySem.W.fnOf x qual params body scope .none kV doc pm an cdv ct) ⟨[], [("prime", a), ("root", b)]⟩ = pure ([("root", b), ("prime", a)] : List (Str × Value)))
    (h2 : ∀ (kV doc pm : Value) (an : Option Addr) (cdv ct : Value) (a b : Value), bindArgs (PySem.W.fnOf x qual params body scope .none kV doc pm an cdv ct) ⟨[a], [("prime", b)]⟩ = pure ([("root", a), ("prime", b)] : List (Str × Value)))
    (h3 : ∀ (kV doc pm : Value) (an : Option Addr) (cdv ct : Value) (a b : Value), bindArgs (PySem.W.fnOf x qual params body scope .none kV doc pm an cdv ct) ⟨[a, b], []⟩ = pure ([("root", a), ("prime", b)] : List (Str × Value))) :
    KBinds K fd ["root", "prime"] ["prime", "root"] (fun us ws => us ++ ws.reverse) (fun vs zs => vs ++ zs.reverse) := by
  obtain ⟨oc, od, dV, kV, doc, pm, an, cdv, ct, osl, rfl, lk, hcd, hD, hK⟩ := F.ex
  have e : dV = .none := by
    rcases hD with ⟨_, e⟩ | ⟨e, _⟩
    · exact e
    · exact absurd rfl e
  subst e
  refine ⟨fun s us ws _ hl => ?_, fun r t => r.append (vals_rev t)⟩
  rw [List.length_append, List.length_reverse] at hl
  match us, ws, hl with
  | [], [a, b], _ => exact .of_eq (h1 _ _ _ _ _ _ a b)
  | [a], [b], _ => exact .of_eq (h2 _ _ _ _ _ _ a b)
  | [a, b], [], _ => exact .of_eq (h3 _ _ _ _ _ _ a b)
  | _ :: _ :: _ :: _, _, h => exact absurd h (by simp only [List.length_cons, List.length_nil]; omega)
  | [_], [], h => exact absurd h (by simp only [List.length_cons, List.length_nil]; omega)
  | [], [], h => exact absurd h (by simp only [List.length_cons, List.length_nil]; omega)
  | [], [_], h => exact absurd h (by simp only [List.length_cons, List.length_nil]; omega)
  | [_], _ :: _ :: _, h => exact absurd h (by simp only [List.length_cons, List.length_nil]; omega)
  | [_, _], _ :: _, h => exact absurd h (by simp only [List.length_cons, List.length_nil]; omega)
  | [], _ :: _ :: _ :: _, h => exact absurd h (by simp only [List.length_cons, List.length_nil]; omega)
end
section
variable {X : Cx} {k : Nat} {x : Str} {sp : Sp} {p pos : Pos} {kws : List Keyword} {tk : TA}
theorem pe_callK0 (c : CalK X.prog X.w X.K X.mg X.base k x sp) (hr : Room k X.A) (hg : Gl X x) (hkw : PK X kws tk) (hall : (backToKw pos (keywordEach kws X.env)).all (·.1.isSome) = true := by rfl) (hks : (backToKw pos (keywordEach kws X.env)).filterMap (·.1) = (["prime", "root"] : List Str) := by rfl)
    (hdb : (x == ("__debug__" : Str)) = false := by decide)
    (hpl : ((backTo pos (starEach [] X.env)).any (·.1) || (backToKw pos (keywordEach kws X.env)).any (·.1.isNone)) = false := by rfl) :
    PE X (.Call (.Name x p) [] kws pos) (tCallK sp (fun vs zs => vs ++ zs.reverse) E0 tNil tk) := by
  obtain ⟨fd, ps, F, b⟩ := c.ex
  refine ⟨fun pins s σ H Q I h => ?_⟩
  refine wpAny_Call_Name_kw (ld_glob I hg c.gl ?_ hdb)
  refine PySem.W.callWith_KW0 (h₀ := X.base) I.ok.mod.kin c.kp hall (thn (hkw.run pos pins s σ H _ I h) fun ws s2 ⟨zs, H2, I2, rz, q2⟩ => ⟨I2.kIn, ?_⟩) hpl
  rw [hks]
  exact run_fnk (us := []) (vs := []) F hr b pass0 I2 .nil rz q2
end
section
variable {m : Md} {K : PySem.W.Frag} {ds : Ds} {P : List Dat → Dat → Prop} {tk : TA} {dl : List Dat} {d : Dat}
theorem ev_callK (h : EvA m K tk ds dl) (p : P dl.reverse d) : EvD m K (tCallK (spD K P) (fun vs zs => vs ++ zs.reverse) E0 tNil tk) ds d := fun Hb H σ Q S k =>
  h Hb H σ _ S fun vs Hb1 H1 g1 hv => ⟨Hb1, dl.reverse, d, g1.s, hv.reverse, p, fun v Hb' H' g hd => k v Hb' H' (g1.trans g.any) hd⟩
end
end RR
/-! ### RW11 -/
namespace RR
open PySem PySem.Spec PyProof.Rows L2 Evl

theorem isWk_dat (d : Dat) : (Sv.dat d).isWk = false := rfl
theorem isWk_no : Sv.no.isWk = false := rfl
/-- what the program's own walk asks of a root modulo p -/
structure WalkOk (p : Int) (l a : List (Int × Int)) (n : Nat) : Prop where
  ch : Chain p (restsM p l) (restsM p a) n
  aw : Away p l
  aa : Away p a
  ll : l.length ≤ 100
  al : a.length ≤ 100
  few : n ≤ 590
theorem WalkOk.go {p : Int} {l a : List (Int × Int)} {n j : Nat} {g : Int} (h : WalkOk p l a n) (c : j < n) :
    pGo wkN (wkX p (restsM p l) (restsM p a) (chain p (restsM p l) (restsM p a) j).f (chain p (restsM p l) (restsM p a) j).s g) [] (il (partC p (restsM p a) (chain p (restsM p l) (restsM p a) j))) wkN
      (wkX p (restsM p l) (restsM p a) (chain p (restsM p l) (restsM p a) (j + 1)).f (chain p (restsM p l) (restsM p a) (j + 1)).s (g + (partC p (restsM p a) (chain p (restsM p l) (restsM p a) j)).length - 1)) := by
  have hj : j ≤ n := Nat.le_of_lt c
  obtain ⟨l1, l2, l3, l4, l5, l6⟩ := h.ch.lens j hj
  obtain ⟨k1, k2, k3, k4, k5, k6⟩ := h.ch.lens (j + 1) c
  exact ⟨p, _, _, chain p (restsM p l) (restsM p a) j, g, rfl, rfl, rfl, ⟨h.ch.pr, h.ch.hD, h.ch.hA, h.ch.red j hj, h.ch.sn j hj, h.ch.dl, h.ch.al, l5, l6, k5⟩, rfl, rfl, rfl⟩
theorem go_nm : ("go" : Str) ∉ wkN := by decide
theorem end_nm : ("at_end" : Str) ∉ wkN := by decide
/-- walk.at_end() -/
theorem ev_end {m : Md} {K : PySem.W.Frag} {ds : Ds} {i : Nat} {p g : Int} {D A f s : List Int} (e : ds[i]? = some (.wk "Walk" wkN (wkX p D A f s g))) (one : OneW ds i) : EvD m K (tMeth (He.ga K "Walk") "at_end" (spD K pAtEnd) [] E0 (tVar i) tNil) ds (.bl (decide (s.length = 1))) :=
  ev_lendW e one (is_bl _) (ev_me (ev_var (by
    have hi : i < ds.length := (List.getElem?_eq_some_iff.mp e).1
    exact List.getElem?_set_self hi)) ea_nil (fun Hb v hv => sh_ob end_nm v hv) ⟨p, D, A, f, s, g, rfl, trivial, rfl⟩)

theorem sc_rest_walk : FnScope ["root", "prime", "walk", "steps"] ["root", "prime"] (defScope s_rest_walk) := ⟨rfl, rfl, rfl, by decide +kernel, rfl, by decide +kernel, by decide +kernel⟩
def pRestWalk : List Dat → Dat → Prop := fun dl r => ∃ (l a : List (Int × Int)) (c : Dat) (p : Int) (n : Nat), dl = [.root (rl l) (rl a) c, .int p] ∧ WalkOk p l a n ∧ r = .int (degC p (restsM p l) (restsM p a) n)
theorem ok_rest_walk {P : Program} {w : World} {K : PySem.W.Frag} {mg : Str → Option Value} {base : Heap} (T : Txt K mg) (c_mk_Walk : MkC P w K mg base 5 "Walk" (spW K "Walk" pWalkInit) []) (c_Walk_at_end : Fok P w K mg base 1 (d_Walk_at_end.adr K) (spD K pAtEnd)) (c_Walk_go : Fok P w K mg base 5 (d_Walk_go.adr K) (spW K "Walk" pGo)) : Cal P w K mg base (6 + 1) "rest_walk" (spD K pRestWalk) := by
  refine ⟨?_, T.g_rest_walk, (T.d_rest_walk).elim fun _ F => F.kp⟩
  refine (fn_dW (d := d_rest_walk) (k := 6) (T.d_rest_walk) sc_rest_walk (fun _ _ _ _ _ _ us hl => match us, hl with | [_, _], _ => rfl) ?_ ?_).raw
  · rintro dl r ⟨_, _, _, _, _, rfl, _⟩; rfl
  · intro cdv A outer s H E hr
    refine ⟨_, (pss_cons (ps_par (i := 2) (j := 3) (by rfl) sc_rest_walk.nd rfl rfl (by decide) rfl rfl (pa_cons (pe_mkC (c_mk_Walk.mono (by decide)) hr (by rfl) (pa_cons (pv 0) (pa_cons (pv 1) pa_nil))) (pa_cons pe_int pa_nil)) (by rfl))
      (pss_cons (ps_while PassesOwn.never (pt_not (pt_val (pe_meC0 (pv 2) T.cls_Walk T.m_Walk_at_end (c_Walk_at_end.mono (by decide)) hr)))
        (pss_cons (ps_if (pt_cmpR op_eq (pv 3) (pe_glob (v := .int 600) rfl T.c_MOST_STEPS.choose_spec ⟨_, rfl⟩) (nomark _))
          (pss_one (ps_ret pe_non))
          pss_nil)
        (pss_cons (ps_expr (pe_meC0 (pv 2) T.cls_Walk T.m_Walk_go (c_Walk_go.mono (by decide)) hr))
        (pss_one (ps_set (i := 3) sc_rest_walk.nd rfl (.inl rfl) (pe_op op_add (pv 3) pe_int))))))
      (pss_one (ps_ret (pe_fld (pv 2) rfl))))), ?_⟩
    rintro m dl r hw hM ⟨l, a, c, p, n, rfl, h, rfl⟩
    have hp := h.ch.pr
    have ll := h.ll
    have al := h.al
    refine sd_then (sd_parW (dd := []) (C := "Walk") (xs' := wkX p (restsM p l) (restsM p a) (chain p (restsM p l) (restsM p a) 0).f (chain p (restsM p l) (restsM p a) 0).s (degC p (restsM p l) (restsM p a) 0)) (ns' := wkN) (y := .int 1) (ea_cons (ev_var rfl) (ea_cons (ev_var rfl) ea_nil)) (fun _ => rfl) ⟨l, a, c, p, rfl, rfl, rfl, ⟨hp, h.aw, h.aa, by omega, by omega⟩, rfl, rfl, rfl⟩ hw hM ev_int rfl) ?_
    refine sd_seq (M := fun d => ∃ sa, d = [.dat (.root (rl l) (rl a) c), .dat (.int p), .wk "Walk" wkN (wkX p (restsM p l) (restsM p a) (chain p (restsM p l) (restsM p a) n).f (chain p (restsM p l) (restsM p a) n).s (degC p (restsM p l) (restsM p a) n)), sa])
      (sd_while (fun k ds' => ∃ j : Nat, ds' = [.dat (.root (rl l) (rl a) c), .dat (.int p), .wk "Walk" wkN (wkX p (restsM p l) (restsM p a) (chain p (restsM p l) (restsM p a) j).f (chain p (restsM p l) (restsM p a) j).s (degC p (restsM p l) (restsM p a) j)), .dat (.int ((j : Int) + 1))] ∧ j ≤ n ∧ k = n - j) _ ⟨0, rfl, by omega, rfl⟩ ?_) ?_
    · rintro k ds' ⟨j, rfl, hj, rfl⟩
      have fw := h.few
      by_cases c2 : j < n
      · have lj := h.ch.long j c2
        refine ⟨true, (et_not (et_B (ev_end (i := 2) rfl (one_of rfl)))).yes (by rw [decide_eq_false (by omega)] <;> rfl), fun _ => ?_, (fun h => by cases h)⟩
        refine sd_then (sd_ifF ((et_test (ev_op (ev_var rfl) ev_int rv_eq)).nay (decide_eq_false (by omega))) (sd_next rfl)) ?_
        refine sd_then (sd_goD (i := 2) (C := "Walk") (ns := wkN) rfl (one_of rfl) ea_nil go_nm (h.go c2) rfl) ?_
        exact sd_set (ev_op (ev_var rfl) ev_int rv_int) ⟨n - (j + 1), by omega, j + 1, rfl, c2, rfl⟩
      · have ej : j = n := by omega
        subst ej
        exact ⟨false, (et_not (et_B (ev_end (i := 2) rfl (one_of rfl)))).nay (by rw [decide_eq_true h.ch.fin] <;> rfl), (fun h => by cases h), fun _ => ⟨_, rfl⟩⟩
    · rintro d ⟨sa, rfl⟩
      exact sd_ret (ev_fW (k := 5) (d := .int (degC p (restsM p l) (restsM p a) n)) rfl T.cls_Walk T.no_Walk_own_degree (at_of rfl (by decide)) rfl) rfl

theorem sc_degree_at : FnScope ["root", "prime", "found"] ["root", "prime"] (defScope s_degree_at) := ⟨rfl, rfl, rfl, by decide +kernel, rfl, by decide +kernel, by decide +kernel⟩
def pDegreeAt : List Dat → Dat → Prop := fun dl r => ∃ (l a : List (Int × Int)) (c : Dat) (p : Int) (n : Nat), dl = [.root (rl l) (rl a) c, .int p] ∧ WalkOk p l a n ∧ r = .int (degC p (restsM p l) (restsM p a) n)
theorem ok_degree_at {P : Program} {w : World} {K : PySem.W.Frag} {mg : Str → Option Value} {base : Heap} (T : Txt K mg) (c_rest_walk : Cal P w K mg base 7 "rest_walk" (spD K pRestWalk)) : Cal P w K mg base (7 + 1) "degree_at" (spD K pDegreeAt) := by
  refine ⟨?_, T.g_degree_at, (T.d_degree_at).elim fun _ F => F.kp⟩
  refine fn_d (d := d_degree_at) (k := 7) (T.d_degree_at) sc_degree_at (fun _ _ _ _ _ _ us hl => match us, hl with | [_, _], _ => rfl) ?_ ?_
  · rintro dl r ⟨_, _, _, _, _, rfl, _⟩; rfl
  · intro cdv A outer s H E hr
    refine ⟨_, (pss_cons (ps_set (i := 2) sc_degree_at.nd rfl (.inl rfl) (pe_cf (c_rest_walk.mono (by decide)) hr (by rfl) (pa_cons (pv 0) (pa_cons (pv 1) pa_nil))))
      (pss_cons (ps_if (pt_cmpR op_isN (pv 2) pe_non (nomark _))
        (pss_one ps_never)
        pss_nil)
      (pss_one (ps_ret (pv 2))))), ?_⟩
    rintro m dl r ⟨l, a, c, p, n, rfl, h, rfl⟩
    refine sd_then (sd_set (ev_call (ea_cons (ev_var rfl) (ea_cons (ev_var rfl) ea_nil)) ⟨l, a, c, p, n, rfl, h, rfl⟩) rfl) ?_
    refine sd_then (sd_ifF ((et_test (ev_op (ev_var rfl) ev_non rv_isN)).nay rfl) (sd_next rfl)) ?_
    exact sd_ret (ev_var rfl) rfl

theorem sc_unit_at : FnScope ["root", "prime", "walk", "first", "second", "ahead", "behind", "whole", "back"] ["root", "prime"] (defScope s_unit_at) := ⟨rfl, rfl, rfl, by decide +kernel, rfl, by decide +kernel, by decide +kernel⟩
def pUnitAt : List Dat → Dat → Prop := fun dl r => ∃ (l a : List (Int × Int)) (c : Dat) (p : Int) (n : Nat), dl = [.root (rl l) (rl a) c, .int p] ∧ WalkOk p l a n ∧ r = .tup [il (unitC p (chain p (restsM p l) (restsM p a) n)).1, il (unitC p (chain p (restsM p l) (restsM p a) n)).2]
theorem ok_unit_at {P : Program} {w : World} {K : PySem.W.Frag} {mg : Str → Option Value} {base : Heap} (T : Txt K mg) (c_mk_Walk : MkC P w K mg base 5 "Walk" (spW K "Walk" pWalkInit) []) (c_Walk_at_end : Fok P w K mg base 1 (d_Walk_at_end.adr K) (spD K pAtEnd)) (c_Walk_go : Fok P w K mg base 5 (d_Walk_go.adr K) (spW K "Walk" pGo)) (c_rest_times : Cal P w K mg base 2 "rest_times" (spD K pMul)) (c_rest_sum : Cal P w K mg base 2 "rest_sum" (spD K pSum)) (c_undone_rest : Cal P w K mg base 1 "undone_rest" (spD K pInv)) : Cal P w K mg base (6 + 1) "unit_at" (spD K pUnitAt) := by
  refine ⟨?_, T.g_unit_at, (T.d_unit_at).elim fun _ F => F.kp⟩
  refine (fn_dW (d := d_unit_at) (k := 6) (T.d_unit_at) sc_unit_at (fun _ _ _ _ _ _ us hl => match us, hl with | [_, _], _ => rfl) ?_ ?_).raw
  · rintro dl r ⟨_, _, _, _, _, rfl, _⟩; rfl
  · intro cdv A outer s H E hr
    refine ⟨_, (pss_cons (ps_set (i := 2) sc_unit_at.nd rfl (.inl rfl) (pe_mkC (c_mk_Walk.mono (by decide)) hr (by rfl) (pa_cons (pv 0) (pa_cons (pv 1) pa_nil))))
      (pss_cons (ps_asg (pe_tup (pa_cons (pe_fld (pv 2) rfl) (pa_cons (pe_lst (pa_cons pe_int pa_nil)) (pa_cons (pe_lst (pa_cons pe_int pa_nil)) (pa_cons (pe_lst pa_nil) pa_nil))))) (pg_tup rfl (pgs_cons (pg_name (i := 3) sc_unit_at.nd rfl (.inl rfl)) (pgs_cons (pg_name (i := 4) sc_unit_at.nd rfl (.inl rfl)) (pgs_cons (pg_name (i := 5) sc_unit_at.nd rfl (.inl rfl)) (pgs_cons (pg_name (i := 6) sc_unit_at.nd rfl (.inl rfl)) pgs_nil))))))
      (pss_cons (ps_while PassesOwn.never (pt_not (pt_val (pe_meC0 (pv 2) T.cls_Walk T.m_Walk_at_end (c_Walk_at_end.mono (by decide)) hr)))
        (pss_cons (ps_set (i := 7) sc_unit_at.nd rfl (.inl rfl) (pe_meC0 (pv 2) T.cls_Walk T.m_Walk_go (c_Walk_go.mono (by decide)) hr))
        (pss_cons (ps_par (i := 3) (j := 5) (by rfl) sc_unit_at.nd rfl rfl (by decide) rfl rfl (pa_cons (pe_cf (c_rest_sum.mono (by decide)) hr (by rfl) (pa_cons (pe_cf (c_rest_times.mono (by decide)) hr (by rfl) (pa_cons (pv 7) (pa_cons (pv 3) (pa_cons (pv 1) pa_nil)))) (pa_cons (pv 5) (pa_cons pe_int (pa_cons (pv 1) pa_nil))))) (pa_cons (pv 3) pa_nil)) (by rfl))
        (pss_one (ps_par (i := 4) (j := 6) (by rfl) sc_unit_at.nd rfl rfl (by decide) rfl rfl (pa_cons (pe_cf (c_rest_sum.mono (by decide)) hr (by rfl) (pa_cons (pe_cf (c_rest_times.mono (by decide)) hr (by rfl) (pa_cons (pv 7) (pa_cons (pv 4) (pa_cons (pv 1) pa_nil)))) (pa_cons (pv 6) (pa_cons pe_int (pa_cons (pv 1) pa_nil))))) (pa_cons (pv 4) pa_nil)) (by rfl))))))
      (pss_cons (ps_set (i := 8) sc_unit_at.nd rfl (.inl rfl) (pe_lst (pa_cons (pe_cf (c_undone_rest.mono (by decide)) hr (by rfl) (pa_cons (pe_ix ix_list (pv 4) (pe_un un_neg pe_int) (fun _ _ => rfl)) (pa_cons (pv 1) pa_nil))) pa_nil)))
      (pss_one (ps_ret (pe_tup (pa_cons (pe_cf (c_rest_times.mono (by decide)) hr (by rfl) (pa_cons (pv 3) (pa_cons (pv 8) (pa_cons (pv 1) pa_nil)))) (pa_cons (pe_cf (c_rest_times.mono (by decide)) hr (by rfl) (pa_cons (pv 4) (pa_cons (pv 8) (pa_cons (pv 1) pa_nil)))) pa_nil))))))))), ?_⟩
    rintro m dl r hw hM ⟨l, a, c, p, n, rfl, h, rfl⟩
    have hp := h.ch.pr
    have hp2 := hp.pos
    have ll := h.ll
    have al := h.al
    have a13 : ∀ {l : List Int}, Red p l → Sm l := fun h => h.1.sm hp2.2
    refine sd_then (sd_mkW (dd := []) (C := "Walk") (xs' := wkX p (restsM p l) (restsM p a) (chain p (restsM p l) (restsM p a) 0).f (chain p (restsM p l) (restsM p a) 0).s (degC p (restsM p l) (restsM p a) 0)) (ns' := wkN) (ea_cons (ev_var rfl) (ea_cons (ev_var rfl) ea_nil)) (fun _ => rfl) ⟨l, a, c, p, rfl, rfl, rfl, ⟨hp, h.aw, h.aa, by omega, by omega⟩, rfl, rfl, rfl⟩ hw rfl hM) ?_
    have hch := h.ch
    have go := fun j g c2 => h.go (j := j) (g := g) c2
    generalize restsM p l = D at *
    generalize restsM p a = A at *
    refine sd_then (sd_unp (is := [3, 4, 5, 6]) (dl := [il (chain p D A 0).a, il (chain p D A 0).b, il (chain p D A 0).c, il (chain p D A 0).d]) (ev_tup (ea_cons (ev_fW (i := 2) (k := 2) (d := il A) rfl T.cls_Walk T.no_Walk_own_nearest (at_of rfl (by decide)) rfl) (ea_cons (EvO.dd (eo_lst (ea_cons ev_int ea_nil) (by simp [chain, ch0]))) (ea_cons (EvO.dd (eo_lst (ea_cons ev_int ea_nil) (by simp [chain, ch0]))) (ea_cons (EvO.dd (eo_lst ea_nil (by simp [chain, ch0]))) ea_nil)))) (by simp)) rfl rfl rfl) ?_
    refine sd_seq (M := fun d => ∃ sw sc sd se sf, d = [.dat (.root (rl l) (rl a) c), .dat (.int p), sw, .dat (il (chain p D A n).a), .dat (il (chain p D A n).b), sc, sd, se, sf])
      (sd_while (fun k ds' => ∃ (j : Nat) (se : Sv), ds' = [.dat (.root (rl l) (rl a) c), .dat (.int p), .wk "Walk" wkN (wkX p D A (chain p D A j).f (chain p D A j).s (degC p D A j)), .dat (il (chain p D A j).a), .dat (il (chain p D A j).b), .dat (il (chain p D A j).c), .dat (il (chain p D A j).d), se, .no] ∧ (se = .no ∨ ∃ d, se = .dat d) ∧ j ≤ n ∧ k = n - j) _ ⟨0, _, rfl, .inl rfl, by omega, rfl⟩ ?_) ?_
    · rintro k ds' ⟨j, se, rfl, hse, hj, rfl⟩
      have one1 : ∀ (x y z u : Sv) (C : Str) (ns : List Str) (xs : List Dat), x.isWk = false → y.isWk = false → z.isWk = false → u.isWk = false → OneW [.dat (.root (rl l) (rl a) c), .dat (.int p), .wk C ns xs, x, y, z, u, se, .no] 2 := fun x y z u C ns xs h1 h2 h3 h4 => one_of (by
        have hs : se.isWk = false := by
          rcases hse with q | ⟨d, q⟩ <;> rw [q] <;> rfl
        simp [h1, h2, h3, h4, hs, isWk_dat, isWk_no])
      by_cases c2 : j < n
      · have lj := hch.long j c2
        have rj := hch.red j hj
        obtain ⟨l1, l2, l3, l4, l5, l6⟩ := hch.lens j hj
        refine ⟨true, (et_not (et_B (ev_end (i := 2) rfl (one1 _ _ _ _ _ _ _ rfl rfl rfl rfl)))).yes (by rw [decide_eq_false (by omega)] <;> rfl), fun _ => ?_, (fun h => by cases h)⟩
        refine sd_then (sd_goS (i := 2) (j := 7) (C := "Walk") (ns := wkN) rfl (one1 _ _ _ _ _ _ _ rfl rfl rfl rfl) ea_nil go_nm (go j _ c2) rfl) ?_
        have dlA := hch.al
        have sl := sumM_len (p := p) (t := 1) (chain p D A j).f A
        have sr := sumM_red (t := 1) (b := A) hp2.1 rj.f.1
        obtain ⟨pr1, _, _, pl⟩ := parts_red hp sr rj.s (hch.sn j hj)
        have ppl : (partC p A (chain p D A j)).length ≤ 1200 := by unfold partC; omega
        have ppr : Red p (partC p A (chain p D A j)) := pr1
        have m1 := mulM_len (p := p) (partC p A (chain p D A j)) (chain p D A j).a
        have m2 := mulM_len (p := p) (partC p A (chain p D A j)) (chain p D A j).b
        have es : chain p D A (j + 1) = stepC p D A (chain p D A j) := rfl
        refine sd_then (sd_par (x := il (chain p D A (j + 1)).a) (y := il (chain p D A (j + 1)).c) (ea_cons (ev_call (dl := [il (mulM p (partC p A (chain p D A j)) (chain p D A j).a), il (chain p D A j).c, .int 1, .int p]) (ea_cons (ev_call (ea_cons (ev_var rfl) (ea_cons (ev_var rfl) (ea_cons (ev_var rfl) ea_nil))) ⟨_, _, p, rfl, ⟨hp, a13 ppr, by omega, by omega⟩, rfl⟩) (ea_cons (ev_var rfl) (ea_cons ev_int (ea_cons (ev_var rfl) ea_nil)))) ⟨_, _, 1, p, rfl, ⟨hp, .inl rfl, by omega, by omega⟩, rfl⟩) (ea_cons (ev_var rfl) ea_nil)) rfl) ?_
        refine sd_par (x := il (chain p D A (j + 1)).b) (y := il (chain p D A (j + 1)).d) (ea_cons (ev_call (dl := [il (mulM p (partC p A (chain p D A j)) (chain p D A j).b), il (chain p D A j).d, .int 1, .int p]) (ea_cons (ev_call (ea_cons (ev_var rfl) (ea_cons (ev_var rfl) (ea_cons (ev_var rfl) ea_nil))) ⟨_, _, p, rfl, ⟨hp, a13 ppr, by omega, by omega⟩, rfl⟩) (ea_cons (ev_var rfl) (ea_cons ev_int (ea_cons (ev_var rfl) ea_nil)))) ⟨_, _, 1, p, rfl, ⟨hp, .inl rfl, by omega, by omega⟩, rfl⟩) (ea_cons (ev_var rfl) ea_nil)) ?_
        exact ⟨n - (j + 1), by omega, j + 1, _, rfl, .inr ⟨_, rfl⟩, c2, rfl⟩
      · have ej : j = n := by omega
        subst ej
        exact ⟨false, (et_not (et_B (ev_end (i := 2) rfl (one1 _ _ _ _ _ _ _ rfl rfl rfl rfl)))).nay (by rw [decide_eq_true hch.fin] <;> rfl), (fun h => by cases h), fun _ => ⟨_, _, _, _, _, rfl⟩⟩
    · rintro d ⟨sw, sc, sd, se, sf, rfl⟩
      have rn := hch.red n (Nat.le_refl _)
      obtain ⟨l1, l2, l3, l4, l5, l6⟩ := hch.lens n (Nat.le_refl _)
      have bn := hch.bn
      generalize chain p D A n = x at *
      have ld := rn.b.lead bn
      obtain ⟨b2, cc, eb⟩ := (list_end x.b).resolve_left bn
      have ec : x.b.getLastD 0 = cc := by rw [eb]; simp
      refine sd_then (sd_set (d := il [inv p cc]) (EvO.dd (eo_lst (ea_cons (ev_call (ea_cons (ev_op (ev_var rfl) (ev_neg ev_int) (rv_ixL (d := .int cc) (by rw [eb]; exact at_last))) (ea_cons (ev_var rfl) ea_nil)) ⟨cc, p, rfl, ⟨hp, ec ▸ ld.2.2⟩, rfl⟩) ea_nil) (by simp))) rfl) ?_
      refine sd_ret (ev_tup (ea_cons (ev_call (dl := [il x.a, il [inv p cc], .int p]) (ea_cons (ev_var rfl) (ea_cons (ev_var rfl) (ea_cons (ev_var rfl) ea_nil))) ⟨x.a, _, p, rfl, ⟨hp, a13 rn.a, by omega, by simp⟩, rfl⟩) (ea_cons (ev_call (dl := [il x.b, il [inv p cc], .int p]) (ea_cons (ev_var rfl) (ea_cons (ev_var rfl) (ea_cons (ev_var rfl) ea_nil))) ⟨x.b, _, p, rfl, ⟨hp, a13 rn.b, by omega, by simp⟩, rfl⟩) ea_nil)) (by simp)) ?_
      unfold unitC
      rw [ec]

theorem sc_rests_of : FnScope ["poly", "prime", "told", "found"] ["poly", "prime"] (defScope s_rests_of) := ⟨rfl, rfl, rfl, by decide +kernel, rfl, by decide +kernel, by decide +kernel⟩
def pRestsOf : List Dat → Dat → Prop := fun dl r => ∃ (l : List (Int × Int)) (p : Int), dl = [rl l, .int p] ∧ (Pr p ∧ Away p l ∧ l.length ≤ 61) ∧ r = il (restsM p (trimR l))
theorem ok_rests_of {P : Program} {w : World} {K : PySem.W.Frag} {mg : Str → Option Value} {base : Heap} (T : Txt K mg) (c_want_poly : Cal P w K mg base 5 "want_poly" (spD K pWantPoly)) (c_want_prime : Cal P w K mg base 3 "want_prime" (spD K pWantPrime)) (c_rests_in : Cal P w K mg base 3 "rests_in" (spD K pRestsIn)) : Cal P w K mg base (5 + 1) "rests_of" (spD K pRestsOf) := by
  refine ⟨?_, T.g_rests_of, (T.d_rests_of).elim fun _ F => F.kp⟩
  refine fn_d (d := d_rests_of) (k := 5) (T.d_rests_of) sc_rests_of (fun _ _ _ _ _ _ us hl => match us, hl with | [_, _], _ => rfl) ?_ ?_
  · rintro dl r ⟨_, _, rfl, _⟩; rfl
  · intro cdv A outer s H E hr
    refine ⟨_, (pss_cons (ps_set (i := 2) sc_rests_of.nd rfl (.inl rfl) (pe_cf (c_want_poly.mono (by decide)) hr (by rfl) (pa_cons (pv 0) pa_nil)))
      (pss_cons (ps_set (i := 3) sc_rests_of.nd rfl (.inl rfl) (pe_cf (c_rests_in.mono (by decide)) hr (by rfl) (pa_cons (pv 2) (pa_cons (pe_cf (c_want_prime.mono (by decide)) hr (by rfl) (pa_cons (pv 1) pa_nil)) pa_nil))))
      (pss_cons (ps_if (pt_cmpR op_isN (pv 3) pe_non (nomark _))
        (pss_one ps_never)
        pss_nil)
      (pss_one (ps_ret (pv 3)))))), ?_⟩
    rintro m dl r ⟨l, p, rfl, ⟨hp, ha, hl⟩, rfl⟩
    have tl := trimR_len l
    refine sd_then (sd_set (d := rl (trimR l)) ((ev_call (ea_cons (ev_var rfl) ea_nil) ⟨l.map ratD, rfl, ⟨numD_map l, by rw [List.length_map]; exact hl⟩, rfl⟩).to (by rw [ratOf_map])) rfl) ?_
    refine sd_then (sd_set (ev_call (dl := [rl (trimR l), .int p]) (ea_cons (ev_var rfl) (ea_cons (ev_call (ea_cons (ev_var rfl) ea_nil) ⟨p, rfl, hp, rfl⟩) ea_nil)) ⟨trimR l, p, rfl, ⟨hp, fun r hr => ha r (trimR_mem hr), by omega⟩, rfl⟩) rfl) ?_
    refine sd_then (sd_ifF ((et_test (ev_op (ev_var rfl) ev_non rv_isN)).nay rfl) (sd_next rfl)) ?_
    exact sd_ret (ev_var rfl) rfl

theorem sc_rest_degree : FnScope ["root", "prime"] ["root", "prime"] (defScope s_rest_degree) := ⟨rfl, rfl, rfl, by decide +kernel, rfl, by decide +kernel, by decide +kernel⟩
def pRestDegree : List Dat → Dat → Prop := fun dl r => ∃ (l a : List (Int × Int)) (c : Dat) (p : Int) (n : Nat), dl = [.root (rl l) (rl a) c, .int p] ∧ (KeepM p l ∧ WalkOk p l a n) ∧ r = .int (degC p (restsM p l) (restsM p a) n)
theorem okx_rest_degree {P : Program} {w : World} {K : PySem.W.Frag} {mg : Str → Option Value} {base : Heap} (T : Txt K mg) (c_want_kept : Cal P w K mg base 7 "want_kept" (spD K pWantKept)) (c_degree_at : Cal P w K mg base 8 "degree_at" (spD K pDegreeAt)) : ∃ fd, FunD K d_rest_degree.name d_rest_degree.qual (defArgs s_rest_degree) (defBody s_rest_degree) (defScope s_rest_degree) [] [] (d_rest_degree.adr K) fd ∧ FnOk P w K mg base CX0 (8 + 1) (d_rest_degree.adr K) fd ["root", "prime"] (spD K pRestDegree) := by
  refine fnx_d (d := d_rest_degree) (k := 8) (T.d_rest_degree) sc_rest_degree ?_ ?_
  · rintro dl r ⟨_, _, _, _, _, rfl, _⟩; rfl
  · intro cdv A outer s H E hr
    refine ⟨_, (pss_cons (ps_expr (pe_cf (c_want_kept.mono (by decide)) hr (by rfl) (pa_cons (pv 0) (pa_cons (pv 1) pa_nil))))
      (pss_one (ps_ret (pe_cf (c_degree_at.mono (by decide)) hr (by rfl) (pa_cons (pv 0) (pa_cons (pv 1) pa_nil)))))), ?_⟩
    rintro m dl r ⟨l, a, c, p, n, rfl, ⟨hk, h⟩, rfl⟩
    refine sd_then (sd_drop (ev_call (ea_cons (ev_var rfl) (ea_cons (ev_var rfl) ea_nil)) ⟨l, _, c, p, rfl, hk, rfl⟩) rfl) ?_
    exact sd_ret (ev_call (ea_cons (ev_var rfl) (ea_cons (ev_var rfl) ea_nil)) ⟨l, a, c, p, n, rfl, h, rfl⟩) rfl

theorem ok_rest_degree {P : Program} {w : World} {K : PySem.W.Frag} {mg : Str → Option Value} {base : Heap} (T : Txt K mg) {k : Nat} (h : ∃ fd, FunD K d_rest_degree.name d_rest_degree.qual (defArgs s_rest_degree) (defBody s_rest_degree) (defScope s_rest_degree) [] [] (d_rest_degree.adr K) fd ∧ FnOk P w K mg base CX0 k (d_rest_degree.adr K) fd ["root", "prime"] (spD K pRestDegree)) : Cal P w K mg base k "rest_degree" (spD K pRestDegree) ∧ CalK P w K mg base k "rest_degree" (spD K pRestDegree) := by
  obtain ⟨fd, F, ok⟩ := h
  have b : Binds K fd ["root", "prime"] [] := FunD.bindsN F (fun _ _ _ _ _ _ us hl => match us, hl with | [_, _], _ => rfl)
  refine ⟨⟨?_, T.g_rest_degree, F.kp⟩, ⟨⟨fd, _, ok, kbinds2 F (fun _ _ _ _ _ _ _ _ => rfl) (fun _ _ _ _ _ _ _ _ => rfl) (fun _ _ _ _ _ _ _ _ => rfl)⟩, T.g_rest_degree, F.kp⟩⟩
  have r := ok.raw b .nil
  exact r.imp fun vs H Q E h => by rw [List.append_nil]; exact h

theorem sc_rest_unit : FnScope ["root", "prime"] ["root", "prime"] (defScope s_rest_unit) := ⟨rfl, rfl, rfl, by decide +kernel, rfl, by decide +kernel, by decide +kernel⟩
def pRestUnit : List Dat → Dat → Prop := fun dl r => ∃ (l a : List (Int × Int)) (c : Dat) (p : Int) (n : Nat), dl = [.root (rl l) (rl a) c, .int p] ∧ (KeepM p l ∧ WalkOk p l a n ∧ degC p (restsM p l) (restsM p a) n ≤ 150) ∧ r = .tup [il (unitC p (chain p (restsM p l) (restsM p a) n)).1, il (unitC p (chain p (restsM p l) (restsM p a) n)).2]
theorem okx_rest_unit {P : Program} {w : World} {K : PySem.W.Frag} {mg : Str → Option Value} {base : Heap} (T : Txt K mg) (c_want_kept : Cal P w K mg base 7 "want_kept" (spD K pWantKept)) (c_degree_at : Cal P w K mg base 8 "degree_at" (spD K pDegreeAt)) (c_want_at_most : Cal P w K mg base 1 "want_at_most" (spD K pAtMost)) (c_unit_at : Cal P w K mg base 7 "unit_at" (spD K pUnitAt)) : ∃ fd, FunD K d_rest_unit.name d_rest_unit.qual (defArgs s_rest_unit) (defBody s_rest_unit) (defScope s_rest_unit) [] [] (d_rest_unit.adr K) fd ∧ FnOk P w K mg base CX0 (8 + 1) (d_rest_unit.adr K) fd ["root", "prime"] (spD K pRestUnit) := by
  refine fnx_d (d := d_rest_unit) (k := 8) (T.d_rest_unit) sc_rest_unit ?_ ?_
  · rintro dl r ⟨_, _, _, _, _, rfl, _⟩; rfl
  · intro cdv A outer s H E hr
    refine ⟨_, (pss_cons (ps_expr (pe_cf (c_want_kept.mono (by decide)) hr (by rfl) (pa_cons (pv 0) (pa_cons (pv 1) pa_nil))))
      (pss_cons (ps_expr (pe_cf (c_want_at_most.mono (by decide)) hr (by rfl) (pa_cons pe_str (pa_cons (pe_glob (v := .int 150) rfl T.c_MOST_DEGREE.choose_spec ⟨_, rfl⟩) (pa_cons (pe_cf (c_degree_at.mono (by decide)) hr (by rfl) (pa_cons (pv 0) (pa_cons (pv 1) pa_nil))) pa_nil)))))
      (pss_one (ps_ret (pe_cf (c_unit_at.mono (by decide)) hr (by rfl) (pa_cons (pv 0) (pa_cons (pv 1) pa_nil))))))), ?_⟩
    rintro m dl r ⟨l, a, c, p, n, rfl, ⟨hk, h, hd⟩, rfl⟩
    refine sd_then (sd_drop (ev_call (ea_cons (ev_var rfl) (ea_cons (ev_var rfl) ea_nil)) ⟨l, _, c, p, rfl, hk, rfl⟩) rfl) ?_
    refine sd_then (sd_drop (ev_call (dl := [.str "degree", .int 150, .int (degC p (restsM p l) (restsM p a) n)]) (ea_cons ev_str (ea_cons ev_int (ea_cons (ev_call (ea_cons (ev_var rfl) (ea_cons (ev_var rfl) ea_nil)) ⟨l, a, c, p, n, rfl, h, rfl⟩) ea_nil))) ⟨_, _, _, rfl, hd, rfl⟩) rfl) ?_
    exact sd_ret (ev_call (ea_cons (ev_var rfl) (ea_cons (ev_var rfl) ea_nil)) ⟨l, a, c, p, n, rfl, h, rfl⟩) rfl

theorem ok_rest_unit {P : Program} {w : World} {K : PySem.W.Frag} {mg : Str → Option Value} {base : Heap} (T : Txt K mg) {k : Nat} (h : ∃ fd, FunD K d_rest_unit.name d_rest_unit.qual (defArgs s_rest_unit) (defBody s_rest_unit) (defScope s_rest_unit) [] [] (d_rest_unit.adr K) fd ∧ FnOk P w K mg base CX0 k (d_rest_unit.adr K) fd ["root", "prime"] (spD K pRestUnit)) : Cal P w K mg base k "rest_unit" (spD K pRestUnit) ∧ CalK P w K mg base k "rest_unit" (spD K pRestUnit) := by
  obtain ⟨fd, F, ok⟩ := h
  have b : Binds K fd ["root", "prime"] [] := FunD.bindsN F (fun _ _ _ _ _ _ us hl => match us, hl with | [_, _], _ => rfl)
  refine ⟨⟨?_, T.g_rest_unit, F.kp⟩, ⟨⟨fd, _, ok, kbinds2 F (fun _ _ _ _ _ _ _ _ => rfl) (fun _ _ _ _ _ _ _ _ => rfl) (fun _ _ _ _ _ _ _ _ => rfl)⟩, T.g_rest_unit, F.kp⟩⟩
  have r := ok.raw b .nil
  exact r.imp fun vs H Q E h => by rw [List.append_nil]; exact h

theorem sc_are_integers : FnScope ["value", "number"] ["value"] (defScope s_are_integers) := ⟨rfl, rfl, rfl, by decide +kernel, rfl, by decide +kernel, by decide +kernel⟩
def pAreInts : List Dat → Dat → Prop := fun dl r => ∃ (l : List Int), dl = [il l] ∧ l.length ≤ 400 ∧ r = .bl true
theorem ok_are_integers {P : Program} {w : World} {K : PySem.W.Frag} {mg : Str → Option Value} {base : Heap} (T : Txt K mg) (c_is_integer : Cal P w K mg base 1 "is_integer" (spD K pIsInt)) (c_is_list : Cal P w K mg base 1 "is_list" (spD K pIsList)) : Cal P w K mg base (1 + 1) "are_integers" (spD K pAreInts) := by
  refine ⟨?_, T.g_are_integers, (T.d_are_integers).elim fun _ F => F.kp⟩
  refine fn_d (d := d_are_integers) (k := 1) (T.d_are_integers) sc_are_integers (fun _ _ _ _ _ _ us hl => match us, hl with | [_], _ => rfl) ?_ ?_
  · rintro dl r ⟨_, rfl, _⟩; rfl
  · intro cdv A outer s H E hr
    refine ⟨_, (pss_one (ps_ret (pe_and (pe_cf (c_is_list.mono (by decide)) hr (by rfl) (pa_cons (pv 0) pa_nil)) (pe_and (pe_cmpR op_le (pe_callB call_len_seq (by rfl) T.b_len (by decide +kernel) (pa_cons (pv 0) pa_nil)) (pe_glob (v := .int 400) rfl T.c_MOST_RESTS.choose_spec ⟨_, rfl⟩) (nomark _)) (pe_one (pe_callB (cr_all rfl) (by rfl) T.b_all (by decide +kernel) (pa_cons (pe_lc (own := [("number", 1)]) (g := (gName 1)) (tt := tYes) (te := (tCf (spD K pIsInt) (tCons (tVar 1) tNil))) rfl sc_are_integers.nd (pi_list (pv 0)) (blkOk_by (own := [("number", 1)]) (N := ["value", "number"]) (sc := defScope s_are_integers) (by decide +kernel)) (fun _ _ _ _ _ => (pg_name (i := 1) sc_are_integers.nd rfl (Or.inl rfl))) (fun _ _ _ _ _ => pts_nil) (fun _ _ _ _ _ => (pe_cf (c_is_integer.mono (by decide)) hr (by rfl) (pa_cons (pv 1) pa_nil)))) pa_nil))))))), ?_⟩
    rintro m dl r ⟨l, rfl, hl, rfl⟩
    exact sd_ret (ev_andT (ev_call (ea_cons (ev_var rfl) ea_nil) ⟨_, rfl, trivial, rfl⟩) (ev_andT ((ev_op (ev_len (ev_var rfl)) ev_int rv_bl).to (by rw [decide_eq_true (by rw [List.length_map]; omega)])) ((et_allG (f := Dat.int) (b := fun _ => true) (ev_var rfl) (by omega) fun x hx => ev_call (ea_cons (ev_var rfl) ea_nil) ⟨.int x, rfl, .inl ⟨x, rfl⟩, rfl⟩).to (by simp)))) rfl

theorem sc_is_rest_unit : FnScope ["root", "prime", "value", "first", "second", "half", "number"] ["root", "prime", "value"] (defScope s_is_rest_unit) := ⟨rfl, rfl, rfl, by decide +kernel, rfl, by decide +kernel, by decide +kernel⟩
def pIsRestUnit : List Dat → Dat → Prop := fun dl r => ∃ (l a : List (Int × Int)) (c : Dat) (p : Int) (x y : List Int), dl = [.root (rl l) (rl a) c, .int p, .tup [il x, il y]] ∧ (KeepM p l ∧ Away p l ∧ Away p a ∧ l.length ≤ 100 ∧ a.length ≤ 100 ∧ Red p x ∧ Red p y ∧ x.length ≤ 400 ∧ y.length ≤ 400 ∧ y ≠ [] ∧ (normP p (restsM p l) x y).length = 1) ∧ r = .bl true
theorem ok_is_rest_unit {P : Program} {w : World} {K : PySem.W.Frag} {mg : Str → Option Value} {base : Heap} (T : Txt K mg) (c_want_kept : Cal P w K mg base 7 "want_kept" (spD K pWantKept)) (c_are_integers : Cal P w K mg base 2 "are_integers" (spD K pAreInts)) (c_without_noughts : Cal P w K mg base 1 "without_noughts" (spD K pTrim)) (c_mk_Walk : MkC P w K mg base 5 "Walk" (spW K "Walk" pWalkInit) []) (c_Walk_norm : Fok P w K mg base 4 (d_Walk_norm.adr K) (spD K pNorm)) : Cal P w K mg base (7 + 1) "is_rest_unit" (spD K pIsRestUnit) := by
  refine ⟨?_, T.g_is_rest_unit, (T.d_is_rest_unit).elim fun _ F => F.kp⟩
  refine fn_d (d := d_is_rest_unit) (k := 7) (T.d_is_rest_unit) sc_is_rest_unit (fun _ _ _ _ _ _ us hl => match us, hl with | [_, _, _], _ => rfl) ?_ ?_
  · rintro dl r ⟨_, _, _, _, _, _, rfl, _⟩; rfl
  · intro cdv A outer s H E hr
    refine ⟨_, (pss_cons (ps_expr (pe_cf (c_want_kept.mono (by decide)) hr (by rfl) (pa_cons (pv 0) (pa_cons (pv 1) pa_nil))))
      (pss_cons (ps_if (PW.pt (pw_or (pt_not (pt_val (pe_callB call_isi (by rfl) T.b_isinstance (by decide +kernel) (pa_cons (pv 2) (pa_cons (pe_bltn (v := .ty "tuple") (by rfl) T.b_tuple (by decide +kernel) rfl) pa_nil))))) (pw_or (pt_cmpR op_ne (pe_callB call_len_seq (by rfl) T.b_len (by decide +kernel) (pa_cons (pv 2) pa_nil)) pe_int (nomark _)) (pw_or (pt_not (pt_val (pe_cf (c_are_integers.mono (by decide)) hr (by rfl) (pa_cons (pe_ix ix_tup (pv 2) pe_int (fun _ _ => rfl)) pa_nil)))) (pw_or1 (pt_not (pt_val (pe_cf (c_are_integers.mono (by decide)) hr (by rfl) (pa_cons (pe_ix ix_tup (pv 2) pe_int (fun _ _ => rfl)) pa_nil)))))))))
        (pss_one (ps_ret pe_bl))
        pss_nil)
      (pss_cons (ps_asg (pe_lc (own := [("half", 5)]) (g := (gName 5)) (tt := tYes) (te := (tCf (spD K pTrim) (tCons (tLc (iList K (tVar 5)) (gName 6) tYes (tOp (rI (fun _ j => 0 < j) fun i j => .int (i % j)) (tVar 6) (tVar 1)) [6]) tNil))) rfl sc_is_rest_unit.nd (pi_tup (pv 2)) (blkOk_by (own := [("half", 5)]) (N := ["root", "prime", "value", "first", "second", "half", "number"]) (sc := defScope s_is_rest_unit) (by decide +kernel)) (fun _ _ _ _ _ => (pg_name (i := 5) sc_is_rest_unit.nd rfl (Or.inl rfl))) (fun _ _ _ _ _ => pts_nil) (fun _ _ _ _ _ => (pe_cf (c_without_noughts.mono (by decide)) hr (by rfl) (pa_cons (pe_lc (own := [("number", 6)]) (g := (gName 6)) (tt := tYes) (te := (tOp (rI (fun _ j => 0 < j) fun i j => .int (i % j)) (tVar 6) (tVar 1))) rfl sc_is_rest_unit.nd (pi_list (pv 5)) (blkOk_by (own := [("number", 6)]) (N := ["root", "prime", "value", "first", "second", "half", "number"]) (sc := { kind := .function, names := [(".0", .local), ("half", .local), ("without_noughts", .globalImplicit), ("prime", .cell)], isGenerator := false, isCoroutine := false }) (by decide +kernel)) (fun _ _ _ _ _ => (pg_name (i := 6) sc_is_rest_unit.nd rfl (Or.inl rfl))) (fun _ _ _ _ _ => pts_nil) (fun _ _ _ _ _ => (pe_op op_mod (pv 6) (pv 1)))) pa_nil)))) (pg_unl rfl (pgs_cons (pg_name (i := 3) sc_is_rest_unit.nd rfl (.inl rfl)) (pgs_cons (pg_name (i := 4) sc_is_rest_unit.nd rfl (.inl rfl)) pgs_nil))))
      (pss_one (ps_ret (pe_and (pe_cmpR (op_neD hr.units) (pv 4) (pe_lst pa_nil) (nomark _)) (pe_one (pe_cmpR op_eq (pe_callB call_len_seq (by rfl) T.b_len (by decide +kernel) (pa_cons (pe_meC (pe_mkC (c_mk_Walk.mono (by decide)) hr (by rfl) (pa_cons (pv 0) (pa_cons (pv 1) pa_nil))) T.cls_Walk T.m_Walk_norm (c_Walk_norm.mono (by decide)) hr (pa_cons (pv 3) (pa_cons (pv 4) pa_nil))) pa_nil)) pe_int (nomark _))))))))), ?_⟩
    rintro m dl r ⟨l, a, c, p, x, y, rfl, ⟨hk, aw, aa, l1, l2, rx, ry, lx, ly, yn, hn⟩, rfl⟩
    have hp := hk.pr
    have hp2 := hp.pos
    refine sd_then (sd_drop (ev_call (ea_cons (ev_var rfl) (ea_cons (ev_var rfl) ea_nil)) ⟨l, _, c, p, rfl, hk, rfl⟩) rfl) ?_
    refine sd_then (sd_ifF (et_orF (et_notT (et_B (ev_isi T (ev_var rfl) (.ty _) T.k_tuple_tuple))) (et_orF ((et_test (ev_op (ev_lenT (ev_var rfl)) ev_int rv_ne)).nay rfl) (et_orF (et_notT (et_B (ev_call (ea_cons (ev_op (ev_var rfl) ev_int (rv_ixT at_tup2.2)) ea_nil) ⟨x, rfl, lx, rfl⟩))) (et_notT (et_B (ev_call (ea_cons (ev_op (ev_var rfl) ev_int (rv_ixT at_tup2.1)) ea_nil) ⟨y, rfl, ly, rfl⟩)))))) (sd_next rfl)) ?_
    have same : ∀ {z : List Int}, Red p z → trim (z.map (· % p)) = z := fun {z} hz => by
      have : z.map (· % p) = z := by
        conv => rhs; rw [← List.map_id z]
        exact List.map_congr_left fun u hu => by
          have := hz.1 u hu
          exact Int.emod_eq_of_lt this.1 this.2
      rw [this, hz.2]
    refine sd_then (sd_unl (is := [3, 4]) (dl := [il x, il y]) ((EvO.dd (eo_lc (it_tup (j := 5) (ev_var rfl)) (vs := [5]) (fun _ h => h) (fun _ => true) (fun i => if i = 0 then il x else il y) (by simp) (fun _ _ => et_yes) fun i hi _ => ?_)).to rfl) rfl rfl rfl) ?_
    · match i, hi with
      | 0, _ => exact (ev_call (dl := [il (x.map (· % p))]) (ea_cons (EvO.dd (eo_map (g := (· % p)) (ev_var rfl) (by omega) fun u _ => ev_op (ev_var rfl) (ev_var rfl) (rv_intC (by omega)))) ea_nil) ⟨_, rfl, trivial, rfl⟩).to (by rw [same rx] <;> rfl)
      | 1, _ => exact (ev_call (dl := [il (y.map (· % p))]) (ea_cons (EvO.dd (eo_map (g := (· % p)) (ev_var rfl) (by omega) fun u _ => ev_op (ev_var rfl) (ev_var rfl) (rv_intC (by omega)))) ea_nil) ⟨_, rfl, trivial, rfl⟩).to (by rw [same ry] <;> rfl)
    have mk : ∀ ds2 : Ds, ds2[0]? = some (.dat (.root (rl l) (rl a) c)) → ds2[1]? = some (.dat (.int p)) → EvD m K (tMake (He.ga K "Walk") (spW K "Walk" pWalkInit) [] E0 (tCons (tVar 0) (tCons (tVar 1) tNil))) ds2 (.ob "Walk" wkN (wkX p (restsM p l) (restsM p a) (restsM p a) (lessM p (restsM p l) (mulM p (restsM p a) (restsM p a))) (((restsM p a).length : Int) - 1))) := fun ds2 q1 q2 => ev_mk (dd := []) (ea_cons (ev_var q1) (ea_cons (ev_var q2) ea_nil)) (fun _ => rfl) ⟨l, a, c, p, rfl, rfl, rfl, ⟨hp, aw, aa, l1, l2⟩, rfl, rfl, rfl⟩ fun Hb q dx fv h hv => ⟨q, dx, fv, rfl, h, hv⟩
    have ml := restsM_len p l
    refine sd_ret (ev_andT ((ev_op (ev_var rfl) (EvO.dd (eo_lst ea_nil (by decide))) (rv_neL (l := y) (l' := []))).to (by simp [yn])) ((ev_op (ev_len (ev_me (recv := .ob "Walk" wkN (wkX p (restsM p l) (restsM p a) (restsM p a) (lessM p (restsM p l) (mulM p (restsM p a) (restsM p a))) (((restsM p a).length : Int) - 1))) (r := il (normP p (restsM p l) x y)) (dl := [il x, il y]) (mk _ rfl rfl) (ea_cons (ev_var rfl) (ea_cons (ev_var rfl) ea_nil)) (fun Hb v hv => sh_ob (by decide) v hv) ⟨_, _, p, restsM p l, x, y, rfl, ⟨hp, restsM_red hp l, rx, ry, by omega, by omega, by omega⟩, rfl⟩)) ev_int rv_eq).to (by simp [hn]))) rfl

end RR
/-! ### RW4 -/
namespace RR
open PySem PySem.Spec PyProof.Rows L2 Evl

theorem sc_law_nearest : FnScope ["_law_whole", "_law_side", "_law_prime", "_law_half", "_law_found", "_law_back_here", "_law_turn", "_law_place", "_law_left"] ["_law_whole", "_law_side", "_law_prime"] (defScope s_law_nearest) := ⟨rfl, rfl, rfl, by decide +kernel, rfl, by decide +kernel, by decide +kernel⟩
def pNear : List Dat → Dat → Prop := fun dl r => ∃ (whole : List Int) (side p : Int), dl = [il whole, .int side, .int p] ∧ (Pr p ∧ (0 < side ∧ side < p) ∧ 0 < whole.length ∧ whole.length ≤ 1000) ∧ r = il (nearL p whole side)
theorem ok_law_nearest {P : Program} {w : World} {K : PySem.W.Frag} {mg : Str → Option Value} {base : Heap} (T : Txt K mg) (c_law_plus : Cal P w K mg base 2 "_law_plus" (spD K pPlus)) (c_law_times : Cal P w K mg base 2 "_law_times" (spD K pMulL)) (c_law_back : Cal P w K mg base 1 "_law_back" (spD K pInv)) : Cal P w K mg base (2 + 1) "_law_nearest" (spD K pNear) := by
  refine ⟨?_, T.g_law_nearest, (T.d_law_nearest).elim fun _ F => F.kp⟩
  refine fn_d (d := d_law_nearest) (k := 2) (T.d_law_nearest) sc_law_nearest (fun _ _ _ _ _ _ us hl => match us, hl with | [_, _, _], _ => rfl) ?_ ?_
  · rintro dl r ⟨_, _, _, rfl, _⟩; rfl
  · intro cdv A outer s H E hr
    refine ⟨_, (pss_cons (ps_set (i := 3) sc_law_nearest.nd rfl (.inl rfl) (pe_op op_fdiv (pe_op op_sub (pe_callB call_len_seq (by rfl) T.b_len (by decide +kernel) (pa_cons (pv 0) pa_nil)) pe_int) pe_int))
      (pss_cons (ps_par (i := 4) (j := 5) (by rfl) sc_law_nearest.nd rfl rfl (by decide) rfl rfl (pa_cons (pe_op op_cat (pe_op op_rep (pe_lst (pa_cons pe_int pa_nil)) (pv 3)) (pe_lst (pa_cons (pv 1) pa_nil))) (pa_cons (pe_cf (c_law_back.mono (by decide)) hr (by rfl) (pa_cons (pe_op op_mul pe_int (pv 1)) (pa_cons (pv 2) pa_nil))) pa_nil)) (by rfl))
      (pss_cons (ps_for PassesOwn.never rfl (pi_range1 (by rfl) T.b_range (pa_cons (pv 3) pa_nil)) (pg_name (i := 6) sc_law_nearest.nd rfl (.inl rfl))
        (pss_cons (ps_set (i := 7) sc_law_nearest.nd rfl (.inl rfl) (pe_op op_sub (pe_op op_sub (pv 3) pe_int) (pv 6)))
        (pss_cons (ps_set (i := 8) sc_law_nearest.nd rfl (.inl rfl) (pe_cf (c_law_plus.mono (by decide)) hr (by rfl) (pa_cons (pv 0) (pa_cons (pe_cf (c_law_times.mono (by decide)) hr (by rfl) (pa_cons (pv 4) (pa_cons (pv 4) (pa_cons (pv 2) pa_nil)))) (pa_cons (pe_un un_neg pe_int) (pa_cons (pv 2) pa_nil))))))
        (pss_one (ps_asg (pe_ifExp (pt_cmpR op_gt (pe_callB call_len_seq (by rfl) T.b_len (by decide +kernel) (pa_cons (pv 8) pa_nil)) (pe_op op_add (pv 3) (pv 7)) (nomark _)) (pe_op op_mod (pe_callTy call_int1 (by rfl) T.b_int (by decide +kernel) (pa_cons (pe_op op_mul (pe_ix ix_list (pv 8) (pe_op op_add (pv 3) (pv 7)) (fun _ _ => rfl)) (pv 5)) pa_nil)) (pv 2)) pe_int) (pg_sub (pv 4) (pv 7) set_list))))))
      (pss_one (ps_ret (pv 4)))))), ?_⟩
    rintro m dl r ⟨whole, side, p, rfl, ⟨hp, hs, h1, h2⟩, rfl⟩
    have hp2 := hp.pos
    generalize eh : (whole.length - 1) / 2 = half
    generalize eb : inv p (2 * side) = back
    obtain ⟨b0, b1⟩ := inv_range (n := 2 * side) hp
    rw [eb] at b0 b1
    have en : nearL p whole side = nearLoop p whole half back side half := by unfold nearL; rw [eh, eb]
    rw [en]
    refine sd_then (sd_set (d := .int (half : Int)) ((ev_op (ev_op (ev_len (ev_var rfl)) ev_int rv_int) ev_int (rv_intC ⟨by decide, by decide⟩)).to ?_) rfl) ?_
    · simp only [List.length_map]; congr 1; omega
    refine sd_then (sd_parO (xs := (zeros half ++ [side]).map Dat.int) (y := .int back) ((eo_cat (EvO.dd (eo_zeros (ev_var rfl) (by omega))) (EvO.dd (eo_lst (ea_cons (ev_var rfl) ea_nil) (by simp))) ?_).to ?_) ((ev_call (ea_cons (ev_op ev_int (ev_var rfl) (rv_intC (.inl ⟨by decide, by decide⟩))) (ea_cons (ev_var rfl) ea_nil)) ⟨2 * side, p, rfl, ⟨hp, two_side hp hs⟩, rfl⟩).to (by rw [eb])) (by decide) rfl) ?_
    · simp [zeros]; omega
    · rw [Int.toNat_natCast, List.map_append] <;> rfl
    refine sd_seq (M := fun d => ∃ sa sb sc : Sv, d = [.dat (il whole), .dat (.int side), .dat (.int p), .dat (.int (half : Int)), .own ((nearLoop p whole half back side half).map Dat.int), .dat (.int back), sa, sb, sc])
      (sd_for (it_range1 (n := (half : Int)) (ea_cons (ev_var rfl) ea_nil) (by omega)) (fun k ds' => ∃ sa sb sc : Sv, ds' = [.dat (il whole), .dat (.int side), .dat (.int p), .dat (.int (half : Int)), .own ((nearLoop p whole half back side k).map Dat.int), .dat (.int back), sa, sb, sc]) ⟨_, _, _, rfl⟩ ?_ fun ds' h => by rw [Int.toNat_natCast] at h; exact h) ?_
    · rintro k ds' hk ⟨sa, sb, sc, rfl⟩
      rw [Int.toNat_natCast] at hk
      obtain ⟨l', ef, f1, f2⟩ := nearLoop_form hp (whole := whole) (half := half) (back := back) hs k (by omega)
      have fr : Red p (nearLoop p whole half back side k) := ef ▸ form_red hs f2
      have fl : (nearLoop p whole half back side k).length = half + 1 := by rw [ef]; simp [f1]
      have es : nearLoop p whole half back side (k + 1) = nearStep p whole half back (half - 1 - k) (nearLoop p whole half back side k) := rfl
      rw [es]
      generalize nearLoop p whole half back side k = found at *
      generalize ep : half - 1 - k = place at *
      refine sd_then (sd_set (d := .int (place : Int)) ((ev_op (ev_op (ev_var rfl) ev_int rv_int) (ev_var rfl) rv_int).to (by congr 1; omega)) rfl) ?_
      have ml : (mulL p found found).length ≤ 2 * half + 1 := by
        rw [law_mul hp]
        have := mulM_len (p := p) found found
        omega
      refine sd_then (sd_set (ev_call (dl := [il whole, il (mulL p found found), .int (-1), .int p]) (ea_cons (ev_var rfl) (ea_cons (ev_callO (xs := found) (d := .int p) rfl rfl ⟨found, found, p, rfl, ⟨hp, fr.1.sm hp2.2, by omega, by omega⟩, rfl⟩ (sq_ne hp fr (by omega))) (ea_cons (ev_neg ev_int) (ea_cons (ev_var rfl) ea_nil)))) ⟨whole, _, -1, p, rfl, ⟨hp, .inr rfl, by omega, by omega⟩, rfl⟩) rfl) ?_
      have en2 : nearStep p whole half back place found = found.set place (if half + place < (plusL p (-1) whole (mulL p found found)).length then (plusL p (-1) whole (mulL p found found)).getD (half + place) 0 * back % p else 0) := rfl
      rw [en2]
      generalize plusL p (-1) whole (mulL p found found) = left at *
      refine sd_store (i := 4) (j := place) rfl (d := .int (if half + place < left.length then left.getD (half + place) 0 * back % p else 0)) (ev_ifC (c := half + place < left.length) ((et_test (ev_op (ev_len (ev_var rfl)) (ev_op (ev_var rfl) (ev_var rfl) rv_int) rv_bl)).to ?_) (fun c => ?_) (fun c => ?_)) (ev_var rfl) (by rw [List.length_map]; omega) ?_
      · simp only [List.length_map]; exact decide_eq_decide.mpr (by omega)
      · rw [if_pos c]
        have ex : left[half + place]? = some (left.getD (half + place) 0) := by rw [List.getElem?_eq_getElem c, List.getD_eq_getElem?_getD, List.getElem?_eq_getElem c] <;> rfl
        exact ev_op (ev_intc (ev_op (ev_op (ev_var rfl) ((ev_op (ev_var rfl) (ev_var rfl) rv_int).to (d' := .int ((half + place : Nat) : Int)) (by simp)) (rv_ixL (at_int ex))) (ev_var rfl) (rv_intC (.inr ⟨by omega, by omega⟩)))) (ev_var rfl) (rv_intC (by omega))
      · rw [if_neg c]; exact ev_int
      · exact ⟨_, _, _, by rw [set_int] <;> rfl⟩
    · rintro d ⟨sa, sb, sc, rfl⟩
      exact sd_freeze (i := 4) rfl (sd_ret (ev_var rfl) rfl)

theorem sc_law_walk : FnScope ["_law_root_now", "_law_prime", "_law_whole", "_law_nearest_here", "_law_first", "_law_one", "_law_two", "_law_second", "_law_part", "_law_later", "_law_near", "_law_far", "_law_back_here"] ["_law_root_now", "_law_prime"] (defScope s_law_walk) := ⟨rfl, rfl, rfl, by decide +kernel, rfl, by decide +kernel, by decide +kernel⟩
def pWalkL : List Dat → Dat → Prop := fun dl r => ∃ (nums : List Int) (side bottom p : Int) (n : Nat), dl = [rnD nums side bottom, .int p] ∧ (Pr p ∧ bottom % p ≠ 0 ∧ 0 < side * inv p bottom % p ∧ nums.length ≤ 100 ∧ 0 < (restsL p nums bottom).length ∧ Chain p (restsL p nums bottom) (nearL p (restsL p nums bottom) (side * inv p bottom % p)) n) ∧ r = .tup [il (unitC p (chain p (restsL p nums bottom) (nearL p (restsL p nums bottom) (side * inv p bottom % p)) n)).1, il (unitC p (chain p (restsL p nums bottom) (nearL p (restsL p nums bottom) (side * inv p bottom % p)) n)).2]
theorem ok_law_walk {P : Program} {w : World} {K : PySem.W.Frag} {mg : Str → Option Value} {base : Heap} (T : Txt K mg) (c_law_rests : Cal P w K mg base 2 "_law_rests" (spD K pRests)) (c_law_nearest : Cal P w K mg base 3 "_law_nearest" (spD K pNear)) (c_law_plus : Cal P w K mg base 2 "_law_plus" (spD K pPlus)) (c_law_times : Cal P w K mg base 2 "_law_times" (spD K pMulL)) (c_law_split : Cal P w K mg base 3 "_law_split" (spD K pSplit)) (c_law_back : Cal P w K mg base 1 "_law_back" (spD K pInv)) : Cal P w K mg base (3 + 1) "_law_walk" (spD K pWalkL) := by
  refine ⟨?_, T.g_law_walk, (T.d_law_walk).elim fun _ F => F.kp⟩
  refine fn_d (d := d_law_walk) (k := 3) (T.d_law_walk) sc_law_walk (fun _ _ _ _ _ _ us hl => match us, hl with | [_, _], _ => rfl) ?_ ?_
  · rintro dl r ⟨_, _, _, _, _, rfl, _⟩; rfl
  · intro cdv A outer s H E hr
    refine ⟨_, (pss_cons (ps_set (i := 2) sc_law_walk.nd rfl (.inl rfl) (pe_cf (c_law_rests.mono (by decide)) hr (by rfl) (pa_cons (pv 0) (pa_cons (pv 1) pa_nil))))
      (pss_cons (ps_set (i := 3) sc_law_walk.nd rfl (.inl rfl) (pe_cf (c_law_nearest.mono (by decide)) hr (by rfl) (pa_cons (pv 2) (pa_cons (pe_op op_mod (pe_callTy call_int1 (by rfl) T.b_int (by decide +kernel) (pa_cons (pe_op op_mul (pe_ix ix_tup (pv 0) pe_int (fun _ _ => rfl)) (pe_cf (c_law_back.mono (by decide)) hr (by rfl) (pa_cons (pe_ix ix_tup (pv 0) pe_int (fun _ _ => rfl)) (pa_cons (pv 1) pa_nil)))) pa_nil)) (pv 1)) (pa_cons (pv 1) pa_nil)))))
      (pss_cons (ps_par3 (i := 4) (j := 5) (l := 6) (by rfl) sc_law_walk.nd rfl rfl rfl (by decide) (by decide) (by decide) rfl rfl rfl (pa_cons (pv 3) (pa_cons (pe_tup (pa_cons (pv 3) (pa_cons (pe_lst (pa_cons pe_int pa_nil)) pa_nil))) (pa_cons (pe_tup (pa_cons (pe_lst (pa_cons pe_int pa_nil)) (pa_cons (pe_lst pa_nil) pa_nil))) pa_nil))) (by rfl))
      (pss_cons (ps_set (i := 7) sc_law_walk.nd rfl (.inl rfl) (pe_cf (c_law_plus.mono (by decide)) hr (by rfl) (pa_cons (pv 2) (pa_cons (pe_cf (c_law_times.mono (by decide)) hr (by rfl) (pa_cons (pv 3) (pa_cons (pv 3) (pa_cons (pv 1) pa_nil)))) (pa_cons (pe_un un_neg pe_int) (pa_cons (pv 1) pa_nil))))))
      (pss_cons (ps_while PassesOwn.never (pt_cmpR op_gt (pe_callB call_len_seq (by rfl) T.b_len (by decide +kernel) (pa_cons (pv 7) pa_nil)) pe_int (nomark _))
        (pss_cons (ps_set (i := 8) sc_law_walk.nd rfl (.inr rfl) (pe_ix ix_tup (pe_cf (c_law_split.mono (by decide)) hr (by rfl) (pa_cons (pe_cf (c_law_plus.mono (by decide)) hr (by rfl) (pa_cons (pv 4) (pa_cons (pv 3) (pa_cons pe_int (pa_cons (pv 1) pa_nil))))) (pa_cons (pv 7) (pa_cons (pv 1) pa_nil)))) pe_int (fun _ _ => rfl)))
        (pss_cons (ps_setLc (i := 9) (own := [("_law_near", 10), ("_law_far", 11)]) (g := (gTwo K 10 11)) (tt := tYes) (te := (tCf (spD K pPlus) (tCons (tCf (spD K pMulL) (tCons (tVar 8) (tCons (tVar 10) (tCons (tVar 1) tNil)))) (tCons (tVar 11) (tCons (tC (.int 1)) (tCons (tVar 1) tNil)))))) rfl sc_law_walk.nd rfl rfl (sw_true rfl rfl rfl (by decide +kernel)) (RZ.pi_zipA (by rfl) T.b_zip (pa_cons (pv 5) (pa_cons (pv 6) pa_nil))) (blkOk_by (own := [("_law_near", 10), ("_law_far", 11)]) (N := ["_law_root_now", "_law_prime", "_law_whole", "_law_nearest_here", "_law_first", "_law_one", "_law_two", "_law_second", "_law_part", "_law_later", "_law_near", "_law_far", "_law_back_here"]) (sc := defScope s_law_walk) (by decide +kernel)) (fun _ _ _ _ _ => (pg_tup rfl (pgs_cons (pg_name (i := 10) sc_law_walk.nd rfl (Or.inl rfl)) (pgs_cons (pg_name (i := 11) sc_law_walk.nd rfl (Or.inl rfl)) pgs_nil)))) (fun _ _ _ _ _ => pts_nil) (fun _ _ _ _ _ => (pe_cf (c_law_plus.mono (by decide)) hr (by rfl) (pa_cons (pe_cf (c_law_times.mono (by decide)) hr (by rfl) (pa_cons (pv 8) (pa_cons (pv 10) (pa_cons (pv 1) pa_nil)))) (pa_cons (pv 11) (pa_cons pe_int (pa_cons (pv 1) pa_nil)))))))
        (pss_cons (ps_par (i := 5) (j := 6) (by rfl) sc_law_walk.nd rfl rfl (by decide) rfl rfl (pa_cons (pe_tup (pa_cons (pe_ix ix_list (pv 9) pe_int (fun _ _ => rfl)) (pa_cons (pe_ix ix_list (pv 9) pe_int (fun _ _ => rfl)) pa_nil))) (pa_cons (pv 5) pa_nil)) (by rfl))
        (pss_cons (ps_set (i := 4) sc_law_walk.nd rfl (.inl rfl) (pe_cf (c_law_plus.mono (by decide)) hr (by rfl) (pa_cons (pe_cf (c_law_times.mono (by decide)) hr (by rfl) (pa_cons (pv 8) (pa_cons (pv 7) (pa_cons (pv 1) pa_nil)))) (pa_cons (pv 4) (pa_cons (pe_un un_neg pe_int) (pa_cons (pv 1) pa_nil))))))
        (pss_one (ps_set (i := 7) sc_law_walk.nd rfl (.inl rfl) (pe_ix ix_tup (pe_cf (c_law_split.mono (by decide)) hr (by rfl) (pa_cons (pe_cf (c_law_plus.mono (by decide)) hr (by rfl) (pa_cons (pv 2) (pa_cons (pe_cf (c_law_times.mono (by decide)) hr (by rfl) (pa_cons (pv 4) (pa_cons (pv 4) (pa_cons (pv 1) pa_nil)))) (pa_cons (pe_un un_neg pe_int) (pa_cons (pv 1) pa_nil))))) (pa_cons (pv 7) (pa_cons (pv 1) pa_nil)))) pe_int (fun _ _ => rfl)))))))))
      (pss_cons (ps_set (i := 12) sc_law_walk.nd rfl (.inl rfl) (pe_cf (c_law_back.mono (by decide)) hr (by rfl) (pa_cons (pe_ix ix_list (pe_ix ix_tup (pv 5) pe_int (fun _ _ => rfl)) (pe_un un_neg pe_int) (fun _ _ => rfl)) (pa_cons (pv 1) pa_nil))))
      (pss_one (ps_ret (pe_tup (pa_cons (pe_cf (c_law_times.mono (by decide)) hr (by rfl) (pa_cons (pe_ix ix_tup (pv 5) pe_int (fun _ _ => rfl)) (pa_cons (pe_lst (pa_cons (pv 12) pa_nil)) (pa_cons (pv 1) pa_nil)))) (pa_cons (pe_cf (c_law_times.mono (by decide)) hr (by rfl) (pa_cons (pe_ix ix_tup (pv 5) pe_int (fun _ _ => rfl)) (pa_cons (pe_lst (pa_cons (pv 12) pa_nil)) (pa_cons (pv 1) pa_nil)))) pa_nil))))))))))), ?_⟩
    rintro m dl r ⟨nums, side, bottom, p, n, rfl, ⟨hp, hb, hs, h1, h2, hc⟩, rfl⟩
    have hp2 := hp.pos
    obtain ⟨b0, b1⟩ := inv_range (n := bottom) hp
    have s1 : side * inv p bottom % p < p := Int.emod_lt_of_pos _ (by omega)
    have rl := restsL_len p nums bottom
    refine sd_then (sd_set (ev_call (ea_cons (ev_var rfl) (ea_cons (ev_var rfl) ea_nil)) ⟨nums, side, bottom, p, rfl, ⟨hp, hb, by omega⟩, rfl⟩) rfl) ?_
    refine sd_then (sd_set (ev_call (dl := [il (restsL p nums bottom), .int (side * inv p bottom % p), .int p]) (ea_cons (ev_var rfl) (ea_cons (ev_op (ev_intc (ev_op (ev_op (ev_var rfl) ev_int (rv_ixT at_tup3.2.1)) (ev_call (ea_cons (ev_op (ev_var rfl) ev_int (rv_ixT at_tup3.1)) (ea_cons (ev_var rfl) ea_nil)) ⟨bottom, p, rfl, ⟨hp, hb⟩, rfl⟩) (rv_intC (.inr ⟨by omega, by omega⟩)))) (ev_var rfl) (rv_intC (by omega))) (ea_cons (ev_var rfl) ea_nil))) ⟨_, _, p, rfl, ⟨hp, ⟨hs, s1⟩, h2, by omega⟩, rfl⟩) rfl) ?_
    generalize nearL p (restsL p nums bottom) (side * inv p bottom % p) = A at *
    generalize restsL p nums bottom = D at *
    have dl := hc.dl
    have al := hc.al
    have a13 : ∀ {l : List Int}, Red p l → Sm l := fun h => h.1.sm hp2.2
    refine sd_then (sd_par3 (x := il A) (y := .tup [il A, il [1]]) (z := .tup [il [1], il []]) (ea_cons (ev_var rfl) (ea_cons (ev_tup (ea_cons (ev_var rfl) (ea_cons (EvO.dd (eo_lst (ea_cons ev_int ea_nil) (by simp))) ea_nil)) (by simp)) (ea_cons (ev_tup (ea_cons (EvO.dd (eo_lst (ea_cons ev_int ea_nil) (by simp))) (ea_cons (EvO.dd (eo_lst ea_nil (by simp))) ea_nil)) (by simp)) ea_nil))) rfl) ?_
    have m0 := mulM_len (p := p) A A
    refine sd_then (sd_set (d := il (lessM p D (mulM p A A))) ((ev_call (dl := [il D, il (mulL p A A), .int (-1), .int p]) (ea_cons (ev_var rfl) (ea_cons (ev_call (ea_cons (ev_var rfl) (ea_cons (ev_var rfl) (ea_cons (ev_var rfl) ea_nil))) ⟨A, A, p, rfl, ⟨hp, a13 hc.hA, by omega, by omega⟩, rfl⟩) (ea_cons (ev_neg ev_int) (ea_cons (ev_var rfl) ea_nil)))) ⟨D, _, -1, p, rfl, ⟨hp, .inr rfl, by omega, by rw [law_mul hp]; omega⟩, rfl⟩).to (by rw [law_mul hp, law_plus hp _ _ hc.hD.1] <;> rfl)) rfl) ?_
    refine sd_seq (M := fun d => ∃ sa sb sc sd se sf : Sv, d = [.dat (rnD nums side bottom), .dat (.int p), .dat (il D), .dat (il A), sa, .dat (.tup [il (chain p D A n).a, il (chain p D A n).b]), sb, sc, sd, se, .no, .no, sf])
      (sd_while (fun k ds' => ∃ (j : Nat) (sd se : Sv), ds' = [.dat (rnD nums side bottom), .dat (.int p), .dat (il D), .dat (il A), .dat (il (chain p D A j).f), .dat (.tup [il (chain p D A j).a, il (chain p D A j).b]), .dat (.tup [il (chain p D A j).c, il (chain p D A j).d]), .dat (il (chain p D A j).s), sd, se, .no, .no, .no] ∧ j ≤ n ∧ k = n - j) _ ⟨0, _, _, rfl, by omega, rfl⟩ ?_) ?_
    · rintro k ds' ⟨j, sd, se, rfl, hj, rfl⟩
      have rj := hc.red j hj
      have nj := hc.sn j hj
      obtain ⟨l1, l2, l3, l4, l5, l6⟩ := hc.lens j hj
      by_cases c : j < n
      · have lj := hc.long j c
        have es : chain p D A (j + 1) = stepC p D A (chain p D A j) := rfl
        obtain ⟨k1, k2, k3, k4, k5, k6⟩ := hc.lens (j + 1) c
        have rs := hc.red (j + 1) c
        rw [es] at k1 k2 k3 k4 k5 k6 rs
        refine ⟨true, (et_test (ev_op (ev_len (ev_var rfl)) ev_int rv_bl)).yes (decide_eq_true (by simp only [List.length_map]; omega)), fun _ => ?_, (fun h => by cases h)⟩
        generalize chain p D A j = x at *
        have sl := sumM_len (p := p) (t := 1) x.f A
        have sr := sumM_red (t := 1) (b := A) hp2.1 rj.f.1
        obtain ⟨pr1, _, _, pl⟩ := parts_red hp sr rj.s nj
        refine sd_then (sd_set (d := il (partC p A x)) (ev_op (ev_call (dl := [il (plusL p 1 x.f A), il x.s, .int p]) (ea_cons (ev_call (dl := [il x.f, il A, .int 1, .int p]) (ea_cons (ev_var rfl) (ea_cons (ev_var rfl) (ea_cons ev_int (ea_cons (ev_var rfl) ea_nil)))) ⟨x.f, A, 1, p, rfl, ⟨hp, .inl rfl, by omega, by omega⟩, rfl⟩) (ea_cons (ev_var rfl) (ea_cons (ev_var rfl) ea_nil))) ⟨_, x.s, p, rfl, ⟨hp, nj, (rj.s.lead nj).2.2, by rw [law_plus hp _ _ rj.f.1]; omega, by omega⟩, rfl⟩) ev_int (rv_ixT ?_)) rfl) ?_
        · rw [law_part hp rj nj]; exact at_tup2.2
        have ppl : (partC p A x).length ≤ 1200 := by unfold partC; omega
        have ppr : Red p (partC p A x) := pr1
        have mm : ∀ y : List Int, y.length ≤ 1000 → (mulL p (partC p A x) y).length ≤ 3000 := fun y hy => by
          rw [law_mul hp]
          have := mulM_len (p := p) (partC p A x) y
          omega
        refine sd_then (sd_set (d := .lst [il (stepC p D A x).a, il (stepC p D A x).b]) ((EvO.dd (eo_lc (it_zipT (i := 10) (j := 11) (n := 2) (ea_cons (ev_var rfl) (ea_cons (ev_var rfl) ea_nil)) rfl rfl) (vs := [10, 11]) (fun _ h => h) (fun _ => true) (fun k => if k = 0 then il (stepC p D A x).a else il (stepC p D A x).b) (by decide) (fun _ _ => et_yes) fun k hk _ => ?_)).to rfl) rfl) ?_
        · match k, hk with
          | 0, _ => exact (ev_call (dl := [il (mulL p (partC p A x) x.a), il x.c, .int 1, .int p]) (ea_cons (ev_call (ea_cons (ev_var rfl) (ea_cons (ev_var rfl) (ea_cons (ev_var rfl) ea_nil))) ⟨_, x.a, p, rfl, ⟨hp, a13 ppr, by omega, by omega⟩, rfl⟩) (ea_cons (ev_var rfl) (ea_cons ev_int (ea_cons (ev_var rfl) ea_nil)))) ⟨_, x.c, 1, p, rfl, ⟨hp, .inl rfl, by have := mm x.a l1; omega, by omega⟩, rfl⟩).to (by rw [law_next hp] <;> rfl)
          | 1, _ => exact (ev_call (dl := [il (mulL p (partC p A x) x.b), il x.d, .int 1, .int p]) (ea_cons (ev_call (ea_cons (ev_var rfl) (ea_cons (ev_var rfl) (ea_cons (ev_var rfl) ea_nil))) ⟨_, x.b, p, rfl, ⟨hp, a13 ppr, by omega, by omega⟩, rfl⟩) (ea_cons (ev_var rfl) (ea_cons ev_int (ea_cons (ev_var rfl) ea_nil)))) ⟨_, x.d, 1, p, rfl, ⟨hp, .inl rfl, by have := mm x.b l2; omega, by omega⟩, rfl⟩).to (by rw [law_next hp] <;> rfl)
        refine sd_then (sd_par (x := .tup [il (stepC p D A x).a, il (stepC p D A x).b]) (y := .tup [il x.a, il x.b]) (ea_cons (ev_tup (ea_cons (ev_op (ev_var rfl) ev_int (rv_ixL at_tup2.2)) (ea_cons (ev_op (ev_var rfl) ev_int (rv_ixL at_tup2.1)) ea_nil)) (by simp)) (ea_cons (ev_var rfl) ea_nil)) rfl) ?_
        refine sd_then (sd_set (d := il (fstC p A x)) ((ev_call (dl := [il (mulL p (partC p A x) x.s), il x.f, .int (-1), .int p]) (ea_cons (ev_call (ea_cons (ev_var rfl) (ea_cons (ev_var rfl) (ea_cons (ev_var rfl) ea_nil))) ⟨_, x.s, p, rfl, ⟨hp, a13 ppr, by omega, by omega⟩, rfl⟩) (ea_cons (ev_var rfl) (ea_cons (ev_neg ev_int) (ea_cons (ev_var rfl) ea_nil)))) ⟨_, x.f, -1, p, rfl, ⟨hp, .inr rfl, by have := mm x.s l6; omega, by omega⟩, rfl⟩).to (by rw [law_first hp hc.hA rj nj] <;> rfl)) rfl) ?_
        have fl : (fstC p A x).length ≤ 1000 := k5
        have fr : Red p (fstC p A x) := rs.f
        have ml : (mulL p (fstC p A x) (fstC p A x)).length ≤ 2000 := by
          rw [law_mul hp]
          have := mulM_len (p := p) (fstC p A x) (fstC p A x)
          omega
        have nl : (plusL p (-1) D (mulL p (fstC p A x) (fstC p A x))).length ≤ 3000 := by
          rw [law_plus hp _ _ hc.hD.1]
          have := sumM_len (p := p) (t := -1) D (mulL p (fstC p A x) (fstC p A x))
          omega
        refine sd_set (d := il (sndC p D A x)) (ev_op (ev_call (dl := [il (plusL p (-1) D (mulL p (fstC p A x) (fstC p A x))), il x.s, .int p]) (ea_cons (ev_call (dl := [il D, il (mulL p (fstC p A x) (fstC p A x)), .int (-1), .int p]) (ea_cons (ev_var rfl) (ea_cons (ev_call (ea_cons (ev_var rfl) (ea_cons (ev_var rfl) (ea_cons (ev_var rfl) ea_nil))) ⟨_, _, p, rfl, ⟨hp, a13 fr, by omega, by omega⟩, rfl⟩) (ea_cons (ev_neg ev_int) (ea_cons (ev_var rfl) ea_nil)))) ⟨D, _, -1, p, rfl, ⟨hp, .inr rfl, by omega, by omega⟩, rfl⟩) (ea_cons (ev_var rfl) (ea_cons (ev_var rfl) ea_nil))) ⟨_, x.s, p, rfl, ⟨hp, nj, (rj.s.lead nj).2.2, by omega, by omega⟩, rfl⟩) ev_int (rv_ixT ?_)) ?_
        · rw [law_second hp hc.hD rj nj]; exact at_tup2.2
        · exact ⟨n - (j + 1), by omega, j + 1, _, _, by rw [es] <;> rfl, c, rfl⟩
      · have ej : j = n := by omega
        subst ej
        have fj := hc.fin
        refine ⟨false, (et_test (ev_op (ev_len (ev_var rfl)) ev_int rv_bl)).nay (decide_eq_false (by simp only [List.length_map]; omega)), (fun h => by cases h), fun _ => ?_⟩
        exact ⟨_, _, _, _, _, _, rfl⟩
    · rintro d ⟨sa, sb, sc, sd, se, sf, rfl⟩
      have rn := hc.red n (Nat.le_refl _)
      obtain ⟨l1, l2, l3, l4, l5, l6⟩ := hc.lens n (Nat.le_refl _)
      have bn := hc.bn
      generalize chain p D A n = x at *
      have ld := rn.b.lead bn
      obtain ⟨b2, c, eb⟩ := (list_end x.b).resolve_left bn
      have ec : x.b.getLastD 0 = c := by rw [eb]; simp
      obtain ⟨i0, i1⟩ := inv_range (n := c) hp
      refine sd_then (sd_set (d := .int (inv p c)) (ev_call (ea_cons (ev_op (ev_op (ev_var rfl) ev_int (rv_ixT at_tup2.1)) (ev_neg ev_int) (rv_ixL (d := .int c) (by rw [eb]; exact at_last))) (ea_cons (ev_var rfl) ea_nil)) ⟨c, p, rfl, ⟨hp, ec ▸ ld.2.2⟩, rfl⟩) rfl) ?_
      have tl : ∀ y : List Int, Red p y → y.length ≤ 1000 → pMulL [il y, il [inv p c], .int p] (il (mulM p y [inv p c])) := fun y ry hy => ⟨y, [inv p c], p, rfl, ⟨hp, a13 ry, by omega, by simp⟩, by rw [law_mul hp]⟩
      refine sd_ret (ev_tup (ea_cons (ev_call (ea_cons (ev_op (ev_var rfl) ev_int (rv_ixT at_tup2.2)) (ea_cons (EvO.dd (eo_lst (ea_cons (ev_var rfl) ea_nil) (by simp))) (ea_cons (ev_var rfl) ea_nil))) (tl x.a rn.a l1)) (ea_cons (ev_call (ea_cons (ev_op (ev_var rfl) ev_int (rv_ixT at_tup2.1)) (ea_cons (EvO.dd (eo_lst (ea_cons (ev_var rfl) ea_nil) (by simp))) (ea_cons (ev_var rfl) ea_nil))) (tl x.b rn.b l2)) ea_nil)) (by simp)) ?_
      unfold unitC
      rw [ec]

theorem sc_law_norm : FnScope ["_law_whole", "_law_unit", "_law_prime", "_law_near", "_law_far"] ["_law_whole", "_law_unit", "_law_prime"] (defScope s_law_norm) := ⟨rfl, rfl, rfl, by decide +kernel, rfl, by decide +kernel, by decide +kernel⟩
def pNormL : List Dat → Dat → Prop := fun dl r => ∃ (D a b : List Int) (p : Int), dl = [il D, .tup [il a, il b], .int p] ∧ (Pr p ∧ Sm D ∧ Sm a ∧ Sm b ∧ D.length ≤ 1000 ∧ a.length ≤ 1000 ∧ b.length ≤ 1000) ∧ r = il (normL p D a b)
theorem ok_law_norm {P : Program} {w : World} {K : PySem.W.Frag} {mg : Str → Option Value} {base : Heap} (T : Txt K mg) (c_law_times : Cal P w K mg base 2 "_law_times" (spD K pMulL)) (c_law_plus : Cal P w K mg base 2 "_law_plus" (spD K pPlus)) : Cal P w K mg base (2 + 1) "_law_norm" (spD K pNormL) := by
  refine ⟨?_, T.g_law_norm, (T.d_law_norm).elim fun _ F => F.kp⟩
  refine fn_d (d := d_law_norm) (k := 2) (T.d_law_norm) sc_law_norm (fun _ _ _ _ _ _ us hl => match us, hl with | [_, _, _], _ => rfl) ?_ ?_
  · rintro dl r ⟨_, _, _, _, rfl, _⟩; rfl
  · intro cdv A outer s H E hr
    refine ⟨_, (pss_cons (ps_par (i := 3) (j := 4) (by rfl) sc_law_norm.nd rfl rfl (by decide) rfl rfl (pa_cons (pe_cf (c_law_times.mono (by decide)) hr (by rfl) (pa_cons (pe_ix ix_tup (pv 1) pe_int (fun _ _ => rfl)) (pa_cons (pe_ix ix_tup (pv 1) pe_int (fun _ _ => rfl)) (pa_cons (pv 2) pa_nil)))) (pa_cons (pe_cf (c_law_times.mono (by decide)) hr (by rfl) (pa_cons (pe_ix ix_tup (pv 1) pe_int (fun _ _ => rfl)) (pa_cons (pe_ix ix_tup (pv 1) pe_int (fun _ _ => rfl)) (pa_cons (pv 2) pa_nil)))) pa_nil)) (by rfl))
      (pss_one (ps_ret (pe_cf (c_law_plus.mono (by decide)) hr (by rfl) (pa_cons (pv 3) (pa_cons (pe_cf (c_law_times.mono (by decide)) hr (by rfl) (pa_cons (pv 0) (pa_cons (pv 4) (pa_cons (pv 2) pa_nil)))) (pa_cons (pe_un un_neg pe_int) (pa_cons (pv 2) pa_nil)))))))), ?_⟩
    rintro m dl r ⟨D, a, b, p, rfl, ⟨hp, sD, sa, sb, l1, l2, l3⟩, rfl⟩
    have tl : ∀ y z : List Int, (mulL p y z).length ≤ y.length + z.length - 1 := fun y z => by
      rw [law_mul hp]
      exact mulM_len y z
    have ta := tl a a
    have tb := tl b b
    refine sd_then (sd_par (x := il (mulL p a a)) (y := il (mulL p b b)) (ea_cons (ev_call (ea_cons (ev_op (ev_var rfl) ev_int (rv_ixT at_tup2.2)) (ea_cons (ev_op (ev_var rfl) ev_int (rv_ixT at_tup2.2)) (ea_cons (ev_var rfl) ea_nil))) ⟨a, a, p, rfl, ⟨hp, sa, by omega, by omega⟩, rfl⟩) (ea_cons (ev_call (ea_cons (ev_op (ev_var rfl) ev_int (rv_ixT at_tup2.1)) (ea_cons (ev_op (ev_var rfl) ev_int (rv_ixT at_tup2.1)) (ea_cons (ev_var rfl) ea_nil))) ⟨b, b, p, rfl, ⟨hp, sb, by omega, by omega⟩, rfl⟩) ea_nil)) rfl) ?_
    have td := tl D (mulL p b b)
    exact sd_ret (ev_call (dl := [il (mulL p a a), il (mulL p D (mulL p b b)), .int (-1), .int p]) (ea_cons (ev_var rfl) (ea_cons (ev_call (ea_cons (ev_var rfl) (ea_cons (ev_var rfl) (ea_cons (ev_var rfl) ea_nil))) ⟨D, _, p, rfl, ⟨hp, sD, by omega, by omega⟩, rfl⟩) (ea_cons (ev_neg ev_int) (ea_cons (ev_var rfl) ea_nil)))) ⟨_, _, -1, p, rfl, ⟨hp, .inr rfl, by omega, by omega⟩, rfl⟩) rfl

theorem sc_law_is_bounded : FnScope ["_law_many", "_law_half", "_law_prime"] ["_law_many", "_law_half", "_law_prime"] (defScope s_law_is_bounded) := ⟨rfl, rfl, rfl, by decide +kernel, rfl, by decide +kernel, by decide +kernel⟩
def pBounded : List Dat → Dat → Prop := fun dl r => ∃ (many half p : Int), dl = [.int many, .int half, .int p] ∧ (Pr p ∧ 0 ≤ many ∧ many ≤ 100000) ∧ r = .bl (boundedB many half p)
theorem ok_law_is_bounded {P : Program} {w : World} {K : PySem.W.Frag} {mg : Str → Option Value} {base : Heap} (T : Txt K mg) : Cal P w K mg base (0 + 1) "_law_is_bounded" (spD K pBounded) := by
  refine ⟨?_, T.g_law_is_bounded, (T.d_law_is_bounded).elim fun _ F => F.kp⟩
  refine fn_d (d := d_law_is_bounded) (k := 0) (T.d_law_is_bounded) sc_law_is_bounded (fun _ _ _ _ _ _ us hl => match us, hl with | [_, _, _], _ => rfl) ?_ ?_
  · rintro dl r ⟨_, _, _, rfl, _⟩; rfl
  · intro cdv A outer s H E hr
    refine ⟨_, (pss_one (ps_ret (pe_or (pe_cmpR op_ne (pv 1) pe_int (nomark _)) (pe_or (pe_cmpR op_le (pv 0) (pe_op op_add (pv 2) pe_int) (nomark _)) (pe_one (pe_cmpR op_le (pe_op op_mul (pe_op op_sub (pe_op op_sub (pv 0) (pv 2)) pe_int) (pe_op op_sub (pe_op op_sub (pv 0) (pv 2)) pe_int)) (pe_op op_mul pe_int (pv 2)) (nomark _))))))), ?_⟩
    rintro m dl r ⟨many, half, p, rfl, ⟨hp, m0, m1⟩, rfl⟩
    have hp2 := hp.pos
    refine sd_ret ((ev_orV (ev_op (ev_var rfl) ev_int rv_ne) fun _ => ev_orV (ev_op (ev_var rfl) (ev_op (ev_var rfl) ev_int rv_int) rv_bl) fun _ => ev_op (ev_op (ev_op (ev_op (ev_var rfl) (ev_var rfl) rv_int) ev_int rv_int) (ev_op (ev_op (ev_var rfl) (ev_var rfl) rv_int) ev_int rv_int) (rv_intC (.inl ⟨by omega, by omega⟩))) (ev_op ev_int (ev_var rfl) (rv_intC (.inl ⟨by decide, by decide⟩))) rv_bl).to rfl) ?_
    unfold boundedB
    congr 2
    by_cases h : half = 2 <;> simp [h]

end RR
/-! ### RCalc11 -/
/-! The calculus: a list that a def changes for its caller; answers told only by what they satisfy. -/
namespace RR
open PySem PySem.Spec PyProof.Rows L2 Evl
/-- the pot -/
def JPot : HO → Prop := fun o => ∃ x y : Int, o = .lst [.int x, .int y] ∧ 0 ≤ x ∧ 0 ≤ y ∧ y ≤ 2147483563
def mdP (H0 : Hp) (a : Addr) : Md := ⟨(· = a), JPot, fun l => H0 l = none, fun l => H0 l = none⟩
structure PotM (m : Md) : Prop where
  one : ∀ a b, m.M a → m.M b → a = b
  j : m.J = JPot
def spP (K : PySem.W.Frag) (C : List Dat → Prop) (R : List Dat → Dat → Prop) : Sp := fun vs H Q _ => ∃ Hb a args dl, vs = .ref a :: args ∧ Hb a = none ∧ (∃ o, H a = some o ∧ JPot o) ∧ IsL K Hb dl args ∧ Ex Hb H ∧ C dl ∧
  ∀ d v Hb' H', R dl d → Gr (mdP H a) Hb H Hb' H' → Is K Hb' d v → Q v H'
theorem Gr.pot {m : Md} {H0 Hb H Hb' H' : Hp} {a : Addr} (hm : PotM m) (ha : m.M a) (g : Gr (mdP H0 a) Hb H Hb' H') : Gr m Hb H Hb' H' where
  b := g.b
  s := g.s
  k := fun b o hb e => g.k b o (fun q => hb (q ▸ ha)) e
  t := g.t
  f := g.f
  j := fun b hb ⟨o, e, h⟩ => by
    have q := hm.one a b ha hb
    subst q
    rw [hm.j] at h ⊢
    exact g.j a rfl ⟨o, e, h⟩
section
variable (m : Md) (K : PySem.W.Frag)
def EvX (te : TE) (ds : Ds) (R : Dat → Prop) : Prop := ∀ (Hb H : Hp) (σ : L2.St) (Q : VK), Sl m K Hb H σ ds → (∀ d v Hb' H', R d → Gr m Hb H Hb' H' → Is K Hb' d v → Q v H') → te σ H Q
def EvXA (ta : TA) (ds : Ds) (R : List Dat → Prop) : Prop := ∀ (Hb H : Hp) (σ : L2.St) (Q : List V → Hp → Prop), Sl m K Hb H σ ds → (∀ dl vs Hb' H', R dl → Gr m Hb H Hb' H' → IsL K Hb' dl vs → Q vs H') → ta σ H Q
end
section
variable {m : Md} {K : PySem.W.Frag} {ds : Ds} {ta tb te : TE} {t : TA} {d : Dat} {N : Ds → Prop} {R Ra Rb : Dat → Prop} {Rl : List Dat → Prop}
theorem ex_of (h : EvD m K te ds d) (r : R d) : EvX m K te ds R := fun Hb H σ Q S k => h Hb H σ Q S fun v Hb' H' g hv => k d v Hb' H' r g hv
theorem EvX.weak {R' : Dat → Prop} (h : EvX m K te ds R) (w : ∀ d, R d → R' d) : EvX m K te ds R' := fun Hb H σ Q S k => h Hb H σ Q S fun d v Hb' H' r => k d v Hb' H' (w d r)
theorem ex_op {r : R2} (ha : EvX m K ta ds Ra) (hb : EvX m K tb ds Rb) (hr : ∀ x y, Ra x → Rb y → ∃ z, R z ∧ RvD m K r x y z) : EvX m K (tOp r ta tb) ds R := fun Hb H σ Q S k =>
  ha Hb H σ _ S fun x v Hb1 H1 rx g1 h1 => hb Hb1 H1 σ _ (S.grow g1) fun y w Hb2 H2 ry g2 h2 => by
    obtain ⟨z, rz, h⟩ := hr x y rx ry
    exact h Hb2 H2 v w Q g2.s (Is.mono g2.b x h1) h2 fun q Hb3 H3 g3 h3 => k z q Hb3 H3 rz ((g1.trans g2).trans g3) h3
theorem xa_nil : EvXA m K tNil ds (· = []) := fun Hb H σ Q S k => k [] _ Hb H rfl (.refl S.sub) rfl
theorem xa_cons {tr : TA} {Rr : List Dat → Prop} (h : EvX m K te ds Ra) (hr : EvXA m K tr ds Rr) : EvXA m K (tCons te tr) ds (fun l => ∃ d r, l = d :: r ∧ Ra d ∧ Rr r) := fun Hb H σ Q S k =>
  h Hb H σ _ S fun d v Hb1 H1 rd g1 hv => hr Hb1 H1 σ _ (S.grow g1) fun dl vs Hb2 H2 rl g2 hvs => k (d :: dl) _ Hb2 H2 ⟨d, dl, rfl, rd, rl⟩ (g1.trans g2) (IsL.cons (Is.mono g2.b d hv) hvs)
theorem ex_lst (h : EvXA m K t ds Rl) (hl : ∀ l, Rl l → l.length ≤ 100000) : EvX m K (tLst t) ds (fun d => ∃ l, d = .lst l ∧ Rl l) := fun Hb H σ Q S k =>
  h Hb H σ _ S fun dl vs Hb1 H1 rl g1 hv => ⟨by rw [hv.length]; exact sz_of (hl dl rl), fun l hl0 => by
    have nb : Hb1 l = none := fresh_back g1.s hl0
    exact k (.lst dl) (.ref l) _ _ ⟨dl, rfl, rl⟩ (g1.trans (Gr.new g1.s hl0)) ⟨l, vs, rfl, upd_same, IsL.mono (Ex.new nb) dl hv⟩⟩
theorem ex_tup (h : EvXA m K t ds Rl) (hl : ∀ l, Rl l → l.length ≤ 100000) : EvX m K (tTup t) ds (fun d => ∃ l, d = .tup l ∧ Rl l) := fun Hb H σ Q S k =>
  h Hb H σ _ S fun dl vs Hb1 H1 rl g1 hv => ⟨by rw [hv.length]; exact sz_of (hl dl rl), fun l hl0 => by
    have nb : Hb1 l = none := fresh_back g1.s hl0
    exact k (.tup dl) (.ref l) _ _ ⟨dl, rfl, rl⟩ (g1.trans (Gr.new g1.s hl0)) ⟨l, vs, rfl, upd_same, IsL.mono (Ex.new nb) dl hv⟩⟩
theorem ex_call {P : List Dat → Dat → Prop} (h : EvXA m K t ds Rl) (p : ∀ dl, Rl dl → ∃ d, R d ∧ P dl d) : EvX m K (tCf (spD K P) t) ds R := fun Hb H σ Q S k =>
  h Hb H σ _ S fun dl vs Hb1 H1 rl g1 hv => by
    obtain ⟨d, rd, pd⟩ := p dl rl
    exact ⟨Hb1, dl, d, g1.s, hv, pd, fun v Hb' H' g hd => k d v Hb' H' rd (g1.trans g.any) hd⟩
/-- a call that hands the pot on -/
theorem ex_pot {C : List Dat → Prop} {Rp : List Dat → Dat → Prop} {i : Nat} (hm : PotM m) (e : ds[i]? = some .mu) (h : EvXA m K t ds Rl) (hc : ∀ dl, Rl dl → C dl) (hr : ∀ dl d, Rl dl → Rp dl d → R d) : EvX m K (tCf (spP K C Rp) (tCons (tVar i) t)) ds R := fun Hb H σ Q S k => by
  obtain ⟨o, e1, a, e2, ha⟩ := S.at_ i _ e
  refine ⟨.ref a, by rw [e1, e2], h Hb H σ _ S fun dl vs Hb1 H1 rl g1 hv => ?_⟩
  obtain ⟨q1, o2, q2, q3⟩ := (S.grow g1).mt a ha
  exact ⟨Hb1, a, vs, dl, rfl, q1, ⟨o2, q2, hm.j ▸ q3⟩, hv, g1.s, hc dl rl, fun d v Hb' H' rd g hd => k d v Hb' H' (hr dl d rl rd) (g1.trans (g.pot hm ha)) hd⟩
theorem ex_if {tt : TT} {b : Bool} (h : EvT m K tt ds b) (h1 : b = true → EvX m K ta ds R) (h2 : b = false → EvX m K tb ds R) : EvX m K (tIf tt ta tb) ds R := fun Hb H σ Q S k => h Hb H σ _ S fun Hb1 H1 g1 => by
  cases b with
  | true => exact h1 rfl Hb1 H1 σ Q (S.grow g1) fun d w Hb2 H2 r g2 hw => k d w Hb2 H2 r (g1.trans g2) hw
  | false => exact h2 rfl Hb1 H1 σ Q (S.grow g1) fun d w Hb2 H2 r g2 hw => k d w Hb2 H2 r (g1.trans g2) hw
/-- a test that may go either way -/
def EvXT (m : Md) (K : PySem.W.Frag) (tt : TT) (ds : Ds) : Prop := ∀ (Hb H : Hp) (σ : L2.St) (Q : Bool → Hp → Prop), Sl m K Hb H σ ds → (∀ b Hb' H', Gr m Hb H Hb' H' → Q b H') → tt σ H Q
theorem xt_of {tt : TT} {b : Bool} (h : EvT m K tt ds b) : EvXT m K tt ds := fun Hb H σ Q S k => h Hb H σ Q S fun Hb' H' g => k b Hb' H' g
theorem xt_test (h : EvX m K te ds (fun d => ∃ b, d = .bl b)) : EvXT m K (tTest te) ds := fun Hb H σ Q S k => h Hb H σ _ S fun d v Hb' H' ⟨b, e⟩ g hv => ⟨b, by subst e; exact hv, k b Hb' H' g⟩
theorem ex_ifX {tt : TT} (h : EvXT m K tt ds) (h1 : EvX m K ta ds R) (h2 : EvX m K tb ds R) : EvX m K (tIf tt ta tb) ds R := fun Hb H σ Q S k => h Hb H σ _ S fun b Hb1 H1 g1 => by
  cases b with
  | true => exact h1 Hb1 H1 σ Q (S.grow g1) fun d w Hb2 H2 r g2 hw => k d w Hb2 H2 r (g1.trans g2) hw
  | false => exact h2 Hb1 H1 σ Q (S.grow g1) fun d w Hb2 H2 r g2 hw => k d w Hb2 H2 r (g1.trans g2) hw
theorem sdx_set {i : Nat} {Rs : Dat → Prop} (h : EvX m K te ds R) (n : ∀ d, R d → N (ds.set i (.dat d))) : SD m K (tAsg te (gName i)) ds N Rs := fun Hb0 H0 Hb σ H D S k _ =>
  h Hb H σ _ S.sl fun d v Hb' H' r g hv => k _ Hb' _ H' (n d r) g.b ⟨S.gr.trans g, (S.sl.grow g).set hv, S.ff⟩
theorem sdx_ret {Rs : Dat → Prop} (h : EvX m K te ds R) (r : ∀ d, R d → Rs d) : SD m K (tRet te) ds N Rs := fun Hb0 H0 Hb σ H D S _ k =>
  h Hb H σ _ S.sl fun d v Hb' H' rd g hv => k d v Hb' H' (r d rd) (S.gr.trans g) hv
theorem sdx_par3 {i j l : Nat} {ta : TA} {Rs : Dat → Prop} (h : EvXA m K ta ds Rl) (hl : ∀ dl, Rl dl → ∃ x y z, dl = [x, y, z] ∧ N (((ds.set i (.dat x)).set j (.dat y)).set l (.dat z))) : SD m K (tPar3 i j l ta) ds N Rs := fun Hb0 H0 Hb σ H D S k _ =>
  h Hb H σ _ S.sl fun dl vs Hb' H' rl g hv => by
    obtain ⟨x, y, z, e, n⟩ := hl dl rl
    subst e
    obtain ⟨v, r, e1, h1, w, r2, e2, h2, w3, r3, e3, h3, e4⟩ := hv
    refine ⟨v, w, w3, by rw [e1, e2, e3, show r3 = [] from e4], ?_⟩
    exact k _ Hb' _ H' n g.b ⟨S.gr.trans g, (((S.sl.grow g).set h1).set h2).set h3, S.ff⟩
/-- [e for ..], every e told only by what it satisfies -/
theorem ex_lc {wi : TI} {g : TG} {vs js : List Nat} {n : Nat} {T : Nat → Ds → Ds} (I : ItD m K wi g ds n T js) (hj : ∀ j ∈ js, j ∈ vs) (Re : Nat → Dat → Prop) (hz : n ≤ 50000)
    (he : ∀ i, i < n → EvX m K te (T i (wipeD ds vs)) (Re i)) : EvX m K (tLc wi g tYes te vs) ds (fun d => ∃ l, d = .lst l ∧ l.length = n ∧ ∀ i x, l[i]? = some x → Re i x) := fun Hb H σ Q S k =>
  I Hb H σ _ S fun J G Y Hb1 H1 g1 w hG hy Dl hD => by
    have n0 : H Dl = none := g1.back hD
    have hm : ¬ m.M Dl := fun q => by
      obtain ⟨_, o, e, _⟩ := S.mt Dl q
      rw [n0] at e
      cases e
    have hf : m.F Dl := S.fr Dl n0
    have hd : ∀ (i : Nat) (xs : List Dat), ds[i]? = some (.own xs) → σ[i]? ≠ some (some (.ref Dl)) := fun i xs e q => by
      obtain ⟨l, us, e1, _, _, e2, _⟩ := S.own e
      rw [q] at e1
      cases e1
      rw [n0] at e2
      cases e2
    have S1 := S.grow g1
    have nb1 : Hb1 Dl = none := fresh_back g1.s hD
    refine lc_it w (fun i H2 => ∃ Hb2 acc xs, Gr m Hb H Hb2 H2 ∧ Sl m K Hb2 H2 σ ds ∧ Ex Hb1 Hb2 ∧ Hb2 Dl = none ∧ H2 Dl = some (.lst acc) ∧ IsL K Hb2 xs acc ∧ xs.length = i ∧ ∀ j x, xs[j]? = some x → Re j x) ?_ (fun i H2 _ ⟨Hb2, acc, xs, g2, S2, e2, _⟩ => hG H2 (e2.trans g2.s)) ?_ ?_
    · exact ⟨Hb1, [], [], g1.wr n0 nb1 hm, S1.wr nb1 hm hf hd (fun _ _ _ q => by rw [hD] at q; cases q), Ex.refl _, nb1, upd_same, rfl, rfl, fun j x q => by simp at q⟩
    · rintro i x H2 H3 hi ⟨Hb2, acc, xs, g2, S2, e2, n2, h2, h3, h4, h5⟩ hyi
      refine hy i x Hb2 H2 H3 (wipe σ vs) (wipeD ds vs) _ hi e2 (S2.wipes vs) hyi fun σ3 H4 g4 S4 hoff => ⟨wipe_eq ?_ hj hoff.2, ?_⟩
      · rw [hoff.1, wipe_length]
      · refine he i hi Hb2 H4 σ3 _ S4 fun d v Hb6 H6 rd g6 hv => ?_
        have q4 : H4 Dl = some (.lst acc) := g4.k Dl _ hm h2
        have f5 : H6 Dl = some (.lst acc) := g6.k Dl _ hm q4
        have f4 : Hb6 Dl = none := by
          cases c : Hb6 Dl with
          | none => rfl
          | some u =>
            have := g6.f Dl (by rw [c]; exact Option.some_ne_none _) n2
            rw [q4] at this
            cases this
        refine ⟨acc, f5, by rw [h3.length]; exact sz_lt (by omega), Hb6, acc ++ [v], xs ++ [d], ((g2.trans g4).trans g6).wr n0 f4 hm, ((S2.grow g4).grow g6).wr f4 hm hf hd (fun _ _ _ q => by rw [f5] at q; cases q), e2.trans g6.b, f4, upd_same, (IsL.mono g6.b _ h3).append (.cons hv .nil), by simp [h4], fun j y q => ?_⟩
        rcases Nat.lt_or_ge j xs.length with z | z
        · rw [List.getElem?_append_left z] at q
          exact h5 j y q
        · rw [List.getElem?_append_right z] at q
          have : j - xs.length = 0 := by
            cases c : j - xs.length with
            | zero => rfl
            | succ c' => rw [c] at q; simp at q
          rw [this] at q
          cases Option.some.inj (show some d = some y from q)
          have : j = i := by omega
          rw [this]
          exact rd
    · rintro H2 ⟨Hb2, acc, xs, g2, S2, e2, n2, h2, h3, h4, h5⟩
      exact k (.lst xs) (.ref Dl) _ H2 ⟨xs, rfl, h4, h5⟩ (g2.add n2 n0 h2) ⟨Dl, acc, rfl, upd_same, IsL.mono (Ex.new n2) xs h3⟩
end
section
variable {P : Program} {w : World} {K : PySem.W.Frag} {mg : Str → Option Value} {base : Heap}
def dsP (N : List Str) (dl : List Dat) : Ds := .mu :: (dl.map Sv.dat ++ List.replicate (N.length - dl.length - 1) Sv.no)
theorem slP {N : List Str} {dl : List Dat} {args : List V} {Hb H : Hp} {a : Addr} (s : Ex Hb H) (hn : Hb a = none) (ho : ∃ o, H a = some o ∧ JPot o) (hv : IsL K Hb dl args) : Sl (mdP H a) K Hb H (start N (.ref a :: args)) (dsP N dl) where
  sub := s
  len := by simp [L2.start, dsP, hv.length]; omega
  at_ := fun i q e => by
    unfold dsP at e
    unfold L2.start
    cases i with
    | zero =>
      cases Option.some.inj (show some Sv.mu = some q from e)
      exact ⟨some (.ref a), rfl, a, rfl, rfl⟩
    | succ i =>
      rw [List.getElem?_cons_succ] at e
      rw [List.map_cons, List.cons_append, List.getElem?_cons_succ]
      by_cases hi : i < dl.length
      · rw [List.getElem?_append_left (by simpa using hi), List.getElem?_map, List.getElem?_eq_getElem hi] at e
        cases Option.some.inj e
        obtain ⟨v, e1, h⟩ := hv.get (List.getElem?_eq_getElem hi)
        refine ⟨some v, ?_, v, rfl, h⟩
        rw [List.getElem?_append_left (by rw [List.length_map, hv.length]; exact hi), List.getElem?_map, e1]
        rfl
      · have hl : i < (dl.map Sv.dat ++ List.replicate (N.length - dl.length - 1) Sv.no).length := (List.getElem?_eq_some_iff.mp e).1
        rw [List.length_append, List.length_map, List.length_replicate] at hl
        rw [List.getElem?_append_right (by simpa using hi), List.getElem?_replicate] at e
        split at e
        · cases Option.some.inj e
          refine ⟨none, ?_, trivial⟩
          rw [List.getElem?_append_right (by rw [List.length_map, hv.length]; omega), List.getElem?_replicate, if_pos (by rw [List.length_map, List.length_cons, hv.length]; omega)]
        · cases e
  sep := fun i j xs ys l e1 _ _ _ => by
    unfold dsP at e1
    cases i with
    | zero => cases Option.some.inj (show some Sv.mu = some _ from e1)
    | succ i =>
      rw [List.getElem?_cons_succ] at e1
      by_cases hi : i < dl.length
      · rw [List.getElem?_append_left (by simpa using hi), List.getElem?_map, List.getElem?_eq_getElem hi] at e1
        cases Option.some.inj e1
      · rw [List.getElem?_append_right (by simpa using hi), List.getElem?_replicate] at e1
        split at e1 <;> cases e1
  mt := fun b hb => by
    cases (show b = a from hb)
    exact ⟨hn, ho⟩
  fr := fun l h => h
theorem potM (H : Hp) (a : Addr) : PotM (mdP H a) := ⟨fun x y hx hy => (show x = a from hx).trans (show y = a from hy).symm, rfl⟩
/-- THE RULE for a def that is given the pot -/
theorem fn_p {d : Df} {N ps : List Str} {k : Nat} {C : List Dat → Prop} {R : List Dat → Dat → Prop} (F : ∃ fd, FunD K d.name d.qual (defArgs d.st) (defBody d.st) (defScope d.st) [] [] (d.adr K) fd) (S : FnScope N ps (defScope d.st))
    (hb : ∀ (kV doc pm : Value) (an : Option Addr) (cdv ct : Value) (us : List Value), us.length = ps.length → bindArgs (PySem.W.fnOf d.name d.qual (defArgs d.st) (defBody d.st) (defScope d.st) .none kV doc pm an cdv ct) ⟨us, []⟩ = pure (ps.zip us))
    (hl : ∀ dl, C dl → dl.length + 1 = ps.length)
    (body : ∀ (cdv : Value) (A : Around) (outer : List Env) (s : Shared) (H : Hp) (E : XK), Room k (A.deeper (envOfC d.qual (defScope d.st) s.heap.objs.size (d.adr K) cdv)) → ∃ t, PSs (cxOf CX0 P w K mg base N d.qual (defScope d.st) (d.adr K) cdv A outer s H E).nox (defBody d.st) t ∧
      ∀ m dl, PotM m → C dl → SD m K t (dsP N dl) (fun _ => False) (R dl)) : FnR P w K mg base CX0 (k + 1) (d.adr K) (spP K C R) := by
  obtain ⟨fd, F⟩ := F
  have ok : FnOk P w K mg base CX0 (k + 1) (d.adr K) fd ps (spP K C R) := F.ok S (fun vs H Q E ⟨Hb, a, args, dl, e, _, _, hv, _, c, _⟩ => by rw [e, List.length_cons, hv.length]; exact hl dl c)
    fun cdv A outer s H vs Q E hr ⟨Hb, a, args, dl, e, hn, ho, hv, sx, c, q⟩ => by
      obtain ⟨t, bd, run⟩ := body cdv A outer s H E hr
      refine ⟨t, bd.nox, ?_⟩
      rw [e]
      exact run (mdP H a) dl (potM H a) c Hb H Hb _ H _ ⟨.refl sx, slP sx hn ho hv, fun _ h => h⟩ (fun ds' Hb' σ' H' n _ _ => n.elim) fun d' v Hb' H' rd g h => q d' v Hb' H' rd g h
  have r := ok.raw (F.bindsN hb) .nil
  exact r.imp fun vs H Q E h => by rw [List.append_nil]; exact h
end
end RR
/-! ### RW12 -/
namespace RR
open PySem PySem.Spec PyProof.Rows L2 Evl

section
variable {m : Md} {K : PySem.W.Frag} {ds : Ds} {te : TE} {R Rx : Dat → Prop} {N : Ds → Prop} {Rs : Dat → Prop}
theorem xt_andT {t u : TT} (h : EvT m K t ds true) (h2 : EvXT m K u ds) : EvXT m K (tAnd t u) ds := fun Hb H σ Q S k => h Hb H σ _ S fun Hb1 H1 g1 => h2 Hb1 H1 σ Q (S.grow g1) fun b Hb2 H2 g2 => k b Hb2 H2 (g1.trans g2)
theorem sdx_if {tt : TT} {t u : TS} (h : EvXT m K tt ds) (h1 : SD m K t ds N Rs) (h2 : SD m K u ds N Rs) : SD m K (tIfS tt t u) ds N Rs := fun Hb0 H0 Hb σ H D S n r =>
  h Hb H σ _ S.sl fun b Hb' H' g => by
    cases b with
    | true => exact h1 Hb0 H0 Hb' σ H' D (S.grow g) (fun ds2 Hb2 σ2 H2 e2 x2 => n ds2 Hb2 σ2 H2 e2 (g.b.trans x2)) r
    | false => exact h2 Hb0 H0 Hb' σ H' D (S.grow g) (fun ds2 Hb2 σ2 H2 e2 x2 => n ds2 Hb2 σ2 H2 e2 (g.b.trans x2)) r
/-- pot[0], pot[1] -/
theorem ex_p0 {i : Nat} (hm : PotM m) (e : ds[i]? = some .mu) : EvX m K (tOp (rIxL K) (tVar i) (tC (.int 0))) ds (fun d => ∃ x, d = .int x ∧ 0 ≤ x) := fun Hb H σ Q S k => by
  obtain ⟨o, e1, a, e2, ha⟩ := S.at_ i _ e
  obtain ⟨q1, o2, q2, q3⟩ := S.mt a ha
  rw [hm.j] at q3
  obtain ⟨x, y, q4, x0, y0, y1⟩ := q3
  rw [q4] at q2
  exact ⟨.ref a, by rw [e1, e2], a, _, 0, .int x, rfl, rfl, .inl (.inl q2), atI_nat (j := 0) rfl, k (.int x) _ Hb H ⟨x, rfl, x0⟩ (.refl S.sub) rfl⟩
theorem ex_p1 {i : Nat} (hm : PotM m) (e : ds[i]? = some .mu) : EvX m K (tOp (rIxL K) (tVar i) (tC (.int 1))) ds (fun d => ∃ y, d = .int y ∧ 0 ≤ y ∧ y ≤ 2147483563) := fun Hb H σ Q S k => by
  obtain ⟨o, e1, a, e2, ha⟩ := S.at_ i _ e
  obtain ⟨q1, o2, q2, q3⟩ := S.mt a ha
  rw [hm.j] at q3
  obtain ⟨x, y, q4, x0, y0, y1⟩ := q3
  rw [q4] at q2
  exact ⟨.ref a, by rw [e1, e2], a, _, 1, .int y, rfl, rfl, .inl (.inl q2), atI_nat (j := 1) rfl, k (.int y) _ Hb H ⟨y, rfl, y0, y1⟩ (.refl S.sub) rfl⟩
/-- the pot is changed -/
theorem Gr.potw {Hb H : Hp} {a : Addr} {o : HO} (hm : PotM m) (ha : m.M a) (s : Ex Hb H) (hn : Hb a = none) (ho : ∃ o, H a = some o) (j : JPot o) : Gr m Hb H Hb (upd H a o) := by
  refine ⟨Ex.refl _, fun b u e => ?_, fun b u hb e => ?_, fun b e => ?_, fun b h1 h2 => absurd h2 h1, fun b hb _ => ?_⟩
  · have n : b ≠ a := fun q => by rw [q, hn] at e; cases e
    rw [upd_ne n]
    exact s b u e
  · have n : b ≠ a := fun q => hb (q ▸ ha)
    rw [upd_ne n]
    exact e
  · by_cases n : b = a
    · rw [n, upd_same]; exact Option.some_ne_none _
    · rw [upd_ne n]; exact e
  · have q := hm.one a b ha hb
    subst q
    exact ⟨o, upd_same, hm.j ▸ j⟩
theorem sdx_st1 {i : Nat} (hm : PotM m) (e : ds[i]? = some .mu) (h : EvX m K te ds (fun d => ∃ y, d = .int y ∧ 0 ≤ y ∧ y ≤ 2147483563)) (n : N ds) : SD m K (tAsg te (gSub (tVar i) (tC (.int 1)) rSetL)) ds N Rs := fun Hb0 H0 Hb σ H D S k _ =>
  h Hb H σ _ S.sl fun d v Hb1 H1 ⟨z, ed, z0, z1⟩ g1 hv => by
    have S1 := S.grow g1
    obtain ⟨o, e1, a, e2, ha⟩ := S1.sl.at_ i _ e
    obtain ⟨q1, o2, q2, q3⟩ := S1.sl.mt a ha
    rw [hm.j] at q3
    obtain ⟨x, y, q4, x0, y0, y1⟩ := q3
    rw [q4] at q2
    subst ed
    rw [show v = .int z from hv]
    refine ⟨.ref a, by rw [e1, e2], a, _, 1, 1, rfl, rfl, q2, ixN_of (j := 1) (by simp), ?_⟩
    exact k ds Hb1 σ _ n g1.b (S1.grow (Gr.potw hm ha S1.sl.sub q1 ⟨_, q2⟩ ⟨x, z, rfl, x0, z0, z1⟩))
/-- pot[0], digit = divmod(pot[0], many) -/
theorem sdx_div {i j l : Nat} {n : Int} (hm : PotM m) (e : ds[i]? = some .mu) (en : ds[l]? = some (.dat (.int n))) (hn : 0 < n ∧ n ≤ 1000) (k2 : ∀ d, 0 ≤ d → d < n → N (ds.set j (.dat (.int d)))) :
    SD m K (tAsg (tCB (fun xs H Q => ∃ i j, xs = [.int i, .int j] ∧ CDiv i j ∧ ∀ p, H p = none → Q (.ref p) (upd H p (.tup [.int (i / j), .int (i % j)]))) (tCons (tOp (rIxL K) (tVar i) (tC (.int 0))) (tCons (tVar l) tNil))) (gTup K 2 (gCons (gSub (tVar i) (tC (.int 0)) rSetL) (gCons (gName j) gNil)))) ds N Rs := fun Hb0 H0 Hb σ H D S k _ => by
  obtain ⟨o, e1, a, e2, ha⟩ := S.sl.at_ i _ e
  obtain ⟨q1, o2, q2, q3⟩ := S.sl.mt a ha
  rw [hm.j] at q3
  obtain ⟨x, y, q4, x0, y0, y1⟩ := q3
  rw [q4] at q2
  obtain ⟨vn, en1, en2⟩ := S.sl.dat en
  refine ⟨.ref a, by rw [e1, e2], a, _, 0, .int x, rfl, rfl, .inl (.inl q2), atI_nat (j := 0) rfl, vn, en1, x, n, by rw [show vn = .int n from en2], ⟨hn.1, by omega⟩, fun p hp => ?_⟩
  have np : a ≠ p := fun q => by rw [q, hp] at q2; cases q2
  have g1 : Gr m Hb H (upd Hb p (.tup [.int (x / n), .int (x % n)])) (upd H p (.tup [.int (x / n), .int (x % n)])) := Gr.new S.sl.sub hp
  have S1 := S.grow g1
  refine ⟨p, _, rfl, .inl (.inl upd_same), rfl, .int (x / n), _, rfl, .ref a, by rw [e1, e2], a, _, 0, 0, rfl, rfl, by rw [upd_ne np]; exact q2, ixN_of (j := 0) (by simp), .int (x % n), _, rfl, rfl, ?_⟩
  have d0 : 0 ≤ x / n := Int.ediv_nonneg x0 (by omega)
  have m0 := Int.emod_nonneg x (b := n) (by omega)
  have m1 := Int.emod_lt_of_pos x hn.1
  have S2 := S1.grow (Gr.potw hm ha S1.sl.sub (S1.sl.mt a ha).1 ⟨_, by rw [upd_ne np]; exact q2⟩ (o := .lst [.int (x / n), .int y]) ⟨x / n, y, rfl, d0, y0, y1⟩)
  exact k _ _ _ _ (k2 _ m0 m1) (Ex.new (fresh_back S.sl.sub hp)) ⟨S2.gr, S2.sl.set (d := .int (x % n)) rfl, S2.ff⟩
theorem ex_intc (h : EvX m K te ds (fun d => ∃ y, d = .int y)) : EvX m K (tCB (fun xs H Q => (∃ i, xs = [.int i] ∧ Q (.int i) H) ∨ ∃ k, xs = [.bl k] ∧ Q (.int (if k then 1 else 0)) H) (tCons te tNil)) ds (fun d => ∃ y, d = .int y) := fun Hb H σ Q S k =>
  h Hb H σ _ S fun d v Hb1 H1 ⟨y, e⟩ g hv => by
    subst e
    exact .inl ⟨y, by rw [show v = .int y from hv], k (.int y) _ Hb1 H1 ⟨y, rfl⟩ g rfl⟩
theorem primesL_len : ∀ k, (primesL k).length ≤ k
  | 0 => Nat.le_refl _
  | k + 1 => by
    have := primesL_len k
    rw [primesL]
    split
    · rw [List.length_append]; simp; omega
    · omega
theorem given_congr {n : Nat} {f g : Nat → Bool} {y z : Nat → Dat} (h1 : ∀ i, i < n → f i = g i) (h2 : ∀ i, i < n → y i = z i) : given n f y = given n g z := by
  unfold given
  rw [List.filter_congr fun i hi => h1 i (List.mem_range.mp hi)]
  exact List.map_congr_left fun i hi => h2 i (List.mem_range.mp (List.mem_filter.mp hi).1)
theorem given_filter {f : Int → Bool} : ∀ (n : Nat) (l : List Int), l.length = n → given n (fun i => f (l.getD i 0)) (fun i => .int (l.getD i 0)) = (l.filter f).map Dat.int
  | 0, l, h => by rw [List.length_eq_zero_iff.mp h] <;> rfl
  | n + 1, l, h => by
    rcases list_end l with rfl | ⟨l', x, rfl⟩
    · simp at h
    · have hl : l'.length = n := by simpa using h
      have a : ∀ i, i < n → (l' ++ [x]).getD i 0 = l'.getD i 0 := fun i hi => by
        rw [List.getD_eq_getElem?_getD, List.getElem?_append_left (by omega), ← List.getD_eq_getElem?_getD]
      have b : (l' ++ [x]).getD n 0 = x := by
        rw [List.getD_eq_getElem?_getD, List.getElem?_append_right (by omega), hl, Nat.sub_self] <;> rfl
      have ih := given_filter (f := f) n l' hl
      have cg : given n (fun i => f ((l' ++ [x]).getD i 0)) (fun i => .int ((l' ++ [x]).getD i 0)) = (l'.filter f).map Dat.int := by
        rw [← ih]
        exact given_congr (fun i hi => by rw [a i hi]) fun i hi => by rw [a i hi]
      rw [List.filter_append, List.map_append, ← cg]
      cases c : f x with
      | true =>
        rw [given_yes (by rw [b]; exact c)]
        simp only [b, List.filter_cons, c, List.filter_nil, if_true, List.map_cons, List.map_nil]
      | false =>
        rw [given_no (by rw [b]; exact c)]
        simp [c]
end

theorem sc_law_primes : FnScope ["_law_most", "_law_found", "_law_number", "_law_prime"] ["_law_most"] (defScope s_law_primes) := ⟨rfl, rfl, rfl, by decide +kernel, rfl, by decide +kernel, by decide +kernel⟩
def pPrimes : List Dat → Dat → Prop := fun dl r => ∃ (most : Int) (k : Nat), dl = [.int most] ∧ ((most = 6 ∧ k = 2) ∨ (most = 12 ∧ k = 5) ∨ (most = 14 ∧ k = 6)) ∧ r = il (primesL k)
theorem ok_law_primes {P : Program} {w : World} {K : PySem.W.Frag} {mg : Str → Option Value} {base : Heap} (T : Txt K mg) : Cal P w K mg base (0 + 1) "_law_primes" (spD K pPrimes) := by
  refine ⟨?_, T.g_law_primes, (T.d_law_primes).elim fun _ F => F.kp⟩
  refine fn_d (d := d_law_primes) (k := 0) (T.d_law_primes) sc_law_primes (fun _ _ _ _ _ _ us hl => match us, hl with | [_], _ => rfl) ?_ ?_
  · rintro dl r ⟨_, _, rfl, _⟩; rfl
  · intro cdv A outer s H E hr
    refine ⟨_, (pss_cons (ps_set (i := 1) sc_law_primes.nd rfl (.inl rfl) (pe_lst pa_nil))
      (pss_cons (ps_for PassesOwn.never rfl (pi_range3 (by rfl) T.b_range (pa_cons pe_int (pa_cons (pv 0) (pa_cons pe_int pa_nil)))) (pg_name (i := 2) sc_law_primes.nd rfl (.inr rfl))
        (pss_one (ps_if (pt_val (pe_callB (cr_all rfl) (by rfl) T.b_all (by decide +kernel) (pa_cons (pe_lc (own := [("_law_prime", 3)]) (g := (gName 3)) (tt := tYes) (te := (tOp rNe (tOp (rI (fun _ j => 0 < j) fun i j => .int (i % j)) (tVar 2) (tVar 3)) (tC (.int 0)))) rfl sc_law_primes.nd (pi_list (pv 1)) (blkOk_by (own := [("_law_prime", 3)]) (N := ["_law_most", "_law_found", "_law_number", "_law_prime"]) (sc := defScope s_law_primes) (by decide +kernel)) (fun _ _ _ _ _ => (pg_name (i := 3) sc_law_primes.nd rfl (Or.inl rfl))) (fun _ _ _ _ _ => pts_nil) (fun _ _ _ _ _ => (pe_cmpR op_ne (pe_op op_mod (pv 2) (pv 3)) pe_int (nomark _)))) pa_nil)))
          (pss_one (ps_expr (pe_bm PySem.F.plainAttrs_list PySem.F.slot_list_append PySem.F.type_list_append mt_append (pv 1) (pa_cons (pv 2) pa_nil))))
          pss_nil)))
      (pss_one (ps_ret (pv 1))))), ?_⟩
    rintro m dl r ⟨most, k, rfl, hk, rfl⟩
    refine sd_then (sd_own (xs := []) (eo_lst ea_nil (by simp)) rfl) ?_
    have k6 : k ≤ 6 := by omega
    refine sd_seq (M := fun d => ∃ sa sb, d = [.dat (.int most), .own ((primesL k).map Dat.int), sa, sb]) (sd_for (it_range3 (a := 3) (b := most) (c := 2) (n := k) (ea_cons ev_int (ea_cons (ev_var rfl) (ea_cons ev_int ea_nil))) ?_) (fun i ds' => ∃ sa sb, ds' = [.dat (.int most), .own ((primesL i).map Dat.int), sa, sb]) ⟨_, _, rfl⟩ ?_ fun _ h => h) ?_
    · rcases hk with ⟨rfl, rfl⟩ | ⟨rfl, rfl⟩ | ⟨rfl, rfl⟩ <;> exact ⟨by decide, by decide, by decide +kernel, by decide +kernel⟩
    · rintro i ds' hi ⟨sa, sb, rfl⟩
      have pr := primes_pr i (by omega)
      have tst : EvT m K (tB (tCB (rAll K) (tCons (tLc (iList K (tVar 1)) (gName 3) tYes (tOp rNe (tOp (rI (fun _ j => 0 < j) fun i j => .int (i % j)) (tVar 2) (tVar 3)) (tC (.int 0))) [3]) tNil))) [.dat (.int most), .own ((primesL i).map Dat.int), .dat (.int (3 + (i : Int) * 2)), sb] ((primesL i).all fun q => (3 + (i : Int) * 2) % q != 0) := by
        refine et_lend (i := 1) rfl (et_B ((et_allG (f := Dat.int) (l := primesL i) (b := fun q => !decide ((3 + (i : Int) * 2) % q = 0)) (ev_var rfl) ?_ fun q hq => ev_op (ev_op (ev_var rfl) (ev_var rfl) (rv_intC (by have := (pr q hq).pos; omega))) ev_int rv_ne).to ?_))
        · have := primesL_len i; omega
        · congr 2
      refine sd_if tst (fun c => ?_) (fun c => ?_)
      · exact sd_app (i := 1) rfl (ev_var rfl) (by rw [List.length_map]; have := primesL_len i; omega) ⟨_, _, by rw [primesL, if_pos c, List.map_append] <;> rfl⟩
      · exact sd_next ⟨_, _, by rw [primesL, if_neg (by rw [c]; decide)] <;> rfl⟩
    · rintro d ⟨sa, sb, rfl⟩
      exact sd_freeze (i := 1) rfl (sd_ret (ev_var rfl) rfl)

theorem sc_law_kept : FnScope ["_law_root_now", "_law_many", "_law_most", "_law_prime"] ["_law_root_now", "_law_many", "_law_most"] (defScope s_law_kept) := ⟨rfl, rfl, rfl, by decide +kernel, rfl, by decide +kernel, by decide +kernel⟩
def pKept : List Dat → Dat → Prop := fun dl r => ∃ (nums : List Int) (side bottom most : Int) (many k : Nat), dl = [rnD nums side bottom, .int (many : Int), .int most] ∧ (((most = 6 ∧ k = 2) ∨ (most = 12 ∧ k = 5) ∨ (most = 14 ∧ k = 6)) ∧ nums.length ≤ 1000) ∧ r = il (keptN nums side bottom many k)
theorem ok_law_kept {P : Program} {w : World} {K : PySem.W.Frag} {mg : Str → Option Value} {base : Heap} (T : Txt K mg) (c_law_primes : Cal P w K mg base 1 "_law_primes" (spD K pPrimes)) (c_law_keeps : Cal P w K mg base 4 "_law_keeps" (spD K pKeepsL)) : Cal P w K mg base (4 + 1) "_law_kept" (spD K pKept) := by
  refine ⟨?_, T.g_law_kept, (T.d_law_kept).elim fun _ F => F.kp⟩
  refine fn_d (d := d_law_kept) (k := 4) (T.d_law_kept) sc_law_kept (fun _ _ _ _ _ _ us hl => match us, hl with | [_, _, _], _ => rfl) ?_ ?_
  · rintro dl r ⟨_, _, _, _, _, _, rfl, _⟩; rfl
  · intro cdv A outer s H E hr
    refine ⟨_, (pss_one (ps_ret (pe_slice sl_list (pe_lc (own := [("_law_prime", 3)]) (g := (gName 3)) (tt := (tB (tCf (spD K pKeepsL) (tCons (tVar 0) (tCons (tVar 3) tNil))))) (te := (tVar 3)) rfl sc_law_kept.nd (pi_list (pe_cf (c_law_primes.mono (by decide)) hr (by rfl) (pa_cons (pv 2) pa_nil))) (blkOk_by (own := [("_law_prime", 3)]) (N := ["_law_root_now", "_law_many", "_law_most", "_law_prime"]) (sc := defScope s_law_kept) (by decide +kernel)) (fun _ _ _ _ _ => (pg_name (i := 3) sc_law_kept.nd rfl (Or.inl rfl))) (fun _ _ _ _ _ => pts_one (pt_val (pe_cf (c_law_keeps.mono (by decide)) hr (by rfl) (pa_cons (pv 0) (pa_cons (pv 3) pa_nil))))) (fun _ _ _ _ _ => (pv 3))) po_none (po_some (pv 1))))), ?_⟩
    rintro m dl r ⟨nums, side, bottom, most, many, k, rfl, ⟨hk, hn⟩, rfl⟩
    have k6 : k ≤ 6 := by omega
    have pr := primes_pr k k6
    refine sd_ret ((EvO.dd (eo_slice (lo := none) (hi := some (many : Int)) (EvO.dd ((eo_lc (it_list (j := 3) (ev_call (ea_cons (ev_var rfl) ea_nil) ⟨most, k, rfl, hk, rfl⟩)) (vs := [3]) (fun _ h => h) (fun i => keepsL ((primesL k).getD i 0) nums side bottom) (fun i => .int ((primesL k).getD i 0)) ?_ (fun i hi => ?_) fun i hi _ => ?_).to (ys := ((primesL k).filter fun p => keepsL p nums side bottom).map Dat.int) ?_)) ep_none (ep_some (ev_var rfl)))).to ?_) rfl
    · rw [List.length_map]; have := primesL_len k; omega
    · rw [List.length_map] at hi
      simp only [List.getElem?_map, List.getElem?_eq_getElem hi, Option.map_some, List.getD_eq_getElem?_getD, Option.getD_some]
      exact et_B (ev_call (ea_cons (ev_var rfl) (ea_cons (ev_var rfl) ea_nil)) ⟨nums, side, bottom, _, rfl, ⟨pr _ (List.getElem_mem hi), hn⟩, rfl⟩)
    · rw [List.length_map] at hi
      simp only [List.getElem?_map, List.getElem?_eq_getElem hi, Option.map_some, List.getD_eq_getElem?_getD, Option.getD_some]
      exact ev_var rfl
    · rw [List.length_map]
      exact given_filter (f := fun p => keepsL p nums side bottom) _ _ rfl
    · rw [cutD_take] <;> rfl

theorem sc_law_whole_times : FnScope ["_law_one", "_law_other", "_law_found", "_law_i", "_law_near", "_law_j", "_law_far"] ["_law_one", "_law_other"] (defScope s_law_whole_times) := ⟨rfl, rfl, rfl, by decide +kernel, rfl, by decide +kernel, by decide +kernel⟩
def pWholeTimes : List Dat → Dat → Prop := fun dl r => ∃ (one other : List Int), dl = [il one, il other] ∧ (one ≠ [] ∧ other ≠ [] ∧ Sm one ∧ one.length ≤ 1000 ∧ other.length ≤ 1000) ∧ r = il (rawMul one other)
theorem ok_law_whole_times {P : Program} {w : World} {K : PySem.W.Frag} {mg : Str → Option Value} {base : Heap} (T : Txt K mg) : Cal P w K mg base (0 + 1) "_law_whole_times" (spD K pWholeTimes) := by
  refine ⟨?_, T.g_law_whole_times, (T.d_law_whole_times).elim fun _ F => F.kp⟩
  refine fn_d (d := d_law_whole_times) (k := 0) (T.d_law_whole_times) sc_law_whole_times (fun _ _ _ _ _ _ us hl => match us, hl with | [_, _], _ => rfl) ?_ ?_
  · rintro dl r ⟨_, _, rfl, _⟩; rfl
  · intro cdv A outer s H E hr
    refine ⟨_, (pss_cons (ps_set (i := 2) sc_law_whole_times.nd rfl (.inl rfl) (pe_op op_rep (pe_lst (pa_cons pe_int pa_nil)) (pe_op op_sub (pe_op op_add (pe_callB call_len_seq (by rfl) T.b_len (by decide +kernel) (pa_cons (pv 0) pa_nil)) (pe_callB call_len_seq (by rfl) T.b_len (by decide +kernel) (pa_cons (pv 1) pa_nil))) pe_int)))
      (pss_cons (ps_for PassesOwn.never rfl (pi_enum (by rfl) T.b_enumerate (pa_cons (pv 0) pa_nil)) (pg_tup rfl (pgs_cons (pg_name (i := 3) sc_law_whole_times.nd rfl (.inl rfl)) (pgs_cons (pg_name (i := 4) sc_law_whole_times.nd rfl (.inl rfl)) pgs_nil)))
        (pss_one (ps_for PassesOwn.never rfl (pi_enum (by rfl) T.b_enumerate (pa_cons (pv 1) pa_nil)) (pg_tup rfl (pgs_cons (pg_name (i := 5) sc_law_whole_times.nd rfl (.inl rfl)) (pgs_cons (pg_name (i := 6) sc_law_whole_times.nd rfl (.inl rfl)) pgs_nil)))
          (pss_one (ps_asg (pe_op op_add (pe_ix ix_list (pv 2) (pe_op op_add (pv 3) (pv 5)) (fun _ _ => rfl)) (pe_op op_mul (pv 4) (pv 6))) (pg_sub (pv 2) (pe_op op_add (pv 3) (pv 5)) set_list))))))
      (pss_one (ps_ret (pv 2))))), ?_⟩
    rintro m dl r ⟨one, other, rfl, ⟨c1, c2, hs, h1, h2⟩, rfl⟩
    have l1 : 0 < one.length := List.length_pos_iff.mpr c1
    have l2 : 0 < other.length := List.length_pos_iff.mpr c2
    refine sd_then (sd_own ((eo_zeros (ev_op (ev_op (ev_len (ev_var rfl)) (ev_len (ev_var rfl)) rv_int) ev_int rv_int) ?_).to (ys := (zeros (one.length + other.length - 1)).map Dat.int) ?_) rfl) ?_
    · simp only [List.length_map]; omega
    · simp only [List.length_map]; rw [show ((one.length : Int) + (other.length : Int) - 1).toNat = one.length + other.length - 1 from by omega]
    refine sd_seq (M := fun d => ∃ sa sb r r2 : Sv, d = [.dat (il one), .dat (il other), .own ((rawMul one other).map Dat.int), sa, sb, r, r2]) (sd_rows (G := fun n a b => a + n * b) (one := one) (other := other) (zs := zeros (one.length + other.length - 1)) (fun sa sb o r => [.dat (il one), .dat (il other), .own o, sa, sb] ++ r) rfl (ea_cons (ev_var rfl) ea_nil) (fun _ _ _ _ _ _ => rfl) (fun r => ∃ a b, r = [a, b]) ⟨_, _, rfl⟩ ?_ ?_) ?_
    · rintro i x acc r ⟨ra, rb, rfl⟩ ex hi ea
      have hx := hs x (List.mem_of_getElem? ex)
      refine sd_enum (s := i) (F := fun a b => a + x * b) (ys := other) (xs := acc) (fun sa sb o => [.dat (il one), .dat (il other), .own o, .dat (.int i), .dat (.int x), sa, sb]) rfl (ea_cons (ev_var rfl) ea_nil) (fun _ _ _ _ _ => rfl) ?_ ?_ fun sa sb => ⟨_, ⟨sa, sb, rfl⟩, rfl⟩
      · right; rw [ea, mulAcc_len]; simp [zeros]; omega
      · intro j a b zs eb exa ez hl
        have hj : i + j < zs.length := (List.getElem?_eq_some_iff.mp ez).1
        have eidx : ∀ ds2 : Ds, ds2[3]? = some (.dat (.int (i : Int))) → ds2[5]? = some (.dat (.int (j : Int))) → EvD m K (tOp (rI0 fun i j => .int (i + j)) (tVar 3) (tVar 5)) ds2 (.int ((i + j : Nat) : Int)) := fun ds2 q1 q2 => (ev_op (ev_var q1) (ev_var q2) rv_int).to (by simp)
        refine sd_store (i := 2) (j := i + j) rfl (ev_op (ev_ixO rfl (eidx _ rfl rfl) (at_int ez)) (ev_op (ev_var rfl) (ev_var rfl) (rv_intC (.inl ⟨by omega, by omega⟩))) rv_int) (eidx _ rfl rfl) (by rw [List.length_map]; exact hj) ?_
        rw [set_int] <;> rfl
    · rintro sa sb r ⟨ra, rb, rfl⟩
      exact ⟨sa, sb, ra, rb, rfl⟩
    · rintro d ⟨sa, sb, ra, rb, rfl⟩
      exact sd_freeze (i := 2) rfl (sd_ret (ev_var rfl) rfl)

theorem sc_law_less_number : FnScope ["_law_poly", "_law_number", "_law_found"] ["_law_poly", "_law_number"] (defScope s_law_less_number) := ⟨rfl, rfl, rfl, by decide +kernel, rfl, by decide +kernel, by decide +kernel⟩
def pLessN : List Dat → Dat → Prop := fun dl r => ∃ (l : List Int) (n : Int), dl = [il l, .int n] ∧ (l ≠ [] ∧ Sm l ∧ l.length ≤ 1000) ∧ r = il (lessN l n)
theorem ok_law_less_number {P : Program} {w : World} {K : PySem.W.Frag} {mg : Str → Option Value} {base : Heap} (T : Txt K mg) (c_law_whole_times : Cal P w K mg base 1 "_law_whole_times" (spD K pWholeTimes)) : Cal P w K mg base (1 + 1) "_law_less_number" (spD K pLessN) := by
  refine ⟨?_, T.g_law_less_number, (T.d_law_less_number).elim fun _ F => F.kp⟩
  refine fn_d (d := d_law_less_number) (k := 1) (T.d_law_less_number) sc_law_less_number (fun _ _ _ _ _ _ us hl => match us, hl with | [_, _], _ => rfl) ?_ ?_
  · rintro dl r ⟨_, _, rfl, _⟩; rfl
  · intro cdv A outer s H E hr
    refine ⟨_, (pss_cons (ps_set (i := 2) sc_law_less_number.nd rfl (.inl rfl) (pe_cf (c_law_whole_times.mono (by decide)) hr (by rfl) (pa_cons (pv 0) (pa_cons (pv 0) pa_nil))))
      (pss_one (ps_ret (pe_op op_cat (pe_lst (pa_cons (pe_op op_sub (pe_ix ix_list (pv 2) pe_int (fun _ _ => rfl)) (pv 1)) pa_nil)) (pe_slice sl_list (pv 2) (po_some pe_int) po_none))))), ?_⟩
    rintro m dl r ⟨l, n, rfl, ⟨hn, hs, hl⟩, rfl⟩
    have l1 : 0 < l.length := List.length_pos_iff.mpr hn
    refine sd_then (sd_set (ev_call (ea_cons (ev_var rfl) (ea_cons (ev_var rfl) ea_nil)) ⟨l, l, rfl, ⟨hn, hn, hs, hl, hl⟩, rfl⟩) rfl) ?_
    have rl := rawMul_len l l
    unfold lessN
    generalize rawMul l l = z at *
    have ex : z[0]? = some (z.getD 0 0) := by rw [List.getD_eq_getElem?_getD, List.getElem?_eq_getElem (by omega)] <;> rfl
    refine sd_ret ((EvO.dd (eo_cat (xs := [Dat.int (z.getD 0 0 - n)]) (ys := (z.drop 1).map Dat.int) (EvO.dd (eo_lst (ea_cons (ev_op (ev_op (ev_var rfl) ev_int (rv_ixL (at_int (i := 0) ex))) (ev_var rfl) rv_int) ea_nil) (by simp))) ((EvO.dd (eo_slice (lo := some 1) (hi := none) (ev_var rfl) (ep_some ev_int) ep_none)).to ?_) ?_)).to rfl) rfl
    · rw [show ((1 : Int)) = ((1 : Nat) : Int) from rfl, cutD_drop, ← List.map_drop]
    · simp; omega

def cDraw : List Dat → Prop := fun dl => ∃ n : Int, dl = [.int n] ∧ 0 < n ∧ n ≤ 1000
def rDraw : List Dat → Dat → Prop := fun dl d => ∃ n i : Int, dl = [.int n] ∧ d = .int i ∧ 0 ≤ i ∧ i < n
def cPick : List Dat → Prop := fun dl => ∃ l : List Int, dl = [il l] ∧ l ≠ [] ∧ l.length ≤ 100
def rPick : List Dat → Dat → Prop := fun dl d => ∃ (l : List Int) (x : Int), dl = [il l] ∧ x ∈ l ∧ d = .int x
def cNone : List Dat → Prop := fun dl => dl = []
def rSmall : List Dat → Dat → Prop := fun _ d => ∃ i, d = .int i ∧ Sml i
def rDrawn : List Dat → Dat → Prop := fun _ d => ∃ nums side bottom, d = rnD nums side bottom ∧ DrawnOk nums side bottom
def cPassed : List Dat → Prop := fun dl => ∃ nums side bottom, dl = [rnD nums side bottom] ∧ DrawnOk nums side bottom
/-- a coefficient handed to Root: the ratio, or its top where it is whole -/
def Handed (r : Int × Int) (d : Dat) : Prop := d = ratD r ∨ (r.2 = 1 ∧ d = .int r.1)
def rPassed : List Dat → Dat → Prop := fun dl d => ∃ nums side bottom xs, dl = [rnD nums side bottom] ∧ d = .lst xs ∧ xs.length = nums.length ∧ ∀ (i : Nat) (x : Dat) (n : Int), xs[i]? = some x → nums[i]? = some n → Handed (rN n (bottom * bottom)) x

theorem sc_law_draw : FnScope ["_law_pot_here", "_law_many", "_law_digit"] ["_law_pot_here", "_law_many"] (defScope s_law_draw) := ⟨rfl, rfl, rfl, by decide +kernel, rfl, by decide +kernel, by decide +kernel⟩

theorem ok_law_draw {P : Program} {w : World} {K : PySem.W.Frag} {mg : Str → Option Value} {base : Heap} (T : Txt K mg) : Cal P w K mg base (0 + 1) "_law_draw" (spP K cDraw rDraw) := by
  refine ⟨?_, T.g_law_draw, (T.d_law_draw).elim fun _ F => F.kp⟩
  refine fn_p (d := d_law_draw) (k := 0) (T.d_law_draw) sc_law_draw (fun _ _ _ _ _ _ us hl => match us, hl with | [_, _], _ => rfl) ?_ ?_
  · rintro dl ⟨_, rfl, _⟩; rfl
  · intro cdv A outer s H E hr
    refine ⟨_, (pss_cons (ps_if (pt_cmpR op_gt (pe_ix ix_list (pv 0) pe_int (fun _ _ => rfl)) pe_int (nomark _))
        (pss_cons (ps_asg (pe_callB call_divmod (by rfl) T.b_divmod (by decide +kernel) (pa_cons (pe_ix ix_list (pv 0) pe_int (fun _ _ => rfl)) (pa_cons (pv 1) pa_nil))) (pg_tup rfl (pgs_cons (pg_sub (pv 0) pe_int set_list) (pgs_cons (pg_name (i := 2) sc_law_draw.nd rfl (.inl rfl)) pgs_nil))))
        (pss_one (ps_ret (pv 2))))
        pss_nil)
      (pss_cons (ps_asg (pe_op op_mod (pe_callTy call_int1 (by rfl) T.b_int (by decide +kernel) (pa_cons (pe_op op_add (pe_op op_mul (pe_ix ix_list (pv 0) pe_int (fun _ _ => rfl)) pe_int) pe_int) pa_nil)) pe_int) (pg_sub (pv 0) pe_int set_list))
      (pss_one (ps_ret (pe_op op_mod (pe_callTy call_int1 (by rfl) T.b_int (by decide +kernel) (pa_cons (pe_op op_fdiv (pe_op op_mod (pe_callTy call_int1 (by rfl) T.b_int (by decide +kernel) (pa_cons (pe_op op_mul (pe_ix ix_list (pv 0) pe_int (fun _ _ => rfl)) (pe_ix ix_list (pv 0) pe_int (fun _ _ => rfl))) pa_nil)) pe_int) pe_int) pa_nil)) (pv 1)))))), ?_⟩
    rintro m dl hm ⟨n, rfl, hn⟩
    refine sd_seq (M := fun d => d = dsP ["_law_pot_here", "_law_many", "_law_digit"] [.int n]) (sdx_if (xt_test (ex_op (ex_p0 hm rfl) (ex_of ev_int rfl) fun x y ⟨z, e, _⟩ e2 => by subst e; subst e2; exact ⟨_, ⟨_, rfl⟩, rv_bl⟩)) ?_ (sd_next rfl)) ?_
    · refine sd_seq (M := fun d => ∃ i : Int, d = [.mu, .dat (.int n), .dat (.int i)] ∧ 0 ≤ i ∧ i < n) (sdx_div (i := 0) (j := 2) (l := 1) hm rfl rfl hn fun i h0 h1 => ⟨i, rfl, h0, h1⟩) ?_
      rintro d ⟨i, rfl, h0, h1⟩
      exact sd_ret (ev_var rfl) ⟨n, i, rfl, rfl, h0, h1⟩
    · rintro d rfl
      refine sd_then (sdx_st1 (i := 0) hm rfl (ex_op (Ra := fun d => ∃ y, d = .int y) (Rb := (· = .int 2147483563)) ?_ (ex_of ev_int rfl) ?_) rfl) ?_
      · exact ex_intc (ex_op (Ra := fun d => ∃ y, d = .int y) (Rb := (· = .int 1109)) (ex_op (Rb := (· = .int 40014)) (ex_p1 hm rfl) (ex_of ev_int rfl) fun x y ⟨z, e, _, _⟩ e2 => by subst e; subst e2; exact ⟨_, ⟨_, rfl⟩, rv_intC (.inr ⟨by decide, by decide⟩)⟩) (ex_of ev_int rfl) fun x y ⟨z, e⟩ e2 => by subst e; subst e2; exact ⟨_, ⟨_, rfl⟩, rv_int⟩)
      · rintro x y ⟨z, rfl⟩ rfl
        have m0 := Int.emod_nonneg z (b := 2147483563) (by decide)
        have m1 := Int.emod_lt_of_pos z (b := 2147483563) (by decide)
        exact ⟨.int (z % 2147483563), ⟨_, rfl, m0, by omega⟩, rv_intC (by show (0:Int) < 2147483563; decide)⟩
      · refine sdx_ret (R := fun d => ∃ i : Int, d = .int i ∧ 0 ≤ i ∧ i < n) (ex_op (Ra := fun d => ∃ y, d = .int y) (Rb := (· = .int n)) (ex_intc (ex_op (Ra := fun d => ∃ y, d = .int y) (Rb := (· = .int 21)) (ex_op (Ra := fun d => ∃ y, d = .int y) (Rb := (· = .int 2147483587)) (ex_intc (ex_op (ex_p1 hm rfl) (ex_p1 hm rfl) fun x y ⟨z, e, z0, z1⟩ ⟨z', e', z0', z1'⟩ => by subst e; subst e'; exact ⟨_, ⟨_, rfl⟩, rv_intC (.inl ⟨by omega, by omega⟩)⟩)) (ex_of ev_int rfl) fun x y ⟨z, e⟩ e2 => by subst e; subst e2; exact ⟨_, ⟨_, rfl⟩, rv_intC (by show (0:Int) < 2147483587; decide)⟩) (ex_of ev_int rfl) fun x y ⟨z, e⟩ e2 => by subst e; subst e2; exact ⟨_, ⟨_, rfl⟩, rv_intC ⟨by decide, by decide⟩⟩)) (ex_of (ev_var rfl) rfl) fun x y ⟨z, e⟩ e2 => ?_) fun d ⟨i, e, h0, h1⟩ => ⟨n, i, rfl, e, h0, h1⟩
        subst e; subst e2
        exact ⟨.int (z % n), ⟨_, rfl, Int.emod_nonneg _ (by omega), Int.emod_lt_of_pos _ hn.1⟩, rv_intC hn.1⟩

end RR
/-! ### RW13 -/
namespace RR
open PySem PySem.Spec PyProof.Rows L2 Evl

theorem sc_law_pick : FnScope ["_law_pot_here", "_law_some"] ["_law_pot_here", "_law_some"] (defScope s_law_pick) := ⟨rfl, rfl, rfl, by decide +kernel, rfl, by decide +kernel, by decide +kernel⟩

theorem ok_law_pick {P : Program} {w : World} {K : PySem.W.Frag} {mg : Str → Option Value} {base : Heap} (T : Txt K mg) (c_law_draw : Cal P w K mg base 1 "_law_draw" (spP K cDraw rDraw)) : Cal P w K mg base (1 + 1) "_law_pick" (spP K cPick rPick) := by
  refine ⟨?_, T.g_law_pick, (T.d_law_pick).elim fun _ F => F.kp⟩
  refine fn_p (d := d_law_pick) (k := 1) (T.d_law_pick) sc_law_pick (fun _ _ _ _ _ _ us hl => match us, hl with | [_, _], _ => rfl) ?_ ?_
  · rintro dl ⟨_, rfl, _⟩; rfl
  · intro cdv A outer s H E hr
    refine ⟨_, (pss_one (ps_ret (pe_ix ix_list (pv 1) (pe_cf (c_law_draw.mono (by decide)) hr (by rfl) (pa_cons (pv 0) (pa_cons (pe_callB call_len_seq (by rfl) T.b_len (by decide +kernel) (pa_cons (pv 1) pa_nil)) pa_nil))) (fun _ _ => rfl)))), ?_⟩
    rintro m dl hm ⟨l, rfl, hn, hl⟩
    refine sdx_ret (R := fun d => ∃ x, x ∈ l ∧ d = .int x) (ex_op (Ra := (· = il l)) (Rb := fun d => ∃ i : Int, d = .int i ∧ 0 ≤ i ∧ i < l.length) (ex_of (ev_var rfl) rfl) (ex_pot (i := 0) hm rfl (xa_cons (Ra := (· = .int (l.length : Int))) (ex_of ((ev_len (ev_var rfl)).to (by rw [List.length_map])) rfl) xa_nil) ?_ ?_) ?_) fun d ⟨x, hx, e⟩ => ⟨l, x, rfl, hx, e⟩
    · rintro dl ⟨d, r, rfl, rfl, rfl⟩
      exact ⟨_, rfl, by have := List.length_pos_iff.mpr hn; omega, by omega⟩
    · rintro dl d ⟨d1, r, rfl, rfl, rfl⟩ ⟨n, i, e, rfl, h0, h1⟩
      cases (List.cons.inj e).1
      exact ⟨i, rfl, h0, h1⟩
    · rintro x y rfl ⟨i, rfl, h0, h1⟩
      have hi : i.toNat < l.length := by omega
      refine ⟨.int l[i.toNat], ⟨_, List.getElem_mem hi, rfl⟩, rv_ixL ?_⟩
      have := at_int (l := l) (i := i.toNat) (List.getElem?_eq_getElem hi)
      rwa [show ((i.toNat : Nat) : Int) = i from by omega] at this

theorem sc_law_small : FnScope ["_law_pot_here"] ["_law_pot_here"] (defScope s_law_small) := ⟨rfl, rfl, rfl, by decide +kernel, rfl, by decide +kernel, by decide +kernel⟩

theorem ok_law_small {P : Program} {w : World} {K : PySem.W.Frag} {mg : Str → Option Value} {base : Heap} (T : Txt K mg) (c_law_draw : Cal P w K mg base 1 "_law_draw" (spP K cDraw rDraw)) : Cal P w K mg base (1 + 1) "_law_small" (spP K cNone rSmall) := by
  refine ⟨?_, T.g_law_small, (T.d_law_small).elim fun _ F => F.kp⟩
  refine fn_p (d := d_law_small) (k := 1) (T.d_law_small) sc_law_small (fun _ _ _ _ _ _ us hl => match us, hl with | [_], _ => rfl) ?_ ?_
  · rintro dl rfl; rfl
  · intro cdv A outer s H E hr
    refine ⟨_, (pss_one (ps_ret (pe_op op_sub (pe_cf (c_law_draw.mono (by decide)) hr (by rfl) (pa_cons (pv 0) (pa_cons pe_int pa_nil))) pe_int))), ?_⟩
    rintro m dl hm rfl
    refine sdx_ret (R := fun d => ∃ i, d = .int i ∧ Sml i) (ex_op (Ra := fun d => ∃ i : Int, d = .int i ∧ 0 ≤ i ∧ i < 9) (Rb := (· = .int 4)) (ex_pot (i := 0) hm rfl (xa_cons (Ra := (· = .int 9)) (ex_of ev_int rfl) xa_nil) ?_ ?_) (ex_of ev_int rfl) ?_) fun d h => h
    · rintro dl ⟨d, r, rfl, rfl, rfl⟩
      exact ⟨9, rfl, by decide, by decide⟩
    · rintro dl d ⟨d1, r, rfl, rfl, rfl⟩ ⟨n, i, e, rfl, h0, h1⟩
      cases (List.cons.inj e).1
      exact ⟨i, rfl, h0, h1⟩
    · rintro x y ⟨i, rfl, h0, h1⟩ rfl
      exact ⟨.int (i - 4), ⟨_, rfl, by unfold Sml; omega⟩, rv_int⟩

theorem ex_small {m : Md} {K : PySem.W.Frag} {ds : Ds} {i : Nat} (hm : PotM m) (e : ds[i]? = some .mu) : EvX m K (tCf (spP K cNone rSmall) (tCons (tVar i) tNil)) ds (fun d => ∃ i, d = .int i ∧ Sml i) := ex_pot hm e xa_nil (fun _ h => h) fun _ _ _ h => h
theorem ex_pick {m : Md} {K : PySem.W.Frag} {ds : Ds} {i : Nat} {t : TE} {l : List Int} (hm : PotM m) (e : ds[i]? = some .mu) (h : EvD m K t ds (il l)) (hn : l ≠ []) (hl : l.length ≤ 100) : EvX m K (tCf (spP K cPick rPick) (tCons (tVar i) (tCons t tNil))) ds (fun d => ∃ x, d = .int x ∧ x ∈ l) :=
  ex_pot hm e (xa_cons (Ra := (· = il l)) (ex_of h rfl) xa_nil) (fun dl ⟨d, r, e1, e2, e3⟩ => ⟨l, by rw [e1, e2, e3], hn, hl⟩) fun dl d ⟨d1, r, e1, e2, e3⟩ ⟨l', x, e4, hx, e5⟩ => by
    rw [e1, e2, e3] at e4
    have q := (List.cons.inj e4).1
    have q2 : l.map Dat.int = l'.map Dat.int := Dat.lst.inj q
    have q3 : l = l' := List.map_inj_right (fun a b e => Dat.int.inj e) |>.mp q2
    exact ⟨x, e5, q3 ▸ hx⟩
theorem ex_draw {m : Md} {K : PySem.W.Frag} {ds : Ds} {i : Nat} {n : Int} (hm : PotM m) (e : ds[i]? = some .mu) (hn : 0 < n ∧ n ≤ 1000) : EvX m K (tCf (spP K cDraw rDraw) (tCons (tVar i) (tCons (tC (.int n)) tNil))) ds (fun d => ∃ i, d = .int i ∧ 0 ≤ i ∧ i < n) :=
  ex_pot hm e (xa_cons (Ra := (· = .int n)) (ex_of ev_int rfl) xa_nil) (fun dl ⟨d, r, e1, e2, e3⟩ => ⟨n, by rw [e1, e2, e3], hn⟩) fun dl d ⟨d1, r, e1, e2, e3⟩ ⟨n', i, e4, e5, h0, h1⟩ => by
    rw [e1, e2, e3] at e4
    cases (List.cons.inj e4).1
    exact ⟨i, e5, h0, h1⟩
theorem ints_of : ∀ {l : List Dat}, (∀ (i : Nat) (x : Dat), l[i]? = some x → ∃ j, x = .int j ∧ Sml j) → ∃ l' : List Int, l = l'.map Dat.int ∧ l'.length = l.length ∧ ∀ x ∈ l', Sml x
  | [], _ => ⟨[], rfl, rfl, fun x h => by simp at h⟩
  | d :: l, h => by
    obtain ⟨j, e, hj⟩ := h 0 d rfl
    obtain ⟨l', e', hl, hs⟩ := ints_of (l := l) fun i x q => h (i + 1) x (by simpa using q)
    refine ⟨j :: l', by rw [e, e'] <;> rfl, by simp [hl], fun x hx => ?_⟩
    rcases List.mem_cons.mp hx with q | q
    · rw [q]; exact hj
    · exact hs x q
theorem sm_small {l : List Int} (h : ∀ x ∈ l, -100 ≤ x ∧ x ≤ 100) : Sm l := fun x hx => by have := h x hx; omega

theorem sc_law_drawn : FnScope ["_law_pot_here", "_law_way", "_law_side", "_law_bottom", "_law_numbers", "_law_place", "_law_found"] ["_law_pot_here"] (defScope s_law_drawn) := ⟨rfl, rfl, rfl, by decide +kernel, rfl, by decide +kernel, by decide +kernel⟩

theorem ok_law_drawn {P : Program} {w : World} {K : PySem.W.Frag} {mg : Str → Option Value} {base : Heap} (T : Txt K mg) (c_law_pick : Cal P w K mg base 2 "_law_pick" (spP K cPick rPick)) (c_law_draw : Cal P w K mg base 1 "_law_draw" (spP K cDraw rDraw)) (c_law_small : Cal P w K mg base 2 "_law_small" (spP K cNone rSmall)) (c_law_less_number : Cal P w K mg base 2 "_law_less_number" (spD K pLessN)) (c_law_kept : Cal P w K mg base 5 "_law_kept" (spD K pKept)) : Cal P w K mg base (5 + 1) "_law_drawn" (spP K cNone rDrawn) := by
  refine ⟨?_, T.g_law_drawn, (T.d_law_drawn).elim fun _ F => F.kp⟩
  refine fn_p (d := d_law_drawn) (k := 5) (T.d_law_drawn) sc_law_drawn (fun _ _ _ _ _ _ us hl => match us, hl with | [_], _ => rfl) ?_ ?_
  · rintro dl rfl; rfl
  · intro cdv A outer s H E hr
    refine ⟨_, (pss_cons (ps_par3 (i := 1) (j := 2) (l := 3) (by rfl) sc_law_drawn.nd rfl rfl rfl (by decide) (by decide) (by decide) rfl rfl rfl (pa_cons (pe_cf (c_law_draw.mono (by decide)) hr (by rfl) (pa_cons (pv 0) (pa_cons pe_int pa_nil))) (pa_cons (pe_cf (c_law_pick.mono (by decide)) hr (by rfl) (pa_cons (pv 0) (pa_cons (pe_lst (pa_cons pe_int (pa_cons pe_int (pa_cons pe_int pa_nil)))) pa_nil))) (pa_cons (pe_cf (c_law_pick.mono (by decide)) hr (by rfl) (pa_cons (pv 0) (pa_cons (pe_lst (pa_cons pe_int (pa_cons pe_int (pa_cons pe_int (pa_cons pe_int (pa_cons pe_int pa_nil)))))) pa_nil))) pa_nil))) (by rfl))
      (pss_cons (ps_if (pt_cmpR op_eq (pv 1) pe_int (nomark _))
        (pss_one (ps_set (i := 4) sc_law_drawn.nd rfl (.inl rfl) (pe_lst (pa_cons (pe_cf (c_law_small.mono (by decide)) hr (by rfl) (pa_cons (pv 0) pa_nil)) (pa_cons (pe_cf (c_law_small.mono (by decide)) hr (by rfl) (pa_cons (pv 0) pa_nil)) (pa_cons (pe_op op_mul (pv 2) (pv 2)) pa_nil))))))
        (pss_one (ps_if (pt_cmpR op_eq (pv 1) pe_int (nomark _))
          (pss_one (ps_set (i := 4) sc_law_drawn.nd rfl (.inl rfl) (pe_cf (c_law_less_number.mono (by decide)) hr (by rfl) (pa_cons (pe_lst (pa_cons (pe_cf (c_law_small.mono (by decide)) hr (by rfl) (pa_cons (pv 0) pa_nil)) (pa_cons (pe_cf (c_law_small.mono (by decide)) hr (by rfl) (pa_cons (pv 0) pa_nil)) (pa_cons (pv 2) pa_nil)))) (pa_cons (pe_cf (c_law_pick.mono (by decide)) hr (by rfl) (pa_cons (pv 0) (pa_cons (pe_lst (pa_cons pe_int (pa_cons (pe_un un_neg pe_int) (pa_cons pe_int (pa_cons pe_int pa_nil))))) pa_nil))) pa_nil)))))
          (pss_one (ps_if (pt_cmpR op_eq (pv 1) pe_int (nomark _))
            (pss_one (ps_set (i := 4) sc_law_drawn.nd rfl (.inl rfl) (pe_op op_cat (pe_lc (own := [("_law_place", 5)]) (g := (gName 5)) (tt := tYes) (te := (tCf (spP K cNone rSmall) (tCons (tVar 0) tNil))) rfl sc_law_drawn.nd (pi_range1 (by rfl) T.b_range (pa_cons pe_int pa_nil)) (blkOk_by (own := [("_law_place", 5)]) (N := ["_law_pot_here", "_law_way", "_law_side", "_law_bottom", "_law_numbers", "_law_place", "_law_found"]) (sc := defScope s_law_drawn) (by decide +kernel)) (fun _ _ _ _ _ => (pg_name (i := 5) sc_law_drawn.nd rfl (Or.inl rfl))) (fun _ _ _ _ _ => pts_nil) (fun _ _ _ _ _ => (pe_cf (c_law_small.mono (by decide)) hr (by rfl) (pa_cons (pv 0) pa_nil)))) (pe_lst (pa_cons (pe_op op_mul (pv 2) (pv 2)) pa_nil)))))
            (pss_one (ps_set (i := 4) sc_law_drawn.nd rfl (.inl rfl) (pe_op op_cat (pe_lc (own := [("_law_place", 5)]) (g := (gName 5)) (tt := tYes) (te := (tCf (spP K cNone rSmall) (tCons (tVar 0) tNil))) rfl sc_law_drawn.nd (pi_range1 (by rfl) T.b_range (pa_cons pe_int pa_nil)) (blkOk_by (own := [("_law_place", 5)]) (N := ["_law_pot_here", "_law_way", "_law_side", "_law_bottom", "_law_numbers", "_law_place", "_law_found"]) (sc := defScope s_law_drawn) (by decide +kernel)) (fun _ _ _ _ _ => (pg_name (i := 5) sc_law_drawn.nd rfl (Or.inl rfl))) (fun _ _ _ _ _ => pts_nil) (fun _ _ _ _ _ => (pe_cf (c_law_small.mono (by decide)) hr (by rfl) (pa_cons (pv 0) pa_nil)))) (pe_lst (pa_cons (pe_op op_mul (pv 2) (pv 2)) pa_nil))))))))))
      (pss_cons (ps_set (i := 6) sc_law_drawn.nd rfl (.inl rfl) (pe_tup (pa_cons (pv 4) (pa_cons (pv 2) (pa_cons (pv 3) pa_nil)))))
      (pss_one (ps_ret (pe_ifExp (pt_cmpR op_eq (pe_callB call_len_seq (by rfl) T.b_len (by decide +kernel) (pa_cons (pe_cf (c_law_kept.mono (by decide)) hr (by rfl) (pa_cons (pv 6) (pa_cons pe_int (pa_cons pe_int pa_nil)))) pa_nil)) pe_int (nomark _)) (pv 6) (pe_tup (pa_cons (pe_lst (pa_cons pe_int (pa_cons pe_int (pa_cons pe_int (pa_cons pe_int (pa_cons pe_int pa_nil)))))) (pa_cons pe_int (pa_cons pe_int pa_nil)))))))))), ?_⟩
    rintro m dl hm rfl
    refine sd_seq (M := fun d => ∃ way side bottom : Int, d = [.mu, .dat (.int way), .dat (.int side), .dat (.int bottom), .no, .no, .no] ∧ (side = 1 ∨ side = 2) ∧ (bottom = 1 ∨ bottom = 2 ∨ bottom = 3))
      (sdx_par3 (xa_cons (ex_draw (i := 0) hm rfl (by decide)) (xa_cons (ex_pick (i := 0) (l := [1, 1, 2]) hm rfl (EvO.dd (eo_lst (ea_cons ev_int (ea_cons ev_int (ea_cons ev_int ea_nil))) (by simp))) (by simp) (by simp)) (xa_cons (ex_pick (i := 0) (l := [1, 1, 1, 2, 3]) hm rfl (EvO.dd (eo_lst (ea_cons ev_int (ea_cons ev_int (ea_cons ev_int (ea_cons ev_int (ea_cons ev_int ea_nil))))) (by simp))) (by simp) (by simp)) xa_nil))) ?_) ?_
    · rintro dl ⟨d1, r1, rfl, ⟨way, rfl, _, _⟩, d2, r2, rfl, ⟨side, rfl, hs⟩, d3, r3, rfl, ⟨bottom, rfl, hb⟩, rfl⟩
      refine ⟨.int way, .int side, .int bottom, rfl, way, side, bottom, rfl, ?_, ?_⟩
      · simp at hs; omega
      · simp at hb; omega
    · rintro d ⟨way, side, bottom, rfl, hs, hb⟩
      refine sd_seq (M := fun d => ∃ nums sa, d = [.mu, .dat (.int way), .dat (.int side), .dat (.int bottom), .dat (il nums), sa, .no] ∧ ((∃ a b, nums = [a, b, side * side] ∧ Sml a ∧ Sml b) ∨ (∃ a b n, nums = lessN [a, b, side] n ∧ Sml a ∧ Sml b ∧ (n = 1 ∨ n = -1 ∨ n = 2 ∨ n = 3)) ∨ ∃ l : List Int, nums = l ++ [side * side] ∧ (l.length = 6 ∨ l.length = 4) ∧ ∀ x ∈ l, Sml x)) ?_ ?_
      · have t1 : ∀ j : Int, EvT m K (tTest (tOp rEq (tVar 1) (tC (.int j)))) [.mu, .dat (.int way), .dat (.int side), .dat (.int bottom), .no, .no, .no] (decide (way = j)) := fun j => et_test (ev_op (ev_var rfl) ev_int rv_eq)
        refine sd_ifC (t1 0) (fun _ => ?_) (fun _ => sd_ifC (t1 1) (fun _ => ?_) (fun _ => sd_ifC (t1 2) (fun _ => ?_) (fun _ => ?_)))
        · refine sdx_set (R := fun d => ∃ a b, d = il [a, b, side * side] ∧ Sml a ∧ Sml b) (EvX.weak (ex_lst (xa_cons (ex_small (i := 0) hm rfl) (xa_cons (ex_small (i := 0) hm rfl) (xa_cons (Ra := (· = .int (side * side))) (ex_of (ev_op (ev_var rfl) (ev_var rfl) (rv_intC (.inl (by omega)))) rfl) xa_nil))) ?_) ?_) fun d ⟨a, b, e, ha, hb⟩ => ⟨[a, b, side * side], .no, by rw [e] <;> rfl, .inl ⟨a, b, rfl, ha, hb⟩⟩
          · rintro l ⟨_, _, rfl, _, _, _, rfl, _, _, _, rfl, _, rfl⟩
            simp
          · rintro d ⟨l, rfl, _, _, rfl, ⟨a, rfl, ha⟩, _, _, rfl, ⟨b, rfl, hb⟩, _, _, rfl, rfl, rfl⟩
            exact ⟨a, b, rfl, ha, hb⟩
        · refine sdx_set (R := fun d => ∃ a b n, d = il (lessN [a, b, side] n) ∧ Sml a ∧ Sml b ∧ (n = 1 ∨ n = -1 ∨ n = 2 ∨ n = 3)) (ex_call (xa_cons (ex_lst (xa_cons (ex_small (i := 0) hm rfl) (xa_cons (ex_small (i := 0) hm rfl) (xa_cons (Ra := (· = .int side)) (ex_of (ev_var rfl) rfl) xa_nil))) ?_) (xa_cons (ex_pick (i := 0) (l := [1, -1, 2, 3]) hm rfl (EvO.dd (eo_lst (ea_cons ev_int (ea_cons (ev_neg ev_int) (ea_cons ev_int (ea_cons ev_int ea_nil)))) (by simp))) (by simp) (by simp)) xa_nil)) ?_) fun d ⟨a, b, n, e, ha, hb, hn⟩ => ⟨lessN [a, b, side] n, .no, by rw [e] <;> rfl, .inr (.inl ⟨a, b, n, rfl, ha, hb, hn⟩)⟩
          · rintro l ⟨_, _, rfl, _, _, _, rfl, _, _, _, rfl, _, rfl⟩
            simp
          · rintro dl ⟨_, _, rfl, ⟨l, rfl, _, _, rfl, ⟨a, rfl, ha⟩, _, _, rfl, ⟨b, rfl, hb⟩, _, _, rfl, rfl, rfl⟩, _, _, rfl, ⟨n, rfl, hn⟩, rfl⟩
            refine ⟨il (lessN [a, b, side] n), ⟨a, b, n, rfl, ha, hb, by simp at hn; omega⟩, [a, b, side], n, rfl, ⟨by simp, sm_small fun x hx => ?_, by simp⟩, rfl⟩
            unfold Sml at ha hb
            simp at hx
            omega
        · refine sdx_set (R := fun d => ∃ l : List Int, d = il (l ++ [side * side]) ∧ l.length = 6 ∧ ∀ x ∈ l, Sml x) (ex_op (Ra := fun d => ∃ l : List Dat, d = .lst l ∧ l.length = 6 ∧ ∀ (i : Nat) (x : Dat), l[i]? = some x → ∃ j, x = .int j ∧ Sml j) (Rb := (· = il [side * side])) (ex_lc (it_range1 (n := 6) (j := 5) (ea_cons ev_int ea_nil) (by omega)) (vs := [5]) (fun _ h => h) (fun _ d => ∃ j, d = .int j ∧ Sml j) (by decide) fun i hi => ex_small hm rfl) (ex_of (EvO.dd (eo_lst (ea_cons (ev_op (ev_var rfl) (ev_var rfl) (rv_intC (.inl (by omega)))) ea_nil) (by simp))) rfl) ?_) fun d ⟨l, e, hl, hs⟩ => ⟨l ++ [side * side], .no, by rw [e] <;> rfl, .inr (.inr ⟨l, rfl, .inl hl, hs⟩)⟩
          rintro x y ⟨l, rfl, hl, hs⟩ rfl
          obtain ⟨l', rfl, hl', hs'⟩ := ints_of hs
          refine ⟨il (l' ++ [side * side]), ⟨l', rfl, by omega, hs'⟩, fun Hb H u v Q s hu hv k => ?_⟩
          obtain ⟨p, vs, h1, h2, h3⟩ := hu
          obtain ⟨p', vs', h1', h2', h3'⟩ := hv
          refine ⟨p, p', vs, vs', h1, h1', s _ _ h2, s _ _ h2', by rw [h3.length, h3'.length]; exact sz_of (by simp; omega), fun q hq => k (.ref q) _ _ (Gr.new s hq) ⟨q, vs ++ vs', rfl, upd_same, ?_⟩⟩
          rw [List.map_append]
          exact (IsL.mono (Ex.new (fresh_back s hq)) _ h3).append (IsL.mono (Ex.new (fresh_back s hq)) _ h3')
        · refine sdx_set (R := fun d => ∃ l : List Int, d = il (l ++ [side * side]) ∧ l.length = 4 ∧ ∀ x ∈ l, Sml x) (ex_op (Ra := fun d => ∃ l : List Dat, d = .lst l ∧ l.length = 4 ∧ ∀ (i : Nat) (x : Dat), l[i]? = some x → ∃ j, x = .int j ∧ Sml j) (Rb := (· = il [side * side])) (ex_lc (it_range1 (n := 4) (j := 5) (ea_cons ev_int ea_nil) (by omega)) (vs := [5]) (fun _ h => h) (fun _ d => ∃ j, d = .int j ∧ Sml j) (by decide) fun i hi => ex_small hm rfl) (ex_of (EvO.dd (eo_lst (ea_cons (ev_op (ev_var rfl) (ev_var rfl) (rv_intC (.inl (by omega)))) ea_nil) (by simp))) rfl) ?_) fun d ⟨l, e, hl, hs⟩ => ⟨l ++ [side * side], .no, by rw [e] <;> rfl, .inr (.inr ⟨l, rfl, .inr hl, hs⟩)⟩
          rintro x y ⟨l, rfl, hl, hs⟩ rfl
          obtain ⟨l', rfl, hl', hs'⟩ := ints_of hs
          refine ⟨il (l' ++ [side * side]), ⟨l', rfl, by omega, hs'⟩, fun Hb H u v Q s hu hv k => ?_⟩
          obtain ⟨p, vs, h1, h2, h3⟩ := hu
          obtain ⟨p', vs', h1', h2', h3'⟩ := hv
          refine ⟨p, p', vs, vs', h1, h1', s _ _ h2, s _ _ h2', by rw [h3.length, h3'.length]; exact sz_of (by simp; omega), fun q hq => k (.ref q) _ _ (Gr.new s hq) ⟨q, vs ++ vs', rfl, upd_same, ?_⟩⟩
          rw [List.map_append]
          exact (IsL.mono (Ex.new (fresh_back s hq)) _ h3).append (IsL.mono (Ex.new (fresh_back s hq)) _ h3')
      · rintro d ⟨nums, sa, rfl, hw⟩
        have hl : nums.length ≤ 1000 := by
          rcases hw with ⟨a, b, rfl, _⟩ | ⟨a, b, n, rfl, _⟩ | ⟨l, rfl, hl, _⟩
          · simp
          · unfold lessN; rw [List.length_cons, List.length_drop, rawMul_len]; simp
          · simp; omega
        refine sd_then (sd_set (d := rnD nums side bottom) (ev_tup (ea_cons (ev_var rfl) (ea_cons (ev_var rfl) (ea_cons (ev_var rfl) ea_nil))) (by simp)) rfl) ?_
        refine sd_ret (d := if (keptN nums side bottom 2 5).length = 2 then rnD nums side bottom else rnD [1, 1, 0, 0, 1] 1 1) (ev_ifC (c := (keptN nums side bottom 2 5).length = 2) ((et_test (ev_op (ev_len (ev_call (ea_cons (ev_var rfl) (ea_cons ev_int (ea_cons ev_int ea_nil))) ⟨nums, side, bottom, 12, 2, 5, rfl, ⟨.inr (.inl ⟨rfl, rfl⟩), hl⟩, rfl⟩)) ev_int rv_eq)).to (decide_eq_decide.mpr (by rw [List.length_map]; omega))) (fun c => ?_) (fun c => ?_)) ?_
        · rw [if_pos c]; exact ev_var rfl
        · rw [if_neg c]
          exact ev_tup (ea_cons (EvO.dd (eo_lst (ea_cons ev_int (ea_cons ev_int (ea_cons ev_int (ea_cons ev_int (ea_cons ev_int ea_nil))))) (by simp))) (ea_cons ev_int (ea_cons ev_int ea_nil))) (by simp)
        · split
          · rename_i c
            exact ⟨nums, side, bottom, rfl, ⟨hs, hb, hw, c⟩⟩
          · exact ⟨_, _, _, rfl, fall_ok⟩

end RR
/-! ### RW14 -/
namespace RR
open PySem PySem.Spec PyProof.Rows L2 Evl

theorem DrawnOk.size {nums : List Int} {side bottom : Int} (h : DrawnOk nums side bottom) : nums.length ≤ 7 ∧ 0 < bottom * bottom ∧ bottom * bottom ≤ 9 := by
  refine ⟨?_, ?_⟩
  · rcases h.way with ⟨a, b, rfl, _⟩ | ⟨a, b, n, rfl, _⟩ | ⟨l, rfl, hl, _⟩
    · simp
    · unfold lessN; rw [List.length_cons, List.length_drop, rawMul_len]; simp
    · simp; omega
  · rcases h.bb with q | q | q <;> subst q <;> decide

theorem sc_law_passed : FnScope ["_law_pot_here", "_law_root_now", "_law_numbers", "_law_side", "_law_bottom", "_law_found", "_law_number", "_law_one"] ["_law_pot_here", "_law_root_now"] (defScope s_law_passed) := ⟨rfl, rfl, rfl, by decide +kernel, rfl, by decide +kernel, by decide +kernel⟩

theorem ok_law_passed {P : Program} {w : World} {K : PySem.W.Frag} {mg : Str → Option Value} {base : Heap} (T : Txt K mg) (c_mk_Ratio : MkC P w K mg base 2 "Ratio" (spW K "Ratio" pRInit) []) (c_law_draw : Cal P w K mg base 1 "_law_draw" (spP K cDraw rDraw)) (c_Ratio_is_whole : Fok P w K mg base 1 (d_Ratio_is_whole.adr K) (spD K pIsWhole)) (c_Ratio_top : Fok P w K mg base 1 (d_Ratio_top.adr K) (spD K pTop)) : Cal P w K mg base (3 + 1) "_law_passed" (spP K cPassed rPassed) := by
  refine ⟨?_, T.g_law_passed, (T.d_law_passed).elim fun _ F => F.kp⟩
  refine fn_p (d := d_law_passed) (k := 3) (T.d_law_passed) sc_law_passed (fun _ _ _ _ _ _ us hl => match us, hl with | [_, _], _ => rfl) ?_ ?_
  · rintro dl ⟨_, _, _, rfl, _⟩; rfl
  · intro cdv A outer s H E hr
    refine ⟨_, (pss_cons (ps_asg (pv 1) (pg_tup rfl (pgs_cons (pg_name (i := 2) sc_law_passed.nd rfl (.inl rfl)) (pgs_cons (pg_name (i := 3) sc_law_passed.nd rfl (.inl rfl)) (pgs_cons (pg_name (i := 4) sc_law_passed.nd rfl (.inr rfl)) pgs_nil)))))
      (pss_cons (ps_setLc (i := 5) (own := [("_law_number", 6)]) (g := (gName 6)) (tt := tYes) (te := (tMake (He.ga K "Ratio") (spW K "Ratio" pRInit) [] E0 (tCons (tVar 6) (tCons (tOp (rI CMul fun i j => .int (i * j)) (tVar 4) (tVar 4)) tNil)))) rfl sc_law_passed.nd rfl rfl (sw_true rfl rfl rfl (by decide +kernel)) (pi_list (pv 2)) (blkOk_by (own := [("_law_number", 6)]) (N := ["_law_pot_here", "_law_root_now", "_law_numbers", "_law_side", "_law_bottom", "_law_found", "_law_number", "_law_one"]) (sc := defScope s_law_passed) (by decide +kernel)) (fun _ _ _ _ _ => (pg_name (i := 6) sc_law_passed.nd rfl (Or.inl rfl))) (fun _ _ _ _ _ => pts_nil) (fun _ _ _ _ _ => (pe_mkC (c_mk_Ratio.mono (by decide)) hr (by rfl) (pa_cons (pv 6) (pa_cons (pe_op op_mul (pv 4) (pv 4)) pa_nil)))))
      (pss_one (ps_ret (pe_lc (own := [("_law_one", 7)]) (g := (gName 7)) (tt := tYes) (te := (tIf (tAnd (tB (tProp (He.ga K "Ratio") (spD K pIsWhole) [] E0 (tVar 7))) (tTest (tOp rEq (tCf (spP K cDraw rDraw) (tCons (tVar 0) (tCons (tC (.int 2)) tNil))) (tC (.int 0))))) (tProp (He.ga K "Ratio") (spD K pTop) [] E0 (tVar 7)) (tVar 7))) rfl sc_law_passed.nd (pi_list (pv 5)) (blkOk_by (own := [("_law_one", 7)]) (N := ["_law_pot_here", "_law_root_now", "_law_numbers", "_law_side", "_law_bottom", "_law_found", "_law_number", "_law_one"]) (sc := defScope s_law_passed) (by decide +kernel)) (fun _ _ _ _ _ => (pg_name (i := 7) sc_law_passed.nd rfl (Or.inl rfl))) (fun _ _ _ _ _ => pts_nil) (fun _ _ _ _ _ => (pe_ifExp (PW.pt (pw_and (pt_val (pe_prC (pv 7) T.cls_Ratio T.xp_Ratio_is_whole (c_Ratio_is_whole.mono (by decide)) hr)) (pw_and1 (pt_cmpR op_eq (pe_cf (c_law_draw.mono (by decide)) hr (by rfl) (pa_cons (pv 0) (pa_cons pe_int pa_nil))) pe_int (nomark _))))) (pe_prC (pv 7) T.cls_Ratio T.xp_Ratio_top (c_Ratio_top.mono (by decide)) hr) (pv 7)))))))), ?_⟩
    rintro m dl hm ⟨nums, side, bottom, rfl, hd⟩
    obtain ⟨hl, hb, hb9⟩ := hd.size
    refine sd_then (sd_unp (is := [2, 3, 4]) (dl := [il nums, .int side, .int bottom]) (ev_var rfl) rfl rfl rfl) ?_
    have b3 : -10 < bottom ∧ bottom < 10 := by have := hd.bb; omega
    refine sd_then (sd_set (d := rl (nums.map fun n => rN n (bottom * bottom))) ((EvO.dd (eo_mapG (f := Dat.int) (g := fun n => ratD (rN n (bottom * bottom))) (ev_var rfl) (by omega) fun n _ => ev_ratio (ea_cons (ev_var rfl) (ea_cons (ev_op (ev_var rfl) (ev_var rfl) (rv_intC (.inl (by omega)))) ea_nil)) (by omega) (Bt.mono (n := 10) (by show (bottom * bottom).natAbs < 2 ^ 10; omega) (by decide)))).to ?_) rfl) ?_
    · rw [rl_eq, List.map_map] <;> rfl
    refine sdx_ret (R := fun d => ∃ l, d = .lst l ∧ l.length = nums.length ∧ ∀ (i : Nat) (x : Dat), l[i]? = some x → ∃ n, nums[i]? = some n ∧ Handed (rN n (bottom * bottom)) x) (EvX.weak (ex_lc (it_list (j := 7) (ev_var rfl)) (vs := [7]) (fun _ h => h) (fun i x => ∃ n, nums[i]? = some n ∧ Handed (rN n (bottom * bottom)) x) (by simp only [List.length_map]; omega) fun i hi => ?_) fun d ⟨l, e, h1, h2⟩ => ⟨l, e, by simpa using h1, h2⟩) ?_
    · simp only [List.length_map] at hi
      simp only [List.getElem?_map, List.getElem?_eq_getElem hi, Option.map_some]
      generalize er : rN nums[i] (bottom * bottom) = r
      have wh : ∀ ds2 : Ds, ds2[7]? = some (.dat (.rat r.1 r.2)) → EvT m K (tB (tProp (He.ga K "Ratio") (spD K pIsWhole) [] E0 (tVar 7))) ds2 (decide (r.2 = 1)) := fun ds2 q => et_B (ev_pr (ev_var q) sh_ratP ⟨r.1, r.2, rfl, trivial, rfl⟩)
      by_cases c : r.2 = 1
      · refine ex_ifX (xt_andT ((wh _ rfl).yes (decide_eq_true c)) (xt_test (ex_op (ex_draw (i := 0) hm rfl (by decide)) (ex_of ev_int rfl) fun x y ⟨j, e, _⟩ e2 => by subst e; subst e2; exact ⟨_, ⟨_, rfl⟩, rv_eq⟩))) (ex_of (ev_pr (ev_var rfl) sh_ratP ⟨r.1, r.2, rfl, trivial, rfl⟩) ⟨nums[i], rfl, by rw [er]; exact .inr ⟨c, rfl⟩⟩) (ex_of (ev_var rfl) ⟨nums[i], rfl, by rw [er]; exact .inl rfl⟩)
      · exact ex_if (b := false) (et_andF ((wh _ rfl).nay (decide_eq_false c))) (fun q => by cases q) fun _ => ex_of (ev_var rfl) ⟨nums[i], rfl, by rw [er]; exact .inl rfl⟩
    · rintro d ⟨l, rfl, h1, h2⟩
      refine ⟨nums, side, bottom, l, rfl, rfl, h1, fun i x n e1 e2 => ?_⟩
      obtain ⟨n', e3, h⟩ := h2 i x e1
      rw [e2] at e3
      cases Option.some.inj e3
      exact h

end RR
/-! ### RCalc12 -/
/-! The calculus: defs that ask for repr of a container (no repr may be under way around them). -/
namespace RR
open PySem PySem.Spec PyProof.Rows L2 Evl
structure RoomG (k : Nat) (A : Around) : Prop where
  r : Room k A
  g : A.guards = some []
theorem RoomG.mono {j k : Nat} {A : Around} (h : RoomG k A) (q : j ≤ k) : RoomG j A := ⟨h.r.mono q, h.g⟩
/-- the call's promise, no repr under way -/
def FnGd (P : Program) (w : World) (K : PySem.W.Frag) (mg : Str → Option Value) (base : Heap) (k : Nat) (f : Addr) (sp : Sp) : Prop :=
  ∀ (A : Around) (out : List Env) (st : Shared) (H : Hp) (us : List Value) (vs : List V) (Q : VK) (E : XK), RoomG k A → Env0 P w K mg base A out st H → Vals vs us → sp vs H Q E →
    codeAny (model P w) A (.call (.ref f) ⟨us, []⟩) (CR CX0 out P w H st Q E) st
section
variable {P : Program} {w : World} {K : PySem.W.Frag} {mg : Str → Option Value} {base : Heap}
theorem FnGd.mono {j k : Nat} {f : Addr} {sp : Sp} (F : FnGd P w K mg base j f sp) (h : j ≤ k) : FnGd P w K mg base k f sp := fun A out st H us vs Q E r => F A out st H us vs Q E (r.mono h)
theorem fng_of {k : Nat} {f : Addr} {x qual : Str} {params : Arguments} {body : List Stmt} {sc : Scope} {fd : FuncData} {N ps : List Str} {sp : Sp} (F : FunD K x qual params body sc [] [] f fd) (S : FnScope N ps sc)
    (hbd : ∀ (kV doc pm : Value) (an : Option Addr) (cdv ct : Value) (us : List Value), us.length = ps.length → bindArgs (PySem.W.fnOf x qual params body sc .none kV doc pm an cdv ct) ⟨us, []⟩ = pure (ps.zip us))
    (hlen : ∀ vs H Q E, sp vs H Q E → vs.length = ps.length)
    (bd : ∀ (cdv : Value) (A : Around) (out : List Env) (st : Shared) (H : Hp) (vs : List V) (Q : VK) (E : XK), RoomG k (A.deeper (envOfC qual sc st.heap.objs.size f cdv)) → sp vs H Q E →
      ∃ t, PSs (cxOf CX0 P w K mg base N qual sc f cdv A out st H E) body t ∧ t { nx := fun _ H' => Q .non H', rt := Q } (start N vs) H) : FnGd P w K mg base (k + 1) f sp := by
  intro A out st H us vs Q E hr en rv hsp
  have bs := F.bindsA hbd
  obtain ⟨oc, od, dV, kV, doc, pm, an, cdv, ct, osl, e, look, hcode, _, _⟩ := F.ex
  have nvs := hlen _ _ _ _ hsp
  have hK : K.In st.heap := en.mod.kin.keeps fun b o q => (en.bs b o q).1
  have hL : st.heap.NoLimit := en.mod.nolimit.keeps fun b o q => (en.bs b o q).1
  have kinds : ∀ y ∈ ps.zip us, sc.names.lookup y.1 = some .local ∨ (sc.names.lookup y.1 = some .cell ∧ ((cellsFrom (st.heap.objs.size + 1) sc.names []).lookup y.1).isSome = true) := fun ⟨n, v⟩ hy =>
    (S.par n (List.of_mem_zip hy).1).imp id fun q => ⟨q, PySem.W.cellsFrom_some _ _ _ (.inl q)⟩
  have bb := bs st us (by rw [← rv.length]; exact nvs)
  subst e
  refine codeAny_call_function hr.r.depth (hK _ _ look) rfl S.co S.gen rfl (PySem.W.codeRec_of hK hcode) (bb _ _ _ _ (wpAny_newFunctionEnv_cells S.kind kinds fun env he s1 x1 => ?_))
  subst he
  refine ⟨hL.keeps x1.toInCall.keep, codeAny_func ?_⟩
  obtain ⟨t, ht, hq⟩ := bd cdv A out st H vs Q E ⟨hr.r.deeper _, hr.g⟩ hsp
  have J0 : Inv (cxOf CX0 P w K mg base N qual sc f cdv A out st H E) [] (start N vs) H s1 := inv_start S hr.r.hd en nvs rv x1
  have done : ∀ {σ' : L2.St} {H' : Hp} {v : V} {u : Value} {s' : Shared}, Inv (cxOf CX0 P w K mg base N qual sc f cdv A out st H E) [] σ' H' s' → RelV v u → Q v H' → CE out P w H st Q u s' := fun {σ' H' v u s'} J r q => ⟨v, H', J.os, J.bare, J.base, J.hok, r, q⟩
  refine wpAny_mono (ht.run [] s1 (start N vs) H _ J0 hq) (fun fl s' hs => ?_) fun _ _ z => z
  match fl, hs with
  | .ret u, ⟨v, σ', H', J, r, q⟩ => exact done J r q
  | .next, ⟨σ', H', J, q⟩ => exact done (v := V.non) (u := Value.none) J rfl q
  | .brk, ⟨_, _, _, q⟩ => exact q.elim
  | .cont, ⟨_, _, _, q⟩ => exact q.elim
/-- .. of data -/
theorem fng_d {d : Df} {N ps : List Str} {k : Nat} {Pm : List Dat → Dat → Prop} (F : ∃ fd, FunD K d.name d.qual (defArgs d.st) (defBody d.st) (defScope d.st) [] [] (d.adr K) fd) (S : FnScope N ps (defScope d.st))
    (hb : ∀ (kV doc pm : Value) (an : Option Addr) (cdv ct : Value) (us : List Value), us.length = ps.length → bindArgs (PySem.W.fnOf d.name d.qual (defArgs d.st) (defBody d.st) (defScope d.st) .none kV doc pm an cdv ct) ⟨us, []⟩ = pure (ps.zip us))
    (hl : ∀ dl r, Pm dl r → dl.length = ps.length)
    (body : ∀ (cdv : Value) (A : Around) (outer : List Env) (s : Shared) (H : Hp) (E : XK), RoomG k (A.deeper (envOfC d.qual (defScope d.st) s.heap.objs.size (d.adr K) cdv)) → ∃ t, PSs (cxOf CX0 P w K mg base N d.qual (defScope d.st) (d.adr K) cdv A outer s H E).nox (defBody d.st) t ∧
      ∀ m dl r, Pm dl r → SD m K t (ds0 N dl) (fun _ => r = .non) (· = r)) : FnGd P w K mg base (k + 1) (d.adr K) (spD K Pm) := by
  obtain ⟨fd, F⟩ := F
  exact fng_of F S hb (fun vs H Q E ⟨Hb, dl, r, s, hv, p, _⟩ => by rw [hv.length]; exact hl dl r p)
    fun cdv A outer s H vs Q E hr ⟨Hb, dl, r, e, hv, p, q⟩ => let ⟨t, body, run⟩ := body cdv A outer s H E hr; ⟨t, body.nox,
      run (md0 H) dl r p Hb H Hb _ H _ ⟨.refl e, sl0 e hv, fun _ h => h⟩ (fun ds' Hb' σ' H' n _ S' => q .non Hb' H' (gr0 S'.gr) (by rw [n]; exact rfl)) fun d' v Hb' H' n g h => q v Hb' H' (gr0 g) (n ▸ h)⟩
/-- .. of the pot -/
theorem fng_p {d : Df} {N ps : List Str} {k : Nat} {C : List Dat → Prop} {R : List Dat → Dat → Prop} (F : ∃ fd, FunD K d.name d.qual (defArgs d.st) (defBody d.st) (defScope d.st) [] [] (d.adr K) fd) (S : FnScope N ps (defScope d.st))
    (hb : ∀ (kV doc pm : Value) (an : Option Addr) (cdv ct : Value) (us : List Value), us.length = ps.length → bindArgs (PySem.W.fnOf d.name d.qual (defArgs d.st) (defBody d.st) (defScope d.st) .none kV doc pm an cdv ct) ⟨us, []⟩ = pure (ps.zip us))
    (hl : ∀ dl, C dl → dl.length + 1 = ps.length)
    (body : ∀ (cdv : Value) (A : Around) (outer : List Env) (s : Shared) (H : Hp) (E : XK), RoomG k (A.deeper (envOfC d.qual (defScope d.st) s.heap.objs.size (d.adr K) cdv)) → ∃ t, PSs (cxOf CX0 P w K mg base N d.qual (defScope d.st) (d.adr K) cdv A outer s H E).nox (defBody d.st) t ∧
      ∀ m dl, PotM m → C dl → SD m K t (dsP N dl) (fun _ => False) (R dl)) : FnGd P w K mg base (k + 1) (d.adr K) (spP K C R) := by
  obtain ⟨fd, F⟩ := F
  exact fng_of F S hb (fun vs H Q E ⟨Hb, a, args, dl, e, _, _, hv, _, c, _⟩ => by rw [e, List.length_cons, hv.length]; exact hl dl c)
    fun cdv A outer s H vs Q E hr ⟨Hb, a, args, dl, e, hn, ho, hv, sx, c, q⟩ => by
      obtain ⟨t, bd, run⟩ := body cdv A outer s H E hr
      refine ⟨t, bd.nox, ?_⟩
      rw [e]
      exact run (mdP H a) dl (potM H a) c Hb H Hb _ H _ ⟨.refl sx, slP sx hn ho hv, fun _ h => h⟩ (fun ds' Hb' σ' H' n _ _ => n.elim) fun d' v Hb' H' rd g h => q d' v Hb' H' rd g h
/-- such a def, called by its name -/
structure CalG (P : Program) (w : World) (K : PySem.W.Frag) (mg : Str → Option Value) (base : Heap) (k : Nat) (x : Str) (sp : Sp) : Prop where
  run : FnGd P w K mg base k (He.ga K x) sp
  gl : mg x = some (.ref (He.ga K x))
  kp : PySem.W.keepIn K (.ref (He.ga K x)) = true
theorem CalG.mono {j k : Nat} {x : Str} {sp : Sp} (c : CalG P w K mg base j x sp) (h : j ≤ k) : CalG P w K mg base k x sp := ⟨c.run.mono h, c.gl, c.kp⟩
end
section
variable {X : Cx}
theorem run_g {pins : List (Addr × Obj)} {σ : L2.St} {H : Hp} {s : Shared} {k : Nat} {f : Addr} {sp : Sp} {Q : VK} {us : List Value} {vs : List V} (F : FnGd X.prog X.w X.K X.mg X.base k f sp) (hr : RoomG k X.A) (I : Inv X pins σ H s) (r : Vals vs us) (h : sp vs H Q E0) :
    wpAny (model X.prog X.w) X.A (call (.ref f) us) (EP X pins σ Q) X.xe s :=
  wpAny_call (codeAny_mono (F X.A X.stack s H us vs Q E0 hr I.env0 r h) fun r s' hq => match r, hq with
    | .error e, z => pass0 pins σ H s e s' I z
    | .ok (.ret u), z => I.after z
    | .ok .next, z => z.elim
    | .ok .brk, z => z.elim
    | .ok .cont, z => z.elim)
theorem pe_cg {k : Nat} {x : Str} {sp : Sp} {p pos : Pos} {e : Expr} {es : List Expr} {t : TA} (c : CalG X.prog X.w X.K X.mg X.base k x sp) (hr : RoomG k X.A) (hg : Gl X x) (ha : PA X (e :: es) t)
    (hdb : (x == ("__debug__" : Str)) = false := by decide) (he : starEach (e :: es) X.env = (false, eval e X.env) :: starEach es X.env := by rfl) (hpl : (backTo pos (starEach es X.env)).any (·.1) = false := by rfl) :
    PE X (.Call (.Name x p) (e :: es) [] pos) (tCf sp t) := by
  refine ⟨fun pins s σ H Q I h => ?_⟩
  refine wpAny_Call_Name_kw (ld_glob I hg c.gl ?_ hdb)
  exact PySem.W.callWith_K (h₀ := X.base) I.ok.mod.kin c.kp (thn (ha.run pos pins s σ H _ I h) fun us s1 ⟨vs, H1, I1, r, q⟩ => ⟨I1.kIn, run_g c.run hr I1 r q⟩) he hpl
/-! ### repr of a pair of lists of ints -/
def pairP (a b : List Int) : PyData := .tuple [.list (a.map PyData.int), .list (b.map PyData.int)]
def Few (l : List Int) : Prop := l.length ≤ 1000 ∧ ∀ x ∈ l, 0 ≤ x ∧ x < 13
def rReprP (K : PySem.W.Frag) : List V → Hp → VK → Prop := fun vs H Q => ∃ p a b, vs = [.ref p] ∧ Dp K H (.ref p) (pairP a b) ∧ Few a ∧ Few b ∧ Q (.str (pairP a b).shown) H
theorem shown_int {x : Int} (h : 0 ≤ x ∧ x < 13) : (PyData.shown (.int x)).length ≤ 2 := by
  obtain ⟨n, rfl⟩ : ∃ n : Nat, x = (n : Int) := ⟨x.toNat, by omega⟩
  have t : ∀ n : Fin 13, (PyData.shown (.int ((n.val : Nat) : Int))).length ≤ 2 := by decide +kernel
  exact t ⟨n, by omega⟩
theorem showable_ints : ∀ {l : List Int}, (∀ x ∈ l, 0 ≤ x ∧ x < 13) → PyData.showableAll (l.map PyData.int) = true
  | [], _ => rfl
  | x :: l, h => by
    have h1 := h x List.mem_cons_self
    rw [List.map_cons, PyData.showableAll, showable_ints fun y hy => h y (List.mem_cons_of_mem _ hy), Bool.and_true, PyData.showable]
    refine decide_eq_true ?_
    have : x.natAbs ≤ 13 := by omega
    exact Nat.lt_of_le_of_lt (log2_mono this) (by decide)
theorem noDict_ints : ∀ l : List Int, PyData.hasDictAll (l.map PyData.int) = false
  | [] => rfl
  | x :: l => by rw [List.map_cons, PyData.hasDictAll, noDict_ints l] <;> rfl
theorem textFrom_le : ∀ (ts : List Str) (k : Nat) (acc : Str), (∀ t ∈ ts, t.length ≤ 2) → (PySem.textFrom k acc ts).length ≤ acc.length + 4 * ts.length
  | [], k, acc, _ => Nat.le_add_right _ _
  | t :: r, k, acc, h => by
    have ih := textFrom_le r (k + 1) (acc ++ (if k > 0 then ", " else "" : String) ++ t) fun u hu => h u (List.mem_cons_of_mem _ hu)
    have ht := h t List.mem_cons_self
    rw [PySem.textFrom]
    rw [Str.length_append, Str.length_append] at ih
    have : (Str.ofString (if k > 0 then ", " else "")).length ≤ 2 := by split <;> decide
    rw [List.length_cons]
    omega
theorem shownAll_le : ∀ {l : List Int}, (∀ x ∈ l, 0 ≤ x ∧ x < 13) → (∀ t ∈ PyData.shownAll (l.map PyData.int), t.length ≤ 2) ∧ (PyData.shownAll (l.map PyData.int)).length = l.length
  | [], _ => ⟨fun t h => by simp [PyData.shownAll] at h, rfl⟩
  | x :: l, h => by
    obtain ⟨a, b⟩ := shownAll_le (l := l) fun y hy => h y (List.mem_cons_of_mem _ hy)
    rw [List.map_cons, PyData.shownAll]
    refine ⟨fun t ht => ?_, by rw [List.length_cons, b, List.length_cons]⟩
    rcases List.mem_cons.mp ht with q | q
    · rw [q]; exact shown_int (h x List.mem_cons_self)
    · exact a t q
theorem listText_le {l : List Int} (h : Few l) : (PyData.shown (.list (l.map PyData.int))).length ≤ 4010 := by
  obtain ⟨a, b⟩ := shownAll_le h.2
  rw [PyData.shown, PySem.listText, Str.length_append]
  have := textFrom_le _ 0 "[" a
  rw [b] at this
  have h1 : (Str.ofString "[").length = 1 := by decide
  have h2 : (Str.ofString "]").length = 1 := by decide
  have := h.1
  omega
theorem pairText_le {a b : List Int} (ha : Few a) (hb : Few b) : (pairP a b).shown.length ≤ 9000 := by
  have h1 := listText_le ha
  have h2 := listText_le hb
  unfold pairP
  rw [PyData.shown, PyData.shownAll, PyData.shownAll, PyData.shownAll, PySem.tupleText]
  have j := PySem.join_length_add [PyData.shown (.list (a.map PyData.int)), PyData.shown (.list (b.map PyData.int))] (by simp)
  rw [PySem.piled_cons, PySem.piled_cons, PySem.piled_nil] at j
  rw [Str.length_append, Str.length_append]
  have p1 : (Str.ofString "(").length = 1 := by decide
  have p2 : (Str.ofString (if ([PyData.shown (.list (a.map PyData.int)), PyData.shown (.list (b.map PyData.int))].length == 1) = true then ",)" else ")")).length ≤ 2 := by split <;> decide
  omega
theorem cr_repr (hr : ∃ k, RoomG k X.A) : CallR X (.builtin "repr") (rReprP X.K) := by
  obtain ⟨k, hr⟩ := hr
  intro pins s σ H xs us Q I r h
  obtain ⟨p, a, b, rfl, hd, ha, hb, q⟩ := h
  obtain ⟨u, rfl, ru⟩ := r.one
  cases (show u = Value.ref p from ru)
  obtain ⟨as, rd⟩ := Dp.reads I (pairP a b) (.ref p) (.ref p) hd rfl
  have un := hr.r.un
  have dp : (pairP a b).depth ≤ 3 := by
    have d1 := depth_ints a
    have d2 := depth_ints b
    simp only [pairP, PyData.depth, PyData.depthAll]
    omega
  refine PySem.repr_of_reads' (h₀ := s.heap) rd (by simp only [pairP, PyData.showable, PyData.showableAll, showable_ints ha.2, showable_ints hb.2, Bool.and_self]) (PySem.PyData.noDict_hsm (by simp only [pairP, PyData.hasDict, PyData.hasDictAll, noDict_ints, Bool.or_self])) hr.g (by omega) (fun _ _ e => e) (fun h' u tk hk => ⟨.str (pairP a b).shown, H, I.kept hk, ⟨u, rfl⟩, q⟩) ?_
  have := pairText_le ha hb
  have z : sizeLine = 16777216 := by decide
  omega
end
section
variable {m : Md} {K : PySem.W.Frag} {ds : Ds} {te : TE}
theorem ev_repr {a b : List Int} (h : EvD m K te ds (.tup [il a, il b])) (ha : Few a) (hb : Few b) : EvD m K (tCB (rReprP K) (tCons te tNil)) ds (.str (pairP a b).shown) := fun Hb H σ Q S k =>
  h Hb H σ _ S fun v Hb1 H1 g hv => by
    obtain ⟨p, vs, e, h2, h3⟩ := id hv
    subst e
    exact ⟨p, a, b, rfl, pair_dp g.s hv, ha, hb, k _ Hb1 H1 g rfl⟩
end
end RR
/-! ### RW15 -/
namespace RR
open PySem PySem.Spec PyProof.Rows L2 Evl

theorem few_of {p : Int} {l : List Int} (hp : Pr p) (h : Red p l) (hl : l.length ≤ 400) : Few l := ⟨by omega, fun x hx => by
  have := h.1 x hx
  have := hp.pos
  omega⟩
theorem ev_reprI {m : Md} {K : PySem.W.Frag} {ds : Ds} {te : TE} {i : Int} (h : EvD m K te ds (.int i)) (hi : i.natAbs.log2 < 1920) : EvD m K (tCB (fun xs H Q => ∃ i, xs = [.int i] ∧ i.natAbs.log2 < 1920 ∧ Q (.str (toString i)) H) (tCons te tNil)) ds (.str (toString i)) := fun Hb H σ Q S k =>
  h Hb H σ _ S fun v Hb1 H1 g hv => ⟨i, by rw [show v = .int i from hv], hi, k _ Hb1 H1 g rfl⟩
theorem rv_isB {m : Md} {K : PySem.W.Frag} {a b : Bool} : RvD m K rIsB (.bl a) (.bl b) (.bl (decide (a = b))) := fun Hb H u v Q s hu hv k => by
  rw [show u = .bl a from hu, show v = .bl b from hv]
  exact ⟨a, b, rfl, rfl, k _ Hb H (.refl s) (by cases a <;> cases b <;> rfl)⟩
theorem sh_root {K : PySem.W.Frag} {a b c : Dat} : ∀ Hb v, Is K Hb (.root a b c) v → ∃ p dx fs, v = .ref p ∧ Hb p = some (.ins (He.ga K "Root") dx fs) := fun Hb v ⟨p, dx, x, y, z, h1, h2, _⟩ => ⟨p, dx, _, h1, h2⟩
theorem sh_rootM {K : PySem.W.Frag} {a b c : Dat} : ∀ Hb v, Is K Hb (.root a b c) v → ∃ p dx fs, v = .ref p ∧ Hb p = some (.ins (He.ga K "Root") dx fs) ∧ fs.lookup ("nearest" : Str) = none := fun Hb v ⟨p, dx, x, y, z, h1, h2, _⟩ => ⟨p, dx, _, h1, h2, rfl⟩

theorem sc_law_prime_right : FnScope ["_law_root", "_law_root_now", "_law_prime", "_law_due", "_law_whole", "_law_told", "_law_many", "_law_half", "_law_nearest_here", "_law_left"] ["_law_root", "_law_root_now", "_law_prime"] (defScope s_law_prime_right) := ⟨rfl, rfl, rfl, by decide +kernel, rfl, by decide +kernel, by decide +kernel⟩
def pPrimeRight : List Dat → Dat → Prop := fun dl r => ∃ (l : List (Int × Int)) (s b : Int) (nums : List Int) (side bottom p : Int) (n : Nat), dl = [rootD l s b, rnD nums side bottom, .int p] ∧ RightOk l s b nums side bottom p n ∧ r = .bl true
theorem ok_law_prime_right {P : Program} {w : World} {K : PySem.W.Frag} {mg : Str → Option Value} {base : Heap} (T : Txt K mg) (c_law_rests : Cal P w K mg base 2 "_law_rests" (spD K pRests)) (c_law_walk : Cal P w K mg base 4 "_law_walk" (spD K pWalkL)) (c_rest_degree : Cal P w K mg base 9 "rest_degree" (spD K pRestDegree)) (c_kw_rest_unit : CalK P w K mg base 9 "rest_unit" (spD K pRestUnit)) (c_rest_unit : Cal P w K mg base 9 "rest_unit" (spD K pRestUnit)) (c_kw_rest_degree : CalK P w K mg base 9 "rest_degree" (spD K pRestDegree)) (c_Root_half : Fok P w K mg base 1 (d_Root_half.adr K) (spD K pHalf)) (c_law_norm : Cal P w K mg base 3 "_law_norm" (spD K pNormL)) (c_Root_nearest : Fok P w K mg base 1 (d_Root_nearest.adr K) (spD K pNearest)) (c_rests_of : Cal P w K mg base 6 "rests_of" (spD K pRestsOf)) (c_law_times : Cal P w K mg base 2 "_law_times" (spD K pMulL)) (c_law_plus : Cal P w K mg base 2 "_law_plus" (spD K pPlus)) (c_is_rest_unit : Cal P w K mg base 8 "is_rest_unit" (spD K pIsRestUnit)) (c_law_is_bounded : Cal P w K mg base 1 "_law_is_bounded" (spD K pBounded)) : CalG P w K mg base (9 + 1) "_law_prime_right" (spD K pPrimeRight) := by
  refine ⟨?_, T.g_law_prime_right, (T.d_law_prime_right).elim fun _ F => F.kp⟩
  refine fng_d (d := d_law_prime_right) (k := 9) (T.d_law_prime_right) sc_law_prime_right (fun _ _ _ _ _ _ us hl => match us, hl with | [_, _, _], _ => rfl) ?_ ?_
  · rintro dl r ⟨_, _, _, _, _, _, _, _, rfl, _⟩; rfl
  · intro cdv A outer s H E hr
    refine ⟨_, (pss_cons (ps_par (i := 3) (j := 4) (by rfl) sc_law_prime_right.nd rfl rfl (by decide) rfl rfl (pa_cons (pe_cf (c_law_walk.mono (by decide)) hr.r (by rfl) (pa_cons (pv 1) (pa_cons (pv 2) pa_nil))) (pa_cons (pe_cf (c_law_rests.mono (by decide)) hr.r (by rfl) (pa_cons (pv 1) (pa_cons (pv 2) pa_nil))) pa_nil)) (by rfl))
      (pss_cons (ps_par (i := 5) (j := 6) (by rfl) sc_law_prime_right.nd rfl rfl (by decide) rfl rfl (pa_cons (pe_callK0 (c_kw_rest_unit.mono (by decide)) hr.r (by rfl) (pk_cons (pv 2) (pk_cons (pv 0) pk_nil))) (pa_cons (pe_cf (c_rest_degree.mono (by decide)) hr.r (by rfl) (pa_cons (pv 0) (pa_cons (pv 2) pa_nil))) pa_nil)) (by rfl))
      (pss_cons (ps_if (PW.pt (pw_or (pt_cmpR op_ne (pe_callB (cr_repr ⟨_, hr⟩) (by rfl) T.b_repr (by decide +kernel) (pa_cons (pv 5) pa_nil)) (pe_callB (cr_repr ⟨_, hr⟩) (by rfl) T.b_repr (by decide +kernel) (pa_cons (pv 3) pa_nil)) (nomark _)) (pw_or1 (pt_cmpR op_ne (pe_callB SkE.call_repr_int (by rfl) T.b_repr (by decide +kernel) (pa_cons (pv 6) pa_nil)) (pe_callB SkE.call_repr_int (by rfl) T.b_repr (by decide +kernel) (pa_cons (pe_op op_sub (pe_callB call_len_seq (by rfl) T.b_len (by decide +kernel) (pa_cons (pe_ix ix_tup (pv 3) pe_int (fun _ _ => rfl)) pa_nil)) pe_int) pa_nil)) (nomark _)))))
        (pss_one (ps_ret pe_bl))
        pss_nil)
      (pss_cons (ps_if (PW.pt (pw_and (pt_cmpR op_lt (pe_prC (pv 0) T.cls_Root T.xp_Root_half (c_Root_half.mono (by decide)) hr.r) pe_int (nomark _)) (pw_and1 (PW.pt (pw_or (pt_cmpR op_ne (pe_callK0 (c_kw_rest_degree.mono (by decide)) hr.r (by rfl) (pk_cons (pv 2) (pk_cons (pv 0) pk_nil))) (pv 6) (nomark _)) (pw_or1 (pt_cmpR (op_neD hr.r.units) (pe_cf (c_rest_unit.mono (by decide)) hr.r (by rfl) (pa_cons (pv 0) (pa_cons (pv 2) pa_nil))) (pv 5) (nomark _))))))))
        (pss_one (ps_ret pe_bl))
        pss_nil)
      (pss_cons (ps_if (PW.pt (pw_or (pt_cmpR op_ne (pe_callB call_len_seq (by rfl) T.b_len (by decide +kernel) (pa_cons (pe_cf (c_law_norm.mono (by decide)) hr.r (by rfl) (pa_cons (pv 4) (pa_cons (pv 5) (pa_cons (pv 2) pa_nil)))) pa_nil)) pe_int (nomark _)) (pw_or1 (pt_cmpR op_ne (pe_ix ix_list (pe_ix ix_tup (pv 5) pe_int (fun _ _ => rfl)) (pe_un un_neg pe_int) (fun _ _ => rfl)) pe_int (nomark _)))))
        (pss_one (ps_ret pe_bl))
        pss_nil)
      (pss_cons (ps_set (i := 7) sc_law_prime_right.nd rfl (.inl rfl) (pe_prC (pv 0) T.cls_Root T.xp_Root_half (c_Root_half.mono (by decide)) hr.r))
      (pss_cons (ps_set (i := 8) sc_law_prime_right.nd rfl (.inl rfl) (pe_cf (c_rests_of.mono (by decide)) hr.r (by rfl) (pa_cons (pe_meC0 (pv 0) T.cls_Root T.m_Root_nearest (c_Root_nearest.mono (by decide)) hr.r) (pa_cons (pv 2) pa_nil))))
      (pss_cons (ps_set (i := 9) sc_law_prime_right.nd rfl (.inl rfl) (pe_cf (c_law_plus.mono (by decide)) hr.r (by rfl) (pa_cons (pv 4) (pa_cons (pe_cf (c_law_times.mono (by decide)) hr.r (by rfl) (pa_cons (pv 8) (pa_cons (pv 8) (pa_cons (pv 2) pa_nil)))) (pa_cons (pe_un un_neg pe_int) (pa_cons (pv 2) pa_nil))))))
      (pss_cons (ps_if (PW.pt (pw_or (pt_cmpR op_ne (pe_ix ix_list (pe_ix ix_tup (pv 5) pe_int (fun _ _ => rfl)) (pe_un un_neg pe_int) (fun _ _ => rfl)) (pe_ix ix_list (pv 8) (pe_un un_neg pe_int) (fun _ _ => rfl)) (nomark _)) (pw_or (pt_cmpR op_lt (pv 6) (pv 7) (nomark _)) (pw_or1 (pt_cmpR op_ne (pe_cmpR op_eq (pv 6) (pv 7) (nomark _)) (pe_cmpR op_eq (pe_callB call_len_seq (by rfl) T.b_len (by decide +kernel) (pa_cons (pv 9) pa_nil)) pe_int (nomark _)) (nomark _))))))
        (pss_one (ps_ret pe_bl))
        pss_nil)
      (pss_one (ps_ret (pe_and (pe_cf (c_law_is_bounded.mono (by decide)) hr.r (by rfl) (pa_cons (pv 6) (pa_cons (pv 7) (pa_cons (pv 2) pa_nil)))) (pe_one (pe_cmpR op_isBl (pe_cf (c_is_rest_unit.mono (by decide)) hr.r (by rfl) (pa_cons (pv 0) (pa_cons (pv 2) (pa_cons (pv 5) pa_nil)))) pe_bl (nomark _))))))))))))))), ?_⟩
    rintro m dl r ⟨l, s, b, nums, side, bottom, p, n, rfl, h, rfl⟩
    have hp := h.pr
    have hp2 := hp.pos
    obtain ⟨e1, e2⟩ := h.walk
    obtain ⟨l7, nr, nrl⟩ := h.good.size
    have wk : WalkOk p l (nearR l (s, b)) n := ⟨h.ch, h.keep.aw, h.aa, by omega, by omega, h.few⟩
    have chL : Chain p (restsL p nums bottom) (nearL p (restsL p nums bottom) (side * inv p bottom % p)) n := by
      have := h.ch
      rwa [e2, e1] at this
    have rl0 : 0 < (restsL p nums bottom).length := by
      rw [← e1, h.keep.full]
      have := h.good.len
      omega
    refine sd_then (sd_par (x := .tup [il (unitC p (chain p (restsM p l) (restsM p (nearR l (s, b))) n)).1, il (unitC p (chain p (restsM p l) (restsM p (nearR l (s, b))) n)).2]) (y := il (restsM p l)) (ea_cons ((ev_call (ea_cons (ev_var rfl) (ea_cons (ev_var rfl) ea_nil)) ⟨nums, side, bottom, p, n, rfl, ⟨hp, h.bot, h.sd, h.nl, rl0, chL⟩, rfl⟩).to (by rw [e2, e1])) (ea_cons ((ev_call (ea_cons (ev_var rfl) (ea_cons (ev_var rfl) ea_nil)) ⟨nums, side, bottom, p, rfl, ⟨hp, h.bot, by have := h.nl; omega⟩, rfl⟩).to (by rw [e1])) ea_nil)) rfl) ?_
    refine sd_then (sd_par (ea_cons (ev_callK (dl := [.int p, rootD l s b]) (ea_cons (ev_var rfl) (ea_cons (ev_var rfl) ea_nil)) ⟨l, _, _, p, n, rfl, ⟨h.keep, wk, h.d150⟩, rfl⟩) (ea_cons (ev_call (ea_cons (ev_var rfl) (ea_cons (ev_var rfl) ea_nil)) ⟨l, _, _, p, n, rfl, ⟨h.keep, wk⟩, rfl⟩) ea_nil)) rfl) ?_
    have rA := restsM_red hp (nearR l (s, b))
    have lA := restsM_len p (nearR l (s, b))
    have rD := restsM_red hp l
    have lD := restsM_len p l
    have near2 := h.near2
    have hd := h.deg
    have d150 := h.d150
    obtain ⟨ru1, ru2⟩ := h.red
    obtain ⟨lu1, lu2⟩ := h.len
    have hn := h.norm
    have hnP := h.normP
    obtain ⟨v2, ev2⟩ := h.last2
    obtain ⟨u1, vA, x1, eu1, eA⟩ := h.lastA
    have hh := h.half
    have hj := h.just
    have hb := h.bound
    generalize hu1 : (unitC p (chain p (restsM p l) (restsM p (nearR l (s, b))) n)).1 = U at *
    generalize hu2 : (unitC p (chain p (restsM p l) (restsM p (nearR l (s, b))) n)).2 = W at *
    generalize hdeg : degC p (restsM p l) (restsM p (nearR l (s, b))) n = dg at *
    have fU := few_of hp ru1 lu1
    have fW := few_of hp ru2 lu2
    have g0 : 0 ≤ dg := by
      have : 0 < U.length := by rw [eu1]; simp
      omega
    have gl : dg.natAbs.log2 < 1920 := by
      have : dg.natAbs ≤ 150 := by omega
      exact Nat.lt_of_le_of_lt (log2_mono this) (by decide)
    refine sd_then (sd_ifF (et_orF ((et_test (ev_op (ev_repr (ev_var rfl) fU fW) (ev_repr (ev_var rfl) fU fW) rv_neS)).nay (by simp)) ((et_test (ev_op (ev_reprI (ev_var rfl) gl) (ev_reprI ((ev_op (ev_len (ev_op (ev_var rfl) ev_int (rv_ixT at_tup2.2))) ev_int rv_int).to (d' := .int dg) (by simp only [List.length_map]; rw [hd])) gl) rv_neS)).nay (by simp))) (sd_next rfl)) ?_
    have hf : ∀ ds2 : Ds, ds2[0]? = some (.dat (rootD l s b)) → EvD m K (tProp (He.ga K "Root") (spD K pHalf) [] E0 (tVar 0)) ds2 (.int ((l.length / 2 : Nat) : Int)) := fun ds2 q => ev_pr (ev_var q) sh_root ⟨l, _, _, rfl, trivial, rfl⟩
    have un : ∀ ds2 : Ds, ds2[5]? = some (.dat (.tup [il U, il W])) → EvD m K (tOp (rIxL K) (tOp (rIxT K) (tVar 5) (tC (.int 0))) (tUn (rU fun i => .int (-i)) (tC (.int 1)))) ds2 (.int x1) := fun ds2 q => ev_op (ev_op (ev_var q) ev_int (rv_ixT at_tup2.2)) (ev_neg ev_int) (rv_ixL (d := .int x1) (by rw [eu1]; exact at_last))
    have rdg : ∀ ds2 : Ds, ds2[0]? = some (.dat (rootD l s b)) → ds2[2]? = some (.dat (.int p)) → EvD m K (tCallK (spD K pRestDegree) (fun vs zs => vs ++ zs.reverse) E0 tNil (tCons (tVar 2) (tCons (tVar 0) tNil))) ds2 (.int dg) := fun ds2 q1 q2 => ev_callK (dl := [.int p, rootD l s b]) (ea_cons (ev_var q2) (ea_cons (ev_var q1) ea_nil)) ⟨l, _, _, p, n, rfl, ⟨h.keep, wk⟩, by rw [hdeg]⟩
    have run : ∀ ds2 : Ds, ds2[0]? = some (.dat (rootD l s b)) → ds2[2]? = some (.dat (.int p)) → EvD m K (tCf (spD K pRestUnit) (tCons (tVar 0) (tCons (tVar 2) tNil))) ds2 (.tup [il U, il W]) := fun ds2 q1 q2 => ev_call (ea_cons (ev_var q1) (ea_cons (ev_var q2) ea_nil)) ⟨l, _, _, p, n, rfl, ⟨h.keep, wk, by rw [hdeg]; exact d150⟩, by rw [hu1, hu2]⟩
    refine sd_then (sd_ifF ((et_and (a := decide (((l.length / 2 : Nat) : Int) < 3)) (b := false) (et_test (ev_op (hf _ rfl) ev_int rv_bl)) fun _ => et_orF ((et_test (ev_op (rdg _ rfl rfl) (ev_var rfl) rv_ne)).nay (by simp)) ((et_test (ev_op (run _ rfl rfl) (ev_var rfl) rv_neT)).nay (by simp))).to (Bool.and_false _)) (sd_next rfl)) ?_
    refine sd_then (sd_ifF (et_orF ((et_test (ev_op (ev_len (ev_call (ea_cons (ev_var rfl) (ea_cons (ev_var rfl) (ea_cons (ev_var rfl) ea_nil))) ⟨restsM p l, U, W, p, rfl, ⟨hp, rD.1.sm hp2.2, ru1.1.sm hp2.2, ru2.1.sm hp2.2, by omega, by omega, by omega⟩, rfl⟩)) ev_int rv_ne)).nay (by simp [hn])) ((et_test (ev_op (ev_op (ev_op (ev_var rfl) ev_int (rv_ixT at_tup2.1)) (ev_neg ev_int) (rv_ixL (d := .int 1) (by rw [ev2]; exact at_last))) ev_int rv_ne)).nay (by simp))) (sd_next rfl)) ?_
    refine sd_then (sd_set (hf _ rfl) rfl) ?_
    refine sd_then (sd_set (d := il (restsM p (nearR l (s, b)))) ((ev_call (dl := [rl (nearR l (s, b)), .int p]) (ea_cons (ev_me (C := "Root") (ev_var rfl) ea_nil sh_rootM ⟨_, _, _, rfl, trivial, rfl⟩) (ea_cons (ev_var rfl) ea_nil)) ⟨nearR l (s, b), p, rfl, ⟨hp, h.aa, by omega⟩, rfl⟩).to (by rw [near2])) rfl) ?_
    have ml : (mulL p (restsM p (nearR l (s, b))) (restsM p (nearR l (s, b)))).length ≤ 100 := by
      rw [law_mul hp]
      have := mulM_len (p := p) (restsM p (nearR l (s, b))) (restsM p (nearR l (s, b)))
      omega
    refine sd_then (sd_set (ev_call (dl := [il (restsM p l), il (mulL p (restsM p (nearR l (s, b))) (restsM p (nearR l (s, b)))), .int (-1), .int p]) (ea_cons (ev_var rfl) (ea_cons (ev_call (ea_cons (ev_var rfl) (ea_cons (ev_var rfl) (ea_cons (ev_var rfl) ea_nil))) ⟨_, _, p, rfl, ⟨hp, rA.1.sm hp2.2, by omega, by omega⟩, rfl⟩) (ea_cons (ev_neg ev_int) (ea_cons (ev_var rfl) ea_nil)))) ⟨_, _, -1, p, rfl, ⟨hp, .inr rfl, by omega, by omega⟩, rfl⟩) rfl) ?_
    refine sd_then (sd_ifF (et_orF ((et_test (ev_op (un _ rfl) (ev_op (ev_var rfl) (ev_neg ev_int) (rv_ixL (d := .int x1) (by rw [eA]; exact at_last))) rv_ne)).nay (by simp)) (et_orF ((et_test (ev_op (ev_var rfl) (ev_var rfl) rv_bl)).nay (decide_eq_false (by omega))) ((et_test (ev_op (ev_op (ev_var rfl) (ev_var rfl) rv_eq) (ev_op (ev_len (ev_var rfl)) ev_int rv_eq) rv_neB)).nay ?_))) (sd_next rfl)) ?_
    · simp only [List.length_map]
      have b1 : decide (dg = ((l.length / 2 : Nat) : Int)) = decide ((((plusL p (-1) (restsM p l) (mulL p (restsM p (nearR l (s, b))) (restsM p (nearR l (s, b))))).length : Nat) : Int) = 1) := decide_eq_decide.mpr ⟨fun q => by have := hj.mp q; omega, fun q => hj.mpr (by omega)⟩
      rw [b1]
      simp
    have wn : W ≠ [] := by rw [ev2]; simp
    exact sd_ret (ev_andT ((ev_call (ea_cons (ev_var rfl) (ea_cons (ev_var rfl) (ea_cons (ev_var rfl) ea_nil))) ⟨dg, _, p, rfl, ⟨hp, g0, by omega⟩, rfl⟩).to (by rw [hb])) (ev_op (ev_call (ea_cons (ev_var rfl) (ea_cons (ev_var rfl) (ea_cons (ev_var rfl) ea_nil))) ⟨l, _, _, p, U, W, rfl, ⟨h.keep, h.keep.aw, h.aa, by omega, by omega, ru1, ru2, lu1, lu2, wn, hnP⟩, rfl⟩) ev_bl rv_isB)) rfl

end RR
/-! ### RW16 -/
namespace RR
open PySem PySem.Spec PyProof.Rows L2 Evl

section
variable {m : Md} {K : PySem.W.Frag} {ds : Ds} {R : Dat → Prop} {Rl : List Dat → Prop} {Pm : List Str → List Dat → List Dat → Dat → List Str → List Dat → Prop} {C : Str} {t : TA}
theorem ex_mk (h : EvXA m K t ds Rl) (p : ∀ dl, Rl dl → ∃ d ns' xs', R d ∧ Pm [] [] dl .non ns' xs' ∧ ∀ Hb l dx fv, Hb l = some (.ins (He.ga K C) dx (ns'.zip fv)) → IsL K Hb xs' fv → Is K Hb d (.ref l)) : EvX m K (tMake (He.ga K C) (spW K C Pm) [] E0 t) ds R := fun Hb H σ Q S k =>
  h Hb H σ _ S fun dl vs Hb1 H1 rl g hv => by
    obtain ⟨d, ns', xs', rd, pd, is⟩ := p dl rl
    exact make_run (m := m) (dd := []) (dvs := []) g.s hv rfl (by rw [List.append_nil]; exact pd) fun l dx fv Hb' H' g' h1 h2 h3 h4 =>
      k d (.ref l) _ H' rd ((g.trans g').add h1 (g.back h2) h3) (is _ l dx fv upd_same (IsL.mono (Ex.new h1) _ h4))
end
theorem ratOf_handed {r : Int × Int} {d : Dat} (hr : 0 < r.2) (h : Handed r d) : NumD d ∧ ratOf d = r := by
  rcases h with q | ⟨q1, q2⟩
  · subst q; exact ⟨.inr ⟨_, _, rfl⟩, rfl⟩
  · subst q2
    refine ⟨.inl ⟨_, rfl⟩, ?_⟩
    have e : rG r.1 1 = 1 := by unfold rG; simp
    show rN r.1 1 = r
    unfold rN
    rw [e]
    simp
    exact Prod.ext rfl q1.symm
theorem trimR_good {l : List (Int × Int)} {s b : Int} (h : GoodL l s b) : trimR l = l := by
  obtain ⟨l', e⟩ := h.last
  have s0 := h.s0
  rw [e, trimR_app (by show s * s ≠ 0; have := Int.mul_pos s0.1 s0.1; omega)]
theorem DrawnOk.lens {nums : List Int} {side bottom : Int} (h : DrawnOk nums side bottom) : nums.length = 3 ∨ nums.length = 5 ∨ nums.length = 7 := by
  rcases h.way with ⟨a, b, rfl, _⟩ | ⟨a, b, n, rfl, _⟩ | ⟨l, rfl, hl, _⟩
  · simp
  · unfold lessN; rw [List.length_cons, List.length_drop, rawMul_len]; simp
  · simp; omega
theorem kept_mem {nums : List Int} {side bottom p : Int} {many k : Nat} (h : p ∈ keptN nums side bottom many k) : p ∈ primesL k ∧ keepsL p nums side bottom = true := by
  have := List.mem_of_mem_take h
  exact List.mem_filter.mp this
theorem primes_two : ∀ p ∈ primesL 2, p ≤ 5 := by decide +kernel
def rYes : List Dat → Dat → Prop := fun _ d => d = .bl true

theorem sc_law_right : FnScope ["_law_pot_here", "_law_root_now", "_law_root", "_law_most", "_law_prime"] ["_law_pot_here"] (defScope s_law_right) := ⟨rfl, rfl, rfl, by decide +kernel, rfl, by decide +kernel, by decide +kernel⟩

theorem ok_law_right {P : Program} {w : World} {K : PySem.W.Frag} {mg : Str → Option Value} {base : Heap} (T : Txt K mg) (mr : MainRight) (c_law_drawn : Cal P w K mg base 6 "_law_drawn" (spP K cNone rDrawn)) (c_law_passed : Cal P w K mg base 4 "_law_passed" (spP K cPassed rPassed)) (c_mk_Root : MkC P w K mg base 8 "Root" (spW K "Root" pRootInit) []) (c_Root_half : Fok P w K mg base 1 (d_Root_half.adr K) (spD K pHalf)) (c_law_kept : Cal P w K mg base 5 "_law_kept" (spD K pKept)) (c_law_prime_right : CalG P w K mg base 10 "_law_prime_right" (spD K pPrimeRight)) : CalG P w K mg base (10 + 1) "_law_right" (spP K cNone rYes) := by
  refine ⟨?_, T.g_law_right, (T.d_law_right).elim fun _ F => F.kp⟩
  refine fng_p (d := d_law_right) (k := 10) (T.d_law_right) sc_law_right (fun _ _ _ _ _ _ us hl => match us, hl with | [_], _ => rfl) ?_ ?_
  · rintro dl rfl; rfl
  · intro cdv A outer s H E hr
    refine ⟨_, (pss_cons (ps_set (i := 1) sc_law_right.nd rfl (.inr rfl) (pe_cf (c_law_drawn.mono (by decide)) hr.r (by rfl) (pa_cons (pv 0) pa_nil)))
      (pss_cons (ps_set (i := 2) sc_law_right.nd rfl (.inr rfl) (pe_mkC (c_mk_Root.mono (by decide)) hr.r (by rfl) (pa_cons (pe_cf (c_law_passed.mono (by decide)) hr.r (by rfl) (pa_cons (pv 0) (pa_cons (pv 1) pa_nil))) pa_nil)))
      (pss_cons (ps_set (i := 3) sc_law_right.nd rfl (.inl rfl) (pe_ifExp (pt_cmpR op_eq (pe_prC (pv 2) T.cls_Root T.xp_Root_half (c_Root_half.mono (by decide)) hr.r) pe_int (nomark _)) pe_int pe_int))
      (pss_one (ps_ret (pe_callB (cr_all rfl) (by rfl) T.b_all (by decide +kernel) (pa_cons (pe_lc (own := [("_law_prime", 4)]) (g := (gName 4)) (tt := tYes) (te := (tCf (spD K pPrimeRight) (tCons (tVar 2) (tCons (tVar 1) (tCons (tVar 4) tNil))))) rfl sc_law_right.nd (pi_list (pe_cf (c_law_kept.mono (by decide)) hr.r (by rfl) (pa_cons (pv 1) (pa_cons pe_int (pa_cons (pv 3) pa_nil))))) (blkOk_by (own := [("_law_prime", 4)]) (N := ["_law_pot_here", "_law_root_now", "_law_root", "_law_most", "_law_prime"]) (sc := defScope s_law_right) (by decide +kernel)) (fun _ _ _ _ _ => (pg_name (i := 4) sc_law_right.nd rfl (Or.inl rfl))) (fun _ _ _ _ _ => pts_nil) (fun _ _ _ _ _ => (pe_cg (c_law_prime_right.mono (by decide)) hr (by rfl) (pa_cons (pv 2) (pa_cons (pv 1) (pa_cons (pv 4) pa_nil)))))) pa_nil))))))), ?_⟩
    rintro m dl hm rfl
    refine sd_seq (M := fun d => ∃ nums side bottom, d = [.mu, .dat (rnD nums side bottom), .no, .no, .no] ∧ DrawnOk nums side bottom) (sdx_set (R := fun d => ∃ nums side bottom, d = rnD nums side bottom ∧ DrawnOk nums side bottom) (ex_pot (i := 0) hm rfl xa_nil (fun _ h => h) fun _ _ _ h => h) fun d ⟨nums, side, bottom, e, h⟩ => ⟨nums, side, bottom, by rw [e] <;> rfl, h⟩) ?_
    rintro d ⟨nums, side, bottom, rfl, hd⟩
    obtain ⟨s, b, hg, hp⟩ := mr nums side bottom hd
    obtain ⟨hl, hb0, hb9⟩ := hd.size
    have h357 := hd.lens
    have ll : (nums.map fun n => rN n (bottom * bottom)).length = nums.length := List.length_map _
    generalize el : (nums.map fun n => rN n (bottom * bottom)) = l at *
    refine sd_seq (M := fun d => d = [.mu, .dat (rnD nums side bottom), .dat (rootD l s b), .no, .no]) (sdx_set (R := fun d => d = rootD l s b) (ex_mk (xa_cons (ex_pot (R := fun d => ∃ xs, d = .lst xs ∧ xs.length = nums.length ∧ ∀ (i : Nat) (x : Dat) (n : Int), xs[i]? = some x → nums[i]? = some n → Handed (rN n (bottom * bottom)) x) (i := 0) hm rfl (xa_cons (Ra := (· = rnD nums side bottom)) (ex_of (ev_var rfl) rfl) xa_nil) ?_ ?_) xa_nil) ?_) fun d e => by rw [e] <;> rfl) ?_
    · rintro dl ⟨d, r, rfl, rfl, rfl⟩
      exact ⟨nums, side, bottom, rfl, hd⟩
    · rintro dl d ⟨d1, r, rfl, rfl, rfl⟩ ⟨nums', side', bottom', xs, e, rfl, hx1, hx2⟩
      have q := (List.cons.inj e).1
      have q1 := Dat.tup.inj q
      have q2 : nums.map Dat.int = nums'.map Dat.int := Dat.lst.inj (List.cons.inj q1).1
      have q3 : nums = nums' := List.map_inj_right (fun a b e => Dat.int.inj e) |>.mp q2
      have q4 : bottom = bottom' := Dat.int.inj (List.cons.inj (List.cons.inj (List.cons.inj q1).2).2).1
      subst q3 q4
      exact ⟨xs, rfl, hx1, hx2⟩
    · rintro dl ⟨d, r, rfl, ⟨xs, rfl, hx1, hx2⟩, rfl⟩
      have hr : ∀ n : Int, 0 < (rN n (bottom * bottom)).2 := fun n => (rN_spec (t := n) (b := bottom * bottom) (by omega)).2.2.1
      have hx3 : ∀ i (h1 : i < xs.length) (h2 : i < nums.length), NumD xs[i] ∧ ratOf xs[i] = rN nums[i] (bottom * bottom) := fun i h1 h2 => ratOf_handed (hr _) (hx2 i _ _ (List.getElem?_eq_getElem h1) (List.getElem?_eq_getElem h2))
      have em : xs.map ratOf = l := by
        rw [← el]
        apply List.ext_getElem (by simp [hx1])
        intro i h1 h2
        simp only [List.getElem_map]
        exact (hx3 i (by simpa using h1) (by simpa using h2)).2
      have hn : ∀ d ∈ xs, NumD d := fun d hd2 => by
        obtain ⟨i, hi, e⟩ := List.getElem_of_mem hd2
        rw [← e]
        exact (hx3 i hi (by omega)).1
      exact ⟨rootD l s b, _, _, rfl, ⟨xs, s, b, rfl, rfl, rfl, ⟨hn, by omega, by rw [em, trimR_good hg]; exact hg⟩, rfl, rfl, rfl⟩, fun Hb q dx fv h hv => by
        rw [em, trimR_good hg] at hv
        exact is_root h hv⟩
    · rintro d rfl
      refine sd_then (sd_set (d := .int (if nums.length = 7 then 6 else 14)) (ev_ifC (c := nums.length = 7) ((et_test (ev_op (ev_pr (C := "Root") (ev_var rfl) sh_root ⟨l, _, _, rfl, trivial, rfl⟩) ev_int rv_eq)).to (decide_eq_decide.mpr (by omega))) (fun c => by rw [if_pos c]; exact ev_int) (fun c => by rw [if_neg c]; exact ev_int)) rfl) ?_
      have hk : ∃ k : Nat, (((if nums.length = 7 then 6 else 14 : Int) = 6 ∧ k = 2) ∨ ((if nums.length = 7 then 6 else 14 : Int) = 12 ∧ k = 5) ∨ ((if nums.length = 7 then 6 else 14 : Int) = 14 ∧ k = 6)) ∧ (nums.length = 7 → k = 2) ∧ k ≤ 6 := by
        by_cases c : nums.length = 7
        · exact ⟨2, .inl ⟨if_pos c, rfl⟩, fun _ => rfl, by decide⟩
        · exact ⟨6, .inr (.inr ⟨if_neg c, rfl⟩), fun q => absurd q c, by decide⟩
      obtain ⟨k, hk1, hk2, hk6⟩ := hk
      have kl : (keptN nums side bottom 3 k).length ≤ 3 := by unfold keptN; rw [List.length_take]; omega
      refine sd_ret ((et_allG (f := Dat.int) (l := keptN nums side bottom 3 k) (b := fun _ => true) (ev_call (ea_cons (ev_var rfl) (ea_cons ev_int (ea_cons (ev_var rfl) ea_nil))) ⟨nums, side, bottom, _, 3, k, rfl, ⟨hk1, by omega⟩, rfl⟩) (by omega) fun p hpm => ?_).to (by simp)) rfl
      obtain ⟨k1, k2⟩ := kept_mem hpm
      obtain ⟨n, hR⟩ := hp p (primes_pr k hk6 p k1) k2 fun c => by
        have e := hk2 c
        subst e
        exact primes_two p k1
      exact ev_call (ea_cons (ev_var rfl) (ea_cons (ev_var rfl) (ea_cons (ev_var rfl) ea_nil))) ⟨l, s, b, nums, side, bottom, p, n, rfl, hR, rfl⟩

end RR
/-! ### RW17 -/
namespace RR
open PySem PySem.Spec PyProof.Rows L2 Evl

theorem sc_law_pot : FnScope ["_law_script", "_law_k", "_law_cell"] ["_law_script", "_law_k"] (defScope s_law_pot) := ⟨rfl, rfl, rfl, by decide +kernel, rfl, by decide +kernel, by decide +kernel⟩
/-- the pot that a script gives -/
def spPot (K : PySem.W.Frag) : Sp := fun vs H Q _ => ∃ (a : Addr) (ns : List Int), vs = [.ref a, .int 0] ∧ SqL K H a (ns.map V.int) ∧ ∀ p x y H', H' p = some (.lst [.int x, .int y]) → 0 ≤ x → 0 ≤ y → y ≤ 2147483563 → Q (.ref p) H'
theorem slX {K : PySem.W.Frag} {H : Hp} {v0 : V} {c : Int} : Sl (md0 H) K (fun _ => none) H [some v0, some (.int 0), some (.int c)] [.no, .dat (.int 0), .dat (.int c)] where
  sub := fun a o e => by cases e
  len := rfl
  at_ := fun i q e => by
    match i, e with
    | 0, e => cases Option.some.inj e; exact ⟨_, rfl, trivial⟩
    | 1, e => cases Option.some.inj e; exact ⟨_, rfl, _, rfl, rfl⟩
    | 2, e => cases Option.some.inj e; exact ⟨_, rfl, _, rfl, rfl⟩
  sep := fun i j xs ys l e _ _ _ => by
    match i, e with
    | 0, e => cases Option.some.inj e
    | 1, e => cases Option.some.inj e
    | 2, e => cases Option.some.inj e
  mt := fun a h => h.elim
  fr := fun l h => h
theorem ok_law_pot {P : Program} {w : World} {K : PySem.W.Frag} {mg : Str → Option Value} {base : Heap} (T : Txt K mg) : Cal P w K mg base (0 + 1) "_law_pot" (spPot K) := by
  refine ⟨?_, T.g_law_pot, (T.d_law_pot).elim fun _ F => F.kp⟩
  obtain ⟨fd, F⟩ := T.d_law_pot
  have ok : FnOk P w K mg base CX0 1 (d_law_pot.adr K) fd ["_law_script", "_law_k"] (spPot K) := F.ok sc_law_pot (fun vs H Q E ⟨a, ns, e, _⟩ => by rw [e] <;> rfl) fun cdv A outer s H vs Q E hr hsp => by
    obtain ⟨a, ns, e, hq, k⟩ := hsp
    subst e
    refine ⟨_, PSs.nox (pss_cons (ps_set (i := 2) sc_law_pot.nd rfl (.inl rfl) (pe_ifExp (pt_cmpR op_lt (pv 1) (pe_callB call_len_seq (by rfl) T.b_len (by decide +kernel) (pa_cons (pv 0) pa_nil)) (nomark _)) (pe_callB call_abs (by rfl) T.b_abs (by decide +kernel) (pa_cons (pe_ix ix_list (pv 0) (pv 1) (fun _ _ => rfl)) pa_nil)) (pe_op op_add (pe_op op_mul pe_int (pv 1)) pe_int)))
      (pss_one (ps_ret (pe_lst (pa_cons (pe_callB (call_max2 rfl) (by rfl) T.b_max (by decide +kernel) (pa_cons pe_int (pa_cons (pe_op op_sub (pv 2) (pe_op op_pow pe_int pe_int)) pa_nil))) (pa_cons (pe_op op_add (pe_op op_mod (pe_callTy call_int1 (by rfl) T.b_int (by decide +kernel) (pa_cons (pe_op op_add (pe_op op_add (pe_op op_mul (pe_op op_mod (pe_callTy call_int1 (by rfl) T.b_int (by decide +kernel) (pa_cons (pv 2) pa_nil)) pe_int) pe_int) (pe_op op_mul pe_int (pv 1))) pe_int) pa_nil)) pe_int) pe_int) pa_nil)))))), ?_⟩
    have fin : ∀ c : Int, tRet (tLst (tCons (tCB (fun xs H Q => ∃ i j, xs = [.int i, .int j] ∧ Q (.int (if j > i then j else i)) H) (tCons (tC (.int 0)) (tCons (tOp (rI0 fun i j => .int (i - j)) (tVar 2) (tOp (rI CPow fun i j => .int (i ^ j.toNat)) (tC (.int 10)) (tC (.int 18)))) tNil))) (tCons (tOp (rI0 fun i j => .int (i + j)) (tOp (rI (fun _ j => 0 < j) fun i j => .int (i % j)) (tCB rIntC (tCons (tOp (rI0 fun i j => .int (i + j)) (tOp (rI0 fun i j => .int (i + j)) (tOp (rI CMul fun i j => .int (i * j)) (tOp (rI (fun _ j => 0 < j) fun i j => .int (i % j)) (tCB rIntC (tCons (tVar 2) tNil)) (tC (.int 2147483549))) (tC (.int 40163))) (tOp (rI CMul fun i j => .int (i * j)) (tC (.int 4021)) (tVar 1))) (tC (.int 137))) tNil)) (tC (.int 2147483563))) (tC (.int 1))) tNil))) { nx := fun _ H' => Q .non H', rt := Q } [some (.ref a), some (.int 0), some (.int c)] H := fun c => by
      refine (eo_lst (m := md0 H) (K := K) (ds := [.no, .dat (.int 0), .dat (.int c)]) (ea_cons (ev_cb (ea_cons ev_int (ea_cons (ev_op (ev_var rfl) (ev_op ev_int ev_int (rv_intC ?_)) rv_int) ea_nil)) rc_max) (ea_cons (ev_op (ev_op (ev_intc (ev_op (ev_op (ev_op (ev_op (ev_intc (ev_var rfl)) ev_int (rv_intC (by decide))) ev_int (rv_intC (.inr ⟨by decide, by decide⟩))) (ev_op ev_int (ev_var rfl) (rv_intC (.inl ⟨by decide, by decide⟩))) rv_int) ev_int rv_int)) ev_int (rv_intC (by decide))) ev_int rv_int) ea_nil)) (by simp)) (fun _ => none) H _ _ slX fun l vs Hb' H' _ _ _ _ h4 h5 => ?_
      · exact ⟨by decide, by decide, by decide⟩
      · obtain ⟨v, r, e1, h1, v2, r2, e2, h2, e3⟩ := h5
        rw [e1, e2, show v = _ from h1, show v2 = _ from h2, show r2 = [] from e3] at h4
        refine k l _ _ H' h4 ?_ ?_ ?_
        · split <;> omega
        · have := Int.emod_nonneg ((c % 2147483549 * 40163 + 4021 * 0 + 137)) (b := 2147483563) (by decide); omega
        · have := Int.emod_lt_of_pos ((c % 2147483549 * 40163 + 4021 * 0 + 137)) (b := 2147483563) (by decide); omega
    refine ⟨.int 0, rfl, .ref a, rfl, a, ns.map V.int, rfl, .inl hq, 0, _, rfl, rfl, _, rfl, ?_⟩
    rcases ns with _ | ⟨z, ns⟩
    · rw [if_neg (by simp)]
      exact ⟨.int 0, rfl, 157, 0, rfl, rfl, .inl ⟨by decide, by decide⟩, _, _, rfl, rfl, fin _⟩
    · rw [if_pos (by simp)]
      exact ⟨.ref a, rfl, .int 0, rfl, a, _, 0, .int z, rfl, rfl, hq, atI_nat (j := 0) rfl, z, rfl, fin _⟩
  have r := ok.raw (F.bindsN (fun _ _ _ _ _ _ us hl => match us, hl with | [_, _], _ => rfl)) .nil
  exact r.imp fun vs H Q E h => by rw [List.append_nil]; exact h

theorem sc_law : FnScope ["_law_script"] ["_law_script"] (defScope s_law) := ⟨rfl, rfl, rfl, by decide +kernel, rfl, by decide +kernel, by decide +kernel⟩
def spLaw (K : PySem.W.Frag) : Sp := fun vs H Q _ => ∃ (a : Addr) (ns : List Int), vs = [.ref a] ∧ SqL K H a (ns.map V.int) ∧ ∀ H', Q (.bl true) H'
theorem ok_law {P : Program} {w : World} {K : PySem.W.Frag} {mg : Str → Option Value} {base : Heap} (T : Txt K mg) (c_law_pot : Cal P w K mg base 1 "_law_pot" (spPot K)) (c_law_right : CalG P w K mg base 11 "_law_right" (spP K cNone rYes)) : CalG P w K mg base (11 + 1) "law" (spLaw K) := by
  refine ⟨?_, T.g_law, (T.d_law).elim fun _ F => F.kp⟩
  obtain ⟨fd, F⟩ := T.d_law
  refine fng_of (k := 11) F sc_law (fun _ _ _ _ _ _ us hl => match us, hl with | [_], _ => rfl) (fun vs H Q E ⟨a, ns, e, _⟩ => by rw [e] <;> rfl) fun cdv A outer s H vs Q E hr hsp => ?_
  obtain ⟨a, ns, e, hq, k⟩ := hsp
  subst e
  refine ⟨_, PSs.nox (pss_one (ps_ret (pe_cg (c_law_right.mono (by decide)) hr (by rfl) (pa_cons (pe_cf (c_law_pot.mono (by decide)) hr.r (by rfl) (pa_cons (pv 0) (pa_cons pe_int pa_nil))) pa_nil)))), ?_⟩
  refine ⟨.ref a, rfl, a, ns, rfl, hq, fun p x y H' hp x0 y0 y1 => ⟨fun _ => none, p, [], [], rfl, rfl, ⟨_, hp, x, y, rfl, x0, y0, y1⟩, rfl, (fun b o e => by cases e), rfl, fun d v Hb' H2 rd _ hv => ?_⟩⟩
  rw [show d = .bl true from rd] at hv
  rw [show v = .bl true from hv]
  exact k H2

end RR
/-! ### RCalc13 -/
/-! The law's own call, with no repr under way around it. -/
namespace RR
open PySem PySem.Spec PyProof.Rows L2
/-- how the law's call ends -/
abbrev Fine (st : Shared) : Result → Shared → Prop := fun r s' => r = .ok (.ret (.bool true)) ∧ OldK st.heap s'.heap ∧ s'.os = st.os ∧ AllBare s'.gens
theorem law_at {P : Program} {w : World} {K : PySem.W.Frag} {mg mb : Str → Option Value} {k : Nat} {fa a : Addr} {sp : Sp} {st : Shared} (inK : K.In st.heap) (gls : st.heap.Ns mainGlobals mg)
    (bls : st.heap.Ns builtinsNs mb) (bb : ∀ x : Str, x ≠ "__name__" → mb x = bootBuiltins x) (lim : st.heap.NoLimit) (gens : st.gens = #[]) {o : Obj} {xs : Array Value} {cap : Nat} (ha : st.heap.get? a = some o) (od : o.data = .seq xs cap) (room : RoomG k callerA)
    (F : ∀ base : Heap, K.In base → base.Ns mainGlobals mg → FnGd P w K mg base k fa sp) {H : Hp} (only : Only H) (hs : sp [.ref a] H (fun v _ => v = .bl true) fun _ _ _ => False)
    (ok : HOk P w H st.heap) (hA : ∀ b, H b ≠ none → b = a) (hK : H a ≠ none → K.lookup a = none) : codeAny (model P w) callerA (.call (.ref fa) ⟨[.ref a], []⟩) (Fine st) st := by
  have own : ∀ {b : Addr} {u : HO}, H b = some u → b = a := fun {b u} q => hA b (by rw [q]; exact Option.some_ne_none _)
  have still : ∀ {b : Addr} {u : Obj}, st.heap.get? b = some u → H b = none → (hidT st.heap H).get? b = some u := fun e n => hidT_get e n
  have names : ∀ {b : Addr} {m : Str → Option Value}, st.heap.Ns b m → (hidT st.heap H).Ns b m := fun {b m} ⟨u, es, ep, e, d, r⟩ => ⟨u, es, ep, still e (by
    cases q : H b with
    | none => rfl
    | some z =>
      have eb := own q
      subst eb
      rw [ha] at e
      cases e
      rw [od] at d
      cases d), d, r⟩
  have kin : K.In (hidT st.heap H) := fun b u e => still (inK b u e) (by
    cases q : H b with
    | none => rfl
    | some z =>
      have eb := own q
      subst eb
      rw [hK (by rw [q]; exact Option.some_ne_none _)] at e
      cases e)
  obtain ⟨mc, l1, l2⟩ := lim
  have env : Env0 P w K mg (hidT st.heap H) callerA [] st H := ⟨rfl, ⟨kin, names gls, ⟨mb, names bls, bb⟩, ⟨mc, names l1, l2⟩⟩, fun b u e => of_hidT e, Nat.le_of_eq (hidT_size _ _), trivial, (fun b z => nomatch z), ok, .of_eq gens⟩
  refine codeAny_mono (F _ kin (names gls) callerA [] st H [.ref a] [.ref a] _ _ room env (.cons rfl .nil) hs) fun r s' h => ?_
  match r, h with
  | .ok (.ret u), ⟨v, H', e1, e2, un, ok', rv, q⟩ =>
    have qv : v = .bl true := q
    subst qv
    have eu : u = Value.bool true := rv
    subst eu
    refine ⟨rfl, OldK.of_keep fun b z e => ?_, e1, e2⟩
    cases q2 : H b with
    | none => exact un.keep b z e q2 (fun h => nomatch h) (fun h => nomatch h)
    | some hb =>
      rcases only b with n | ⟨ob, ys, f⟩
      · rw [q2] at n; cases n
      · obtain ⟨g1, _⟩ := ok b _ f
        obtain ⟨g2, _⟩ := ok' b _ (un.frzs b ob _ f)
        rw [e] at g1
        cases g1
        exact g2
  | .ok .next, z => exact z.elim
  | .ok .brk, z => exact z.elim
  | .ok .cont, z => exact z.elim
  | .error e, z => exact (pass0' z).elim
where pass0' {H : Hp} {s : Shared} {e : Value} {s' : Shared} {P : Program} {w : World} {Q : VK} (z : CR CX0 [] P w H s Q (fun _ _ _ => False) (.error e) s') : False := z
theorem walk_g {l : PySem.W.OpenLaw} {n k : Nat} {q : Program} {loose : List Str} {XP : (Str → Option Value) → Heap → Prop} {YP : World → Heap → Prop} {d : DefRec} (hn : l.most = some n) (hn2 : n ≤ sizeLine) (hdf : d.params.defaults = []) (room : RoomG k callerA)
    (F : ∀ (w : World) (mg : Str → Option Value) (fa : Addr) (h : Heap), YP w h → h.Ns mainGlobals mg → mg d.name = some (.ref fa) → ∃ (K : PySem.W.Frag) (sp : Sp), K.In h ∧
      (∀ (H : Hp) (a : Addr) (ns : List Int), SqL K H a (ns.map V.int) → sp [.ref a] H (fun v _ => v = .bl true) fun _ _ _ => False) ∧ ∀ base : Heap, K.In base → base.Ns mainGlobals mg → FnGd l.prog w K mg base k fa sp) :
    PySem.W.WalkO q loose XP YP l.row.toRowW d [] (fun f vs => PySem.call f vs) := by
  refine Att.attach_call hn hdf fun w s0 st mg mb fa o pm cd doc a vs ns G Y ho hd hcd hmg hobj hints hlen hg => ?_
  obtain ⟨K, sp, inK, hsp, hF⟩ := F w mg fa _ Y G.T.g hmg
  have rv := vals_ints hints
  have lv := hints.length
  have hl := Nat.le_trans hlen hn2
  cases hk : K.lookup a with
  | some u =>
    have e := inK a u hk
    rw [hobj] at e
    cases e
    have sq : SqL K (fun _ => none) a (ns.map V.int) := .inr ⟨_, vs.toArray, _, hk, rfl, rfl, rfl, by rw [List.size_toArray, lv]; exact hl, by simpa using rv⟩
    exact law_at inK G.T.g G.T.b G.T.builtins G.T.nolimit hg hobj rfl room hF (fun _ => .inl rfl) (hsp _ a ns sq) (fun b u z => nomatch (show (none : Option HO) = some u from z)) (fun b z => absurd rfl z) fun z => absurd rfl z
  | none =>
    have at_ : ∀ b : Addr, b = a → (fun b : Addr => if b = a then some (HO.frz { cls := .type "list", data := .seq vs.toArray } (.lst (ns.map V.int))) else none) b = some (HO.frz { cls := .type "list", data := .seq vs.toArray } (.lst (ns.map V.int))) := fun b e => if_pos e
    have off_ : ∀ b : Addr, b ≠ a → (fun b : Addr => if b = a then some (HO.frz { cls := .type "list", data := .seq vs.toArray } (.lst (ns.map V.int))) else none) b = none := fun b e => if_neg e
    generalize (fun b : Addr => if b = a then some (HO.frz { cls := .type "list", data := .seq vs.toArray } (.lst (ns.map V.int))) else none) = H at at_ off_
    refine law_at inK G.T.g G.T.b G.T.builtins G.T.nolimit hg hobj rfl room hF (H := H) (fun b => ?_) (hsp H a ns (.inl (.inr ⟨_, at_ a rfl⟩))) (fun b u z => ?_) (fun b z => ?_) fun _ => hk
    · rcases Nat.decEq b a with e | e
      · exact .inl (off_ b e)
      · exact .inr ⟨_, _, at_ b e⟩
    · rcases Nat.decEq b a with e | e
      · rw [off_ b e] at z; cases z
      · rw [at_ b e] at z
        cases z
        rw [e]
        exact ⟨hobj, by rw [List.length_map]; exact hl, vs, _, rv, hobj⟩
    · rcases Nat.decEq b a with e | e
      · exact absurd (off_ b e) z
      · exact e
end RR
/-! ### RW18 -/
namespace RR
open PySem PySem.Spec PyProof.Rows L2 Evl

theorem law_ok {P : Program} {w : World} {K : PySem.W.Frag} {mg : Str → Option Value} {base : Heap} (T : Txt K mg) (mr : MainRight) : CalG P w K mg base 12 "law" (spLaw K) := by
  have c_want_at_most := ok_want_at_most (P := P) (w := w) (base := base) T
  have c_without_noughts := ok_without_noughts (P := P) (w := w) (base := base) T
  have c_rest_sum := ok_rest_sum (P := P) (w := w) (base := base) T c_without_noughts
  have c_rest_less := ok_rest_less (P := P) (w := w) (base := base) T c_rest_sum
  have c_rest_times := ok_rest_times (P := P) (w := w) (base := base) T c_without_noughts
  have c_undone_rest := ok_undone_rest (P := P) (w := w) (base := base) T
  have c_rest_parts := ok_rest_parts (P := P) (w := w) (base := base) T c_without_noughts c_undone_rest
  have c_law_trim := ok_law_trim (P := P) (w := w) (base := base) T
  have c_law_times := ok_law_times (P := P) (w := w) (base := base) T c_law_trim
  have c_law_plus := ok_law_plus (P := P) (w := w) (base := base) T c_law_trim
  have c_law_back := ok_law_back (P := P) (w := w) (base := base) T
  have c_law_split := ok_law_split (P := P) (w := w) (base := base) T c_law_trim c_law_plus c_law_back
  have c_law_rests := ok_law_rests (P := P) (w := w) (base := base) T c_law_trim c_law_back
  have c_law_keeps := ok_law_keeps (P := P) (w := w) (base := base) T c_law_trim c_law_rests c_law_split
  have c_common_rests := ok_common_rests (P := P) (w := w) (base := base) T c_rest_parts
  have c_law_nearest := ok_law_nearest (P := P) (w := w) (base := base) T c_law_plus c_law_times c_law_back
  have c_law_walk := ok_law_walk (P := P) (w := w) (base := base) T c_law_rests c_law_nearest c_law_plus c_law_times c_law_split c_law_back
  have c_law_norm := ok_law_norm (P := P) (w := w) (base := base) T c_law_times c_law_plus
  have c_law_is_bounded := ok_law_is_bounded (P := P) (w := w) (base := base) T
  have c_is_integer := ok_is_integer (P := P) (w := w) (base := base) T
  have c_is_list := ok_is_list (P := P) (w := w) (base := base) T
  have c_common_part := ok_common_part (P := P) (w := w) (base := base) T
  have m_Ratio := mk_Ratio (P := P) (w := w) (base := base) T (ok_Ratio_init (P := P) (w := w) (base := base) T c_is_integer c_common_part)
  have c_mk_Ratio := m_Ratio.1
  have c_mk_Ratio1 := m_Ratio.2
  have c_Ratio_top := ok_Ratio_top (P := P) (w := w) (base := base) T
  have c_Ratio_bottom := ok_Ratio_bottom (P := P) (w := w) (base := base) T
  have c_Ratio_is_whole := ok_Ratio_is_whole (P := P) (w := w) (base := base) T
  have c_Ratio_sign := ok_Ratio_sign (P := P) (w := w) (base := base) T
  have c_told_pair := ok_told_pair (P := P) (w := w) (base := base) T c_is_integer
  have c_Ratio_add := ok_Ratio_add (P := P) (w := w) (base := base) T c_told_pair c_mk_Ratio
  have c_Ratio_sub := ok_Ratio_sub (P := P) (w := w) (base := base) T c_told_pair c_mk_Ratio
  have c_Ratio_mul := ok_Ratio_mul (P := P) (w := w) (base := base) T c_told_pair c_mk_Ratio
  have c_Ratio_over := ok_Ratio_over (P := P) (w := w) (base := base) T c_told_pair c_mk_Ratio
  have c_is_number := ok_is_number (P := P) (w := w) (base := base) T c_is_integer
  have c_ratio_of := ok_ratio_of (P := P) (w := w) (base := base) T c_mk_Ratio1
  have c_wholes := ok_wholes (P := P) (w := w) (base := base) T
  have c_is_poly := ok_is_poly (P := P) (w := w) (base := base) T c_is_number c_is_list
  have c_trimmed := ok_trimmed (P := P) (w := w) (base := base) T
  have c_want_poly := ok_want_poly (P := P) (w := w) (base := base) T c_is_poly c_ratio_of c_trimmed
  have c_sum_of := ok_sum_of (P := P) (w := w) (base := base) T c_Ratio_add c_trimmed
  have c_by_number := ok_by_number (P := P) (w := w) (base := base) T c_Ratio_mul c_trimmed
  have c_less_of := ok_less_of (P := P) (w := w) (base := base) T c_mk_Ratio1 c_by_number c_sum_of
  have c_int_product := ok_int_product (P := P) (w := w) (base := base) T
  have c_product_of := ok_product_of (P := P) (w := w) (base := base) T c_wholes c_int_product c_mk_Ratio
  have c_square_of := ok_square_of (P := P) (w := w) (base := base) T c_product_of
  have c_slope_of := ok_slope_of (P := P) (w := w) (base := base) T c_Ratio_mul
  have c_plain_row := ok_plain_row (P := P) (w := w) (base := base) T c_common_part
  have c_int_rest := ok_int_rest (P := P) (w := w) (base := base) T c_plain_row
  have c_int_common := ok_int_common (P := P) (w := w) (base := base) T c_plain_row c_int_rest
  have c_common_of := ok_common_of (P := P) (w := w) (base := base) T c_wholes c_int_common c_mk_Ratio
  have c_is_squared := ok_is_squared (P := P) (w := w) (base := base) T c_slope_of c_common_of
  have c_power_of := ok_power_of (P := P) (w := w) (base := base) T
  have c_whole_root := ok_whole_root (P := P) (w := w) (base := base) T c_power_of
  have c_order_root := ok_order_root (P := P) (w := w) (base := base) T c_Ratio_sign c_whole_root c_mk_Ratio
  have c_square_root := ok_square_root (P := P) (w := w) (base := base) T c_order_root
  have c_numbers_of := ok_numbers_of (P := P) (w := w) (base := base) T c_square_root c_Ratio_mul c_mk_Ratio1 c_Ratio_sub c_Ratio_over
  have c_right_poly := ok_right_poly (P := P) (w := w) (base := base) T c_want_poly c_square_root c_is_squared
  have m_Root := mk_Root (P := P) (w := w) (base := base) T (ok_Root_init (P := P) (w := w) (base := base) T c_right_poly c_numbers_of c_square_of c_less_of)
  have c_mk_Root := m_Root
  have c_Root_half := ok_Root_half (P := P) (w := w) (base := base) T
  have c_Root_nearest := ok_Root_nearest (P := P) (w := w) (base := base) T
  have c_want_root := ok_want_root (P := P) (w := w) (base := base) T
  have c_is_prime_number := ok_is_prime_number (P := P) (w := w) (base := base) T
  have c_is_prime := ok_is_prime (P := P) (w := w) (base := base) T c_is_prime_number c_is_integer
  have c_want_prime := ok_want_prime (P := P) (w := w) (base := base) T c_is_prime
  have c_rests_in := ok_rests_in (P := P) (w := w) (base := base) T c_Ratio_bottom c_Ratio_top c_undone_rest c_without_noughts
  have c_does_keep := ok_does_keep (P := P) (w := w) (base := base) T c_rests_in c_slope_of c_common_rests
  have c_want_kept := ok_want_kept (P := P) (w := w) (base := base) T c_want_root c_want_prime c_does_keep
  have c_Walk_norm := ok_Walk_norm (P := P) (w := w) (base := base) T c_rest_times c_rest_less
  have c_Walk_at_end := ok_Walk_at_end (P := P) (w := w) (base := base) T
  have m_Walk := mk_Walk (P := P) (w := w) (base := base) T (ok_Walk_init (P := P) (w := w) (base := base) T c_rests_in c_Walk_norm)
  have c_mk_Walk := m_Walk
  have c_Walk_go := fokW_of (d := d_Walk_go) (ok_Walk_go (P := P) (w := w) (base := base) T c_rest_sum c_rest_parts c_rest_less c_Walk_norm) (fun _ _ _ _ _ _ us hl => match us, hl with | [_], _ => rfl)
  have c_rest_walk := ok_rest_walk (P := P) (w := w) (base := base) T c_mk_Walk c_Walk_at_end c_Walk_go
  have c_degree_at := ok_degree_at (P := P) (w := w) (base := base) T c_rest_walk
  have c_unit_at := ok_unit_at (P := P) (w := w) (base := base) T c_mk_Walk c_Walk_at_end c_Walk_go c_rest_times c_rest_sum c_undone_rest
  have c_rests_of := ok_rests_of (P := P) (w := w) (base := base) T c_want_poly c_want_prime c_rests_in
  have x_rest_degree := ok_rest_degree (P := P) (w := w) (base := base) T (okx_rest_degree (P := P) (w := w) (base := base) T c_want_kept c_degree_at)
  have c_rest_degree := x_rest_degree.1
  have c_kw_rest_degree := x_rest_degree.2
  have x_rest_unit := ok_rest_unit (P := P) (w := w) (base := base) T (okx_rest_unit (P := P) (w := w) (base := base) T c_want_kept c_degree_at c_want_at_most c_unit_at)
  have c_rest_unit := x_rest_unit.1
  have c_kw_rest_unit := x_rest_unit.2
  have c_are_integers := ok_are_integers (P := P) (w := w) (base := base) T c_is_integer c_is_list
  have c_is_rest_unit := ok_is_rest_unit (P := P) (w := w) (base := base) T c_want_kept c_are_integers c_without_noughts c_mk_Walk c_Walk_norm
  have c_law_primes := ok_law_primes (P := P) (w := w) (base := base) T
  have c_law_kept := ok_law_kept (P := P) (w := w) (base := base) T c_law_primes c_law_keeps
  have c_law_whole_times := ok_law_whole_times (P := P) (w := w) (base := base) T
  have c_law_less_number := ok_law_less_number (P := P) (w := w) (base := base) T c_law_whole_times
  have c_law_draw := ok_law_draw (P := P) (w := w) (base := base) T
  have c_law_pick := ok_law_pick (P := P) (w := w) (base := base) T c_law_draw
  have c_law_small := ok_law_small (P := P) (w := w) (base := base) T c_law_draw
  have c_law_drawn := ok_law_drawn (P := P) (w := w) (base := base) T c_law_pick c_law_draw c_law_small c_law_less_number c_law_kept
  have c_law_passed := ok_law_passed (P := P) (w := w) (base := base) T c_mk_Ratio c_law_draw c_Ratio_is_whole c_Ratio_top
  have c_law_prime_right := ok_law_prime_right (P := P) (w := w) (base := base) T c_law_rests c_law_walk c_rest_degree c_kw_rest_unit c_rest_unit c_kw_rest_degree c_Root_half c_law_norm c_Root_nearest c_rests_of c_law_times c_law_plus c_is_rest_unit c_law_is_bounded
  have c_law_right := ok_law_right (P := P) (w := w) (base := base) T mr c_law_drawn c_law_passed c_mk_Root c_Root_half c_law_kept c_law_prime_right
  have c_law_pot := ok_law_pot (P := P) (w := w) (base := base) T
  exact ok_law T c_law_pot c_law_right
theorem caller_room : RoomG 12 callerA := ⟨⟨rfl, by decide, by decide⟩, rfl⟩

end RR
/-! ### RW19 -/
namespace RR
open PySem PySem.Spec PyProof.Rows L2
theorem lawName : (HandSHeadRun.topDef R.prog 114).name = ("law" : PySem.Str) := by kernel_rfl
end RR
open PySem PySem.W PySem.Calls PyProof.Rows
theorem RR.row_holds (mr : RR.MainRight) : PySem.Challenge.rw_rootsround_k53_whole_least_units_by_rest.Holds := by
  w_on; o_law
  refine HandSHeadRun.head_imp (r := RR.R) (q := RR.vw) (H := RR.hk) (ob := RR.ob) (M := 20000) (loose := RR.loose) (d := HandSHeadRun.topDef RR.R.prog 114) (kwd := []) RR.ob_eq RR.run
    (by kernel_rfl) (by kernel_rfl) (by kernel_rfl) (by rfl) (by first | assumption | decide +kernel) (by decide +kernel) ⟨rfl, rfl, rfl, rfl, rfl, by decide +kernel⟩ ?hw ?hc
  case hw => w_witness2
  case hc =>
    refine RR.walk_g (l := PySem.Challenge.rw_rootsround_k53_whole_least_units_by_rest) (n := 63) (k := 12) rfl (by decide) (by kernel_rfl) RR.caller_room ?F
    intro w mg fa h Y G hmg0
    obtain ⟨K, KX, c⟩ := Y
    have hmg : mg ("law" : PySem.Str) = some (.ref fa) := by
      rw [← RR.lawName]
      exact hmg0
    have T : RR.Txt K mg := ⟨c, h, KX, G⟩
    have e := hmg.symm.trans T.g_law
    cases e
    refine ⟨K, RR.spLaw K, KX, fun H a ns hS => ⟨a, ns, rfl, hS, fun _ => rfl⟩, fun base _ _ => (RR.law_ok T mr).run⟩
theorem PySem.Challenge.cw_rootsround_k53_whole_least_units_by_rest_holds : PySem.Challenge.rw_rootsround_k53_whole_least_units_by_rest.Holds :=
  RR.row_holds RR.mainRight
