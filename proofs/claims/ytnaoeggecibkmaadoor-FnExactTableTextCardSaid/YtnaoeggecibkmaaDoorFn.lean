/- The words of evaluation that are the core library's own, as one fact (so that a claim's texts stay short). -/
import Derived.Test.YtnaoeggecibkmaaDoorFm
namespace Go.Proofs.YtnaoeggecibkmaaDoor.Gh
open Go Go.RowKit Go.Proofs

theorem gs4 :
  type_of% @Nat.mul_one ∧
  type_of% @Nat.add_zero ∧
  type_of% @Nat.zero_add ∧
  type_of% @Nat.zero_mul ∧
  type_of% @Int.toNat_natCast ∧
  type_of% @decide_true ∧
  type_of% @decide_false ∧
  type_of% @Bool.not_true ∧
  type_of% @Bool.not_false ∧
  type_of% @true_and ∧
  type_of% @and_true ∧
  type_of% @List.map_cons.{0, 0} ∧
  type_of% @List.map_nil.{0, 0} ∧
  type_of% @List.nil_append.{0} ∧
  type_of% @List.cons_append.{0} ∧
  type_of% @List.append_nil.{0} ∧
  type_of% @Option.map_some.{0, 0} ∧
  type_of% @Option.bind_some.{0, 0} ∧
  type_of% @List.getElem?_cons_zero.{0} ∧
  type_of% @List.getElem?_cons_succ.{0} ∧
  type_of% @Bool.false_eq_true ∧
  type_of% @not_true_eq_false ∧
  type_of% @not_false_eq_true ∧
  type_of% @List.contains_cons.{0} ∧
  type_of% @List.contains_nil.{0} ∧
  type_of% @Bool.true_or ∧
  type_of% @Bool.false_or ∧
  type_of% @Bool.or_true ∧
  type_of% @List.set_cons_zero.{0} ∧
  type_of% @List.set_cons_succ.{0} ∧
  type_of% @List.length_cons.{0} ∧
  type_of% @List.length_nil.{0} ∧
  type_of% @Bool.true_and ∧
  type_of% @Bool.false_and ∧
  type_of% @Bool.and_true ∧
  type_of% @Bool.and_false :=
  ⟨@Nat.mul_one, @Nat.add_zero, @Nat.zero_add, @Nat.zero_mul, @Int.toNat_natCast, @decide_true, @decide_false, @Bool.not_true, @Bool.not_false, @true_and, @and_true, @List.map_cons, @List.map_nil, @List.nil_append, @List.cons_append, @List.append_nil, @Option.map_some, @Option.bind_some, @List.getElem?_cons_zero, @List.getElem?_cons_succ, @Bool.false_eq_true, @not_true_eq_false, @not_false_eq_true, @List.contains_cons, @List.contains_nil, @Bool.true_or, @Bool.false_or, @Bool.or_true, @List.set_cons_zero, @List.set_cons_succ, @List.length_cons, @List.length_nil, @Bool.true_and, @Bool.false_and, @Bool.and_true, @Bool.and_false⟩

end Go.Proofs.YtnaoeggecibkmaaDoor.Gh
