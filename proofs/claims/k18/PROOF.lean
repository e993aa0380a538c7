import PyProof.Rows.All
import Wide.All
import OpenK.AllK
import Wide.FinOn
import KE.KStateDown
import Lean
import HandS.Base
import HandS.Call
import HandS.Ends
import HandS.More
import HandS.Words
import HandS.WordsExc
import HandS.Defaults
import HandS.Head0
import HandS.Head1
import HandS.Head2
import HandS.Head3
import HandS.HeadEnd
import HandS.HeadHook1
import HandS.HeadHook2
import HandS.ForMost
import HandS.Gcd
import HandS.Wide
import HandS.WideBits
import HandS.TupAny
import HandS.TupSets
import HandS.TupLen
import HandS.Zip
import HandS.IsInst
import HandS.Style
import HandS.Conv
import HandS.Walk
import KE.GoesMore
import KE.GoesEnum
import KE.KDictKeyed
import KE.KDictPairs
import KE.KDictDisplayH
import PyProof.ReprRoads
import PySem.Challenge.RW_truecourse_k18_whole_nested_forms
set_option Elab.async false
set_option linter.all false
set_option maxRecDepth 100000
set_option maxHeartbeats 0
namespace K18
open PySem PySem.Spec PyProof.Rows L2
def top (i : Nat) : Stmt := PySem.Challenge.pw_truecourse_k18_whole_nested_forms.main.body.getD i (.Pass ⟨0, 0, 0, 0⟩)
abbrev s_is_integer : Stmt := top 11
abbrev s_is_count : Stmt := top 12
abbrev s_is_list : Stmt := top 13
abbrev s_want_many : Stmt := top 14
abbrev s_want_at_most : Stmt := top 15
abbrev s_made_ratio : Stmt := top 19
abbrev s_add_ratios : Stmt := top 20
abbrev s_mul_ratios : Stmt := top 21
abbrev s_power_ratio : Stmt := top 22
abbrev s_is_ratio : Stmt := top 23
abbrev s_is_point : Stmt := top 26
abbrev s_is_term : Stmt := top 32
abbrev s_is_poly_in : Stmt := top 33
abbrev s_letters_of : Stmt := top 34
abbrev s_is_any_poly : Stmt := top 35
abbrev s_want_letters_many : Stmt := top 36
abbrev s_want_poly : Stmt := top 37
abbrev s_want_poly_in : Stmt := top 38
abbrev s_want_point_for : Stmt := top 39
abbrev s_told_poly : Stmt := top 40
abbrev s_put_more : Stmt := top 41
abbrev s_degree_of : Stmt := top 42
abbrev s_want_few : Stmt := top 43
abbrev s_value_of : Stmt := top 44
abbrev s_poly_of : Stmt := top 45
abbrev s_value_at : Stmt := top 46
abbrev s_nested_from : Stmt := top 48
abbrev s_terms_from : Stmt := top 49
abbrev s_poly_from : Stmt := top 50
abbrev s_value_from : Stmt := top 51
abbrev s_has_form : Stmt := top 52
abbrev s_is_nested_of : Stmt := top 53
abbrev s_want_nested : Stmt := top 54
abbrev s_is_nested : Stmt := top 55
abbrev s_nested_of : Stmt := top 56
abbrev s_poly_of_nested : Stmt := top 57
abbrev s_value_of_nested : Stmt := top 58
abbrev s__law_pot : Stmt := top 60
abbrev s__law_draw : Stmt := top 61
abbrev s__law_pick : Stmt := top 62
abbrev s__law_low : Stmt := top 63
abbrev s__law_add : Stmt := top 64
abbrev s__law_mul : Stmt := top 65
abbrev s__law_told : Stmt := top 66
abbrev s__law_value : Stmt := top 67
abbrev s__law_ratio : Stmt := top 68
abbrev s__law_terms : Stmt := top 69
abbrev s__law_sums : Stmt := top 70
abbrev s__law_poly : Stmt := top 71
abbrev s__law_point : Stmt := top 72
abbrev s__law_nested : Stmt := top 73
abbrev s__law_terms_of : Stmt := top 74
abbrev s__law_is_nested : Stmt := top 75
abbrev s__law_bent : Stmt := top 76
abbrev s__law_right : Stmt := top 77
abbrev s_law : Stmt := top 78
def dfOf (x : Str) (s : Stmt) (dv : List He.Dv) : He.DefD := ⟨(x, none), x, x, defArgs s, defBody s, defScope s, dv, []⟩
def d_is_integer : He.DefD := dfOf "is_integer" s_is_integer []
def d_is_count : He.DefD := dfOf "is_count" s_is_count []
def d_is_list : He.DefD := dfOf "is_list" s_is_list []
def d_want_many : He.DefD := dfOf "want_many" s_want_many [.non, .int 0]
def d_want_at_most : He.DefD := dfOf "want_at_most" s_want_at_most []
def d_made_ratio : He.DefD := dfOf "made_ratio" s_made_ratio []
def d_add_ratios : He.DefD := dfOf "add_ratios" s_add_ratios []
def d_mul_ratios : He.DefD := dfOf "mul_ratios" s_mul_ratios []
def d_power_ratio : He.DefD := dfOf "power_ratio" s_power_ratio []
def d_is_ratio : He.DefD := dfOf "is_ratio" s_is_ratio []
def d_is_point : He.DefD := dfOf "is_point" s_is_point []
def d_is_term : He.DefD := dfOf "is_term" s_is_term []
def d_is_poly_in : He.DefD := dfOf "is_poly_in" s_is_poly_in []
def d_letters_of : He.DefD := dfOf "letters_of" s_letters_of []
def d_is_any_poly : He.DefD := dfOf "is_any_poly" s_is_any_poly []
def d_want_letters_many : He.DefD := dfOf "want_letters_many" s_want_letters_many []
def d_want_poly : He.DefD := dfOf "want_poly" s_want_poly []
def d_want_poly_in : He.DefD := dfOf "want_poly_in" s_want_poly_in []
def d_want_point_for : He.DefD := dfOf "want_point_for" s_want_point_for []
def d_told_poly : He.DefD := dfOf "told_poly" s_told_poly []
def d_put_more : He.DefD := dfOf "put_more" s_put_more []
def d_degree_of : He.DefD := dfOf "degree_of" s_degree_of []
def d_want_few : He.DefD := dfOf "want_few" s_want_few []
def d_value_of : He.DefD := dfOf "value_of" s_value_of []
def d_poly_of : He.DefD := dfOf "poly_of" s_poly_of []
def d_value_at : He.DefD := dfOf "value_at" s_value_at []
def d_nested_from : He.DefD := dfOf "nested_from" s_nested_from []
def d_terms_from : He.DefD := dfOf "terms_from" s_terms_from []
def d_poly_from : He.DefD := dfOf "poly_from" s_poly_from []
def d_value_from : He.DefD := dfOf "value_from" s_value_from []
def d_has_form : He.DefD := dfOf "has_form" s_has_form []
def d_is_nested_of : He.DefD := dfOf "is_nested_of" s_is_nested_of []
def d_want_nested : He.DefD := dfOf "want_nested" s_want_nested []
def d_is_nested : He.DefD := dfOf "is_nested" s_is_nested []
def d_nested_of : He.DefD := dfOf "nested_of" s_nested_of []
def d_poly_of_nested : He.DefD := dfOf "poly_of_nested" s_poly_of_nested []
def d_value_of_nested : He.DefD := dfOf "value_of_nested" s_value_of_nested []
def d__law_pot : He.DefD := dfOf "_law_pot" s__law_pot []
def d__law_draw : He.DefD := dfOf "_law_draw" s__law_draw []
def d__law_pick : He.DefD := dfOf "_law_pick" s__law_pick []
def d__law_low : He.DefD := dfOf "_law_low" s__law_low []
def d__law_add : He.DefD := dfOf "_law_add" s__law_add []
def d__law_mul : He.DefD := dfOf "_law_mul" s__law_mul []
def d__law_told : He.DefD := dfOf "_law_told" s__law_told []
def d__law_value : He.DefD := dfOf "_law_value" s__law_value []
def d__law_ratio : He.DefD := dfOf "_law_ratio" s__law_ratio []
def d__law_terms : He.DefD := dfOf "_law_terms" s__law_terms []
def d__law_sums : He.DefD := dfOf "_law_sums" s__law_sums []
def d__law_poly : He.DefD := dfOf "_law_poly" s__law_poly []
def d__law_point : He.DefD := dfOf "_law_point" s__law_point []
def d__law_nested : He.DefD := dfOf "_law_nested" s__law_nested []
def d__law_terms_of : He.DefD := dfOf "_law_terms_of" s__law_terms_of []
def d__law_is_nested : He.DefD := dfOf "_law_is_nested" s__law_is_nested []
def d__law_bent : He.DefD := dfOf "_law_bent" s__law_bent []
def d__law_right : He.DefD := dfOf "_law_right" s__law_right []
def d_law : He.DefD := dfOf "law" s_law []
def fn : List He.DefD := [d_is_integer, d_is_count, d_is_list, d_want_many, d_want_at_most, d_made_ratio, d_add_ratios, d_mul_ratios, d_power_ratio, d_is_ratio, d_is_point, d_is_term, d_is_poly_in, d_letters_of, d_is_any_poly, d_want_letters_many, d_want_poly, d_want_poly_in, d_want_point_for, d_told_poly, d_put_more, d_degree_of, d_want_few, d_value_of, d_poly_of, d_value_at, d_nested_from, d_terms_from, d_poly_from, d_value_from, d_has_form, d_is_nested_of, d_want_nested, d_is_nested, d_nested_of, d_poly_of_nested, d_value_of_nested, d__law_pot, d__law_draw, d__law_pick, d__law_low, d__law_add, d__law_mul, d__law_told, d__law_value, d__law_ratio, d__law_terms, d__law_sums, d__law_poly, d__law_point, d__law_nested, d__law_terms_of, d__law_is_nested, d__law_bent, d__law_right, d_law]
def fa : List He.Fa := [.glo "is_integer", .glo "is_count", .glo "is_list", .glo "want_many", .glo "want_at_most", .glo "made_ratio", .glo "add_ratios", .glo "mul_ratios", .glo "power_ratio", .glo "is_ratio", .glo "is_point", .glo "is_term", .glo "is_poly_in", .glo "letters_of", .glo "is_any_poly", .glo "want_letters_many", .glo "want_poly", .glo "want_poly_in", .glo "want_point_for", .glo "told_poly", .glo "put_more", .glo "degree_of", .glo "want_few", .glo "value_of", .glo "poly_of", .glo "value_at", .glo "nested_from", .glo "terms_from", .glo "poly_from", .glo "value_from", .glo "has_form", .glo "is_nested_of", .glo "want_nested", .glo "is_nested", .glo "nested_of", .glo "poly_of_nested", .glo "value_of_nested", .glo "_law_pot", .glo "_law_draw", .glo "_law_pick", .glo "_law_low", .glo "_law_add", .glo "_law_mul", .glo "_law_told", .glo "_law_value", .glo "_law_ratio", .glo "_law_terms", .glo "_law_sums", .glo "_law_poly", .glo "_law_point", .glo "_law_nested", .glo "_law_terms_of", .glo "_law_is_nested", .glo "_law_bent", .glo "_law_right", .glo "law", .int "MOST_LETTERS_boxes" 8, .int "MOST_LETTERS_polys" 8, .int "MOST_DEGREE" 8, .int "MOST_TERMS" 60, .int "MOST_PASSED" 200, .free "isinstance", .free "int", .free "bool", .free "list", .free "tuple", .free "len", .free "all", .free "any", .free "sum", .free "zip", .free "sorted", .free "max", .free "dict", .free "range", .free "enumerate", .free "abs", .free "divmod", .free "repr"]
abbrev R : PySem.W.OpenRow := PySem.W.OpenLaw.row PySem.Challenge.rw_truecourse_k18_whole_nested_forms
/-! one more Bool: the two tuples and gcd of the module -/
def exB (K : PySem.W.Frag) : Bool := He.tupB K "NOUGHT" [.int 0, .int 1] && (He.tupB K "WHOLE" [.int 1, .int 1] && (He.eqO (PySem.W.nsIn K mainGlobals "NOUGHT") (some (some (.ref (He.ga K "NOUGHT")))) && (He.eqO (PySem.W.nsIn K mainGlobals "WHOLE") (some (some (.ref (He.ga K "WHOLE")))) && He.eqO (PySem.W.nsIn K mainGlobals "gcd") (some (some (.builtin "math.gcd"))))))
abbrev AlY : Type := He.AlD × Bool
def obsY (K : PySem.W.Frag) : AlY := (He.obsD fa fn K, exB K)
def SaysY (K : PySem.W.Frag) : Prop := obsY K = (He.valD fn, true)
def obsYG (g : Addr → Option Obj) : AlY := obsY (He.frG g (He.asD g 4))
def hk : PySem.W.Hook where
  α := AlY
  obs := fun s => obsYG s.heap.get?
  val := fun _ => (He.valD fn, true)
  says := fun _ h => ∃ K : PySem.W.Frag, K.In h ∧ SaysY K
  of := fun _ _ e => ⟨_, He.frG_in, e⟩
  keeps := fun _ _ _ ⟨K, hK, c⟩ k => ⟨K, PySem.W.Frag.In.keeps hK k, c⟩
def ob (s : PySem.W.SharedT) : AlY := obsYG (HandSHeadRun.getT s)
theorem ob_eq (s : PySem.W.SharedT) : ob s = hk.obs s.abs := by
  have e : HandSHeadRun.getT s = s.abs.heap.get? := funext (HandSHeadRun.getT_eq s)
  show obsYG (HandSHeadRun.getT s) = obsYG s.abs.heap.get?
  rw [e]
def names0 : List PySem.Str := ["CourseError", "LimitError", "InvalidPoint", "InvalidPoly", "InvalidMany", "InvalidNested", "InvalidTerms", "TooMany", "is_integer", "is_count"]
def names1 : List PySem.Str := ["is_list", "want_many", "want_at_most", "NOUGHT", "WHOLE", "made_ratio", "add_ratios", "mul_ratios", "power_ratio", "is_ratio"]
def names2 : List PySem.Str := ["MOST_LETTERS_boxes", "is_point", "MOST_LETTERS_polys", "MOST_DEGREE", "MOST_TERMS", "MOST_PASSED", "is_term", "is_poly_in", "letters_of", "is_any_poly"]
def names3 : List PySem.Str := ["want_letters_many", "want_poly", "want_poly_in", "want_point_for", "told_poly", "put_more", "degree_of", "want_few", "value_of", "poly_of"]
def names4 : List PySem.Str := ["value_at", "nested_from", "terms_from", "poly_from", "value_from", "has_form", "is_nested_of", "want_nested", "is_nested", "nested_of"]
def names5 : List PySem.Str := ["poly_of_nested", "value_of_nested", "_law_pot", "_law_draw", "_law_pick", "_law_low", "_law_add", "_law_mul", "_law_told", "_law_value"]
def names6 : List PySem.Str := ["_law_ratio", "_law_terms", "_law_sums", "_law_poly", "_law_point", "_law_nested", "_law_terms_of", "_law_is_nested", "_law_bent", "_law_right"]
def names : List PySem.Str := names0 ++ names1 ++ names2 ++ names3 ++ names4 ++ names5 ++ names6
theorem run (w : World) : HandSHeadRun.RunEqI R (PySem.W.view R.prog [0, 78]) hk ob 20000 names w := by
  unfold HandSHeadRun.RunEqI
  kernel_rfl
end K18

set_option Elab.async false
set_option linter.all false
set_option maxRecDepth 100000
set_option maxHeartbeats 4000000
/-! A typed layer: values of the heap told by Lean data, monotone as the heap grows; expressions evaluate to such values. -/
namespace K18
open PySem PySem.Spec PyProof.Rows L2
/-! ### heaps -/
/-- tuples stay -/
structure TM (H H' : Hp) : Prop where
  t : ∀ b xs, H b = some (.tup xs) → H' b = some (.tup xs)
  f : ∀ b o xs, H b = some (.frz o (.tup xs)) → H' b = some (.frz o (.tup xs))
theorem TM.refl (H : Hp) : TM H H := ⟨fun _ _ h => h, fun _ _ _ h => h⟩
theorem TM.trans {H H1 H2 : Hp} (a : TM H H1) (b : TM H1 H2) : TM H H2 := ⟨fun c xs h => b.t c xs (a.t c xs h), fun c o xs h => b.f c o xs (a.f c o xs h)⟩
theorem TM.same {H H' : Hp} (e : Same H H') : TM H H' := ⟨fun b xs h => e b _ h, fun b o xs h => e b _ h⟩
theorem TM.upd {H : Hp} {p : Addr} {o : HO} (h : ∀ xs, H p ≠ some (.tup xs)) (h' : ∀ ob xs, H p ≠ some (.frz ob (.tup xs))) : TM H (L2.upd H p o) :=
  ⟨fun b xs q => by rw [upd_ne (fun e : b = p => h xs (by rw [← e]; exact q))]; exact q, fun b ob xs q => by rw [upd_ne (fun e : b = p => h' ob xs (by rw [← e]; exact q))]; exact q⟩
theorem TM.lst {H : Hp} {p : Addr} {o : HO} {ys : List V} (h : H p = some (.lst ys)) : TM H (L2.upd H p o) := TM.upd (fun _ q => by rw [h] at q; cases q) (fun _ _ q => by rw [h] at q; cases q)
theorem TM.dT {H : Hp} {p : Addr} {o : HO} {ys : List (List Key × V)} (h : H p = some (.dT ys)) : TM H (L2.upd H p o) := TM.upd (fun _ q => by rw [h] at q; cases q) (fun _ _ q => by rw [h] at q; cases q)
theorem TM.frz {H : Hp} {p : Addr} {o : HO} {ob : Obj} {ys : List (List Key × V)} (h : H p = some (.frz ob (.dT ys))) : TM H (L2.upd H p o) := TM.upd (fun _ q => by rw [h] at q; cases q) (fun _ _ q => by rw [h] at q; cases q)
theorem TM.new {H : Hp} {p : Addr} {o : HO} (h : H p = none) : TM H (L2.upd H p o) := TM.upd (fun _ q => by rw [h] at q; cases q) (fun _ _ q => by rw [h] at q; cases q)
theorem same_new {H : Hp} {p : Addr} {o : HO} (h : H p = none) : Same H (upd H p o) := fun b u q => by rw [upd_ne (ne_of_none q h)]; exact q
/-- an object that H does not know may change -/
theorem same_mut {H H' : Hp} {p : Addr} {o : HO} (e : Same H H') (h : H p = none) : Same H (upd H' p o) := fun b u q => by rw [upd_ne (ne_of_none q h)]; exact e b u q
theorem fresh_back {H H' : Hp} {p : Addr} (e : Same H H') (h : H' p = none) : H p = none := e.free h
theorem tm_seqT {K : PySem.W.Frag} {H H' : Hp} {a : Addr} {xs : List V} (e : TM H H') (h : SqT K H a xs) : SqT K H' a xs := by
  rcases h with (h | ⟨o, h⟩) | h
  · exact .inl (.inl (e.t _ _ h))
  · exact .inl (.inr ⟨o, e.f _ _ _ h⟩)
  · exact .inr h
/-! ### relations -/
abbrev Rel (α : Type) := α → Hp → V → Prop
class Tu {α : Type} (A : Rel α) : Prop where
  tu : ∀ {a : α} {H H' : Hp} {v : V}, TM H H' → A a H v → A a H' v
class Mo {α : Type} (A : Rel α) : Prop where
  mo : ∀ {a : α} {H H' : Hp} {v : V}, Same H H' → A a H v → A a H' v
instance {α : Type} {A : Rel α} [Tu A] : Mo A := ⟨fun e h => Tu.tu (TM.same e) h⟩
abbrev Rt := Int × Int
abbrev Tm := List Int × Rt
def IntV : Rel Int := fun i _ v => v = .int i
def BoolV : Rel Bool := fun b _ v => v = .bl b
def NonV : Rel Unit := fun _ _ v => v = .non
def AnyV : Rel Unit := fun _ _ _ => True
def StrV : Rel Str := fun s _ v => v = .str s
instance : Tu IntV := ⟨fun _ h => h⟩
instance : Tu BoolV := ⟨fun _ h => h⟩
instance : Tu NonV := ⟨fun _ h => h⟩
instance : Tu AnyV := ⟨fun _ h => h⟩
instance : Tu StrV := ⟨fun _ h => h⟩
def KeyV : Rel (List Int) := fun ks H v => ∃ a, v = .ref a ∧ H a = some (.tup (ks.map V.int))
instance : Tu KeyV := ⟨fun e h => let ⟨a, q, h⟩ := h; ⟨a, q, e.t _ _ h⟩⟩
section
variable (K : PySem.W.Frag)
def RatV : Rel Rt := fun r H v => ∃ a, v = .ref a ∧ SqT K H a [.int r.1, .int r.2]
instance : Tu (RatV K) := ⟨fun e h => let ⟨a, q, h⟩ := h; ⟨a, q, tm_seqT e h⟩⟩
def PairV {α β : Type} (A : Rel α) (B : Rel β) : Rel (α × β) := fun p H v => ∃ a x y, v = .ref a ∧ SqT K H a [x, y] ∧ A p.1 H x ∧ B p.2 H y
instance {α β : Type} {A : Rel α} {B : Rel β} [Tu A] [Tu B] : Tu (PairV K A B) := ⟨fun e h => let ⟨a, x, y, q, h, h1, h2⟩ := h; ⟨a, x, y, q, tm_seqT e h, Tu.tu e h1, Tu.tu e h2⟩⟩
abbrev All2 {α : Type} (A : Rel α) (H : Hp) : List V → List α → Prop := Paired fun v a => A a H v
theorem All2.tu {α : Type} {A : Rel α} [Tu A] {H H' : Hp} {vs : List V} {l : List α} (e : TM H H') (h : All2 A H vs l) : All2 A H' vs l := Paired.mapP h fun _ _ q => Tu.tu e q
theorem All2.mo {α : Type} {A : Rel α} [Mo A] {H H' : Hp} {vs : List V} {l : List α} (e : Same H H') (h : All2 A H vs l) : All2 A H' vs l := Paired.mapP h fun _ _ q => Mo.mo e q
def TupV {α : Type} (A : Rel α) : Rel (List α) := fun l H v => ∃ a xs, v = .ref a ∧ SqT K H a xs ∧ All2 A H xs l
instance {α : Type} {A : Rel α} [Tu A] : Tu (TupV K A) := ⟨fun e h => let ⟨a, xs, q, h, h1⟩ := h; ⟨a, xs, q, tm_seqT e h, All2.tu e h1⟩⟩
abbrev TermV : Rel Tm := PairV K KeyV (RatV K)
abbrev PolyV : Rel (List Tm) := TupV K (TermV K)
def DatV : Rel PyData := fun d H v => Dp K H v d
end
def LstV {α : Type} (A : Rel α) : Rel (List α) := fun l H v => ∃ a xs, v = .ref a ∧ H a = some (.lst xs) ∧ All2 A H xs l
instance {α : Type} {A : Rel α} [Mo A] : Mo (LstV A) := ⟨fun e h => let ⟨a, xs, q, h, h1⟩ := h; ⟨a, xs, q, e _ _ h, All2.mo e h1⟩⟩
abbrev kk (ks : List Int) : List Key := ks.map Sum.inl
theorem kk_map (ks : List Int) : (kk ks).map kV = ks.map V.int := by rw [List.map_map]; rfl
theorem kk_inj {a b : List Int} (h : kk a = kk b) : a = b := (List.map_inj_right (fun _ _ e => Sum.inl.inj e)).mp h
abbrev Ent {α : Type} (A : Rel α) (H : Hp) : List (List Key × V) → List (List Int × α) → Prop := Paired fun kv p => kv.1 = kk p.1 ∧ A p.2 H kv.2
theorem Ent.tu {α : Type} {A : Rel α} [Tu A] {H H' : Hp} {kvs : List (List Key × V)} {l : List (List Int × α)} (e : TM H H') (h : Ent A H kvs l) : Ent A H' kvs l := Paired.mapP h fun _ _ q => ⟨q.1, Tu.tu e q.2⟩
def DicV {α : Type} (A : Rel α) : Rel (List (List Int × α)) := fun l H v => ∃ a kvs, v = .ref a ∧ H a = some (.dT kvs) ∧ Ent A H kvs l
instance {α : Type} {A : Rel α} [Tu A] : Mo (DicV A) := ⟨fun e h => let ⟨a, xs, q, h, h1⟩ := h; ⟨a, xs, q, e _ _ h, Ent.tu (TM.same e) h1⟩⟩
/-! data -/
mutual
theorem dp_mo {K : PySem.W.Frag} {H H' : Hp} (e : Same H H') : ∀ (d : PyData) {v : V}, Dp K H v d → Dp K H' v d
  | .none, _, h => by cases h; exact .non
  | .bool b, _, h => by cases h; exact .bl b
  | .int i, _, h => by cases h; exact .int i
  | .str x, _, h => by cases h; exact .str x
  | .list ds, _, h => by cases h with | lst h1 h2 => exact .lst (e.seq h1) (dpa_mo e ds h2)
  | .tuple ds, _, h => by cases h with | tup h1 h2 => exact .tup (tm_seqT (TM.same e) h1) (dpa_mo e ds h2)
  | .dict _, _, h => by cases h
theorem dpa_mo {K : PySem.W.Frag} {H H' : Hp} (e : Same H H') : ∀ (ds : List PyData) {vs : List V}, DpAll K H vs ds → DpAll K H' vs ds
  | [], _, h => by cases h; exact .nil
  | d :: ds, _, h => by cases h with | cons h1 h2 => exact .cons (dp_mo e d h1) (dpa_mo e ds h2)
end
instance {K : PySem.W.Frag} : Mo (DatV K) := ⟨fun e h => dp_mo e _ h⟩
/-- no list, no dict within -/
def puD : PyData → Bool
  | .list _ => false
  | .dict _ => false
  | .tuple ds => ds.attach.all fun ⟨d, _⟩ => puD d
  | _ => true
theorem puD_tuple (ds : List PyData) : puD (.tuple ds) = ds.all puD := by
  rw [puD]
  simp [List.all_eq_true]
mutual
theorem dp_tu {K : PySem.W.Frag} {H H' : Hp} (e : TM H H') : ∀ (d : PyData) {v : V}, puD d = true → Dp K H v d → Dp K H' v d
  | .none, _, _, h => by cases h; exact .non
  | .bool b, _, _, h => by cases h; exact .bl b
  | .int i, _, _, h => by cases h; exact .int i
  | .str x, _, _, h => by cases h; exact .str x
  | .list ds, _, p, _ => by rw [puD] at p; cases p
  | .tuple ds, _, p, h => by cases h with | tup h1 h2 => exact .tup (tm_seqT e h1) (dpa_tu e ds (by rw [puD_tuple] at p; exact p) h2)
  | .dict _, _, _, h => by cases h
theorem dpa_tu {K : PySem.W.Frag} {H H' : Hp} (e : TM H H') : ∀ (ds : List PyData) {vs : List V}, ds.all puD = true → DpAll K H vs ds → DpAll K H' vs ds
  | [], _, _, h => by cases h; exact .nil
  | d :: ds, _, p, h => by
    rw [List.all_cons, Bool.and_eq_true] at p
    cases h with | cons h1 h2 => exact .cons (dp_tu e d p.1 h1) (dpa_tu e ds p.2 h2)
end
/-- data without lists -/
def PurV (K : PySem.W.Frag) : Rel PyData := fun d H v => puD d = true ∧ Dp K H v d
instance {K : PySem.W.Frag} : Tu (PurV K) := ⟨fun e h => ⟨h.1, dp_tu e _ h.1 h.2⟩⟩
theorem PurV.dat {K : PySem.W.Frag} {d : PyData} {H : Hp} {v : V} (h : PurV K d H v) : DatV K d H v := h.2
theorem dpAll_iff {K : PySem.W.Frag} {H : Hp} : ∀ {vs : List V} {ds : List PyData}, DpAll K H vs ds ↔ All2 (DatV K) H vs ds
  | [], [] => ⟨fun _ => .nil, fun _ => .nil⟩
  | [], _ :: _ => ⟨fun h => (nomatch h), fun h => (nomatch h)⟩
  | _ :: _, [] => ⟨fun h => (nomatch h), fun h => (nomatch h)⟩
  | v :: vs, d :: ds => ⟨fun h => by cases h with | cons a b => exact .cons a (dpAll_iff.mp b), fun h => by cases h with | cons a b => exact .cons a (dpAll_iff.mpr b)⟩
/-! ### what evaluates to what -/
def ER (te : TE) (σ : L2.St) (H : Hp) (R : Hp → V → Prop) : Prop := ∀ H1, Same H H1 → ∀ Q : VK, (∀ v H2, Same H1 H2 → R H2 v → Q v H2) → te σ H1 Q
def ET (tt : TT) (σ : L2.St) (H : Hp) (b : Bool) : Prop := ∀ H1, Same H H1 → ∀ Q : Bool → Hp → Prop, (∀ H2, Same H1 H2 → Q b H2) → tt σ H1 Q
def EO (to : TO) (σ : L2.St) (H : Hp) (o : Option Int) : Prop := ∀ H1, Same H H1 → ∀ Q : Option Int → Hp → Prop, (∀ H2, Same H1 H2 → Q o H2) → to σ H1 Q
section
variable {K : PySem.W.Frag} {σ : L2.St} {H H' : Hp} {ta tb tc te : TE} {t u : TT} {α β γ δ : Type} {A : Rel α} {B : Rel β} {C : Rel γ} {D : Rel δ} {a : α} {b : β} {c : γ} {x y z v : V} {r : R2}
theorem ER.mono {R : Hp → V → Prop} (e : Same H H') (h : ER te σ H R) : ER te σ H' R := fun H1 a Q q => h H1 (e.trans a) Q q
theorem ET.mono {k : Bool} (e : Same H H') (h : ET t σ H k) : ET t σ H' k := fun H1 a Q q => h H1 (e.trans a) Q q
theorem ER.imp {R R' : Hp → V → Prop} (h : ER te σ H R) (k : ∀ H2 v, R H2 v → R' H2 v) : ER te σ H R' := fun H1 a Q q => h H1 a Q fun v H2 e hv => q v H2 e (k H2 v hv)
theorem ER.eq {a' : α} (h : ER te σ H (A a)) (e : a = a') : ER te σ H (A a') := e ▸ h
theorem ET.eq {k k' : Bool} (h : ET t σ H k) (e : k = k') : ET t σ H k' := e ▸ h
theorem er_var [Mo A] (i : Nat) (h : σ[i]? = some (some v)) (ha : A a H v) : ER (tVar i) σ H (A a) := fun H1 e _ q => ⟨v, h, q v H1 (Same.refl H1) (Mo.mo e ha)⟩
theorem er_c [Mo A] (ha : A a H v) : ER (tC v) σ H (A a) := fun H1 e _ q => q v H1 (Same.refl H1) (Mo.mo e ha)
theorem er_int {i : Int} : ER (tC (.int i)) σ H (IntV i) := er_c rfl
theorem er_bl {k : Bool} : ER (tC (.bl k)) σ H (BoolV k) := er_c rfl
/-- ints -/
theorem er_I0 {g : Int → Int → Int} {i j : Int} (ha : ER ta σ H (IntV i)) (hb : ER tb σ H (IntV j)) : ER (tOp (rI0 fun i j => .int (g i j)) ta tb) σ H (IntV (g i j)) := fun H1 e Q q =>
  ha H1 e _ fun x H2 e2 hx => hb H2 (e.trans e2) _ fun y H3 e3 hy => ⟨i, j, hx, hy, q _ H3 (e2.trans e3) rfl⟩
theorem er_I {P : Int → Int → Prop} {g : Int → Int → Int} {i j : Int} (ha : ER ta σ H (IntV i)) (hb : ER tb σ H (IntV j)) (hp : P i j) : ER (tOp (rI P fun i j => .int (g i j)) ta tb) σ H (IntV (g i j)) := fun H1 e Q q =>
  ha H1 e _ fun x H2 e2 hx => hb H2 (e.trans e2) _ fun y H3 e3 hy => ⟨i, j, hx, hy, hp, q _ H3 (e2.trans e3) rfl⟩
theorem er_IB {g : Int → Int → Bool} {i j : Int} (ha : ER ta σ H (IntV i)) (hb : ER tb σ H (IntV j)) : ER (tOp (rI0 fun i j => .bl (g i j)) ta tb) σ H (BoolV (g i j)) := fun H1 e Q q =>
  ha H1 e _ fun x H2 e2 hx => hb H2 (e.trans e2) _ fun y H3 e3 hy => ⟨i, j, hx, hy, q _ H3 (e2.trans e3) rfl⟩
theorem er_eqI {i j : Int} (ha : ER ta σ H (IntV i)) (hb : ER tb σ H (IntV j)) : ER (tOp rEq ta tb) σ H (BoolV (decide (i = j))) := fun H1 e Q q =>
  ha H1 e _ fun x H2 e2 hx => hb H2 (e.trans e2) _ fun y H3 e3 hy => by
    cases hx; cases hy
    refine ⟨rfl, q _ H3 (e2.trans e3) ?_⟩
    show V.bl _ = V.bl _
    rw [dec_int, Bool.beq_eq_decide_eq]
theorem er_neI {i j : Int} (ha : ER ta σ H (IntV i)) (hb : ER tb σ H (IntV j)) : ER (tOp rNe ta tb) σ H (BoolV (!decide (i = j))) := fun H1 e Q q =>
  ha H1 e _ fun x H2 e2 hx => hb H2 (e.trans e2) _ fun y H3 e3 hy => by
    cases hx; cases hy
    refine ⟨rfl, q _ H3 (e2.trans e3) ?_⟩
    show V.bl _ = V.bl _
    rw [dec_int, Bool.beq_eq_decide_eq]
theorem er_neg {i : Int} (ha : ER ta σ H (IntV i)) : ER (tUn (rU fun i => .int (-i)) ta) σ H (IntV (-i)) := fun H1 e Q q =>
  ha H1 e _ fun x H2 e2 hx => ⟨i, hx, q _ H2 e2 rfl⟩
/-- == of data -/
theorem er_eqD {d e : PyData} (ha : ER ta σ H (DatV K d)) (hb : ER tb σ H (DatV K e)) (sd : SeqAt.shaped d = true) (se : SeqAt.shaped e = true) : ER (tOp (rEqD K) ta tb) σ H (BoolV (PyData.eqv d e)) := fun H1 e Q q =>
  ha H1 e _ fun x H2 e2 hx => hb H2 (e.trans e2) _ fun y H3 e3 hy => ⟨_, _, Mo.mo e3 hx, hy, sd, se, q _ H3 (e2.trans e3) rfl⟩
theorem er_neD {d e : PyData} (ha : ER ta σ H (DatV K d)) (hb : ER tb σ H (DatV K e)) (sd : SeqAt.shaped d = true) (se : SeqAt.shaped e = true) : ER (tOp (rNeD K) ta tb) σ H (BoolV (!PyData.eqv d e)) := fun H1 e Q q =>
  ha H1 e _ fun x H2 e2 hx => hb H2 (e.trans e2) _ fun y H3 e3 hy => ⟨_, _, Mo.mo e3 hx, hy, sd, se, q _ H3 (e2.trans e3) rfl⟩
/-- tests -/
theorem et_test {k : Bool} (h : ER te σ H (BoolV k)) : ET (tTest te) σ H k := fun H1 e _ q => h H1 e _ fun v H2 e2 hv => ⟨k, hv, q H2 e2⟩
theorem et_B {k : Bool} (h : ER te σ H (BoolV k)) : ET (tB te) σ H k := fun H1 e _ q => h H1 e _ fun v H2 e2 hv => ⟨k, hv, q H2 e2⟩
theorem et_and {j k : Bool} (h1 : ET t σ H j) (h2 : j = true → ET u σ H k) : ET (tAnd t u) σ H (j && k) := fun H1 e Q q => h1 H1 e _ fun H2 e2 => by
  cases j with
  | true => exact h2 rfl H2 (e.trans e2) Q fun H3 e3 => q H3 (e2.trans e3)
  | false => exact q H2 e2
theorem et_or {j k : Bool} (h1 : ET t σ H j) (h2 : j = false → ET u σ H k) : ET (tOr t u) σ H (j || k) := fun H1 e Q q => h1 H1 e _ fun H2 e2 => by
  cases j with
  | true => exact q H2 e2
  | false => exact h2 rfl H2 (e.trans e2) Q fun H3 e3 => q H3 (e2.trans e3)
theorem et_not {j : Bool} (h1 : ET t σ H j) : ET (tNot t) σ H (!j) := fun H1 e _ q => h1 H1 e _ fun H2 e2 => q H2 e2
theorem et_yes : ET tYes σ H true := fun H1 _ _ q => q H1 (Same.refl H1)
theorem er_andV {j k : Bool} (h1 : ER ta σ H (BoolV j)) (h2 : j = true → ER tb σ H (BoolV k)) : ER (tAndV ta tb) σ H (BoolV (j && k)) := fun H1 e Q q => h1 H1 e _ fun x H2 e2 hx => ⟨j, hx, by
  cases j with
  | true => exact h2 rfl H2 (e.trans e2) Q fun v H3 e3 hv => q v H3 (e2.trans e3) hv
  | false => exact q _ H2 e2 rfl⟩
theorem er_orV {j k : Bool} (h1 : ER ta σ H (BoolV j)) (h2 : j = false → ER tb σ H (BoolV k)) : ER (tOrV ta tb) σ H (BoolV (j || k)) := fun H1 e Q q => h1 H1 e _ fun x H2 e2 hx => ⟨j, hx, by
  cases j with
  | true => exact q _ H2 e2 rfl
  | false => exact h2 rfl H2 (e.trans e2) Q fun v H3 e3 hv => q v H3 (e2.trans e3) hv⟩
theorem er_notV {j : Bool} (h1 : ER ta σ H (BoolV j)) : ER (tNotV ta) σ H (BoolV (!j)) := fun H1 e _ q => h1 H1 e _ fun x H2 e2 hx => ⟨j, hx, q _ H2 e2 rfl⟩
theorem er_if {j : Bool} {R : Hp → V → Prop} (h : ET t σ H j) (h1 : j = true → ER ta σ H R) (h2 : j = false → ER tb σ H R) : ER (tIf t ta tb) σ H R := fun H1 e Q q => h H1 e _ fun H2 e2 => by
  cases j with
  | true => exact h1 rfl H2 (e.trans e2) Q fun v H3 e3 hv => q v H3 (e2.trans e3) hv
  | false => exact h2 rfl H2 (e.trans e2) Q fun v H3 e3 hv => q v H3 (e2.trans e3) hv
/-- tuples of two -/
theorem er_pair [Mo A] (ha : ER ta σ H (A a)) (hb : ER tb σ H (B b)) [Mo B] : ER (tTup (tCons ta (tCons tb tNil))) σ H (PairV K A B (a, b)) := fun H1 e Q q =>
  ha H1 e _ fun x H2 e2 hx => hb H2 (e.trans e2) _ fun y H3 e3 hy => ⟨(by show 2 ≤ sizeLine; decide), fun p hp =>
    q _ _ ((e2.trans e3).trans (same_new hp)) ⟨p, x, y, rfl, SqT.of upd_same, Mo.mo (e3.trans (same_new hp)) hx, Mo.mo (same_new hp) hy⟩⟩
theorem er_rat {i j : Int} (ha : ER ta σ H (IntV i)) (hb : ER tb σ H (IntV j)) : ER (tTup (tCons ta (tCons tb tNil))) σ H (RatV K (i, j)) := fun H1 e Q q =>
  ha H1 e _ fun x H2 e2 hx => hb H2 (e.trans e2) _ fun y H3 e3 hy => ⟨(by show 2 ≤ sizeLine; decide), fun p hp => by
    cases hx; cases hy
    exact q _ _ ((e2.trans e3).trans (same_new hp)) ⟨p, rfl, SqT.of upd_same⟩⟩
/-- subscripts of written places -/
theorem er_rat0 {r : Rt} (ha : ER ta σ H (RatV K r)) : ER (tOp (rIxT K) ta (tC (.int 0))) σ H (IntV r.1) := fun H1 e Q q =>
  ha H1 e _ fun x H2 e2 hx => let ⟨p, ex, hp⟩ := hx; ⟨p, _, 0, _, ex, rfl, hp, atI_nat (j := 0) rfl, q _ H2 e2 rfl⟩
theorem er_rat1 {r : Rt} (ha : ER ta σ H (RatV K r)) : ER (tOp (rIxT K) ta (tC (.int 1))) σ H (IntV r.2) := fun H1 e Q q =>
  ha H1 e _ fun x H2 e2 hx => let ⟨p, ex, hp⟩ := hx; ⟨p, _, 1, _, ex, rfl, hp, atI_nat (j := 1) rfl, q _ H2 e2 rfl⟩
theorem er_fst {p : α × β} (ha : ER ta σ H (PairV K A B p)) : ER (tOp (rIxT K) ta (tC (.int 0))) σ H (A p.1) := fun H1 e Q q =>
  ha H1 e _ fun x H2 e2 hx => let ⟨p, u, w, ex, hp, h1, h2⟩ := hx; ⟨p, _, 0, _, ex, rfl, hp, atI_nat (j := 0) rfl, q _ H2 e2 h1⟩
theorem er_snd {p : α × β} (ha : ER ta σ H (PairV K A B p)) : ER (tOp (rIxT K) ta (tC (.int 1))) σ H (B p.2) := fun H1 e Q q =>
  ha H1 e _ fun x H2 e2 hx => let ⟨p, u, w, ex, hp, h1, h2⟩ := hx; ⟨p, _, 1, _, ex, rfl, hp, atI_nat (j := 1) rfl, q _ H2 e2 h2⟩
theorem er_key0 {i : Int} {ks : List Int} (ha : ER ta σ H (KeyV (i :: ks))) : ER (tOp (rIxT K) ta (tC (.int 0))) σ H (IntV i) := fun H1 e Q q =>
  ha H1 e _ fun x H2 e2 hx => let ⟨p, ex, hp⟩ := hx; ⟨p, _, 0, _, ex, rfl, SqT.of hp, atI_nat (j := 0) rfl, q _ H2 e2 rfl⟩
/-- calls -/
def Pr1 (A : Rel α) (B : Rel β) (pre : α → Prop) (f : α → β) : Sp := fun vs H Q _ => ∃ a v, vs = [v] ∧ A a H v ∧ pre a ∧ ∀ r H', Same H H' → B (f a) H' r → Q r H'
def Pr2 (A : Rel α) (B : Rel β) (C : Rel γ) (pre : α → β → Prop) (f : α → β → γ) : Sp := fun vs H Q _ => ∃ a b v w, vs = [v, w] ∧ A a H v ∧ B b H w ∧ pre a b ∧ ∀ r H', Same H H' → C (f a b) H' r → Q r H'
def Pr3 (A : Rel α) (B : Rel β) (C : Rel γ) (D : Rel δ) (pre : α → β → γ → Prop) (f : α → β → γ → δ) : Sp := fun vs H Q _ => ∃ a b c v w x, vs = [v, w, x] ∧ A a H v ∧ B b H w ∧ C c H x ∧ pre a b c ∧ ∀ r H', Same H H' → D (f a b c) H' r → Q r H'
theorem er_call1 {pre : α → Prop} {f : α → β} (ha : ER ta σ H (A a)) (hp : pre a) : ER (tCall (Pr1 A B pre f) [] E0 (tCons ta tNil)) σ H (B (f a)) := fun H1 e Q q =>
  ha H1 e _ fun x H2 e2 hx => ⟨a, x, rfl, hx, hp, fun r H3 e3 hr => q r H3 (e2.trans e3) hr⟩
theorem er_call2 [Mo A] {pre : α → β → Prop} {f : α → β → γ} (ha : ER ta σ H (A a)) (hb : ER tb σ H (B b)) (hp : pre a b) : ER (tCall (Pr2 A B C pre f) [] E0 (tCons ta (tCons tb tNil))) σ H (C (f a b)) := fun H1 e Q q =>
  ha H1 e _ fun x H2 e2 hx => hb H2 (e.trans e2) _ fun y H3 e3 hy => ⟨a, b, x, y, rfl, Mo.mo e3 hx, hy, hp, fun r H4 e4 hr => q r H4 ((e2.trans e3).trans e4) hr⟩
theorem er_call3 [Mo A] [Mo B] {pre : α → β → γ → Prop} {f : α → β → γ → δ} (ha : ER ta σ H (A a)) (hb : ER tb σ H (B b)) (hc : ER tc σ H (C c)) (hp : pre a b c) : ER (tCall (Pr3 A B C D pre f) [] E0 (tCons ta (tCons tb (tCons tc tNil)))) σ H (D (f a b c)) := fun H1 e Q q =>
  ha H1 e _ fun x H2 e2 hx => hb H2 (e.trans e2) _ fun y H3 e3 hy => hc H3 ((e.trans e2).trans e3) _ fun z H4 e4 hz => ⟨a, b, c, x, y, z, rfl, Mo.mo (e3.trans e4) hx, Mo.mo e4 hy, hz, hp, fun r H5 e5 hr => q r H5 (((e2.trans e3).trans e4).trans e5) hr⟩
/-- built-ins -/
theorem er_CB1 {rr : List V → Hp → VK → Prop} {R R' : Hp → V → Prop} (ha : ER ta σ H R) (hr : ∀ x H1, Same H H1 → R H1 x → ∀ Q : VK, (∀ v H2, Same H1 H2 → R' H2 v → Q v H2) → rr [x] H1 Q) : ER (tCB rr (tCons ta tNil)) σ H R' := fun H1 e Q q =>
  ha H1 e _ fun x H2 e2 hx => hr x H2 (e.trans e2) hx Q fun v H3 e3 hv => q v H3 (e2.trans e3) hv
theorem er_CB2 {rr : List V → Hp → VK → Prop} {S R' : Hp → V → Prop} [Mo A] (ha : ER ta σ H (A a)) (hb : ER tb σ H S) (hr : ∀ x y H1, Same H H1 → A a H1 x → S H1 y → ∀ Q : VK, (∀ v H2, Same H1 H2 → R' H2 v → Q v H2) → rr [x, y] H1 Q) : ER (tCB rr (tCons ta (tCons tb tNil))) σ H R' := fun H1 e Q q =>
  ha H1 e _ fun x H2 e2 hx => hb H2 (e.trans e2) _ fun y H3 e3 hy => hr x y H3 ((e.trans e2).trans e3) (Mo.mo e3 hx) hy Q fun v H4 e4 hv => q v H4 ((e2.trans e3).trans e4) hv
theorem er_op {S R' : Hp → V → Prop} [Mo A] (ha : ER ta σ H (A a)) (hb : ER tb σ H S) (hr : ∀ x y H1, Same H H1 → A a H1 x → S H1 y → ∀ Q : VK, (∀ v H2, Same H1 H2 → R' H2 v → Q v H2) → r x y H1 Q) : ER (tOp r ta tb) σ H R' := fun H1 e Q q =>
  ha H1 e _ fun x H2 e2 hx => hb H2 (e.trans e2) _ fun y H3 e3 hy => hr x y H3 ((e.trans e2).trans e3) (Mo.mo e3 hx) hy Q fun v H4 e4 hv => q v H4 ((e2.trans e3).trans e4) hv
theorem er_gcd {i j : Int} (ha : ER ta σ H (IntV i)) (hb : ER tb σ H (IntV j)) : ER (tCB rGcd (tCons ta (tCons tb tNil))) σ H (IntV ((Nat.gcd i.natAbs j.natAbs : Nat) : Int)) :=
  er_CB2 ha hb fun x y H1 _ hx hy Q q => ⟨i, j, by rw [show x = .int i from hx, show y = .int j from hy], q _ H1 (Same.refl _) rfl⟩
end
/-! ### statements -/
section
variable {K : PySem.W.Frag} {σ : L2.St} {H H' : Hp} {te : TE} {t : TT} {D : Ends} {tu tw tz : TS} {R : Hp → V → Prop}
theorem s_ret (h : ER te σ H R) (k : ∀ v H1, Same H H1 → R H1 v → D.rt v H1) : tRet te D σ H := h H (Same.refl H) _ k
theorem s_set (i : Nat) (h : ER te σ H R) (k : ∀ v H1, Same H H1 → R H1 v → tz D (σ.set i (some v)) H1) : tSeq (tAsg te (gName i)) tz D σ H := h H (Same.refl H) _ k
theorem s_set1 (i : Nat) (h : ER te σ H R) (k : ∀ v H1, Same H H1 → R H1 v → D.nx (σ.set i (some v)) H1) : tAsg te (gName i) D σ H := h H (Same.refl H) _ k
theorem s_drop (h : ER te σ H R) (k : ∀ v H1, Same H H1 → R H1 v → tz D σ H1) : tSeq (tDrop te) tz D σ H := h H (Same.refl H) _ fun v H1 e hv => k v H1 e hv
theorem s_when {b : Bool} (h : ET t σ H b) (h1 : b = true → ∀ H1, Same H H1 → tu { D with nx := tz D } σ H1) (h2 : b = false → ∀ H1, Same H H1 → tz D σ H1) : tSeq (tIfS t tu tNext) tz D σ H :=
  h H (Same.refl H) _ fun H1 e => by
    cases b with
    | true => exact h1 rfl H1 e
    | false => exact h2 rfl H1 e
theorem s_when1 {b : Bool} (h : ET t σ H b) (h1 : b = true → ∀ H1, Same H H1 → tu D σ H1) (h2 : b = false → ∀ H1, Same H H1 → D.nx σ H1) : tIfS t tu tNext D σ H :=
  h H (Same.refl H) _ fun H1 e => by
    cases b with
    | true => exact h1 rfl H1 e
    | false => exact h2 rfl H1 e
end
/-! ### comprehensions -/
section
variable {K : PySem.W.Frag} {σ : L2.St} {H : Hp} {te tl : TE} {tt : TT} {g : TG} {vs : List Nat} {α β : Type} {A : Rel α} {B : Rel β}
theorem sz_of {n : Nat} (h : n ≤ 100000) : n ≤ sizeLine := Nat.le_trans h (by decide)
theorem sz_lt {n : Nat} (h : n < 100000) : n < sizeLine := Nat.lt_of_lt_of_le h (by decide)
/-- what a turn of a comprehension does with the item x, told by a -/
def Turn1 (g : TG) (tt : TT) (te : TE) (vs : List Nat) (σ : L2.St) (B : Rel β) (x : V) (H : Hp) (f : Bool) (b : β) : Prop :=
  ∃ σ2 : L2.St, (∀ q : L2.St → Hp → Prop, q σ2 H → g x (wipe σ vs) H q) ∧ wipe σ2 vs = wipe σ vs ∧ ET tt σ2 H f ∧ (f = true → ER te σ2 H (B b))
theorem lc_main {J : It} {n : Nat} {G : Hp → Prop} {Y : Nat → Hp → V → Hp → Prop} (w : Walk J n G Y) (l : List α) (hn : l.length = n) (f : α → Bool) (k : α → β) [Tu B] {H1 : Hp} {D : Addr} {Qd : Hp → Prop} (hD : H1 D = none) (hG : ∀ H', Same H1 H' → G H')
    (turn : ∀ (i : Nat) (a : α) (x : V) (H' H'' : Hp), l[i]? = some a → Same H1 H' → Y i H' x H'' → Same H' H'' ∧ Turn1 g tt te vs σ B x H'' (f a) (k a)) (hz : n ≤ 50000)
    (hd : ∀ H', Same H1 H' → (∃ acc, H' D = some (.lst acc) ∧ All2 B H' acc ((l.filter f).map k)) → Qd H') :
    ∃ W : Nat → Nat → Hp → Prop, (∃ m, W 0 m (upd H1 D (.lst []))) ∧ ∀ i m H, W i m H →
      (J.stop i H ∧ Qd H) ∨ (J.go i H ∧ ∃ Nx : Hp → Prop, (∀ H', Nx H' → ∃ m', m' < m ∧ W (i + 1) m' H') ∧ ∀ x H', J.yld i H x H' → g x (wipe σ vs) H' fun σ2 H2 => wipe σ2 vs = wipe σ vs ∧ tt σ2 H2 fun b H3 =>
        if b = true then te σ2 H3 fun y H4 => ∃ acc, H4 D = some (.lst acc) ∧ acc.length < sizeLine ∧ Nx (upd H4 D (.lst (acc ++ [y]))) else Nx H3) := by
  refine lc_it w (fun i H' => Same H1 H' ∧ ∃ acc, H' D = some (.lst acc) ∧ All2 B H' acc (((l.take i).filter f).map k)) ⟨same_mut (Same.refl _) hD, [], upd_same, .nil⟩ (fun i H' _ p => hG H' p.1) (fun i x H' H'' hi p y => ?_) (fun H' p => ?_)
  · obtain ⟨e, acc, ha, h2⟩ := p
    have hi' : i < l.length := by omega
    have hx : l[i]? = some l[i] := List.getElem?_eq_getElem hi'
    obtain ⟨e2, σ2, hg, hw, ht, he⟩ := turn i _ x H' H'' hx e y
    refine hg _ ⟨hw, ht H'' (Same.refl _) _ fun H3 e3 => ?_⟩
    have h4 : acc.length ≤ i := by
      have := Paired.length h2
      rw [List.length_map] at this
      have h5 := List.length_filter_le f (l.take i)
      rw [List.length_take] at h5
      omega
    have tk : l.take (i + 1) = l.take i ++ [l[i]] := by rw [List.take_add_one, hx]; rfl
    cases hf : f l[i] with
    | true =>
      rw [if_pos rfl]
      refine he hf H3 e3 _ fun v H4 e4 hv => ⟨acc, e4 _ _ (e3 _ _ (e2 _ _ ha)), sz_lt (by omega), same_mut ((e.trans e2).trans (e3.trans e4)) hD, _, upd_same, ?_⟩
      have tm : TM H4 (upd H4 D (.lst (acc ++ [v]))) := TM.lst (e4 _ _ (e3 _ _ (e2 _ _ ha)))
      rw [tk, List.filter_append, List.filter_cons, if_pos hf, List.map_append]
      exact Paired.snoc (All2.tu ((TM.same (e2.trans (e3.trans e4))).trans tm) h2) (Tu.tu tm hv)
    | false =>
      rw [if_neg Bool.false_ne_true]
      refine ⟨(e.trans e2).trans e3, acc, e3 _ _ (e2 _ _ ha), ?_⟩
      rw [tk, List.filter_append, List.filter_cons, if_neg (by rw [hf]; exact Bool.false_ne_true)]
      show All2 B H3 acc ((List.filter f (List.take i l) ++ []).map k)
      rw [List.append_nil]
      exact All2.tu (TM.same (e2.trans e3)) h2
  · obtain ⟨e, acc, ha, h2⟩ := p
    refine hd H' e ⟨acc, ha, ?_⟩
    rw [List.take_of_length_le (by omega)] at h2
    exact h2
theorem paired_at {γ δ : Type} {F : γ → δ → Prop} : ∀ {l : List γ} {m : List δ} {i : Nat} {x : γ} {y : δ}, Paired F l m → l[i]? = some x → m[i]? = some y → F x y
  | _, _, _, _, _, .nil, h, _ => by simp at h
  | _, _, 0, _, _, .cons p _, h1, h2 => by simp at h1 h2; subst h1 h2; exact p
  | _, _, i + 1, _, _, .cons _ t, h1, h2 => paired_at (i := i) t (by simpa using h1) (by simpa using h2)
/-- over a tuple, a list -/
theorem er_lcT [Mo A] [Tu B] {l : List α} (f : α → Bool) (k : α → β) (h : ER tl σ H (TupV K A l)) (hz : l.length ≤ 50000)
    (turn : ∀ a x H1, a ∈ l → Same H H1 → A a H1 x → Turn1 g tt te vs σ B x H1 (f a) (k a)) : ER (tLc (iTup K tl) g tt te vs) σ H (LstV B ((l.filter f).map k)) := fun H0 e0 Q q => h H0 e0 _ fun v H1 e1 hv => by
  obtain ⟨a, xs, rfl, hs, h2⟩ := hv
  have hl := Paired.length h2
  refine ⟨a, rfl, ⟨xs, hs⟩, fun D hD => lc_main (B := B) (walk_tup (xs := xs)) l hl.symm f k hD (fun H' e => tm_seqT (TM.same e) hs) (fun i b x H' H'' hb e y => ?_) (by omega) (fun H' e hr => ?_)⟩
  · obtain ⟨rfl, hx⟩ := y
    exact ⟨Same.refl _, turn b x H'' (List.mem_of_getElem? hb) ((e0.trans e1).trans e) (Mo.mo e (paired_at (F := fun v a => A a H1 v) h2 hx hb))⟩
  · obtain ⟨acc, ha, h3⟩ := hr
    exact q _ H' (e1.trans e) ⟨D, acc, rfl, ha, h3⟩
theorem er_lcL [Mo A] [Tu B] {l : List α} (f : α → Bool) (k : α → β) (h : ER tl σ H (LstV A l)) (hz : l.length ≤ 50000)
    (turn : ∀ a x H1, a ∈ l → Same H H1 → A a H1 x → Turn1 g tt te vs σ B x H1 (f a) (k a)) : ER (tLc (iList K tl) g tt te vs) σ H (LstV B ((l.filter f).map k)) := fun H0 e0 Q q => h H0 e0 _ fun v H1 e1 hv => by
  obtain ⟨a, xs, rfl, hs, h2⟩ := hv
  have hl := Paired.length h2
  refine ⟨a, rfl, ⟨xs, SqL.of hs⟩, fun D hD => lc_main (B := B) (walk_list (xs := xs)) l hl.symm f k hD (fun H' e => e.seq (SqL.of hs)) (fun i b x H' H'' hb e y => ?_) (by omega) (fun H' e hr => ?_)⟩
  · obtain ⟨rfl, hx⟩ := y
    exact ⟨Same.refl _, turn b x H'' (List.mem_of_getElem? hb) ((e0.trans e1).trans e) (Mo.mo e (paired_at (F := fun v a => A a H1 v) h2 hx hb))⟩
  · obtain ⟨acc, ha, h3⟩ := hr
    exact q _ H' (e1.trans e) ⟨D, acc, rfl, ha, h3⟩
/-- a target that is a name; a pair of names -/
theorem turn_name {j : Nat} {x : V} {H1 : Hp} {f : Bool} {b : β} (hw : wipe ((wipe σ vs).set j (some x)) vs = wipe σ vs) (ht : ET tt ((wipe σ vs).set j (some x)) H1 f) (he : f = true → ER te ((wipe σ vs).set j (some x)) H1 (B b)) : Turn1 (gName j) tt te vs σ B x H1 f b :=
  ⟨_, fun _ h => h, hw, ht, he⟩
theorem turn_pair {i j : Nat} {p : Addr} {x y : V} {H1 : Hp} {f : Bool} {b : β} (hp : SqT K H1 p [x, y]) (hw : wipe (((wipe σ vs).set i (some x)).set j (some y)) vs = wipe σ vs)
    (ht : ET tt (((wipe σ vs).set i (some x)).set j (some y)) H1 f) (he : f = true → ER te (((wipe σ vs).set i (some x)).set j (some y)) H1 (B b)) : Turn1 (gTup K 2 (gCons (gName i) (gCons (gName j) gNil))) tt te vs σ B (.ref p) H1 f b :=
  ⟨_, fun _ h => ⟨p, _, rfl, hp, rfl, x, [y], rfl, y, [], rfl, rfl, h⟩, hw, ht, he⟩
end
end K18

set_option Elab.async false
set_option linter.all false
set_option maxRecDepth 100000
set_option maxHeartbeats 4000000
/-! Rules that the layer lacks: sum of a tuple, repr of a list of truth values, dict of pairs with tuple keys, a display of one tuple key. -/
namespace K18
open PySem PySem.Spec PyProof.Rows L2
section
variable {X : Cx}
/-! ### sum(t), t a tuple of ints -/
theorem preSum_list : ∀ (ns : List Int) (n : Nat), n ≤ ns.length → preSum (fun i => ns.getD i 0) n = (ns.take n).sum
  | ns, 0, _ => by simp [preSum]
  | ns, n + 1, h => by
    have hn : n < ns.length := by omega
    rw [preSum, preSum_list ns n (by omega), List.take_add_one, List.getElem?_eq_getElem hn, List.sum_append]
    simp [List.getElem?_eq_getElem hn]
def rSumT (K : PySem.W.Frag) : List V → Hp → VK → Prop := fun vs H Q => ∃ (a : Addr) (ns : List Int), vs = [V.ref a] ∧ SqT K H a (ns.map V.int) ∧ Q (.int ns.sum) H
theorem cr_sumT (hc : X.calm = true) : CallR X (.builtin "sum") (rSumT X.K) := by
  rintro pins s σ H vs us Q I r ⟨a, ns, rfl, hs, q⟩
  obtain ⟨its, rv, ht, hz⟩ := I.tuple hs
  rw [Vals.ref1 r]
  have hlt : a < s.heap.objs.size := ht.lt
  have hne : a ≠ s.heap.objs.size := Nat.ne_of_lt hlt
  have hl : ns.length = its.length := by have e := rv.length; rw [List.length_map] at e; exact e
  refine call_sum_walkG (wpAny_pyIter_tuple (show s.heap.IsTuple a its.toArray from ht) ⟨s.heap.objs.size, _, _, _, _, _, fun i => ns.getD i 0, rfl, Walks.tuple (A := X.A.in1) (I.ok.hd hc) _ a hne its.toArray, ⟨⟨_, Heap.get?_push_size _ rfl, rfl, rfl⟩, ht.push _⟩, fun b hb => ?_, fun i v hv => ?_, fun h' tk t' hk => ?_⟩)
  · have hsz : (s.heap.push { cls := .type "tuple_iterator", data := .fields #[.ref a, .int 0 0] }).objs.size = s.heap.objs.size + 1 := Heap.size_push ..
    show b < (s.heap.push _).objs.size
    rw [hsz]
    have hb' : b = s.heap.objs.size ∨ b = a := by simpa using hb
    rcases hb' with e | e
    · rw [e]; exact Nat.lt_succ_self _
    · rw [e]; exact Nat.lt_succ_of_lt hlt
  · have hv' : its[i]? = some v := by simpa using hv
    have hi : i < ns.length := by rw [hl]; exact (List.getElem?_eq_some_iff.mp hv').1
    obtain ⟨u, hu, ru⟩ := rv.get (i := i) (x := .int ns[i]) (by rw [List.getElem?_map, List.getElem?_eq_getElem hi]; rfl)
    rw [hv'] at hu
    cases hu
    obtain ⟨t, rfl⟩ := ru
    exact ⟨t, by simp [List.getD, List.getElem?_eq_getElem hi]⟩
  · refine ⟨.int ns.sum, H, I.kept (h' := h') (t' := tk) fun b o e => hk b o ?_ (Heap.get?_push_of_some _ e), ⟨t', ?_⟩, q⟩
    · intro hb
      have hb' : b = s.heap.objs.size := by simpa using hb
      exact absurd (hb' ▸ Heap.lt_size e) (Nat.lt_irrefl _)
    · rw [List.size_toArray, ← hl, preSum_list ns _ (Nat.le_refl _), List.take_length]
/-! ### repr(xs), xs a list of truth values: nothing is being shown around -/
def shB (bs : List Bool) : Str := PyData.shown (.list (bs.map PyData.bool))
def rReprB (K : PySem.W.Frag) : List V → Hp → VK → Prop := fun vs H Q => ∃ (a : Addr) (bs : List Bool), vs = [V.ref a] ∧ SqL K H a (bs.map V.bl) ∧ (shB bs).length ≤ sizeLine ∧ Q (.str (shB bs)) H
theorem dpa_bools {K : PySem.W.Frag} {H : Hp} : ∀ bs : List Bool, DpAll K H (bs.map V.bl) (bs.map PyData.bool)
  | [] => .nil
  | b :: bs => .cons (.bl b) (dpa_bools bs)
theorem show_bools : ∀ bs : List Bool, PyData.showableAll (bs.map PyData.bool) = true ∧ PyData.hasDictAll (bs.map PyData.bool) = false ∧ PyData.depthAll (bs.map PyData.bool) ≤ 1
  | [] => ⟨rfl, rfl, by simp [PyData.depthAll]⟩
  | b :: bs => by
    obtain ⟨h1, h2, h3⟩ := show_bools bs
    refine ⟨by simp [PyData.showableAll, PyData.showable, h1], by simp [PyData.hasDictAll, PyData.hasDict, h2], ?_⟩
    simp only [List.map_cons, PyData.depthAll, PyData.depth]
    omega
theorem cr_reprB (hg : X.A.guards = some []) (hu : X.A.units + 64 < cLine) : CallR X (.builtin "repr") (rReprB X.K) := by
  rintro pins s σ H vs us Q I r ⟨a, bs, rfl, hs, hz, q⟩
  rw [Vals.ref1 r]
  obtain ⟨as, hr⟩ := Dp.reads I (.list (bs.map PyData.bool)) (.ref a) (.ref a) (.lst hs (dpa_bools bs)) rfl
  obtain ⟨h1, h2, h3⟩ := show_bools bs
  refine repr_of_reads' hr (by simpa [PyData.showable] using h1) (fun z => by simp [PyData.hasDict, h2] at z) hg (by simp only [PyData.depth]; omega) (fun _ _ e => e) (fun h' u tk hk => ?_) hz
  exact ⟨.str (shB bs), H, I.kept hk, ⟨u, rfl⟩, q⟩
/-! ### dict(ps), ps a list of pairs whose keys are tuples, no key twice -/
theorem atKey_none {κ : Type} [DecidableEq κ] {xs : List (κ × Addr × Value)} {k : κ} (h : k ∉ xs.map (·.1)) : atKey xs k = none := by
  unfold atKey
  rw [List.find?_eq_none.mpr (fun x hx e => h (List.mem_map.mpr ⟨x, hx, of_decide_eq_true e⟩))]
  rfl
theorem stored_all {κ : Type} [DecidableEq κ] : ∀ (ps xs : List (κ × Addr × Value)), ((xs ++ ps).map (·.1)).Nodup → storedAllH xs ps = xs ++ ps
  | [], xs, _ => by rw [List.append_nil]; rfl
  | p :: ps, xs, h => by
    have hn : p.1 ∉ xs.map (·.1) := fun m => by
      rw [List.map_append, List.map_cons] at h
      have := (List.nodup_append.mp h).2.2 p.1 m p.1 List.mem_cons_self
      exact this rfl
    show storedAllH (storedH xs p.1 p.2.1 p.2.2) ps = xs ++ p :: ps
    rw [storedH_new (atKey_none hn), stored_all ps _ (by simpa using h)]
    simp
abbrev PrT (K : PySem.W.Frag) (H : Hp) : List Addr → List (List Key × V) → Prop := Paired fun p kv => ∃ b, SqT K H p [.ref b, kv.2] ∧ H b = some (.tup (kv.1.map kV))
def rDictT (K : PySem.W.Frag) : List V → Hp → VK → Prop := fun vs H Q => ∃ (a : Addr) (ps : List Addr) (kvs : List (List Key × V)), vs = [V.ref a] ∧ SqL K H a (ps.map V.ref) ∧ PrT K H ps kvs ∧ (kvs.map (·.1)).Nodup ∧
  ∀ d, H d = none → Q (.ref d) (upd H d (.dT kvs))
theorem prT_trips {pins : List (Addr × Obj)} {σ : L2.St} {H : Hp} {s : Shared} (I : Inv X pins σ H s) : ∀ {ps : List Addr} {kvs : List (List Key × V)}, PrT X.K H ps kvs →
    ∃ ts : List (List Key × Addr × Value), KT H kvs ts ∧ Paired (fun p (t : List Key × Addr × Value) => IsTup s.heap p #[.ref t.2.1, t.2.2]) ps ts
  | _, _, .nil => ⟨[], .nil, .nil⟩
  | _, _, .cons (b := kv) h t => by
    obtain ⟨ts, h1, h2⟩ := prT_trips I t
    obtain ⟨b, hp, hb⟩ := h
    obtain ⟨its, rv, ht, _⟩ := I.tuple hp
    obtain ⟨u, y, rfl, ru, ry⟩ := vals2 rv
    cases ru
    exact ⟨(kv.1, b, y) :: ts, .cons ⟨rfl, hb, ry⟩ h1, .cons ht h2⟩
theorem kt_keys {H : Hp} : ∀ {kvs : List (List Key × V)} {ts : List (List Key × Addr × Value)}, KT H kvs ts → kvs.map (·.1) = ts.map (·.1)
  | _, _, .nil => rfl
  | _, _, .cons h t => by rw [List.map_cons, List.map_cons, h.1, kt_keys t]
theorem paired_ix {γ δ : Type} {F : γ → δ → Prop} : ∀ {l : List γ} {m : List δ} {i : Nat} {y : δ}, Paired F l m → m[i]? = some y → ∃ x, l[i]? = some x ∧ F x y
  | _, _, _, _, .nil, h => by simp at h
  | _, _, 0, _, .cons p _, h => by simp at h; subst h; exact ⟨_, rfl, p⟩
  | _, _, i + 1, _, .cons _ t, h => by
    obtain ⟨x, h1, h2⟩ := paired_ix (i := i) t (by simpa using h)
    exact ⟨x, by simpa using h1, h2⟩
theorem cr_dictT (hc : X.calm = true) (hu : X.A.units + 64 < cLine) : CallR X (.type "dict") (rDictT X.K) := by
  rintro pins s σ H vs us Q I r ⟨a, ps, kvs, rfl, hs, hp, hn, q⟩
  rw [Vals.ref1 r]
  obtain ⟨its, rv, pl, hz⟩ := I.list hs
  have ei := refs_at rv
  subst ei
  rw [List.length_map] at hz
  obtain ⟨ts, hk, ht⟩ := prT_trips I hp
  obtain ⟨o, n, ho, hcl, hd, hdat⟩ := pl
  have l1 : ps.length = ts.length := Paired.length ht
  have l2 : kvs.length = ts.length := Paired.length hk
  have hkeys := kt_keys hk
  have keyOk : ∀ x ∈ ts, H x.2.1 = some (.tup (x.1.map kV)) := fun x hx => by
    obtain ⟨i, hi, e⟩ := List.mem_iff_getElem.mp hx
    obtain ⟨kv, _, h3⟩ := paired_ix hk (i := i) (y := x) (by rw [List.getElem?_eq_getElem hi, e])
    rw [← h3.1]
    exact h3.2.1
  have P := PairArg.list (prog := X.prog) (w := X.w) a (ps.map Value.ref).toArray (fun j => ps.getD j 0) (ts.map fun t => (Value.ref t.2.1, t.2.2))
  refine call_dict_pairsH (knd := tupleKind (mixKind X.prog X.w)) (ps := ts) P (I.ok.hd hc) (by show X.A.units + 1 + 1 < cLine; omega) ⟨⟨o, n, ho, hcl, hd, hdat⟩, by simp [l1], fun j k v hj => ?_⟩ ⟨by simp, fun i k v hi => ?_⟩ (fun h' hkp x hx => ?_) (by simp; omega) (fun h' tk hd' hk' => ?_)
  · rw [List.getElem?_map] at hj
    obtain ⟨t, htj, e⟩ := Option.map_eq_some_iff.mp hj
    obtain ⟨p, hpj, hpt⟩ := paired_ix ht htj
    cases e
    refine ⟨by simp [hpj], .inl ?_⟩
    show s.heap.IsTuple (ps.getD j 0) _
    rw [show ps.getD j 0 = p by simp [List.getD, hpj]]
    exact hpt
  · have hi' : (ts.map fun t => (Value.ref t.2.1, t.2.2))[i]? = some (k, v) := hi
    rw [List.getElem?_map] at hi'
    obtain ⟨t, hti, e⟩ := Option.map_eq_some_iff.mp hi'
    cases e
    exact ⟨t.1, t.2.1, hti, rfl⟩
  · have kx := key_of (P := X.prog) (w := X.w) I.hok (keyOk x hx)
    exact tupleKind_stays.stays (fun b ob vs m e _ => hkp b ob (Nat.ne_of_lt (Heap.lt_size e)) (fun z => nomatch z) e) kx
  · rw [stored_all ts [] (by simpa [← hkeys] using hn)] at hd'
    have hfr : H s.heap.objs.size = none := I.hok.fresh (Nat.le_refl _)
    have hm : (s.heap.objs.size == sysModules) = false := beq_eq_false_iff_ne.mpr (Nat.ne_of_gt I.big)
    obtain ⟨o', es, ep, h1, h2, h3, h4, _, h6⟩ := hd'
    refine ⟨.ref s.heap.objs.size, upd H s.heap.objs.size (.dT kvs), I.laid (h' := h') (t' := tk) (fun b ob e => hk' b ob (fun z => nomatch z) e) (Nat.le_refl _) ?_, rfl, q _ hfr⟩
    exact ⟨by omega, hm, ts, Paired.mapP hk fun p t z => ⟨z.1, by rw [upd_ne (ne_of_none z.2.1 hfr)]; exact z.2.1, z.2.2⟩, o', es, ep, h1, h2, h3, h4, h6⟩
end
end K18

set_option Elab.async false
set_option linter.all false
set_option maxRecDepth 100000
set_option maxHeartbeats 4000000
/-! More rules: for i, x in enumerate(t) over a tuple; t[::-1]; {k: v} with a tuple as its one key. -/
namespace K18
open PySem PySem.Spec PyProof.Rows L2
/-! ### enumerate(v), v told by how its iterator begins -/
abbrev enumOb (it : Addr) (k : Int) : Obj := { cls := .type "enumerate", data := .fields #[.none, .bool false, .ref it, rawInt k, .none, .none] }
theorem meets_enum1 {v : Value} {o : Obj} {G : Heap → Prop} (B : Begins v o G) :
    Meets (Builtin.«enumerate.__new__» ⟨[.type "enumerate", v], []⟩) (fun _ R s => G s.heap ∧ R (.ok (.ret (.ref (s.heap.push o).objs.size))) { s with heap := (s.heap.push o).push (enumOb s.heap.objs.size 0) }) :=
  .of_wp fun prog w A R s hyp => by
    obtain ⟨hh, gg, dd, tt, oo⟩ := s
    obtain ⟨g1, fin⟩ := hyp
    have sub := sub_enumerate
    have go : ∀ {A' : Around} {E : Value → Shared → Prop} {Q : Value → Shared → Prop}, Q (.ref hh.objs.size) ⟨hh.push o, gg, dd, tt, oo⟩ → wpAny (model prog w) A' (pyIter v) Q E ⟨hh, gg, dd, tt, oo⟩ := fun z => B.iter prog w _ _ ⟨hh, gg, dd, tt, oo⟩ _ g1 z
    wp_walk using go
    refine wpAny_stack_any fun st => wpAny_pure ?_
    split
    · rename_i cl _ _ _ _ _
      cases (cl == Value.type "enumerate") <;> (wp_walk using go; exact ⟨_, rfl, fin⟩)
    · (wp_walk using go; exact ⟨_, rfl, fin⟩)
section
variable {prog : Program} {w : World} {A : Around} {E : Value → Shared → Prop} {s : Shared}
theorem call_enum1 {v : Value} {o : Obj} {G : Heap → Prop} {Q : Value → Shared → Prop} (B : Begins v o G) (g : G s.heap)
    (k : ∀ h', IsEnum h' (s.heap.objs.size + 1) s.heap.objs.size 0 .none → h'.get? s.heap.objs.size = some o → (∀ b u, s.heap.get? b = some u → h'.get? b = some u) → Q (.ref (s.heap.objs.size + 1)) { s with heap := h' }) :
    wpAny (model prog w) A (call (.type "enumerate") [v]) Q E s := by
  have sz : (s.heap.push o).objs.size = s.heap.objs.size + 1 := Heap.size_push ..
  refine callType_new F.called_enumerate (by decide) (F.typeCall_enumerate_1 _) (F.newCall_enumerate_1 _) (fun ob => F.args_object_init_2 ob _) F.entry_enumerate_new (meets_enum1 B) ⟨g, ?_⟩
  show _ ∧ _
  rw [sz]
  have q := Heap.get?_push_size (s.heap.push o) (o := enumOb s.heap.objs.size 0) rfl
  rw [sz] at q
  exact ⟨⟨_, q, rfl⟩, k _ q (Heap.get?_push_of_some _ (Heap.get?_push_size _ B.free)) fun b u e => Heap.get?_push_of_some _ (Heap.get?_push_of_some _ e)⟩
end
/-- the tuple at a, each item in a new pair behind its number -/
def IteT (K : PySem.W.Frag) (a : Addr) (xs : List V) : It :=
  ⟨fun i H => SqT K H a xs ∧ i < xs.length, fun i H v H' => ∃ T x, v = .ref T ∧ H T = none ∧ H' = upd H T (.tup [.int (i : Nat), x]) ∧ xs[i]? = some x, fun i H => SqT K H a xs ∧ i = xs.length⟩
theorem walk_enumT {K : PySem.W.Frag} {a : Addr} {xs : List V} : Walk (IteT K a xs) xs.length (fun H => SqT K H a xs) (YPair (fun i => some (.int (i : Nat))) (fun i => xs[i]?)) :=
  ⟨fun i _ hi q => ⟨q, hi⟩, fun _ q => ⟨q, rfl⟩, fun i H v H' _ _ y => let ⟨T, x, h1, h2, h3, h4⟩ := y; ⟨T, .int (i : Nat), x, h1, h2, h3, rfl, h4⟩⟩
theorem tup_inj {h : Heap} {a : Addr} {xs ys : Array Value} (p : h.IsTuple a xs) (q : h.IsTuple a ys) : xs = ys := by
  obtain ⟨o, e, _, n, d⟩ := p
  obtain ⟨o', e', _, n', d'⟩ := q
  rw [e] at e'
  cases e'
  rw [d] at d'
  exact (Data.seq.inj d').1
theorem turn_enumT {P : Program} {w : World} {K : PySem.W.Frag} {elts : List Expr} {kk : Nat} {tpos : Pos} (a e it : Addr) (ne : e ≠ it) (na : a ≠ it) (nea : a ≠ e) (xs : List V) (its : List Value) (rv : Vals xs its) :
    Turn P w K (.Tuple elts kk tpos) (IteT K a xs) [e, it] e (fun i h => (∃ old, IsEnum h e it ((i : Nat) : Int) old) ∧ h.IsTupleIter it a i) where
  mem := List.mem_cons_self
  obj := fun i h st b hb => by
    obtain ⟨⟨old, he⟩, o, ho, hc, hd⟩ := st
    rcases List.mem_cons.mp hb with z | z
    · subst z
      exact ⟨_, he, fun v q => nomatch q⟩
    · have z' := List.mem_singleton.mp z
      subst z'
      exact ⟨o, ho, fun v q => by rw [hd] at q; cases q⟩
  keep := fun i h h' st k => ⟨let ⟨old, he⟩ := st.1; ⟨old, k e List.mem_cons_self _ he⟩, st.2.at fun o q => k it (List.mem_cons_of_mem _ List.mem_cons_self) o q⟩
  item := by
    intro X hP hw hK hc i pins s σ H E I hf st hg
    subst hP hw hK
    obtain ⟨⟨old, he⟩, hit⟩ := st
    obtain ⟨hq, hi⟩ := hg
    obtain ⟨its', rv', p, hz⟩ := I.tuple hq
    have hil : it < s.heap.objs.size := by obtain ⟨_, q, _⟩ := hit; exact Heap.lt_size q
    have hel : e < s.heap.objs.size := Heap.lt_size he
    have li : i < its'.length := by rw [← rv'.length]; exact hi
    have dr := Draws.tuple (prog := X.prog) (w := X.w) (A := X.A.in1) (I.ok.hd hc) it a na its'.toArray
    have en : e ∉ [e, it] → False := fun z => z List.mem_cons_self
    -- the iterator's own record apart from the enumerate object
    have dr2 : Draws X.prog X.w X.A.in1 it [it, a] its'.toArray.size (fun i v => its'.toArray[i]? = some v) (fun i h => h.IsTupleIter it a i ∧ h.IsTuple a its'.toArray) := dr
    have hea : e ∉ [it, a] := fun z => by
      rcases List.mem_cons.mp z with z | z
      · exact ne z
      · exact nea (List.mem_singleton.mp z).symm
    refine wpAny_pyNext_enum_itemD dr2 he ⟨hit, p⟩ (by simpa using li) ne hea fun u h' tk hu ho hst hT hsz hk => ?_
    have hx : xs[i]? = some xs[i] := List.getElem?_eq_getElem hi
    obtain ⟨u', hu', ru⟩ := rv'.get hx
    have eu : u' = u := by
      have q : its'[i]? = some u := by simpa using hu
      rw [hu'] at q
      exact Option.some.inj q
    subst eu
    refine ⟨_, rfl, wpAny_letOwnedTupleGo_enum (s := { s with heap := h', toks := tk + 1 }) ho fun h2 he2 sb => ?_⟩
    have hT2 : h2.get? s.heap.objs.size = some { cls := .type "tuple", data := .seq #[.int i tk, u'] } := (sb.2 _ (Nat.ne_of_gt hel)).trans hT
    have new : ObjOk X.prog X.w (upd H s.heap.objs.size (.tup [.int (i : Nat), xs[i]])) h2 s.heap.objs.size (.tup [.int (i : Nat), xs[i]]) :=
      ⟨(by show 2 ≤ sizeLine; decide), [.int i tk, u'], .cons ⟨tk, rfl⟩ (.cons ru .nil), _, hT2, rfl, _, rfl⟩
    have I2 := I.turnedNew (t' := tk + 1) (ch := [e, it]) (fun b ob hb q => by
      have n1 : b ≠ e := fun z => hb (by rw [z]; exact List.mem_cons_self)
      have n2 : b ≠ it := fun z => hb (by rw [z]; exact List.mem_cons_of_mem _ List.mem_cons_self)
      exact (sb.2 b n1).trans (hk b ob n1 n2 q)) hf (Nat.le_refl _) new
    refine ⟨.ref s.heap.objs.size, _, I2, rfl, ⟨_, xs[i], rfl, I.hok.fresh (Nat.le_refl _), rfl, hx⟩, ⟨⟨u', ?_⟩, hst.1.at fun o q => (sb.2 it (Ne.symm ne)).trans q⟩, fun b hb => ?_⟩
    · have ei : ((i + 1 : Nat) : Int) = (i : Int) + 1 := by omega
      rw [ei]
      exact he2
    · have hlt : b < s.heap.objs.size := by
        rcases List.mem_cons.mp hb with z | z
        · rw [z]; exact hel
        · rw [List.mem_singleton.mp z]; exact hil
      rw [upd_ne (Nat.ne_of_lt hlt)]
      exact (hf b hb).1
  done := by
    intro X hP hw hK hc i pins s σ H E I hf st hg
    subst hP hw hK
    obtain ⟨⟨old, he⟩, hit⟩ := st
    obtain ⟨hq, hi⟩ := hg
    obtain ⟨its', rv', p, hz⟩ := I.tuple hq
    obtain ⟨f0, f1, f2, f3, f4, f5⟩ := hf it (List.mem_cons_of_mem _ List.mem_cons_self)
    have dr := Draws.tuple (prog := X.prog) (w := X.w) (A := X.A.in1) (I.ok.hd hc) it a na its'.toArray
    have hl := rv'.length
    have hn : i = its'.toArray.size := by rw [List.size_toArray]; omega
    subst hn
    exact wpAny_pyNext_enum_endD dr he ⟨hit, p⟩ fun h' eb => ⟨rfl, I.turned (t' := s.toks) (fun b o hb q => eb b o hb q) f0 f1 f3 f4 f5⟩
  self := fun A i s Q E st h => let ⟨⟨_, he⟩, _⟩ := st; wpAny_pyIter_enum he h
def iEnumT (K : PySem.W.Frag) (ta : TA) : TI := fun σ H R => ta σ H fun vs H1 => ∃ a xs, vs = [.ref a] ∧ SqT K H1 a xs ∧ R (IteT K a xs) H1
theorem pi_enumT {X : Cx} {e : Expr} {ta : TA} {p pos tpos : Pos} {elts : List Expr} {kk : Nat} (hg : Gl X "enumerate") (hm : X.mg "enumerate" = none) (ha : PA X [e] ta) (hs : starEach [e] X.env = [(false, eval e X.env)] := by rfl) :
    PI X (.Tuple elts kk tpos) (.Call (.Name "enumerate" p) [e] [] pos) (iEnumT X.K ta) := ⟨fun pins s σ H R I h => by
  refine Call_ (ld_blt I hg hm boot_enumerate (PyProof.Rows.callWith_type1 (thn (ha.run pos pins s σ H _ I h) fun us s1 ⟨vs, H1, I1, r1, a, xs, ev, hq, q⟩ => ?_) hs rfl))
  subst ev
  rw [Vals.ref1 r1]
  obtain ⟨its, rv, ht, hz⟩ := I1.tuple hq
  have al : a < s1.heap.objs.size := ht.lt
  refine call_enum1 (begins_tuple a its.toArray) ht fun h' he hit hk => wpAny_pyIter_enum he ?_
  have n1 : (s1.heap.objs.size + 1 : Nat) ≠ s1.heap.objs.size := by omega
  have n2 : a ≠ s1.heap.objs.size := Nat.ne_of_lt al
  have n3 : a ≠ s1.heap.objs.size + 1 := Nat.ne_of_lt (Nat.lt_succ_of_lt al)
  refine ⟨s1.heap.objs.size + 1, [s1.heap.objs.size + 1, s1.heap.objs.size], _, _, H1, rfl, I1.kept (h' := h') (t' := s1.toks) hk, turn_enumT a (s1.heap.objs.size + 1) s1.heap.objs.size n1 n2 n3 xs its rv, ⟨⟨.none, he⟩, ⟨_, hit, rfl, rfl⟩⟩, fun b hb => ?_, q⟩
  have hle : s1.heap.objs.size ≤ b := by
    rcases List.mem_cons.mp hb with z | z
    · rw [z]; exact Nat.le_succ _
    · rw [List.mem_singleton.mp z]; exact Nat.le_refl _
  exact I1.fpOk hle (I1.hok.fresh hle)⟩
end K18

set_option Elab.async false
set_option linter.all false
set_option maxRecDepth 100000
set_option maxHeartbeats 4000000
/-! t[::-1] of a tuple; {k: v} with a tuple as its one key. -/
namespace K18
open PySem PySem.Spec PyProof.Rows L2
theorem back_places (n : Nat) : Builtin.Slice.slicePlaces ((n : Int) - 1) (-1) (-1) = n := by
  unfold Builtin.Slice.slicePlaces
  rw [if_neg (by decide)]
  by_cases h : (n : Int) - 1 > -1
  · rw [if_pos h, Int.neg_neg, Int.ediv_one]
    omega
  · rw [if_neg h]
    omega
theorem back_pick (xs : Array Value) : ((List.range xs.size).filterMap fun (m : Nat) => xs[(((xs.size : Int) - 1) + (m : Int) * (-1)).toNat]?) = xs.toList.reverse := by
  have e : ∀ m ∈ List.range xs.size, xs[(((xs.size : Int) - 1) + (m : Int) * (-1)).toNat]? = xs.toList.reverse[m]? := fun m hm => by
    have h : m < xs.size := List.mem_range.mp hm
    have q : (((xs.size : Int) - 1) + (m : Int) * (-1)).toNat = xs.size - 1 - m := by omega
    rw [q, List.getElem?_reverse (by simpa using h), ← Array.getElem?_toList]
    simp
  have aux : ∀ (l : List Nat) (f g : Nat → Option Value), (∀ m ∈ l, f m = g m) → l.filterMap f = l.filterMap g := fun l f g h => by
    induction l with
    | nil => rfl
    | cons a r ih => rw [List.filterMap_cons, List.filterMap_cons, h a List.mem_cons_self, ih fun m hm => h m (List.mem_cons_of_mem _ hm)]
  rw [aux _ _ (fun m => xs.toList.reverse[m]?) e]
  have full : ∀ l : List Value, (List.range l.length).filterMap (fun m => l[m]?) = l := fun l => by
    induction l with
    | nil => rfl
    | cons a r ih =>
      rw [List.length_cons, List.range_succ_eq_map, List.filterMap_cons, List.filterMap_map]
      show a :: List.filterMap (fun m => (a :: r)[m + 1]?) (List.range r.length) = _
      simp only [List.getElem?_cons_succ]
      rw [ih]
  have := full xs.toList.reverse
  rw [List.length_reverse, Array.length_toList] at this
  exact this
section
variable {prog : Program} {w : World} {A : Around} {E : Value → Shared → Prop} {s : Shared}
theorem applied_back {sl : Addr} {tk : Tok} {n : Nat} {Q : Int × Int × Nat → Shared → Prop} (hs : s.heap.IsSliceOf sl .none .none (.int (-1) tk)) (h : Q ((n : Int) - 1, -1, n) s) :
    wpAny (model prog w) A (Builtin.Slice.sliceApplied (.ref sl) (pure (n : Int))) Q E s := by
  obtain ⟨os, hos, hcs, hds⟩ := hs
  unfold Builtin.Slice.sliceApplied Builtin.Slice.sliceFields
  refine wpAny_bind (wpAny_bind (wpAny_field hos hds rfl (wpAny_bind (wpAny_field hos hds rfl (wpAny_bind (wpAny_field hos hds rfl (wpAny_pure ?_)))))))
  refine wpAny_bind (slicePart_int ?_)
  show wpAny _ _ (if ((-1 : Int) == 0) = true then _ else _) _ _ s
  rw [if_neg (by decide)]
  refine wpAny_bind (slicePart_none (wpAny_bind (slicePart_none (wpAny_bind (wpAny_pure ?_)))))
  show wpAny _ _ (pure (((n : Int) - 1), (-1 : Int), Builtin.Slice.slicePlaces ((n : Int) - 1) (-1) (-1))) _ _ s
  rw [back_places]
  exact wpAny_pure h
theorem getItem_back {t sl : Addr} {items : Array Value} {tk : Tok} {Q : Value → Shared → Prop} (ht : IsTup s.heap t items) (hs : s.heap.IsSliceOf sl .none .none (.int (-1) tk)) (hz : items.size ≤ sizeLine)
    (h : Q (.ref s.heap.objs.size) { s with heap := s.heap.push { cls := .type "tuple", data := .seq items.toList.reverse.toArray } }) : wpAny (model prog w) A (getItem (.ref t) (.ref sl)) Q E s := by
  have hTs : s.TypeIs (.ref sl) "slice" := let ⟨os, hos, hcs, _⟩ := hs; ⟨os, hos, hcs⟩
  have ok : sizeOk (.seq items.toList.reverse.toArray) := by
    show items.toList.reverse.toArray.size ≤ sizeLine
    simpa using hz
  unfold getItem
  try with_reducible refine wpAny_holding ?_
  first | refine wpAny_bind (wpAny_pure ?_) | skip
  refine wpAny_bind (wpAny_sequenceKey ht.typeIs (by decide) ?_)
  refine wpAny_bind (wpAny_callSpecial?_slot (name := Str.ofString "__getitem__") ht.typeIs PyProof.Rows.slot_tuple_getitem (wpAny_call_entry PyProof.Rows.slot_tuple_getitem ht.typeIs entry_tuple_getitem ?_ (args_tuple_getitem _ _)))
  show wpAny _ _ (Builtin.Tuple.tupleItemsOf (.ref t) >>= _) _ _ s
  refine wpAny_bind (tupleItemsOf_ ht (wpAny_bind (wpAny_typeOf hTs ?_)))
  rw [if_pos (by decide)]
  refine wpAny_bind (applied_back hs ?_)
  have no : ¬ ((((items.size : Int) - 1) == 0 && (-1 : Int) == 1 && items.size == items.size) = true) := by
    rw [show ((-1 : Int) == 1) = false from rfl, Bool.and_false, Bool.false_and]
    exact Bool.false_ne_true
  show wpAny _ _ (if (((items.size : Int) - 1) == 0 && (-1 : Int) == 1 && items.size == items.size) = true then _ else _) _ _ s
  rw [if_neg no, back_pick]
  first
    | exact wpAny_bind (m := Builtin.Tuple.tupleExact _) (wpAny_newObj_type (wpAny_pure ⟨_, rfl, wpAny_pure h⟩) ok)
    | exact wpAny_bind (m := Builtin.Tuple.tupleExact _) (wpAny_newObj_type (wpAny_bind (wpAny_pure (wpAny_pure ⟨_, rfl, wpAny_pure h⟩))) ok)
    | exact wpAny_bind (wpAny_bind (m := Builtin.Tuple.tupleExact _) (wpAny_newObj_type (wpAny_pure (wpAny_pure ⟨_, rfl, wpAny_pure h⟩)) ok))
end
section
variable {X : Cx}
def tRevT (K : PySem.W.Frag) (te : TE) : TE := fun σ H Q => te σ H fun x H1 => ∃ a xs, x = .ref a ∧ SqT K H1 a xs ∧ ∀ p, H1 p = none → Q (.ref p) (upd H1 p (.tup xs.reverse))
theorem pe_revT {e : Expr} {te : TE} {k : Nat} {p1 p2 p3 pos : Pos} (he : PE X e te) : PE X (.Subscript e (.Slice none none (some (.UnaryOp .USub (.Constant (.int 1) k p1) p2)) p3) pos) (tRevT X.K te) := ⟨fun pins s σ H Q I h => by
  refine Subscript_ (thn (he.run pins s σ H _ I h) fun v s1 ⟨x, H1, I1, r1, a, xs, ex, hx, q⟩ => ?_)
  subst ex
  cases r1
  refine wpAny_Slice (thn (po_none.run pins s1 σ H1 (fun o H2 => o = none ∧ H2 = H1) I1 ⟨rfl, rfl⟩) fun vl s2 ⟨l, H2, I2, pl, el, e2⟩ => ?_)
  subst el e2
  refine thn (po_none.run pins s2 σ H2 (fun o H3 => o = none ∧ H3 = H2) I2 ⟨rfl, rfl⟩) fun vu s3 ⟨u, H3, I3, pu, eu, e3⟩ => ?_
  subst eu e3
  refine thn ((po_some (pe_un un_neg pe_int)).run pins s3 σ H3 (fun o H4 => o = some (-1) ∧ H4 = H3) I3 ⟨1, rfl, -1, rfl, rfl, rfl⟩) fun vs s4 ⟨o, H4, I4, ps, eo, e4⟩ => ?_
  subst eo e4
  cases pl
  cases pu
  cases ps with
  | int _ tk =>
    have I5 : Inv X pins σ H4 { s4 with heap := s4.heap.push { cls := .type "slice", data := .fields #[.none, .none, .int (-1) tk] } } := I4.kept (t' := s4.toks) fun b ob z => Heap.get?_push_of_some _ z
    obtain ⟨its, r, ht, hz⟩ := I5.tuple hx
    have hlen := r.length
    refine tail_any (ops := [.ref a, .ref s4.heap.objs.size]) ht.typeIs PyProof.Rows.slot_tuple_getitem.lookup ?_ (by with_unfolding_all rfl)
    refine getItem_back ht (Heap.IsSliceOf.new _ .none .none (.int (-1) tk)) (by rw [List.size_toArray]; omega) ?_
    refine ⟨.ref _, _, I5.laid (t' := s4.toks) (o := .tup xs.reverse) (fun b ob z => Heap.get?_push_of_some _ z) (Nat.le_refl _) ?_, rfl, q _ (I5.hok.fresh (Nat.le_refl _))⟩
    exact ⟨by rw [List.length_reverse]; exact hz, its.reverse, r.reverse, IsTup.new _ _⟩⟩
/-! ### {k: v}, k a tuple -/
def tDisp1 (tk tv : TE) : TE := fun σ H Q => ∀ p, H p = none → tk σ (upd H p (.dT [])) fun x H1 => tv σ H1 fun y H2 => ∃ (b : Addr) (k : List Key), x = .ref b ∧ H2 b = some (.tup (k.map kV)) ∧ H2 p = some (.dT []) ∧ Q (.ref p) (upd H2 p (.dT [(k, y)]))
theorem pe_disp1 {ke ve : Expr} {tk tv : TE} {pos : Pos} (hu : X.A.units + 64 < cLine) (hk : PE X ke tk) (hv : PE X ve tv) : PE X (.Dict [some ke] [ve] pos) (tDisp1 tk tv) := ⟨fun pins s σ H Q I h => by
  have hn := I.hok.fresh (Nat.le_refl s.heap.objs.size)
  have I1 := I.laid (a := s.heap.objs.size) (o := .dT []) (h' := s.heap.push { cls := .type "dict", data := .dict #[] }) (t' := s.toks) (fun _ _ z => Heap.get?_push_of_some _ z) (Nat.le_refl _) (dt_empty s.heap I.big)
  have PP : PPs X pos [some ke] [ve] [(tk, tv)] := pps_cons hk hv pps_nil
  rw [arm_eval_Dict]
  have shape : (evalEachOpt [some ke] X.env).zip ((evalEach [ve] X.env).map fun v => do let x ← v; standAt pos; pure x) = (pairTrees [some ke] [ve] X.env pos).map fun p => (some p.1, p.2) := by rfl
  rw [shape, dictDisplay_pairs _ (by intro z; cases z) (by show (1 : Nat) < 17; decide)]
  refine wpAny_bind (wpAny_standAt (wpAny_bind (wpAny_subDictH (knd := tupleKind (mixKind X.prog X.w)) (by show X.A.units < cLine; omega) (by show (1 : Nat) ≤ 15; decide) ?_)))
  refine thn (PP.run pins _ σ _ (fun ps H2 => ∃ x y, ps = [(x, y)] ∧ ∃ (b : Addr) (k : List Key), x = .ref b ∧ H2 b = some (.tup (k.map kV)) ∧ H2 s.heap.objs.size = some (.dT []) ∧ Q (.ref s.heap.objs.size) (upd H2 s.heap.objs.size (.dT [(k, y)]))) I1 ?_) fun ws s2 ⟨ps, H2, I2, rel, x, y, ep, b, k, ex, hb, hp, q⟩ => ?_
  · show tk σ (upd H s.heap.objs.size (.dT [])) _
    have h0 := h _ hn
    refine cast ?_ h0
    congr 1
    funext x H1
    congr 1
    funext y H2
    refine propext ⟨fun ⟨b, k, z⟩ => ⟨x, y, rfl, b, k, z⟩, fun ⟨x', y', e, b, k, z⟩ => ?_⟩
    cases e
    exact ⟨b, k, z⟩
  · subst ep
    cases rel with
    | @cons p0 q0 l1 l2 hh tt =>
      cases tt
      obtain ⟨q1, q2⟩ := q0
      subst ex
      obtain ⟨r1, r2⟩ := hh
      cases r1
      have key := key_of (P := X.prog) (w := X.w) I2.hok hb
      obtain ⟨z, hd, xs, kt, dd⟩ := dt_of I2.hok hp
      cases kt
      refine ⟨[(k, b, q2)], ⟨rfl, rfl, key, trivial⟩, dd, fun h' tk' hd' hs => wpAny_pure ?_⟩
      have e1 : storedAllH ([] : List (List Key × Addr × Value)) [(k, b, q2)] = [(k, b, q2)] := stored_all [(k, b, q2)] [] (by simp)
      rw [e1] at hd'
      obtain ⟨o', es, epn, g1, g2, g3, g4, g5, g6⟩ := hd'
      refine ⟨.ref s.heap.objs.size, _, d_write (t' := tk') I2 (by rw [hp]; exact True.intro) hs ⟨o', g1⟩ ?_, rfl, q⟩
      have nb : b ≠ s.heap.objs.size := fun z => by rw [z, hp] at hb; cases hb
      exact ⟨by show 1 ≤ sizeLine; decide, hd, [(k, b, q2)], .cons ⟨rfl, by rw [upd_ne nb]; exact hb, r2⟩ .nil, o', es, epn, g1, g2, g3, g4, g6⟩⟩
end
end K18

set_option Elab.async false
set_option linter.all false
set_option maxRecDepth 100000
namespace K18
open PySem PySem.Spec PyProof.Rows L2
/-- what the top has left, by names -/
structure Txt (K : PySem.W.Frag) (mg : Str → Option Value) : Prop where
  ex : ∃ h : Heap, K.In h ∧ h.Ns mainGlobals mg ∧ SaysY K
section
variable {K : PySem.W.Frag} {mg : Str → Option Value}
theorem SaysY.d (c : SaysY K) : He.SaysD fa fn K := congrArg (fun z : AlY => z.1) c
theorem SaysY.x (c : SaysY K) : exB K = true := congrArg (fun z : AlY => z.2) c
theorem Txt.glo (T : Txt K mg) (i : Nat) {x : Str} (h : fa[i]? = some (.glo x)) : mg x = some (.ref (He.ga K x)) := let ⟨_, X, G, c⟩ := T.ex; He.glo_ok X G (c.d.fact i h)
theorem Txt.free (T : Txt K mg) (i : Nat) {x : Str} (h : fa[i]? = some (.free x)) : mg x = none := let ⟨_, X, G, c⟩ := T.ex; He.free_ok X G (c.d.fact i h)
theorem Txt.int (T : Txt K mg) (i : Nat) {x : Str} {n : Int} (h : fa[i]? = some (.int x n)) : ∃ t, mg x = some (.int n t) := let ⟨_, X, G, c⟩ := T.ex; He.int_ok X G (c.d.fact i h)
theorem Txt.def_ (T : Txt K mg) (i : Nat) {d : He.DefD} (h : fn[i]? = some d) : ∃ fd, FunD K d.name d.qual d.params d.body d.scope (d.dvs K) (d.kws K) (He.fAd K d.at_) fd := let ⟨_, _, _, c⟩ := T.ex; c.d.def_ i h
abbrev FnP (K : PySem.W.Frag) (x : Str) (st : Stmt) (fd : FuncData) : Prop := FunD K x x (defArgs st) (defBody st) (defScope st) [] [] (He.ga K x) fd
theorem Txt.t_is_integer (T : Txt K mg) : (∃ fd, FnP K "is_integer" s_is_integer fd) ∧ mg "is_integer" = some (.ref (He.ga K "is_integer")) := ⟨T.def_ 0 (d := d_is_integer) rfl, T.glo 0 rfl⟩
theorem Txt.t_is_count (T : Txt K mg) : (∃ fd, FnP K "is_count" s_is_count fd) ∧ mg "is_count" = some (.ref (He.ga K "is_count")) := ⟨T.def_ 1 (d := d_is_count) rfl, T.glo 1 rfl⟩
theorem Txt.t_is_list (T : Txt K mg) : (∃ fd, FnP K "is_list" s_is_list fd) ∧ mg "is_list" = some (.ref (He.ga K "is_list")) := ⟨T.def_ 2 (d := d_is_list) rfl, T.glo 2 rfl⟩
theorem Txt.t_want_many (T : Txt K mg) : (∃ fd, FunD K "want_many" "want_many" (defArgs s_want_many) (defBody s_want_many) (defScope s_want_many) [.non, .int 0] [] (He.ga K "want_many") fd) ∧ mg "want_many" = some (.ref (He.ga K "want_many")) := ⟨T.def_ 3 (d := d_want_many) rfl, T.glo 3 rfl⟩
theorem Txt.t_want_at_most (T : Txt K mg) : (∃ fd, FnP K "want_at_most" s_want_at_most fd) ∧ mg "want_at_most" = some (.ref (He.ga K "want_at_most")) := ⟨T.def_ 4 (d := d_want_at_most) rfl, T.glo 4 rfl⟩
theorem Txt.t_made_ratio (T : Txt K mg) : (∃ fd, FnP K "made_ratio" s_made_ratio fd) ∧ mg "made_ratio" = some (.ref (He.ga K "made_ratio")) := ⟨T.def_ 5 (d := d_made_ratio) rfl, T.glo 5 rfl⟩
theorem Txt.t_add_ratios (T : Txt K mg) : (∃ fd, FnP K "add_ratios" s_add_ratios fd) ∧ mg "add_ratios" = some (.ref (He.ga K "add_ratios")) := ⟨T.def_ 6 (d := d_add_ratios) rfl, T.glo 6 rfl⟩
theorem Txt.t_mul_ratios (T : Txt K mg) : (∃ fd, FnP K "mul_ratios" s_mul_ratios fd) ∧ mg "mul_ratios" = some (.ref (He.ga K "mul_ratios")) := ⟨T.def_ 7 (d := d_mul_ratios) rfl, T.glo 7 rfl⟩
theorem Txt.t_power_ratio (T : Txt K mg) : (∃ fd, FnP K "power_ratio" s_power_ratio fd) ∧ mg "power_ratio" = some (.ref (He.ga K "power_ratio")) := ⟨T.def_ 8 (d := d_power_ratio) rfl, T.glo 8 rfl⟩
theorem Txt.t_is_ratio (T : Txt K mg) : (∃ fd, FnP K "is_ratio" s_is_ratio fd) ∧ mg "is_ratio" = some (.ref (He.ga K "is_ratio")) := ⟨T.def_ 9 (d := d_is_ratio) rfl, T.glo 9 rfl⟩
theorem Txt.t_is_point (T : Txt K mg) : (∃ fd, FnP K "is_point" s_is_point fd) ∧ mg "is_point" = some (.ref (He.ga K "is_point")) := ⟨T.def_ 10 (d := d_is_point) rfl, T.glo 10 rfl⟩
theorem Txt.t_is_term (T : Txt K mg) : (∃ fd, FnP K "is_term" s_is_term fd) ∧ mg "is_term" = some (.ref (He.ga K "is_term")) := ⟨T.def_ 11 (d := d_is_term) rfl, T.glo 11 rfl⟩
theorem Txt.t_is_poly_in (T : Txt K mg) : (∃ fd, FnP K "is_poly_in" s_is_poly_in fd) ∧ mg "is_poly_in" = some (.ref (He.ga K "is_poly_in")) := ⟨T.def_ 12 (d := d_is_poly_in) rfl, T.glo 12 rfl⟩
theorem Txt.t_letters_of (T : Txt K mg) : (∃ fd, FnP K "letters_of" s_letters_of fd) ∧ mg "letters_of" = some (.ref (He.ga K "letters_of")) := ⟨T.def_ 13 (d := d_letters_of) rfl, T.glo 13 rfl⟩
theorem Txt.t_is_any_poly (T : Txt K mg) : (∃ fd, FnP K "is_any_poly" s_is_any_poly fd) ∧ mg "is_any_poly" = some (.ref (He.ga K "is_any_poly")) := ⟨T.def_ 14 (d := d_is_any_poly) rfl, T.glo 14 rfl⟩
theorem Txt.t_want_letters_many (T : Txt K mg) : (∃ fd, FnP K "want_letters_many" s_want_letters_many fd) ∧ mg "want_letters_many" = some (.ref (He.ga K "want_letters_many")) := ⟨T.def_ 15 (d := d_want_letters_many) rfl, T.glo 15 rfl⟩
theorem Txt.t_want_poly (T : Txt K mg) : (∃ fd, FnP K "want_poly" s_want_poly fd) ∧ mg "want_poly" = some (.ref (He.ga K "want_poly")) := ⟨T.def_ 16 (d := d_want_poly) rfl, T.glo 16 rfl⟩
theorem Txt.t_want_poly_in (T : Txt K mg) : (∃ fd, FnP K "want_poly_in" s_want_poly_in fd) ∧ mg "want_poly_in" = some (.ref (He.ga K "want_poly_in")) := ⟨T.def_ 17 (d := d_want_poly_in) rfl, T.glo 17 rfl⟩
theorem Txt.t_want_point_for (T : Txt K mg) : (∃ fd, FnP K "want_point_for" s_want_point_for fd) ∧ mg "want_point_for" = some (.ref (He.ga K "want_point_for")) := ⟨T.def_ 18 (d := d_want_point_for) rfl, T.glo 18 rfl⟩
theorem Txt.t_told_poly (T : Txt K mg) : (∃ fd, FnP K "told_poly" s_told_poly fd) ∧ mg "told_poly" = some (.ref (He.ga K "told_poly")) := ⟨T.def_ 19 (d := d_told_poly) rfl, T.glo 19 rfl⟩
theorem Txt.t_put_more (T : Txt K mg) : (∃ fd, FnP K "put_more" s_put_more fd) ∧ mg "put_more" = some (.ref (He.ga K "put_more")) := ⟨T.def_ 20 (d := d_put_more) rfl, T.glo 20 rfl⟩
theorem Txt.t_degree_of (T : Txt K mg) : (∃ fd, FnP K "degree_of" s_degree_of fd) ∧ mg "degree_of" = some (.ref (He.ga K "degree_of")) := ⟨T.def_ 21 (d := d_degree_of) rfl, T.glo 21 rfl⟩
theorem Txt.t_want_few (T : Txt K mg) : (∃ fd, FnP K "want_few" s_want_few fd) ∧ mg "want_few" = some (.ref (He.ga K "want_few")) := ⟨T.def_ 22 (d := d_want_few) rfl, T.glo 22 rfl⟩
theorem Txt.t_value_of (T : Txt K mg) : (∃ fd, FnP K "value_of" s_value_of fd) ∧ mg "value_of" = some (.ref (He.ga K "value_of")) := ⟨T.def_ 23 (d := d_value_of) rfl, T.glo 23 rfl⟩
theorem Txt.t_poly_of (T : Txt K mg) : (∃ fd, FnP K "poly_of" s_poly_of fd) ∧ mg "poly_of" = some (.ref (He.ga K "poly_of")) := ⟨T.def_ 24 (d := d_poly_of) rfl, T.glo 24 rfl⟩
theorem Txt.t_value_at (T : Txt K mg) : (∃ fd, FnP K "value_at" s_value_at fd) ∧ mg "value_at" = some (.ref (He.ga K "value_at")) := ⟨T.def_ 25 (d := d_value_at) rfl, T.glo 25 rfl⟩
theorem Txt.t_nested_from (T : Txt K mg) : (∃ fd, FnP K "nested_from" s_nested_from fd) ∧ mg "nested_from" = some (.ref (He.ga K "nested_from")) := ⟨T.def_ 26 (d := d_nested_from) rfl, T.glo 26 rfl⟩
theorem Txt.t_terms_from (T : Txt K mg) : (∃ fd, FnP K "terms_from" s_terms_from fd) ∧ mg "terms_from" = some (.ref (He.ga K "terms_from")) := ⟨T.def_ 27 (d := d_terms_from) rfl, T.glo 27 rfl⟩
theorem Txt.t_poly_from (T : Txt K mg) : (∃ fd, FnP K "poly_from" s_poly_from fd) ∧ mg "poly_from" = some (.ref (He.ga K "poly_from")) := ⟨T.def_ 28 (d := d_poly_from) rfl, T.glo 28 rfl⟩
theorem Txt.t_value_from (T : Txt K mg) : (∃ fd, FnP K "value_from" s_value_from fd) ∧ mg "value_from" = some (.ref (He.ga K "value_from")) := ⟨T.def_ 29 (d := d_value_from) rfl, T.glo 29 rfl⟩
theorem Txt.t_has_form (T : Txt K mg) : (∃ fd, FnP K "has_form" s_has_form fd) ∧ mg "has_form" = some (.ref (He.ga K "has_form")) := ⟨T.def_ 30 (d := d_has_form) rfl, T.glo 30 rfl⟩
theorem Txt.t_is_nested_of (T : Txt K mg) : (∃ fd, FnP K "is_nested_of" s_is_nested_of fd) ∧ mg "is_nested_of" = some (.ref (He.ga K "is_nested_of")) := ⟨T.def_ 31 (d := d_is_nested_of) rfl, T.glo 31 rfl⟩
theorem Txt.t_want_nested (T : Txt K mg) : (∃ fd, FnP K "want_nested" s_want_nested fd) ∧ mg "want_nested" = some (.ref (He.ga K "want_nested")) := ⟨T.def_ 32 (d := d_want_nested) rfl, T.glo 32 rfl⟩
theorem Txt.t_is_nested (T : Txt K mg) : (∃ fd, FnP K "is_nested" s_is_nested fd) ∧ mg "is_nested" = some (.ref (He.ga K "is_nested")) := ⟨T.def_ 33 (d := d_is_nested) rfl, T.glo 33 rfl⟩
theorem Txt.t_nested_of (T : Txt K mg) : (∃ fd, FnP K "nested_of" s_nested_of fd) ∧ mg "nested_of" = some (.ref (He.ga K "nested_of")) := ⟨T.def_ 34 (d := d_nested_of) rfl, T.glo 34 rfl⟩
theorem Txt.t_poly_of_nested (T : Txt K mg) : (∃ fd, FnP K "poly_of_nested" s_poly_of_nested fd) ∧ mg "poly_of_nested" = some (.ref (He.ga K "poly_of_nested")) := ⟨T.def_ 35 (d := d_poly_of_nested) rfl, T.glo 35 rfl⟩
theorem Txt.t_value_of_nested (T : Txt K mg) : (∃ fd, FnP K "value_of_nested" s_value_of_nested fd) ∧ mg "value_of_nested" = some (.ref (He.ga K "value_of_nested")) := ⟨T.def_ 36 (d := d_value_of_nested) rfl, T.glo 36 rfl⟩
theorem Txt.t__law_pot (T : Txt K mg) : (∃ fd, FnP K "_law_pot" s__law_pot fd) ∧ mg "_law_pot" = some (.ref (He.ga K "_law_pot")) := ⟨T.def_ 37 (d := d__law_pot) rfl, T.glo 37 rfl⟩
theorem Txt.t__law_draw (T : Txt K mg) : (∃ fd, FnP K "_law_draw" s__law_draw fd) ∧ mg "_law_draw" = some (.ref (He.ga K "_law_draw")) := ⟨T.def_ 38 (d := d__law_draw) rfl, T.glo 38 rfl⟩
theorem Txt.t__law_pick (T : Txt K mg) : (∃ fd, FnP K "_law_pick" s__law_pick fd) ∧ mg "_law_pick" = some (.ref (He.ga K "_law_pick")) := ⟨T.def_ 39 (d := d__law_pick) rfl, T.glo 39 rfl⟩
theorem Txt.t__law_low (T : Txt K mg) : (∃ fd, FnP K "_law_low" s__law_low fd) ∧ mg "_law_low" = some (.ref (He.ga K "_law_low")) := ⟨T.def_ 40 (d := d__law_low) rfl, T.glo 40 rfl⟩
theorem Txt.t__law_add (T : Txt K mg) : (∃ fd, FnP K "_law_add" s__law_add fd) ∧ mg "_law_add" = some (.ref (He.ga K "_law_add")) := ⟨T.def_ 41 (d := d__law_add) rfl, T.glo 41 rfl⟩
theorem Txt.t__law_mul (T : Txt K mg) : (∃ fd, FnP K "_law_mul" s__law_mul fd) ∧ mg "_law_mul" = some (.ref (He.ga K "_law_mul")) := ⟨T.def_ 42 (d := d__law_mul) rfl, T.glo 42 rfl⟩
theorem Txt.t__law_told (T : Txt K mg) : (∃ fd, FnP K "_law_told" s__law_told fd) ∧ mg "_law_told" = some (.ref (He.ga K "_law_told")) := ⟨T.def_ 43 (d := d__law_told) rfl, T.glo 43 rfl⟩
theorem Txt.t__law_value (T : Txt K mg) : (∃ fd, FnP K "_law_value" s__law_value fd) ∧ mg "_law_value" = some (.ref (He.ga K "_law_value")) := ⟨T.def_ 44 (d := d__law_value) rfl, T.glo 44 rfl⟩
theorem Txt.t__law_ratio (T : Txt K mg) : (∃ fd, FnP K "_law_ratio" s__law_ratio fd) ∧ mg "_law_ratio" = some (.ref (He.ga K "_law_ratio")) := ⟨T.def_ 45 (d := d__law_ratio) rfl, T.glo 45 rfl⟩
theorem Txt.t__law_terms (T : Txt K mg) : (∃ fd, FnP K "_law_terms" s__law_terms fd) ∧ mg "_law_terms" = some (.ref (He.ga K "_law_terms")) := ⟨T.def_ 46 (d := d__law_terms) rfl, T.glo 46 rfl⟩
theorem Txt.t__law_sums (T : Txt K mg) : (∃ fd, FnP K "_law_sums" s__law_sums fd) ∧ mg "_law_sums" = some (.ref (He.ga K "_law_sums")) := ⟨T.def_ 47 (d := d__law_sums) rfl, T.glo 47 rfl⟩
theorem Txt.t__law_poly (T : Txt K mg) : (∃ fd, FnP K "_law_poly" s__law_poly fd) ∧ mg "_law_poly" = some (.ref (He.ga K "_law_poly")) := ⟨T.def_ 48 (d := d__law_poly) rfl, T.glo 48 rfl⟩
theorem Txt.t__law_point (T : Txt K mg) : (∃ fd, FnP K "_law_point" s__law_point fd) ∧ mg "_law_point" = some (.ref (He.ga K "_law_point")) := ⟨T.def_ 49 (d := d__law_point) rfl, T.glo 49 rfl⟩
theorem Txt.t__law_nested (T : Txt K mg) : (∃ fd, FnP K "_law_nested" s__law_nested fd) ∧ mg "_law_nested" = some (.ref (He.ga K "_law_nested")) := ⟨T.def_ 50 (d := d__law_nested) rfl, T.glo 50 rfl⟩
theorem Txt.t__law_terms_of (T : Txt K mg) : (∃ fd, FnP K "_law_terms_of" s__law_terms_of fd) ∧ mg "_law_terms_of" = some (.ref (He.ga K "_law_terms_of")) := ⟨T.def_ 51 (d := d__law_terms_of) rfl, T.glo 51 rfl⟩
theorem Txt.t__law_is_nested (T : Txt K mg) : (∃ fd, FnP K "_law_is_nested" s__law_is_nested fd) ∧ mg "_law_is_nested" = some (.ref (He.ga K "_law_is_nested")) := ⟨T.def_ 52 (d := d__law_is_nested) rfl, T.glo 52 rfl⟩
theorem Txt.t__law_bent (T : Txt K mg) : (∃ fd, FnP K "_law_bent" s__law_bent fd) ∧ mg "_law_bent" = some (.ref (He.ga K "_law_bent")) := ⟨T.def_ 53 (d := d__law_bent) rfl, T.glo 53 rfl⟩
theorem Txt.t__law_right (T : Txt K mg) : (∃ fd, FnP K "_law_right" s__law_right fd) ∧ mg "_law_right" = some (.ref (He.ga K "_law_right")) := ⟨T.def_ 54 (d := d__law_right) rfl, T.glo 54 rfl⟩
theorem Txt.t_law (T : Txt K mg) : (∃ fd, FnP K "law" s_law fd) ∧ mg "law" = some (.ref (He.ga K "law")) := ⟨T.def_ 55 (d := d_law) rfl, T.glo 55 rfl⟩
theorem Txt.c_MOST_LETTERS_boxes (T : Txt K mg) : ∃ t, mg "MOST_LETTERS_boxes" = some (.int 8 t) := T.int 56 rfl
theorem Txt.c_MOST_LETTERS_polys (T : Txt K mg) : ∃ t, mg "MOST_LETTERS_polys" = some (.int 8 t) := T.int 57 rfl
theorem Txt.c_MOST_DEGREE (T : Txt K mg) : ∃ t, mg "MOST_DEGREE" = some (.int 8 t) := T.int 58 rfl
theorem Txt.c_MOST_TERMS (T : Txt K mg) : ∃ t, mg "MOST_TERMS" = some (.int 60 t) := T.int 59 rfl
theorem Txt.c_MOST_PASSED (T : Txt K mg) : ∃ t, mg "MOST_PASSED" = some (.int 200 t) := T.int 60 rfl
theorem Txt.f_isinstance (T : Txt K mg) : mg "isinstance" = none := T.free 61 rfl
theorem Txt.f_int (T : Txt K mg) : mg "int" = none := T.free 62 rfl
theorem Txt.f_bool (T : Txt K mg) : mg "bool" = none := T.free 63 rfl
theorem Txt.f_list (T : Txt K mg) : mg "list" = none := T.free 64 rfl
theorem Txt.f_tuple (T : Txt K mg) : mg "tuple" = none := T.free 65 rfl
theorem Txt.f_len (T : Txt K mg) : mg "len" = none := T.free 66 rfl
theorem Txt.f_all (T : Txt K mg) : mg "all" = none := T.free 67 rfl
theorem Txt.f_any (T : Txt K mg) : mg "any" = none := T.free 68 rfl
theorem Txt.f_sum (T : Txt K mg) : mg "sum" = none := T.free 69 rfl
theorem Txt.f_zip (T : Txt K mg) : mg "zip" = none := T.free 70 rfl
theorem Txt.f_sorted (T : Txt K mg) : mg "sorted" = none := T.free 71 rfl
theorem Txt.f_max (T : Txt K mg) : mg "max" = none := T.free 72 rfl
theorem Txt.f_dict (T : Txt K mg) : mg "dict" = none := T.free 73 rfl
theorem Txt.f_range (T : Txt K mg) : mg "range" = none := T.free 74 rfl
theorem Txt.f_enumerate (T : Txt K mg) : mg "enumerate" = none := T.free 75 rfl
theorem Txt.f_abs (T : Txt K mg) : mg "abs" = none := T.free 76 rfl
theorem Txt.f_divmod (T : Txt K mg) : mg "divmod" = none := T.free 77 rfl
theorem Txt.f_repr (T : Txt K mg) : mg "repr" = none := T.free 78 rfl
theorem Txt.exs (T : Txt K mg) : ∃ h : Heap, K.In h ∧ h.Ns mainGlobals mg ∧ He.tupB K "NOUGHT" [.int 0, .int 1] = true ∧ He.tupB K "WHOLE" [.int 1, .int 1] = true ∧ PySem.W.nsIn K mainGlobals "NOUGHT" = some (some (.ref (He.ga K "NOUGHT"))) ∧ PySem.W.nsIn K mainGlobals "WHOLE" = some (some (.ref (He.ga K "WHOLE"))) ∧ PySem.W.nsIn K mainGlobals "gcd" = some (some (.builtin "math.gcd")) := by
  obtain ⟨h, X, G, c⟩ := T.ex
  obtain ⟨c1, c⟩ := He.ba c.x
  obtain ⟨c2, c⟩ := He.ba c
  obtain ⟨c3, c⟩ := He.ba c
  obtain ⟨c4, c5⟩ := He.ba c
  exact ⟨h, X, G, c1, c2, He.eqO_ok c3, He.eqO_ok c4, He.eqO_ok c5⟩
theorem Txt.gcd (T : Txt K mg) : mg "gcd" = some (.builtin "math.gcd") := let ⟨_, X, G, _, _, _, _, c⟩ := T.exs; PySem.W.mg_of X G c
theorem Txt.nought (T : Txt K mg) : mg "NOUGHT" = some (.ref (He.ga K "NOUGHT")) := let ⟨_, X, G, _, _, c, _⟩ := T.exs; PySem.W.mg_of X G c
theorem Txt.whole (T : Txt K mg) : mg "WHOLE" = some (.ref (He.ga K "WHOLE")) := let ⟨_, X, G, _, _, _, c, _⟩ := T.exs; PySem.W.mg_of X G c
theorem Txt.noughtR (T : Txt K mg) (H : Hp) : RatV K (0, 1) H (.ref (He.ga K "NOUGHT")) := let ⟨_, _, _, c, _⟩ := T.exs; ⟨_, rfl, He.tupB_ok c H⟩
theorem Txt.wholeR (T : Txt K mg) (H : Hp) : RatV K (1, 1) H (.ref (He.ga K "WHOLE")) := let ⟨_, _, _, _, c, _⟩ := T.exs; ⟨_, rfl, He.tupB_ok c H⟩
end
end K18

set_option Elab.async false
set_option linter.all false
set_option maxRecDepth 100000
set_option maxHeartbeats 4000000
/-! Defs by their promises; calls by position and by keywords (backwards); isinstance, len over data. -/
namespace K18
open PySem PySem.Spec PyProof.Rows L2
/-- the def x keeps the promise sp, at most at level k -/
structure Fd (P : Program) (w : World) (K : PySem.W.Frag) (mg : Str → Option Value) (base : Heap) (k : Nat) (x : Str) (ps : List Str) (sp : Sp) : Prop where
  ex : ∃ (f : Addr) (fd : FuncData), FnOk P w K mg base CX0 k f fd ps sp ∧ mg x = some (.ref f) ∧ PySem.W.keepIn K (.ref f) = true ∧ Binds K fd ps []
/-- .. called by keywords alone, backwards -/
structure FdK (P : Program) (w : World) (K : PySem.W.Frag) (mg : Str → Option Value) (base : Heap) (k : Nat) (x : Str) (ps : List Str) (sp : Sp) : Prop where
  ex : ∃ (f : Addr) (fd : FuncData), FnOk P w K mg base CX0 k f fd ps sp ∧ mg x = some (.ref f) ∧ PySem.W.keepIn K (.ref f) = true ∧ ∀ (s : Shared) (ws : List Value), ws.length = ps.length → BindsTo s fd ⟨[], ps.reverse.zip ws⟩ (ps.zip ws.reverse)
section
variable {P : Program} {w : World} {K : PySem.W.Frag} {mg : Str → Option Value} {base : Heap} {k : Nat} {x : Str} {st : Stmt} {N ps : List Str} {sp : Sp}
theorem Fd.mono {j : Nat} (F : Fd P w K mg base j x ps sp) (h : j ≤ k) : Fd P w K mg base k x ps sp := let ⟨f, fd, a, b⟩ := F.ex; ⟨f, fd, a.mono h, b⟩
theorem Fd.imp {sp' : Sp} (F : Fd P w K mg base k x ps sp) (h : ∀ vs H Q E, sp' vs H Q E → sp vs H Q E) : Fd P w K mg base k x ps sp' := let ⟨f, fd, a, b⟩ := F.ex; ⟨f, fd, a.imp h, b⟩
theorem mkFd (T : (∃ fd, FnP K x st fd) ∧ mg x = some (.ref (He.ga K x))) (S : FnScope N ps (defScope st))
    (hb : ∀ (kV doc pm : Value) (an : Option Addr) (cdv ct : Value) (us : List Value), us.length = ps.length → bindArgs (PySem.W.fnOf x x (defArgs st) (defBody st) (defScope st) .none kV doc pm an cdv ct) ⟨us, []⟩ = pure (ps.zip us))
    (len : ∀ vs H Q E, sp vs H Q E → vs.length = ps.length)
    (body : ∀ (cdv : Value) (A : Around) (outer : List Env) (s : Shared) (H : Hp) (vs : List V) (Q : VK) (E : XK), Room k (A.deeper (envOfC x (defScope st) s.heap.objs.size (He.ga K x) cdv)) → sp vs H Q E →
      ∃ t, PSs (cxOf CX0 P w K mg base N x (defScope st) (He.ga K x) cdv A outer s H E).nox (defBody st) t ∧ t { nx := fun _ H' => Q .non H', rt := Q } (start N vs) H) : Fd P w K mg base (k + 1) x ps sp := by
  obtain ⟨⟨fd, F⟩, hm⟩ := T
  exact ⟨_, fd, F.ok S len fun cdv A outer s H vs Q E hr hsp => let ⟨t, a, b⟩ := body cdv A outer s H vs Q E hr hsp; ⟨t, a.nox, b⟩, hm, F.kp, F.bindsN hb⟩
theorem mkFdK (T : (∃ fd, FnP K x st fd) ∧ mg x = some (.ref (He.ga K x))) (S : FnScope N ps (defScope st))
    (hb : ∀ (kV doc pm : Value) (an : Option Addr) (cdv ct : Value) (ws : List Value), ws.length = ps.length → bindArgs (PySem.W.fnOf x x (defArgs st) (defBody st) (defScope st) .none kV doc pm an cdv ct) ⟨[], ps.reverse.zip ws⟩ = pure (ps.zip ws.reverse))
    (len : ∀ vs H Q E, sp vs H Q E → vs.length = ps.length)
    (body : ∀ (cdv : Value) (A : Around) (outer : List Env) (s : Shared) (H : Hp) (vs : List V) (Q : VK) (E : XK), Room k (A.deeper (envOfC x (defScope st) s.heap.objs.size (He.ga K x) cdv)) → sp vs H Q E →
      ∃ t, PSs (cxOf CX0 P w K mg base N x (defScope st) (He.ga K x) cdv A outer s H E).nox (defBody st) t ∧ t { nx := fun _ H' => Q .non H', rt := Q } (start N vs) H) : FdK P w K mg base (k + 1) x ps sp := by
  obtain ⟨⟨fd, F⟩, hm⟩ := T
  refine ⟨_, fd, F.ok S len fun cdv A outer s H vs Q E hr hsp => let ⟨t, a, b⟩ := body cdv A outer s H vs Q E hr hsp; ⟨t, a.nox, b⟩, hm, F.kp, fun s ws hl => ?_⟩
  obtain ⟨oc, od, dV, kV, doc, pm, an, cdv, ct, osl, rfl, lk, hcd, hD, hK⟩ := F.ex
  rcases hD with ⟨_, rfl⟩ | ⟨e, _⟩
  · exact .of_eq (hb kV doc pm an cdv ct ws hl)
  · exact absurd rfl e
section
variable {X : Cx} {p pos : Pos} {e : Expr} {es : List Expr} {kws : List Keyword} {t tk : TA}
/-- f(e, ..) -/
theorem pe_f (F : Fd X.prog X.w X.K X.mg X.base k x ps sp) (hr : Room k X.A) (hg : Gl X x) (ha : PA X (e :: es) t) (hdb : (x == ("__debug__" : Str)) = false := by decide)
    (he : starEach (e :: es) X.env = (false, eval e X.env) :: starEach es X.env := by rfl) (hpl : (backTo pos (starEach es X.env)).any (·.1) = false := by rfl) : PE X (.Call (.Name x p) (e :: es) [] pos) (tCall sp [] E0 t) :=
  let ⟨_, _, a, b, c, d⟩ := F.ex; pe_call a hr hg b c d .nil pass0 ha hdb he hpl
/-- f(k = v, ..), the keywords backwards -/
def tCallR (sp : Sp) (t : TA) : TE := fun σ H Q => t σ H fun vs H1 => sp vs.reverse H1 Q E0
theorem vals_rev {vs : List V} {us : List Value} (h : Vals vs us) : Vals vs.reverse us.reverse := Vals.reverse h
theorem pe_fk (F : FdK X.prog X.w X.K X.mg X.base k x ps sp) (hr : Room k X.A) (hg : Gl X x) (hkw : PK X kws tk) (hall : (backToKw pos (keywordEach kws X.env)).all (·.1.isSome) = true := by rfl)
    (hks : (backToKw pos (keywordEach kws X.env)).filterMap (·.1) = ps.reverse := by rfl) (hn : (backToKw pos (keywordEach kws X.env)).any (·.1.isNone) = false := by rfl) (hdb : (x == ("__debug__" : Str)) = false := by decide) : PE X (.Call (.Name x p) [] kws pos) (tCallR sp tk) := ⟨fun pins s σ H Q I h => by
  obtain ⟨f, fd, a, b, c, d⟩ := F.ex
  refine wpAny_Call_Name_kw (ld_glob I hg b ?_ hdb)
  refine PySem.W.callWith_KW0 (h₀ := X.base) I.ok.mod.kin c hall ?_ hn
  refine thn (hkw.run pos pins s σ H _ I h) fun ws s1 ⟨zs, H1, I1, rz, q⟩ => ⟨I1.kIn, ?_⟩
  rw [hks]
  have r2 := vals_rev rz
  have hl : ws.length = ps.length := by
    have e1 := a.len _ _ _ _ q
    rw [List.length_reverse, rz.length] at e1
    exact e1
  refine wpAny_call (codeAny_mono (a.run X.A X.stack s1 H1 ⟨[], ps.reverse.zip ws⟩ ws.reverse zs.reverse Q E0 hr I1.env0 (d s1 ws hl) r2 q) fun r s' hq => ?_)
  cases r with
  | error e => exact hq.elim
  | ok fl =>
    cases fl with
    | ret u => exact I1.after hq
    | next => exact False.elim hq
    | brk => exact False.elim hq
    | cont => exact False.elim hq⟩
end
section
variable {σ : L2.St} {H H' : Hp} {ta tb tc te : TE} {α β γ δ : Type} {A : Rel α} {B : Rel β} {C : Rel γ} {D : Rel δ} {a : α} {b : β} {c : γ}
theorem len1 {pre : α → Prop} {f : α → β} {p1 : Str} (vs : List V) (H : Hp) (Q : VK) (E : XK) (h : Pr1 A B pre f vs H Q E) : vs.length = [p1].length := by obtain ⟨_, _, rfl, _⟩ := h; rfl
theorem len2 {pre : α → β → Prop} {f : α → β → γ} {p1 p2 : Str} (vs : List V) (H : Hp) (Q : VK) (E : XK) (h : Pr2 A B C pre f vs H Q E) : vs.length = [p1, p2].length := by obtain ⟨_, _, _, _, rfl, _⟩ := h; rfl
theorem len3 {pre : α → β → γ → Prop} {f : α → β → γ → δ} {p1 p2 p3 : Str} (vs : List V) (H : Hp) (Q : VK) (E : XK) (h : Pr3 A B C D pre f vs H Q E) : vs.length = [p1, p2, p3].length := by obtain ⟨_, _, _, _, _, _, rfl, _⟩ := h; rfl
theorem er_callR2 [Mo B] {pre : α → β → Prop} {f : α → β → γ} (hb : ER tb σ H (B b)) (ha : ER ta σ H (A a)) (hp : pre a b) : ER (tCallR (Pr2 A B C pre f) (tCons tb (tCons ta tNil))) σ H (C (f a b)) := fun H1 e Q q =>
  hb H1 e _ fun y H2 e2 hy => ha H2 (e.trans e2) _ fun x H3 e3 hx => ⟨a, b, x, y, rfl, hx, Mo.mo e3 hy, hp, fun r H4 e4 hr => q r H4 ((e2.trans e3).trans e4) hr⟩
theorem er_callR3 [Mo B] [Mo C] {pre : α → β → γ → Prop} {f : α → β → γ → δ} (hc : ER tc σ H (C c)) (hb : ER tb σ H (B b)) (ha : ER ta σ H (A a)) (hp : pre a b c) : ER (tCallR (Pr3 A B C D pre f) (tCons tc (tCons tb (tCons ta tNil)))) σ H (D (f a b c)) := fun H1 e Q q =>
  hc H1 e _ fun z H2 e2 hz => hb H2 (e.trans e2) _ fun y H3 e3 hy => ha H3 ((e.trans e2).trans e3) _ fun x H4 e4 hx => ⟨a, b, c, x, y, z, rfl, hx, Mo.mo e4 hy, Mo.mo (e3.trans e4) hz, hp, fun r H5 e5 hr => q r H5 (((e2.trans e3).trans e4).trans e5) hr⟩
end
end
/-! ### kinds of data -/
def tyD : PyData → String
  | .none => "NoneType"
  | .bool _ => "bool"
  | .int _ => "int"
  | .str _ => "str"
  | .list _ => "list"
  | .tuple _ => "tuple"
  | .dict _ => "dict"
theorem tyX_tup {K : PySem.W.Frag} {H : Hp} {a : Addr} {xs : List V} (h : SqT K H a xs) : TyX K H (.ref a) (.type "tuple") := by
  rcases h with (h | ⟨o, h⟩) | ⟨o, its, n, h, hc, _⟩
  · exact .base (.tup h)
  · exact .fTuple h
  · exact .kTuple h hc
theorem tyX_lst {K : PySem.W.Frag} {H : Hp} {a : Addr} {xs : List V} (h : SqL K H a xs) : TyX K H (.ref a) (.type "list") := by
  rcases h with (h | ⟨o, h⟩) | ⟨o, its, n, h, hc, _⟩
  · exact .base (.lst h)
  · exact .base (.frz h)
  · exact .kList h hc
theorem tyX_dat {K : PySem.W.Frag} {H : Hp} : ∀ {d : PyData} {v : V}, Dp K H v d → TyX K H v (.type (tyD d))
  | _, _, .non => .base .non
  | _, _, .bl b => .base (.bl b)
  | _, _, .int i => .base (.int i)
  | _, _, .str x => .base (.str x)
  | _, _, .lst h _ => tyX_lst h
  | _, _, .tup h _ => tyX_tup h
section
variable {K : PySem.W.Frag} {σ : L2.St} {H : Hp} {ta tb : TE} {α β : Type} {A : Rel α}
theorem er_ty {n : String} : ER (tC (.ty n)) σ H (fun _ v => v = V.ty n) := fun H1 _ _ q => q _ H1 (Same.refl _) rfl
/-- isinstance(x, T) of data -/
theorem er_isD {d : PyData} {n : String} {r : Bool} (ha : ER ta σ H (DatV K d)) (hk : kitB (tyD d) n = some r) : ER (tCB (rIsi K) (tCons ta (tCons (tC (.ty n)) tNil))) σ H (BoolV r) :=
  er_CB2 ha er_ty fun x y H1 _ hx hy Q q => ⟨x, .ty n, .type (tyD d), .type n, r, by rw [show y = V.ty n from hy], .ty n, tyX_dat hx, kit_ty hk, q _ H1 (Same.refl _) rfl⟩
theorem kt (a b : String) (r : Bool) (h : (kitB a b == some r) = true) : kitB a b = some r := eq_of_beq h
theorem kit_int : ∀ d : PyData, kitB (tyD d) "int" = some (match d with | .int _ => true | .bool _ => true | _ => false)
  | .none => kt "NoneType" "int" false (by decide +kernel)
  | .bool _ => kt "bool" "int" true (by decide +kernel)
  | .int _ => kt "int" "int" true (by decide +kernel)
  | .str _ => kt "str" "int" false (by decide +kernel)
  | .list _ => kt "list" "int" false (by decide +kernel)
  | .tuple _ => kt "tuple" "int" false (by decide +kernel)
  | .dict _ => kt "dict" "int" false (by decide +kernel)
theorem kit_bool : ∀ d : PyData, kitB (tyD d) "bool" = some (match d with | .bool _ => true | _ => false)
  | .none => kt "NoneType" "bool" false (by decide +kernel)
  | .bool _ => kt "bool" "bool" true (by decide +kernel)
  | .int _ => kt "int" "bool" false (by decide +kernel)
  | .str _ => kt "str" "bool" false (by decide +kernel)
  | .list _ => kt "list" "bool" false (by decide +kernel)
  | .tuple _ => kt "tuple" "bool" false (by decide +kernel)
  | .dict _ => kt "dict" "bool" false (by decide +kernel)
theorem kit_tuple : ∀ d : PyData, kitB (tyD d) "tuple" = some (match d with | .tuple _ => true | _ => false)
  | .none => kt "NoneType" "tuple" false (by decide +kernel)
  | .bool _ => kt "bool" "tuple" false (by decide +kernel)
  | .int _ => kt "int" "tuple" false (by decide +kernel)
  | .str _ => kt "str" "tuple" false (by decide +kernel)
  | .list _ => kt "list" "tuple" false (by decide +kernel)
  | .tuple _ => kt "tuple" "tuple" true (by decide +kernel)
  | .dict _ => kt "dict" "tuple" false (by decide +kernel)
/-- of a tuple told by a relation -/
theorem er_isT {R : Hp → V → Prop} (ha : ER ta σ H R) (hR : ∀ H1 v, R H1 v → ∃ a xs, v = .ref a ∧ SqT K H1 a xs) : ER (tCB (rIsi K) (tCons ta (tCons (tC (.ty "tuple")) tNil))) σ H (BoolV true) := fun H1 e Q q =>
  ha H1 e _ fun x H2 e2 hx => let ⟨a, xs, ex, h⟩ := hR _ _ hx; ⟨x, .ty "tuple", .type "tuple", .type "tuple", true, rfl, .ty _, (by rw [ex]; exact tyX_tup h), kit_ty (by decide +kernel), q _ H2 e2 rfl⟩
/-- len -/
theorem er_lenT {l : List α} (ha : ER ta σ H (TupV K A l)) : ER (tCB (fun xs H Q => ∃ p ys, xs = [.ref p] ∧ (SqL K H p ys ∨ SqT K H p ys) ∧ Q (.int ys.length) H) (tCons ta tNil)) σ H (IntV (l.length : Int)) :=
  er_CB1 ha fun x H1 _ hx Q q => let ⟨a, xs, ex, h, h2⟩ := hx; ⟨a, xs, by rw [ex], .inr h, q _ H1 (Same.refl _) (by rw [Paired.length h2]; rfl)⟩
theorem er_lenL {l : List α} (ha : ER ta σ H (LstV A l)) : ER (tCB (fun xs H Q => ∃ p ys, xs = [.ref p] ∧ (SqL K H p ys ∨ SqT K H p ys) ∧ Q (.int ys.length) H) (tCons ta tNil)) σ H (IntV (l.length : Int)) :=
  er_CB1 ha fun x H1 _ hx Q q => let ⟨a, xs, ex, h, h2⟩ := hx; ⟨a, xs, by rw [ex], .inl (SqL.of h), q _ H1 (Same.refl _) (by rw [Paired.length h2]; rfl)⟩
theorem er_lenD {ds : List PyData} (ha : ER ta σ H (DatV K (.tuple ds))) : ER (tCB (fun xs H Q => ∃ p ys, xs = [.ref p] ∧ (SqL K H p ys ∨ SqT K H p ys) ∧ Q (.int ys.length) H) (tCons ta tNil)) σ H (IntV (ds.length : Int)) :=
  er_CB1 ha fun x H1 _ hx Q q => by
    cases hx with
    | tup h h2 => exact ⟨_, _, rfl, .inr h, q _ H1 (Same.refl _) (by rw [Paired.length (dpAll_iff.mp h2)]; rfl)⟩
/-- lists of truth values: all, any -/
theorem all2_bl {H : Hp} : ∀ {vs : List V} {bs : List Bool}, All2 BoolV H vs bs → vs = bs.map V.bl
  | _, _, .nil => rfl
  | _, _, .cons h t => by rw [List.map_cons, ← all2_bl t]; exact congrArg (· :: _) h
theorem all2_int {H : Hp} : ∀ {vs : List V} {bs : List Int}, All2 IntV H vs bs → vs = bs.map V.int
  | _, _, .nil => rfl
  | _, _, .cons h t => by rw [List.map_cons, ← all2_int t]; exact congrArg (· :: _) h
theorem er_all {bs : List Bool} (ha : ER ta σ H (LstV BoolV bs)) : ER (tCB (rAll K) (tCons ta tNil)) σ H (BoolV (bs.all id)) :=
  er_CB1 ha fun x H1 _ hx Q q => let ⟨a, xs, ex, h, h2⟩ := hx; ⟨a, bs, by rw [ex], by rw [← all2_bl h2]; exact SqL.of h, q _ H1 (Same.refl _) rfl⟩
theorem er_any {bs : List Bool} (ha : ER ta σ H (LstV BoolV bs)) : ER (tCB (rAny K) (tCons ta tNil)) σ H (BoolV (bs.any id)) :=
  er_CB1 ha fun x H1 _ hx Q q => let ⟨a, xs, ex, h, h2⟩ := hx; ⟨a, bs, by rw [ex], by rw [← all2_bl h2]; exact SqL.of h, q _ H1 (Same.refl _) rfl⟩
theorem er_sumKey {ks : List Int} (ha : ER ta σ H (KeyV ks)) : ER (tCB (rSumT K) (tCons ta tNil)) σ H (IntV ks.sum) :=
  er_CB1 ha fun x H1 _ hx Q q => let ⟨a, ex, h⟩ := hx; ⟨a, ks, by rw [ex], SqT.of h, q _ H1 (Same.refl _) rfl⟩
/-- max(xs) of a list of ints that holds something -/
def maxL : List Int → Int
  | [] => 0
  | [x] => x
  | x :: y :: r => max x (maxL (y :: r))
theorem maxL_mem : ∀ {l : List Int}, l ≠ [] → maxL l ∈ l
  | [], h => absurd rfl h
  | [x], _ => by simp [maxL]
  | x :: y :: r, _ => by
    have h := maxL_mem (l := y :: r) (by simp)
    show max x (maxL (y :: r)) ∈ _
    by_cases q : x ≤ maxL (y :: r)
    · rw [Int.max_eq_right q]; exact List.mem_cons_of_mem _ h
    · rw [Int.max_eq_left (by omega)]; exact List.mem_cons_self
theorem le_maxL : ∀ {l : List Int} {x : Int}, x ∈ l → x ≤ maxL l
  | [], _, h => nomatch h
  | [x], y, h => by rw [List.mem_singleton.mp h]; exact Int.le_refl _
  | x :: y :: r, z, h => by
    show z ≤ max x (maxL (y :: r))
    rcases List.mem_cons.mp h with e | h
    · rw [e]; exact Int.le_max_left _ _
    · exact Int.le_trans (le_maxL h) (Int.le_max_right _ _)
theorem maxL_eq {l : List Int} {m : Int} (hm : m ∈ l) (h : ∀ y ∈ l, y ≤ m) : m = maxL l := Int.le_antisymm (le_maxL hm) (h _ (maxL_mem (by rintro rfl; cases hm)))
theorem er_max {ns : List Int} (ha : ER ta σ H (LstV IntV ns)) (hn : 0 < ns.length) : ER (tCB (rMax K) (tCons ta tNil)) σ H (IntV (maxL ns)) :=
  er_CB1 ha fun x H1 _ hx Q q => let ⟨a, xs, ex, h, h2⟩ := hx; ⟨a, ns, by rw [ex], by rw [← all2_int h2]; exact SqL.of h, hn, fun m hm hle => by rw [maxL_eq hm hle]; exact q _ H1 (Same.refl _) rfl⟩
theorem paired_app {γ δ : Type} {F : γ → δ → Prop} : ∀ {l l' : List γ} {m m' : List δ}, Paired F l m → Paired F l' m' → Paired F (l ++ l') (m ++ m')
  | _, _, _, _, .nil, h => h
  | _, _, _, _, .cons a t, h => .cons a (paired_app t h)
/-- xs + ys of lists; [e] -/
theorem er_catL [Mo A] {xs ys : List α} (ha : ER ta σ H (LstV A xs)) (hb : ER tb σ H (LstV A ys)) (hz : xs.length + ys.length ≤ 100000) : ER (tOp rCat ta tb) σ H (LstV A (xs ++ ys)) :=
  er_op ha hb fun x y H1 _ hx hy Q q => by
    obtain ⟨a, vs, ex, h, h2⟩ := hx
    obtain ⟨b, ws, ey, g, g2⟩ := hy
    have l1 := Paired.length h2
    have l2 := Paired.length g2
    refine ⟨a, b, vs, ws, ex, ey, h, g, sz_of (by omega), fun p hp => q _ _ (same_new hp) ⟨p, vs ++ ws, rfl, upd_same, ?_⟩⟩
    exact paired_app (All2.mo (same_new hp) h2) (All2.mo (same_new hp) g2)
theorem er_lst1 [Mo A] {a : α} (ha : ER ta σ H (A a)) : ER (tLst (tCons ta tNil)) σ H (LstV A [a]) := fun H1 e Q q =>
  ha H1 e _ fun x H2 e2 hx => ⟨(by show 1 ≤ sizeLine; decide), fun p hp => q _ _ (e2.trans (same_new hp)) ⟨p, [x], rfl, upd_same, .cons (Mo.mo (same_new hp) hx) .nil⟩⟩
theorem er_lst0 : ER (tLst tNil) σ H (LstV A []) := fun H1 e Q q => ⟨(by show 0 ≤ sizeLine; decide), fun p hp => q _ _ (same_new hp) ⟨p, [], rfl, upd_same, .nil⟩⟩
/-- list(t), tuple(xs) -/
theorem er_listT [Mo A] {l : List α} (ha : ER ta σ H (TupV K A l)) : ER (tCB (fun xs H Q => ∃ p ys, xs = [.ref p] ∧ (SqL K H p ys ∨ SqT K H p ys) ∧ ∀ l, H l = none → Q (.ref l) (upd H l (.lst ys))) (tCons ta tNil)) σ H (LstV A l) :=
  er_CB1 ha fun x H1 _ hx Q q => let ⟨a, xs, ex, h, h2⟩ := hx; ⟨a, xs, by rw [ex], .inr h, fun p hp => q _ _ (same_new hp) ⟨p, xs, rfl, upd_same, All2.mo (same_new hp) h2⟩⟩
theorem er_tupleL [Mo A] {l : List α} (ha : ER ta σ H (LstV A l)) : ER (tThen ta (kTup K)) σ H (TupV K A l) := fun H1 e Q q =>
  ha H1 e _ fun x H2 e2 hx => let ⟨a, xs, ex, h, h2⟩ := hx; .inl ⟨a, xs, ex, SqL.of h, fun p hp => q _ _ (e2.trans (same_new hp)) ⟨p, xs, rfl, SqT.of upd_same, All2.mo (same_new hp) h2⟩⟩
end
end K18

set_option Elab.async false
set_option linter.all false
set_option maxRecDepth 100000
set_option maxHeartbeats 4000000
/-! The program's small defs: whole numbers, ratios. -/
namespace K18
open PySem PySem.Spec PyProof.Rows L2
/-! ### what they answer -/
def isIntD (d : PyData) : Bool := (match d with | .int _ => true | .bool _ => true | _ => false) && !(match d with | .bool _ => true | _ => false)
/-- lowest terms, under above 0 -/
def mkR (n u : Int) : Rt := (n / ((Nat.gcd n.natAbs u.natAbs : Nat) : Int), u / ((Nat.gcd n.natAbs u.natAbs : Nat) : Int))
def addR (a b : Rt) : Rt := mkR (a.1 * b.2 + b.1 * a.2) (a.2 * b.2)
def mulR (a b : Rt) : Rt := mkR (a.1 * b.1) (a.2 * b.2)
def powR (r : Rt) : Nat → Rt
  | 0 => (1, 1)
  | n + 1 => mulR (powR r n) r
def isRatD : PyData → Bool
  | .tuple [.int n, .int u] => decide (1 ≤ u) && decide (((Nat.gcd n.natAbs u.natAbs : Nat) : Int) = 1)
  | _ => false
def ratD (r : Rt) : PyData := .tuple [.int r.1, .int r.2]
/-- sizes: below 2 ^ n, under at least 1 -/
def SzR (n : Nat) (r : Rt) : Prop := r.1.natAbs < 2 ^ n ∧ 0 < r.2 ∧ r.2.natAbs < 2 ^ n
theorem SzR.mono {m n : Nat} {r : Rt} (h : SzR m r) (l : m ≤ n) : SzR n r :=
  ⟨Nat.lt_of_lt_of_le h.1 (Nat.pow_le_pow_right (by decide) l), h.2.1, Nat.lt_of_lt_of_le h.2.2 (Nat.pow_le_pow_right (by decide) l)⟩
theorem gcd_pos_r {n u : Int} (h : 0 < u) : 0 < Nat.gcd n.natAbs u.natAbs := Nat.gcd_pos_of_pos_right _ (Int.natAbs_pos.mpr (by omega))
theorem natAbs_div_le (n : Int) (g : Nat) : (n / (g : Int)).natAbs ≤ n.natAbs := Int.natAbs_ediv_le_natAbs n g
theorem mkR_sz {m : Nat} {n u : Int} (hn : n.natAbs < 2 ^ m) (hu : 0 < u) (hu2 : u.natAbs < 2 ^ m) : SzR m (mkR n u) := by
  have hg := gcd_pos_r (n := n) hu
  refine ⟨Nat.lt_of_le_of_lt (natAbs_div_le _ _) hn, ?_, Nat.lt_of_le_of_lt (natAbs_div_le _ _) hu2⟩
  have hd : ((Nat.gcd n.natAbs u.natAbs : Nat) : Int) ∣ u := Int.ofNat_dvd_left.mpr (Nat.gcd_dvd_right _ _)
  exact Int.ediv_pos_of_pos_of_dvd hu (by omega) hd
theorem mul_lt_pow {a b m n : Nat} (ha : a < 2 ^ m) (hb : b < 2 ^ n) : a * b < 2 ^ (m + n) := by rw [Nat.pow_add]; exact Nat.mul_lt_mul'' ha hb
theorem add_lt_pow {a b m : Nat} (ha : a < 2 ^ m) (hb : b < 2 ^ m) : a + b < 2 ^ (m + 1) := by rw [Nat.pow_succ]; omega
theorem addR_sz {m n : Nat} {a b : Rt} (ha : SzR m a) (hb : SzR n b) : SzR (m + n + 1) (addR a b) := by
  have h1 : (a.1 * b.2).natAbs < 2 ^ (m + n) := by rw [Int.natAbs_mul]; exact mul_lt_pow ha.1 hb.2.2
  have h2 : (b.1 * a.2).natAbs < 2 ^ (m + n) := by rw [Int.natAbs_mul, Nat.mul_comm]; exact mul_lt_pow ha.2.2 hb.1
  have h3 : (a.2 * b.2).natAbs < 2 ^ (m + n) := by rw [Int.natAbs_mul]; exact mul_lt_pow ha.2.2 hb.2.2
  refine mkR_sz ?_ (Int.mul_pos ha.2.1 hb.2.1) (Nat.lt_of_lt_of_le h3 (Nat.pow_le_pow_right (by decide) (by omega)))
  exact Nat.lt_of_le_of_lt (Int.natAbs_add_le _ _) (add_lt_pow h1 h2)
theorem mulR_sz {m n : Nat} {a b : Rt} (ha : SzR m a) (hb : SzR n b) : SzR (m + n) (mulR a b) := by
  refine mkR_sz ?_ (Int.mul_pos ha.2.1 hb.2.1) ?_
  · rw [Int.natAbs_mul]; exact mul_lt_pow ha.1 hb.1
  · rw [Int.natAbs_mul]; exact mul_lt_pow ha.2.2 hb.2.2
theorem powR_sz {m : Nat} {r : Rt} (h : SzR m r) : ∀ n, SzR (m * n + 1) (powR r n)
  | 0 => ⟨by show (1 : Int).natAbs < _; simp, by show (0 : Int) < 1; decide, by show (1 : Int).natAbs < _; simp⟩
  | n + 1 => (mulR_sz (powR_sz h n) h).mono (by rw [Nat.mul_succ]; omega)
/-! ### built-ins by name -/
theorem bt_isinstance : bootBuiltins "isinstance" = some (.builtin "isinstance") := by decide +kernel
theorem bt_int : bootBuiltins "int" = some (.type "int") := by decide +kernel
theorem bt_bool : bootBuiltins "bool" = some (.type "bool") := by decide +kernel
theorem bt_tuple : bootBuiltins "tuple" = some (.type "tuple") := by decide +kernel
theorem bt_list : bootBuiltins "list" = some (.type "list") := by decide +kernel
theorem bt_dict : bootBuiltins "dict" = some (.type "dict") := by decide +kernel
theorem bt_len : bootBuiltins "len" = some (.builtin "len") := by decide +kernel
theorem bt_all : bootBuiltins "all" = some (.builtin "all") := by decide +kernel
theorem bt_any : bootBuiltins "any" = some (.builtin "any") := by decide +kernel
theorem bt_sum : bootBuiltins "sum" = some (.builtin "sum") := by decide +kernel
theorem bt_max : bootBuiltins "max" = some (.builtin "max") := by decide +kernel
theorem bt_abs : bootBuiltins "abs" = some (.builtin "abs") := by decide +kernel
theorem bt_sorted : bootBuiltins "sorted" = some (.builtin "sorted") := by decide +kernel
theorem bt_divmod : bootBuiltins "divmod" = some (.builtin "divmod") := by decide +kernel
theorem bt_repr : bootBuiltins "repr" = some (.builtin "repr") := by decide +kernel
section
variable {X : Cx} {p1 p2 pos : Pos} {e : Expr} {te : TE}
/-- isinstance(e, int) and the like -/
theorem pe_isi {n : Str} {m : String} {q2 : Pos} (mi : X.mg "isinstance" = none) (gi : Gl X "isinstance") (he : PE X e te) (gn : Gl X n) (mn : X.mg n = none) (bn : bootBuiltins n = some (.type m)) (hn : n ≠ "__name__" := by decide) (hd : (n == ("__debug__" : Str)) = false := by decide)
    (h1 : starEach [e, .Name n q2] X.env = (false, eval e X.env) :: starEach [.Name n q2] X.env := by rfl) (h2 : starEach [.Name n q2] X.env = (false, eval (.Name n q2) X.env) :: starEach [] X.env := by rfl) (h3 : (backTo pos (starEach [.Name n q2] X.env)).any (·.1) = false := by rfl) :
    PE X (.Call (.Name "isinstance" p1) [e, .Name n q2] [] pos) (tCB (rIsi X.K) (tCons te (tCons (tC (.ty m)) tNil))) :=
  pe_callB call_isi gi mi bt_isinstance (pa_cons he (pa_cons (pe_bltn (v := .ty m) gn mn bn rfl hn hd) pa_nil h2) h1) (by decide) (by decide) h1 h3
end
section
variable {P : Program} {w : World} {K : PySem.W.Frag} {mg : Str → Option Value} {base : Heap} {k : Nat} (T : Txt K mg)
include T
theorem sc_is_integer : FnScope ["value"] ["value"] (defScope s_is_integer) := ⟨rfl, rfl, rfl, by decide +kernel, rfl, by decide +kernel, by decide +kernel⟩
theorem ok_is_integer : Fd P w K mg base 1 "is_integer" ["value"] (Pr1 (DatV K) BoolV (fun _ => True) isIntD) := by
  refine mkFd T.t_is_integer (sc_is_integer T) (fun _ _ _ _ _ _ us hl => match us, hl with | [_], _ => rfl) len1 (fun cdv A outer s H vs Q E hr h => ?_)
  obtain ⟨d, v, rfl, ha, _, q⟩ := h
  refine ⟨_, (pss_one (ps_ret (pe_and (pe_isi T.f_isinstance rfl (pv 0) rfl T.f_int bt_int) (pe_one (pe_not (pe_isi T.f_isinstance rfl (pv 0) rfl T.f_bool bt_bool)))))), ?_⟩
  exact s_ret (er_andV (er_isD (er_var 0 rfl ha) (kit_int d)) fun _ => er_notV (er_isD (er_var 0 rfl ha) (kit_bool d))) q
abbrev SpIsInteger (K : PySem.W.Frag) : Sp := Pr1 (DatV K) BoolV (fun _ => True) isIntD
abbrev SpIsCount : Sp := Pr1 IntV BoolV (fun _ => True) (fun i => decide (0 ≤ i))
theorem sc_is_count : FnScope ["value"] ["value"] (defScope s_is_count) := ⟨rfl, rfl, rfl, by decide +kernel, rfl, by decide +kernel, by decide +kernel⟩
theorem ok_is_count (F_is_integer : Fd P w K mg base 1 "is_integer" ["value"] (SpIsInteger K)) : Fd P w K mg base 2 "is_count" ["value"] SpIsCount := by
  refine mkFd T.t_is_count (sc_is_count T) (fun _ _ _ _ _ _ us hl => match us, hl with | [_], _ => rfl) len1 (fun cdv A outer s H vs Q E hr h => ?_)
  obtain ⟨d, v, rfl, ha, _, q⟩ := h
  refine ⟨_, (pss_one (ps_ret (pe_and (pe_f F_is_integer (hr.mono (by omega)) rfl (pa_cons (pv 0) pa_nil)) (pe_one (pe_cmpR op_ge (pv 0) pe_int (nomark _)))))), ?_⟩
  have hd : DatV K (.int d) H v := by rw [show v = .int d from ha]; exact .int d
  exact s_ret (er_andV (er_call1 (er_var 0 rfl hd) trivial) fun _ => er_IB (er_var 0 rfl ha) er_int) q
abbrev SpWantMany : Sp := Pr3 IntV IntV IntV NonV (fun v m l => 0 ≤ v ∧ l ≤ v ∧ v ≤ m) (fun _ _ _ => ())
theorem sc_want_many : FnScope ["value", "most", "least"] ["value", "most", "least"] (defScope s_want_many) := ⟨rfl, rfl, rfl, by decide +kernel, rfl, by decide +kernel, by decide +kernel⟩
theorem er_notNon {σ : L2.St} {H : Hp} {ta tb : TE} {i : Int} (ha : ER ta σ H (IntV i)) : ER (tOp (fun x y H Q => y = V.non ∧ Q (.bl (!decide (x = V.non))) H) ta (tC .non)) σ H (BoolV true) := fun H1 e Q q =>
  ha H1 e _ fun x H2 e2 hx => ⟨rfl, q _ H2 e2 (by rw [show x = V.int i from hx]; rfl)⟩
theorem ok_want_many (F_is_count : Fd P w K mg base 2 "is_count" ["value"] SpIsCount) : Fd P w K mg base 3 "want_many" ["value", "most", "least"] SpWantMany := by
  obtain ⟨⟨fd, F⟩, hm⟩ := T.t_want_many
  obtain ⟨ds, vds, hb⟩ := F.binds1 (ps := ["value", "most", "least"]) 3 2 (by decide) rfl fun tt kV doc pm an cdv ct us its h1 h2 => ⟨_, rfl, match us, its, h1, h2 with | [_, _, _], [_, _], _, _ => rfl⟩
  have e0 : ds = [] := by cases vds; rfl
  subst e0
  refine ⟨_, fd, F.ok (sc_want_many T) len3 fun cdv A outer s H vs Q E hr h => ?_, hm, F.kp, hb⟩
  obtain ⟨a, b, c, v, w, x, rfl, ha, hb, hc, ⟨h1, h2, h3⟩, q⟩ := h
  refine ⟨_, PSs.nox (pss_one (ps_if (PW.pt (pw_or (pt_not (pt_val (pe_f F_is_count (hr.mono (by omega)) rfl (pa_cons (pv 0) pa_nil)))) (pw_or (pt_cmpR op_lt (pv 0) (pv 2) (nomark _)) (pw_or1 (PW.pt (pw_and (pt_cmpR op_notN (pv 1) pe_non (nomark _)) (pw_and1 (pt_cmpR op_gt (pv 0) (pv 1) (nomark _))))))))) (pss_one ps_never) pss_nil)), ?_⟩
  refine s_when1 (b := false) ((et_or (et_not (et_B (er_call1 (er_var 0 rfl ha) trivial))) fun _ => et_or (et_test (er_IB (er_var 0 rfl ha) (er_var 2 rfl hc))) fun _ => et_and (et_test (er_notNon T (tb := tC .non) (er_var 1 rfl hb))) fun _ => et_test (er_IB (er_var 0 rfl ha) (er_var 1 rfl hb))).eq ?_) (fun z => nomatch z) (fun _ H1 e => q _ H1 e rfl)
  simp [h1]
  omega
abbrev SpWantAtMost : Sp := Pr3 AnyV IntV IntV NonV (fun _ m v => v ≤ m) (fun _ _ _ => ())
theorem sc_want_at_most : FnScope ["what", "limit", "number"] ["what", "limit", "number"] (defScope s_want_at_most) := ⟨rfl, rfl, rfl, by decide +kernel, rfl, by decide +kernel, by decide +kernel⟩
theorem ok_want_at_most : Fd P w K mg base 1 "want_at_most" ["what", "limit", "number"] SpWantAtMost := by
  refine mkFd T.t_want_at_most (sc_want_at_most T) (fun _ _ _ _ _ _ us hl => match us, hl with | [_, _, _], _ => rfl) len3 (fun cdv A outer s H vs Q E hr h => ?_)
  obtain ⟨a, b, c, v, w, x, rfl, ha, hb, hc, h1, q⟩ := h
  refine ⟨_, (pss_one (ps_if (pt_cmpR op_gt (pv 2) (pv 1) (nomark _)) (pss_one ps_never) pss_nil)), ?_⟩
  exact s_when1 (b := false) ((et_test (er_IB (er_var 2 rfl hc) (er_var 1 rfl hb))).eq (by simp; omega)) (fun z => nomatch z) (fun _ H1 e => q _ H1 e rfl)
/-! ### ratios -/
abbrev SpMade (K : PySem.W.Frag) : Sp := Pr2 IntV IntV (RatV K) (fun n u => 0 < u ∧ u.natAbs < 2 ^ 8000) mkR
theorem sc_made_ratio : FnScope ["number", "under", "part"] ["number", "under"] (defScope s_made_ratio) := ⟨rfl, rfl, rfl, by decide +kernel, rfl, by decide +kernel, by decide +kernel⟩
theorem ok_made_ratio : Fd P w K mg base 1 "made_ratio" ["number", "under"] (SpMade K) := by
  refine mkFd T.t_made_ratio (sc_made_ratio T) (fun _ _ _ _ _ _ us hl => match us, hl with | [_, _], _ => rfl) len2 (fun cdv A outer s H vs Q E hr h => ?_)
  obtain ⟨n, u, v, w, rfl, ha, hb, ⟨h1, h2⟩, q⟩ := h
  refine ⟨_, (pss_cons (ps_set (i := 2) (sc_made_ratio T).nd rfl (Or.inl rfl) (pe_callBfun cr_gcd rfl T.gcd (pa_cons (pv 0) (pa_cons (pv 1) pa_nil)))) (pss_cons (ps_if (pt_cmpR op_lt (pv 1) pe_int (nomark _)) (pss_one (ps_set (i := 2) (sc_made_ratio T).nd rfl (Or.inl rfl) (pe_op op_sub pe_int (pv 2)))) pss_nil) (pss_one (ps_ret (pe_tup (pa_cons (pe_op op_fdivW (pv 0) (pv 2)) (pa_cons (pe_op op_fdivW (pv 1) (pv 2)) pa_nil))))))), ?_⟩
  have g0 := gcd_pos_r (n := n) h1
  have g1 : Nat.gcd n.natAbs u.natAbs ≤ u.natAbs := Nat.le_of_dvd (Int.natAbs_pos.mpr (by omega)) (Nat.gcd_dvd_right _ _)
  have gd : CDivW n ((Nat.gcd n.natAbs u.natAbs : Nat) : Int) := wide_div (b := 8000) (by omega) (by rw [Int.natAbs_natCast]; exact Nat.lt_of_le_of_lt g1 h2) (by decide) (by decide)
  refine s_set 2 (er_gcd (er_var 0 rfl ha) (er_var 1 rfl hb)) fun pv1 H1 e1 hp => ?_
  refine s_when (b := false) ((et_test (er_IB (er_var 1 rfl (Mo.mo e1 hb)) er_int)).eq (by simp; omega)) (fun z => nomatch z) fun _ H2 e2 => ?_
  have ha2 := Mo.mo (e1.trans e2) ha
  have hb2 := Mo.mo (e1.trans e2) hb
  have hp2 : IntV ((Nat.gcd n.natAbs u.natAbs : Nat) : Int) H2 pv1 := hp
  exact s_ret (er_rat (er_I (er_var 0 rfl ha2) (er_var 2 rfl hp2) gd) (er_I (er_var 1 rfl hb2) (er_var 2 rfl hp2) gd)) fun v H3 e3 hv => q v H3 ((e1.trans e2).trans e3) hv
/-- two ratios small enough -/
def Two (a b : Rt) : Prop := ∃ m n, SzR m a ∧ SzR n b ∧ 0 < m ∧ 0 < n ∧ m + n ≤ 7999
theorem two_of {m n : Nat} {a b : Rt} (ha : SzR m a) (hb : SzR n b) (hm : 0 < m) (hn : 0 < n) (h : m + n ≤ 7999) : Two a b := ⟨m, n, ha, hb, hm, hn, h⟩
theorem cm1 {a b : Rt} {m n : Nat} (ha : SzR m a) (hb : SzR n b) (hm : 0 < m) (hn : 0 < n) (h : m + n ≤ 7999) : CMulW a.1 b.2 ∧ CMulW b.1 a.2 ∧ CMulW a.2 b.2 ∧ CMulW a.1 b.1 :=
  ⟨wide_mul ha.1 hb.2.2 hm hn (by omega), wide_mul hb.1 ha.2.2 hn hm (by omega), wide_mul ha.2.2 hb.2.2 hm hn (by omega), wide_mul ha.1 hb.1 hm hn (by omega)⟩
theorem cm2 {a b : Rt} {m n : Nat} (ha : SzR m a) (hb : SzR n b) (h : m + n ≤ 7999) : 0 < a.2 * b.2 ∧ (a.2 * b.2).natAbs < 2 ^ 8000 :=
  ⟨Int.mul_pos ha.2.1 hb.2.1, Nat.lt_of_lt_of_le (wide_lt ha.2.2 hb.2.2) (Nat.pow_le_pow_right (by decide) (by omega))⟩
abbrev SpRR (K : PySem.W.Frag) (f : Rt → Rt → Rt) : Sp := Pr2 (RatV K) (RatV K) (RatV K) Two f
theorem sc_add_ratios : FnScope ["one", "other"] ["one", "other"] (defScope s_add_ratios) := ⟨rfl, rfl, rfl, by decide +kernel, rfl, by decide +kernel, by decide +kernel⟩
theorem ok_add_ratios (F_made_ratio : Fd P w K mg base 1 "made_ratio" ["number", "under"] (SpMade K)) : Fd P w K mg base 2 "add_ratios" ["one", "other"] (SpRR K addR) := by
  refine mkFd T.t_add_ratios (sc_add_ratios T) (fun _ _ _ _ _ _ us hl => match us, hl with | [_, _], _ => rfl) len2 (fun cdv A outer s H vs Q E hr h => ?_)
  obtain ⟨a, b, v, w, rfl, ha, hb, ⟨m, n, h1, h2, h3, h4, h5⟩, q⟩ := h
  obtain ⟨c1, c2, c3, c4⟩ := cm1 T h1 h2 h3 h4 h5
  refine ⟨_, (pss_one (ps_ret (pe_f F_made_ratio (hr.mono (by omega)) rfl (pa_cons (pe_op op_add (pe_op op_mulW (pe_ix ix_tup (pv 0) pe_int (fun _ _ => rfl)) (pe_ix ix_tup (pv 1) pe_int (fun _ _ => rfl))) (pe_op op_mulW (pe_ix ix_tup (pv 1) pe_int (fun _ _ => rfl)) (pe_ix ix_tup (pv 0) pe_int (fun _ _ => rfl)))) (pa_cons (pe_op op_mulW (pe_ix ix_tup (pv 0) pe_int (fun _ _ => rfl)) (pe_ix ix_tup (pv 1) pe_int (fun _ _ => rfl))) pa_nil))))), ?_⟩
  exact s_ret (er_call2 (er_I0 (er_I (er_rat0 (er_var 0 rfl ha)) (er_rat1 (er_var 1 rfl hb)) c1) (er_I (er_rat0 (er_var 1 rfl hb)) (er_rat1 (er_var 0 rfl ha)) c2)) (er_I (er_rat1 (er_var 0 rfl ha)) (er_rat1 (er_var 1 rfl hb)) c3) (cm2 T h1 h2 h5)) q
theorem sc_mul_ratios : FnScope ["one", "other"] ["one", "other"] (defScope s_mul_ratios) := ⟨rfl, rfl, rfl, by decide +kernel, rfl, by decide +kernel, by decide +kernel⟩
theorem ok_mul_ratios (F_made_ratio : Fd P w K mg base 1 "made_ratio" ["number", "under"] (SpMade K)) : Fd P w K mg base 2 "mul_ratios" ["one", "other"] (SpRR K mulR) := by
  refine mkFd T.t_mul_ratios (sc_mul_ratios T) (fun _ _ _ _ _ _ us hl => match us, hl with | [_, _], _ => rfl) len2 (fun cdv A outer s H vs Q E hr h => ?_)
  obtain ⟨a, b, v, w, rfl, ha, hb, ⟨m, n, h1, h2, h3, h4, h5⟩, q⟩ := h
  obtain ⟨c1, c2, c3, c4⟩ := cm1 T h1 h2 h3 h4 h5
  refine ⟨_, (pss_one (ps_ret (pe_f F_made_ratio (hr.mono (by omega)) rfl (pa_cons (pe_op op_mulW (pe_ix ix_tup (pv 0) pe_int (fun _ _ => rfl)) (pe_ix ix_tup (pv 1) pe_int (fun _ _ => rfl))) (pa_cons (pe_op op_mulW (pe_ix ix_tup (pv 0) pe_int (fun _ _ => rfl)) (pe_ix ix_tup (pv 1) pe_int (fun _ _ => rfl))) pa_nil))))), ?_⟩
  exact s_ret (er_call2 (er_I (er_rat0 (er_var 0 rfl ha)) (er_rat0 (er_var 1 rfl hb)) c4) (er_I (er_rat1 (er_var 0 rfl ha)) (er_rat1 (er_var 1 rfl hb)) c3) (cm2 T h1 h2 h5)) q
end
/-! ### more evaluations -/
section
variable {K : PySem.W.Frag} {σ : L2.St} {H : Hp} {ta tb te : TE} {α β : Type} {A : Rel α} {B : Rel β} {a : α} {b : β} {D : Ends}
theorem er_ixD {ds : List PyData} (i : Nat) {d : PyData} (ha : ER ta σ H (DatV K (.tuple ds))) (h : ds[i]? = some d) : ER (tOp (rIxT K) ta (tC (.int (i : Int)))) σ H (DatV K d) := fun H1 e Q q =>
  ha H1 e _ fun x H2 e2 hx => by
    cases hx with
    | tup h1 h2 =>
      have h3 := dpAll_iff.mp h2
      have hl := Paired.length h3
      obtain ⟨y, hy, hd⟩ := paired_ix h3 h
      exact ⟨_, _, i, _, rfl, rfl, h1, atI_nat hy, q _ H2 e2 hd⟩
theorem er_datI {i : Int} (ha : ER ta σ H (DatV K (.int i))) : ER ta σ H (IntV i) := ha.imp fun _ _ h => by cases h; rfl
theorem er_abs {i : Int} (ha : ER ta σ H (IntV i)) : ER (tCB (fun xs H Q => ∃ i, xs = [.int i] ∧ Q (.int (if i < 0 then -i else i)) H) (tCons ta tNil)) σ H (IntV ((i.natAbs : Nat) : Int)) :=
  er_CB1 ha fun x H1 _ hx Q q => ⟨i, by rw [show x = .int i from hx], q _ H1 (Same.refl _) (by show V.int _ = V.int _; congr 1; split <;> omega)⟩
theorem s_par [Mo A] (i j : Nat) (ha : ER ta σ H (A a)) (hb : ER tb σ H (B b)) (k : ∀ v w H1, Same H H1 → A a H1 v → B b H1 w → D.nx ((σ.set i (some v)).set j (some w)) H1) : tPar i j (tCons ta (tCons tb tNil)) D σ H :=
  ha H (Same.refl H) _ fun v H1 e1 hv => hb H1 e1 _ fun w H2 e2 hw => ⟨v, w, rfl, k v w H2 (e1.trans e2) (Mo.mo e2 hv) hw⟩
end
section
variable {P : Program} {w : World} {K : PySem.W.Frag} {mg : Str → Option Value} {base : Heap} {k : Nat} (T : Txt K mg)
include T
abbrev SpIsRatio (K : PySem.W.Frag) : Sp := Pr1 (DatV K) BoolV (fun _ => True) isRatD
theorem sc_is_ratio : FnScope ["value"] ["value"] (defScope s_is_ratio) := ⟨rfl, rfl, rfl, by decide +kernel, rfl, by decide +kernel, by decide +kernel⟩
theorem isInt_of {d : PyData} (h : isIntD d = true) : ∃ i, d = .int i := by
  cases d with
  | int i => exact ⟨i, rfl⟩
  | _ => cases h
theorem ok_is_ratio (F_is_integer : Fd P w K mg base 1 "is_integer" ["value"] (SpIsInteger K)) : Fd P w K mg base 2 "is_ratio" ["value"] (SpIsRatio K) := by
  refine mkFd T.t_is_ratio (sc_is_ratio T) (fun _ _ _ _ _ _ us hl => match us, hl with | [_], _ => rfl) len1 (fun cdv A outer s H vs Q E hr h => ?_)
  obtain ⟨d, v, rfl, ha, _, q⟩ := h
  refine ⟨_, (pss_cons (ps_if (PW.pt (pw_or (pt_not (pt_val (pe_isi T.f_isinstance rfl (pv 0) rfl T.f_tuple bt_tuple))) (pw_or (pt_cmpR op_ne (pe_callB call_len_seq rfl T.f_len bt_len (pa_cons (pv 0) pa_nil)) pe_int (nomark _)) (pw_or (pt_not (pt_val (pe_f F_is_integer (hr.mono (by omega)) rfl (pa_cons (pe_ix ix_tup (pv 0) pe_int (fun _ _ => rfl)) pa_nil)))) (pw_or1 (pt_not (pt_val (pe_f F_is_integer (hr.mono (by omega)) rfl (pa_cons (pe_ix ix_tup (pv 0) pe_int (fun _ _ => rfl)) pa_nil))))))))) (pss_one (ps_ret pe_bl)) pss_nil) (pss_one (ps_ret (pe_and (pe_cmpR op_ge (pe_ix ix_tup (pv 0) pe_int (fun _ _ => rfl)) pe_int (nomark _)) (pe_one (pe_cmpR op_eq (pe_callBfun cr_gcd rfl T.gcd (pa_cons (pe_ix ix_tup (pv 0) pe_int (fun _ _ => rfl)) (pa_cons (pe_ix ix_tup (pv 0) pe_int (fun _ _ => rfl)) pa_nil))) pe_int (nomark _))))))), ?_⟩
  have no : isRatD d = false → ∀ H1, Same H H1 → Q (.bl false) H1 := fun z H1 e => q _ H1 e (by rw [z]; rfl)
  have tt := er_isD (n := "tuple") (er_var (σ := start ["value"] [v]) 0 rfl ha) (kit_tuple d)
  cases d with
  | tuple ds =>
    by_cases h2 : ds.length = 2
    · obtain ⟨x, y, rfl⟩ : ∃ x y, ds = [x, y] := match ds, h2 with | [x, y], _ => ⟨x, y, rfl⟩
      have tl := et_test (er_neI (er_lenD (er_var (σ := start ["value"] [v]) 0 rfl ha)) (er_int (i := 2)))
      have tx := et_not (et_B (er_call1 (B := BoolV) (pre := fun _ => True) (f := isIntD) (er_ixD 0 (er_var (σ := start ["value"] [v]) 0 rfl ha) rfl) trivial))
      have ty := et_not (et_B (er_call1 (B := BoolV) (pre := fun _ => True) (f := isIntD) (er_ixD 1 (er_var (σ := start ["value"] [v]) 0 rfl ha) rfl) trivial))
      by_cases hx : isIntD x = true
      · by_cases hy : isIntD y = true
        · obtain ⟨n, rfl⟩ := isInt_of T hx
          obtain ⟨u, rfl⟩ := isInt_of T hy
          refine s_when (b := false) ((et_or (et_not (et_B tt)) fun _ => et_or tl fun _ => et_or tx fun _ => ty).eq rfl) (fun z => nomatch z) fun _ H1 e1 => ?_
          have ha1 := Mo.mo e1 ha
          refine s_ret (er_andV (er_IB (er_datI (er_ixD 1 (er_var 0 rfl ha1) rfl)) er_int) fun _ => er_eqI (er_gcd (er_datI (er_ixD 0 (er_var 0 rfl ha1) rfl)) (er_datI (er_ixD 1 (er_var 0 rfl ha1) rfl))) er_int) fun r H2 e2 hr => q r H2 (e1.trans e2) hr
        · refine s_when (b := true) ((et_or (et_not (et_B tt)) fun _ => et_or tl fun _ => et_or tx fun _ => ty).eq (by rw [Bool.eq_false_iff.mpr hy]; simp)) (fun _ H1 e1 => ?_) (fun z => nomatch z)
          refine s_ret er_bl fun r H2 e2 hr => ?_
          rw [show r = .bl false from hr]
          refine no ?_ H2 (e1.trans e2)
          cases y with
          | int u => exact absurd rfl hy
          | _ => cases x <;> rfl
      · refine s_when (b := true) ((et_or (et_not (et_B tt)) fun _ => et_or tl fun _ => et_or (k := true) tx fun z => (by rw [Bool.eq_false_iff.mpr hx] at z; cases z)).eq (by rw [Bool.eq_false_iff.mpr hx]; simp)) (fun _ H1 e1 => ?_) (fun z => nomatch z)
        refine s_ret er_bl fun r H2 e2 hr => ?_
        rw [show r = .bl false from hr]
        refine no ?_ H2 (e1.trans e2)
        cases x with
        | int u => exact absurd rfl hx
        | _ => rfl
    · have tl := et_test (er_neI (er_lenD (er_var (σ := start ["value"] [v]) 0 rfl ha)) (er_int (i := 2)))
      have hne : ¬ ((ds.length : Int) = 2) := by omega
      refine s_when (b := true) ((et_or (et_not (et_B tt)) fun _ => et_or (k := true) tl fun z => (by rw [decide_eq_false hne] at z; cases z)).eq (by rw [decide_eq_false hne]; simp)) (fun _ H1 e1 => ?_) (fun z => nomatch z)
      refine s_ret er_bl fun r H2 e2 hr => ?_
      rw [show r = .bl false from hr]
      refine no ?_ H2 (e1.trans e2)
      match ds, h2 with
      | [], _ => rfl
      | [x], _ => cases x <;> rfl
      | [x, y], h => exact absurd rfl h
      | x :: y :: z :: r, _ => cases x <;> cases y <;> rfl
  | _ =>
    refine s_when (b := true) ((et_or (k := true) (et_not (et_B tt)) fun z => (by cases z)).eq rfl) (fun _ H1 e1 => ?_) (fun z => nomatch z)
    exact s_ret er_bl fun r H2 e2 hr => by rw [show r = .bl false from hr]; exact no rfl H2 (e1.trans e2)
abbrev SpPower (K : PySem.W.Frag) : Sp := Pr2 (RatV K) IntV (RatV K) (fun r n => 0 ≤ n ∧ n ≤ 8 ∧ SzR 100 r) (fun r n => powR r n.toNat)
theorem sc_power_ratio : FnScope ["ratio", "many", "found", "turn"] ["ratio", "many"] (defScope s_power_ratio) := ⟨rfl, rfl, rfl, by decide +kernel, rfl, by decide +kernel, by decide +kernel⟩
theorem ok_power_ratio (F_mul_ratios : Fd P w K mg base 2 "mul_ratios" ["one", "other"] (SpRR K mulR)) : Fd P w K mg base 3 "power_ratio" ["ratio", "many"] (SpPower K) := by
  refine mkFd T.t_power_ratio (sc_power_ratio T) (fun _ _ _ _ _ _ us hl => match us, hl with | [_, _], _ => rfl) len2 (fun cdv A outer s H vs Q E hr h => ?_)
  obtain ⟨r, n, v, w, rfl, ha, hb, ⟨h0, h8, hz⟩, q⟩ := h
  refine ⟨_, (pss_cons (ps_set (i := 2) (sc_power_ratio T).nd rfl (Or.inl rfl) (pe_glob (v := .ref (He.ga K "WHOLE")) rfl T.whole rfl)) (pss_cons (ps_for PassesOwn.never rfl (pi_range1 rfl T.f_range (pa_cons (pv 1) pa_nil)) (pg_name (i := 3) (sc_power_ratio T).nd rfl (Or.inl rfl)) (pss_one (ps_set (i := 2) (sc_power_ratio T).nd rfl (Or.inl rfl) (pe_f F_mul_ratios (hr.mono (by omega)) rfl (pa_cons (pv 2) (pa_cons (pv 0) pa_nil)))))) (pss_one (ps_ret (pv 2))))), ?_⟩
  refine s_set 2 (er_c (A := RatV K) (T.wholeR H)) fun v2 H1 e1 h2 => ?_
  refine (er_var (A := IntV) (H := H1) (σ := [some v, some w, some v2, none]) 1 rfl hb) H1 (Same.refl _) _ fun x H2 e2 hx => ⟨n, by rw [show x = .int n from hx], by omega, by omega, ?_⟩
  refine for_range (lo := 0) (n := n.toNat) (fun i σ' H' => ∃ v2 y, σ' = [some v, some w, some v2, y] ∧ Same H H' ∧ RatV K (powR r i) H' v2) ⟨v2, none, rfl, e1.trans e2, Mo.mo e2 h2⟩ (fun i σ' H' hi p => ?_) (fun σ' H' p => ?_)
  · obtain ⟨v3, y, rfl, e3, h3⟩ := p
    refine s_set1 2 (er_call2 (er_var 2 rfl h3) (er_var 0 rfl (Mo.mo e3 ha)) (two_of T (m := 100 * i + 1) (n := 100) (powR_sz hz i) hz (by omega) (by omega) ?_)) fun v4 H4 e4 h4 => ⟨v4, _, rfl, e3.trans e4, h4⟩
    have : i < 8 := by omega
    omega
  · obtain ⟨v3, y, rfl, e3, h3⟩ := p
    exact s_ret (er_var 2 rfl h3) fun v4 H4 e4 h4 => q v4 H4 (e3.trans e4) h4
/-! ### the law's own ratios -/
theorem sc__law_low : FnScope ["_law_number", "_law_under", "_law_one", "_law_other"] ["_law_number", "_law_under"] (defScope s__law_low) := ⟨rfl, rfl, rfl, by decide +kernel, rfl, by decide +kernel, by decide +kernel⟩
theorem ok_law_low : Fd P w K mg base 1 "_law_low" ["_law_number", "_law_under"] (SpMade K) := by
  refine mkFd T.t__law_low (sc__law_low T) (fun _ _ _ _ _ _ us hl => match us, hl with | [_, _], _ => rfl) len2 (fun cdv A outer s H vs Q E hr h => ?_)
  obtain ⟨n, u, v, w, rfl, ha, hb, ⟨h1, h2⟩, q⟩ := h
  refine ⟨_, (pss_cons (ps_par (i := 2) (j := 3) rfl (sc__law_low T).nd rfl rfl (by decide) rfl rfl (pa_cons (pe_callB call_abs rfl T.f_abs bt_abs (pa_cons (pv 0) pa_nil)) (pa_cons (pe_callB call_abs rfl T.f_abs bt_abs (pa_cons (pv 1) pa_nil)) pa_nil)) rfl) (pss_cons (ps_while PassesOwn.never (pt_cmpR op_ne (pv 3) pe_int (nomark _)) (pss_one (ps_par (i := 2) (j := 3) rfl (sc__law_low T).nd rfl rfl (by decide) rfl rfl (pa_cons (pv 3) (pa_cons (pe_op op_modN (pv 2) (pv 3)) pa_nil)) rfl))) (pss_cons (ps_if (pt_cmpR op_eq (pv 2) pe_int (nomark _)) (pss_one (ps_ret (pe_tup (pa_cons pe_int (pa_cons pe_int pa_nil))))) pss_nil) (pss_one (ps_ret (pe_ifExp (pt_cmpR op_gt (pv 1) pe_int (nomark _)) (pe_tup (pa_cons (pe_op op_fdivW (pv 0) (pv 2)) (pa_cons (pe_op op_fdivW (pv 1) (pv 2)) pa_nil))) (pe_tup (pa_cons (pe_op op_fdivW (pe_un un_neg (pv 0)) (pv 2)) (pa_cons (pe_op op_fdivW (pe_un un_neg (pv 1)) (pv 2)) pa_nil))))))))), ?_⟩
  have g0 := gcd_pos_r (n := n) h1
  have g1 : Nat.gcd n.natAbs u.natAbs ≤ u.natAbs := Nat.le_of_dvd (Int.natAbs_pos.mpr (by omega)) (Nat.gcd_dvd_right _ _)
  have gd : ∀ x, CDivW x ((Nat.gcd n.natAbs u.natAbs : Nat) : Int) := fun x => wide_div (b := 8000) (by omega) (by rw [Int.natAbs_natCast]; exact Nat.lt_of_le_of_lt g1 h2) (by decide) (by decide)
  refine s_par 2 3 (er_abs (er_var 0 rfl ha)) (er_abs (er_var 1 rfl hb)) fun x y H1 e1 hx hy => ?_
  cases (show v = .int n from ha)
  cases (show w = .int u from hb)
  cases (show x = .int _ from hx)
  cases (show y = .int _ from hy)
  refine ⟨fun m σ' H' => ∃ a b : Nat, b = m ∧ σ' = [some (.int n), some (.int u), some (.int (a : Int)), some (.int (b : Int))] ∧ Same H H' ∧ Nat.gcd a b = Nat.gcd n.natAbs u.natAbs, ⟨u.natAbs, n.natAbs, u.natAbs, rfl, rfl, e1, rfl⟩, fun m σ' H' hW => ?_⟩
  obtain ⟨a, b, rfl, rfl, e2, hg⟩ := hW
  refine (et_test (er_neI (er_var (A := IntV) 3 rfl rfl) (er_int (i := 0)))) H' (Same.refl _) _ fun H2 e3 => ?_
  by_cases hb0 : b = 0
  · subst hb0
    rw [if_neg (by simp)]
    rw [Nat.gcd_zero_right] at hg
    refine s_when (b := false) ((et_test (er_eqI (er_var (A := IntV) 2 rfl rfl) (er_int (i := 0)))).eq (by simp; omega)) (fun z => nomatch z) fun _ H3 e4 => ?_
    have vn : IntV n H3 (.int n) := rfl
    have vu : IntV u H3 (.int u) := rfl
    have va : IntV ((Nat.gcd n.natAbs u.natAbs : Nat) : Int) H3 (.int (a : Int)) := by rw [← hg]; rfl
    refine s_ret (er_if (j := true) ((et_test (er_IB (er_var 1 rfl vu) (er_int (i := 0)))).eq (by simpa using h1)) (fun _ => er_rat (er_I (er_var 0 rfl vn) (er_var 2 rfl va) (gd n)) (er_I (er_var 1 rfl vu) (er_var 2 rfl va) (gd u))) (fun z => nomatch z)) fun r H4 e5 hr => q r H4 (((e2.trans e3).trans e4).trans e5) hr
  · rw [if_pos (by simp; omega)]
    refine ⟨fun σ2 H2 => ∃ a' b' : Nat, b' < b ∧ σ2 = [some (.int n), some (.int u), some (.int (a' : Int)), some (.int (b' : Int))] ∧ Same H H2 ∧ Nat.gcd a' b' = Nat.gcd n.natAbs u.natAbs, fun σ3 H3 hN => let ⟨a', b', l, z⟩ := hN; ⟨b', l, a', b', rfl, z⟩, ?_⟩
    refine s_par 2 3 (er_var (A := IntV) (a := (b : Int)) 3 rfl rfl) (er_I (P := fun _ j => j ≠ 0) (g := fun i j => i.fmod j) (er_var (A := IntV) (a := (a : Int)) 2 rfl rfl) (er_var (A := IntV) (a := (b : Int)) 3 rfl rfl) (by omega)) fun x y H3 e4 hx hy => ?_
    cases (show x = .int _ from hx)
    cases (show y = .int _ from hy)
    refine ⟨b, a % b, Nat.mod_lt _ (by omega), ?_, (e2.trans e3).trans e4, ?_⟩
    · show [some (V.int n), some (V.int u), some (V.int (b : Int)), some (V.int ((a : Int).fmod (b : Int)))] = _
      rw [Int.fmod_eq_emod_of_nonneg _ (by omega), ← Int.natCast_emod]
    · rw [← hg, Nat.gcd_comm a b, Nat.gcd_rec b a, Nat.gcd_comm]
theorem sc__law_add : FnScope ["_law_one", "_law_other"] ["_law_one", "_law_other"] (defScope s__law_add) := ⟨rfl, rfl, rfl, by decide +kernel, rfl, by decide +kernel, by decide +kernel⟩
theorem ok_law_add (F__law_low : Fd P w K mg base 1 "_law_low" ["_law_number", "_law_under"] (SpMade K)) : Fd P w K mg base 2 "_law_add" ["_law_one", "_law_other"] (SpRR K addR) := by
  refine mkFd T.t__law_add (sc__law_add T) (fun _ _ _ _ _ _ us hl => match us, hl with | [_, _], _ => rfl) len2 (fun cdv A outer s H vs Q E hr h => ?_)
  obtain ⟨a, b, v, w, rfl, ha, hb, ⟨m, n, h1, h2, h3, h4, h5⟩, q⟩ := h
  obtain ⟨c1, c2, c3, c4⟩ := cm1 T h1 h2 h3 h4 h5
  refine ⟨_, (pss_one (ps_ret (pe_f F__law_low (hr.mono (by omega)) rfl (pa_cons (pe_op op_add (pe_op op_mulW (pe_ix ix_tup (pv 0) pe_int (fun _ _ => rfl)) (pe_ix ix_tup (pv 1) pe_int (fun _ _ => rfl))) (pe_op op_mulW (pe_ix ix_tup (pv 1) pe_int (fun _ _ => rfl)) (pe_ix ix_tup (pv 0) pe_int (fun _ _ => rfl)))) (pa_cons (pe_op op_mulW (pe_ix ix_tup (pv 0) pe_int (fun _ _ => rfl)) (pe_ix ix_tup (pv 1) pe_int (fun _ _ => rfl))) pa_nil))))), ?_⟩
  exact s_ret (er_call2 (er_I0 (er_I (er_rat0 (er_var 0 rfl ha)) (er_rat1 (er_var 1 rfl hb)) c1) (er_I (er_rat0 (er_var 1 rfl hb)) (er_rat1 (er_var 0 rfl ha)) c2)) (er_I (er_rat1 (er_var 0 rfl ha)) (er_rat1 (er_var 1 rfl hb)) c3) (cm2 T h1 h2 h5)) q
theorem sc__law_mul : FnScope ["_law_one", "_law_other"] ["_law_one", "_law_other"] (defScope s__law_mul) := ⟨rfl, rfl, rfl, by decide +kernel, rfl, by decide +kernel, by decide +kernel⟩
theorem ok_law_mul (F__law_low : Fd P w K mg base 1 "_law_low" ["_law_number", "_law_under"] (SpMade K)) : Fd P w K mg base 2 "_law_mul" ["_law_one", "_law_other"] (SpRR K mulR) := by
  refine mkFd T.t__law_mul (sc__law_mul T) (fun _ _ _ _ _ _ us hl => match us, hl with | [_, _], _ => rfl) len2 (fun cdv A outer s H vs Q E hr h => ?_)
  obtain ⟨a, b, v, w, rfl, ha, hb, ⟨m, n, h1, h2, h3, h4, h5⟩, q⟩ := h
  obtain ⟨c1, c2, c3, c4⟩ := cm1 T h1 h2 h3 h4 h5
  refine ⟨_, (pss_one (ps_ret (pe_f F__law_low (hr.mono (by omega)) rfl (pa_cons (pe_op op_mulW (pe_ix ix_tup (pv 0) pe_int (fun _ _ => rfl)) (pe_ix ix_tup (pv 1) pe_int (fun _ _ => rfl))) (pa_cons (pe_op op_mulW (pe_ix ix_tup (pv 0) pe_int (fun _ _ => rfl)) (pe_ix ix_tup (pv 1) pe_int (fun _ _ => rfl))) pa_nil))))), ?_⟩
  exact s_ret (er_call2 (er_I (er_rat0 (er_var 0 rfl ha)) (er_rat0 (er_var 1 rfl hb)) c4) (er_I (er_rat1 (er_var 0 rfl ha)) (er_rat1 (er_var 1 rfl hb)) c3) (cm2 T h1 h2 h5)) q
end
end K18

set_option Elab.async false
set_option linter.all false
set_option maxRecDepth 100000
set_option maxHeartbeats 1000000
/-! Plain mathematics: ratios as rational numbers; terms, nested forms, sorted terms. No program here. -/
namespace K18
open PySem PySem.Spec PyProof.Rows L2
/-! ### ratios -/
def qv (r : Rt) : Rat := Rat.divInt r.1 r.2
def NormR (r : Rt) : Prop := 0 < r.2 ∧ Nat.gcd r.1.natAbs r.2.natAbs = 1
theorem norm01 : NormR (0, 1) := ⟨by show (0 : Int) < 1; decide, rfl⟩
theorem mkR_norm {n u : Int} (h : 0 < u) : NormR (mkR n u) := by
  have hg := gcd_pos_r (n := n) h
  have d1 : ((Nat.gcd n.natAbs u.natAbs : Nat) : Int) ∣ n := Int.ofNat_dvd_left.mpr (Nat.gcd_dvd_left _ _)
  have d2 : ((Nat.gcd n.natAbs u.natAbs : Nat) : Int) ∣ u := Int.ofNat_dvd_left.mpr (Nat.gcd_dvd_right _ _)
  refine ⟨Int.ediv_pos_of_pos_of_dvd h (by omega) d2, ?_⟩
  show Nat.gcd (n / _).natAbs (u / _).natAbs = 1
  rw [Int.natAbs_ediv_of_dvd d1, Int.natAbs_ediv_of_dvd d2, Int.natAbs_natCast]
  exact Nat.coprime_div_gcd_div_gcd hg
theorem qv_mkR {n u : Int} (h : 0 < u) : qv (mkR n u) = Rat.divInt n u := by
  have hg := gcd_pos_r (n := n) h
  have d1 : ((Nat.gcd n.natAbs u.natAbs : Nat) : Int) ∣ n := Int.ofNat_dvd_left.mpr (Nat.gcd_dvd_left _ _)
  have d2 : ((Nat.gcd n.natAbs u.natAbs : Nat) : Int) ∣ u := Int.ofNat_dvd_left.mpr (Nat.gcd_dvd_right _ _)
  have e := Rat.divInt_mul_left (a := ((Nat.gcd n.natAbs u.natAbs : Nat) : Int)) (n := n / ((Nat.gcd n.natAbs u.natAbs : Nat) : Int)) (d := u / ((Nat.gcd n.natAbs u.natAbs : Nat) : Int)) (by omega)
  rw [Int.mul_ediv_cancel' d1, Int.mul_ediv_cancel' d2] at e
  exact e.symm
theorem qv_inj {a b : Rt} (ha : NormR a) (hb : NormR b) (h : qv a = qv b) : a = b := by
  obtain ⟨a1, a2⟩ := a
  obtain ⟨b1, b2⟩ := b
  obtain ⟨pa, ga⟩ := ha
  obtain ⟨pb, gb⟩ := hb
  have pa : 0 < a2 := pa
  have pb : 0 < b2 := pb
  have ga : Nat.gcd a1.natAbs a2.natAbs = 1 := ga
  have gb : Nat.gcd b1.natAbs b2.natAbs = 1 := gb
  have e : a1 * b2 = b1 * a2 := (Rat.divInt_eq_divInt_iff (by omega) (by omega)).mp h
  have en : a1.natAbs * b2.natAbs = b1.natAbs * a2.natAbs := by rw [← Int.natAbs_mul, ← Int.natAbs_mul, e]
  have d1 : a2.natAbs ∣ b2.natAbs := Nat.Coprime.dvd_of_dvd_mul_left (k := a2.natAbs) (m := a1.natAbs) (by unfold Nat.Coprime; rw [Nat.gcd_comm]; exact ga) ⟨b1.natAbs, by rw [en, Nat.mul_comm]⟩
  have d2 : b2.natAbs ∣ a2.natAbs := Nat.Coprime.dvd_of_dvd_mul_left (k := b2.natAbs) (m := b1.natAbs) (by unfold Nat.Coprime; rw [Nat.gcd_comm]; exact gb) ⟨a1.natAbs, by rw [← en, Nat.mul_comm]⟩
  have e2 : a2.natAbs = b2.natAbs := Nat.dvd_antisymm d1 d2
  have e3 : a2 = b2 := by omega
  subst e3
  have e4 : a1 = b1 := Int.eq_of_mul_eq_mul_right (by omega) e
  rw [e4]
theorem addR_norm {a b : Rt} (ha : 0 < a.2) (hb : 0 < b.2) : NormR (addR a b) := mkR_norm (Int.mul_pos ha hb)
theorem mulR_norm {a b : Rt} (ha : 0 < a.2) (hb : 0 < b.2) : NormR (mulR a b) := mkR_norm (Int.mul_pos ha hb)
theorem qv_add {a b : Rt} (ha : 0 < a.2) (hb : 0 < b.2) : qv (addR a b) = qv a + qv b := by
  unfold addR
  rw [qv_mkR (Int.mul_pos ha hb)]
  unfold qv
  rw [Rat.divInt_add_divInt _ _ (by omega) (by omega)]
theorem qv_mul {a b : Rt} (ha : 0 < a.2) (hb : 0 < b.2) : qv (mulR a b) = qv a * qv b := by
  unfold mulR
  rw [qv_mkR (Int.mul_pos ha hb)]
  unfold qv
  rw [Rat.divInt_mul_divInt]
theorem qv01 : qv (0, 1) = 0 := by unfold qv; exact Rat.zero_divInt 1
theorem qv11 : qv (1, 1) = 1 := by unfold qv; exact Rat.divInt_self' (by decide)
theorem powR_norm {r : Rt} (h : 0 < r.2) : ∀ n, NormR (powR r n)
  | 0 => ⟨by show (0 : Int) < 1; decide, by show Nat.gcd (1 : Int).natAbs (1 : Int).natAbs = 1; rfl⟩
  | n + 1 => mulR_norm (powR_norm h n).1 h
theorem qv_pow {r : Rt} (h : 0 < r.2) : ∀ n, qv (powR r n) = qv r ^ n
  | 0 => by rw [Rat.pow_zero]; exact qv11
  | n + 1 => by rw [Rat.pow_succ, ← qv_pow h n]; exact qv_mul (powR_norm h n).1 h
theorem norm_eq_mk {r : Rt} (h : NormR r) : mkR r.1 r.2 = r := by
  obtain ⟨h1, h2⟩ := h
  unfold mkR
  rw [h2]
  simp
theorem addR_zero {r : Rt} (h : NormR r) : addR (0, 1) r = r := by
  show mkR (0 * r.2 + r.1 * 1) (1 * r.2) = r
  rw [Int.zero_mul, Int.mul_one, Int.one_mul, Int.zero_add]
  exact norm_eq_mk h
theorem norm_isRat {r : Rt} (h : NormR r) : isRatD (ratD r) = true := by
  show (decide (1 ≤ r.2) && decide (((Nat.gcd r.1.natAbs r.2.natAbs : Nat) : Int) = 1)) = true
  rw [h.2]
  have := h.1
  simp
  omega
theorem isRat_norm {d : PyData} (h : isRatD d = true) : ∃ r, d = ratD r ∧ NormR r := by
  unfold isRatD at h
  split at h
  · rename_i n u
    rw [Bool.and_eq_true] at h
    have h1 := of_decide_eq_true h.1
    have h2 := of_decide_eq_true h.2
    exact ⟨(n, u), rfl, by show 0 < u; omega, by show Nat.gcd n.natAbs u.natAbs = 1; omega⟩
  · cases h
theorem norm_num0 {r : Rt} (h : NormR r) : r.1 = 0 ↔ r = (0, 1) := by
  obtain ⟨n, u⟩ := r
  constructor
  · intro e
    have e : n = 0 := e
    subst e
    have h2 : Nat.gcd (0 : Int).natAbs u.natAbs = 1 := h.2
    have h1 : 0 < u := h.1
    have h3 : u.natAbs = 1 := by simpa using h2
    rw [show u = 1 by omega]
  · intro e
    rw [e]
def ratOf : PyData → Rt
  | .tuple [.int n, .int u] => (n, u)
  | _ => (0, 1)
theorem ratOf_ratD (r : Rt) : ratOf (ratD r) = r := rfl
theorem isRat_ratOf {d : PyData} (h : isRatD d = true) : d = ratD (ratOf d) ∧ NormR (ratOf d) := by
  obtain ⟨r, rfl, hr⟩ := isRat_norm h
  exact ⟨rfl, hr⟩
/-! ### terms, sorted -/
abbrev cd (k : List Int) : Int := TS.code 64 k
theorem cd_lt : ∀ {a b : List Int}, a.length = b.length → TS.Bd 64 a → TS.Bd 64 b → HT.lexLt a b = decide (cd a < cd b)
  | [], [], _, _, _ => by rw [HT.lexLt_nil_nil]; exact (decide_eq_false (Int.lt_irrefl _)).symm
  | x :: a, y :: b, hl, ha, hb => by
    have hl' : a.length = b.length := by simpa using hl
    rw [HT.lexLt_cons]
    by_cases e : x = y
    · subst e
      rw [if_pos rfl, cd_lt hl' ha.tail hb.tail]
      exact decide_eq_decide.mpr (TS.code_same hl').symm
    · rw [if_neg e]
      rcases Int.lt_or_gt_of_ne e with l | l
      · rw [decide_eq_true l, decide_eq_true (TS.code_lt hl' ha.tail hb.tail l)]
      · rw [decide_eq_false (by omega), decide_eq_false]
        have := TS.code_lt hl'.symm hb.tail ha.tail l
        show ¬ TS.code 64 (x :: a) < TS.code 64 (y :: b)
        omega
theorem cd_inj : ∀ {a b : List Int}, a.length = b.length → TS.Bd 64 a → TS.Bd 64 b → cd a = cd b → a = b
  | [], [], _, _, _, _ => rfl
  | x :: a, y :: b, hl, ha, hb, e => by
    have hl' : a.length = b.length := by simpa using hl
    rcases Int.lt_trichotomy x y with l | l | l
    · have := TS.code_lt hl' ha.tail hb.tail l
      have e : TS.code 64 (x :: a) = TS.code 64 (y :: b) := e
      omega
    · subst l
      have e' : cd a = cd b := by
        have e : x * 64 ^ a.length + TS.code 64 a = x * 64 ^ b.length + TS.code 64 b := e
        rw [hl'] at e
        show TS.code 64 a = TS.code 64 b
        omega
      rw [cd_inj hl' ha.tail hb.tail e']
    · have := TS.code_lt hl'.symm hb.tail ha.tail l
      have e : TS.code 64 (x :: a) = TS.code 64 (y :: b) := e
      omega
structure KeysOk {α : Type} (l : Nat) (ts : List (List Int × α)) : Prop where
  len : ∀ t ∈ ts, t.1.length = l
  bd : ∀ t ∈ ts, TS.Bd 64 t.1
  nd : (ts.map (·.1)).Nodup
abbrev leT (a b : Tm) : Bool := decide (cd a.1 ≤ cd b.1)
abbrev Up (ts : List Tm) : Prop := ts.Pairwise fun a b => cd a.1 ≤ cd b.1
def srt (ts : List Tm) : List Tm := ts.mergeSort leT
theorem srt_perm (ts : List Tm) : (srt ts).Perm ts := List.mergeSort_perm ts leT
theorem srt_up (ts : List Tm) : Up (srt ts) := by
  have h := List.pairwise_mergeSort (le := leT) (fun a b c h1 h2 => by
    have h1 := of_decide_eq_true h1
    have h2 := of_decide_eq_true h2
    exact decide_eq_true (Int.le_trans h1 h2)) (fun a b => by
    rcases Int.le_total (cd a.1) (cd b.1) with h | h
    · rw [show leT a b = true from decide_eq_true h]; rfl
    · rw [show leT b a = true from decide_eq_true h, Bool.or_true]) ts
  exact h.imp fun h => of_decide_eq_true h
theorem fst_inj {α : Type} {ts : List (List Int × α)} (nd : (ts.map (·.1)).Nodup) {a b : List Int × α} (ha : a ∈ ts) (hb : b ∈ ts) (e : a.1 = b.1) : a = b := by
  induction ts with
  | nil => cases ha
  | cons t ts ih =>
    rw [List.map_cons, List.nodup_cons] at nd
    rcases List.mem_cons.mp ha with ea | ma
    · rcases List.mem_cons.mp hb with eb | mb
      · rw [ea, eb]
      · exact absurd (show t.1 ∈ ts.map (·.1) from List.mem_map.mpr ⟨b, mb, by rw [← e, ea]⟩) nd.1
    · rcases List.mem_cons.mp hb with eb | mb
      · exact absurd (show t.1 ∈ ts.map (·.1) from List.mem_map.mpr ⟨a, ma, by rw [e, eb]⟩) nd.1
      · exact ih nd.2 ma mb
theorem KeysOk.perm {α : Type} {l : Nat} {ts us : List (List Int × α)} (h : KeysOk l ts) (p : us.Perm ts) : KeysOk l us :=
  ⟨fun t m => h.len t (p.mem_iff.mp m), fun t m => h.bd t (p.mem_iff.mp m), (p.map _).symm.nodup h.nd⟩
theorem KeysOk.filter {α : Type} {l : Nat} {ts : List (List Int × α)} (h : KeysOk l ts) (f : List Int × α → Bool) : KeysOk l (ts.filter f) :=
  ⟨fun t m => h.len t (List.mem_filter.mp m).1, fun t m => h.bd t (List.mem_filter.mp m).1, h.nd.sublist (List.filter_sublist.map _)⟩
theorem up_unique {l : Nat} {ts us : List Tm} (h : KeysOk l ts) (p : us.Perm ts) (u : Up us) (v : Up ts) : us = ts := by
  refine List.Perm.eq_of_pairwise (fun a b ha hb h1 h2 => ?_) u v p
  have ha' := p.mem_iff.mp ha
  exact fst_inj h.nd ha' hb (cd_inj ((h.len a ha').trans (h.len b hb).symm) (h.bd a ha') (h.bd b hb) (Int.le_antisymm h1 h2))
theorem srt_unique {l : Nat} {ts us : List Tm} (h : KeysOk l ts) (p : us.Perm ts) (u : Up us) : us = srt ts :=
  up_unique (h.perm (srt_perm ts)) (p.trans (srt_perm ts).symm) u (srt_up ts)
theorem srt_of_up {l : Nat} {ts : List Tm} (h : KeysOk l ts) (u : Up ts) : srt ts = ts := (srt_unique h (List.Perm.refl ts) u).symm
/-- without those of 0 -/
def nzB (t : Tm) : Bool := !decide (t.2 = (0, 1))
def nzT (ts : List Tm) : List Tm := ts.filter nzB
def told (ts : List Tm) : List Tm := nzT (srt ts)
theorem up_nz {ts : List Tm} (u : Up ts) : Up (nzT ts) := u.sublist List.filter_sublist
theorem told_up (ts : List Tm) : Up (told ts) := up_nz (srt_up ts)
theorem told_perm (ts : List Tm) : (told ts).Perm (nzT ts) := (srt_perm ts).filter _
theorem told_of_up {l : Nat} {ts : List Tm} (h : KeysOk l ts) (u : Up ts) : told ts = nzT ts := by unfold told; rw [srt_of_up h u]
theorem told_keys {l : Nat} {ts : List Tm} (h : KeysOk l ts) : KeysOk l (told ts) := (h.filter _).perm (told_perm ts)
theorem nodup_of_fst {α : Type} {ts : List (List Int × α)} (nd : (ts.map (·.1)).Nodup) : ts.Nodup := List.Pairwise.of_map _ (fun _ _ hne e => hne (congrArg _ e)) nd
/-- two sorted lists of terms with the same members -/
theorem up_ext {l : Nat} {ts us : List Tm} (h : KeysOk l ts) (g : KeysOk l us) (u : Up ts) (v : Up us) (m : ∀ t, t ∈ ts ↔ t ∈ us) : ts = us :=
  up_unique g ((List.perm_ext_iff_of_nodup (nodup_of_fst h.nd) (nodup_of_fst g.nd)).mpr m) u v
/-! ### nested forms -/
def topE (ts : List Tm) : Int := maxL (0 :: ts.map fun t => t.1.headD 0)
def part (i : Int) (ts : List Tm) : List Tm := (ts.filter fun t => decide (t.1.headD 0 = i)).map fun t => (t.1.tail, t.2)
def nest : Nat → List Tm → PyData
  | 0, [] => ratD (0, 1)
  | 0, t :: _ => ratD t.2
  | l + 1, ts => .tuple ((List.range ((topE ts).toNat + 1)).map fun (i : Nat) => nest l (part (i : Int) ts))
def flatA (f : PyData → List Tm) : Nat → List PyData → List Tm
  | _, [] => []
  | i, d :: ds => (f d).map (fun t => ((i : Int) :: t.1, t.2)) ++ flatA f (i + 1) ds
def flat : Nat → PyData → List Tm
  | 0, d => [([], ratOf d)]
  | l + 1, .tuple ds => flatA (flat l) 0 ds
  | _ + 1, _ => []
def formB : Nat → PyData → Bool
  | 0, d => isRatD d
  | l + 1, .tuple ds => (decide (1 ≤ ds.length) && decide (ds.length ≤ 9)) && ds.all (formB l)
  | _ + 1, _ => false
def sizeP (l : Nat) (d : PyData) : List Tm := nzT (flat l d)
def degB (ts : List Tm) : Bool := ts.all fun t => decide (t.1.sum ≤ 8)
def nestedB (l : Nat) (d : PyData) : Bool := formB l d && ((decide ((sizeP l d).length ≤ 60) && degB (sizeP l d)) && PyData.eqv (nest l (sizeP l d)) d)
theorem mem_flatA {f : PyData → List Tm} : ∀ {ds : List PyData} {n : Nat} {t : Tm}, t ∈ flatA f n ds ↔ ∃ i d k, ds[i]? = some d ∧ (k, t.2) ∈ f d ∧ t.1 = ((n + i : Nat) : Int) :: k
  | [], n, t => by simp [flatA]
  | d :: ds, n, t => by
    rw [flatA, List.mem_append, mem_flatA (ds := ds)]
    constructor
    · rintro (h | ⟨i, e, k, h1, h2, h3⟩)
      · obtain ⟨u, hu, rfl⟩ := List.mem_map.mp h
        exact ⟨0, d, u.1, rfl, hu, rfl⟩
      · exact ⟨i + 1, e, k, by simpa using h1, h2, by rw [h3]; congr 1; omega⟩
    · rintro ⟨i, e, k, h1, h2, h3⟩
      cases i with
      | zero =>
        simp at h1
        subst h1
        refine .inl (List.mem_map.mpr ⟨(k, t.2), h2, ?_⟩)
        exact Prod.ext h3.symm rfl
      | succ i => exact .inr ⟨i, e, k, by simpa using h1, h2, by rw [h3]; congr 1; omega⟩
theorem mem_flat {l : Nat} {ds : List PyData} {t : Tm} : t ∈ flat (l + 1) (.tuple ds) ↔ ∃ i d k, ds[i]? = some d ∧ (k, t.2) ∈ flat l d ∧ t.1 = ((i : Nat) : Int) :: k := by
  rw [flat, mem_flatA]
  simp
theorem form_tuple {l : Nat} {ds : List PyData} (h : formB (l + 1) (.tuple ds) = true) : 1 ≤ ds.length ∧ ds.length ≤ 9 ∧ ∀ d ∈ ds, formB l d = true := by
  rw [formB, Bool.and_eq_true, Bool.and_eq_true] at h
  exact ⟨of_decide_eq_true h.1.1, of_decide_eq_true h.1.2, fun d m => List.all_eq_true.mp h.2 d m⟩
theorem form_succ {l : Nat} {d : PyData} (h : formB (l + 1) d = true) : ∃ ds, d = .tuple ds := by
  cases d with
  | tuple ds => exact ⟨ds, rfl⟩
  | _ => simp [formB] at h
theorem flat_len : ∀ {l : Nat} {d : PyData}, formB l d = true → ∀ t ∈ flat l d, t.1.length = l ∧ (∀ x ∈ t.1, 0 ≤ x ∧ x < 9) ∧ NormR t.2
  | 0, d, h, t, m => by
    rw [flat, List.mem_singleton] at m
    subst m
    exact ⟨rfl, fun x hx => (by cases hx), (isRat_ratOf h).2⟩
  | l + 1, d, h, t, m => by
    obtain ⟨ds, rfl⟩ := form_succ h
    obtain ⟨h1, h9, hf⟩ := form_tuple h
    obtain ⟨i, e, k, he, hk, e1⟩ := mem_flat.mp m
    obtain ⟨q1, q2, q3⟩ := flat_len (hf e (List.mem_of_getElem? he)) _ hk
    have hi : i < ds.length := (List.getElem?_eq_some_iff.mp he).1
    refine ⟨by rw [e1, List.length_cons, q1], fun x hx => ?_, q3⟩
    rw [e1] at hx
    rcases List.mem_cons.mp hx with rfl | hx
    · omega
    · exact q2 x hx
theorem flatA_strict {l : Nat} : ∀ {ds : List PyData} {n : Nat}, (∀ d ∈ ds, formB l d = true) → n + ds.length ≤ 9 → (∀ d ∈ ds, (flat l d).Pairwise fun a b => cd a.1 < cd b.1) → (flatA (flat l) n ds).Pairwise fun a b => cd a.1 < cd b.1
  | [], _, _, _, _ => by rw [flatA]; exact .nil
  | d :: ds, n, hf, hn, hs => by
    rw [List.length_cons] at hn
    rw [flatA, List.pairwise_append]
    refine ⟨?_, flatA_strict (fun e m => hf e (List.mem_cons_of_mem _ m)) (by omega) (fun e m => hs e (List.mem_cons_of_mem _ m)), fun a ha b hb => ?_⟩
    · rw [List.pairwise_map]
      refine List.Pairwise.imp_of_mem (fun {a b} ma mb hab => ?_) (hs d List.mem_cons_self)
      have la := (flat_len (hf d List.mem_cons_self) a ma).1
      have lb := (flat_len (hf d List.mem_cons_self) b mb).1
      exact (TS.code_same (la.trans lb.symm)).mpr hab
    · obtain ⟨a', ma, rfl⟩ := List.mem_map.mp ha
      obtain ⟨i, e, k, he, hk, e1⟩ := mem_flatA.mp hb
      obtain ⟨la, ba, _⟩ := flat_len (hf d List.mem_cons_self) a' ma
      obtain ⟨lb, bb, _⟩ := flat_len (hf e (List.mem_cons_of_mem _ (List.mem_of_getElem? he))) _ hk
      show TS.code 64 ((n : Int) :: a'.1) < TS.code 64 b.1
      rw [e1]
      exact TS.code_lt (la.trans lb.symm) (fun x hx => let ⟨p, q⟩ := ba x hx; ⟨p, by omega⟩) (fun x hx => let ⟨p, q⟩ := bb x hx; ⟨p, by omega⟩) (by omega)
theorem flat_strict : ∀ {l : Nat} {d : PyData}, formB l d = true → (flat l d).Pairwise fun a b => cd a.1 < cd b.1
  | 0, d, _ => by rw [flat]; exact List.pairwise_singleton _ _
  | l + 1, d, h => by
    obtain ⟨ds, rfl⟩ := form_succ h
    obtain ⟨h1, h9, hf⟩ := form_tuple h
    rw [flat]
    exact flatA_strict hf (by omega) fun e m => flat_strict (hf e m)
theorem flat_keys {l : Nat} {d : PyData} (h : formB l d = true) : KeysOk l (flat l d) := by
  refine ⟨fun t m => (flat_len h t m).1, fun t m x hx => let ⟨p, q⟩ := (flat_len h t m).2.1 x hx; ⟨p, by omega⟩, ?_⟩
  unfold List.Nodup
  rw [List.pairwise_map]
  refine (flat_strict h).imp fun hab e => ?_
  rw [e] at hab
  exact Int.lt_irrefl _ hab
theorem flat_up {l : Nat} {d : PyData} (h : formB l d = true) : Up (flat l d) := (flat_strict h).imp fun h => Int.le_of_lt h
theorem told_flat {l : Nat} {d : PyData} (h : formB l d = true) : told (flat l d) = sizeP l d := told_of_up (flat_keys h) (flat_up h)
end K18

set_option Elab.async false
set_option linter.all false
set_option maxRecDepth 100000
set_option maxHeartbeats 1000000
/-! Plain mathematics: the nested form of terms, back to the terms, its value. No program here. -/
namespace K18
open PySem PySem.Spec PyProof.Rows L2
/-! ### the form of terms, and back -/
theorem key_cons {l : Nat} {k : List Int} (h : k.length = l + 1) : ∃ e k', k = e :: k' := by
  cases k with
  | nil => cases h
  | cons e k' => exact ⟨e, k', rfl⟩
theorem mem_part {l : Nat} {ts : List Tm} (h : KeysOk (l + 1) ts) {i : Int} {k : List Int} {r : Rt} : (k, r) ∈ part i ts ↔ (i :: k, r) ∈ ts := by
  unfold part
  rw [List.mem_map]
  constructor
  · rintro ⟨t, m, e⟩
    obtain ⟨m, d⟩ := List.mem_filter.mp m
    obtain ⟨x, k', e2⟩ := key_cons (h.len t m)
    have d := of_decide_eq_true d
    have e1 : t.1.tail = k := congrArg Prod.fst e
    have e3 : t.2 = r := congrArg Prod.snd e
    rw [e2] at d e1
    have d : x = i := d
    have e1 : k' = k := e1
    rw [← d, ← e1, ← e3, ← e2]
    exact m
  · intro m
    exact ⟨(i :: k, r), List.mem_filter.mpr ⟨m, decide_eq_true rfl⟩, rfl⟩
theorem part_keys {l : Nat} {ts : List Tm} (h : KeysOk (l + 1) ts) (i : Int) : KeysOk l (part i ts) := by
  refine ⟨fun t m => ?_, fun t m => ?_, ?_⟩
  · have := h.len _ ((mem_part h (k := t.1) (r := t.2)).mp m)
    simpa using this
  · have := h.bd _ ((mem_part h (k := t.1) (r := t.2)).mp m)
    exact TS.Bd.tail this
  · unfold part
    rw [List.map_map]
    have hf := h.filter fun t => decide (t.1.headD 0 = i)
    have nd := hf.nd
    unfold List.Nodup at nd ⊢
    rw [List.pairwise_map] at nd ⊢
    refine List.Pairwise.imp_of_mem (fun {a b} ma mb hab e => hab ?_) nd
    obtain ⟨ma, da⟩ := List.mem_filter.mp ma
    obtain ⟨mb, db⟩ := List.mem_filter.mp mb
    obtain ⟨x, k, ea⟩ := key_cons (h.len a ma)
    obtain ⟨y, k', eb⟩ := key_cons (h.len b mb)
    have da := of_decide_eq_true da
    have db := of_decide_eq_true db
    have e : a.1.tail = b.1.tail := e
    rw [ea] at da e ⊢
    rw [eb] at db e ⊢
    have da : x = i := da
    have db : y = i := db
    have e : k = k' := e
    rw [da, db, e]
theorem keys0 {ts : List Tm} (h : KeysOk 0 ts) : ts = [] ∨ ∃ r, ts = [([], r)] := by
  match ts, h with
  | [], _ => exact .inl rfl
  | [t], h => exact .inr ⟨t.2, by rw [← List.length_eq_zero_iff.mp (h.len t List.mem_cons_self)]⟩
  | t :: u :: r, h =>
    have e1 := List.length_eq_zero_iff.mp (h.len t List.mem_cons_self)
    have e2 := List.length_eq_zero_iff.mp (h.len u (List.mem_cons_of_mem _ List.mem_cons_self))
    have nd := h.nd
    rw [List.map_cons, List.map_cons, e1, e2] at nd
    simp at nd
theorem top_nonneg (ts : List Tm) : 0 ≤ topE ts := le_maxL List.mem_cons_self
theorem le_top {ts : List Tm} {t : Tm} (m : t ∈ ts) : t.1.headD 0 ≤ topE ts := le_maxL (List.mem_cons_of_mem _ (List.mem_map.mpr ⟨t, m, rfl⟩))
theorem top_le {ts : List Tm} {b : Int} (h0 : 0 ≤ b) (h : ∀ t ∈ ts, t.1.headD 0 ≤ b) : topE ts ≤ b := by
  have hm := maxL_mem (l := 0 :: ts.map fun t => t.1.headD 0) (by simp)
  rcases List.mem_cons.mp hm with e | m
  · show maxL _ ≤ b
    rw [e]; exact h0
  · obtain ⟨t, mt, e⟩ := List.mem_map.mp m
    show maxL _ ≤ b
    rw [← e]; exact h t mt
theorem nest_at {l : Nat} {ts : List Tm} {i : Nat} {d : PyData} : ((List.range ((topE ts).toNat + 1)).map fun (i : Nat) => nest l (part (i : Int) ts))[i]? = some d ↔ i < (topE ts).toNat + 1 ∧ d = nest l (part (i : Int) ts) := by
  rw [List.getElem?_map]
  by_cases h : i < (topE ts).toNat + 1
  · rw [List.getElem?_range h]
    constructor
    · intro e; exact ⟨h, (Option.some.inj e).symm⟩
    · rintro ⟨_, e⟩; rw [e]; rfl
  · rw [List.getElem?_eq_none (by simpa using h)]
    constructor
    · intro e; cases e
    · rintro ⟨h', _⟩; exact absurd h' h
theorem flat_nest : ∀ {l : Nat} {ts : List Tm}, KeysOk l ts → ∀ {k : List Int} {r : Rt}, r ≠ (0, 1) → ((k, r) ∈ flat l (nest l ts) ↔ (k, r) ∈ ts)
  | 0, ts, h, k, r, hr => by
    rcases keys0 h with rfl | ⟨c, rfl⟩
    · show (k, r) ∈ [(([] : List Int), ((0, 1) : Rt))] ↔ _
      simp [hr]
    · show (k, r) ∈ [(([] : List Int), ratOf (ratD c))] ↔ _
      rw [ratOf_ratD]
  | l + 1, ts, h, k, r, hr => by
    show (k, r) ∈ flat (l + 1) (.tuple _) ↔ _
    rw [mem_flat]
    constructor
    · rintro ⟨i, d, k', h1, h2, h3⟩
      obtain ⟨hi, rfl⟩ := nest_at.mp h1
      have q := (mem_part h).mp ((flat_nest (part_keys h i) hr).mp h2)
      have h3 : k = (i : Int) :: k' := h3
      rw [h3]
      exact q
    · intro m
      obtain ⟨e, k', ek⟩ := key_cons (h.len _ m)
      have ek : k = e :: k' := ek
      subst ek
      have e0 : 0 ≤ e := (h.bd _ m e List.mem_cons_self).1
      have e1 : e ≤ topE ts := le_top m
      refine ⟨e.toNat, _, k', nest_at.mpr ⟨by omega, rfl⟩, ?_, ?_⟩
      · have ei : ((e.toNat : Nat) : Int) = e := by omega
        rw [ei]
        exact (flat_nest (part_keys h e) hr).mpr ((mem_part h).mpr m)
      · show e :: k' = ((e.toNat : Nat) : Int) :: k'
        rw [show ((e.toNat : Nat) : Int) = e by omega]
/-- terms as the law draws them -/
structure TsOk (l : Nat) (b : Int) (ts : List Tm) : Prop where
  keys : KeysOk l ts
  exp : ∀ t ∈ ts, ∀ x ∈ t.1, x ≤ b
  norm : ∀ t ∈ ts, NormR t.2
theorem part_ok {l : Nat} {b : Int} {ts : List Tm} (h : TsOk (l + 1) b ts) (i : Int) : TsOk l b (part i ts) :=
  ⟨part_keys h.keys i, fun t m x hx => h.exp _ ((mem_part h.keys (k := t.1) (r := t.2)).mp m) x (List.mem_cons_of_mem _ hx), fun t m => (show NormR t.2 from h.norm (i :: t.1, t.2) ((mem_part h.keys (k := t.1) (r := t.2)).mp m))⟩
theorem top_bd {l : Nat} {b : Int} {ts : List Tm} (h0 : 0 ≤ b) (h : TsOk (l + 1) b ts) : topE ts ≤ b := top_le h0 fun t m => by
  obtain ⟨e, k, ek⟩ := key_cons (h.keys.len t m)
  rw [ek]
  exact h.exp t m e (by rw [ek]; exact List.mem_cons_self)
theorem form_nest : ∀ {l : Nat} {b : Int} {ts : List Tm}, 0 ≤ b → b ≤ 8 → TsOk l b ts → formB l (nest l ts) = true
  | 0, b, ts, h0, h8, h => by
    rcases keys0 h.keys with rfl | ⟨c, rfl⟩
    · exact norm_isRat norm01
    · exact norm_isRat (h.norm _ List.mem_cons_self)
  | l + 1, b, ts, h0, h8, h => by
    have ht := top_bd h0 h
    have h1 := top_nonneg ts
    show ((decide (1 ≤ _) && decide (_ ≤ 9)) && _) = true
    rw [Bool.and_eq_true, Bool.and_eq_true]
    refine ⟨⟨decide_eq_true ?_, decide_eq_true ?_⟩, List.all_eq_true.mpr fun d m => ?_⟩
    · rw [List.length_map, List.length_range]; omega
    · rw [List.length_map, List.length_range]; omega
    · obtain ⟨i, _, rfl⟩ := List.mem_map.mp m
      exact form_nest h0 h8 (part_ok h _)
theorem mem_nz {ts : List Tm} {t : Tm} : t ∈ nzT ts ↔ t ∈ ts ∧ t.2 ≠ (0, 1) := by
  unfold nzT nzB
  rw [List.mem_filter]
  simp
theorem sizeP_nest {l : Nat} {b : Int} {ts : List Tm} (h0 : 0 ≤ b) (h8 : b ≤ 8) (h : TsOk l b ts) : sizeP l (nest l ts) = told ts := by
  have hf := form_nest h0 h8 h
  refine up_ext ((flat_keys hf).filter _) (told_keys h.keys) (up_nz (flat_up hf)) (told_up ts) fun t => ?_
  rw [(told_perm ts).mem_iff]
  show t ∈ nzT _ ↔ _
  rw [mem_nz, mem_nz]
  constructor
  · rintro ⟨m, n⟩; exact ⟨(flat_nest h.keys (k := t.1) n).mp m, n⟩
  · rintro ⟨m, n⟩; exact ⟨(flat_nest h.keys (k := t.1) n).mpr m, n⟩
theorem top_perm {ts us : List Tm} (p : us.Perm ts) : topE us = topE ts := by
  refine Int.le_antisymm (top_le (top_nonneg _) fun t m => le_top (p.mem_iff.mp m)) (top_le (top_nonneg _) fun t m => le_top (p.mem_iff.mpr m))
theorem part_perm {ts us : List Tm} (p : us.Perm ts) (i : Int) : (part i us).Perm (part i ts) := (p.filter _).map _
theorem nest_perm : ∀ {l : Nat} {ts us : List Tm}, KeysOk l ts → us.Perm ts → nest l us = nest l ts
  | 0, ts, us, h, p => by
    rcases keys0 h with rfl | ⟨c, rfl⟩
    · rw [List.perm_nil.mp p]
    · rw [List.perm_singleton.mp p]
  | l + 1, ts, us, h, p => by
    show PyData.tuple _ = PyData.tuple _
    rw [top_perm p]
    congr 1
    refine List.map_congr_left fun i _ => ?_
    exact nest_perm (part_keys h i) (part_perm p i)
/-! ### equality of formed data -/
theorem canLay_all {ds : List PyData} : (∀ d ∈ ds, PyData.canLay0 d = true) → PyData.canLayAll0 ds = true := by
  induction ds with
  | nil => intro _; simp [PyData.canLayAll0]
  | cons d ds ih =>
    intro h
    rw [PyData.canLayAll0, h d List.mem_cons_self, ih fun e m => h e (List.mem_cons_of_mem _ m)]
    rfl
theorem depth_all {ds : List PyData} {n : Nat} : (∀ d ∈ ds, PyData.depth d ≤ n) → PyData.depthAll ds ≤ n := by
  induction ds with
  | nil => intro _; simp [PyData.depthAll]
  | cons d ds ih =>
    intro h
    rw [PyData.depthAll]
    have h1 := h d List.mem_cons_self
    have h2 := ih fun e m => h e (List.mem_cons_of_mem _ m)
    omega
theorem shape_ratD (r : Rt) : PyData.canLay0 (ratD r) = true ∧ PyData.depth (ratD r) ≤ 1 := by
  constructor
  · simp [ratD, PyData.canLay0, PyData.canLayAll0]
  · simp [ratD, PyData.depth, PyData.depthAll]
theorem shape_form : ∀ {l : Nat} {d : PyData}, formB l d = true → PyData.canLay0 d = true ∧ PyData.depth d ≤ l + 1
  | 0, d, h => by
    obtain ⟨e, _⟩ := isRat_ratOf h
    rw [e]
    have := shape_ratD (ratOf d)
    exact ⟨this.1, by omega⟩
  | l + 1, d, h => by
    obtain ⟨ds, rfl⟩ := form_succ h
    obtain ⟨_, _, hf⟩ := form_tuple h
    refine ⟨?_, ?_⟩
    · rw [PyData.canLay0]
      exact canLay_all fun d m => (shape_form (hf d m)).1
    · rw [PyData.depth]
      have := depth_all fun d m => (shape_form (hf d m)).2
      omega
theorem shaped_of {d : PyData} (h1 : PyData.canLay0 d = true) (h2 : PyData.depth d ≤ 64) : SeqAt.shaped d = true := by
  unfold SeqAt.shaped
  rw [h1, decide_eq_true h2]
  rfl
theorem shaped_form {l : Nat} {d : PyData} (h : formB l d = true) (hl : l ≤ 60) : SeqAt.shaped d = true := shaped_of (shape_form h).1 (Nat.le_trans (shape_form h).2 (by omega))
theorem pu_form : ∀ {l : Nat} {d : PyData}, formB l d = true → puD d = true
  | 0, d, h => by
    obtain ⟨e, _⟩ := isRat_ratOf h
    rw [e, ratD, puD_tuple]
    simp [puD]
  | l + 1, d, h => by
    obtain ⟨ds, rfl⟩ := form_succ h
    obtain ⟨_, _, hf⟩ := form_tuple h
    rw [puD_tuple]
    exact List.all_eq_true.mpr fun d m => pu_form (hf d m)
theorem nestedB_nest {l : Nat} {b : Int} {ts : List Tm} (h0 : 0 ≤ b) (h8 : b ≤ 8) (h : TsOk l b ts) (hn : ∀ t ∈ ts, t.2 ≠ (0, 1)) (hs : ∀ t ∈ ts, t.1.sum ≤ 8) (hl : ts.length ≤ 60) : nestedB l (nest l ts) = true := by
  have hf := form_nest h0 h8 h
  have hp : (told ts).Perm ts := (told_perm ts).trans (by rw [show nzT ts = ts from List.filter_eq_self.mpr fun t m => by simpa [nzB] using hn t m])
  unfold nestedB
  rw [sizeP_nest h0 h8 h, hf, nest_perm h.keys hp, SeqAt.eqv_refl _ (shape_form hf).1, hp.length_eq, decide_eq_true hl]
  have : degB (told ts) = true := List.all_eq_true.mpr fun t m => decide_eq_true (hs t (hp.mem_iff.mp m))
  rw [this]
  rfl
/-! ### values -/
def monoV : List Int → List Rt → Rat
  | e :: es, x :: xs => qv x ^ e.toNat * monoV es xs
  | _, _ => 1
def polV (pt : List Rt) : List Tm → Rat
  | [] => 0
  | t :: ts => qv t.2 * monoV t.1 pt + polV pt ts
def valF : PyData → List Rt → Rt
  | d, [] => ratOf d
  | .tuple ds, x :: xs => ds.reverse.foldl (fun acc e => addR (mulR acc x) (valF e xs)) (0, 1)
  | _, _ :: _ => (0, 1)
def hor (X : Rat) : List Rat → Rat
  | [] => 0
  | a :: as => a + X * hor X as
theorem fold_norm {x : Rt} (hx : 0 < x.2) {v : PyData → Rt} : ∀ {ds : List PyData} {a : Rt}, NormR a → (∀ d ∈ ds, NormR (v d)) → NormR (ds.foldl (fun acc e => addR (mulR acc x) (v e)) a)
  | [], a, ha, _ => ha
  | d :: ds, a, ha, h => fold_norm (ds := ds) (a := addR (mulR a x) (v d)) hx (addR_norm (mulR_norm ha.1 hx).1 (h d List.mem_cons_self).1) fun e m => h e (List.mem_cons_of_mem _ m)
theorem valF_norm : ∀ {xs : List Rt} {d : PyData}, formB xs.length d = true → (∀ x ∈ xs, 0 < x.2) → NormR (valF d xs)
  | [], d, h, _ => by cases d <;> exact (isRat_ratOf h).2
  | x :: xs, d, h, hx => by
    obtain ⟨ds, rfl⟩ := form_succ h
    obtain ⟨_, _, hf⟩ := form_tuple h
    rw [valF]
    exact fold_norm (hx x List.mem_cons_self) norm01 fun e m => valF_norm (hf e (List.mem_reverse.mp m)) fun y hy => hx y (List.mem_cons_of_mem _ hy)
theorem qv_valF {x : Rt} {xs : List Rt} {ds : List PyData} (hf : ∀ d ∈ ds, formB xs.length d = true) (hx : ∀ y ∈ x :: xs, 0 < y.2) : qv (valF (.tuple ds) (x :: xs)) = hor (qv x) (ds.map fun d => qv (valF d xs)) := by
  rw [valF, List.foldl_reverse]
  have hx0 := hx x List.mem_cons_self
  have hxs : ∀ y ∈ xs, 0 < y.2 := fun y m => hx y (List.mem_cons_of_mem _ m)
  induction ds with
  | nil => exact qv01
  | cons d ds ih =>
    have n : NormR (ds.foldr (fun e acc => addR (mulR acc x) (valF e xs)) (0, 1)) := by
      rw [← List.foldl_reverse]
      exact fold_norm hx0 norm01 fun e m => valF_norm (hf e (List.mem_cons_of_mem _ (List.mem_reverse.mp m))) hxs
    rw [List.foldr_cons, qv_add (mulR_norm n.1 hx0).1 (valF_norm (hf d List.mem_cons_self) hxs).1, qv_mul n.1 hx0, ih fun e m => hf e (List.mem_cons_of_mem _ m)]
    rw [List.map_cons, hor]
    grind
theorem hor_add (X : Rat) {f g : Nat → Rat} : ∀ as : List Nat, hor X (as.map fun a => f a + g a) = hor X (as.map f) + hor X (as.map g)
  | [] => by simp only [List.map_nil, hor]; grind
  | a :: as => by
    simp only [List.map_cons, hor]
    rw [hor_add X as]
    grind
theorem hor_zero (X : Rat) : ∀ as : List Nat, hor X (as.map fun _ => (0 : Rat)) = 0
  | [] => rfl
  | a :: as => by
    simp only [List.map_cons, hor]
    rw [hor_zero X as]
    grind
theorem hor_delta (X c : Rat) (e : Nat) : ∀ (m s : Nat), s ≤ e → e < s + m → hor X ((List.range' s m).map fun i => if i = e then c else 0) = X ^ (e - s) * c
  | 0, s, h1, h2 => by omega
  | m + 1, s, h1, h2 => by
    rw [List.range'_succ, List.map_cons, hor]
    by_cases h : s = e
    · subst h
      rw [if_pos rfl, Nat.sub_self, Rat.pow_zero]
      have z : ((List.range' (s + 1) m).map fun i => if i = s then c else 0) = (List.range' (s + 1) m).map fun _ => (0 : Rat) := List.map_congr_left fun i hi => by
        have := List.mem_range'.mp hi
        rw [if_neg (by omega)]
      rw [z, hor_zero]
      grind
    · rw [if_neg h, hor_delta X c e m (s + 1) (by omega) (by omega)]
      rw [show e - s = (e - (s + 1)) + 1 by omega, Rat.pow_succ]
      grind
theorem polV_part {l : Nat} (x : Rt) (xs : List Rt) (n : Nat) : ∀ {ts : List Tm}, (∀ t ∈ ts, t.1.length = l + 1 ∧ 0 ≤ t.1.headD 0 ∧ t.1.headD 0 ≤ n) →
    hor (qv x) ((List.range (n + 1)).map fun (i : Nat) => polV xs (part (i : Int) ts)) = polV (x :: xs) ts
  | [], _ => hor_zero _ _
  | t :: ts, h => by
    obtain ⟨h1, h2, h3⟩ := h t List.mem_cons_self
    obtain ⟨e, k, ek⟩ := key_cons h1
    rw [ek] at h2 h3
    have h2 : 0 ≤ e := h2
    have h3 : e ≤ n := h3
    have ih := polV_part x xs n (ts := ts) fun u m => h u (List.mem_cons_of_mem _ m)
    have step : ∀ i : Nat, polV xs (part (i : Int) (t :: ts)) = (if i = e.toNat then qv t.2 * monoV k xs else 0) + polV xs (part (i : Int) ts) := fun i => by
      unfold part
      rw [List.filter_cons]
      by_cases q : (e : Int) = (i : Int)
      · rw [if_pos (by rw [ek]; exact decide_eq_true q), if_pos (by omega), List.map_cons, polV, ek]
        rfl
      · rw [if_neg (by rw [ek]; simpa using q), if_neg (by omega), Rat.zero_add]
    simp only [step]
    rw [hor_add, ih, polV, ek, List.range_eq_range', hor_delta _ _ _ _ _ (Nat.zero_le _) (by omega), Nat.sub_zero, monoV]
    grind
theorem val_nest : ∀ {l : Nat} {b : Int} {ts : List Tm} {pt : List Rt}, 0 ≤ b → b ≤ 8 → TsOk l b ts → pt.length = l → (∀ y ∈ pt, 0 < y.2) → qv (valF (nest l ts) pt) = polV pt ts
  | 0, b, ts, pt, h0, h8, h, hl, hp => by
    rw [List.length_eq_zero_iff.mp hl]
    rcases keys0 h.keys with rfl | ⟨c, rfl⟩
    · exact qv01
    · show qv c = qv c * 1 + 0
      grind
  | l + 1, b, ts, [], h0, h8, h, hl, hp => by cases hl
  | l + 1, b, ts, x :: xs, h0, h8, h, hl, hp => by
    have hl' : xs.length = l := by simpa using hl
    have hxs : ∀ y ∈ xs, 0 < y.2 := fun y m => hp y (List.mem_cons_of_mem _ m)
    show qv (valF (.tuple _) (x :: xs)) = _
    rw [qv_valF (fun d m => by
      obtain ⟨i, _, rfl⟩ := List.mem_map.mp m
      rw [hl']
      exact form_nest h0 h8 (part_ok h _)) hp, List.map_map]
    have e : ((fun d => qv (valF d xs)) ∘ fun (i : Nat) => nest l (part (i : Int) ts)) = fun (i : Nat) => polV xs (part (i : Int) ts) := by
      funext i
      exact val_nest h0 h8 (part_ok h i) hl' hxs
    rw [e]
    refine polV_part (l := l) x xs _ fun t m => ?_
    have h1 := h.keys.len t m
    obtain ⟨e, k, ek⟩ := key_cons h1
    refine ⟨h1, ?_, ?_⟩
    · rw [ek]; exact (h.keys.bd t m e (by rw [ek]; exact List.mem_cons_self)).1
    · have := le_top m
      have := top_nonneg ts
      omega
/-! the two sums of terms -/
def prodV (r : Rt) : List (Int × Rt) → Rt
  | [] => r
  | p :: ps => prodV (if 0 < p.1 then mulR r (powR p.2 p.1.toNat) else r) ps
def mulN (r x : Rt) : Nat → Rt
  | 0 => r
  | n + 1 => mulR (mulN r x n) x
def prodL (r : Rt) : List (Int × Rt) → Rt
  | [] => r
  | p :: ps => prodL (mulN r p.2 p.1.toNat) ps
def sumV (g : Rt → List (Int × Rt) → Rt) (pt : List Rt) (a : Rt) : List Tm → Rt
  | [] => a
  | t :: ts => sumV g pt (addR a (g t.2 (t.1.zip pt))) ts
theorem mulN_ok {r x : Rt} (hr : NormR r) (hx : 0 < x.2) : ∀ n, NormR (mulN r x n) ∧ qv (mulN r x n) = qv r * qv x ^ n
  | 0 => ⟨hr, by rw [Rat.pow_zero]; show qv r = _; grind⟩
  | n + 1 => by
    obtain ⟨h1, h2⟩ := mulN_ok hr hx n
    refine ⟨mulR_norm h1.1 hx, ?_⟩
    show qv (mulR (mulN r x n) x) = _
    rw [qv_mul h1.1 hx, h2, Rat.pow_succ]
    grind
theorem prodV_ok : ∀ {es : List Int} {pt : List Rt} {r : Rt}, NormR r → (∀ y ∈ pt, 0 < y.2) → NormR (prodV r (es.zip pt)) ∧ qv (prodV r (es.zip pt)) = qv r * monoV es pt
  | [], pt, r, hr, _ => ⟨hr, by show qv r = _; rw [show monoV [] pt = 1 by cases pt <;> rfl]; grind⟩
  | e :: es, [], r, hr, _ => ⟨hr, by show qv r = _; rw [show monoV (e :: es) [] = 1 from rfl]; grind⟩
  | e :: es, x :: xs, r, hr, hx => by
    have hx0 := hx x List.mem_cons_self
    have hxs : ∀ y ∈ xs, 0 < y.2 := fun y m => hx y (List.mem_cons_of_mem _ m)
    show NormR (prodV (if 0 < e then mulR r (powR x e.toNat) else r) (es.zip xs)) ∧ qv (prodV (if 0 < e then mulR r (powR x e.toNat) else r) (es.zip xs)) = _
    by_cases q : 0 < e
    · rw [if_pos q]
      have hp := powR_norm hx0 e.toNat
      obtain ⟨h1, h2⟩ := prodV_ok (es := es) (pt := xs) (mulR_norm hr.1 hp.1) hxs
      refine ⟨h1, ?_⟩
      rw [h2, qv_mul hr.1 hp.1, qv_pow hx0, monoV]
      grind
    · rw [if_neg q]
      obtain ⟨h1, h2⟩ := prodV_ok (es := es) (pt := xs) hr hxs
      refine ⟨h1, ?_⟩
      rw [h2, monoV, show e.toNat = 0 by omega, Rat.pow_zero]
      grind
theorem prodL_ok : ∀ {es : List Int} {pt : List Rt} {r : Rt}, NormR r → (∀ y ∈ pt, 0 < y.2) → NormR (prodL r (es.zip pt)) ∧ qv (prodL r (es.zip pt)) = qv r * monoV es pt
  | [], pt, r, hr, _ => ⟨hr, by show qv r = _; rw [show monoV [] pt = 1 by cases pt <;> rfl]; grind⟩
  | e :: es, [], r, hr, _ => ⟨hr, by show qv r = _; rw [show monoV (e :: es) [] = 1 from rfl]; grind⟩
  | e :: es, x :: xs, r, hr, hx => by
    have hx0 := hx x List.mem_cons_self
    have hxs : ∀ y ∈ xs, 0 < y.2 := fun y m => hx y (List.mem_cons_of_mem _ m)
    obtain ⟨g1, g2⟩ := mulN_ok hr hx0 e.toNat
    obtain ⟨h1, h2⟩ := prodL_ok (es := es) (pt := xs) g1 hxs
    refine ⟨h1, ?_⟩
    show qv (prodL (mulN r x e.toNat) (es.zip xs)) = _
    rw [h2, g2, monoV]
    grind
theorem sumV_ok {g : Rt → List (Int × Rt) → Rt} {pt : List Rt} (hg : ∀ (t : Tm), NormR t.2 → NormR (g t.2 (t.1.zip pt)) ∧ qv (g t.2 (t.1.zip pt)) = qv t.2 * monoV t.1 pt) : ∀ {ts : List Tm} {a : Rt}, NormR a → (∀ t ∈ ts, NormR t.2) →
    NormR (sumV g pt a ts) ∧ qv (sumV g pt a ts) = qv a + polV pt ts
  | [], a, ha, _ => ⟨ha, by show qv a = qv a + 0; grind⟩
  | t :: ts, a, ha, h => by
    obtain ⟨g1, g2⟩ := hg t (h t List.mem_cons_self)
    obtain ⟨h1, h2⟩ := sumV_ok hg (ts := ts) (addR_norm ha.1 g1.1) fun u m => h u (List.mem_cons_of_mem _ m)
    refine ⟨h1, ?_⟩
    show qv (sumV g pt (addR a _) ts) = _
    rw [h2, qv_add ha.1 g1.1, g2, polV]
    grind
theorem polV_perm {pt : List Rt} {ts us : List Tm} (p : us.Perm ts) : polV pt us = polV pt ts := by
  induction p with
  | nil => rfl
  | cons t _ ih => rw [polV, polV, ih]
  | swap t u l => simp only [polV]; grind
  | trans _ _ h1 h2 => rw [h1, h2]
/-- all three ways give the same ratio -/
theorem values_agree {l : Nat} {b : Int} {ts us : List Tm} {pt : List Rt} (h0 : 0 ≤ b) (h8 : b ≤ 8) (h : TsOk l b ts) (p : us.Perm ts) (hl : pt.length = l) (hp : ∀ y ∈ pt, 0 < y.2) :
    valF (nest l ts) pt = sumV prodL pt (0, 1) ts ∧ sumV prodV pt (0, 1) us = sumV prodL pt (0, 1) ts := by
  have hus : ∀ t ∈ us, NormR t.2 := fun t m => h.norm t (p.mem_iff.mp m)
  obtain ⟨n1, q1⟩ := sumV_ok (g := prodL) (pt := pt) (fun t ht => prodL_ok ht hp) norm01 h.norm
  obtain ⟨n2, q2⟩ := sumV_ok (g := prodV) (pt := pt) (fun t ht => prodV_ok ht hp) norm01 hus
  have n3 : NormR (valF (nest l ts) pt) := valF_norm (by rw [hl]; exact form_nest h0 h8 h) hp
  have q3 := val_nest h0 h8 h hl hp
  refine ⟨qv_inj n3 n1 ?_, qv_inj n2 n1 ?_⟩
  · rw [q3, q1, qv01]; grind
  · rw [q2, q1, polV_perm p]
end K18

set_option Elab.async false
set_option linter.all false
set_option maxRecDepth 100000
set_option maxHeartbeats 4000000
/-! Turning one relation into another; slices; zips; dicts with tuple keys, locked; loops. -/
namespace K18
open PySem PySem.Spec PyProof.Rows L2
instance moTup {K : PySem.W.Frag} {α : Type} {A : Rel α} [Mo A] : Mo (TupV K A) := ⟨fun e h => let ⟨a, xs, q, h, h1⟩ := h; ⟨a, xs, q, tm_seqT (TM.same e) h, All2.mo e h1⟩⟩
instance moPair {K : PySem.W.Frag} {α β : Type} {A : Rel α} {B : Rel β} [Mo A] [Mo B] : Mo (PairV K A B) := ⟨fun e h => let ⟨a, x, y, q, h, h1, h2⟩ := h; ⟨a, x, y, q, tm_seqT (TM.same e) h, Mo.mo e h1, Mo.mo e h2⟩⟩
/-! ### data of typed values -/
def keyD (ks : List Int) : PyData := .tuple (ks.map PyData.int)
def termD (t : Tm) : PyData := .tuple [keyD t.1, ratD t.2]
def polyD (ts : List Tm) : PyData := .tuple (ts.map termD)
section
variable {K : PySem.W.Frag} {H : Hp} {v : V}
theorem dat_rat {r : Rt} (h : RatV K r H v) : DatV K (ratD r) H v := by
  obtain ⟨a, rfl, h⟩ := h
  exact .tup h (.cons (.int _) (.cons (.int _) .nil))
theorem rat_dat {r : Rt} (h : DatV K (ratD r) H v) : RatV K r H v := by
  cases h with
  | tup h1 h2 =>
    cases h2 with
    | cons a t => cases a; cases t with | cons b t => cases b; cases t; exact ⟨_, rfl, h1⟩
theorem pu_rat (r : Rt) : puD (ratD r) = true := by rw [ratD, puD_tuple]; simp [puD]
theorem pur_rat {r : Rt} (h : RatV K r H v) : PurV K (ratD r) H v := ⟨pu_rat r, dat_rat h⟩
theorem dat_tup {ds : List PyData} (h : TupV K (DatV K) ds H v) : DatV K (.tuple ds) H v := by
  obtain ⟨a, xs, rfl, h, h2⟩ := h
  exact .tup h (dpAll_iff.mpr h2)
theorem tup_dat {ds : List PyData} (h : DatV K (.tuple ds) H v) : TupV K (DatV K) ds H v := by
  cases h with
  | tup h1 h2 => exact ⟨_, _, rfl, h1, dpAll_iff.mp h2⟩
theorem all2_imp {α β : Type} {A : Rel α} {B : Rel β} {f : α → β} (hf : ∀ a v, A a H v → B (f a) H v) : ∀ {vs : List V} {l : List α}, All2 A H vs l → All2 B H vs (l.map f)
  | _, _, .nil => .nil
  | _, _, .cons h t => .cons (hf _ _ h) (all2_imp hf t)
theorem all2_mem {α : Type} {A B : Rel α} : ∀ {vs : List V} {l : List α}, All2 A H vs l → (∀ a v, a ∈ l → A a H v → B a H v) → All2 B H vs l
  | _, _, .nil, _ => .nil
  | _, _, .cons h t, hf => .cons (hf _ _ List.mem_cons_self h) (all2_mem t fun a v m => hf a v (List.mem_cons_of_mem _ m))
theorem pur_tup {ds : List PyData} (h : TupV K (PurV K) ds H v) : PurV K (.tuple ds) H v := by
  obtain ⟨a, xs, rfl, h, h2⟩ := h
  have hp : ∀ {vs : List V} {es : List PyData}, All2 (PurV K) H vs es → es.all puD = true := by
    intro vs es q
    induction q with
    | nil => rfl
    | cons h _ ih => rw [List.all_cons, ih, h.1]; rfl
  refine ⟨by rw [puD_tuple]; exact hp h2, .tup h (dpAll_iff.mpr ?_)⟩
  exact all2_mem h2 fun a v _ z => z.2
theorem tup_pur {ds : List PyData} (h : PurV K (.tuple ds) H v) : TupV K (PurV K) ds H v := by
  obtain ⟨p, h⟩ := h
  obtain ⟨a, xs, rfl, h1, h2⟩ := tup_dat h
  rw [puD_tuple] at p
  exact ⟨a, xs, rfl, h1, all2_mem h2 fun a v m z => ⟨List.all_eq_true.mp p a m, z⟩⟩
theorem key_tup {ks : List Int} (h : KeyV ks H v) : TupV K IntV ks H v := by
  obtain ⟨a, rfl, h⟩ := h
  refine ⟨a, _, rfl, SqT.of h, ?_⟩
  clear h
  induction ks with
  | nil => exact .nil
  | cons k ks ih => exact .cons rfl ih
theorem key_dat {ks : List Int} (h : KeyV ks H v) : DatV K (keyD ks) H v := by
  obtain ⟨a, xs, rfl, h1, h2⟩ := key_tup (K := K) h
  exact dat_tup ⟨a, xs, rfl, h1, all2_imp (A := IntV) (f := PyData.int) (fun i v z => by rw [show v = V.int i from z]; exact .int i) h2⟩
theorem term_dat {t : Tm} (h : TermV K t H v) : DatV K (termD t) H v := by
  obtain ⟨a, x, y, rfl, h, h1, h2⟩ := h
  exact .tup h (.cons (key_dat h1) (.cons (dat_rat h2) .nil))
theorem poly_dat {ts : List Tm} (h : PolyV K ts H v) : DatV K (polyD ts) H v := by
  obtain ⟨a, xs, rfl, h, h2⟩ := h
  exact dat_tup ⟨a, xs, rfl, h, all2_imp (fun t v z => term_dat z) h2⟩
theorem tupRat_dat {rs : List Rt} (h : TupV K (RatV K) rs H v) : DatV K (.tuple (rs.map ratD)) H v := by
  obtain ⟨a, xs, rfl, h, h2⟩ := h
  exact dat_tup ⟨a, xs, rfl, h, all2_imp (fun t v z => dat_rat z) h2⟩
end
theorem shape_keyD (ks : List Int) : PyData.canLay0 (keyD ks) = true ∧ PyData.depth (keyD ks) ≤ 1 := by
  have h : ∀ d ∈ ks.map PyData.int, PyData.canLay0 d = true ∧ PyData.depth d ≤ 0 := fun d m => by
    obtain ⟨i, _, rfl⟩ := List.mem_map.mp m
    exact ⟨rfl, by simp [PyData.depth]⟩
  unfold keyD
  rw [PyData.canLay0, PyData.depth]
  exact ⟨canLay_all fun d m => (h d m).1, by have := depth_all fun d m => (h d m).2; omega⟩
theorem shape_tup {ds : List PyData} {n : Nat} (h : ∀ d ∈ ds, PyData.canLay0 d = true ∧ PyData.depth d ≤ n) : PyData.canLay0 (.tuple ds) = true ∧ PyData.depth (.tuple ds) ≤ n + 1 := by
  rw [PyData.canLay0, PyData.depth]
  exact ⟨canLay_all fun d m => (h d m).1, by have := depth_all fun d m => (h d m).2; omega⟩
theorem shape_termD (t : Tm) : PyData.canLay0 (termD t) = true ∧ PyData.depth (termD t) ≤ 2 := by
  unfold termD
  refine shape_tup (n := 1) fun d m => ?_
  rcases List.mem_cons.mp m with rfl | m
  · exact shape_keyD _
  · rw [List.mem_singleton.mp m]; exact shape_ratD _
theorem shape_polyD (ts : List Tm) : PyData.canLay0 (polyD ts) = true ∧ PyData.depth (polyD ts) ≤ 3 := by
  unfold polyD
  refine shape_tup (n := 2) fun d m => ?_
  obtain ⟨t, _, rfl⟩ := List.mem_map.mp m
  exact shape_termD t
theorem shaped_polyD (ts : List Tm) : SeqAt.shaped (polyD ts) = true := shaped_of (shape_polyD ts).1 (Nat.le_trans (shape_polyD ts).2 (by omega))
theorem shaped_ratD (r : Rt) : SeqAt.shaped (ratD r) = true := shaped_of (shape_ratD r).1 (Nat.le_trans (shape_ratD r).2 (by omega))
theorem shaped_nil : SeqAt.shaped (.tuple []) = true := rfl
theorem eqv_self {d : PyData} (h : PyData.canLay0 d = true) : PyData.eqv d d = true := SeqAt.eqv_refl d h
theorem eqv_empty (ds : List PyData) : PyData.eqv (.tuple ds) (.tuple []) = ds.isEmpty := by
  cases ds with
  | nil => rfl
  | cons d ds => simp [PyData.eqv, PyData.eqvAll]
theorem eqv_ratD (a b : Rt) : PyData.eqv (ratD a) (ratD b) = decide (a = b) := by
  obtain ⟨a1, a2⟩ := a
  obtain ⟨b1, b2⟩ := b
  simp only [ratD, PyData.eqv, PyData.eqvAll, Bool.and_true]
  by_cases h1 : a1 = b1
  · by_cases h2 : a2 = b2
    · simp [h1, h2]
    · simp [h1, h2]
  · simp [h1]
section
variable {K : PySem.W.Frag} {σ : L2.St} {H : Hp} {ta tb tc te tl : TE} {α β : Type} {A : Rel α} {B : Rel β}
theorem er_ratD {r : Rt} (ha : ER ta σ H (RatV K r)) : ER ta σ H (DatV K (ratD r)) := ha.imp fun _ _ h => dat_rat h
theorem er_eqR {a b : Rt} (ha : ER ta σ H (RatV K a)) (hb : ER tb σ H (RatV K b)) : ER (tOp (rEqD K) ta tb) σ H (BoolV (decide (a = b))) :=
  (er_eqD (er_ratD ha) (er_ratD hb) (shaped_ratD a) (shaped_ratD b)).eq (eqv_ratD a b)
theorem er_neR {a b : Rt} (ha : ER ta σ H (RatV K a)) (hb : ER tb σ H (RatV K b)) : ER (tOp (rNeD K) ta tb) σ H (BoolV (!decide (a = b))) :=
  (er_neD (er_ratD ha) (er_ratD hb) (shaped_ratD a) (shaped_ratD b)).eq (by rw [eqv_ratD])
theorem er_tup0 : ER (tTup tNil) σ H (TupV K A []) := fun H1 e Q q => ⟨(by show 0 ≤ sizeLine; decide), fun p hp => q _ _ (same_new hp) ⟨p, [], rfl, SqT.of upd_same, .nil⟩⟩
theorem er_key00 : ER (tTup tNil) σ H (KeyV []) := fun H1 e Q q => ⟨(by show 0 ≤ sizeLine; decide), fun p hp => q _ _ (same_new hp) ⟨p, rfl, upd_same⟩⟩
theorem er_key1 {i : Int} (ha : ER ta σ H (IntV i)) : ER (tTup (tCons ta tNil)) σ H (KeyV [i]) := fun H1 e Q q =>
  ha H1 e _ fun x H2 e2 hx => ⟨(by show 1 ≤ sizeLine; decide), fun p hp => q _ _ (e2.trans (same_new hp)) ⟨p, rfl, by rw [show x = .int i from hx]; exact upd_same⟩⟩
theorem er_dat0 : ER (tTup tNil) σ H (DatV K (.tuple [])) := er_tup0.imp fun _ _ h => dat_tup h
/-- (i,) + key -/
theorem er_catKey {i : Int} {ks : List Int} (ha : ER ta σ H (KeyV [i])) (hb : ER tb σ H (KeyV ks)) (hz : ks.length ≤ 1000) : ER (tOp (rCatA K) ta tb) σ H (KeyV (i :: ks)) :=
  er_op ha hb fun x y H1 _ hx hy Q q => by
    obtain ⟨a, rfl, h⟩ := hx
    obtain ⟨b, rfl, g⟩ := hy
    refine ⟨a, b, _, _, rfl, rfl, SqT.of h, SqT.of g, sz_of (by simp; omega), (fun z => by simp at z), fun _ z => ?_, fun _ _ p hp => ?_⟩
    · have : ks = [] := by simpa using z
      subst this
      exact q _ _ (Same.refl _) ⟨a, rfl, h⟩
    · exact q _ _ (same_new hp) ⟨p, rfl, by rw [upd_same]; simp⟩
/-- slices -/
theorem paired_drop {γ δ : Type} {F : γ → δ → Prop} : ∀ {l : List γ} {m : List δ} (n : Nat), Paired F l m → Paired F (l.drop n) (m.drop n)
  | _, _, 0, h => h
  | _, _, n + 1, .nil => by simp; exact .nil
  | _, _, n + 1, .cons _ t => paired_drop n t
theorem paired_take {γ δ : Type} {F : γ → δ → Prop} : ∀ {l : List γ} {m : List δ} (n : Nat), Paired F l m → Paired F (l.take n) (m.take n)
  | _, _, 0, _ => .nil
  | _, _, n + 1, .nil => by simp; exact .nil
  | _, _, n + 1, .cons h t => .cons h (paired_take n t)
def cutL {α : Type} (l : List α) (lo hi : Option Int) : List α := (l.drop (HT.sIx l.length 0 lo)).take (HT.sIx l.length l.length hi - HT.sIx l.length 0 lo)
theorem paired_cut {δ : Type} {F : V → δ → Prop} {l : List V} {m : List δ} (h : Paired F l m) (lo hi : Option Int) : Paired F (cutV l lo hi) (cutL m lo hi) := by
  unfold cutV cutL
  rw [← Paired.length h]
  exact paired_take _ (paired_drop _ h)
theorem cut_whole {l : List V} {lo hi : Option Int} (h : HT.sIx l.length 0 lo = 0 ∧ HT.sIx l.length l.length hi = l.length) : cutV l lo hi = l := by
  unfold cutV
  rw [h.1, h.2]
  simp
/-- a slice of a tuple: the value itself, or a new one -/
theorem er_slT [Mo A] {l : List α} {tlo thi : TO} {lo hi : Option Int} (ha : ER ta σ H (TupV K A l)) (h1 : EO tlo σ H lo) (h2 : EO thi σ H hi) : ER (tSl (rSlA K) ta tlo thi) σ H (TupV K A (cutL l lo hi)) := fun H1 e Q q =>
  ha H1 e _ fun x H2 e2 hx => h1 H2 (e.trans e2) _ fun H3 e3 => h2 H3 ((e.trans e2).trans e3) _ fun H4 e4 => by
    have hx := Mo.mo (e3.trans e4) hx
    obtain ⟨a, xs, rfl, h, g⟩ := hx
    refine ⟨a, xs, rfl, h, fun w => ?_, fun _ p hp => ?_⟩
    · refine q _ H4 ((e2.trans e3).trans e4) ⟨a, xs, rfl, h, ?_⟩
      have := paired_cut g lo hi
      rw [cut_whole w] at this
      exact this
    · exact q _ _ (((e2.trans e3).trans e4).trans (same_new hp)) ⟨p, _, rfl, SqT.of upd_same, All2.mo (same_new hp) (paired_cut g lo hi)⟩
theorem eo_none : EO tNoPart σ H none := fun H1 _ _ q => q H1 (Same.refl _)
theorem eo_int {i : Int} (ha : ER ta σ H (IntV i)) : EO (tPart ta) σ H (some i) := fun H1 e Q q => ha H1 e _ fun x H2 e2 hx => ⟨i, hx, q H2 e2⟩
theorem cut_tail {α : Type} (l : List α) : cutL l (some 1) none = l.tail := by
  unfold cutL
  rw [show (some 1 : Option Int) = some ((1 : Nat) : Int) from rfl, HT.sIx_nat, HT.sIx_none]
  cases l with
  | nil => rfl
  | cons a l =>
    rw [show min 1 (a :: l).length = 1 by simp]
    simp
theorem er_tailT [Mo A] {l : List α} (ha : ER ta σ H (TupV K A l)) : ER (tSl (rSlA K) ta (tPart (tC (.int 1))) tNoPart) σ H (TupV K A l.tail) := (er_slT ha (eo_int er_int) eo_none).eq (cut_tail l)
theorem er_tailK {i : Int} {ks : List Int} (ha : ER ta σ H (KeyV (i :: ks))) : ER (tSl (rSlA K) ta (tPart (tC (.int 1))) tNoPart) σ H (KeyV ks) := fun H1 e Q q =>
  ha H1 e _ fun x H2 e2 hx => ⟨1, rfl, by
    obtain ⟨a, rfl, h⟩ := hx
    have s1 : HT.sIx ((i :: ks).map V.int).length 0 (some 1) = 1 := by
      rw [show (some 1 : Option Int) = some ((1 : Nat) : Int) from rfl, HT.sIx_nat]
      simp
    refine ⟨a, _, rfl, SqT.of h, fun w => ?_, fun _ p hp => ?_⟩
    · have := w.1
      rw [s1] at this
      cases this
    · refine q _ _ (e2.trans (same_new hp)) ⟨p, rfl, ?_⟩
      rw [upd_same]
      unfold cutV
      rw [s1, HT.sIx_none]
      rw [List.map_cons, List.drop_one, List.tail_cons]
      exact congrArg (fun z => some (HO.tup z)) (List.take_of_length_le (Nat.le_of_eq rfl))⟩
/-- t[::-1] -/
theorem paired_rev {γ δ : Type} {F : γ → δ → Prop} {l : List γ} {m : List δ} (h : Paired F l m) : Paired F l.reverse m.reverse := by
  induction h with
  | nil => exact .nil
  | cons h _ ih => rw [List.reverse_cons, List.reverse_cons]; exact Paired.snoc ih h
theorem er_revT [Mo A] {l : List α} (ha : ER ta σ H (TupV K A l)) : ER (tRevT K ta) σ H (TupV K A l.reverse) := fun H1 e Q q =>
  ha H1 e _ fun x H2 e2 hx => let ⟨a, xs, ex, h, g⟩ := hx; ⟨a, xs, ex, h, fun p hp => q _ _ (e2.trans (same_new hp)) ⟨p, _, rfl, SqT.of upd_same, All2.mo (same_new hp) (paired_rev g)⟩⟩
/-- t[i] -/
theorem er_ixT {l : List α} {a : α} (i : Nat) (ha : ER ta σ H (TupV K A l)) (h : l[i]? = some a) : ER (tOp (rIxT K) ta (tC (.int (i : Int)))) σ H (A a) := fun H1 e Q q =>
  ha H1 e _ fun x H2 e2 hx => let ⟨p, xs, ex, hp, g⟩ := hx
    let ⟨y, hy, hd⟩ := paired_ix g h
    ⟨p, xs, i, _, ex, rfl, hp, atI_nat hy, q _ H2 e2 hd⟩
theorem er_ixTv {l : List α} {a : α} (i : Nat) [Mo A] (ha : ER ta σ H (TupV K A l)) (hb : ER tb σ H (IntV (i : Int))) (h : l[i]? = some a) : ER (tOp (rIxT K) ta tb) σ H (A a) :=
  er_op ha hb fun x y H1 _ hx hy Q q => let ⟨p, xs, ex, hp, g⟩ := hx
    let ⟨z, hz, hd⟩ := paired_ix g h
    ⟨p, xs, i, _, ex, hy, hp, atI_nat hz, q _ H1 (Same.refl _) hd⟩
theorem er_ixLv {l : List α} {a : α} (i : Nat) [Mo A] (ha : ER ta σ H (LstV A l)) (hb : ER tb σ H (IntV (i : Int))) (h : l[i]? = some a) : ER (tOp (rIxL K) ta tb) σ H (A a) :=
  er_op ha hb fun x y H1 _ hx hy Q q => let ⟨p, xs, ex, hp, g⟩ := hx
    let ⟨z, hz, hd⟩ := paired_ix g h
    ⟨p, xs, i, _, ex, hy, SqL.of hp, atI_nat hz, q _ H1 (Same.refl _) hd⟩
/-- k < m of keys -/
theorem er_ltK {k m : List Int} (ha : ER ta σ H (KeyV k)) (hb : ER tb σ H (KeyV m)) : ER (tOp (rLtT K) ta tb) σ H (BoolV (HT.lexLt k m)) :=
  er_op ha hb fun x y H1 _ hx hy Q q => let ⟨a, ex, h⟩ := hx; let ⟨b, ey, g⟩ := hy; ⟨a, b, k, m, ex, ey, SqT.of h, SqT.of g, q _ H1 (Same.refl _) rfl⟩
theorem er_lenP {p : α × β} (ha : ER ta σ H (PairV K A B p)) : ER (tCB (fun xs H Q => ∃ p ys, xs = [.ref p] ∧ (SqL K H p ys ∨ SqT K H p ys) ∧ Q (.int ys.length) H) (tCons ta tNil)) σ H (IntV 2) :=
  er_CB1 ha fun x H1 _ hx Q q => let ⟨a, y, z, ex, h, _⟩ := hx; ⟨a, [y, z], by rw [ex], .inr h, q _ H1 (Same.refl _) rfl⟩
theorem er_lenK {ks : List Int} (ha : ER ta σ H (KeyV ks)) : ER (tCB (fun xs H Q => ∃ p ys, xs = [.ref p] ∧ (SqL K H p ys ∨ SqT K H p ys) ∧ Q (.int ys.length) H) (tCons ta tNil)) σ H (IntV (ks.length : Int)) :=
  er_lenT (K := K) (A := IntV) (ha.imp fun _ _ h => key_tup h)
end
end K18

set_option Elab.async false
set_option linter.all false
set_option maxRecDepth 100000
set_option maxHeartbeats 4000000
/-! Dicts with tuple keys, locked and unlocked; zips; loops. -/
namespace K18
open PySem PySem.Spec PyProof.Rows L2 RZ
/-! ### association lists -/
def getL {α : Type} (l : List (List Int × α)) (k : List Int) : Option α := (l.find? fun p => decide (p.1 = k)).map (·.2)
def putL {α : Type} (l : List (List Int × α)) (k : List Int) (a : α) : List (List Int × α) :=
  if (l.any fun p => decide (p.1 = k)) = true then l.map (fun p => if p.1 = k then (p.1, a) else p) else l ++ [(k, a)]
theorem getL_mem {α : Type} {l : List (List Int × α)} (nd : (l.map (·.1)).Nodup) {k : List Int} {a : α} (m : (k, a) ∈ l) : getL l k = some a := by
  induction l with
  | nil => cases m
  | cons p l ih =>
    rw [List.map_cons, List.nodup_cons] at nd
    unfold getL
    rw [List.find?_cons]
    rcases List.mem_cons.mp m with e | m
    · rw [← e]; simp
    · have : p.1 ≠ k := fun e => nd.1 (List.mem_map.mpr ⟨(k, a), m, e.symm⟩)
      rw [decide_eq_false this]
      exact ih nd.2 m
theorem getL_none {α : Type} {l : List (List Int × α)} {k : List Int} (h : k ∉ l.map (·.1)) : getL l k = none := by
  unfold getL
  rw [List.find?_eq_none.mpr fun p m e => h (List.mem_map.mpr ⟨p, m, of_decide_eq_true e⟩)]
  rfl
theorem putL_new {α : Type} {l : List (List Int × α)} {k : List Int} {a : α} (h : k ∉ l.map (·.1)) : putL l k a = l ++ [(k, a)] := by
  unfold putL
  rw [if_neg]
  intro e
  obtain ⟨p, m, e⟩ := List.any_eq_true.mp e
  exact h (List.mem_map.mpr ⟨p, m, of_decide_eq_true e⟩)
theorem putL_length {α : Type} (l : List (List Int × α)) (k : List Int) (a : α) : (putL l k a).length ≤ l.length + 1 := by
  unfold putL
  split
  · rw [List.length_map]; omega
  · rw [List.length_append]; simp
section
variable {α : Type} {A : Rel α} {H : Hp} {kvs : List (List Key × V)} {l : List (List Int × α)}
theorem ent_get (h : Ent A H kvs l) (k : List Int) : (valV kvs (kk k) = none ∧ getL l k = none) ∨ ∃ v a, valV kvs (kk k) = some v ∧ getL l k = some a ∧ A a H v := by
  induction h with
  | nil => exact .inl ⟨rfl, rfl⟩
  | @cons kv p kvs l h t ih =>
    by_cases e : p.1 = k
    · exact .inr ⟨kv.2, p.2, by unfold valV; rw [List.find?_cons, decide_eq_true (by rw [h.1, e]), Option.map_some], by unfold getL; rw [List.find?_cons, decide_eq_true e, Option.map_some], h.2⟩
    · have e1 : valV (kv :: kvs) (kk k) = valV kvs (kk k) := by unfold valV; rw [List.find?_cons, decide_eq_false (fun z => e (kk_inj (h.1.symm.trans z)))]
      have e2 : getL (p :: l) k = getL l k := by unfold getL; rw [List.find?_cons, decide_eq_false e]
      rw [e1, e2]
      exact ih
theorem ent_any (h : Ent A H kvs l) (k : List Int) : (kvs.any fun kv => decide (kv.1 = kk k)) = l.any fun p => decide (p.1 = k) := by
  induction h with
  | nil => rfl
  | @cons kv p kvs l h t ih =>
    rw [List.any_cons, List.any_cons, ih]
    congr 1
    exact decide_eq_decide.mpr ⟨fun z => kk_inj (h.1.symm.trans z), fun z => by rw [h.1, z]⟩
theorem ent_put (h : Ent A H kvs l) (k : List Int) {v : V} {a : α} (hv : A a H v) : Ent A H (putK kvs (kk k) v) (putL l k a) := by
  unfold putK putL
  rw [ent_any h k]
  split
  · rename_i hc
    clear hc
    induction h with
    | nil => exact .nil
    | @cons kv p kvs l h t ih =>
      rw [List.map_cons, List.map_cons]
      refine .cons ?_ ih
      by_cases e : p.1 = k
      · rw [if_pos (by rw [h.1, e]), if_pos e]; exact ⟨h.1, hv⟩
      · rw [if_neg (fun z => e (kk_inj (h.1.symm.trans z))), if_neg e]; exact h
  · exact Paired.snoc h ⟨rfl, hv⟩
end

/-! ### dicts, read and written -/
/-- a dict that may be locked -/
def RdV {α : Type} (A : Rel α) : Rel (List (List Int × α)) := fun l H v => ∃ a kvs, v = .ref a ∧ Rd H a (.dT kvs) ∧ Ent A H kvs l
theorem rd_mo {H H' : Hp} {a : Addr} {u : HO} (e : Same H H') (h : Rd H a u) : Rd H' a u := by
  rcases h with h | ⟨o, h⟩
  · exact .inl (e _ _ h)
  · exact .inr ⟨o, e _ _ h⟩
instance {α : Type} {A : Rel α} [Tu A] : Mo (RdV A) := ⟨fun e h => let ⟨a, xs, q, h, h1⟩ := h; ⟨a, xs, q, rd_mo e h, Ent.tu (TM.same e) h1⟩⟩
theorem dic_rd {α : Type} {A : Rel α} {l : List (List Int × α)} {H : Hp} {v : V} (h : DicV A l H v) : RdV A l H v := let ⟨a, kvs, e, h, g⟩ := h; ⟨a, kvs, e, .inl h, g⟩
section
variable {K : PySem.W.Frag} {σ : L2.St} {H : Hp} {ta tb tc te tl : TE} {tt : TT} {vs : List Nat} {α β : Type} {A : Rel α} {B : Rel β} {C : Rel Int}
theorem key_at {k : List Int} {v : V} (h : KeyV k H v) : ∃ b, v = .ref b ∧ H b = some (.tup ((kk k).map kV)) := let ⟨b, e, h⟩ := h; ⟨b, e, by rw [kk_map]; exact h⟩
theorem er_dget [Tu A] {l : List (List Int × α)} {k : List Int} {a : α} (ha : ER ta σ H (RdV A l)) (hb : ER tb σ H (KeyV k)) (hg : getL l k = some a) : ER (tDGet ta tb) σ H (A a) := fun H1 e Q q =>
  ha H1 e _ fun x H2 e2 hx => hb H2 (e.trans e2) _ fun y H3 e3 hy => by
    obtain ⟨d, kvs, rfl, hd, he⟩ := (Mo.mo e3 hx : RdV A l H3 x)
    obtain ⟨b, rfl, hb⟩ := key_at hy
    rcases ent_get he k with ⟨_, z⟩ | ⟨v, a', h1, h2, h3⟩
    · rw [hg] at z; cases z
    · rw [hg] at h2; cases h2
      exact ⟨d, v, rfl, .inr ⟨kvs, kk k, b, hd, rfl, hb, h1.symm⟩, q v H3 (e2.trans e3) h3⟩
theorem er_dget2 [Tu A] {l : List (List Int × α)} {k : List Int} {a : α} (ha : ER ta σ H (RdV A l)) (hb : ER tb σ H (KeyV k)) (hc : ER tc σ H (A a)) : ER (tDGet2 ta tb tc) σ H (A ((getL l k).getD a)) := fun H1 e Q q =>
  ha H1 e _ fun x H2 e2 hx => by
    obtain ⟨d, kvs, rfl, hd, he⟩ := hx
    refine ⟨d, rfl, .inr ⟨kvs, hd⟩, hb H2 (e.trans e2) _ fun y H3 e3 hy => hc H3 ((e.trans e2).trans e3) _ fun z H4 e4 hz => ?_⟩
    obtain ⟨b, rfl, hb⟩ := key_at (Mo.mo e4 hy)
    have hd4 := rd_mo (e3.trans e4) hd
    have he4 := Ent.tu (TM.same (e3.trans e4)) he
    refine ⟨_, .inr ⟨kvs, kk k, b, hd4, rfl, hb, rfl⟩, q _ H4 ((e2.trans e3).trans e4) ?_⟩
    rcases ent_get he4 k with ⟨h1, z1⟩ | ⟨v, a', h1, h2, h3⟩
    · rw [h1, z1]; exact hz
    · rw [h1, h2]; exact h3
theorem er_dnew : ER tDNewT σ H (DicV A []) := fun H1 e Q q p hp => q _ _ (same_new hp) ⟨p, [], rfl, upd_same, .nil⟩
theorem er_lenDic {l : List (List Int × α)} (ha : ER ta σ H (DicV A l)) : ER (tCB rLenT (tCons ta tNil)) σ H (IntV (l.length : Int)) :=
  er_CB1 ha fun x H1 _ hx Q q => let ⟨a, kvs, ex, h, g⟩ := hx; ⟨a, kvs, by rw [ex], h, q _ H1 (Same.refl _) (by rw [Paired.length g]; rfl)⟩
/-- list(d): the keys -/
theorem keys_all2 {kvs : List (List Key × V)} {l : List (List Int × α)} (h : Ent A H kvs l) : ∀ {bs : List Addr}, IsKeys H kvs bs → All2 KeyV H (bs.map V.ref) (l.map (·.1)) := by
  induction h with
  | nil => intro bs q; cases q; exact .nil
  | cons h t ih =>
    intro bs q
    cases q with
    | cons q1 q2 =>
      rw [h.1, kk_map] at q1
      exact .cons ⟨_, rfl, q1⟩ (ih q2)
theorem er_listDic [Tu A] {l : List (List Int × α)} (ha : ER ta σ H (RdV A l)) : ER (tCB (fun xs H Q => ∃ d kvs, xs = [V.ref d] ∧ Rd H d (.dT kvs) ∧ ∀ p bs, H p = none → IsKeys H kvs bs → Q (.ref p) (upd H p (.lst (bs.map V.ref)))) (tCons ta tNil)) σ H (LstV KeyV (l.map (·.1))) :=
  er_CB1 ha fun x H1 _ hx Q q => by
    obtain ⟨d, kvs, rfl, hd, he⟩ := hx
    refine ⟨d, kvs, rfl, hd, fun p bs hp hk => q _ _ (same_new hp) ⟨p, _, rfl, upd_same, ?_⟩⟩
    exact All2.mo (same_new hp) (keys_all2 he hk)
/-- a comprehension over a dict's keys, locked -/
theorem wipe_id {σ : L2.St} : wipe σ [] = σ := rfl
theorem er_lcK [Tu A] [Tu B] {i : Nat} {d : Addr} {kvs : List (List Key × V)} {l : List (List Int × α)} {g : TG} (f : List Int × α → Bool) (k : List Int × α → β) (hi : σ[i]? = some (some (.ref d))) (hd : H d = some (.dT kvs)) (he : Ent A H kvs l) (hz : l.length ≤ 50000)
    (turn : ∀ p x H1, p ∈ l → TM H H1 → Rd H1 d (.dT kvs) → KeyV p.1 H1 x → Turn1 g tt te vs σ B x H1 (f p) (k p)) : ER (tLockE (tLc (iKeys (tVar i)) g tt te vs)) σ H (LstV B ((l.filter f).map k)) := fun H1 e Q q => by
  have hd1 := e _ _ hd
  have he1 : Ent A H1 kvs l := Ent.tu (TM.same e) he
  refine ⟨d, _, hd1, trivial, fun od => ?_⟩
  have tm1 : TM H1 (upd H1 d (.frz od (.dT kvs))) := TM.dT hd1
  refine ⟨_, hi, d, od, rfl, .inr ⟨kvs, upd_same, fun D hD => ?_⟩⟩
  have hDd : D ≠ d := fun z => by rw [z, upd_same] at hD; cases hD
  have hl := Paired.length he1
  refine lc_main (B := B) (walk_keysT (d := d) (o := od) (kvs := kvs)) l hl.symm f k hD (fun H' e' => e' _ _ upd_same) (fun j p x H' H'' hp e' y => ?_) (by omega) (fun H' e' hr => ?_)
  · obtain ⟨rfl, ks, v, b, h1, rfl, h3⟩ := y
    refine ⟨Same.refl _, turn p _ H'' (List.mem_of_getElem? hp) ((TM.same e).trans (tm1.trans (TM.same e'))) (.inr ⟨od, e' _ _ upd_same⟩) ⟨b, rfl, ?_⟩⟩
    have := (paired_at (F := fun (kv : List Key × V) (p : List Int × α) => kv.1 = kk p.1 ∧ A p.2 H1 kv.2) he1 h1 hp).1
    have e3 : ks = kk p.1 := this
    rw [h3, e3, kk_map]
  · obtain ⟨acc, ha, h3⟩ := hr
    have hf : H' d = some (.frz od (.dT kvs)) := e' _ _ upd_same
    refine ⟨hf, q _ _ (fun b u hb => ?_) ⟨D, acc, rfl, by rw [upd_ne hDd]; exact ha, All2.tu (TM.frz hf) h3⟩⟩
    by_cases z : b = d
    · subst z; rw [hd1] at hb; cases hb; exact upd_same
    · rw [upd_ne z]; exact e' _ _ (by rw [upd_ne z]; exact hb)
/-! zips -/
theorem walk_zipT {a b : Addr} {xs ys : List V} : Walk (ItzT K a b) (min xs.length ys.length) (fun H => SqT K H a xs ∧ SqT K H b ys) (YPair (fun i => xs[i]?) (fun i => ys[i]?)) where
  goes i H hi q := ⟨xs, ys, xs[i]'(by omega), ys[i]'(by omega), q.1, q.2, List.getElem?_eq_getElem _, List.getElem?_eq_getElem _⟩
  stops H q := ⟨xs, ys, q.1, q.2, by omega⟩
  yields i H v H' _ q y := by
    obtain ⟨T, x, z, h1, h2, h3, h4, h5⟩ := y
    exact ⟨T, x, z, h1, h2, h3, h4 xs q.1, h5 ys q.2⟩
theorem zip_at {γ δ : Type} {l : List γ} {m : List δ} {i : Nat} {p : γ × δ} (h : (l.zip m)[i]? = some p) : l[i]? = some p.1 ∧ m[i]? = some p.2 := by
  rw [List.getElem?_zip_eq_some] at h
  exact h
theorem er_lcZ [Mo A] [Mo B] {C : Rel γ} [Tu C] {l : List α} {m : List β} {g : TG} (f : α × β → Bool) (k : α × β → γ) (h1 : ER ta σ H (TupV K A l)) (h2 : ER tb σ H (TupV K B m)) (hz : l.length ≤ 50000)
    (turn : ∀ p x H1, p ∈ l.zip m → Same H H1 → PairV K A B p H1 x → Turn1 g tt te vs σ C x H1 (f p) (k p)) : ER (tLc (iZipA K (tCons ta (tCons tb tNil))) g tt te vs) σ H (LstV C (((l.zip m).filter f).map k)) := fun H0 e0 Q q =>
  h1 H0 e0 _ fun v H1 e1 hv => h2 H1 (e0.trans e1) _ fun w H2 e2 hw => by
    obtain ⟨a, xs, rfl, hs, g1⟩ := (Mo.mo e2 hv : TupV K A l H2 v)
    obtain ⟨b, ys, rfl, ht, g2⟩ := hw
    have l1 := Paired.length g1
    have l2 := Paired.length g2
    refine ⟨a, b, xs, ys, rfl, .inr ⟨hs, ht, fun D hD => lc_main (B := C) (walk_zipT (xs := xs) (ys := ys)) (l.zip m) (by rw [List.length_zip]; omega) f k hD (fun H' e => ⟨tm_seqT (TM.same e) hs, tm_seqT (TM.same e) ht⟩) (fun i p x H' H'' hp e y => ?_) (by omega) (fun H' e hr => ?_)⟩⟩
    · obtain ⟨T, x, z, rfl, hT, rfl, hx, hz⟩ := y
      obtain ⟨p1, p2⟩ := zip_at hp
      have sm := same_new (o := .tup [x, z]) hT
      exact ⟨sm, turn p _ _ (List.mem_of_getElem? hp) ((e0.trans (e1.trans e2)).trans (e.trans sm)) ⟨T, x, z, rfl, SqT.of upd_same, Mo.mo (e.trans sm) (paired_at (F := fun v a => A a H2 v) g1 hx p1), Mo.mo (e.trans sm) (paired_at (F := fun v a => B a H2 v) g2 hz p2)⟩⟩
    · obtain ⟨acc, ha, h3⟩ := hr
      exact q _ H' ((e1.trans e2).trans e) ⟨D, acc, rfl, ha, h3⟩
end
/-! ### loops -/
section
variable {K : PySem.W.Frag} {σ : L2.St} {H : Hp} {ta tb te tl : TE} {tu : TS} {g : TG} {D : Ends} {α β : Type} {A : Rel α} {B : Rel β}
/-- the parts of a loop over l whose items hold of A -/
structure Loop (g : TG) (tu : TS) (D : Ends) (σ : L2.St) (n : Nat) (I : Nat → Hp → V → Prop) (H : Hp) : Prop where
  ex : ∃ Pv : Nat → L2.St → Hp → Prop, Pv 0 σ H ∧ (∀ i σ' H', Pv i σ' H' → TM H H') ∧ (∀ i x σ' H' H'', Pv i σ' H' → Same H' H'' → I i H'' x → g x σ' H'' fun σ2 H2 => tu { D with nx := Pv (i + 1), ct := Pv (i + 1), bk := D.nx } σ2 H2) ∧ ∀ σ' H', Pv n σ' H' → D.nx σ' H'
abbrev ItemOf (A : Rel α) (l : List α) : Nat → Hp → V → Prop := fun i H x => ∃ a, l[i]? = some a ∧ A a H x
theorem s_forT [Tu A] {l : List α} (h : ER tl σ H (TupV K A l)) (k : ∀ v H1, Same H H1 → TupV K A l H1 v → Loop g tu D σ l.length (ItemOf A l) H1) : tFor (iTup K tl) g tu D σ H := h H (Same.refl H) _ fun v H1 e hv => by
  obtain ⟨Pv, p0, pm, ps, pd⟩ := (k v H1 e hv).ex
  obtain ⟨a, xs, rfl, hs, h2⟩ := hv
  have hl := Paired.length h2
  refine ⟨a, rfl, ⟨xs, hs⟩, for_it walk_tup Pv p0 (fun i σ' H' _ p => tm_seqT (pm i σ' H' p) hs) (fun i x σ' H' H'' hi p y => ?_) (fun σ' H' p => pd σ' H' (hl ▸ p))⟩
  obtain ⟨rfl, hx⟩ := y
  have hi' : i < l.length := by omega
  have hb : l[i]? = some l[i] := List.getElem?_eq_getElem hi'
  exact ps i x σ' H'' H'' p (Same.refl _) ⟨_, hb, Tu.tu (pm i σ' H'' p) (paired_at (F := fun v a => A a H1 v) h2 hx hb)⟩
/-- over a list that stays as it is -/
theorem s_forL [Tu A] {l : List α} (h : ER tl σ H (LstV A l)) (k : ∀ a xs H1, Same H H1 → H1 a = some (.lst xs) → All2 A H1 xs l → ∃ Pv : Nat → L2.St → Hp → Prop, Pv 0 σ H1 ∧ (∀ i σ' H', Pv i σ' H' → TM H1 H' ∧ H' a = some (.lst xs)) ∧
    (∀ i x σ' H', Pv i σ' H' → ItemOf A l i H' x → g x σ' H' fun σ2 H2 => tu { D with nx := Pv (i + 1), ct := Pv (i + 1), bk := D.nx } σ2 H2) ∧ ∀ σ' H', Pv l.length σ' H' → D.nx σ' H') : tFor (iList K tl) g tu D σ H := h H (Same.refl H) _ fun v H1 e hv => by
  obtain ⟨a, xs, rfl, hs, h2⟩ := hv
  obtain ⟨Pv, p0, pm, ps, pd⟩ := k a xs H1 e hs h2
  have hl := Paired.length h2
  refine ⟨a, rfl, ⟨xs, SqL.of hs⟩, for_it walk_list Pv p0 (fun i σ' H' _ p => SqL.of (pm i σ' H' p).2) (fun i x σ' H' H'' hi p y => ?_) (fun σ' H' p => pd σ' H' (hl ▸ p))⟩
  obtain ⟨rfl, hx⟩ := y
  have hi' : i < l.length := by omega
  have hb : l[i]? = some l[i] := List.getElem?_eq_getElem hi'
  exact ps i x σ' H'' p ⟨_, hb, Tu.tu (pm i σ' H'' p).1 (paired_at (F := fun v a => A a H1 v) h2 hx hb)⟩
/-- over zip of two tuples; each turn lays a pair -/
theorem s_forZ [Tu A] [Tu B] {l : List α} {m : List β} (h1 : ER ta σ H (TupV K A l)) (h2 : ER tb σ H (TupV K B m)) (k : ∀ H1, Same H H1 → Loop g tu D σ (l.zip m).length (ItemOf (PairV K A B) (l.zip m)) H1) : tFor (iZipA K (tCons ta (tCons tb tNil))) g tu D σ H :=
  h1 H (Same.refl H) _ fun v H1 e1 hv => h2 H1 e1 _ fun w H2 e2 hw => by
    obtain ⟨a, xs, rfl, hs, g1⟩ := (Mo.mo e2 hv : TupV K A l H2 v)
    obtain ⟨b, ys, rfl, ht, g2⟩ := hw
    obtain ⟨Pv, p0, pm, ps, pd⟩ := (k H2 (e1.trans e2)).ex
    have l1 := Paired.length g1
    have l2 := Paired.length g2
    have ll : (l.zip m).length = min xs.length ys.length := by rw [List.length_zip]; omega
    refine ⟨a, b, xs, ys, rfl, .inr ⟨hs, ht, for_it (walk_zipT (xs := xs) (ys := ys)) Pv p0 (fun i σ' H' _ p => ⟨tm_seqT (pm i σ' H' p) hs, tm_seqT (pm i σ' H' p) ht⟩) (fun i x σ' H' H'' hi p y => ?_) (fun σ' H' p => pd σ' H' (ll ▸ p))⟩⟩
    obtain ⟨T, x, z, rfl, hT, rfl, hx, hz⟩ := y
    have sm := same_new (o := .tup [x, z]) hT
    have hi' : i < (l.zip m).length := by omega
    have hb : (l.zip m)[i]? = some (l.zip m)[i] := List.getElem?_eq_getElem hi'
    obtain ⟨q1, q2⟩ := zip_at hb
    have tm := (pm i σ' H' p).trans (TM.same sm)
    exact ps i _ σ' H' _ p sm ⟨_, hb, T, x, z, rfl, SqT.of upd_same, Tu.tu tm (paired_at (F := fun v a => A a H2 v) g1 hx q1), Tu.tu tm (paired_at (F := fun v a => B a H2 v) g2 hz q2)⟩
/-- over enumerate of a tuple -/
theorem s_forE [Tu A] {l : List α} (h : ER tl σ H (TupV K A l)) (k : ∀ v H1, Same H H1 → TupV K A l H1 v → Loop g tu D σ l.length (fun i H x => ∃ a, l[i]? = some a ∧ PairV K IntV A ((i : Int), a) H x) H1) : tFor (iEnumT K (tCons tl tNil)) g tu D σ H := h H (Same.refl H) _ fun v H1 e hv => by
  obtain ⟨Pv, p0, pm, ps, pd⟩ := (k v H1 e hv).ex
  obtain ⟨a, xs, rfl, hs, h2⟩ := hv
  have hl := Paired.length h2
  refine ⟨a, xs, rfl, hs, for_it walk_enumT Pv p0 (fun i σ' H' _ p => tm_seqT (pm i σ' H' p) hs) (fun i x σ' H' H'' hi p y => ?_) (fun σ' H' p => pd σ' H' (hl ▸ p))⟩
  obtain ⟨T, x, z, rfl, hT, rfl, hx, hz⟩ := y
  cases hx
  have sm := same_new (o := .tup [.int (i : Int), z]) hT
  have hi' : i < l.length := by omega
  have hb : l[i]? = some l[i] := List.getElem?_eq_getElem hi'
  exact ps i _ σ' H' _ p sm ⟨_, hb, T, _, z, rfl, SqT.of upd_same, rfl, Tu.tu ((pm i σ' H' p).trans (TM.same sm)) (paired_at (F := fun v a => A a H1 v) h2 hz hb)⟩
/-- over range(n) -/
theorem s_forR {n : Int} (h : ER ta σ H (IntV n)) (hn : n < 2 ^ 62) (h0 : 0 ≤ n) (k : ∀ H1, Same H H1 → ∃ Pv : Nat → L2.St → Hp → Prop, Pv 0 σ H1 ∧ (∀ i σ' H', i < n.toNat → Pv i σ' H' → g (.int (i : Int)) σ' H' fun σ2 H2 => tu { D with nx := Pv (i + 1), ct := Pv (i + 1), bk := D.nx } σ2 H2) ∧ ∀ σ' H', Pv n.toNat σ' H' → D.nx σ' H') :
    tFor (iRng1 (tCons ta tNil)) g tu D σ H := h H (Same.refl H) _ fun v H1 e hv => by
  obtain ⟨Pv, p0, ps, pd⟩ := k H1 e
  refine ⟨n, by rw [show v = .int n from hv], by omega, hn, for_range Pv p0 (fun i σ' H' hi p => ?_) pd⟩
  have := ps i σ' H' hi p
  rw [show (0 : Int) + (i : Int) = (i : Int) by omega]
  exact this
/-- over the keys of a dict, locked -/
theorem s_forK [Tu A] {i j : Nat} {d : Addr} {kvs : List (List Key × V)} {l : List (List Int × α)} (hi : σ[i]? = some (some (.ref d))) (hd : H d = some (.dT kvs)) (he : Ent A H kvs l)
    (k : ∀ od, let H1 := upd H d (.frz od (.dT kvs)); ∃ Pv : Nat → L2.St → Hp → Prop, Pv 0 σ H1 ∧ (∀ i σ' H', Pv i σ' H' → TM H1 H' ∧ H' d = some (.frz od (.dT kvs))) ∧
      (∀ i p x σ' H', l[i]? = some p → Pv i σ' H' → KeyV p.1 H' x → ∀ D' : Ends, D'.nx = Pv (i + 1) → tu D' (σ'.set j (some x)) H') ∧ ∀ σ' H', Pv l.length σ' H' → D.nx σ' (upd H' d (.dT kvs))) : tLock (tFor (iKeys (tVar i)) (gName j) tu) D σ H := by
  refine ⟨d, _, hd, trivial, fun od => ?_⟩
  obtain ⟨Pv, p0, pm, ps, pd⟩ := k od
  have hl := Paired.length he
  refine ⟨_, hi, d, od, rfl, .inr ⟨kvs, upd_same, for_it (walk_keysT (d := d) (o := od) (kvs := kvs)) Pv p0 (fun i σ' H' _ p => (pm i σ' H' p).2) (fun i x σ' H' H'' hi p y => ?_) (fun σ' H' p => ⟨(pm _ σ' H' p).2, pd σ' H' (hl ▸ p)⟩)⟩⟩
  obtain ⟨rfl, ks, v, b, h1, rfl, h3⟩ := y
  have hi' : i < l.length := by omega
  have hb : l[i]? = some l[i] := List.getElem?_eq_getElem hi'
  have e3 : ks = kk l[i].1 := (paired_at (F := fun (kv : List Key × V) (p : List Int × α) => kv.1 = kk p.1 ∧ A p.2 H kv.2) he h1 hb).1
  exact ps i _ _ σ' H'' hb p ⟨b, rfl, by rw [h3, e3, kk_map]⟩ _ rfl
end
/-! ### rules with the fragment told ahead: within a comprehension -/
section
variable {X : Cx} {K : PySem.W.Frag}
abbrev rLenS (K : PySem.W.Frag) : List V → Hp → VK → Prop := fun xs H Q => ∃ p ys, xs = [.ref p] ∧ (SqL K H p ys ∨ SqT K H p ys) ∧ Q (.int ys.length) H
theorem pg_tupK {es : List Expr} {k : Nat} {t : TGs} {n : Nat} {pos : Pos} (hk : X.K = K) (hc : X.calm = true) (h : PGs X es t)
    (hn : (assignEach es X.env).length = n := by rfl) (hst : (assignEach es X.env).findIdx? (·.1) = none := by rfl) : PG X (.Tuple es k pos) (gTup K n t) := by
  subst hk
  exact pg_tup hc h hn hst
theorem pe_isiK {p1 p2 pos : Pos} {e : Expr} {te : TE} {n : Str} {m : String} {q2 : Pos} (hk : X.K = K) (mi : X.mg "isinstance" = none) (gi : Gl X "isinstance") (he : PE X e te) (gn : Gl X n) (mn : X.mg n = none) (bn : bootBuiltins n = some (.type m)) (hn : n ≠ "__name__" := by decide) (hd : (n == ("__debug__" : Str)) = false := by decide)
    (h1 : starEach [e, .Name n q2] X.env = (false, eval e X.env) :: starEach [.Name n q2] X.env := by rfl) (h2 : starEach [.Name n q2] X.env = (false, eval (.Name n q2) X.env) :: starEach [] X.env := by rfl) (h3 : (backTo pos (starEach [.Name n q2] X.env)).any (·.1) = false := by rfl) :
    PE X (.Call (.Name "isinstance" p1) [e, .Name n q2] [] pos) (tCB (rIsi K) (tCons te (tCons (tC (.ty m)) tNil))) := by
  subst hk
  exact pe_isi mi gi he gn mn bn hn hd h1 h2 h3
end
end K18

set_option Elab.async false
set_option linter.all false
set_option maxRecDepth 100000
set_option maxHeartbeats 4000000
/-! The program's defs of points, terms and polys. -/
namespace K18
open PySem PySem.Spec PyProof.Rows L2 RZ
section
variable {K : PySem.W.Frag} {σ : L2.St} {H : Hp} {ta tb tc te tl : TE} {α β : Type} {A : Rel α} {B : Rel β}
theorem er_chainI {g g' : Int → Int → Bool} {i j k : Int} (ha : ER ta σ H (IntV i)) (hb : ER tb σ H (IntV j)) (hc : ER tc σ H (IntV k)) : ER (tChain (rI0 fun i j => .bl (g i j)) (rI0 fun i j => .bl (g' i j)) ta tb tc) σ H (BoolV (g i j && g' j k)) := fun H1 e Q q =>
  ha H1 e _ fun x H2 e2 hx => hb H2 (e.trans e2) _ fun y H3 e3 hy => ⟨i, j, hx, hy, g i j, rfl, by
    cases hg : g i j with
    | true => rw [if_pos rfl]; exact hc H3 ((e.trans e2).trans e3) _ fun z H4 e4 hz => ⟨j, k, hy, hz, q _ H4 ((e2.trans e3).trans e4) (by rw [hg]; rfl)⟩
    | false => rw [if_neg (by simp)]; exact q _ H3 (e2.trans e3) (by rw [hg]; rfl)⟩
theorem isT_tup {l : List α} : ∀ H1 v, TupV K A l H1 v → ∃ a xs, v = .ref a ∧ SqT K H1 a xs := fun _ _ ⟨a, xs, e, h, _⟩ => ⟨a, xs, e, h⟩
theorem isT_pair {p : α × β} : ∀ H1 v, PairV K A B p H1 v → ∃ a xs, v = .ref a ∧ SqT K H1 a xs := fun _ _ ⟨a, x, y, e, h, _⟩ => ⟨a, [x, y], e, h⟩
theorem isT_key {k : List Int} : ∀ H1 v, KeyV k H1 v → ∃ a xs, v = .ref a ∧ SqT K H1 a xs := fun _ _ ⟨a, e, h⟩ => ⟨a, _, e, SqT.of h⟩
theorem all_map_true {l : List α} : (l.map fun _ => true).all id = true := by simp
theorem filter_yes {l : List α} : l.filter (fun _ => true) = l := by simp
end
/-- a poly as the program lays it -/
structure PolyOk (l : Nat) (ts : List Tm) : Prop where
  keys : KeysOk l ts
  up : Up ts
  nz : ∀ t ∈ ts, t.2 ≠ (0, 1)
  norm : ∀ t ∈ ts, NormR t.2
  len : ts.length ≤ 1000
theorem PolyOk.told {l : Nat} {ts : List Tm} (h : PolyOk l ts) : told ts = ts := by
  rw [told_of_up h.keys h.up]
  exact List.filter_eq_self.mpr fun t m => by simpa [nzB] using h.nz t m
theorem PolyOk.nn {l : Nat} {ts : List Tm} (h : PolyOk l ts) {t : Tm} (m : t ∈ ts) : ∀ x ∈ t.1, 0 ≤ x := fun x hx => (h.keys.bd t m x hx).1
theorem zip_tail {α : Type} {R : α → α → Prop} : ∀ {l : List α}, l.Pairwise R → ∀ p ∈ l.zip l.tail, R p.1 p.2
  | [], _, p, m => by simp at m
  | [a], _, p, m => by simp at m
  | a :: b :: l, h, p, m => by
    rw [List.tail_cons, List.zip_cons_cons] at m
    rcases List.mem_cons.mp m with rfl | m
    · exact (List.pairwise_cons.mp h).1 b List.mem_cons_self
    · exact zip_tail (l := b :: l) (List.pairwise_cons.mp h).2 p m
theorem PolyOk.lt {l : Nat} {ts : List Tm} (h : PolyOk l ts) : ∀ p ∈ ts.zip ts.tail, HT.lexLt p.1.1 p.2.1 = true := by
  have nd : ts.Pairwise fun a b => a.1 ≠ b.1 := by
    have := h.keys.nd
    unfold List.Nodup at this
    rwa [List.pairwise_map] at this
  intro p m
  obtain ⟨h1, h2⟩ := zip_tail (h.up.and nd) p m
  have m1 := (List.of_mem_zip m).1
  have m2 := List.mem_of_mem_tail (List.of_mem_zip m).2
  have e := (h.keys.len p.1 m1).trans (h.keys.len p.2 m2).symm
  rw [cd_lt e (h.keys.bd _ m1) (h.keys.bd _ m2)]
  refine decide_eq_true (Classical.byContradiction fun z => h2 ?_)
  exact cd_inj e (h.keys.bd _ m1) (h.keys.bd _ m2) (Int.le_antisymm h1 (by omega))
theorem all_map_mem {α : Type} {l : List α} {f : α → Bool} (h : ∀ a ∈ l, f a = true) : (l.map f).all id = true := by
  rw [List.all_map]
  exact List.all_eq_true.mpr h
theorem any_map_mem {α : Type} {l : List α} {f : α → Bool} (h : ∀ a ∈ l, f a = false) : (l.map f).any id = false := by
  rw [List.any_map]
  exact List.any_eq_false.mpr fun a m => by simpa using h a m
section
variable {P : Program} {w : World} {K : PySem.W.Frag} {mg : Str → Option Value} {base : Heap} {k : Nat} (T : Txt K mg)
include T
abbrev SpIsPoint (K : PySem.W.Frag) : Sp := Pr1 (TupV K (RatV K)) BoolV (fun rs => 1 ≤ rs.length ∧ rs.length ≤ 8 ∧ ∀ r ∈ rs, NormR r) (fun _ => true)
theorem sc_is_point : FnScope ["value", "one"] ["value"] (defScope s_is_point) := ⟨rfl, rfl, rfl, by decide +kernel, rfl, by decide +kernel, by decide +kernel⟩
theorem ok_is_point (F_is_ratio : Fd P w K mg base 2 "is_ratio" ["value"] (SpIsRatio K)) : Fd P w K mg base 3 "is_point" ["value"] (SpIsPoint K) := by
  refine mkFd T.t_is_point (sc_is_point T) (fun _ _ _ _ _ _ us hl => match us, hl with | [_], _ => rfl) len1 (fun cdv A outer s H vs Q E hr h => ?_)
  obtain ⟨rs, v, rfl, ha, ⟨h1, h8, hn⟩, q⟩ := h
  obtain ⟨tk, hc_MOST_LETTERS_boxes⟩ := T.c_MOST_LETTERS_boxes
  refine ⟨_, (pss_one (ps_ret (pe_and (pe_isi T.f_isinstance rfl (pv 0) rfl T.f_tuple bt_tuple) (pe_and (pe_chain op_le op_le pe_int (pe_callB call_len_seq rfl T.f_len bt_len (pa_cons (pv 0) pa_nil)) (pe_glob (v := .int 8) rfl hc_MOST_LETTERS_boxes ⟨_, rfl⟩)) (pe_one (pe_callB (cr_all rfl) rfl T.f_all bt_all (pa_cons (pe_lc (own := [("one", 1)]) rfl (sc_is_point T).nd (pi_tup (pv 0)) (blkOk_by (own := [("one", 1)]) (N := ["value", "one"]) (sc := defScope s_is_point) (by decide +kernel)) (fun _ _ _ _ _ => (pg_name (i := 1) (sc_is_point T).nd rfl (Or.inl rfl))) (fun _ _ _ _ _ => pts_nil) (fun _ _ _ _ _ => (pe_f F_is_ratio (hr.mono (by omega)) rfl (pa_cons (pv 1) pa_nil)))) pa_nil))))))), ?_⟩
  have av := er_var (A := TupV K (RatV K)) (a := rs) (σ := start ["value", "one"] [v]) 0 rfl ha
  refine s_ret (ER.eq (er_andV (er_isT av isT_tup) fun _ => er_andV (er_chainI er_int (er_lenT av) er_int) fun _ => er_all (er_lcT (A := RatV K) (B := BoolV) (fun _ => true) (fun _ => true) av (by omega) fun r x H1 m e hx =>
    turn_name rfl et_yes fun _ => (er_call1 (A := DatV K) (a := ratD r) (er_var 1 rfl (dat_rat hx)) trivial).eq (norm_isRat (hn r m)))) ?_) q
  rw [filter_yes, all_map_true]
  simp
  omega
abbrev SpIsTerm (K : PySem.W.Frag) : Sp := Pr2 IntV (TermV K) BoolV (fun m t => (t.1.length : Int) = m ∧ t.1.length ≤ 100 ∧ (∀ x ∈ t.1, 0 ≤ x) ∧ NormR t.2) (fun _ t => decide (t.1.sum ≤ 8))
theorem sc_is_term : FnScope ["many", "value", "one"] ["many", "value"] (defScope s_is_term) := ⟨rfl, rfl, rfl, by decide +kernel, rfl, by decide +kernel, by decide +kernel⟩
theorem ok_is_term (F_is_ratio : Fd P w K mg base 2 "is_ratio" ["value"] (SpIsRatio K)) (F_is_count : Fd P w K mg base 2 "is_count" ["value"] SpIsCount) : Fd P w K mg base 3 "is_term" ["many", "value"] (SpIsTerm K) := by
  refine mkFd T.t_is_term (sc_is_term T) (fun _ _ _ _ _ _ us hl => match us, hl with | [_, _], _ => rfl) len2 (fun cdv A outer s H vs Q E hr h => ?_)
  obtain ⟨m, t, v0, v, rfl, hm, ha, ⟨hl, h100, h0, hn⟩, q⟩ := h
  obtain ⟨tk, hc_MOST_DEGREE⟩ := T.c_MOST_DEGREE
  refine ⟨_, (pss_cons (ps_if (PW.pt (pw_or (pt_not (pt_val (pe_isi T.f_isinstance rfl (pv 1) rfl T.f_tuple bt_tuple))) (pw_or (pt_cmpR op_ne (pe_callB call_len_seq rfl T.f_len bt_len (pa_cons (pv 1) pa_nil)) pe_int (nomark _)) (pw_or1 (pt_not (pt_val (pe_f F_is_ratio (hr.mono (by omega)) rfl (pa_cons (pe_ix ix_tup (pv 1) pe_int (fun _ _ => rfl)) pa_nil)))))))) (pss_one (ps_ret pe_bl)) pss_nil) (pss_cons (ps_if (PW.pt (pw_or (pt_not (pt_val (pe_isi T.f_isinstance rfl (pe_ix ix_tup (pv 1) pe_int (fun _ _ => rfl)) rfl T.f_tuple bt_tuple))) (pw_or (pt_cmpR op_ne (pe_callB call_len_seq rfl T.f_len bt_len (pa_cons (pe_ix ix_tup (pv 1) pe_int (fun _ _ => rfl)) pa_nil)) (pv 0) (nomark _)) (pw_or1 (pt_not (pt_val (pe_callB (cr_all rfl) rfl T.f_all bt_all (pa_cons (pe_lc (own := [("one", 2)]) rfl (sc_is_term T).nd (pi_tup (pe_ix ix_tup (pv 1) pe_int (fun _ _ => rfl))) (blkOk_by (own := [("one", 2)]) (N := ["many", "value", "one"]) (sc := defScope s_is_term) (by decide +kernel)) (fun _ _ _ _ _ => (pg_name (i := 2) (sc_is_term T).nd rfl (Or.inl rfl))) (fun _ _ _ _ _ => pts_nil) (fun _ _ _ _ _ => (pe_f F_is_count (hr.mono (by omega)) rfl (pa_cons (pv 2) pa_nil)))) pa_nil)))))))) (pss_one (ps_ret pe_bl)) pss_nil) (pss_one (ps_ret (pe_cmpR op_le (pe_callB (cr_sumT rfl) rfl T.f_sum bt_sum (pa_cons (pe_ix ix_tup (pv 1) pe_int (fun _ _ => rfl)) pa_nil)) (pe_glob (v := .int 8) rfl hc_MOST_DEGREE ⟨_, rfl⟩) (nomark _)))))), ?_⟩
  have av := er_var (A := TermV K) (a := t) (σ := start ["many", "value", "one"] [v0, v]) 1 rfl ha
  refine s_when (b := false) (ET.eq (et_or (et_not (et_B (er_isT av isT_pair))) fun _ => et_or (et_test (er_neI (er_lenP av) er_int)) fun _ => et_not (et_B (er_call1 (A := DatV K) (a := ratD t.2) (er_ratD (er_snd av)) trivial))) (by rw [norm_isRat hn]; rfl)) (fun z => nomatch z) fun _ H1 e1 => ?_
  have av := er_var (A := TermV K) (a := t) (σ := start ["many", "value", "one"] [v0, v]) 1 rfl (Mo.mo e1 ha)
  refine s_when (b := false) (ET.eq (et_or (et_not (et_B (er_isT (er_fst av) isT_key))) fun _ => et_or (et_test (er_neI (er_lenK (er_fst av)) (er_var (A := IntV) 0 rfl hm))) fun _ => et_not (et_B (er_all (er_lcT (A := IntV) (B := BoolV) (fun _ => true) (fun _ => true) ((er_fst av).imp fun _ _ z => key_tup z) (by omega) fun x y H1 mx e hx =>
    turn_name rfl et_yes fun _ => (er_call1 (A := IntV) (a := x) (er_var 2 rfl hx) trivial).eq (decide_eq_true (h0 x mx)))))) (by rw [filter_yes, all_map_true]; simp [hl])) (fun z => nomatch z) fun _ H2 e2 => ?_
  have av := er_var (A := TermV K) (a := t) (σ := start ["many", "value", "one"] [v0, v]) 1 rfl (Mo.mo (e1.trans e2) ha)
  exact s_ret (er_IB (er_sumKey (er_fst av)) er_int) fun r H3 e3 hr => q r H3 ((e1.trans e2).trans e3) hr
abbrev SpIsPolyIn (K : PySem.W.Frag) : Sp := Pr2 IntV (PolyV K) BoolV (fun m ts => ∃ l : Nat, m = (l : Int) ∧ l ≤ 100 ∧ PolyOk l ts) (fun _ ts => decide (ts.length ≤ 60) && degB ts)
theorem sc_is_poly_in : FnScope ["many", "value", "one", "exponents", "ratio", "other"] ["many", "value"] (defScope s_is_poly_in) := ⟨rfl, rfl, rfl, by decide +kernel, rfl, by decide +kernel, by decide +kernel⟩
theorem ok_is_poly_in (F_is_term : Fd P w K mg base 3 "is_term" ["many", "value"] (SpIsTerm K)) : Fd P w K mg base 4 "is_poly_in" ["many", "value"] (SpIsPolyIn K) := by
  refine mkFd T.t_is_poly_in (sc_is_poly_in T) (fun _ _ _ _ _ _ us hl => match us, hl with | [_, _], _ => rfl) len2 (fun cdv A outer s H vs Q E hr h => ?_)
  obtain ⟨m, ts, v0, v, rfl, hm, ha, ⟨l, rfl, hl, hp⟩, q⟩ := h
  obtain ⟨tk, hc_MOST_TERMS⟩ := T.c_MOST_TERMS
  refine ⟨_, (pss_cons (ps_if (PW.pt (pw_or (pt_not (pt_val (pe_isi T.f_isinstance rfl (pv 1) rfl T.f_tuple bt_tuple))) (pw_or (pt_cmpR op_gt (pe_callB call_len_seq rfl T.f_len bt_len (pa_cons (pv 1) pa_nil)) (pe_glob (v := .int 60) rfl hc_MOST_TERMS ⟨_, rfl⟩) (nomark _)) (pw_or1 (pt_not (pt_val (pe_callB (cr_all rfl) rfl T.f_all bt_all (pa_cons (pe_lc (own := [("one", 2)]) rfl (sc_is_poly_in T).nd (pi_tup (pv 1)) (blkOk_by (own := [("one", 2)]) (N := ["many", "value", "one", "exponents", "ratio", "other"]) (sc := defScope s_is_poly_in) (by decide +kernel)) (fun _ _ _ _ _ => (pg_name (i := 2) (sc_is_poly_in T).nd rfl (Or.inl rfl))) (fun _ _ _ _ _ => pts_nil) (fun _ _ _ _ _ => (pe_f F_is_term (hr.mono (by omega)) rfl (pa_cons (pv 0) (pa_cons (pv 2) pa_nil))))) pa_nil)))))))) (pss_one (ps_ret pe_bl)) pss_nil) (pss_cons (ps_if (pt_val (pe_callB (cr_any rfl) rfl T.f_any bt_any (pa_cons (pe_lc (own := [("exponents", 3), ("ratio", 4)]) rfl (sc_is_poly_in T).nd (pi_tup (pv 1)) (blkOk_by (own := [("exponents", 3), ("ratio", 4)]) (N := ["many", "value", "one", "exponents", "ratio", "other"]) (sc := defScope s_is_poly_in) (by decide +kernel)) (fun _ _ _ _ _ => (pg_tupK (K := K) (n := 2) rfl rfl (pgs_cons (pg_name (i := 3) (sc_is_poly_in T).nd rfl (Or.inl rfl)) (pgs_cons (pg_name (i := 4) (sc_is_poly_in T).nd rfl (Or.inl rfl)) pgs_nil)))) (fun _ _ _ _ _ => pts_nil) (fun _ _ _ _ _ => (pe_cmpR (r := rEqD K) (op_eqD hr.units) (pv 4) (pe_glob (v := .ref (He.ga K "NOUGHT")) rfl T.nought rfl) (nomark _)))) pa_nil))) (pss_one (ps_ret pe_bl)) pss_nil) (pss_one (ps_ret (pe_callB (cr_all rfl) rfl T.f_all bt_all (pa_cons (pe_lc (own := [("one", 2), ("other", 5)]) rfl (sc_is_poly_in T).nd (RZ.pi_zipA rfl T.f_zip (pa_cons (pv 1) (pa_cons (pe_slice sl_tupA (pv 1) (po_some pe_int) po_none) pa_nil))) (blkOk_by (own := [("one", 2), ("other", 5)]) (N := ["many", "value", "one", "exponents", "ratio", "other"]) (sc := defScope s_is_poly_in) (by decide +kernel)) (fun _ _ _ _ _ => (pg_tupK (K := K) (n := 2) rfl rfl (pgs_cons (pg_name (i := 2) (sc_is_poly_in T).nd rfl (Or.inl rfl)) (pgs_cons (pg_name (i := 5) (sc_is_poly_in T).nd rfl (Or.inl rfl)) pgs_nil)))) (fun _ _ _ _ _ => pts_nil) (fun _ _ _ _ _ => (pe_cmpR (r := rLtT K) (op_ltT (Nat.lt_of_le_of_lt (Nat.le_add_right _ _) hr.units)) (pe_ix (r := rIxT K) ix_tup (pv 2) pe_int (fun _ _ => rfl)) (pe_ix (r := rIxT K) ix_tup (pv 5) pe_int (fun _ _ => rfl)) (nomark _)))) pa_nil)))))), ?_⟩
  have av := er_var (A := PolyV K) (a := ts) (σ := start ["many", "value", "one", "exponents", "ratio", "other"] [v0, v]) 1 rfl ha
  have hz := hp.len
  refine s_when (b := !(decide (ts.length ≤ 60) && degB ts)) (ET.eq (et_or (et_not (et_B (er_isT av isT_tup))) fun _ => et_or (et_test (er_IB (er_lenT av) er_int)) fun _ => et_not (et_B (er_all (er_lcT (A := TermV K) (B := BoolV) (fun _ => true) (fun t : Tm => decide (t.1.sum ≤ 8)) av (by omega) fun t y H1 mt e ht =>
    turn_name rfl et_yes fun _ => er_call2 (A := IntV) (a := (l : Int)) (B := TermV K) (b := t) (er_var 0 rfl (Mo.mo e hm)) (er_var 2 rfl ht) ⟨by rw [hp.keys.len t mt], by rw [hp.keys.len t mt]; exact hl, hp.nn mt, hp.norm t mt⟩)))) ?_) (fun z H1 e1 => ?_) (fun z H1 e1 => ?_)
  · rw [filter_yes, List.all_map]
    show (!true || ((decide ((60 : Int) < (ts.length : Int))) || !(degB ts))) = _
    rw [Bool.not_and, Bool.not_true, Bool.false_or]
    congr 1
    rw [← decide_not]
    exact decide_eq_decide.mpr (by omega)
  · have hg : (decide (ts.length ≤ 60) && degB ts) = false := by revert z; cases (decide (ts.length ≤ 60) && degB ts) <;> simp
    exact s_ret er_bl fun r H2 e2 hr => q r H2 (e1.trans e2) (by show BoolV (decide (ts.length ≤ 60) && degB ts) H2 r; rw [hg]; exact hr)
  · have hg : (decide (ts.length ≤ 60) && degB ts) = true := by revert z; cases (decide (ts.length ≤ 60) && degB ts) <;> simp
    have av := er_var (A := PolyV K) (a := ts) (σ := start ["many", "value", "one", "exponents", "ratio", "other"] [v0, v]) 1 rfl (Mo.mo e1 ha)
    refine s_when (b := false) (ET.eq (et_B (er_any (er_lcT (A := TermV K) (B := BoolV) (fun _ => true) (fun t : Tm => decide (t.2 = (0, 1))) av (by omega) fun t y H2 mt e ht => by
      obtain ⟨p, x, z, rfl, hs, hx, hz⟩ := ht
      exact turn_pair hs rfl et_yes fun _ => er_eqR (er_var (A := RatV K) 4 rfl hz) (er_c (A := RatV K) (T.noughtR H2))))) (by rw [filter_yes]; exact any_map_mem fun t m => decide_eq_false (hp.nz t m))) (fun z => nomatch z) fun _ H2 e2 => ?_
    have av := er_var (A := PolyV K) (a := ts) (σ := start ["many", "value", "one", "exponents", "ratio", "other"] [v0, v]) 1 rfl (Mo.mo (e1.trans e2) ha)
    refine s_ret (ER.eq (A := BoolV) (a' := true) (er_all (er_lcZ (A := TermV K) (B := TermV K) (C := BoolV) (fun _ => true) (fun p : Tm × Tm => HT.lexLt p.1.1 p.2.1) av (er_tailT av) (by omega) fun p y H3 mp e hy => by
      obtain ⟨a, x, z, rfl, hs, hx, hz⟩ := hy
      exact turn_pair hs rfl et_yes fun _ => er_ltK (er_fst (er_var (A := TermV K) 2 rfl hx)) (er_fst (er_var (A := TermV K) 5 rfl hz)))) (by rw [filter_yes]; exact all_map_mem (hp.lt))) fun r H3 e3 hr => q r H3 ((e1.trans e2).trans e3) (by show BoolV (decide (ts.length ≤ 60) && degB ts) H3 r; rw [hg]; exact hr)
end
end K18

set_option Elab.async false
set_option linter.all false
set_option maxRecDepth 100000
set_option maxHeartbeats 4000000
/-! The program's defs of polys, on. -/
namespace K18
open PySem PySem.Spec PyProof.Rows L2 RZ
/-! ### terms sorted by their keys -/
theorem paired_perm {γ δ : Type} {F : γ → δ → Prop} {ys xs : List γ} (p : ys.Perm xs) : ∀ {l : List δ}, Paired F xs l → ∃ m : List δ, m.Perm l ∧ Paired F ys m := by
  induction p with
  | nil => intro l h; cases h; exact ⟨[], .refl _, .nil⟩
  | cons x _ ih =>
    intro l h
    cases h with
    | cons a t => obtain ⟨m, p, q⟩ := ih t; exact ⟨_ :: m, p.cons _, .cons a q⟩
  | swap x y l0 =>
    intro l h
    cases h with
    | cons a t => cases t with | cons b t => exact ⟨_ :: _ :: _, .swap _ _ _, .cons b (.cons a t)⟩
  | trans _ _ h1 h2 =>
    intro l h
    obtain ⟨m, p, q⟩ := h2 h
    obtain ⟨m', p', q'⟩ := h1 q
    exact ⟨m', p'.trans p, q'⟩
def KeyT {α : Type} : Rel (List Int × α) := fun t H v => KeyV t.1 H v
instance {α : Type} : Tu (KeyT (α := α)) := ⟨fun {a H H' v} e h => Tu.tu (A := KeyV) (a := a.1) e h⟩
theorem keyT_all {α : Type} {H : Hp} : ∀ {vs : List V} {l : List (List Int × α)}, All2 KeyV H vs (l.map (·.1)) → All2 KeyT H vs l
  | _, [], h => by cases h; exact .nil
  | _, p :: l, h => by cases h with | cons a t => exact .cons a (keyT_all t)
section
variable {K : PySem.W.Frag} {σ : L2.St} {H : Hp} {ta tb tc te tl : TE} {α β : Type} {A : Rel α} {B : Rel β}
theorem codes_up {vs : List V} {ts : List Tm} (h : All2 KeyT H vs ts) (p : vs.Pairwise fun x y => ∀ n m, TupI K H x n → TupI K H y m → TS.code 64 n ≤ TS.code 64 m) : Up ts := by
  have tup : ∀ {t : Tm} {v : V}, KeyT t H v → TupI K H v t.1 := fun h => let ⟨a, e, h⟩ := h; ⟨a, e, SqT.of h⟩
  induction h with
  | nil => exact .nil
  | cons a t ih =>
    rw [List.pairwise_cons] at p
    refine List.pairwise_cons.mpr ⟨fun b mb => ?_, ih p.2⟩
    obtain ⟨i, hi, e⟩ := List.mem_iff_getElem.mp mb
    obtain ⟨y, hy, hb⟩ := paired_ix t (i := i) (y := b) (by rw [List.getElem?_eq_getElem hi, e])
    exact p.1 y (List.mem_of_getElem? hy) _ _ (tup a) (tup hb)
theorem er_sortK {l : Nat} {ts : List Tm} (hk : KeysOk l ts) (h64 : ts.length < 64) (ha : ER ta σ H (LstV KeyT ts)) : ER (tCB (rSortU K l 64) (tCons ta tNil)) σ H (LstV KeyT (srt ts)) :=
  er_CB1 ha fun x H1 _ hx Q q => by
    obtain ⟨a, xs, rfl, h, h2⟩ := hx
    refine ⟨a, xs, rfl, SqL.of h, by rw [Paired.length h2]; exact h64, fun x mx => ?_, fun ys p hp pw hn => ?_⟩
    · obtain ⟨i, hi, e⟩ := List.mem_iff_getElem.mp mx
      have hi' : i < ts.length := by rw [← Paired.length h2]; exact hi
      have := paired_at (F := fun v (t : Tm) => KeyT t H1 v) h2 (i := i) (by rw [List.getElem?_eq_getElem hi, e]) (List.getElem?_eq_getElem hi')
      obtain ⟨b, eb, hb⟩ := this
      exact ⟨ts[i].1, ⟨b, eb, SqT.of hb⟩, hk.len _ (List.getElem_mem _), hk.bd _ (List.getElem_mem _)⟩
    · obtain ⟨us, pu, hu⟩ := paired_perm hp h2
      have e := srt_unique hk pu (codes_up hu pw)
      subst e
      exact q _ _ (same_new hn) ⟨p, ys, rfl, upd_same, All2.mo (same_new hn) hu⟩
theorem er_listDicT [Tu A] {l : List (List Int × α)} (ha : ER ta σ H (RdV A l)) : ER (tCB (fun xs H Q => ∃ d kvs, xs = [V.ref d] ∧ Rd H d (.dT kvs) ∧ ∀ p bs, H p = none → IsKeys H kvs bs → Q (.ref p) (upd H p (.lst (bs.map V.ref)))) (tCons ta tNil)) σ H (LstV KeyT l) :=
  (er_listDic ha).imp fun _ _ h => let ⟨a, xs, e, h, g⟩ := h; ⟨a, xs, e, h, keyT_all g⟩
theorem er_tupPair {p : α × β} [Mo A] [Mo B] (ha : ER ta σ H (A p.1)) (hb : ER tb σ H (B p.2)) : ER (tTup (tCons ta (tCons tb tNil))) σ H (PairV K A B p) := er_pair ha hb
end
theorem deg_max (ts : List Tm) : (maxL (ts.map (fun t => t.1.sum) ++ [0]) ≤ 8) ↔ degB ts = true := by
  unfold degB
  rw [List.all_eq_true]
  constructor
  · intro h t m
    exact decide_eq_true (Int.le_trans (le_maxL (List.mem_append.mpr (.inl (List.mem_map.mpr ⟨t, m, rfl⟩)))) h)
  · intro h
    have hm := maxL_mem (l := ts.map (fun t => t.1.sum) ++ [0]) (by simp)
    rcases List.mem_append.mp hm with m | m
    · obtain ⟨t, mt, e⟩ := List.mem_map.mp m
      rw [← e]
      exact of_decide_eq_true (h t mt)
    · rw [List.mem_singleton.mp m]; decide
/-! sizes of values -/
structure VOk (ts : List Tm) (pt : List Rt) : Prop where
  len : ts.length ≤ 6
  key : ∀ t ∈ ts, t.1.length ≤ 3 ∧ ∀ x ∈ t.1, 0 ≤ x ∧ x ≤ 4
  sz : ∀ t ∈ ts, SzR 40 t.2
  pt : ∀ x ∈ pt, SzR 4 x
theorem mulN_sz {m : Nat} {r x : Rt} (hr : SzR m r) (hx : SzR 4 x) : ∀ n, SzR (m + 4 * n) (mulN r x n)
  | 0 => hr
  | n + 1 => (mulR_sz (mulN_sz hr hx n) hx).mono (by omega)
theorem prodV_sz : ∀ {ps : List (Int × Rt)} {m : Nat} {r : Rt}, SzR m r → (∀ p ∈ ps, 0 ≤ p.1 ∧ p.1 ≤ 4 ∧ SzR 4 p.2) → SzR (m + 17 * ps.length) (prodV r ps)
  | [], m, r, hr, _ => hr.mono (by simp)
  | p :: ps, m, r, hr, h => by
    obtain ⟨h0, h4, hz⟩ := h p List.mem_cons_self
    have hs : ∀ q ∈ ps, 0 ≤ q.1 ∧ q.1 ≤ 4 ∧ SzR 4 q.2 := fun q m => h q (List.mem_cons_of_mem _ m)
    have h5 : p.1.toNat ≤ 4 := by omega
    have : SzR (m + 17) (if 0 < p.1 then mulR r (powR p.2 p.1.toNat) else r) := by
      split
      · exact (mulR_sz hr (powR_sz hz _)).mono (by omega)
      · exact hr.mono (by omega)
    exact (prodV_sz (ps := ps) this hs).mono (by rw [List.length_cons]; omega)
theorem prodL_sz : ∀ {ps : List (Int × Rt)} {m : Nat} {r : Rt}, SzR m r → (∀ p ∈ ps, 0 ≤ p.1 ∧ p.1 ≤ 4 ∧ SzR 4 p.2) → SzR (m + 16 * ps.length) (prodL r ps)
  | [], m, r, hr, _ => hr.mono (by simp)
  | p :: ps, m, r, hr, h => by
    obtain ⟨h0, h4, hz⟩ := h p List.mem_cons_self
    have h5 : p.1.toNat ≤ 4 := by omega
    exact (prodL_sz (ps := ps) (mulN_sz hr hz p.1.toNat) fun q m => h q (List.mem_cons_of_mem _ m)).mono (by rw [List.length_cons]; omega)
theorem VOk.zip {ts : List Tm} {pt : List Rt} (h : VOk ts pt) {t : Tm} (m : t ∈ ts) : (t.1.zip pt).length ≤ 3 ∧ ∀ p ∈ t.1.zip pt, 0 ≤ p.1 ∧ p.1 ≤ 4 ∧ SzR 4 p.2 := by
  obtain ⟨h1, h2⟩ := h.key t m
  refine ⟨by rw [List.length_zip]; omega, fun p mp => ?_⟩
  have := List.of_mem_zip mp
  exact ⟨(h2 _ this.1).1, (h2 _ this.1).2, h.pt _ this.2⟩
theorem VOk.gV {ts : List Tm} {pt : List Rt} (h : VOk ts pt) {t : Tm} (m : t ∈ ts) : SzR 100 (prodV t.2 (t.1.zip pt)) := by
  obtain ⟨h1, h2⟩ := h.zip m
  exact (prodV_sz (h.sz t m) h2).mono (by omega)
theorem VOk.gL {ts : List Tm} {pt : List Rt} (h : VOk ts pt) {t : Tm} (m : t ∈ ts) : SzR 100 (prodL t.2 (t.1.zip pt)) := by
  obtain ⟨h1, h2⟩ := h.zip m
  exact (prodL_sz (h.sz t m) h2).mono (by omega)
theorem sumV_snoc {g : Rt → List (Int × Rt) → Rt} {pt : List Rt} : ∀ {ts : List Tm} {a : Rt} {t : Tm}, sumV g pt a (ts ++ [t]) = addR (sumV g pt a ts) (g t.2 (t.1.zip pt))
  | [], _, _ => rfl
  | u :: ts, a, t => by show sumV g pt _ (ts ++ [t]) = _; rw [sumV_snoc]; rfl
theorem prodV_snoc : ∀ {ps : List (Int × Rt)} {r : Rt} {p : Int × Rt}, prodV r (ps ++ [p]) = (if 0 < p.1 then mulR (prodV r ps) (powR p.2 p.1.toNat) else prodV r ps)
  | [], _, _ => rfl
  | u :: ps, r, p => by show prodV _ (ps ++ [p]) = _; rw [prodV_snoc]; rfl
theorem prodL_snoc : ∀ {ps : List (Int × Rt)} {r : Rt} {p : Int × Rt}, prodL r (ps ++ [p]) = mulN (prodL r ps) p.2 p.1.toNat
  | [], _, _ => rfl
  | u :: ps, r, p => by show prodL _ (ps ++ [p]) = _; rw [prodL_snoc]; rfl
theorem sumV_sz {g : Rt → List (Int × Rt) → Rt} {pt : List Rt} : ∀ {ts : List Tm} {a : Rt} {m : Nat}, SzR m a → (∀ t ∈ ts, SzR 100 (g t.2 (t.1.zip pt))) → SzR (m + 101 * ts.length) (sumV g pt a ts)
  | [], a, m, ha, _ => ha.mono (by simp)
  | t :: ts, a, m, ha, h => (sumV_sz (ts := ts) (addR_sz ha (h t List.mem_cons_self)) fun u mu => h u (List.mem_cons_of_mem _ mu)).mono (by rw [List.length_cons]; omega)
theorem szR01 {m : Nat} (h : 0 < m) : SzR m (0, 1) := by
  refine ⟨?_, by show (0 : Int) < 1; decide, ?_⟩
  · show (0 : Int).natAbs < _; simp; exact Nat.pos_of_ne_zero (by simp)
  · show (1 : Int).natAbs < _; simp; omega
theorem take_snoc {α : Type} {l : List α} {i : Nat} {a : α} (h : l[i]? = some a) : l.take (i + 1) = l.take i ++ [a] := by rw [List.take_add_one, h]; rfl
section
variable {P : Program} {w : World} {K : PySem.W.Frag} {mg : Str → Option Value} {base : Heap} {k : Nat} (T : Txt K mg)
include T
abbrev SpLettersOf (K : PySem.W.Frag) : Sp := Pr1 (PolyV K) IntV (fun ts => ts ≠ []) (fun ts => ((ts.headD ([], (0, 1))).1.length : Int))
theorem sc_letters_of : FnScope ["poly"] ["poly"] (defScope s_letters_of) := ⟨rfl, rfl, rfl, by decide +kernel, rfl, by decide +kernel, by decide +kernel⟩
theorem ok_letters_of : Fd P w K mg base 1 "letters_of" ["poly"] (SpLettersOf K) := by
  refine mkFd T.t_letters_of (sc_letters_of T) (fun _ _ _ _ _ _ us hl => match us, hl with | [_], _ => rfl) len1 (fun cdv A outer s H vs Q E hr h => ?_)
  obtain ⟨ts, v, rfl, ha, hne, q⟩ := h
  obtain ⟨t, us, rfl⟩ : ∃ t us, ts = t :: us := by cases ts with | nil => exact absurd rfl hne | cons t us => exact ⟨t, us, rfl⟩
  refine ⟨_, (pss_one (ps_ret (pe_ifExp (pt_cmpR (op_neD hr.units) (pv 0) (pe_tup pa_nil) (nomark _)) (pe_callB call_len_seq rfl T.f_len bt_len (pa_cons (pe_ix ix_tup (pe_ix ix_tup (pv 0) pe_int (fun _ _ => rfl)) pe_int (fun _ _ => rfl)) pa_nil)) pe_non))), ?_⟩
  have av := er_var (A := PolyV K) (a := t :: us) (σ := start ["poly"] [v]) 0 rfl ha
  exact s_ret (er_if (j := true) (ET.eq (et_test (er_neD (av.imp fun _ _ z => poly_dat z) er_dat0 (shaped_polyD _) shaped_nil)) (by unfold polyD; rw [eqv_empty]; rfl)) (fun _ => er_lenK (er_fst (er_ixT (A := TermV K) (a := t) 0 av rfl))) (fun z => nomatch z)) q
abbrev SpIsAnyPoly (K : PySem.W.Frag) : Sp := Pr1 (PolyV K) BoolV (fun ts => ts ≠ [] ∧ ∃ l : Nat, 1 ≤ l ∧ l ≤ 8 ∧ PolyOk l ts ∧ ts.length ≤ 60 ∧ degB ts = true) (fun _ => true)
theorem sc_is_any_poly : FnScope ["value", "first"] ["value"] (defScope s_is_any_poly) := ⟨rfl, rfl, rfl, by decide +kernel, rfl, by decide +kernel, by decide +kernel⟩
theorem ok_is_any_poly (F_is_poly_in : Fd P w K mg base 4 "is_poly_in" ["many", "value"] (SpIsPolyIn K)) : Fd P w K mg base 5 "is_any_poly" ["value"] (SpIsAnyPoly K) := by
  refine mkFd T.t_is_any_poly (sc_is_any_poly T) (fun _ _ _ _ _ _ us hl => match us, hl with | [_], _ => rfl) len1 (fun cdv A outer s H vs Q E hr h => ?_)
  obtain ⟨ts, v, rfl, ha, ⟨hne, l, h1, h8, hp, h60, hd⟩, q⟩ := h
  obtain ⟨t, us, rfl⟩ : ∃ t us, ts = t :: us := by cases ts with | nil => exact absurd rfl hne | cons t us => exact ⟨t, us, rfl⟩
  obtain ⟨tk, hc_MOST_LETTERS_polys⟩ := T.c_MOST_LETTERS_polys
  have hl := hp.keys.len t List.mem_cons_self
  refine ⟨_, (pss_cons (ps_if (PW.pt (pw_or (pt_not (pt_val (pe_isi T.f_isinstance rfl (pv 0) rfl T.f_tuple bt_tuple))) (pw_or1 (pt_cmpR (op_eqD hr.units) (pv 0) (pe_tup pa_nil) (nomark _))))) (pss_one (ps_ret (pe_and (pe_cmpR (op_eqD hr.units) (pv 0) (pe_tup pa_nil) (nomark _)) (pe_one (pe_isi T.f_isinstance rfl (pv 0) rfl T.f_tuple bt_tuple))))) pss_nil) (pss_cons (ps_set (i := 1) (sc_is_any_poly T).nd rfl (Or.inl rfl) (pe_ix ix_tup (pv 0) pe_int (fun _ _ => rfl))) (pss_cons (ps_if (PW.pt (pw_or (pt_not (pt_val (pe_isi T.f_isinstance rfl (pv 1) rfl T.f_tuple bt_tuple))) (pw_or (pt_cmpR op_ne (pe_callB call_len_seq rfl T.f_len bt_len (pa_cons (pv 1) pa_nil)) pe_int (nomark _)) (pw_or1 (pt_not (pt_val (pe_isi T.f_isinstance rfl (pe_ix ix_tup (pv 1) pe_int (fun _ _ => rfl)) rfl T.f_tuple bt_tuple))))))) (pss_one (ps_ret pe_bl)) pss_nil) (pss_one (ps_ret (pe_and (pe_chain op_le op_le pe_int (pe_callB call_len_seq rfl T.f_len bt_len (pa_cons (pe_ix ix_tup (pv 1) pe_int (fun _ _ => rfl)) pa_nil)) (pe_glob (v := .int 8) rfl hc_MOST_LETTERS_polys ⟨_, rfl⟩)) (pe_one (pe_f F_is_poly_in (hr.mono (by omega)) rfl (pa_cons (pe_callB call_len_seq rfl T.f_len bt_len (pa_cons (pe_ix ix_tup (pv 1) pe_int (fun _ _ => rfl)) pa_nil)) (pa_cons (pv 0) pa_nil)))))))))), ?_⟩
  have av := er_var (A := PolyV K) (a := t :: us) (σ := start ["value", "first"] [v]) 0 rfl ha
  refine s_when (b := false) (ET.eq (et_or (et_not (et_B (er_isT av isT_tup))) fun _ => et_test (er_eqD (av.imp fun _ _ z => poly_dat z) er_dat0 (shaped_polyD _) shaped_nil)) (by unfold polyD; rw [eqv_empty]; rfl)) (fun z => nomatch z) fun _ H1 e1 => ?_
  refine s_set 1 (er_ixT (A := TermV K) (a := t) 0 (er_var (A := PolyV K) (a := t :: us) 0 rfl (Mo.mo e1 ha)) rfl) fun f H2 e2 hf => ?_
  have fv := er_var (A := TermV K) (a := t) (σ := [some v, some f]) 1 rfl hf
  refine s_when (b := false) (ET.eq (et_or (et_not (et_B (er_isT fv isT_pair))) fun _ => et_or (et_test (er_neI (er_lenP fv) er_int)) fun _ => et_not (et_B (er_isT (er_fst fv) isT_key))) rfl) (fun z => nomatch z) fun _ H3 e3 => ?_
  have fv := er_var (A := TermV K) (a := t) (σ := [some v, some f]) 1 rfl (Mo.mo e3 hf)
  refine s_ret (ER.eq (A := BoolV) (a' := true) (er_andV (er_chainI er_int (er_lenK (er_fst fv)) er_int) fun _ => er_call2 (A := IntV) (B := PolyV K) (er_lenK (er_fst fv)) (er_var (A := PolyV K) (a := t :: us) 0 rfl (Mo.mo (e1.trans (e2.trans e3)) ha)) ⟨l, by rw [hl], by omega, hp⟩) ?_) fun r H4 e4 hr => q r H4 (e1.trans (e2.trans (e3.trans e4))) hr
  rw [hd, decide_eq_true h60, hl]
  simp
  omega
abbrev SpWantLetters : Sp := Pr1 IntV NonV (fun v => 1 ≤ v ∧ v ≤ 8) (fun _ => ())
theorem sc_want_letters_many : FnScope ["value"] ["value"] (defScope s_want_letters_many) := ⟨rfl, rfl, rfl, by decide +kernel, rfl, by decide +kernel, by decide +kernel⟩
theorem ok_want_letters_many (F_want_many : Fd P w K mg base 3 "want_many" ["value", "most", "least"] SpWantMany) : Fd P w K mg base 4 "want_letters_many" ["value"] SpWantLetters := by
  refine mkFd T.t_want_letters_many (sc_want_letters_many T) (fun _ _ _ _ _ _ us hl => match us, hl with | [_], _ => rfl) len1 (fun cdv A outer s H vs Q E hr h => ?_)
  obtain ⟨i, v, rfl, ha, ⟨h1, h8⟩, q⟩ := h
  obtain ⟨tk, hc_MOST_LETTERS_polys⟩ := T.c_MOST_LETTERS_polys
  refine ⟨_, (pss_one (ps_expr (pe_f F_want_many (hr.mono (by omega)) rfl (pa_cons (pv 0) (pa_cons (pe_glob (v := .int 8) rfl hc_MOST_LETTERS_polys ⟨_, rfl⟩) (pa_cons pe_int pa_nil)))))), ?_⟩
  exact er_call3 (A := IntV) (B := IntV) (C := IntV) (er_var 0 rfl ha) er_int er_int ⟨by omega, h1, h8⟩ H (Same.refl _) _ fun _ H1 e _ => q _ H1 e rfl
abbrev SpWantPoly (K : PySem.W.Frag) : Sp := Pr1 (PolyV K) NonV (fun ts => ts ≠ [] ∧ ∃ l : Nat, 1 ≤ l ∧ l ≤ 8 ∧ PolyOk l ts ∧ ts.length ≤ 60 ∧ degB ts = true) (fun _ => ())
theorem sc_want_poly : FnScope ["value"] ["value"] (defScope s_want_poly) := ⟨rfl, rfl, rfl, by decide +kernel, rfl, by decide +kernel, by decide +kernel⟩
theorem ok_want_poly (F_is_any_poly : Fd P w K mg base 5 "is_any_poly" ["value"] (SpIsAnyPoly K)) : Fd P w K mg base 6 "want_poly" ["value"] (SpWantPoly K) := by
  refine mkFd T.t_want_poly (sc_want_poly T) (fun _ _ _ _ _ _ us hl => match us, hl with | [_], _ => rfl) len1 (fun cdv A outer s H vs Q E hr h => ?_)
  obtain ⟨ts, v, rfl, ha, hp, q⟩ := h
  refine ⟨_, (pss_one (ps_if (pt_not (pt_val (pe_f F_is_any_poly (hr.mono (by omega)) rfl (pa_cons (pv 0) pa_nil)))) (pss_one ps_never) pss_nil)), ?_⟩
  exact s_when1 (b := false) (et_not (et_B (er_call1 (A := PolyV K) (er_var 0 rfl ha) hp))) (fun z => nomatch z) (fun _ H1 e => q _ H1 e rfl)
abbrev SpWantPolyIn (K : PySem.W.Frag) : Sp := Pr2 IntV (PolyV K) NonV (fun m ts => ∃ l : Nat, m = (l : Int) ∧ l ≤ 100 ∧ PolyOk l ts ∧ ts.length ≤ 60 ∧ degB ts = true) (fun _ _ => ())
theorem sc_want_poly_in : FnScope ["many", "value"] ["many", "value"] (defScope s_want_poly_in) := ⟨rfl, rfl, rfl, by decide +kernel, rfl, by decide +kernel, by decide +kernel⟩
theorem ok_want_poly_in (F_is_poly_in : Fd P w K mg base 4 "is_poly_in" ["many", "value"] (SpIsPolyIn K)) : Fd P w K mg base 5 "want_poly_in" ["many", "value"] (SpWantPolyIn K) := by
  refine mkFd T.t_want_poly_in (sc_want_poly_in T) (fun _ _ _ _ _ _ us hl => match us, hl with | [_, _], _ => rfl) len2 (fun cdv A outer s H vs Q E hr h => ?_)
  obtain ⟨m, ts, v0, v, rfl, hm, ha, ⟨l, rfl, hl, hp, h60, hd⟩, q⟩ := h
  refine ⟨_, (pss_one (ps_if (pt_not (pt_val (pe_f F_is_poly_in (hr.mono (by omega)) rfl (pa_cons (pv 0) (pa_cons (pv 1) pa_nil))))) (pss_one ps_never) pss_nil)), ?_⟩
  exact s_when1 (b := false) (ET.eq (et_not (et_B (er_call2 (A := IntV) (B := PolyV K) (er_var 0 rfl hm) (er_var 1 rfl ha) ⟨l, rfl, hl, hp⟩))) (by rw [hd, decide_eq_true h60]; rfl)) (fun z => nomatch z) (fun _ H1 e => q _ H1 e rfl)
abbrev SpWantPoint (K : PySem.W.Frag) : Sp := Pr2 IntV (TupV K (RatV K)) NonV (fun m rs => (rs.length : Int) = m ∧ 1 ≤ rs.length ∧ rs.length ≤ 8 ∧ ∀ r ∈ rs, NormR r) (fun _ _ => ())
theorem sc_want_point_for : FnScope ["many", "value"] ["many", "value"] (defScope s_want_point_for) := ⟨rfl, rfl, rfl, by decide +kernel, rfl, by decide +kernel, by decide +kernel⟩
theorem ok_want_point_for (F_is_point : Fd P w K mg base 3 "is_point" ["value"] (SpIsPoint K)) : Fd P w K mg base 4 "want_point_for" ["many", "value"] (SpWantPoint K) := by
  refine mkFd T.t_want_point_for (sc_want_point_for T) (fun _ _ _ _ _ _ us hl => match us, hl with | [_, _], _ => rfl) len2 (fun cdv A outer s H vs Q E hr h => ?_)
  obtain ⟨m, rs, v0, v, rfl, hm, ha, ⟨hl, h1⟩, q⟩ := h
  refine ⟨_, (pss_one (ps_if (PW.pt (pw_or (pt_not (pt_val (pe_f F_is_point (hr.mono (by omega)) rfl (pa_cons (pv 1) pa_nil)))) (pw_or1 (PW.pt (pw_and (pt_cmpR op_notN (pv 0) pe_non (nomark _)) (pw_and1 (pt_cmpR op_ne (pe_callB call_len_seq rfl T.f_len bt_len (pa_cons (pv 1) pa_nil)) (pv 0) (nomark _)))))))) (pss_one ps_never) pss_nil)), ?_⟩
  exact s_when1 (b := false) (ET.eq (et_or (et_not (et_B (er_call1 (A := TupV K (RatV K)) (er_var 1 rfl ha) h1))) fun _ => et_and (et_test (er_notNon T (tb := tC .non) (er_var 0 rfl hm))) fun _ => et_test (er_neI (er_lenT (A := RatV K) (er_var 1 rfl ha)) (er_var (A := IntV) 0 rfl hm))) (by simp [hl])) (fun z => nomatch z) (fun _ H1 e => q _ H1 e rfl)
abbrev SpTold (K : PySem.W.Frag) : Sp := Pr1 (DicV (RatV K)) (PolyV K) (fun ts => ∃ l, 1 ≤ l ∧ KeysOk l ts ∧ ts.length < 64) told
theorem sc_told_poly : FnScope ["sums", "exponents"] ["sums"] (defScope s_told_poly) := ⟨rfl, rfl, rfl, by decide +kernel, rfl, by decide +kernel, by decide +kernel⟩
theorem ok_told_poly : Fd P w K mg base 1 "told_poly" ["sums"] (SpTold K) := by
  refine mkFd T.t_told_poly (sc_told_poly T) (fun _ _ _ _ _ _ us hl => match us, hl with | [_], _ => rfl) len1 (fun cdv A outer s H vs Q E hr h => ?_)
  obtain ⟨ts, v, rfl, ha, ⟨l, hd1, hk, h64⟩, q⟩ := h
  refine ⟨_, (pss_one (ps_ret (pe_tupleOf rfl T.f_tuple (pe_lc (own := [("exponents", 1)]) rfl (sc_told_poly T).nd (pi_list (pe_callB (cr_sortT (B := 64) hd1) rfl T.f_sorted bt_sorted (pa_cons (pe_callTy (call_list_dT rfl) rfl T.f_list bt_list (pa_cons (pv 0) pa_nil)) pa_nil))) (blkOk_by (own := [("exponents", 1)]) (N := ["sums", "exponents"]) (sc := defScope s_told_poly) (by decide +kernel)) (fun _ _ _ _ _ => (pg_name (i := 1) (sc_told_poly T).nd rfl (Or.inl rfl))) (fun _ _ _ _ _ => (pts_one (pt_cmpR (r := rNeD K) (op_neD hr.units) (pe_dget (hu_of hr) (pv 0) (pv 1) (fun _ _ => rfl)) (pe_glob (v := .ref (He.ga K "NOUGHT")) rfl T.nought rfl) (nomark _)))) (fun _ _ _ _ _ => (pe_tup (pa_cons (pv 1) (pa_cons (pe_dget (hu_of hr) (pv 0) (pv 1) (fun _ _ => rfl)) pa_nil)))))))), ?_⟩
  have av := er_var (A := RdV (RatV K)) (a := ts) (σ := start ["sums", "exponents"] [v]) 0 rfl (dic_rd ha)
  have hs := er_sortK (K := K) hk h64 (er_listDicT av)
  have hlen := (srt_perm ts).length_eq
  refine s_ret (ER.eq (er_tupleL (er_lcL (A := KeyT) (B := TermV K) nzB (fun t : Tm => t) hs (by omega) fun t x H1 mt e hx => ?_)) ?_) q
  · have mt' := (srt_perm ts).mem_iff.mp mt
    have xv : KeyV t.1 H1 x := hx
    have gv := fun (j : Nat) => er_dget (A := RatV K) (l := ts) (k := t.1) (a := t.2) (er_var (A := RdV (RatV K)) (a := ts) (σ := [some v, some x]) 0 rfl (dic_rd (Mo.mo e ha))) (er_var (A := KeyV) (a := t.1) (σ := [some v, some x]) 1 rfl xv) (getL_mem hk.nd mt')
    exact turn_name rfl (et_test (er_neR (gv 0) (er_c (A := RatV K) (T.noughtR H1)))) fun _ => er_tupPair (er_var (A := KeyV) 1 rfl xv) (gv 0)
  · rw [List.map_id']; rfl
end
end K18

set_option Elab.async false
set_option linter.all false
set_option maxRecDepth 100000
set_option maxHeartbeats 4000000
/-! The program's defs of polys: sums, values. -/
namespace K18
open PySem PySem.Spec PyProof.Rows L2 RZ
section
variable {P : Program} {w : World} {K : PySem.W.Frag} {mg : Str → Option Value} {base : Heap} {k : Nat} (T : Txt K mg)
include T
/-- puts one ratio more into the dict -/
def SpPutMore (K : PySem.W.Frag) : Sp := fun vs H Q _ => ∃ (a : Addr) (kvs : List (List Key × V)) (l : List Tm) (ks : List Int) (r : Rt) (x y : V), vs = [.ref a, x, y] ∧ H a = some (.dT kvs) ∧ Ent (RatV K) H kvs l ∧ KeyV ks H x ∧ RatV K r H y ∧ l.length ≤ 1000 ∧ Two ((getL l ks).getD (0, 1)) r ∧
  ∀ H1 kvs', Same H H1 → Ent (RatV K) (upd H1 a (.dT kvs')) kvs' (putL l ks (addR ((getL l ks).getD (0, 1)) r)) → Q .non (upd H1 a (.dT kvs'))
theorem sc_put_more : FnScope ["sums", "exponents", "ratio"] ["sums", "exponents", "ratio"] (defScope s_put_more) := ⟨rfl, rfl, rfl, by decide +kernel, rfl, by decide +kernel, by decide +kernel⟩
theorem ok_put_more (F_add_ratios : Fd P w K mg base 2 "add_ratios" ["one", "other"] (SpRR K addR)) : Fd P w K mg base 3 "put_more" ["sums", "exponents", "ratio"] (SpPutMore K) := by
  refine mkFd T.t_put_more (sc_put_more T) (fun _ _ _ _ _ _ us hl => match us, hl with | [_, _, _], _ => rfl) (fun vs H Q E h => by obtain ⟨_, _, _, _, _, _, _, rfl, _⟩ := h; rfl) (fun cdv A outer s H vs Q E hr h => ?_)
  obtain ⟨a, kvs, l, ks, r, x, y, rfl, hd, he, hx, hy, hz, h2, q⟩ := h
  refine ⟨_, (pss_one (ps_dput (hu_of hr) (pv 0) (pv 1) (pe_f F_add_ratios (hr.mono (by omega)) rfl (pa_cons (pe_dget2 (hu_of hr) (pv 0) (pv 1) (pe_glob (v := .ref (He.ga K "NOUGHT")) rfl T.nought rfl) ⟨rfl, rfl, rfl, rfl⟩) (pa_cons (pv 2) pa_nil))) rfl)), ?_⟩
  have dv := er_var (A := RdV (RatV K)) (a := l) (σ := start ["sums", "exponents", "ratio"] [.ref a, x, y]) 0 rfl ⟨a, kvs, rfl, .inl hd, he⟩
  refine er_call2 (A := RatV K) (B := RatV K) (er_dget2 dv (er_var (A := KeyV) (a := ks) 1 rfl hx) (er_c (A := RatV K) (T.noughtR H))) (er_var (A := RatV K) (a := r) 2 rfl hy) h2 H (Same.refl _) _ fun v H1 e hv => ?_
  obtain ⟨b, rfl, hb⟩ := key_at (Mo.mo e hx)
  have hl := Paired.length he
  refine ⟨_, rfl, _, rfl, a, _, rfl, DPut.t (e _ _ hd) hb (sz_lt (by omega)), q H1 _ e ?_⟩
  exact Ent.tu (TM.dT (e _ _ hd)) (ent_put (Ent.tu (TM.same e) he) ks hv)
abbrev SpDegree (K : PySem.W.Frag) : Sp := Pr1 (PolyV K) IntV (fun ts => ts.length ≤ 1000) (fun ts => maxL (ts.map (fun t => t.1.sum) ++ [0]))
theorem sc_degree_of : FnScope ["poly", "exponents", "ratio"] ["poly"] (defScope s_degree_of) := ⟨rfl, rfl, rfl, by decide +kernel, rfl, by decide +kernel, by decide +kernel⟩
theorem ok_degree_of : Fd P w K mg base 1 "degree_of" ["poly"] (SpDegree K) := by
  refine mkFd T.t_degree_of (sc_degree_of T) (fun _ _ _ _ _ _ us hl => match us, hl with | [_], _ => rfl) len1 (fun cdv A outer s H vs Q E hr h => ?_)
  obtain ⟨ts, v, rfl, ha, hz, q⟩ := h
  refine ⟨_, (pss_one (ps_ret (pe_callB (cr_max rfl) rfl T.f_max bt_max (pa_cons (pe_op op_cat (pe_lc (own := [("exponents", 1), ("ratio", 2)]) rfl (sc_degree_of T).nd (pi_tup (pv 0)) (blkOk_by (own := [("exponents", 1), ("ratio", 2)]) (N := ["poly", "exponents", "ratio"]) (sc := defScope s_degree_of) (by decide +kernel)) (fun _ _ _ _ _ => (pg_tupK (K := K) (n := 2) rfl rfl (pgs_cons (pg_name (i := 1) (sc_degree_of T).nd rfl (Or.inl rfl)) (pgs_cons (pg_name (i := 2) (sc_degree_of T).nd rfl (Or.inl rfl)) pgs_nil)))) (fun _ _ _ _ _ => pts_nil) (fun _ _ _ _ _ => (pe_callB (r := rSumT K) (cr_sumT rfl) rfl T.f_sum bt_sum (pa_cons (pv 1) pa_nil)))) (pe_lst (pa_cons pe_int pa_nil))) pa_nil)))), ?_⟩
  have av := er_var (A := PolyV K) (a := ts) (σ := start ["poly", "exponents", "ratio"] [v]) 0 rfl ha
  refine s_ret (er_max (er_catL (A := IntV) ((er_lcT (A := TermV K) (B := IntV) (fun _ => true) (fun t : Tm => t.1.sum) av (by omega) fun t x H1 mt e hx => by
    obtain ⟨p, y, z, rfl, hs, hy, hz⟩ := hx
    exact turn_pair hs rfl et_yes fun _ => er_sumKey (er_var (A := KeyV) 1 rfl hy)).eq (by rw [filter_yes])) (er_lst1 er_int) (by rw [List.length_map]; simp; omega)) (by simp)) q
abbrev SpWantFew (K : PySem.W.Frag) : Sp := Pr1 (PolyV K) (PolyV K) (fun ts => ts.length ≤ 60 ∧ degB ts = true) (fun ts => ts)
theorem sc_want_few : FnScope ["poly"] ["poly"] (defScope s_want_few) := ⟨rfl, rfl, rfl, by decide +kernel, rfl, by decide +kernel, by decide +kernel⟩
theorem ok_want_few (F_want_at_most : Fd P w K mg base 1 "want_at_most" ["what", "limit", "number"] SpWantAtMost) (F_degree_of : Fd P w K mg base 1 "degree_of" ["poly"] (SpDegree K)) : Fd P w K mg base 2 "want_few" ["poly"] (SpWantFew K) := by
  refine mkFd T.t_want_few (sc_want_few T) (fun _ _ _ _ _ _ us hl => match us, hl with | [_], _ => rfl) len1 (fun cdv A outer s H vs Q E hr h => ?_)
  obtain ⟨ts, v, rfl, ha, ⟨h60, hd⟩, q⟩ := h
  obtain ⟨tk, hc_MOST_DEGREE⟩ := T.c_MOST_DEGREE
  obtain ⟨tk2, hc_MOST_TERMS⟩ := T.c_MOST_TERMS
  refine ⟨_, (pss_cons (ps_expr (pe_f F_want_at_most (hr.mono (by omega)) rfl (pa_cons pe_str (pa_cons (pe_glob (v := .int 8) rfl hc_MOST_DEGREE ⟨_, rfl⟩) (pa_cons (pe_f F_degree_of (hr.mono (by omega)) rfl (pa_cons (pv 0) pa_nil)) pa_nil))))) (pss_cons (ps_expr (pe_f F_want_at_most (hr.mono (by omega)) rfl (pa_cons pe_str (pa_cons (pe_glob (v := .int 60) rfl hc_MOST_TERMS ⟨_, rfl⟩) (pa_cons (pe_callB call_len_seq rfl T.f_len bt_len (pa_cons (pv 0) pa_nil)) pa_nil))))) (pss_one (ps_ret (pv 0))))), ?_⟩
  refine s_drop (er_call3 (A := AnyV) (a := ()) (B := IntV) (C := IntV) (er_c trivial) er_int (er_call1 (A := PolyV K) (er_var 0 rfl ha) (by show ts.length ≤ 1000; omega)) ((deg_max ts).mpr hd)) fun _ H1 e1 _ => ?_
  refine s_drop (er_call3 (A := AnyV) (a := ()) (B := IntV) (C := IntV) (er_c trivial) er_int (er_lenT (A := TermV K) (l := ts) (er_var 0 rfl (Mo.mo e1 ha))) (by omega)) fun _ H2 e2 _ => ?_
  exact s_ret (er_var (A := PolyV K) (a := ts) 0 rfl (Mo.mo (e1.trans e2) ha)) fun r H3 e3 hr => q r H3 ((e1.trans e2).trans e3) hr
abbrev SpValueOf (K : PySem.W.Frag) : Sp := Pr2 (PolyV K) (TupV K (RatV K)) (RatV K) VOk (fun ts pt => sumV prodV pt (0, 1) ts)
theorem sc_value_of : FnScope ["poly", "point", "found", "exponents", "ratio", "product", "often", "number"] ["poly", "point"] (defScope s_value_of) := ⟨rfl, rfl, rfl, by decide +kernel, rfl, by decide +kernel, by decide +kernel⟩
theorem ok_value_of (F_add_ratios : Fd P w K mg base 2 "add_ratios" ["one", "other"] (SpRR K addR)) (F_mul_ratios : Fd P w K mg base 2 "mul_ratios" ["one", "other"] (SpRR K mulR)) (F_power_ratio : Fd P w K mg base 3 "power_ratio" ["ratio", "many"] (SpPower K)) : Fd P w K mg base 4 "value_of" ["poly", "point"] (SpValueOf K) := by
  refine mkFd T.t_value_of (sc_value_of T) (fun _ _ _ _ _ _ us hl => match us, hl with | [_, _], _ => rfl) len2 (fun cdv A outer s H vs Q E hr h => ?_)
  obtain ⟨ts, pt, v, vp, rfl, ha, hp, hok, q⟩ := h
  refine ⟨_, (pss_cons (ps_set (i := 2) (sc_value_of T).nd rfl (Or.inl rfl) (pe_glob (v := .ref (He.ga K "NOUGHT")) rfl T.nought rfl)) (pss_cons (ps_for PassesOwn.never rfl (pi_tup (pv 0)) (pg_tup rfl (pgs_cons (pg_name (i := 3) (sc_value_of T).nd rfl (Or.inl rfl)) (pgs_cons (pg_name (i := 4) (sc_value_of T).nd rfl (Or.inl rfl)) pgs_nil))) (pss_cons (ps_set (i := 5) (sc_value_of T).nd rfl (Or.inl rfl) (pv 4)) (pss_cons (ps_for PassesOwn.never rfl (RZ.pi_zipA rfl T.f_zip (pa_cons (pv 3) (pa_cons (pv 1) pa_nil))) (pg_tup rfl (pgs_cons (pg_name (i := 6) (sc_value_of T).nd rfl (Or.inl rfl)) (pgs_cons (pg_name (i := 7) (sc_value_of T).nd rfl (Or.inl rfl)) pgs_nil))) (pss_one (ps_if (pt_cmpR op_gt (pv 6) pe_int (nomark _)) (pss_one (ps_set (i := 5) (sc_value_of T).nd rfl (Or.inl rfl) (pe_f F_mul_ratios (hr.mono (by omega)) rfl (pa_cons (pv 5) (pa_cons (pe_f F_power_ratio (hr.mono (by omega)) rfl (pa_cons (pv 7) (pa_cons (pv 6) pa_nil))) pa_nil))))) pss_nil))) (pss_one (ps_set (i := 2) (sc_value_of T).nd rfl (Or.inl rfl) (pe_f F_add_ratios (hr.mono (by omega)) rfl (pa_cons (pv 2) (pa_cons (pv 5) pa_nil)))))))) (pss_one (ps_ret (pv 2))))), ?_⟩
  refine s_set 2 (er_c (A := RatV K) (T.noughtR H)) fun v2 H1 e1 h2 => ?_
  refine s_forT (A := TermV K) (l := ts) (er_var 0 rfl (Mo.mo e1 ha)) fun _ H2 e2 _ => ⟨fun i σ' H' => ∃ f x3 x4 x5 x6 x7, σ' = [some v, some vp, some f, x3, x4, x5, x6, x7] ∧ Same H H' ∧ Same H2 H' ∧ RatV K (sumV prodV pt (0, 1) (ts.take i)) H' f, ⟨v2, none, none, none, none, none, rfl, e1.trans e2, Same.refl _, Mo.mo e2 h2⟩, fun i σ' H' p => ?_, fun i x σ' H' H'' p sm ix => ?_, fun σ' H' p => ?_⟩
  · obtain ⟨_, _, _, _, _, _, _, _, e, _⟩ := p; exact TM.same e
  · obtain ⟨f, x3, x4, x5, x6, x7, rfl, e3, e3', hf⟩ := p
    obtain ⟨t, ht, hx⟩ := ix
    have mt := List.mem_of_getElem? ht
    obtain ⟨b, xe, xr, rfl, hs, hxe, hxr⟩ := hx
    refine ⟨b, _, rfl, hs, rfl, xe, [xr], rfl, xr, [], rfl, rfl, ?_⟩
    obtain ⟨zl, zp⟩ := hok.zip mt
    refine s_set 5 (er_var (A := RatV K) (a := t.2) 4 rfl hxr) fun v5 H3 e4 h5 => ?_
    have E4 := (e3.trans sm).trans e4
    refine s_forZ (A := IntV) (B := RatV K) (l := t.1) (m := pt) ((er_var (A := KeyV) (a := t.1) 3 rfl (Mo.mo e4 hxe)).imp fun _ _ z => key_tup z) (er_var (A := TupV K (RatV K)) (a := pt) 1 rfl (Mo.mo E4 hp)) fun H4 e5 => ⟨fun j σ' H' => ∃ pr x6 x7, σ' = [some v, some vp, some f, some xe, some xr, some pr, x6, x7] ∧ Same H4 H' ∧ RatV K (prodV t.2 ((t.1.zip pt).take j)) H' pr, ⟨v5, x6, x7, rfl, Same.refl _, Mo.mo e5 h5⟩, fun j σ' H' p => ?_, fun j x σ' H' H'' p sm2 ix => ?_, fun σ' H' p => ?_⟩
    · obtain ⟨_, _, _, _, e, _⟩ := p; exact TM.same e
    · obtain ⟨pr, x6, x7, rfl, e6, hpr⟩ := p
      obtain ⟨z, hz, hx⟩ := ix
      have mz := List.mem_of_getElem? hz
      obtain ⟨z0, z4, zs⟩ := zp z mz
      obtain ⟨c, xo, xn, rfl, hs2, hxo, hxn⟩ := hx
      refine ⟨c, _, rfl, hs2, rfl, xo, [xn], rfl, xn, [], rfl, rfl, ?_⟩
      have hpr := Mo.mo sm2 hpr
      have zsz : SzR 100 (prodV t.2 ((t.1.zip pt).take j)) := (prodV_sz (hok.sz t mt) fun p mp => zp p (List.mem_of_mem_take mp)).mono (by rw [List.length_take]; omega)
      refine s_when1 (b := decide (0 < z.1)) (et_test (er_IB (er_var (A := IntV) (a := z.1) 6 rfl hxo) er_int)) (fun g H5 e7 => ?_) (fun g H5 e7 => ?_)
      · have g : 0 < z.1 := of_decide_eq_true g
        refine s_set1 5 (er_call2 (A := RatV K) (B := RatV K) (er_var (A := RatV K) 5 rfl (Mo.mo e7 hpr)) (er_call2 (A := RatV K) (B := IntV) (er_var (A := RatV K) (a := z.2) 7 rfl (Mo.mo e7 hxn)) (er_var (A := IntV) (a := z.1) 6 rfl (Mo.mo e7 hxo)) ⟨z0, by omega, zs.mono (by omega)⟩) (two_of T (m := 100) (n := 40) zsz ((powR_sz zs _).mono (by omega)) (by omega) (by omega) (by omega))) fun v6 H6 e8 h6 => ⟨v6, _, _, rfl, (e6.trans sm2).trans (e7.trans e8), ?_⟩
        rw [take_snoc hz, prodV_snoc, if_pos g]
        exact h6
      · have g : ¬ 0 < z.1 := of_decide_eq_false g
        refine ⟨pr, _, _, rfl, (e6.trans sm2).trans e7, ?_⟩
        rw [take_snoc hz, prodV_snoc, if_neg g]
        exact Mo.mo e7 hpr
    · obtain ⟨pr, x6, x7, rfl, e6, hpr⟩ := p
      rw [List.take_of_length_le (Nat.le_refl _)] at hpr
      have E5 : Same H'' H' := e4.trans (e5.trans e6)
      have sz1 : SzR 700 (sumV prodV pt (0, 1) (ts.take i)) := (sumV_sz (szR01 (m := 1) (by omega)) fun u mu => hok.gV (List.mem_of_mem_take mu)).mono (by rw [List.length_take]; have := hok.len; omega)
      refine s_set1 2 (er_call2 (A := RatV K) (B := RatV K) (er_var (A := RatV K) 2 rfl (Mo.mo (sm.trans E5) hf)) (er_var (A := RatV K) 5 rfl hpr) (two_of T (m := 700) (n := 100) sz1 (hok.gV mt) (by omega) (by omega) (by omega))) fun v7 H7 e7 h7 => ⟨v7, _, _, _, _, _, rfl, (e3.trans sm).trans (E5.trans e7), (e3'.trans sm).trans (E5.trans e7), ?_⟩
      rw [take_snoc ht, sumV_snoc]
      exact h7
  · obtain ⟨f, x3, x4, x5, x6, x7, rfl, e3, e3', hf⟩ := p
    rw [List.take_of_length_le (Nat.le_refl _)] at hf
    exact s_ret (er_var (A := RatV K) 2 rfl hf) fun r H4 e4 hr => q r H4 (e3.trans e4) hr
abbrev SpValueAt (K : PySem.W.Frag) : Sp := Pr2 (PolyV K) (TupV K (RatV K)) (RatV K) (fun ts pt => VOk ts pt ∧ ts ≠ [] ∧ ∃ l : Nat, 1 ≤ l ∧ l ≤ 8 ∧ PolyOk l ts ∧ ts.length ≤ 60 ∧ degB ts = true ∧ pt.length = l ∧ ∀ r ∈ pt, NormR r) (fun ts pt => sumV prodV pt (0, 1) ts)
theorem sc_value_at : FnScope ["poly", "point"] ["poly", "point"] (defScope s_value_at) := ⟨rfl, rfl, rfl, by decide +kernel, rfl, by decide +kernel, by decide +kernel⟩
theorem ok_value_at (F_want_poly : Fd P w K mg base 6 "want_poly" ["value"] (SpWantPoly K)) (F_letters_of : Fd P w K mg base 1 "letters_of" ["poly"] (SpLettersOf K)) (F_want_point_for : Fd P w K mg base 4 "want_point_for" ["many", "value"] (SpWantPoint K)) (F_value_of : Fd P w K mg base 4 "value_of" ["poly", "point"] (SpValueOf K)) : Fd P w K mg base 7 "value_at" ["poly", "point"] (SpValueAt K) := by
  refine mkFd T.t_value_at (sc_value_at T) (fun _ _ _ _ _ _ us hl => match us, hl with | [_, _], _ => rfl) len2 (fun cdv A outer s H vs Q E hr h => ?_)
  obtain ⟨ts, pt, v, vp, rfl, ha, hp, ⟨hok, hne, l, h1, h8, po, h60, hd, hl, hn⟩, q⟩ := h
  refine ⟨_, (pss_cons (ps_expr (pe_f F_want_poly (hr.mono (by omega)) rfl (pa_cons (pv 0) pa_nil))) (pss_cons (ps_expr (pe_f F_want_point_for (hr.mono (by omega)) rfl (pa_cons (pe_f F_letters_of (hr.mono (by omega)) rfl (pa_cons (pv 0) pa_nil)) (pa_cons (pv 1) pa_nil)))) (pss_one (ps_ret (pe_f F_value_of (hr.mono (by omega)) rfl (pa_cons (pv 0) (pa_cons (pv 1) pa_nil))))))), ?_⟩
  refine s_drop (er_call1 (A := PolyV K) (a := ts) (B := NonV) (er_var 0 rfl ha) ⟨hne, l, h1, h8, po, h60, hd⟩) fun _ H1 e1 _ => ?_
  refine s_drop (er_call2 (A := IntV) (B := TupV K (RatV K)) (b := pt) (C := NonV) (er_call1 (A := PolyV K) (a := ts) (er_var 0 rfl (Mo.mo e1 ha)) hne) (er_var 1 rfl (Mo.mo e1 hp)) ⟨?_, by omega, by omega, hn⟩) fun _ H2 e2 _ => ?_
  · obtain ⟨t, us, rfl⟩ : ∃ t us, ts = t :: us := by cases ts with | nil => exact absurd rfl hne | cons t us => exact ⟨t, us, rfl⟩
    rw [List.headD_cons, po.keys.len t List.mem_cons_self, hl]
  · exact s_ret (er_call2 (A := PolyV K) (B := TupV K (RatV K)) (er_var 0 rfl (Mo.mo (e1.trans e2) ha)) (er_var 1 rfl (Mo.mo (e1.trans e2) hp)) hok) fun r H3 e3 hr => q r H3 ((e1.trans e2).trans e3) hr
end
end K18

set_option Elab.async false
set_option linter.all false
set_option maxRecDepth 100000
set_option maxHeartbeats 4000000
/-! poly_of; the nested form of terms. -/
namespace K18
open PySem PySem.Spec PyProof.Rows L2 RZ
section
variable {K : PySem.W.Frag} {σ : L2.St} {H : Hp} {ta tb tc te tl : TE} {α β : Type} {A : Rel α} {B : Rel β}
theorem putL_keys {ts : List Tm} {i : Nat} {t : Tm} (nd : (ts.map (·.1)).Nodup) (h : ts[i]? = some t) : t.1 ∉ (ts.take i).map (·.1) := by
  intro m
  obtain ⟨u, mu, e⟩ := List.mem_map.mp m
  have hs : ts.take i ++ [t] <+: ts := by rw [← take_snoc h]; exact List.take_prefix _ _
  have := (hs.sublist.map (·.1)).nodup nd
  rw [List.map_append, List.nodup_append] at this
  exact this.2.2 u.1 (List.mem_map.mpr ⟨u, mu, rfl⟩) t.1 (by simp) e
/-- a new list: H did not know it -/
theorem er_lst0F (H0 : Hp) (e0 : Same H0 H) : ER (tLst tNil) σ H (fun H' v => ∃ f, v = .ref f ∧ H' f = some (.lst []) ∧ H0 f = none) := fun H1 e Q q =>
  ⟨(by show 0 ≤ sizeLine; decide), fun p hp => q _ _ (same_new hp) ⟨p, rfl, upd_same, (e0.trans e).free hp⟩⟩
theorem er_dnewF (H0 : Hp) (e0 : Same H0 H) : ER tDNewT σ H (fun H' v => ∃ f, v = .ref f ∧ H' f = some (.dT []) ∧ H0 f = none) := fun H1 e Q q p hp => q _ _ (same_new hp) ⟨p, rfl, upd_same, (e0.trans e).free hp⟩
theorem lst_dat {l : List α} {f : α → PyData} {v : V} (hf : ∀ a v, A a H v → DatV K (f a) H v) (h : LstV A l H v) : DatV K (.list (l.map f)) H v := by
  obtain ⟨a, xs, rfl, h, h2⟩ := h
  exact .lst (SqL.of h) (dpAll_iff.mpr (all2_imp hf h2))
theorem eqv_nilL (ds : List PyData) : PyData.eqv (.list ds) (.list []) = ds.isEmpty := by
  cases ds with
  | nil => rfl
  | cons d ds => simp [PyData.eqv, PyData.eqvAll]
theorem shaped_list {ds : List PyData} (h : ∀ d ∈ ds, PyData.canLay0 d = true ∧ PyData.depth d ≤ 60) : SeqAt.shaped (.list ds) = true := by
  refine shaped_of ?_ ?_
  · rw [PyData.canLay0]; exact canLay_all fun d m => (h d m).1
  · rw [PyData.depth]; have := depth_all fun d m => (h d m).2; omega
theorem er_neNil {l : List α} {f : α → PyData} [Mo A] (hf : ∀ H a v, A a H v → DatV K (f a) H v) (hs : ∀ a ∈ l, PyData.canLay0 (f a) = true ∧ PyData.depth (f a) ≤ 60) (ha : ER ta σ H (LstV A l)) : ER (tOp (rNeD K) ta (tLst tNil)) σ H (BoolV (!l.isEmpty)) :=
  (er_neD (ha.imp fun H1 _ z => lst_dat (hf H1) z) (er_lst0 (A := A) |>.imp fun H1 _ z => lst_dat (hf H1) z) (shaped_list fun d m => by obtain ⟨a, ma, rfl⟩ := List.mem_map.mp m; exact hs a ma) (shaped_list fun d m => by cases m)).eq (by rw [List.map_nil, eqv_nilL, List.isEmpty_map])
theorem er_ixL {l : List α} {a : α} (i : Nat) (ha : ER ta σ H (LstV A l)) (h : l[i]? = some a) : ER (tOp (rIxL K) ta (tC (.int (i : Int)))) σ H (A a) := fun H1 e Q q =>
  ha H1 e _ fun x H2 e2 hx => let ⟨p, xs, ex, hp, g⟩ := hx
    let ⟨y, hy, hd⟩ := paired_ix g h
    ⟨p, xs, i, _, ex, rfl, SqL.of hp, atI_nat hy, q _ H2 e2 hd⟩
end
section
variable {X : Cx} {p1 p2 pos : Pos} {e : Expr} {te : TE}
theorem pe_isLT {kk : Nat} {q1 q2 q3 : Pos} (mi : X.mg "isinstance" = none) (gi : Gl X "isinstance") (he : PE X e te) (g1 : Gl X "list") (m1 : X.mg "list" = none) (g2 : Gl X "tuple") (m2 : X.mg "tuple" = none)
    (h1 : starEach [e, .Tuple [.Name "list" q1, .Name "tuple" q2] kk q3] X.env = (false, eval e X.env) :: starEach [.Tuple [.Name "list" q1, .Name "tuple" q2] kk q3] X.env := by rfl) (h2 : starEach [.Tuple [.Name "list" q1, .Name "tuple" q2] kk q3] X.env = (false, eval (.Tuple [.Name "list" q1, .Name "tuple" q2] kk q3) X.env) :: starEach [] X.env := by rfl) (h3 : (backTo pos (starEach [.Tuple [.Name "list" q1, .Name "tuple" q2] kk q3] X.env)).any (·.1) = false := by rfl) :
    PE X (.Call (.Name "isinstance" p1) [e, .Tuple [.Name "list" q1, .Name "tuple" q2] kk q3] [] pos) (tCB (rIsiT X.K) (tCons te (tCons (tTup (tCons (tC (.ty "list")) (tCons (tC (.ty "tuple")) tNil))) tNil))) :=
  pe_callB call_isiT gi mi bt_isinstance (pa_cons he (pa_cons (pe_tup (pa_cons (pe_bltn (v := .ty "list") g1 m1 bt_list rfl (by decide) (by decide)) (pa_cons (pe_bltn (v := .ty "tuple") g2 m2 bt_tuple rfl (by decide) (by decide)) pa_nil))) pa_nil h2) h1) (by decide) (by decide) h1 h3
end
section
variable {P : Program} {w : World} {K : PySem.W.Frag} {mg : Str → Option Value} {base : Heap} {k : Nat} (T : Txt K mg)
include T
abbrev SpIsList (K : PySem.W.Frag) : Sp := Pr1 (LstV (TermV K)) BoolV (fun _ => True) (fun _ => true)
theorem sc_is_list : FnScope ["value"] ["value"] (defScope s_is_list) := ⟨rfl, rfl, rfl, by decide +kernel, rfl, by decide +kernel, by decide +kernel⟩
theorem ok_is_list : Fd P w K mg base 1 "is_list" ["value"] (SpIsList K) := by
  refine mkFd T.t_is_list (sc_is_list T) (fun _ _ _ _ _ _ us hl => match us, hl with | [_], _ => rfl) len1 (fun cdv A outer s H vs Q E hr h => ?_)
  obtain ⟨ts, v, rfl, ha, _, q⟩ := h
  refine ⟨_, pss_one (ps_ret (pe_isLT T.f_isinstance rfl (pv 0) rfl T.f_list rfl T.f_tuple)), ?_⟩
  refine ⟨v, rfl, sz_of (by decide), fun p hp => ?_⟩
  obtain ⟨a, xs, rfl, h, h2⟩ := (Mo.mo (same_new hp) ha : LstV (TermV K) ts _ v)
  refine ⟨.ref a, p, [.ty "list", .ty "tuple"], .type "list", [.type "list", .type "tuple"], true, rfl, upd_same, .cons (.ty _) (.cons (.ty _) .nil), tyX_lst (SqL.of h), ?_, q _ _ (same_new hp) rfl⟩
  exact kitAny_cons (b := true) (kit_ty (by decide +kernel)) (fun z => nomatch z) (fun _ => rfl)
abbrev SpPolyOf (K : PySem.W.Frag) : Sp := Pr2 IntV (LstV (TermV K)) (PolyV K) (fun m ts => ∃ l : Nat, m = (l : Int) ∧ 1 ≤ l ∧ l ≤ 8 ∧ PolyOk l ts ∧ ts.length ≤ 60 ∧ degB ts = true ∧ ∀ t ∈ ts, SzR 40 t.2) (fun _ ts => ts)
theorem sc_poly_of : FnScope ["many", "terms", "one", "sums", "exponents", "ratio"] ["many", "terms"] (defScope s_poly_of) := ⟨rfl, rfl, rfl, by decide +kernel, rfl, by decide +kernel, by decide +kernel⟩
theorem ok_poly_of (F_want_letters_many : Fd P w K mg base 4 "want_letters_many" ["value"] SpWantLetters) (F_is_list : Fd P w K mg base 1 "is_list" ["value"] (SpIsList K)) (F_is_term : Fd P w K mg base 3 "is_term" ["many", "value"] (SpIsTerm K)) (F_put_more : Fd P w K mg base 3 "put_more" ["sums", "exponents", "ratio"] (SpPutMore K)) (F_want_few : Fd P w K mg base 2 "want_few" ["poly"] (SpWantFew K)) (F_told_poly : Fd P w K mg base 1 "told_poly" ["sums"] (SpTold K)) :
    Fd P w K mg base 5 "poly_of" ["many", "terms"] (SpPolyOf K) := by
  refine mkFd T.t_poly_of (sc_poly_of T) (fun _ _ _ _ _ _ us hl => match us, hl with | [_, _], _ => rfl) len2 (fun cdv A outer s H vs Q E hr h => ?_)
  obtain ⟨m, ts, v0, v, rfl, hm, ha, ⟨l, rfl, h1, h8, po, h60, hd, hsz⟩, q⟩ := h
  obtain ⟨tk, hc_MOST_PASSED⟩ := T.c_MOST_PASSED
  refine ⟨_, (pss_cons (ps_expr (pe_f F_want_letters_many (hr.mono (by omega)) rfl (pa_cons (pv 0) pa_nil))) (pss_cons (ps_if (PW.pt (pw_or (pt_not (pt_val (pe_f F_is_list (hr.mono (by omega)) rfl (pa_cons (pv 1) pa_nil)))) (pw_or (pt_cmpR op_gt (pe_callB call_len_seq rfl T.f_len bt_len (pa_cons (pv 1) pa_nil)) (pe_glob (v := .int 200) rfl hc_MOST_PASSED ⟨_, rfl⟩) (nomark _)) (pw_or1 (pt_not (pt_val (pe_callB (cr_all rfl) rfl T.f_all bt_all (pa_cons (pe_lc (own := [("one", 2)]) rfl (sc_poly_of T).nd (pi_list (pv 1)) (blkOk_by (own := [("one", 2)]) (N := ["many", "terms", "one", "sums", "exponents", "ratio"]) (sc := defScope s_poly_of) (by decide +kernel)) (fun _ _ _ _ _ => (pg_name (i := 2) (sc_poly_of T).nd rfl (Or.inl rfl))) (fun _ _ _ _ _ => pts_nil) (fun _ _ _ _ _ => (pe_f F_is_term (hr.mono (by omega)) rfl (pa_cons (pv 0) (pa_cons (pv 2) pa_nil))))) pa_nil)))))))) (pss_one ps_never) pss_nil) (pss_cons (ps_set (i := 3) (sc_poly_of T).nd rfl (Or.inl rfl) pe_dnewT) (pss_cons (ps_for PassesOwn.never rfl (pi_list (pv 1)) (pg_tup rfl (pgs_cons (pg_name (i := 4) (sc_poly_of T).nd rfl (Or.inl rfl)) (pgs_cons (pg_name (i := 5) (sc_poly_of T).nd rfl (Or.inl rfl)) pgs_nil))) (pss_one (ps_expr (pe_f F_put_more (hr.mono (by omega)) rfl (pa_cons (pv 3) (pa_cons (pv 4) (pa_cons (pv 5) pa_nil))))))) (pss_one (ps_ret (pe_f F_want_few (hr.mono (by omega)) rfl (pa_cons (pe_f F_told_poly (hr.mono (by omega)) rfl (pa_cons (pv 3) pa_nil)) pa_nil)))))))), ?_⟩
  refine s_drop (er_call1 (A := IntV) (B := NonV) (er_var 0 rfl hm) ⟨by omega, by omega⟩) fun _ H1 e1 _ => ?_
  have av := er_var (A := LstV (TermV K)) (a := ts) (σ := start ["many", "terms", "one", "sums", "exponents", "ratio"] [v0, v]) 1 rfl (Mo.mo e1 ha)
  refine s_when (b := false) (ET.eq (et_or (et_not (et_B (er_call1 (A := LstV (TermV K)) av trivial))) fun _ => et_or (et_test (er_IB (er_lenL av) er_int)) fun _ => et_not (et_B (er_all (er_lcL (A := TermV K) (B := BoolV) (fun _ => true) (fun t : Tm => decide (t.1.sum ≤ 8)) av (by omega) fun t y H2 mt e ht =>
    turn_name rfl et_yes fun _ => er_call2 (A := IntV) (a := (l : Int)) (B := TermV K) (b := t) (er_var 0 rfl (Mo.mo e hm)) (er_var 2 rfl ht) ⟨by rw [po.keys.len t mt], by rw [po.keys.len t mt]; omega, po.nn mt, po.norm t mt⟩)))) (by
      rw [filter_yes, all_map_mem fun t m => List.all_eq_true.mp hd t m]
      simp
      omega)) (fun z => nomatch z) fun _ H2 e2 => ?_
  refine s_set 3 (er_dnewF H2 (Same.refl _)) fun v3 H3 e3 hv3 => ?_
  obtain ⟨d, rfl, hd3, hdn⟩ := hv3
  refine s_forL (A := TermV K) (l := ts) (er_var 1 rfl (Mo.mo (e1.trans (e2.trans e3)) ha)) fun a xs H4 e4 ha4 hx4 => ?_
  have hda : a ≠ d := fun z => by rw [z, e4 _ _ hd3] at ha4; cases ha4
  refine ⟨fun i σ' H' => ∃ x4 x5 kvs, σ' = [some v0, some v, none, some (.ref d), x4, x5] ∧ H' d = some (.dT kvs) ∧ Ent (RatV K) H' kvs (ts.take i) ∧ Same H2 H' ∧ TM H4 H' ∧ H' a = some (.lst xs), ⟨none, none, [], rfl, e4 _ _ hd3, .nil, e3.trans e4, TM.refl _, ha4⟩, fun i σ' H' p => ?_, fun i x σ' H' p ix => ?_, fun σ' H' p => ?_⟩
  · obtain ⟨_, _, _, _, _, _, _, t, h⟩ := p; exact ⟨t, h⟩
  · obtain ⟨x4, x5, kvs, rfl, h1', h2', h3', h4', h5'⟩ := p
    obtain ⟨t, ht, hx⟩ := ix
    have mt := List.mem_of_getElem? ht
    obtain ⟨b, xe, xr, rfl, hs, hxe, hxr⟩ := hx
    have hg : getL (ts.take i) t.1 = none := getL_none (putL_keys po.keys.nd ht)
    refine ⟨b, _, rfl, hs, rfl, xe, [xr], rfl, xr, [], rfl, rfl, ⟨_, rfl, _, rfl, _, rfl, d, kvs, ts.take i, t.1, t.2, xe, xr, rfl, h1', h2', hxe, hxr, ?_, ?_, fun H5 kvs' e5 he => ?_⟩⟩
    · rw [List.length_take]; omega
    · rw [hg]; exact two_of T (m := 1) (n := 40) (szR01 (by omega)) (hsz t mt) (by omega) (by omega) (by omega)
    · rw [hg, putL_new (putL_keys po.keys.nd ht)] at he
      refine ⟨_, _, kvs', rfl, upd_same, ?_, same_mut (h3'.trans e5) hdn, (h4'.trans (TM.same e5)).trans (TM.dT (e5 _ _ h1')), by rw [upd_ne hda]; exact e5 _ _ h5'⟩
      rw [take_snoc ht]
      have e0 : addR ((none : Option Rt).getD (0, 1)) t.2 = t.2 := addR_zero (po.norm t mt)
      rw [e0] at he
      exact he
  · obtain ⟨x4, x5, kvs, rfl, h1', h2', h3', h4', h5'⟩ := p
    rw [List.take_of_length_le (Nat.le_refl _)] at h2'
    have td := po.told
    refine s_ret (er_call1 (A := PolyV K) (a := ts) (er_call1 (A := DicV (RatV K)) (a := ts) (B := PolyV K) (f := told) (er_var 3 rfl ⟨d, kvs, rfl, h1', h2'⟩) ⟨l, h1, po.keys, by omega⟩ |>.eq td) ⟨h60, hd⟩) fun r H6 e6 hr => q r H6 ((e1.trans e2).trans (h3'.trans e6)) hr
end
end K18

set_option Elab.async false
set_option linter.all false
set_option maxRecDepth 100000
set_option maxHeartbeats 4000000
/-! The nested form: from terms, to terms. -/
namespace K18
open PySem PySem.Spec PyProof.Rows L2 RZ
theorem TsOk.perm {l : Nat} {b : Int} {ts us : List Tm} (h : TsOk l b ts) (p : us.Perm ts) : TsOk l b us := ⟨h.keys.perm p, fun t m => h.exp t (p.mem_iff.mp m), fun t m => h.norm t (p.mem_iff.mp m)⟩
theorem flat_ts {l : Nat} {d : PyData} (h : formB l d = true) : TsOk l 8 (flat l d) := ⟨flat_keys h, fun t m x hx => by have := ((flat_len h t m).2.1 x hx).2; omega, fun t m => (flat_len h t m).2.2⟩
theorem TsOk.filter {l : Nat} {b : Int} {ts : List Tm} (h : TsOk l b ts) (f : Tm → Bool) : TsOk l b (ts.filter f) := ⟨h.keys.filter f, fun t m => h.exp t (List.mem_filter.mp m).1, fun t m => h.norm t (List.mem_filter.mp m).1⟩
theorem sizeP_ts {l : Nat} {d : PyData} (h : formB l d = true) : TsOk l 8 (sizeP l d) := (flat_ts h).filter _
theorem sizeP_ok {l : Nat} {d : PyData} (h : formB l d = true) (hz : (flat l d).length < 64) : PolyOk l (sizeP l d) :=
  ⟨(sizeP_ts h).keys, up_nz (flat_up h), fun t m => (mem_nz.mp m).2, (sizeP_ts h).norm, by have := List.length_filter_le nzB (flat l d); show (List.filter _ _).length ≤ _; omega⟩
theorem part_len (i : Int) (ts : List Tm) : (part i ts).length ≤ ts.length := by unfold part; rw [List.length_map]; exact List.length_filter_le _ _
theorem range_snoc {α : Type} (f : Nat → α) (i : Nat) : (List.range (i + 1)).map f = (List.range i).map f ++ [f i] := by rw [List.range_succ, List.map_append]; rfl
theorem flatA_snoc {f : PyData → List Tm} : ∀ {ds : List PyData} {n : Nat} {d : PyData}, flatA f n (ds ++ [d]) = flatA f n ds ++ (f d).map fun t => (((n + ds.length : Nat) : Int) :: t.1, t.2)
  | [], n, d => by simp [flatA]
  | e :: ds, n, d => by
    show _ ++ flatA f (n + 1) (ds ++ [d]) = _
    rw [flatA_snoc, ← List.append_assoc]
    congr 3
    rw [List.length_cons]
    funext t
    congr 3
    omega
theorem flatA_length {f : PyData → List Tm} {m : Nat} : ∀ {ds : List PyData} {n : Nat}, (∀ d ∈ ds, (f d).length ≤ m) → (flatA f n ds).length ≤ m * ds.length
  | [], n, _ => by simp [flatA]
  | e :: ds, n, h => by
    rw [flatA, List.length_append, List.length_map, List.length_cons, Nat.mul_succ]
    have h1 := h e List.mem_cons_self
    have h2 := flatA_length (ds := ds) (n := n + 1) fun d m => h d (List.mem_cons_of_mem _ m)
    omega
theorem flat_length : ∀ {l : Nat} {d : PyData}, formB l d = true → (flat l d).length ≤ 9 ^ l
  | 0, d, _ => by simp [flat]
  | l + 1, d, h => by
    obtain ⟨ds, rfl⟩ := form_succ h
    obtain ⟨_, h9, hf⟩ := form_tuple h
    rw [flat, Nat.pow_succ]
    exact Nat.le_trans (flatA_length fun d m => flat_length (hf d m)) (Nat.mul_le_mul_left _ h9)
theorem pow9 {l : Nat} (h : l ≤ 3) : 9 ^ l ≤ 729 := Nat.pow_le_pow_right (n := 9) (by decide) h
theorem tyV_lst {K : PySem.W.Frag} {H : Hp} {f : Addr} {xs : List V} (h : H f = some (.lst xs)) : tyV K "list" (.ref f) H := .inl ⟨rfl, xs, SqL.of h⟩
section
variable {P : Program} {w : World} {K : PySem.W.Frag} {mg : Str → Option Value} {base : Heap} {k : Nat} (T : Txt K mg)
include T
omit T in
theorem mkNever {x : Str} {st : Stmt} {ps : List Str} (T : (∃ fd, FnP K x st fd) ∧ mg x = some (.ref (He.ga K x)))
    (hb : ∀ (kV doc pm : Value) (an : Option Addr) (cdv ct : Value) (us : List Value), us.length = ps.length → bindArgs (PySem.W.fnOf x x (defArgs st) (defBody st) (defScope st) .none kV doc pm an cdv ct) ⟨us, []⟩ = pure (ps.zip us)) : Fd P w K mg base 0 x ps (fun _ _ _ _ => False) := by
  obtain ⟨⟨fd, F⟩, hm⟩ := T
  exact ⟨_, fd, ⟨fun _ _ _ _ z => z.elim, fun _ _ _ _ _ _ _ _ _ _ _ _ _ z => z.elim⟩, hm, F.kp, F.bindsN hb⟩
abbrev SpNF (K : PySem.W.Frag) (l : Nat) : Sp := Pr2 (LstV (TermV K)) IntV (PurV K) (fun ts left => left = (l : Int) ∧ TsOk l 8 ts ∧ ts.length ≤ 1000) (fun ts _ => nest l ts)
theorem sc_nested_from : FnScope ["terms", "left", "greatest", "found", "exponents", "ratio", "often", "some"] ["terms", "left"] (defScope s_nested_from) := ⟨rfl, rfl, rfl, by decide +kernel, rfl, by decide +kernel, by decide +kernel⟩
theorem nf_level (l : Nat) (spr : Sp) (F_nested_from : Fd P w K mg base l "nested_from" ["terms", "left"] spr) (hsp : ∀ l', l = l' + 1 → spr = SpNF K l') : Fd P w K mg base (l + 1) "nested_from" ["terms", "left"] (SpNF K l) := by
  refine mkFd T.t_nested_from (sc_nested_from T) (fun _ _ _ _ _ _ us hl => match us, hl with | [_, _], _ => rfl) len2 (fun cdv A outer s H vs Q E hr h => ?_)
  obtain ⟨ts, i, v, vi, rfl, ha, hi_, ⟨rfl, hok, hz⟩, q⟩ := h
  refine ⟨_, (pss_cons (ps_if (pt_cmpR op_eq (pv 1) pe_int (nomark _)) (pss_one (ps_ret (pe_ifExp (pt_cmpR (op_neD hr.units) (pv 0) (pe_lst pa_nil) (nomark _)) (pe_ix ix_tup (pe_ix ix_list (pv 0) pe_int (fun _ _ => rfl)) pe_int (fun _ _ => rfl)) (pe_glob (v := .ref (He.ga K "NOUGHT")) rfl T.nought rfl)))) pss_nil) (pss_cons (ps_par (i := 2) (j := 3) rfl (sc_nested_from T).nd rfl rfl (by decide) rfl rfl (pa_cons (pe_callB (cr_max rfl) rfl T.f_max bt_max (pa_cons (pe_op op_cat (pe_lst (pa_cons pe_int pa_nil)) (pe_lc (own := [("exponents", 4), ("ratio", 5)]) rfl (sc_nested_from T).nd (pi_list (pv 0)) (blkOk_by (own := [("exponents", 4), ("ratio", 5)]) (N := ["terms", "left", "greatest", "found", "exponents", "ratio", "often", "some"]) (sc := defScope s_nested_from) (by decide +kernel)) (fun _ _ _ _ _ => (pg_tupK (K := K) (n := 2) rfl rfl (pgs_cons (pg_name (i := 4) (sc_nested_from T).nd rfl (Or.inl rfl)) (pgs_cons (pg_name (i := 5) (sc_nested_from T).nd rfl (Or.inl rfl)) pgs_nil)))) (fun _ _ _ _ _ => pts_nil) (fun _ _ _ _ _ => (pe_ix (r := rIxT K) ix_tup (pv 4) pe_int (fun _ _ => rfl))))) pa_nil)) (pa_cons (pe_lst pa_nil) pa_nil)) rfl) (pss_cons (ps_for PassesOwn.never rfl (pi_range1 rfl T.f_range (pa_cons (pe_op op_add (pv 2) pe_int) pa_nil)) (pg_name (i := 6) (sc_nested_from T).nd rfl (Or.inr rfl)) (pss_cons (ps_setLc (i := 7) (own := [("exponents", 4), ("ratio", 5)]) rfl (sc_nested_from T).nd rfl rfl (sw_true rfl rfl rfl (by decide +kernel)) (pi_list (pv 0)) (blkOk_by (own := [("exponents", 4), ("ratio", 5)]) (N := ["terms", "left", "greatest", "found", "exponents", "ratio", "often", "some"]) (sc := defScope s_nested_from) (by decide +kernel)) (fun _ _ _ _ _ => (pg_tupK (K := K) (n := 2) rfl rfl (pgs_cons (pg_name (i := 4) (sc_nested_from T).nd rfl (Or.inl rfl)) (pgs_cons (pg_name (i := 5) (sc_nested_from T).nd rfl (Or.inl rfl)) pgs_nil)))) (fun _ _ _ _ _ => (pts_one (pt_cmpR op_eq (pe_ix (r := rIxT K) ix_tup (pv 4) pe_int (fun _ _ => rfl)) (pv 6) (nomark _)))) (fun _ _ _ _ _ => (pe_tup (pa_cons (pe_slice (r := rSlA K) sl_tupA (pv 4) (po_some pe_int) po_none) (pa_cons (pv 5) pa_nil))))) (pss_one (ps_expr (pe_bm PySem.F.plainAttrs_list PySem.F.slot_list_append PySem.F.type_list_append mt_append (pv 3) (pa_cons (pe_f F_nested_from (hr.mono (by omega)) rfl (pa_cons (pv 7) (pa_cons (pe_op op_sub (pv 1) pe_int) pa_nil))) pa_nil)))))) (pss_one (ps_ret (pe_tupleOf rfl T.f_tuple (pv 3))))))), ?_⟩
  have av := er_var (A := LstV (TermV K)) (a := ts) (σ := start ["terms", "left", "greatest", "found", "exponents", "ratio", "often", "some"] [v, vi]) 0 rfl ha
  have iv := er_var (A := IntV) (a := (l : Int)) (σ := start ["terms", "left", "greatest", "found", "exponents", "ratio", "often", "some"] [v, vi]) 1 rfl hi_
  cases l with
  | zero =>
    refine s_when (b := true) (et_test (er_eqI iv er_int)) (fun _ H1 e1 => ?_) (fun z => nomatch z)
    have av := er_var (A := LstV (TermV K)) (a := ts) (σ := start ["terms", "left", "greatest", "found", "exponents", "ratio", "often", "some"] [v, vi]) 0 rfl (Mo.mo e1 ha)
    refine s_ret (er_if (R := PurV K (nest 0 ts)) (et_test (er_neNil (A := TermV K) (fun _ _ _ z => term_dat z) (fun t _ => ⟨(shape_termD t).1, Nat.le_trans (shape_termD t).2 (by decide)⟩) av)) (fun hn => ?_) (fun hn => ?_)) fun r H2 e2 hr => q r H2 (e1.trans e2) hr
    · rcases keys0 hok.keys with rfl | ⟨c, rfl⟩
      · cases hn
      · exact (er_snd (er_ixL (A := TermV K) (a := ([], c)) 0 av rfl)).imp fun _ _ z => pur_rat z
    · rcases keys0 hok.keys with rfl | ⟨c, rfl⟩
      · exact (er_c (A := RatV K) (T.noughtR H1)).imp fun _ _ z => pur_rat z
      · cases hn
  | succ l =>
    have hsp := hsp l rfl
    subst hsp
    refine s_when (b := false) (ET.eq (et_test (er_eqI iv er_int)) (by simp; omega)) (fun z => nomatch z) (fun _ H1 e1 => ?_)
    have av := er_var (A := LstV (TermV K)) (a := ts) (σ := start ["terms", "left", "greatest", "found", "exponents", "ratio", "often", "some"] [v, vi]) 0 rfl (Mo.mo e1 ha)
    have t0 := top_nonneg ts
    have t8 := top_bd (by decide : (0 : Int) ≤ 8) hok
    refine s_par 2 3 (A := IntV) (a := topE ts) (B := fun (_ : Unit) H' v => ∃ f, v = .ref f ∧ H' f = some (.lst []) ∧ H f = none) (b := ()) (er_max (er_catL (A := IntV) (er_lst1 er_int) ((er_lcL (A := TermV K) (B := IntV) (fun _ => true) (fun t : Tm => t.1.headD 0) av (by omega) fun t x H2 mt e hx => by
      obtain ⟨p, y, z, rfl, hs, hy, hz⟩ := hx
      obtain ⟨x0, k, ek⟩ := key_cons (hok.keys.len t mt)
      obtain ⟨t1, t2⟩ := t
      cases ek
      exact turn_pair hs rfl et_yes fun _ => er_key0 (er_var (A := KeyV) (a := x0 :: k) 4 rfl hy)).eq (by rw [filter_yes])) (by rw [List.length_map]; simp; omega)) (by simp)) (er_lst0F H e1) fun g fv H2 e2 hg hf => ?_
    obtain ⟨f, rfl, hf, hfn⟩ := hf
    refine s_forR (n := topE ts + 1) (er_I0 (er_var (A := IntV) (a := topE ts) 2 rfl hg) er_int) (by omega) (by omega) fun H3 e3 => ?_
    refine ⟨fun i σ' H' => ∃ x4 x5 x6 x7 acc, σ' = [some v, some vi, some g, some (.ref f), x4, x5, x6, x7] ∧ H' f = some (.lst acc) ∧ Same H H' ∧ All2 (PurV K) H' acc ((List.range i).map fun (j : Nat) => nest l (part (j : Int) ts)), ⟨none, none, none, none, [], rfl, e3 _ _ hf, (e1.trans e2).trans e3, .nil⟩, fun i σ' H' hi p => ?_, fun σ' H' p => ?_⟩
    · obtain ⟨x4, x5, x6, x7, acc, rfl, h1, h2, h3⟩ := p
      have hacc : acc.length = i := by have := Paired.length h3; simpa using this
      refine s_set 7 ((er_lcL (A := TermV K) (B := TermV K) (l := ts) (fun t : Tm => decide (t.1.headD 0 = (i : Int))) (fun t : Tm => (t.1.tail, t.2)) (er_var (A := LstV (TermV K)) (a := ts) 0 rfl (Mo.mo h2 ha)) (by omega) fun t x H4 mt e hx => ?_)) fun v7 H4 e4 h7 => ?_
      · obtain ⟨p, y, z, rfl, hs, hy, hz⟩ := hx
        obtain ⟨x0, k, ek⟩ := key_cons (hok.keys.len t mt)
        obtain ⟨t1, t2⟩ := t
        cases ek
        exact turn_pair hs rfl (et_test (er_eqI (er_key0 (er_var (A := KeyV) (a := x0 :: k) 4 rfl hy)) (er_var (A := IntV) (a := (i : Int)) 6 rfl rfl))) fun _ => er_tupPair (p := (k, t2)) (er_tailK (er_var (A := KeyV) (a := x0 :: k) 4 rfl hy)) (er_var (A := RatV K) 5 rfl hz)
      · refine ⟨.ref f, rfl, tyV_lst (e4 _ _ h1), er_call2 (A := LstV (TermV K)) (a := part (i : Int) ts) (B := IntV) (b := (l : Int)) (C := PurV K) (er_var 7 rfl h7) (ER.eq (er_I0 (er_var (A := IntV) 1 rfl (show IntV ((l + 1 : Nat) : Int) H4 vi from hi_)) er_int) (by omega)) ⟨rfl, part_ok hok _, by have := part_len (i : Int) ts; omega⟩ H4 (Same.refl _) _ fun r H5 e5 hr => ⟨f, acc, r, rfl, rfl, e5 _ _ (e4 _ _ h1), sz_lt (by omega), ?_⟩⟩
        have tm : TM H5 (upd H5 f (.lst (acc ++ [r]))) := TM.lst (e5 _ _ (e4 _ _ h1))
        refine ⟨_, _, _, _, acc ++ [r], rfl, upd_same, same_mut (h2.trans (e4.trans e5)) hfn, ?_⟩
        rw [range_snoc]
        exact Paired.snoc (All2.tu ((TM.same (e4.trans e5)).trans tm) h3) (Tu.tu tm hr)
    · obtain ⟨x4, x5, x6, x7, acc, rfl, h1, h2, h3⟩ := p
      rw [show (topE ts + 1).toNat = (topE ts).toNat + 1 by omega] at h3
      exact s_ret ((er_tupleL (A := PurV K) (er_var 3 rfl ⟨f, acc, rfl, h1, h3⟩)).imp fun _ _ z => pur_tup z) fun r H6 e6 hr => q r H6 (h2.trans e6) hr
end
end K18

set_option Elab.async false
set_option linter.all false
set_option maxRecDepth 100000
set_option maxHeartbeats 4000000
/-! The nested form: terms of it, values of it, its form. -/
namespace K18
open PySem PySem.Spec PyProof.Rows L2 RZ
/-! sizes -/
def Fine : Nat → PyData → Prop
  | 0, d => SzR 40 (ratOf d)
  | l + 1, .tuple ds => ds.length ≤ 5 ∧ ∀ d ∈ ds, Fine l d
  | _ + 1, _ => False
def vb : Nat → Nat
  | 0 => 40
  | l + 1 => 1 + 5 * (vb l + 5)
theorem vb_le {l : Nat} (h : l ≤ 2) : vb l ≤ 1156 := by
  match l, h with
  | 0, _ => decide
  | 1, _ => decide
  | 2, _ => decide
def stepV (x : Rt) (v : PyData → Rt) (acc : Rt) (e : PyData) : Rt := addR (mulR acc x) (v e)
theorem stepV_sz {x : Rt} (hx : SzR 4 x) {v : PyData → Rt} {n : Nat} : ∀ {ds : List PyData} {a : Rt} {m : Nat}, SzR m a → (∀ d ∈ ds, SzR n (v d)) → SzR (m + (n + 5) * ds.length) (ds.foldl (stepV x v) a)
  | [], a, m, ha, _ => ha.mono (by simp)
  | d :: ds, a, m, ha, h => (stepV_sz (ds := ds) hx (addR_sz (mulR_sz ha hx) (h d List.mem_cons_self)) fun e me => h e (List.mem_cons_of_mem _ me)).mono (by rw [List.length_cons, Nat.mul_succ]; omega)
theorem valF_sz : ∀ {xs : List Rt} {d : PyData}, formB xs.length d = true → Fine xs.length d → (∀ x ∈ xs, SzR 4 x) → SzR (vb xs.length) (valF d xs)
  | [], d, h, f, _ => by cases d <;> exact f
  | x :: xs, d, h, f, hx => by
    obtain ⟨ds, rfl⟩ := form_succ h
    obtain ⟨_, _, hf⟩ := form_tuple h
    obtain ⟨f5, ff⟩ := f
    rw [valF]
    refine (stepV_sz (hx x List.mem_cons_self) (v := fun e => valF e xs) (n := vb xs.length) (szR01 (m := 1) (by decide)) fun d m => ?_).mono ?_
    · rw [List.mem_reverse] at m
      exact valF_sz (hf d m) (ff d m) fun y my => hx y (List.mem_cons_of_mem _ my)
    · rw [List.length_reverse]
      show _ ≤ 1 + 5 * (vb xs.length + 5)
      have := Nat.mul_le_mul_left (vb xs.length + 5) f5
      omega
theorem shaped_ratsD (rs : List Rt) : SeqAt.shaped (.tuple (rs.map ratD)) = true := by
  have h := shape_tup (ds := rs.map ratD) (n := 1) fun d m => by obtain ⟨r, _, rfl⟩ := List.mem_map.mp m; exact shape_ratD r
  exact shaped_of h.1 (Nat.le_trans h.2 (by decide))
section
variable {K : PySem.W.Frag} {σ : L2.St} {H : Hp} {ta tb tc te tl : TE} {α β : Type} {A : Rel α} {B : Rel β}
theorem isT_dat {d : PyData} : (match d with | .tuple _ => true | _ => false) = true → ∃ ds, d = .tuple ds := by
  cases d with
  | tuple ds => exact fun _ => ⟨ds, rfl⟩
  | _ => exact fun z => nomatch z
theorem pu_rat_of {d : PyData} {v : V} (h : PurV K d H v) (hf : formB 0 d = true) : RatV K (ratOf d) H v := by
  obtain ⟨e, _⟩ := isRat_ratOf hf
  rw [e] at h
  exact rat_dat h.2
end
section
variable {P : Program} {w : World} {K : PySem.W.Frag} {mg : Str → Option Value} {base : Heap} {k : Nat} (T : Txt K mg)
include T
theorem ok_nested_from : ∀ l : Nat, Fd P w K mg base (l + 1) "nested_from" ["terms", "left"] (SpNF K l)
  | 0 => nf_level T 0 _ (mkNever T.t_nested_from (fun _ _ _ _ _ _ us hl => match us, hl with | [_, _], _ => rfl)) fun l' e => nomatch e
  | l + 1 => nf_level T (l + 1) _ (ok_nested_from l) fun l' e => by cases e; rfl
abbrev SpTF (K : PySem.W.Frag) (l : Nat) : Sp := Pr2 (PurV K) IntV (LstV (TermV K)) (fun d left => left = (l : Int) ∧ formB l d = true ∧ l ≤ 3) (fun d _ => flat l d)
theorem sc_terms_from : FnScope ["nested", "left", "found", "often", "inner", "exponents", "ratio"] ["nested", "left"] (defScope s_terms_from) := ⟨rfl, rfl, rfl, by decide +kernel, rfl, by decide +kernel, by decide +kernel⟩
theorem tf_level (l : Nat) (spr : Sp) (F_terms_from : Fd P w K mg base l "terms_from" ["nested", "left"] spr) (hsp : ∀ l', l = l' + 1 → spr = SpTF K l') : Fd P w K mg base (l + 1) "terms_from" ["nested", "left"] (SpTF K l) := by
  refine mkFd T.t_terms_from (sc_terms_from T) (fun _ _ _ _ _ _ us hl => match us, hl with | [_, _], _ => rfl) len2 (fun cdv A outer s H vs Q E hr h => ?_)
  obtain ⟨d, i, v, vi, rfl, ha, hi, ⟨rfl, hf, h3⟩, q⟩ := h
  refine ⟨_, (pss_cons (ps_if (pt_cmpR op_eq (pv 1) pe_int (nomark _)) (pss_one (ps_ret (pe_lst (pa_cons (pe_tup (pa_cons (pe_tup pa_nil) (pa_cons (pv 0) pa_nil))) pa_nil)))) pss_nil) (pss_cons (ps_set (i := 2) (sc_terms_from T).nd rfl (Or.inl rfl) (pe_lst pa_nil)) (pss_cons (ps_for PassesOwn.never rfl (pi_enumT rfl T.f_enumerate (pa_cons (pv 0) pa_nil)) (pg_tup rfl (pgs_cons (pg_name (i := 3) (sc_terms_from T).nd rfl (Or.inr rfl)) (pgs_cons (pg_name (i := 4) (sc_terms_from T).nd rfl (Or.inl rfl)) pgs_nil))) (pss_one (ps_expr (pe_bm PySem.F.plainAttrs_list PySem.F.slot_list_extend PySem.F.type_list_extend mt_extend (pv 2) (pa_cons (pe_lc (own := [("exponents", 5), ("ratio", 6)]) rfl (sc_terms_from T).nd (pi_list (pe_f F_terms_from (hr.mono (by omega)) rfl (pa_cons (pv 4) (pa_cons (pe_op op_sub (pv 1) pe_int) pa_nil)))) (blkOk_by (own := [("exponents", 5), ("ratio", 6)]) (N := ["nested", "left", "found", "often", "inner", "exponents", "ratio"]) (sc := defScope s_terms_from) (by decide +kernel)) (fun _ _ _ _ _ => (pg_tupK (K := K) (n := 2) rfl rfl (pgs_cons (pg_name (i := 5) (sc_terms_from T).nd rfl (Or.inl rfl)) (pgs_cons (pg_name (i := 6) (sc_terms_from T).nd rfl (Or.inl rfl)) pgs_nil)))) (fun _ _ _ _ _ => pts_nil) (fun _ _ _ _ _ => (pe_tup (pa_cons (pe_op (r := rCatA K) op_catA (pe_tup (pa_cons (pv 3) pa_nil)) (pv 5)) (pa_cons (pv 6) pa_nil))))) pa_nil))))) (pss_one (ps_ret (pv 2)))))), ?_⟩
  have iv := er_var (A := IntV) (a := (l : Int)) (σ := start ["nested", "left", "found", "often", "inner", "exponents", "ratio"] [v, vi]) 1 rfl hi
  cases l with
  | zero =>
    refine s_when (b := true) (et_test (er_eqI iv er_int)) (fun _ H1 e1 => ?_) (fun z => nomatch z)
    exact s_ret (er_lst1 (A := TermV K) (a := ([], ratOf d)) (er_tupPair (p := (([] : List Int), ratOf d)) er_key00 (er_var (A := RatV K) 0 rfl (pu_rat_of (Mo.mo e1 ha) hf)))) fun r H2 e2 hr => q r H2 (e1.trans e2) hr
  | succ l =>
    have hsp := hsp l rfl
    subst hsp
    obtain ⟨ds, rfl⟩ := form_succ hf
    obtain ⟨_, h9, hfs⟩ := form_tuple hf
    refine s_when (b := false) (ET.eq (et_test (er_eqI iv er_int)) (by simp; omega)) (fun z => nomatch z) (fun _ H1 e1 => ?_)
    refine s_set 2 (er_lst0F H e1) fun f0 H2 e2 hf0 => ?_
    obtain ⟨f, rfl, hf0, hfn⟩ := hf0
    refine s_forE (A := PurV K) (l := ds) ((er_var (A := PurV K) (a := .tuple ds) 0 rfl (Mo.mo (e1.trans e2) ha)).imp fun _ _ z => tup_pur z) fun _ H3 e3 _ => ⟨fun i σ' H' => ∃ x3 x4 x5 x6 acc, σ' = [some v, some vi, some (.ref f), x3, x4, x5, x6] ∧ H' f = some (.lst acc) ∧ Same H H' ∧ TM H3 H' ∧ All2 (TermV K) H' acc (flatA (flat l) 0 (ds.take i)), ⟨none, none, none, none, [], rfl, e3 _ _ hf0, (e1.trans e2).trans e3, TM.refl _, .nil⟩, fun i σ' H' p => ?_, fun i x σ' H' H'' p sm ix => ?_, fun σ' H' p => ?_⟩
    · obtain ⟨_, _, _, _, _, _, _, _, t, _⟩ := p; exact t
    · obtain ⟨x3, x4, x5, x6, acc, rfl, h1, h2, htm, hall⟩ := p
      obtain ⟨a, hta, b, xo, xi, rfl, hs, hxo, hxi⟩ := ix
      have ma := List.mem_of_getElem? hta
      have hlt : i < ds.length := (List.getElem?_eq_some_iff.mp hta).1
      refine ⟨b, _, rfl, hs, rfl, xo, [xi], rfl, xi, [], rfl, rfl, ⟨.ref f, rfl, tyV_lst (sm _ _ h1), ?_⟩⟩
      have hacc : acc.length ≤ 729 * 9 := by
        rw [Paired.length hall]
        refine Nat.le_trans (flatA_length (m := 729) fun d m => Nat.le_trans (flat_length (hfs d (List.mem_of_mem_take m))) (pow9 (by omega))) ?_
        rw [List.length_take]
        exact Nat.mul_le_mul_left _ (by omega)
      have hfa : (flat l a).length ≤ 729 := Nat.le_trans (flat_length (hfs a ma)) (pow9 (by omega))
      refine er_lcL (A := TermV K) (B := TermV K) (l := flat l a) (fun _ => true) (fun t : Tm => ((i : Int) :: t.1, t.2)) (er_call2 (A := PurV K) (a := a) (B := IntV) (b := (l : Int)) (C := LstV (TermV K)) (er_var 4 rfl hxi) (ER.eq (er_I0 (er_var (A := IntV) 1 rfl (show IntV ((l + 1 : Nat) : Int) H'' vi from hi)) er_int) (by omega)) ⟨rfl, hfs a ma, by omega⟩) (by omega) (fun t x H4 mt e hx => ?_) H'' (Same.refl _) _ fun r H5 e5 hr => ?_
      · obtain ⟨p, y, z, rfl, hs, hy, hz⟩ := hx
        have hl := (flat_len (hfs a ma) t mt).1
        exact turn_pair hs rfl et_yes fun _ => er_tupPair (p := ((i : Int) :: t.1, t.2)) (er_catKey (er_key1 (er_var (A := IntV) (a := (i : Int)) 3 rfl (show IntV (i : Int) H4 xo from hxo))) (er_var (A := KeyV) 5 rfl hy) (by omega)) (er_var (A := RatV K) 6 rfl hz)
      · obtain ⟨g, zs, rfl, hg, hzs⟩ := hr
        rw [filter_yes] at hzs
        have hlz := Paired.length hzs
        rw [List.length_map] at hlz
        have hf5 := e5 _ _ (sm _ _ h1)
        refine ⟨f, g, acc, zs, rfl, rfl, hf5, hg, sz_of (by omega), ?_⟩
        have tm : TM H5 (upd H5 f (.lst (acc ++ zs))) := TM.lst hf5
        refine ⟨_, _, _, _, acc ++ zs, rfl, upd_same, same_mut (h2.trans (sm.trans e5)) hfn, (htm.trans (TM.same (sm.trans e5))).trans tm, ?_⟩
        rw [take_snoc hta, flatA_snoc, Nat.zero_add, List.length_take, Nat.min_eq_left (Nat.le_of_lt hlt)]
        exact paired_app (All2.tu ((TM.same (sm.trans e5)).trans tm) hall) (All2.tu tm hzs)
    · obtain ⟨x3, x4, x5, x6, acc, rfl, h1, h2, htm, hall⟩ := p
      rw [List.take_of_length_le (Nat.le_refl _)] at hall
      exact s_ret (er_var (A := LstV (TermV K)) (a := flat (l + 1) (.tuple ds)) 2 rfl ⟨f, acc, rfl, h1, hall⟩) fun r H6 e6 hr => q r H6 (h2.trans e6) hr
theorem ok_terms_from : ∀ l : Nat, Fd P w K mg base (l + 1) "terms_from" ["nested", "left"] (SpTF K l)
  | 0 => tf_level T 0 _ (mkNever T.t_terms_from (fun _ _ _ _ _ _ us hl => match us, hl with | [_, _], _ => rfl)) fun l' e => nomatch e
  | l + 1 => tf_level T (l + 1) _ (ok_terms_from l) fun l' e => by cases e; rfl
abbrev SpPF (K : PySem.W.Frag) (l : Nat) : Sp := Pr2 (PurV K) IntV (PolyV K) (fun d many => many = (l : Int) ∧ formB l d = true ∧ (flat l d).length < 64) (fun d _ => sizeP l d)
theorem sc_poly_from : FnScope ["nested", "many"] ["nested", "many"] (defScope s_poly_from) := ⟨rfl, rfl, rfl, by decide +kernel, rfl, by decide +kernel, by decide +kernel⟩
theorem ok_poly_from (l : Nat) (h1 : 1 ≤ l) (h3 : l ≤ 3) (F_terms_from : Fd P w K mg base 4 "terms_from" ["nested", "left"] (SpTF K l)) (F_told_poly : Fd P w K mg base 1 "told_poly" ["sums"] (SpTold K)) : Fd P w K mg base 5 "poly_from" ["nested", "many"] (SpPF K l) := by
  refine mkFd T.t_poly_from (sc_poly_from T) (fun _ _ _ _ _ _ us hl => match us, hl with | [_, _], _ => rfl) len2 (fun cdv A outer s H vs Q E hr h => ?_)
  obtain ⟨d, i, v, vi, rfl, ha, hi, ⟨rfl, hf, hz⟩, q⟩ := h
  refine ⟨_, (pss_one (ps_ret (pe_f F_told_poly (hr.mono (by omega)) rfl (pa_cons (pe_callTy (cr_dictT rfl hr.units) rfl T.f_dict bt_dict (pa_cons (pe_f F_terms_from (hr.mono (by omega)) rfl (pa_cons (pv 0) (pa_cons (pv 1) pa_nil))) pa_nil)) pa_nil)))), ?_⟩
  have hd : ER (tCB (rDictT K) (tCons (tCall (SpTF K l) [] E0 (tCons (tVar 0) (tCons (tVar 1) tNil))) tNil)) (start ["nested", "many"] [v, vi]) H (DicV (RatV K) (flat l d)) :=
    er_CB1 (er_call2 (A := PurV K) (a := d) (B := IntV) (b := (l : Int)) (C := LstV (TermV K)) (er_var 0 rfl ha) (er_var 1 rfl hi) ⟨rfl, hf, h3⟩) fun x H1 _ hx Q q => by
      obtain ⟨a, xs, rfl, h, h2⟩ := hx
      have conv : ∀ {xs : List V} {ts : List Tm}, All2 (TermV K) H1 xs ts → ∃ (ps : List Addr) (kvs : List (List Key × V)), xs = ps.map V.ref ∧ PrT K H1 ps kvs ∧ Ent (RatV K) H1 kvs ts := by
        intro xs ts q
        induction q with
        | nil => exact ⟨[], [], rfl, .nil, .nil⟩
        | cons hx _ ih =>
          obtain ⟨ps, kvs, rfl, g1, g2⟩ := ih
          obtain ⟨p, y, z, rfl, hs, hy, hz⟩ := hx
          obtain ⟨b, rfl, hb⟩ := key_at hy
          exact ⟨p :: ps, (_, z) :: kvs, rfl, .cons ⟨b, hs, hb⟩ g1, .cons ⟨rfl, hz⟩ g2⟩
      obtain ⟨ps, kvs, rfl, g1, g2⟩ := conv h2
      have nd : (kvs.map (·.1)).Nodup := by
        have e : kvs.map (·.1) = (flat l d).map fun t => kk t.1 := by
          clear g1 h2 h
          generalize flat l d = ts at g2 ⊢
          induction g2 with
          | nil => rfl
          | cons h _ ih => rw [List.map_cons, List.map_cons, ih, h.1]
        rw [e]
        have := (flat_keys hf).nd
        unfold List.Nodup at this ⊢
        rw [List.pairwise_map] at this ⊢
        exact this.imp fun h e => h (kk_inj e)
      exact ⟨a, ps, kvs, rfl, SqL.of h, g1, nd, fun p hp => q _ _ (same_new hp) ⟨p, kvs, rfl, upd_same, Ent.tu (TM.new hp) g2⟩⟩
  exact s_ret ((er_call1 (A := DicV (RatV K)) (a := flat l d) (B := PolyV K) (f := told) hd ⟨l, h1, flat_keys hf, hz⟩).eq (told_flat hf)) q
end
end K18

set_option Elab.async false
set_option linter.all false
set_option maxRecDepth 100000
set_option maxHeartbeats 4000000
/-! The nested form: values, tests, the program's doors. -/
namespace K18
open PySem PySem.Spec PyProof.Rows L2 RZ
theorem vb_pos : ∀ l, 0 < vb l
  | 0 => by decide
  | l + 1 => by show 0 < 1 + 5 * (vb l + 5); omega
theorem valF_tuple (ds : List PyData) (x : Rt) (xs : List Rt) : valF (.tuple ds) (x :: xs) = ds.reverse.foldl (stepV x fun e => valF e xs) (0, 1) := by rw [valF]; rfl
section
variable {P : Program} {w : World} {K : PySem.W.Frag} {mg : Str → Option Value} {base : Heap} {k : Nat} (T : Txt K mg)
include T
abbrev SpVF (K : PySem.W.Frag) (l : Nat) : Sp := Pr2 (PurV K) (TupV K (RatV K)) (RatV K) (fun d pt => pt.length = l ∧ formB l d = true ∧ Fine l d ∧ (∀ x ∈ pt, SzR 4 x) ∧ l ≤ 3) valF
theorem sc_value_from : FnScope ["nested", "point", "found", "inner"] ["nested", "point"] (defScope s_value_from) := ⟨rfl, rfl, rfl, by decide +kernel, rfl, by decide +kernel, by decide +kernel⟩
theorem vf_level (l : Nat) (spr : Sp) (F_add_ratios : Fd P w K mg base 2 "add_ratios" ["one", "other"] (SpRR K addR)) (F_mul_ratios : Fd P w K mg base 2 "mul_ratios" ["one", "other"] (SpRR K mulR)) (F_value_from : Fd P w K mg base (l + 2) "value_from" ["nested", "point"] spr) (hsp : ∀ l', l = l' + 1 → spr = SpVF K l') : Fd P w K mg base (l + 3) "value_from" ["nested", "point"] (SpVF K l) := by
  refine mkFd T.t_value_from (sc_value_from T) (fun _ _ _ _ _ _ us hl => match us, hl with | [_, _], _ => rfl) len2 (fun cdv A outer s H vs Q E hr h => ?_)
  obtain ⟨d, pt, v, vp, rfl, ha, hp, ⟨hl, hf, hfine, hsz, h3⟩, q⟩ := h
  refine ⟨_, (pss_cons (ps_if (pt_cmpR (op_eqD hr.units) (pv 1) (pe_tup pa_nil) (nomark _)) (pss_one (ps_ret (pv 0))) pss_nil) (pss_cons (ps_set (i := 2) (sc_value_from T).nd rfl (Or.inl rfl) (pe_glob (v := .ref (He.ga K "NOUGHT")) rfl T.nought rfl)) (pss_cons (ps_for PassesOwn.never rfl (pi_tup (pe_revT (pv 0))) (pg_name (i := 3) (sc_value_from T).nd rfl (Or.inl rfl)) (pss_one (ps_set (i := 2) (sc_value_from T).nd rfl (Or.inl rfl) (pe_f F_add_ratios (hr.mono (by omega)) rfl (pa_cons (pe_f F_mul_ratios (hr.mono (by omega)) rfl (pa_cons (pv 2) (pa_cons (pe_ix ix_tup (pv 1) pe_int (fun _ _ => rfl)) pa_nil))) (pa_cons (pe_f F_value_from (hr.mono (by omega)) rfl (pa_cons (pv 3) (pa_cons (pe_slice sl_tupA (pv 1) (po_some pe_int) po_none) pa_nil))) pa_nil)))))) (pss_one (ps_ret (pv 2)))))), ?_⟩
  have pv_ := er_var (A := TupV K (RatV K)) (a := pt) (σ := start ["nested", "point", "found", "inner"] [v, vp]) 1 rfl hp
  have tst := et_test (er_eqD (pv_.imp fun _ _ z => tupRat_dat z) er_dat0 (shaped_ratsD pt) shaped_nil)
  rw [eqv_empty, List.isEmpty_map] at tst
  match pt, hl, pv_, tst with
  | [], hl, pv_, tst =>
    cases hl
    refine s_when (b := true) tst (fun _ H1 e1 => ?_) (fun z => nomatch z)
    exact s_ret (er_var (A := RatV K) (a := ratOf d) 0 rfl (pu_rat_of (Mo.mo e1 ha) hf)) fun r H2 e2 hr => q r H2 (e1.trans e2) (by cases d <;> exact hr)
  | x :: xs, hl, pv_, tst =>
    obtain ⟨l, rfl⟩ : ∃ l', l = l' + 1 := ⟨xs.length, by simpa using hl.symm⟩
    have hl' : xs.length = l := by simpa using hl
    have hsp := hsp l rfl
    subst hsp
    obtain ⟨ds, rfl⟩ := form_succ hf
    obtain ⟨_, h9, hfs⟩ := form_tuple hf
    obtain ⟨f5, ffs⟩ := hfine
    have sx := hsz x List.mem_cons_self
    have sxs : ∀ y ∈ xs, SzR 4 y := fun y m => hsz y (List.mem_cons_of_mem _ m)
    have hl3 : l ≤ 3 := by omega
    obtain ⟨n, hn, hn0, hszv⟩ : ∃ n, n ≤ 1156 ∧ 0 < n ∧ ∀ e ∈ ds, SzR n (valF e xs) := by
      refine ⟨vb l, vb_le (by omega), vb_pos l, fun e me => ?_⟩
      have := valF_sz (xs := xs) (d := e) (by rw [hl']; exact hfs e me) (by rw [hl']; exact ffs e me) sxs
      rw [hl'] at this
      exact this
    refine s_when (b := false) tst (fun z => nomatch z) (fun _ H1 e1 => ?_)
    refine s_set 2 (er_c (A := RatV K) (T.noughtR H1)) fun v2 H2 e2 h2 => ?_
    refine s_forT (A := PurV K) (l := ds.reverse) (er_revT (A := PurV K) ((er_var (A := PurV K) (a := .tuple ds) 0 rfl (Mo.mo (e1.trans e2) ha)).imp fun _ _ z => tup_pur z)) fun _ H3 e3 _ => ⟨fun i σ' H' => ∃ f x3, σ' = [some v, some vp, some f, x3] ∧ Same H H' ∧ Same H3 H' ∧ RatV K ((ds.reverse.take i).foldl (stepV x fun e => valF e xs) (0, 1)) H' f, ⟨v2, none, rfl, (e1.trans e2).trans e3, Same.refl _, Mo.mo e3 h2⟩, fun i σ' H' p => ?_, fun i y σ' H' H'' p sm ix => ?_, fun σ' H' p => ?_⟩
    · obtain ⟨_, _, _, _, e, _⟩ := p; exact TM.same e
    · obtain ⟨f, x3, rfl, e4, e4', hf4⟩ := p
      obtain ⟨a, hta, hya⟩ := ix
      have ma := List.mem_reverse.mp (List.mem_of_getElem? hta)
      have pv2 := er_var (A := TupV K (RatV K)) (a := x :: xs) (σ := [some v, some vp, some f, some y]) 1 rfl (Mo.mo (e4.trans sm) hp)
      generalize hacc : (ds.reverse.take i).foldl (stepV x fun e => valF e xs) (0, 1) = acc at hf4
      have sacc : SzR (1 + (n + 5) * 5) acc := by
        rw [← hacc]
        refine (stepV_sz sx (szR01 (m := 1) (by decide)) fun e me => hszv e (List.mem_reverse.mp (List.mem_of_mem_take me))).mono ?_
        have : (ds.reverse.take i).length ≤ 5 := by rw [List.length_take, List.length_reverse]; omega
        have := Nat.mul_le_mul_left (n + 5) this
        omega
      have two1 : Two acc x := ⟨1 + (n + 5) * 5, 4, sacc, sx, by omega, by omega, by omega⟩
      have two2 : Two (mulR acc x) (valF a xs) := ⟨1 + (n + 5) * 5 + 4, n, mulR_sz sacc sx, hszv a ma, by omega, hn0, by omega⟩
      have c1 := er_call2 (A := RatV K) (B := RatV K) (C := RatV K) (pre := Two) (f := mulR) (er_var (A := RatV K) (a := acc) (σ := [some v, some vp, some f, some y]) 2 rfl (Mo.mo sm hf4)) (er_ixT (A := RatV K) (a := x) 0 pv2 rfl) two1
      have c2 := er_call2 (A := PurV K) (a := a) (B := TupV K (RatV K)) (b := xs) (C := RatV K) (pre := fun d pt => pt.length = l ∧ formB l d = true ∧ Fine l d ∧ (∀ x ∈ pt, SzR 4 x) ∧ l ≤ 3) (f := valF) (er_var (σ := [some v, some vp, some f, some y]) 3 rfl hya) (er_tailT pv2) ⟨hl', hfs a ma, ffs a ma, sxs, hl3⟩
      refine s_set1 2 (er_call2 (A := RatV K) (B := RatV K) (C := RatV K) (pre := Two) (f := addR) c1 c2 two2) fun r H5 e5 hr => ⟨r, _, rfl, (e4.trans sm).trans e5, (e4'.trans sm).trans e5, ?_⟩
      rw [take_snoc hta, List.foldl_append, hacc]
      exact hr
    · obtain ⟨f, x3, rfl, e4, e4', hf4⟩ := p
      rw [List.take_of_length_le (Nat.le_refl _)] at hf4
      exact s_ret (er_var (A := RatV K) 2 rfl hf4) fun r H6 e6 hr => q r H6 (e4.trans e6) (by rw [valF_tuple]; exact hr)
theorem ok_value_from (F_add_ratios : Fd P w K mg base 2 "add_ratios" ["one", "other"] (SpRR K addR)) (F_mul_ratios : Fd P w K mg base 2 "mul_ratios" ["one", "other"] (SpRR K mulR)) : ∀ l : Nat, Fd P w K mg base (l + 3) "value_from" ["nested", "point"] (SpVF K l)
  | 0 => vf_level T 0 _ F_add_ratios F_mul_ratios ((mkNever T.t_value_from (fun _ _ _ _ _ _ us hl => match us, hl with | [_, _], _ => rfl)).mono (by omega)) fun l' e => nomatch e
  | l + 1 => vf_level T (l + 1) _ F_add_ratios F_mul_ratios (ok_value_from F_add_ratios F_mul_ratios l) fun l' e => by cases e; rfl
abbrev SpHF (K : PySem.W.Frag) (l : Nat) : Sp := Pr2 (DatV K) IntV BoolV (fun d left => left = (l : Int)) (fun d _ => formB l d)
theorem sc_has_form : FnScope ["value", "left", "one"] ["value", "left"] (defScope s_has_form) := ⟨rfl, rfl, rfl, by decide +kernel, rfl, by decide +kernel, by decide +kernel⟩
theorem hf_level (l : Nat) (spr : Sp) (F_is_ratio : Fd P w K mg base 2 "is_ratio" ["value"] (SpIsRatio K)) (F_has_form : Fd P w K mg base (l + 2) "has_form" ["value", "left"] spr) (hsp : ∀ l', l = l' + 1 → spr = SpHF K l') : Fd P w K mg base (l + 3) "has_form" ["value", "left"] (SpHF K l) := by
  refine mkFd T.t_has_form (sc_has_form T) (fun _ _ _ _ _ _ us hl => match us, hl with | [_, _], _ => rfl) len2 (fun cdv A outer s H vs Q E hr h => ?_)
  obtain ⟨d, i, v, vi, rfl, ha, hi, rfl, q⟩ := h
  refine ⟨_, (pss_cons (ps_if (pt_cmpR op_eq (pv 1) pe_int (nomark _)) (pss_one (ps_ret (pe_f F_is_ratio (hr.mono (by omega)) rfl (pa_cons (pv 0) pa_nil)))) pss_nil) (pss_cons (ps_if (PW.pt (pw_or (pt_not (pt_val (pe_isi T.f_isinstance rfl (pv 0) rfl T.f_tuple bt_tuple))) (pw_or1 (pt_not (pt_chain op_le op_le pe_int (pe_callB call_len_seq rfl T.f_len bt_len (pa_cons (pv 0) pa_nil)) pe_int))))) (pss_one (ps_ret pe_bl)) pss_nil) (pss_one (ps_ret (pe_callB (cr_all rfl) rfl T.f_all bt_all (pa_cons (pe_lc (own := [("one", 2)]) rfl (sc_has_form T).nd (pi_tup (pv 0)) (blkOk_by (own := [("one", 2)]) (N := ["value", "left", "one"]) (sc := defScope s_has_form) (by decide +kernel)) (fun _ _ _ _ _ => (pg_name (i := 2) (sc_has_form T).nd rfl (Or.inl rfl))) (fun _ _ _ _ _ => pts_nil) (fun _ _ _ _ _ => (pe_f F_has_form (hr.mono (by omega)) rfl (pa_cons (pv 2) (pa_cons (pe_op op_sub (pv 1) pe_int) pa_nil))))) pa_nil)))))), ?_⟩
  have iv := er_var (A := IntV) (a := (l : Int)) (σ := start ["value", "left", "one"] [v, vi]) 1 rfl hi
  cases l with
  | zero =>
    refine s_when (b := true) (et_test (er_eqI iv er_int)) (fun _ H1 e1 => ?_) (fun z => nomatch z)
    exact s_ret (er_call1 (A := DatV K) (a := d) (B := BoolV) (er_var 0 rfl (Mo.mo e1 ha)) trivial) fun r H2 e2 hr => q r H2 (e1.trans e2) hr
  | succ l =>
    have hsp := hsp l rfl
    subst hsp
    refine s_when (b := false) (ET.eq (et_test (er_eqI iv er_int)) (by simp; omega)) (fun z => nomatch z) (fun _ H1 e1 => ?_)
    have dv := er_var (A := DatV K) (a := d) (σ := start ["value", "left", "one"] [v, vi]) 0 rfl (Mo.mo e1 ha)
    have tt := et_not (et_B (er_isD (n := "tuple") dv (kit_tuple d)))
    cases d with
    | tuple ds =>
      have ch := et_not (et_test (er_chainI (g := fun i j => decide (i ≤ j)) (g' := fun i j => decide (i ≤ j)) (er_int (i := 1)) (er_lenD dv) (er_int (i := 9))))
      have hb : (decide ((1 : Int) ≤ (ds.length : Int)) && decide ((ds.length : Int) ≤ 9)) = (decide (1 ≤ ds.length) && decide (ds.length ≤ 9)) := by
        congr 1
        · exact decide_eq_decide.mpr (by omega)
        · exact decide_eq_decide.mpr (by omega)
      have ef : formB (l + 1) (.tuple ds) = ((decide (1 ≤ ds.length) && decide (ds.length ≤ 9)) && ds.all (formB l)) := by rw [formB]
      cases hg : (decide (1 ≤ ds.length) && decide (ds.length ≤ 9)) with
      | false =>
        rw [hb, hg] at ch
        refine s_when (b := true) (ET.eq (et_or tt fun _ => ch) rfl) (fun _ H2 e2 => ?_) (fun z => nomatch z)
        exact s_ret er_bl fun r H3 e3 hr => q r H3 ((e1.trans e2).trans e3) (by show BoolV (formB (l + 1) (.tuple ds)) H3 r; rw [ef, hg]; exact hr)
      | true =>
        rw [hb, hg] at ch
        have h9 : ds.length ≤ 9 := by rw [Bool.and_eq_true] at hg; exact of_decide_eq_true hg.2
        refine s_when (b := false) (ET.eq (et_or tt fun _ => ch) rfl) (fun z => nomatch z) (fun _ H2 e2 => ?_)
        refine s_ret (ER.eq (A := BoolV) (a' := formB (l + 1) (.tuple ds)) (er_all (er_lcT (A := DatV K) (B := BoolV) (l := ds) (fun _ => true) (formB l) ((er_var (A := DatV K) (a := .tuple ds) 0 rfl (Mo.mo (e1.trans e2) ha)).imp fun _ _ z => tup_dat z) (by omega) fun a x H3 ma e hx =>
          turn_name rfl et_yes fun _ => er_call2 (A := DatV K) (a := a) (B := IntV) (b := (l : Int)) (er_var 2 rfl hx) (ER.eq (er_I0 (er_var (A := IntV) 1 rfl (show IntV ((l + 1 : Nat) : Int) H3 vi from hi)) er_int) (by omega)) rfl)) ?_) fun r H3 e3 hr => q r H3 ((e1.trans e2).trans e3) hr
        rw [filter_yes, ef, hg, List.all_map]
        rfl
    | _ =>
      refine s_when (b := true) (ET.eq (et_or (k := true) tt fun z => (by cases z)) rfl) (fun _ H2 e2 => ?_) (fun z => nomatch z)
      exact s_ret er_bl fun r H3 e3 hr => q r H3 ((e1.trans e2).trans e3) hr
theorem ok_has_form (F_is_ratio : Fd P w K mg base 2 "is_ratio" ["value"] (SpIsRatio K)) : ∀ l : Nat, Fd P w K mg base (l + 3) "has_form" ["value", "left"] (SpHF K l)
  | 0 => hf_level T 0 _ F_is_ratio ((mkNever T.t_has_form (fun _ _ _ _ _ _ us hl => match us, hl with | [_, _], _ => rfl)).mono (by omega)) fun l' e => nomatch e
  | l + 1 => hf_level T (l + 1) _ F_is_ratio (ok_has_form F_is_ratio l) fun l' e => by cases e; rfl
end
end K18

set_option Elab.async false
set_option linter.all false
set_option maxRecDepth 100000
set_option maxHeartbeats 4000000
/-! The program's doors to nested forms. -/
namespace K18
open PySem PySem.Spec PyProof.Rows L2 RZ
section
variable {P : Program} {w : World} {K : PySem.W.Frag} {mg : Str → Option Value} {base : Heap} {k : Nat} {x : Str} {st : Stmt} {N ps : List Str} {sp : Sp}
theorem mkBoth (T : (∃ fd, FnP K x st fd) ∧ mg x = some (.ref (He.ga K x))) (S : FnScope N ps (defScope st))
    (hb : ∀ (kV doc pm : Value) (an : Option Addr) (cdv ct : Value) (us : List Value), us.length = ps.length → bindArgs (PySem.W.fnOf x x (defArgs st) (defBody st) (defScope st) .none kV doc pm an cdv ct) ⟨us, []⟩ = pure (ps.zip us))
    (hbk : ∀ (kV doc pm : Value) (an : Option Addr) (cdv ct : Value) (ws : List Value), ws.length = ps.length → bindArgs (PySem.W.fnOf x x (defArgs st) (defBody st) (defScope st) .none kV doc pm an cdv ct) ⟨[], ps.reverse.zip ws⟩ = pure (ps.zip ws.reverse))
    (len : ∀ vs H Q E, sp vs H Q E → vs.length = ps.length)
    (body : ∀ (cdv : Value) (A : Around) (outer : List Env) (s : Shared) (H : Hp) (vs : List V) (Q : VK) (E : XK), Room k (A.deeper (envOfC x (defScope st) s.heap.objs.size (He.ga K x) cdv)) → sp vs H Q E →
      ∃ t, PSs (cxOf CX0 P w K mg base N x (defScope st) (He.ga K x) cdv A outer s H E).nox (defBody st) t ∧ t { nx := fun _ H' => Q .non H', rt := Q } (start N vs) H) : Fd P w K mg base (k + 1) x ps sp ∧ FdK P w K mg base (k + 1) x ps sp :=
  ⟨mkFd T S hb len body, mkFdK T S hbk len body⟩
end
section
variable {P : Program} {w : World} {K : PySem.W.Frag} {mg : Str → Option Value} {base : Heap} {k : Nat} (T : Txt K mg)
include T
/-- what is asked of a value ahead of the test of its form -/
def Tame (l : Nat) (d : PyData) : Prop := SeqAt.shaped d = true ∧ (formB l d = true → (flat l d).length < 64)
abbrev SpINO (K : PySem.W.Frag) (l : Nat) : Sp := Pr2 IntV (DatV K) BoolV (fun m d => m = (l : Int) ∧ Tame l d) (fun _ d => nestedB l d)
theorem sc_is_nested_of : FnScope ["many", "value", "poly"] ["many", "value"] (defScope s_is_nested_of) := ⟨rfl, rfl, rfl, by decide +kernel, rfl, by decide +kernel, by decide +kernel⟩
theorem ok_is_nested_of (l : Nat) (h1 : 1 ≤ l) (h3 : l ≤ 3) (F_has_form : Fd P w K mg base 6 "has_form" ["value", "left"] (SpHF K l)) (F_poly_from : Fd P w K mg base 5 "poly_from" ["nested", "many"] (SpPF K l)) (F_is_poly_in : Fd P w K mg base 4 "is_poly_in" ["many", "value"] (SpIsPolyIn K)) (F_nested_from : Fd P w K mg base 4 "nested_from" ["terms", "left"] (SpNF K l)) :
    Fd P w K mg base 7 "is_nested_of" ["many", "value"] (SpINO K l) := by
  refine mkFd T.t_is_nested_of (sc_is_nested_of T) (fun _ _ _ _ _ _ us hl => match us, hl with | [_, _], _ => rfl) len2 (fun cdv A outer s H vs Q E hr h => ?_)
  obtain ⟨m, d, v0, v, rfl, hm, ha, ⟨rfl, hsh, h64⟩, q⟩ := h
  refine ⟨_, (pss_cons (ps_if (pt_not (pt_val (pe_f F_has_form (hr.mono (by omega)) rfl (pa_cons (pv 1) (pa_cons (pv 0) pa_nil))))) (pss_one (ps_ret pe_bl)) pss_nil) (pss_cons (ps_set (i := 2) (sc_is_nested_of T).nd rfl (Or.inl rfl) (pe_f F_poly_from (hr.mono (by omega)) rfl (pa_cons (pv 1) (pa_cons (pv 0) pa_nil)))) (pss_one (ps_ret (pe_and (pe_f F_is_poly_in (hr.mono (by omega)) rfl (pa_cons (pv 0) (pa_cons (pv 2) pa_nil))) (pe_one (pe_cmpR (op_eqD hr.units) (pe_f F_nested_from (hr.mono (by omega)) rfl (pa_cons (pe_callTy call_list_of rfl T.f_list bt_list (pa_cons (pv 2) pa_nil)) (pa_cons (pv 0) pa_nil))) (pv 1) (nomark _)))))))), ?_⟩
  have tf := et_not (et_B (er_call2 (A := DatV K) (a := d) (B := IntV) (b := (l : Int)) (C := BoolV) (pre := fun d left => left = (l : Int)) (f := fun d _ => formB l d) (er_var (σ := start ["many", "value", "poly"] [v0, v]) 1 rfl ha) (er_var 0 rfl hm) rfl))
  cases hf : formB l d with
  | false =>
    rw [hf] at tf
    refine s_when (b := true) tf (fun _ H1 e1 => ?_) (fun z => nomatch z)
    exact s_ret er_bl fun r H2 e2 hr => q r H2 (e1.trans e2) (by show BoolV (nestedB l d) H2 r; unfold nestedB; rw [hf]; exact hr)
  | true =>
    rw [hf] at tf
    refine s_when (b := false) tf (fun z => nomatch z) (fun _ H1 e1 => ?_)
    have ha1 := Mo.mo e1 ha
    refine s_set 2 (er_call2 (A := PurV K) (a := d) (B := IntV) (b := (l : Int)) (C := PolyV K) (er_var 1 rfl ⟨pu_form hf, ha1⟩) (er_var 0 rfl hm) ⟨rfl, hf, h64 hf⟩) fun vp H2 e2 hp => ?_
    have pv2 := er_var (A := PolyV K) (a := sizeP l d) (σ := [some v0, some v, some vp]) 2 rfl hp
    have hts := sizeP_ts hf
    have hpo := sizeP_ok hf (h64 hf)
    have sn := shaped_form (form_nest (by decide : (0 : Int) ≤ 8) (by decide) hts) (by omega)
    refine s_ret (ER.eq (A := BoolV) (a' := nestedB l d) (er_andV (er_call2 (A := IntV) (a := (l : Int)) (B := PolyV K) (er_var 0 rfl (show IntV (l : Int) H2 v0 from hm)) pv2 ⟨l, rfl, by omega, hpo⟩) fun _ => er_eqD ((er_call2 (A := LstV (TermV K)) (a := sizeP l d) (B := IntV) (b := (l : Int)) (C := PurV K) (f := fun ts _ => nest l ts) (pre := fun ts left => left = (l : Int) ∧ TsOk l 8 ts ∧ ts.length ≤ 1000) (er_listT pv2) (er_var 0 rfl (show IntV (l : Int) H2 v0 from hm)) ⟨rfl, hts, hpo.len⟩).imp fun _ _ z => z.2) (er_var (A := DatV K) (a := d) 1 rfl (Mo.mo e2 ha1)) sn hsh) ?_) fun r H3 e3 hr => q r H3 ((e1.trans e2).trans e3) hr
    unfold nestedB
    rw [hf]
    rfl
abbrev SpWN (K : PySem.W.Frag) (l : Nat) : Sp := Pr2 IntV (DatV K) NonV (fun m d => m = (l : Int) ∧ Tame l d ∧ nestedB l d = true) (fun _ _ => ())
theorem sc_want_nested : FnScope ["many", "value"] ["many", "value"] (defScope s_want_nested) := ⟨rfl, rfl, rfl, by decide +kernel, rfl, by decide +kernel, by decide +kernel⟩
theorem ok_want_nested (l : Nat) (F_is_nested_of : Fd P w K mg base 7 "is_nested_of" ["many", "value"] (SpINO K l)) : Fd P w K mg base 8 "want_nested" ["many", "value"] (SpWN K l) := by
  refine mkFd T.t_want_nested (sc_want_nested T) (fun _ _ _ _ _ _ us hl => match us, hl with | [_, _], _ => rfl) len2 (fun cdv A outer s H vs Q E hr h => ?_)
  obtain ⟨m, d, v0, v, rfl, hm, ha, ⟨rfl, ht, hn⟩, q⟩ := h
  refine ⟨_, (pss_one (ps_if (pt_not (pt_val (pe_f F_is_nested_of (hr.mono (by omega)) rfl (pa_cons (pv 0) (pa_cons (pv 1) pa_nil))))) (pss_one ps_never) pss_nil)), ?_⟩
  exact s_when1 (b := false) (ET.eq (et_not (et_B (er_call2 (A := IntV) (a := (l : Int)) (B := DatV K) (b := d) (C := BoolV) (er_var 0 rfl hm) (er_var 1 rfl ha) ⟨rfl, ht⟩))) (by rw [hn]; rfl)) (fun z => nomatch z) (fun _ H1 e => q _ H1 e rfl)
theorem sc_is_nested : FnScope ["many", "value"] ["many", "value"] (defScope s_is_nested) := ⟨rfl, rfl, rfl, by decide +kernel, rfl, by decide +kernel, by decide +kernel⟩
theorem ok_is_nested (l : Nat) (h1 : 1 ≤ l) (h3 : l ≤ 3) (F_want_letters_many : Fd P w K mg base 4 "want_letters_many" ["value"] SpWantLetters) (F_is_nested_of : Fd P w K mg base 7 "is_nested_of" ["many", "value"] (SpINO K l)) : Fd P w K mg base 8 "is_nested" ["many", "value"] (SpINO K l) ∧ FdK P w K mg base 8 "is_nested" ["many", "value"] (SpINO K l) := by
  refine mkBoth T.t_is_nested (sc_is_nested T) (fun _ _ _ _ _ _ us hl => match us, hl with | [_, _], _ => rfl) (fun _ _ _ _ _ _ us hl => match us, hl with | [_, _], _ => rfl) len2 (fun cdv A outer s H vs Q E hr h => ?_)
  obtain ⟨m, d, v0, v, rfl, hm, ha, ⟨rfl, ht⟩, q⟩ := h
  refine ⟨_, (pss_cons (ps_expr (pe_f F_want_letters_many (hr.mono (by omega)) rfl (pa_cons (pv 0) pa_nil))) (pss_one (ps_ret (pe_f F_is_nested_of (hr.mono (by omega)) rfl (pa_cons (pv 0) (pa_cons (pv 1) pa_nil)))))), ?_⟩
  refine s_drop (er_call1 (A := IntV) (B := NonV) (er_var 0 rfl hm) ⟨by omega, by omega⟩) fun _ H1 e1 _ => ?_
  exact s_ret (er_call2 (A := IntV) (a := (l : Int)) (B := DatV K) (b := d) (C := BoolV) (er_var 0 rfl hm) (er_var 1 rfl (Mo.mo e1 ha)) ⟨rfl, ht⟩) fun r H2 e2 hr => q r H2 (e1.trans e2) hr
abbrev SpNestedOf (K : PySem.W.Frag) (l : Nat) : Sp := Pr2 IntV (PolyV K) (PurV K) (fun m ts => m = (l : Int) ∧ PolyOk l ts ∧ TsOk l 8 ts ∧ ts.length ≤ 60 ∧ degB ts = true) (fun _ ts => nest l ts)
theorem sc_nested_of : FnScope ["many", "poly"] ["many", "poly"] (defScope s_nested_of) := ⟨rfl, rfl, rfl, by decide +kernel, rfl, by decide +kernel, by decide +kernel⟩
theorem ok_nested_of (l : Nat) (h1 : 1 ≤ l) (h3 : l ≤ 3) (F_want_letters_many : Fd P w K mg base 4 "want_letters_many" ["value"] SpWantLetters) (F_want_poly_in : Fd P w K mg base 5 "want_poly_in" ["many", "value"] (SpWantPolyIn K)) (F_nested_from : Fd P w K mg base 4 "nested_from" ["terms", "left"] (SpNF K l)) : Fd P w K mg base 6 "nested_of" ["many", "poly"] (SpNestedOf K l) ∧ FdK P w K mg base 6 "nested_of" ["many", "poly"] (SpNestedOf K l) := by
  refine mkBoth T.t_nested_of (sc_nested_of T) (fun _ _ _ _ _ _ us hl => match us, hl with | [_, _], _ => rfl) (fun _ _ _ _ _ _ us hl => match us, hl with | [_, _], _ => rfl) len2 (fun cdv A outer s H vs Q E hr h => ?_)
  obtain ⟨m, ts, v0, v, rfl, hm, ha, ⟨rfl, hp, hts, h60, hd⟩, q⟩ := h
  refine ⟨_, (pss_cons (ps_expr (pe_f F_want_letters_many (hr.mono (by omega)) rfl (pa_cons (pv 0) pa_nil))) (pss_cons (ps_expr (pe_f F_want_poly_in (hr.mono (by omega)) rfl (pa_cons (pv 0) (pa_cons (pv 1) pa_nil)))) (pss_one (ps_ret (pe_f F_nested_from (hr.mono (by omega)) rfl (pa_cons (pe_callTy call_list_of rfl T.f_list bt_list (pa_cons (pv 1) pa_nil)) (pa_cons (pv 0) pa_nil))))))), ?_⟩
  refine s_drop (er_call1 (A := IntV) (B := NonV) (er_var 0 rfl hm) ⟨by omega, by omega⟩) fun _ H1 e1 _ => ?_
  refine s_drop (er_call2 (A := IntV) (a := (l : Int)) (B := PolyV K) (b := ts) (C := NonV) (er_var 0 rfl hm) (er_var 1 rfl (Mo.mo e1 ha)) ⟨l, rfl, by omega, hp, h60, hd⟩) fun _ H2 e2 _ => ?_
  exact s_ret (er_call2 (A := LstV (TermV K)) (a := ts) (B := IntV) (b := (l : Int)) (C := PurV K) (er_listT (er_var (A := PolyV K) 1 rfl (Mo.mo (e1.trans e2) ha))) (er_var 0 rfl hm) ⟨rfl, hts, hp.len⟩) fun r H3 e3 hr => q r H3 ((e1.trans e2).trans e3) hr
theorem nested_formB {l : Nat} {d : PyData} (h : nestedB l d = true) : formB l d = true := by
  unfold nestedB at h
  rw [Bool.and_eq_true] at h
  exact h.1
abbrev SpPON (K : PySem.W.Frag) (l : Nat) : Sp := Pr2 IntV (DatV K) (PolyV K) (fun m d => m = (l : Int) ∧ Tame l d ∧ nestedB l d = true) (fun _ d => sizeP l d)
theorem sc_poly_of_nested : FnScope ["many", "nested"] ["many", "nested"] (defScope s_poly_of_nested) := ⟨rfl, rfl, rfl, by decide +kernel, rfl, by decide +kernel, by decide +kernel⟩
theorem ok_poly_of_nested (l : Nat) (h1 : 1 ≤ l) (h3 : l ≤ 3) (F_want_letters_many : Fd P w K mg base 4 "want_letters_many" ["value"] SpWantLetters) (F_want_nested : Fd P w K mg base 8 "want_nested" ["many", "value"] (SpWN K l)) (F_poly_from : Fd P w K mg base 5 "poly_from" ["nested", "many"] (SpPF K l)) : Fd P w K mg base 9 "poly_of_nested" ["many", "nested"] (SpPON K l) ∧ FdK P w K mg base 9 "poly_of_nested" ["many", "nested"] (SpPON K l) := by
  refine mkBoth T.t_poly_of_nested (sc_poly_of_nested T) (fun _ _ _ _ _ _ us hl => match us, hl with | [_, _], _ => rfl) (fun _ _ _ _ _ _ us hl => match us, hl with | [_, _], _ => rfl) len2 (fun cdv A outer s H vs Q E hr h => ?_)
  obtain ⟨m, d, v0, v, rfl, hm, ha, ⟨rfl, ht, hn⟩, q⟩ := h
  refine ⟨_, (pss_cons (ps_expr (pe_f F_want_letters_many (hr.mono (by omega)) rfl (pa_cons (pv 0) pa_nil))) (pss_cons (ps_expr (pe_f F_want_nested (hr.mono (by omega)) rfl (pa_cons (pv 0) (pa_cons (pv 1) pa_nil)))) (pss_one (ps_ret (pe_f F_poly_from (hr.mono (by omega)) rfl (pa_cons (pv 1) (pa_cons (pv 0) pa_nil))))))), ?_⟩
  have hf := nested_formB T hn
  refine s_drop (er_call1 (A := IntV) (B := NonV) (er_var 0 rfl hm) ⟨by omega, by omega⟩) fun _ H1 e1 _ => ?_
  refine s_drop (er_call2 (A := IntV) (a := (l : Int)) (B := DatV K) (b := d) (C := NonV) (er_var 0 rfl hm) (er_var 1 rfl (Mo.mo e1 ha)) ⟨rfl, ht, hn⟩) fun _ H2 e2 _ => ?_
  exact s_ret (er_call2 (A := PurV K) (a := d) (B := IntV) (b := (l : Int)) (C := PolyV K) (er_var 1 rfl ⟨pu_form hf, Mo.mo (e1.trans e2) ha⟩) (er_var 0 rfl hm) ⟨rfl, hf, ht.2 hf⟩) fun r H3 e3 hr => q r H3 ((e1.trans e2).trans e3) hr
abbrev SpVON (K : PySem.W.Frag) (l : Nat) : Sp := Pr3 IntV (DatV K) (TupV K (RatV K)) (RatV K) (fun m d pt => m = (l : Int) ∧ Tame l d ∧ nestedB l d = true ∧ Fine l d ∧ pt.length = l ∧ (∀ x ∈ pt, SzR 4 x) ∧ ∀ x ∈ pt, NormR x) (fun _ d pt => valF d pt)
theorem sc_value_of_nested : FnScope ["many", "nested", "point"] ["many", "nested", "point"] (defScope s_value_of_nested) := ⟨rfl, rfl, rfl, by decide +kernel, rfl, by decide +kernel, by decide +kernel⟩
theorem ok_value_of_nested (l : Nat) (h1 : 1 ≤ l) (h3 : l ≤ 3) (F_want_letters_many : Fd P w K mg base 4 "want_letters_many" ["value"] SpWantLetters) (F_want_nested : Fd P w K mg base 8 "want_nested" ["many", "value"] (SpWN K l)) (F_want_point_for : Fd P w K mg base 4 "want_point_for" ["many", "value"] (SpWantPoint K)) (F_value_from : Fd P w K mg base 6 "value_from" ["nested", "point"] (SpVF K l)) : Fd P w K mg base 9 "value_of_nested" ["many", "nested", "point"] (SpVON K l) ∧ FdK P w K mg base 9 "value_of_nested" ["many", "nested", "point"] (SpVON K l) := by
  refine mkBoth T.t_value_of_nested (sc_value_of_nested T) (fun _ _ _ _ _ _ us hl => match us, hl with | [_, _, _], _ => rfl) (fun _ _ _ _ _ _ us hl => match us, hl with | [_, _, _], _ => rfl) len3 (fun cdv A outer s H vs Q E hr h => ?_)
  obtain ⟨m, d, pt, v0, v, vp, rfl, hm, ha, hp, ⟨rfl, ht, hn, hfi, hl, hsz, hno⟩, q⟩ := h
  refine ⟨_, (pss_cons (ps_expr (pe_f F_want_letters_many (hr.mono (by omega)) rfl (pa_cons (pv 0) pa_nil))) (pss_cons (ps_expr (pe_f F_want_nested (hr.mono (by omega)) rfl (pa_cons (pv 0) (pa_cons (pv 1) pa_nil)))) (pss_cons (ps_expr (pe_f F_want_point_for (hr.mono (by omega)) rfl (pa_cons (pv 0) (pa_cons (pv 2) pa_nil)))) (pss_one (ps_ret (pe_f F_value_from (hr.mono (by omega)) rfl (pa_cons (pv 1) (pa_cons (pv 2) pa_nil)))))))), ?_⟩
  have hf := nested_formB T hn
  refine s_drop (er_call1 (A := IntV) (B := NonV) (er_var 0 rfl hm) ⟨by omega, by omega⟩) fun _ H1 e1 _ => ?_
  refine s_drop (er_call2 (A := IntV) (a := (l : Int)) (B := DatV K) (b := d) (C := NonV) (er_var 0 rfl hm) (er_var 1 rfl (Mo.mo e1 ha)) ⟨rfl, ht, hn⟩) fun _ H2 e2 _ => ?_
  refine s_drop (er_call2 (A := IntV) (a := (l : Int)) (B := TupV K (RatV K)) (b := pt) (C := NonV) (er_var 0 rfl hm) (er_var 2 rfl (Mo.mo (e1.trans e2) hp)) ⟨by rw [hl], by omega, by omega, hno⟩) fun _ H3 e3 _ => ?_
  exact s_ret (er_call2 (A := PurV K) (a := d) (B := TupV K (RatV K)) (b := pt) (C := RatV K) (er_var 1 rfl ⟨pu_form hf, Mo.mo ((e1.trans e2).trans e3) ha⟩) (er_var 2 rfl (Mo.mo ((e1.trans e2).trans e3) hp)) ⟨hl, hf, hfi, hsz, h3⟩) fun r H4 e4 hr => q r H4 (((e1.trans e2).trans e3).trans e4) hr
end
end K18

set_option Elab.async false
set_option linter.all false
set_option maxRecDepth 100000
set_option maxHeartbeats 4000000
/-! The law's pot: the numbers drawn are any in range. -/
namespace K18
open PySem PySem.Spec PyProof.Rows L2 RZ
/-- the pot's list of two numbers -/
def PotAt (p : Addr) (H : Hp) : Prop := ∃ x y : Int, H p = some (.lst [.int x, .int y]) ∧ 0 ≤ x ∧ 0 ≤ y ∧ y < 2147483648
/-- all but the pot stays -/
def Gr (p : Addr) (H H' : Hp) : Prop := ∀ b u, b ≠ p → H b = some u → H' b = some u
theorem Gr.refl (p : Addr) (H : Hp) : Gr p H H := fun _ _ _ h => h
theorem Gr.trans {p : Addr} {H H1 H2 : Hp} (a : Gr p H H1) (b : Gr p H1 H2) : Gr p H H2 := fun c u n h => b c u n (a c u n h)
theorem Gr.same {p : Addr} {H H' : Hp} (e : Same H H') : Gr p H H' := fun b u _ h => e b u h
theorem Gr.upd (p : Addr) (H : Hp) (o : HO) : Gr p H (upd H p o) := fun b u n h => by rw [upd_ne n]; exact h
theorem Gr.tm {p : Addr} {H H' : Hp} (e : Gr p H H') (h : PotAt p H) : TM H H' := by
  obtain ⟨x, y, h, _⟩ := h
  refine ⟨fun b xs q => e b _ (fun z => ?_) q, fun b o xs q => e b _ (fun z => ?_) q⟩
  · rw [z, h] at q; cases q
  · rw [z, h] at q; cases q
theorem PotAt.same {p : Addr} {H H' : Hp} (e : Same H H') (h : PotAt p H) : PotAt p H' := let ⟨x, y, h, q⟩ := h; ⟨x, y, e _ _ h, q⟩
theorem Gr.mut {p f : Addr} {H H' : Hp} {o : HO} (e : Gr p H H') (h : H f = none) : Gr p H (L2.upd H' f o) := fun b u n q => by rw [upd_ne (ne_of_none q h)]; exact e b u n q
def SpDraw : Sp := fun vs H Q _ => ∃ (p : Addr) (many : Int), vs = [.ref p, .int many] ∧ PotAt p H ∧ 0 < many ∧ many ≤ 1000 ∧ ∀ k H', 0 ≤ k → k < many → Gr p H H' → PotAt p H' → Q (.int k) H'
section
variable {P : Program} {w : World} {K : PySem.W.Frag} {mg : Str → Option Value} {base : Heap} {k : Nat} (T : Txt K mg)
include T
theorem sc__law_draw : FnScope ["_law_pot_here", "_law_many", "_law_digit"] ["_law_pot_here", "_law_many"] (defScope s__law_draw) := ⟨rfl, rfl, rfl, by decide +kernel, rfl, by decide +kernel, by decide +kernel⟩
theorem ok_law_draw : Fd P w K mg base 1 "_law_draw" ["_law_pot_here", "_law_many"] SpDraw := by
  refine mkFd T.t__law_draw (sc__law_draw T) (fun _ _ _ _ _ _ us hl => match us, hl with | [_, _], _ => rfl) (fun vs H Q E h => by obtain ⟨_, _, rfl, _⟩ := h; rfl) (fun cdv A outer s H vs Q E hr h => ?_)
  obtain ⟨p, many, rfl, ⟨x, y, hp, hx, hy, hy2⟩, h0, h1, q⟩ := h
  refine ⟨_, (pss_cons (ps_if (pt_cmpR op_gt (pe_ix ix_list (pv 0) pe_int (fun _ _ => rfl)) pe_int (nomark _)) (pss_cons (ps_asg (pe_callB call_divmod rfl T.f_divmod bt_divmod (pa_cons (pe_ix ix_list (pv 0) pe_int (fun _ _ => rfl)) (pa_cons (pv 1) pa_nil))) (pg_tup rfl (pgs_cons (pg_sub (pv 0) pe_int set_list) (pgs_cons (pg_name (i := 2) (sc__law_draw T).nd rfl (Or.inl rfl)) pgs_nil)))) (pss_one (ps_ret (pv 2)))) pss_nil) (pss_cons (ps_asg (pe_op op_modN (pe_callTy call_int1 rfl T.f_int bt_int (pa_cons (pe_op op_add (pe_op op_mulW (pe_ix ix_list (pv 0) pe_int (fun _ _ => rfl)) pe_int) pe_int) pa_nil)) pe_int) (pg_sub (pv 0) pe_int set_list)) (pss_one (ps_ret (pe_op op_modN (pe_callTy call_int1 rfl T.f_int bt_int (pa_cons (pe_op op_fdivW (pe_op op_modN (pe_callTy call_int1 rfl T.f_int bt_int (pa_cons (pe_op op_mulW (pe_ix ix_list (pv 0) pe_int (fun _ _ => rfl)) (pe_ix ix_list (pv 0) pe_int (fun _ _ => rfl))) pa_nil)) pe_int) pe_int) pa_nil)) (pv 1)))))), ?_⟩
  have pv : ∀ H1, Same H H1 → ∀ x2, ER (tVar 0) [some (.ref p), some (.int many), x2] H1 (LstV IntV [x, y]) := fun H1 e x2 => er_var (A := LstV IntV) (a := [x, y]) 0 rfl ⟨p, _, rfl, e _ _ hp, .cons rfl (.cons rfl .nil)⟩
  refine s_when (b := decide (0 < x)) (et_test (er_IB (er_ixL (A := IntV) (a := x) 0 (pv H (Same.refl _) none) rfl) er_int)) (fun _ H1 e1 => ?_) (fun _ H1 e1 => ?_)
  · refine er_ixL (K := K) (A := IntV) (a := x) 0 (pv H1 e1 none) rfl H1 (Same.refl _) _ fun u H2 e2 hu => ⟨.int many, rfl, x, many, by rw [show u = .int x from hu], ⟨h0, by omega⟩, fun t ht => ?_⟩
    have sm := same_new (o := .tup [.int (x / many), .int (x % many)]) ht
    refine ⟨t, _, rfl, SqT.of upd_same, rfl, _, _, rfl, ⟨.ref p, rfl, p, _, 0, 0, rfl, rfl, sm _ _ (e2 _ _ (e1 _ _ hp)), rfl, _, _, rfl, rfl, _, rfl, q _ _ (Int.emod_nonneg _ (by omega)) (Int.emod_lt_of_pos _ h0) ?_ ?_⟩⟩
    · exact (Gr.same (e1.trans (e2.trans sm))).trans (Gr.upd p _ _)
    · exact ⟨x / many, y, upd_same, Int.ediv_nonneg hx (by omega), hy, hy2⟩
  · have wm : ∀ i j : Int, 0 ≤ i → i < 2147483648 → 0 ≤ j → j < 2147483648 → CMulW i j := fun i j a1 a2 a3 a4 => wide_mul (a := 31) (b := 31) (by omega) (by omega) (by decide) (by decide) (by decide)
    have yv : ∀ H1 z, H1 p = some (.lst [.int x, .int z]) → ER (tOp (rIxL K) (tVar 0) (tC (.int 1))) [some (.ref p), some (.int many), none] H1 (IntV z) := fun H1 z h => er_ixL (A := IntV) (a := z) 1 (er_var (A := LstV IntV) (a := [x, z]) 0 rfl ⟨p, _, rfl, h, .cons rfl (.cons rfl .nil)⟩) rfl
    have ei : ∀ {te : TE} {σ : L2.St} {H : Hp} {i : Int}, ER te σ H (IntV i) → ER (tCB (fun xs H Q => (∃ i, xs = [.int i] ∧ Q (.int i) H) ∨ ∃ k, xs = [.bl k] ∧ Q (.int (if k then 1 else 0)) H) (tCons te tNil)) σ H (IntV i) := fun h => er_CB1 h fun x H1 _ hx Q q => .inl ⟨_, by rw [show x = .int _ from hx], q _ H1 (Same.refl _) rfl⟩
    have em : ∀ {ta tb : TE} {σ : L2.St} {H : Hp} {i j : Int}, 0 < j → ER ta σ H (IntV i) → ER tb σ H (IntV j) → ER (tOp (rI (fun _ j => j ≠ 0) fun i j => .int (i.fmod j)) ta tb) σ H (IntV (i % j)) := fun hj a b => (er_I (g := fun i j => i.fmod j) a b (by omega)).eq (Int.fmod_eq_emod_of_nonneg _ (by omega))
    have e1p := e1 _ _ hp
    have n0 : 0 ≤ (y * 39373 + 1061) % 2147483587 := Int.emod_nonneg _ (by decide)
    have n1 : (y * 39373 + 1061) % 2147483587 < 2147483587 := Int.emod_lt_of_pos _ (by decide)
    generalize hz : (y * 39373 + 1061) % 2147483587 = z at n0 n1
    refine (ER.eq (em (by decide) (ei (er_I0 (er_I (yv H1 y e1p) er_int (wm y 39373 hy hy2 (by decide) (by decide))) er_int)) er_int) hz) H1 (Same.refl _) _ fun u H2 e2 hu => ⟨.ref p, rfl, p, _, 1, 1, rfl, rfl, e2 _ _ e1p, rfl, ?_⟩
    rw [show u = .int z from hu]
    have hp3 : upd H2 p (.lst [.int x, .int z]) p = some (.lst [.int x, .int z]) := upd_same
    have zz : 0 ≤ z * z := Int.mul_nonneg n0 n0
    refine em h0 (ei (er_I (P := CDivW) (g := fun i j => i / j) (i := z * z % 2147483563) (j := 17) (em (by decide) (ei (er_I (yv _ z hp3) (yv _ z hp3) (wm z z n0 (by omega) n0 (by omega)))) er_int) er_int (show CDivW _ 17 from ⟨by decide, by decide⟩))) (er_var (A := IntV) (a := many) 1 rfl rfl) _ (Same.refl _) _ fun r H4 e4 hr => ?_
    rw [show r = _ from hr]
    refine q _ _ (Int.emod_nonneg _ (by omega)) (Int.emod_lt_of_pos _ h0) ?_ ⟨x, z, e4 _ _ hp3, hx, n0, by omega⟩
    exact ((Gr.same (e1.trans e2)).trans (Gr.upd p _ _)).trans (Gr.same e4)
end
end K18

set_option Elab.async false
set_option linter.all false
set_option maxRecDepth 100000
set_option maxHeartbeats 4000000
/-! The law's draws: ratios, terms, points. -/
namespace K18
open PySem PySem.Spec PyProof.Rows L2 RZ
theorem gr_free {p e : Addr} {H H' : Hp} (g : Gr p H H') (hp : PotAt p H') (h : H' e = none) : H e = none := by
  cases q : H e with
  | none => rfl
  | some u =>
    by_cases z : e = p
    · obtain ⟨x, y, h', _⟩ := hp; rw [z, h'] at h; cases h
    · rw [g e u z q] at h; cases h
theorem pot_ne {p f : Addr} {H : Hp} (hp : PotAt p H) (h : H f = none) : f ≠ p := fun z => by
  obtain ⟨x, y, h', _⟩ := hp; rw [z, h'] at h; cases h
theorem PotAt.upd {p f : Addr} {H : Hp} {o : HO} (hp : PotAt p H) (h : f ≠ p) : PotAt p (L2.upd H f o) := let ⟨x, y, h', q⟩ := hp; ⟨x, y, by rw [upd_ne (Ne.symm h)]; exact h', q⟩
/-- a term as it is drawn -/
structure DrawT (l : Nat) (b : Int) (t : Tm) : Prop where
  len : t.1.length = l
  exp : ∀ x ∈ t.1, 0 ≤ x ∧ x ≤ b
  norm : NormR t.2
  sz : SzR 4 t.2
def SpPick (K : PySem.W.Frag) : Sp := fun vs H Q _ => ∃ (p a : Addr) (xs : List V), vs = [.ref p, .ref a] ∧ PotAt p H ∧ H a = some (.lst xs) ∧ a ≠ p ∧ 0 < xs.length ∧ xs.length ≤ 1000 ∧ ∀ v H', v ∈ xs → Gr p H H' → PotAt p H' → Q v H'
def SpRatio (K : PySem.W.Frag) : Sp := fun vs H Q _ => ∃ p : Addr, vs = [.ref p] ∧ PotAt p H ∧ ∀ r v H', NormR r → SzR 4 r → RatV K r H' v → Gr p H H' → PotAt p H' → Q v H'
def SpTerms (K : PySem.W.Frag) : Sp := fun vs H Q _ => ∃ (p : Addr) (l : Nat) (m b : Int), vs = [.ref p, .int (l : Int), .int m, .int b] ∧ PotAt p H ∧ l ≤ 8 ∧ 0 ≤ m ∧ m ≤ 100 ∧ 0 ≤ b ∧ b ≤ 60 ∧
  ∀ us v H', (us.length : Int) ≤ m → (∀ t ∈ us, DrawT l b t) → LstV (TermV K) us H' v → Gr p H H' → PotAt p H' → Q v H'
def SpPoint (K : PySem.W.Frag) : Sp := fun vs H Q _ => ∃ (p : Addr) (l : Nat), vs = [.ref p, .int (l : Int)] ∧ PotAt p H ∧ l ≤ 8 ∧
  ∀ rs v H', rs.length = l → (∀ r ∈ rs, NormR r ∧ SzR 4 r) → TupV K (RatV K) rs H' v → Gr p H H' → PotAt p H' → Q v H'
section
variable {P : Program} {w : World} {K : PySem.W.Frag} {mg : Str → Option Value} {base : Heap} {k : Nat} (T : Txt K mg)
include T
theorem sc__law_pick : FnScope ["_law_pot_here", "_law_some"] ["_law_pot_here", "_law_some"] (defScope s__law_pick) := ⟨rfl, rfl, rfl, by decide +kernel, rfl, by decide +kernel, by decide +kernel⟩
theorem ok_law_pick (F__law_draw : Fd P w K mg base 1 "_law_draw" ["_law_pot_here", "_law_many"] SpDraw) : Fd P w K mg base 2 "_law_pick" ["_law_pot_here", "_law_some"] (SpPick K) := by
  refine mkFd T.t__law_pick (sc__law_pick T) (fun _ _ _ _ _ _ us hl => match us, hl with | [_, _], _ => rfl) (fun vs H Q E h => by obtain ⟨_, _, _, rfl, _⟩ := h; rfl) (fun cdv A outer s H vs Q E hr h => ?_)
  obtain ⟨p, a, xs, rfl, hp, ha, hne, h0, hz, q⟩ := h
  refine ⟨_, (pss_one (ps_ret (pe_ix ix_list (pv 1) (pe_f F__law_draw (hr.mono (by omega)) rfl (pa_cons (pv 0) (pa_cons (pe_callB call_len_seq rfl T.f_len bt_len (pa_cons (pv 1) pa_nil)) pa_nil))) (fun _ _ => rfl)))), ?_⟩
  refine ⟨.ref a, rfl, .ref p, rfl, .ref a, rfl, a, xs, rfl, .inl (SqL.of ha), p, (xs.length : Int), rfl, hp, by omega, by omega, fun k H' hk0 hk1 g hp' => ?_⟩
  obtain ⟨j, rfl⟩ : ∃ j : Nat, k = (j : Int) := ⟨k.toNat, by omega⟩
  have hj : j < xs.length := by omega
  exact ⟨a, xs, j, xs[j], rfl, rfl, SqL.of (g _ _ hne ha), atI_nat (List.getElem?_eq_getElem hj), q _ H' (List.getElem_mem _) g hp'⟩
theorem sc__law_ratio : FnScope ["_law_pot_here"] ["_law_pot_here"] (defScope s__law_ratio) := ⟨rfl, rfl, rfl, by decide +kernel, rfl, by decide +kernel, by decide +kernel⟩
theorem ok_law_ratio (F__law_pick : Fd P w K mg base 2 "_law_pick" ["_law_pot_here", "_law_some"] (SpPick K)) (F__law_low : Fd P w K mg base 1 "_law_low" ["_law_number", "_law_under"] (SpMade K)) : Fd P w K mg base 3 "_law_ratio" ["_law_pot_here"] (SpRatio K) := by
  refine mkFd T.t__law_ratio (sc__law_ratio T) (fun _ _ _ _ _ _ us hl => match us, hl with | [_], _ => rfl) (fun vs H Q E h => by obtain ⟨_, rfl, _⟩ := h; rfl) (fun cdv A outer s H vs Q E hr h => ?_)
  obtain ⟨p, rfl, hp, q⟩ := h
  refine ⟨_, (pss_one (ps_ret (pe_f F__law_low (hr.mono (by omega)) rfl (pa_cons (pe_f F__law_pick (hr.mono (by omega)) rfl (pa_cons (pv 0) (pa_cons (pe_lst (pa_cons pe_int (pa_cons pe_int (pa_cons (pe_un un_neg pe_int) (pa_cons pe_int (pa_cons pe_int (pa_cons (pe_un un_neg pe_int) (pa_cons pe_int pa_nil)))))))) pa_nil))) (pa_cons (pe_f F__law_pick (hr.mono (by omega)) rfl (pa_cons (pv 0) (pa_cons (pe_lst (pa_cons pe_int (pa_cons pe_int (pa_cons pe_int (pa_cons pe_int (pa_cons pe_int pa_nil)))))) pa_nil))) pa_nil))))), ?_⟩
  refine ⟨.ref p, rfl, 1, rfl, 5, rfl, sz_of (by decide), fun a ha => ⟨p, a, _, rfl, hp.same (same_new ha), upd_same, pot_ne hp ha, by decide, by decide, fun v H1 hv g1 hp1 => ?_⟩⟩
  refine ⟨.ref p, rfl, sz_of (by decide), fun b hb => ⟨p, b, _, rfl, hp1.same (same_new hb), upd_same, pot_ne hp1 hb, by decide, by decide, fun u H2 hu g2 hp2 => ?_⟩⟩
  obtain ⟨n, rfl, hn⟩ : ∃ n : Int, v = .int n ∧ n.natAbs < 2 ^ 4 := by
    simp only [List.mem_cons, List.not_mem_nil, or_false] at hv
    rcases hv with rfl | rfl | rfl | rfl | rfl | rfl | rfl <;> exact ⟨_, rfl, by decide⟩
  obtain ⟨d, rfl, hd, hd2⟩ : ∃ n : Int, u = .int n ∧ 0 < n ∧ n.natAbs < 2 ^ 4 := by
    simp only [List.mem_cons, List.not_mem_nil, or_false] at hu
    rcases hu with rfl | rfl | rfl | rfl | rfl <;> exact ⟨_, rfl, by decide, by decide⟩
  refine ⟨n, d, _, _, rfl, rfl, rfl, ⟨hd, Nat.lt_of_lt_of_le hd2 (Nat.pow_le_pow_right (by decide) (by decide))⟩, fun r H3 e3 hr => q _ _ _ (mkR_norm hd) (mkR_sz hn hd hd2) hr ?_ (hp2.same e3)⟩
  exact ((((Gr.same (same_new ha)).trans g1).trans (Gr.same (same_new hb))).trans g2).trans (Gr.same e3)
theorem sc__law_point : FnScope ["_law_pot_here", "_law_letters", "_law_found", "_law_letter"] ["_law_pot_here", "_law_letters"] (defScope s__law_point) := ⟨rfl, rfl, rfl, by decide +kernel, rfl, by decide +kernel, by decide +kernel⟩
theorem ok_law_point (F__law_ratio : Fd P w K mg base 3 "_law_ratio" ["_law_pot_here"] (SpRatio K)) : Fd P w K mg base 4 "_law_point" ["_law_pot_here", "_law_letters"] (SpPoint K) := by
  refine mkFd T.t__law_point (sc__law_point T) (fun _ _ _ _ _ _ us hl => match us, hl with | [_, _], _ => rfl) (fun vs H Q E h => by obtain ⟨_, _, rfl, _⟩ := h; rfl) (fun cdv A outer s H vs Q E hr h => ?_)
  obtain ⟨p, l, rfl, hp, hl, q⟩ := h
  refine ⟨_, (pss_cons (ps_set (i := 2) (sc__law_point T).nd rfl (Or.inl rfl) (pe_lst pa_nil)) (pss_cons (ps_for PassesOwn.never rfl (pi_range1 rfl T.f_range (pa_cons (pv 1) pa_nil)) (pg_name (i := 3) (sc__law_point T).nd rfl (Or.inl rfl)) (pss_one (ps_expr (pe_bm PySem.F.plainAttrs_list PySem.F.slot_list_append PySem.F.type_list_append mt_append (pv 2) (pa_cons (pe_f F__law_ratio (hr.mono (by omega)) rfl (pa_cons (pv 0) pa_nil)) pa_nil))))) (pss_one (ps_ret (pe_tupleOf rfl T.f_tuple (pv 2)))))), ?_⟩
  refine ⟨sz_of (by decide), fun f hf => ⟨.int l, rfl, l, rfl, by omega, by omega, ?_⟩⟩
  refine for_range (fun i σ' H' => ∃ x3 acc rs, σ' = [some (.ref p), some (.int (l : Int)), some (.ref f), x3] ∧ H' f = some (.lst acc) ∧ All2 (RatV K) H' acc rs ∧ rs.length = i ∧ (∀ r ∈ rs, NormR r ∧ SzR 4 r) ∧ Gr p H H' ∧ PotAt p H') ⟨none, [], [], rfl, upd_same, .nil, rfl, (fun _ m => by cases m), Gr.same (same_new hf), hp.same (same_new hf)⟩ (fun i σ' H' hi pv => ?_) (fun σ' H' pv => ?_)
  · obtain ⟨x3, acc, rs, rfl, h1, h2, h3, h4, h5, h6⟩ := pv
    refine ⟨.ref f, rfl, tyV_lst h1, .ref p, rfl, p, rfl, h6, fun r v H2 hn hz hr g2 hp2 => ⟨f, acc, v, rfl, rfl, g2 _ _ (pot_ne hp hf) h1, sz_lt (by have := Paired.length h2; omega), _, acc ++ [v], rs ++ [r], rfl, upd_same, ?_, by simp [h3], fun r' m => ?_, (h5.trans g2).mut hf, hp2.upd (pot_ne hp hf)⟩⟩
    · have tm := TM.lst (o := .lst (acc ++ [v])) (g2 _ _ (pot_ne hp hf) h1)
      exact Paired.snoc (All2.tu ((g2.tm h6).trans tm) h2) (Tu.tu tm hr)
    · rcases List.mem_append.mp m with m | m
      · exact h4 r' m
      · rw [List.mem_singleton.mp m]; exact ⟨hn, hz⟩
  · obtain ⟨x3, acc, rs, rfl, h1, h2, h3, h4, h5, h6⟩ := pv
    refine er_tupleL (K := K) (A := RatV K) (er_var (H := H') (A := LstV (RatV K)) (a := rs) (σ := [some (.ref p), some (.int (l : Int)), some (.ref f), x3]) 2 rfl ⟨f, acc, rfl, h1, h2⟩) H' (Same.refl _) _ fun v H2 e2 hv => q rs v H2 (by omega) h4 hv (h5.trans (Gr.same e2)) (h6.same e2)
theorem sc__law_terms : FnScope ["_law_pot_here", "_law_letters", "_law_most", "_law_deep", "_law_found", "_law_turn", "_law_exponents", "_law_letter"] ["_law_pot_here", "_law_letters", "_law_most", "_law_deep"] (defScope s__law_terms) := ⟨rfl, rfl, rfl, by decide +kernel, rfl, by decide +kernel, by decide +kernel⟩
theorem ok_law_terms (F__law_draw : Fd P w K mg base 1 "_law_draw" ["_law_pot_here", "_law_many"] SpDraw) (F__law_ratio : Fd P w K mg base 3 "_law_ratio" ["_law_pot_here"] (SpRatio K)) : Fd P w K mg base 4 "_law_terms" ["_law_pot_here", "_law_letters", "_law_most", "_law_deep"] (SpTerms K) := by
  refine mkFd T.t__law_terms (sc__law_terms T) (fun _ _ _ _ _ _ us hl => match us, hl with | [_, _, _, _], _ => rfl) (fun vs H Q E h => by obtain ⟨_, _, _, _, rfl, _⟩ := h; rfl) (fun cdv A outer s H vs Q E hr h => ?_)
  obtain ⟨p, l, m, b, rfl, hp, hl, hm0, hm, hb0, hb, q⟩ := h
  refine ⟨_, (pss_cons (ps_set (i := 4) (sc__law_terms T).nd rfl (Or.inl rfl) (pe_lst pa_nil)) (pss_cons (ps_for PassesOwn.never rfl (pi_range1 rfl T.f_range (pa_cons (pe_f F__law_draw (hr.mono (by omega)) rfl (pa_cons (pv 0) (pa_cons (pe_op op_add (pv 2) pe_int) pa_nil))) pa_nil)) (pg_name (i := 5) (sc__law_terms T).nd rfl (Or.inl rfl)) (pss_cons (ps_set (i := 6) (sc__law_terms T).nd rfl (Or.inl rfl) (pe_lst pa_nil)) (pss_cons (ps_for PassesOwn.never rfl (pi_range1 rfl T.f_range (pa_cons (pv 1) pa_nil)) (pg_name (i := 7) (sc__law_terms T).nd rfl (Or.inl rfl)) (pss_one (ps_expr (pe_bm PySem.F.plainAttrs_list PySem.F.slot_list_append PySem.F.type_list_append mt_append (pv 6) (pa_cons (pe_f F__law_draw (hr.mono (by omega)) rfl (pa_cons (pv 0) (pa_cons (pe_op op_add (pv 3) pe_int) pa_nil))) pa_nil))))) (pss_one (ps_expr (pe_bm PySem.F.plainAttrs_list PySem.F.slot_list_append PySem.F.type_list_append mt_append (pv 4) (pa_cons (pe_tup (pa_cons (pe_tupleOf rfl T.f_tuple (pv 6)) (pa_cons (pe_f F__law_ratio (hr.mono (by omega)) rfl (pa_cons (pv 0) pa_nil)) pa_nil))) pa_nil))))))) (pss_one (ps_ret (pv 4))))), ?_⟩
  refine ⟨sz_of (by decide), fun f hf => ⟨.ref p, rfl, .int m, rfl, m, 1, rfl, rfl, p, m + 1, rfl, hp.same (same_new hf), by omega, by omega, fun n H1 hn0 hn g1 hp1 => ⟨n, rfl, by omega, by omega, ?_⟩⟩⟩
  have hfp := pot_ne hp hf
  refine for_range (fun i σ' H' => ∃ x5 x6 x7 acc us, σ' = [some (.ref p), some (.int (l : Int)), some (.int m), some (.int b), some (.ref f), x5, x6, x7] ∧ H' f = some (.lst acc) ∧ All2 (TermV K) H' acc us ∧ us.length = i ∧ (∀ t ∈ us, DrawT l b t) ∧ Gr p H H' ∧ PotAt p H') ⟨none, none, none, [], [], rfl, g1 _ _ hfp upd_same, .nil, rfl, (fun _ m => by cases m), (Gr.same (same_new hf)).trans g1, hp1⟩ (fun i σ' H' hi pv => ?_) (fun σ' H' pv => ?_)
  · obtain ⟨x5, x6, x7, acc, us, rfl, h1, h2, h3, h4, h5, h6⟩ := pv
    refine ⟨sz_of (by decide), fun e he => ⟨.int l, rfl, l, rfl, by omega, by omega, ?_⟩⟩
    have hef : f ≠ e := fun z => by rw [z, he] at h1; cases h1
    have hep := pot_ne h6 he
    have heH := gr_free h5 h6 he
    have tme : TM H' (upd H' e (.lst [])) := TM.new he
    refine for_range (fun j σ2 H2 => ∃ x7 ns, σ2 = [some (.ref p), some (.int (l : Int)), some (.int m), some (.int b), some (.ref f), some (.int (0 + (i : Int))), some (.ref e), x7] ∧ H2 e = some (.lst (ns.map V.int)) ∧ ns.length = j ∧ (∀ x ∈ ns, 0 ≤ x ∧ x ≤ b) ∧ H2 f = some (.lst acc) ∧ All2 (TermV K) H2 acc us ∧ Gr p H H2 ∧ PotAt p H2) ⟨x7, [], rfl, upd_same, rfl, (fun _ m => by cases m), by rw [upd_ne hef]; exact h1, All2.tu tme h2, h5.mut heH, h6.upd hep⟩ (fun j σ2 H2 hj pv => ?_) (fun σ2 H2 pv => ?_)
    · obtain ⟨x7, ns, rfl, k1, k2, k3, k4, k5, k6, k7⟩ := pv
      refine ⟨.ref e, rfl, tyV_lst k1, .ref p, rfl, .int b, rfl, b, 1, rfl, rfl, p, b + 1, rfl, k7, by omega, by omega, fun x H3 hx0 hx1 g3 hp3 => ⟨e, ns.map V.int, .int x, rfl, rfl, g3 _ _ hep k1, sz_lt (by rw [List.length_map]; omega), _, ns ++ [x], rfl, ?_, by simp [k2], fun y my => ?_, ?_, ?_, (k6.trans g3).mut heH, hp3.upd hep⟩⟩
      · rw [upd_same, List.map_append]; rfl
      · rcases List.mem_append.mp my with my | my
        · exact k3 y my
        · rw [List.mem_singleton.mp my]; omega
      · rw [upd_ne hef]; exact g3 _ _ hfp k4
      · exact All2.tu ((g3.tm k7).trans (TM.lst (g3 _ _ hep k1))) k5
    · obtain ⟨x7, ns, rfl, k1, k2, k3, k4, k5, k6, k7⟩ := pv
      refine ⟨.ref f, rfl, tyV_lst k4, .ref e, rfl, .inl ⟨e, _, rfl, SqL.of k1, fun t ht => ⟨.ref p, rfl, p, rfl, k7.same (same_new ht), fun r v H3 hn hz hr g3 hp3 => ⟨sz_of (by show 2 ≤ 100000; decide), fun c hc => ?_⟩⟩⟩⟩
      have htp := pot_ne k7 ht
      have key3 : KeyV ns H3 (.ref t) := ⟨t, rfl, g3 _ _ htp upd_same⟩
      have f3 : H3 f = some (.lst acc) := g3 _ _ hfp (same_new ht _ _ k4)
      have f4 := same_new (o := .tup [.ref t, v]) hc _ _ f3
      refine ⟨f, acc, .ref c, rfl, rfl, f4, sz_lt (by have := Paired.length h2; omega), _, _, _, acc ++ [.ref c], us ++ [(ns, r)], rfl, upd_same, ?_, by simp [h3], fun u mu => ?_, ?_, ?_⟩
      · have tm := TM.lst (o := .lst (acc ++ [.ref c])) f4
        have tm3 : TM H2 _ := ((TM.same (same_new (o := .tup (ns.map V.int)) ht)).trans (g3.tm (k7.same (same_new ht)))).trans (TM.same (same_new (o := .tup [.ref t, v]) hc))
        exact Paired.snoc (All2.tu (tm3.trans tm) k5) ⟨c, .ref t, v, rfl, tm_seqT tm (SqT.of upd_same), Tu.tu ((TM.same (same_new hc)).trans tm) key3, Tu.tu ((TM.same (same_new hc)).trans tm) hr⟩
      · rcases List.mem_append.mp mu with mu | mu
        · exact h4 u mu
        · rw [List.mem_singleton.mp mu]; exact ⟨k2.trans (by omega), k3, hn, hz⟩
      · exact (((k6.trans (Gr.same (same_new ht))).trans g3).trans (Gr.same (same_new hc))).mut hf
      · exact (hp3.same (same_new hc)).upd hfp
  · obtain ⟨x5, x6, x7, acc, us, rfl, h1, h2, h3, h4, h5, h6⟩ := pv
    exact ⟨_, rfl, q us _ H' (by omega) h4 ⟨f, acc, rfl, h1, h2⟩ h5 h6⟩
end
end K18

set_option Elab.async false
set_option linter.all false
set_option maxRecDepth 100000
set_option maxHeartbeats 4000000
/-! The law's sums, told, value, nested. -/
namespace K18
open PySem PySem.Spec PyProof.Rows L2 RZ
/-! ### sums of terms -/
def addT (acc : List Tm) (t : Tm) : List Tm := putL acc t.1 (addR ((getL acc t.1).getD (0, 1)) t.2)
def accL (us : List Tm) : List Tm := us.foldl addT []
def sumsL (us : List Tm) : List Tm := (accL us).filter fun t => !decide (t.2.1 = 0)
theorem mem_putL {α : Type} {l : List (List Int × α)} {k : List Int} {a : α} {t : List Int × α} (m : t ∈ putL l k a) : t ∈ l ∨ t = (k, a) := by
  unfold putL at m
  split at m
  · obtain ⟨u, mu, e⟩ := List.mem_map.mp m
    split at e
    · rename_i z; exact .inr (by rw [← e, z])
    · exact .inl (e ▸ mu)
  · rcases List.mem_append.mp m with m | m
    · exact .inl m
    · exact .inr (List.mem_singleton.mp m)
theorem keys_putL {α : Type} (l : List (List Int × α)) (k : List Int) (a : α) : ((putL l k a).map (·.1) = l.map (·.1)) ∨ (k ∉ l.map (·.1) ∧ (putL l k a).map (·.1) = l.map (·.1) ++ [k]) := by
  unfold putL
  split
  · refine .inl ?_
    rw [List.map_map]
    refine List.map_congr_left fun p _ => ?_
    show (if p.1 = k then (p.1, a) else p).1 = p.1
    split <;> rfl
  · rename_i h
    refine .inr ⟨fun m => h ?_, by simp⟩
    obtain ⟨p, mp, e⟩ := List.mem_map.mp m
    exact List.any_eq_true.mpr ⟨p, mp, decide_eq_true e⟩
theorem getL_some {α : Type} {l : List (List Int × α)} {k : List Int} {a : α} (h : getL l k = some a) : (k, a) ∈ l := by
  unfold getL at h
  obtain ⟨p, hp, e⟩ := Option.map_eq_some_iff.mp h
  have h1 := List.mem_of_find?_eq_some hp
  have h2 : p.1 = k := of_decide_eq_true (p := p.1 = k) (List.find?_some (p := fun p : List Int × α => decide (p.1 = k)) hp)
  obtain ⟨p1, p2⟩ := p
  cases e
  cases h2
  exact h1
structure SumT (l : Nat) (b : Int) (n : Nat) (ts : List Tm) : Prop where
  len : ∀ t ∈ ts, t.1.length = l
  exp : ∀ t ∈ ts, ∀ x ∈ t.1, 0 ≤ x ∧ x ≤ b
  nd : (ts.map (·.1)).Nodup
  norm : ∀ t ∈ ts, NormR t.2
  sz : ∀ t ∈ ts, SzR (1 + 5 * n) t.2
  few : ts.length ≤ n
theorem sum_old {l : Nat} {b : Int} {n : Nat} {acc : List Tm} (h : SumT l b n acc) (k : List Int) : 0 < ((getL acc k).getD (0, 1)).2 ∧ SzR (1 + 5 * n) ((getL acc k).getD (0, 1)) := by
  cases g : getL acc k with
  | none => exact ⟨by show (0 : Int) < 1; decide, szR01 (by omega)⟩
  | some a => exact ⟨(h.norm _ (getL_some g)).1, h.sz _ (getL_some g)⟩
theorem sum_step {l : Nat} {b : Int} {n : Nat} {acc : List Tm} {t : Tm} (h : SumT l b n acc) (ht : DrawT l b t) : SumT l b (n + 1) (addT acc t) := by
  obtain ⟨o1, o2⟩ := sum_old h t.1
  refine ⟨fun u m => ?_, fun u m => ?_, ?_, fun u m => ?_, fun u m => ?_, Nat.le_trans (putL_length _ _ _) (Nat.succ_le_succ h.few)⟩
  · rcases mem_putL m with m | e
    · exact h.len u m
    · rw [e]; exact ht.len
  · rcases mem_putL m with m | e
    · exact h.exp u m
    · rw [e]; exact ht.exp
  · rcases keys_putL acc t.1 (addR ((getL acc t.1).getD (0, 1)) t.2) with e | ⟨e1, e⟩
    · show ((putL acc t.1 _).map (·.1)).Nodup; rw [e]; exact h.nd
    · show ((putL acc t.1 _).map (·.1)).Nodup
      rw [e, List.nodup_append]
      refine ⟨h.nd, by simp, fun a ma c mc z => ?_⟩
      rw [List.mem_singleton.mp mc] at z
      exact e1 (z ▸ ma)
  · rcases mem_putL m with m | e
    · exact h.norm u m
    · rw [e]; exact addR_norm o1 ht.norm.1
  · rcases mem_putL m with m | e
    · exact (h.sz u m).mono (by omega)
    · rw [e]; exact (addR_sz o2 ht.sz).mono (by omega)
theorem sum_fold {l : Nat} {b : Int} : ∀ {us acc : List Tm} {n : Nat}, SumT l b n acc → (∀ t ∈ us, DrawT l b t) → SumT l b (n + us.length) (us.foldl addT acc)
  | [], acc, n, h, _ => h
  | t :: us, acc, n, h, hu => by
    have := sum_fold (us := us) (sum_step h (hu t List.mem_cons_self)) fun u m => hu u (List.mem_cons_of_mem _ m)
    rw [List.length_cons]
    rw [show n + (us.length + 1) = n + 1 + us.length by omega]
    exact this
theorem sum_nil (l : Nat) (b : Int) : SumT l b 0 [] := ⟨fun _ m => (by cases m), fun _ m => (by cases m), List.nodup_nil, fun _ m => (by cases m), fun _ m => (by cases m), Nat.le_refl _⟩
/-- sums as the law uses them -/
structure Sums (l : Nat) (b : Int) (ts : List Tm) : Prop where
  ok : TsOk l b ts
  nz : ∀ t ∈ ts, t.2 ≠ (0, 1)
  few : ts.length ≤ 6
  sz : ∀ t ∈ ts, SzR 40 t.2
theorem sums_ok {l : Nat} {b : Int} {us : List Tm} (hb : b ≤ 60) (h : ∀ t ∈ us, DrawT l b t) (h6 : us.length ≤ 6) : Sums l b (sumsL us) := by
  have s := sum_fold (sum_nil l b) h
  have sub : (sumsL us).Sublist (accL us) := List.filter_sublist
  have mm : ∀ t ∈ sumsL us, t ∈ accL us := fun t m => sub.subset m
  refine ⟨⟨⟨fun t m => s.len t (mm t m), fun t m x hx => ?_, s.nd.sublist (sub.map _)⟩, fun t m x hx => (s.exp t (mm t m) x hx).2, fun t m => s.norm t (mm t m)⟩, fun t m e => ?_, ?_, fun t m => (s.sz t (mm t m)).mono (by omega)⟩
  · have := s.exp t (mm t m) x hx
    exact ⟨this.1, by omega⟩
  · have := (List.mem_filter.mp m).2
    rw [e] at this
    simp at this
  · have h1 := sub.length_le
    have h2 : (accL us).length ≤ 0 + us.length := s.few
    omega
section
variable {K : PySem.W.Frag} {σ : L2.St} {H : Hp} {ta tb tc te tl : TE} {α β : Type} {A : Rel α} {B : Rel β}
theorem er_dictT {ts : List Tm} (nd : (ts.map (·.1)).Nodup) (ha : ER ta σ H (LstV (TermV K) ts)) : ER (tCB (rDictT K) (tCons ta tNil)) σ H (DicV (RatV K) ts) :=
  er_CB1 ha fun x H1 _ hx Q q => by
    obtain ⟨a, xs, rfl, h, h2⟩ := hx
    have conv : ∀ {xs : List V} {ts : List Tm}, All2 (TermV K) H1 xs ts → ∃ (ps : List Addr) (kvs : List (List Key × V)), xs = ps.map V.ref ∧ PrT K H1 ps kvs ∧ Ent (RatV K) H1 kvs ts := by
      intro xs ts q
      induction q with
      | nil => exact ⟨[], [], rfl, .nil, .nil⟩
      | cons hx _ ih =>
        obtain ⟨ps, kvs, rfl, g1, g2⟩ := ih
        obtain ⟨p, y, z, rfl, hs, hy, hz⟩ := hx
        obtain ⟨b, rfl, hb⟩ := key_at hy
        exact ⟨p :: ps, (_, z) :: kvs, rfl, .cons ⟨b, hs, hb⟩ g1, .cons ⟨rfl, hz⟩ g2⟩
    obtain ⟨ps, kvs, rfl, g1, g2⟩ := conv h2
    have nd' : (kvs.map (·.1)).Nodup := by
      have e : kvs.map (·.1) = ts.map fun t => kk t.1 := by
        clear g1 h2 h nd q ha
        induction g2 with
        | nil => rfl
        | cons h _ ih => rw [List.map_cons, List.map_cons, ih, h.1]
      rw [e]
      unfold List.Nodup at nd ⊢
      rw [List.pairwise_map] at nd ⊢
      exact nd.imp fun h e => h (kk_inj e)
    exact ⟨a, ps, kvs, rfl, SqL.of h, g1, nd', fun p hp => q _ _ (same_new hp) ⟨p, kvs, rfl, upd_same, Ent.tu (TM.new hp) g2⟩⟩
theorem rd_ent {d : Addr} {kvs : List (List Key × V)} {ts : List Tm} (e : TM H H') (h : Rd H' d (.dT kvs)) (he : Ent (RatV K) H kvs ts) : RdV (RatV K) ts H' (.ref d) := ⟨d, kvs, rfl, h, Ent.tu e he⟩
end
section
variable {P : Program} {w : World} {K : PySem.W.Frag} {mg : Str → Option Value} {base : Heap} {k : Nat} (T : Txt K mg)
include T
abbrev SpSums (K : PySem.W.Frag) : Sp := Pr1 (LstV (TermV K)) (DicV (RatV K)) (fun us => us.length ≤ 6 ∧ ∃ l b, ∀ t ∈ us, DrawT l b t) sumsL
theorem sc__law_sums : FnScope ["_law_terms_here", "_law_found", "_law_exponents", "_law_ratio_here"] ["_law_terms_here"] (defScope s__law_sums) := ⟨rfl, rfl, rfl, by decide +kernel, rfl, by decide +kernel, by decide +kernel⟩
theorem ok_law_sums (F__law_add : Fd P w K mg base 2 "_law_add" ["_law_one", "_law_other"] (SpRR K addR)) : Fd P w K mg base 3 "_law_sums" ["_law_terms_here"] (SpSums K) := by
  refine mkFd T.t__law_sums (sc__law_sums T) (fun _ _ _ _ _ _ us hl => match us, hl with | [_], _ => rfl) len1 (fun cdv A outer s H vs Q E hr h => ?_)
  obtain ⟨us, v, rfl, ha, ⟨h6, l, b, hd⟩, q⟩ := h
  refine ⟨_, (pss_cons (ps_set (i := 1) (sc__law_sums T).nd rfl (Or.inr rfl) pe_dnewT) (pss_cons (ps_for PassesOwn.never rfl (pi_list (pv 0)) (pg_tup rfl (pgs_cons (pg_name (i := 2) (sc__law_sums T).nd rfl (Or.inl rfl)) (pgs_cons (pg_name (i := 3) (sc__law_sums T).nd rfl (Or.inl rfl)) pgs_nil))) (pss_one (ps_dput (hu_of hr) (pv 1) (pv 2) (pe_f F__law_add (hr.mono (by omega)) rfl (pa_cons (pe_dget2 (hu_of hr) (pv 1) (pv 2) (pe_tup (pa_cons pe_int (pa_cons pe_int pa_nil))) ⟨rfl, rfl, rfl, rfl⟩) (pa_cons (pv 3) pa_nil))) rfl))) (pss_one (ps_ret (pe_callTy (cr_dictT rfl hr.units) rfl T.f_dict bt_dict (pa_cons (pe_lock (pe_lc (own := [("_law_exponents", 2)]) rfl (sc__law_sums T).nd (pi_keys (pv 1)) (blkOk_by (own := [("_law_exponents", 2)]) (N := ["_law_terms_here", "_law_found", "_law_exponents", "_law_ratio_here"]) (sc := defScope s__law_sums) (by decide +kernel)) (fun _ _ _ _ _ => (pg_name (i := 2) (sc__law_sums T).nd rfl (Or.inl rfl))) (fun _ _ _ _ _ => (pts_one (pt_cmpR op_ne (pe_ix (r := rIxT K) ix_tup (pe_dget (hu_of hr) (pv 1) (pv 2) (fun _ _ => rfl)) pe_int (fun _ _ => rfl)) pe_int (nomark _)))) (fun _ _ _ _ _ => (pe_tup (pa_cons (pv 2) (pa_cons (pe_dget (hu_of hr) (pv 1) (pv 2) (fun _ _ => rfl)) pa_nil)))))) pa_nil)))))), ?_⟩
  refine s_set 1 (er_dnewF H (Same.refl _)) fun v1 H1 e1 hv1 => ?_
  obtain ⟨d, rfl, hd1, hdn⟩ := hv1
  refine s_forL (A := TermV K) (l := us) (er_var 0 rfl (Mo.mo e1 ha)) fun a xs H2 e2 ha2 hx2 => ?_
  have hda : a ≠ d := fun z => by rw [z, e2 _ _ hd1] at ha2; cases ha2
  have sfold : ∀ i, i ≤ us.length → SumT l b i (accL (us.take i)) := fun i hi => by
    have := sum_fold (sum_nil l b) (us := us.take i) fun t m => hd t (List.mem_of_mem_take m)
    rw [List.length_take, Nat.min_eq_left hi, Nat.zero_add] at this
    exact this
  refine ⟨fun i σ' H' => ∃ x2 x3 kvs, σ' = [some v, some (.ref d), x2, x3] ∧ H' d = some (.dT kvs) ∧ Ent (RatV K) H' kvs (accL (us.take i)) ∧ Same H H' ∧ TM H2 H' ∧ H' a = some (.lst xs), ⟨none, none, [], rfl, e2 _ _ hd1, .nil, e1.trans e2, TM.refl _, ha2⟩, fun i σ' H' p => ?_, fun i x σ' H' p ix => ?_, fun σ' H' p => ?_⟩
  · obtain ⟨_, _, _, _, _, _, _, t, h⟩ := p; exact ⟨t, h⟩
  · obtain ⟨x2, x3, kvs, rfl, h1, h2, h3, h4, h5⟩ := p
    obtain ⟨t, ht, hx⟩ := ix
    have mt := List.mem_of_getElem? ht
    have hlt := (List.getElem?_eq_some_iff.mp ht).1
    obtain ⟨c, xe, xr, rfl, hs, hxe, hxr⟩ := hx
    have st := sfold i (Nat.le_of_lt hlt)
    obtain ⟨o1, o2⟩ := sum_old st t.1
    refine ⟨c, _, rfl, hs, rfl, xe, [xr], rfl, xr, [], rfl, rfl, ?_⟩
    refine er_call2 (A := RatV K) (B := RatV K) (C := RatV K) (er_dget2 (l := accL (us.take i)) (er_var (A := RdV (RatV K)) (σ := [some v, some (.ref d), some xe, some xr]) 1 rfl ⟨d, kvs, rfl, .inl h1, h2⟩) (er_var (A := KeyV) (a := t.1) 2 rfl hxe) (er_rat (i := 0) (j := 1) er_int er_int)) (er_var (A := RatV K) (a := t.2) 3 rfl hxr) (two_of T (m := 1 + 5 * i) (n := 4) o2 (hd t mt).sz (by omega) (by omega) (by omega)) H' (Same.refl _) _ fun r H3 e3 hr => ?_
    obtain ⟨b', rfl, hb'⟩ := key_at (Mo.mo e3 hxe)
    have hl := Paired.length h2
    have d3 := e3 _ _ h1
    refine ⟨_, rfl, _, rfl, d, _, rfl, DPut.t d3 hb' (sz_lt (by have := st.few; omega)), _, _, _, rfl, upd_same, ?_, same_mut (h3.trans e3) hdn, (h4.trans (TM.same e3)).trans (TM.dT d3), by rw [upd_ne hda]; exact e3 _ _ h5⟩
    have ea : accL (us.take (i + 1)) = putL (accL (us.take i)) t.1 (addR ((getL (accL (us.take i)) t.1).getD (0, 1)) t.2) := by unfold accL; rw [take_snoc ht, List.foldl_append]; rfl
    rw [ea]
    exact Ent.tu (TM.dT d3) (ent_put (Ent.tu (TM.same e3) h2) t.1 hr)
  · obtain ⟨x2, x3, kvs, rfl, h1, h2, h3, h4, h5⟩ := p
    rw [List.take_of_length_le (Nat.le_refl _)] at h2
    have st := sfold us.length (Nat.le_refl _)
    rw [List.take_of_length_le (Nat.le_refl _)] at st
    refine s_ret (er_dictT (ts := sumsL us) (st.nd.sublist (List.filter_sublist.map _)) ((er_lcK (A := RatV K) (B := TermV K) (l := accL us) (i := 1) (fun t : Tm => !decide (t.2.1 = 0)) (fun t : Tm => t) rfl h1 h2 (by have := st.few; omega) fun t x H4 mt tm rd hx => ?_).eq (by rw [List.map_id']; rfl))) fun r H5 e5 hr => q r H5 (h3.trans e5) hr
    have gv := er_dget (A := RatV K) (l := accL us) (k := t.1) (a := t.2) (er_var (A := RdV (RatV K)) (σ := [some v, some (.ref d), some x, x3]) 1 rfl (rd_ent tm rd h2)) (er_var (A := KeyV) (a := t.1) 2 rfl hx) (getL_mem st.nd mt)
    exact turn_name rfl (et_test (er_neI (er_rat0 gv) er_int)) fun _ => er_tupPair (er_var (A := KeyV) (a := t.1) 2 rfl hx) gv
end
end K18

set_option Elab.async false
set_option linter.all false
set_option maxRecDepth 100000
set_option maxHeartbeats 4000000
/-! The law's poly, told, value, nested. -/
namespace K18
open PySem PySem.Spec PyProof.Rows L2 RZ
theorem unlock_same {H H' : Hp} {d : Addr} {u v : HO} (hd : H d = some u) (e : Same (upd H d v) H') : Same H (upd H' d u) := fun b o h => by
  by_cases z : b = d
  · subst z; rw [hd] at h; cases h; exact upd_same
  · rw [upd_ne z]; exact e _ _ (by rw [upd_ne z]; exact h)
theorem top_app (ts : List Tm) : maxL (ts.map (fun t => t.1.headD 0) ++ [0]) = topE ts := by
  refine Int.le_antisymm ?_ ?_
  · have hm := maxL_mem (l := ts.map (fun t => t.1.headD 0) ++ [0]) (by simp)
    refine le_maxL ?_
    rcases List.mem_append.mp hm with m | m
    · exact List.mem_cons_of_mem _ m
    · rw [List.mem_singleton.mp m]; exact List.mem_cons_self
  · have hm := maxL_mem (l := 0 :: ts.map fun t => t.1.headD 0) (by simp)
    refine le_maxL ?_
    rcases List.mem_cons.mp hm with e | m
    · exact List.mem_append.mpr (.inr (by show maxL _ ∈ _; rw [e]; simp))
    · exact List.mem_append.mpr (.inl m)
section
variable {P : Program} {w : World} {K : PySem.W.Frag} {mg : Str → Option Value} {base : Heap} {k : Nat} (T : Txt K mg)
include T
def SpPoly (K : PySem.W.Frag) : Sp := fun vs H Q _ => ∃ (p : Addr) (l : Nat) (m b : Int), vs = [.ref p, .int (l : Int), .int m, .int b] ∧ PotAt p H ∧ l ≤ 8 ∧ 0 ≤ m ∧ m ≤ 6 ∧ 0 ≤ b ∧ b ≤ 60 ∧
  ∀ ts v H', Sums l b ts → DicV (RatV K) ts H' v → Gr p H H' → PotAt p H' → Q v H'
theorem sc__law_poly : FnScope ["_law_pot_here", "_law_letters", "_law_most", "_law_deep"] ["_law_pot_here", "_law_letters", "_law_most", "_law_deep"] (defScope s__law_poly) := ⟨rfl, rfl, rfl, by decide +kernel, rfl, by decide +kernel, by decide +kernel⟩
theorem ok_law_poly (F__law_terms : Fd P w K mg base 4 "_law_terms" ["_law_pot_here", "_law_letters", "_law_most", "_law_deep"] (SpTerms K)) (F__law_sums : Fd P w K mg base 3 "_law_sums" ["_law_terms_here"] (SpSums K)) : Fd P w K mg base 5 "_law_poly" ["_law_pot_here", "_law_letters", "_law_most", "_law_deep"] (SpPoly K) := by
  refine mkFd T.t__law_poly (sc__law_poly T) (fun _ _ _ _ _ _ us hl => match us, hl with | [_, _, _, _], _ => rfl) (fun vs H Q E h => by obtain ⟨_, _, _, _, rfl, _⟩ := h; rfl) (fun cdv A outer s H vs Q E hr h => ?_)
  obtain ⟨p, l, m, b, rfl, hp, hl, hm0, hm, hb0, hb, q⟩ := h
  refine ⟨_, (pss_one (ps_ret (pe_f F__law_sums (hr.mono (by omega)) rfl (pa_cons (pe_f F__law_terms (hr.mono (by omega)) rfl (pa_cons (pv 0) (pa_cons (pv 1) (pa_cons (pv 2) (pa_cons (pv 3) pa_nil))))) pa_nil)))), ?_⟩
  refine ⟨_, rfl, _, rfl, _, rfl, _, rfl, p, l, m, b, rfl, hp, hl, hm0, by omega, hb0, hb, fun us v H1 hu hd hv g1 hp1 => ⟨us, v, rfl, hv, ⟨by omega, l, b, hd⟩, fun r H2 e2 hr => q _ r H2 (sums_ok hb hd (by omega)) hr (g1.trans (Gr.same e2)) (hp1.same e2)⟩⟩
abbrev SpLTold (K : PySem.W.Frag) : Sp := Pr1 (DicV (RatV K)) (PolyV K) (fun ts => (∃ l, 1 ≤ l ∧ KeysOk l ts) ∧ ts.length < 64 ∧ ∀ t ∈ ts, NormR t.2) told
theorem sc__law_told : FnScope ["_law_sums_here", "_law_exponents"] ["_law_sums_here"] (defScope s__law_told) := ⟨rfl, rfl, rfl, by decide +kernel, rfl, by decide +kernel, by decide +kernel⟩
theorem ok_law_told : Fd P w K mg base 1 "_law_told" ["_law_sums_here"] (SpLTold K) := by
  refine mkFd T.t__law_told (sc__law_told T) (fun _ _ _ _ _ _ us hl => match us, hl with | [_], _ => rfl) len1 (fun cdv A outer s H vs Q E hr h => ?_)
  obtain ⟨ts, v, rfl, ha, ⟨⟨l, hd1, hk⟩, h64, hn⟩, q⟩ := h
  refine ⟨_, (pss_one (ps_ret (pe_tupleOf rfl T.f_tuple (pe_lc (own := [("_law_exponents", 1)]) rfl (sc__law_told T).nd (pi_list (pe_callB (cr_sortT (B := 64) hd1) rfl T.f_sorted bt_sorted (pa_cons (pe_callTy (call_list_dT rfl) rfl T.f_list bt_list (pa_cons (pv 0) pa_nil)) pa_nil))) (blkOk_by (own := [("_law_exponents", 1)]) (N := ["_law_sums_here", "_law_exponents"]) (sc := defScope s__law_told) (by decide +kernel)) (fun _ _ _ _ _ => (pg_name (i := 1) (sc__law_told T).nd rfl (Or.inl rfl))) (fun _ _ _ _ _ => (pts_one (pt_cmpR op_ne (pe_ix (r := rIxT K) ix_tup (pe_dget (hu_of hr) (pv 0) (pv 1) (fun _ _ => rfl)) pe_int (fun _ _ => rfl)) pe_int (nomark _)))) (fun _ _ _ _ _ => (pe_tup (pa_cons (pv 1) (pa_cons (pe_dget (hu_of hr) (pv 0) (pv 1) (fun _ _ => rfl)) pa_nil)))))))), ?_⟩
  have av := er_var (A := RdV (RatV K)) (a := ts) (σ := start ["_law_sums_here", "_law_exponents"] [v]) 0 rfl (dic_rd ha)
  have hs := er_sortK (K := K) hk h64 (er_listDicT av)
  have hlen := (srt_perm ts).length_eq
  refine s_ret (ER.eq (er_tupleL (er_lcL (A := KeyT) (B := TermV K) (fun t : Tm => !decide (t.2.1 = 0)) (fun t : Tm => t) hs (by omega) fun t x H1 mt e hx => ?_)) ?_) q
  · have mt' := (srt_perm ts).mem_iff.mp mt
    have xv : KeyV t.1 H1 x := hx
    have gv := er_dget (A := RatV K) (l := ts) (k := t.1) (a := t.2) (er_var (A := RdV (RatV K)) (a := ts) (σ := [some v, some x]) 0 rfl (dic_rd (Mo.mo e ha))) (er_var (A := KeyV) (a := t.1) (σ := [some v, some x]) 1 rfl xv) (getL_mem hk.nd mt')
    exact turn_name rfl (et_test (er_neI (er_rat0 gv) er_int)) fun _ => er_tupPair (er_var (A := KeyV) 1 rfl xv) gv
  · rw [List.map_id']
    refine List.filter_congr fun t mt => ?_
    unfold nzB
    congr 1
    exact decide_eq_decide.mpr (norm_num0 (hn t ((srt_perm ts).mem_iff.mp mt)))
abbrev SpLValue (K : PySem.W.Frag) : Sp := Pr2 (DicV (RatV K)) (TupV K (RatV K)) (RatV K) (fun ts pt => VOk ts pt ∧ (ts.map (·.1)).Nodup) (fun ts pt => sumV prodL pt (0, 1) ts)
theorem sc__law_value : FnScope ["_law_sums_here", "_law_point_here", "_law_found", "_law_exponents", "_law_term", "_law_often", "_law_ratio_here", "_law_turn"] ["_law_sums_here", "_law_point_here"] (defScope s__law_value) := ⟨rfl, rfl, rfl, by decide +kernel, rfl, by decide +kernel, by decide +kernel⟩
theorem ok_law_value (F__law_add : Fd P w K mg base 2 "_law_add" ["_law_one", "_law_other"] (SpRR K addR)) (F__law_mul : Fd P w K mg base 2 "_law_mul" ["_law_one", "_law_other"] (SpRR K mulR)) : Fd P w K mg base 3 "_law_value" ["_law_sums_here", "_law_point_here"] (SpLValue K) := by
  refine mkFd T.t__law_value (sc__law_value T) (fun _ _ _ _ _ _ us hl => match us, hl with | [_, _], _ => rfl) len2 (fun cdv A outer s H vs Q E hr h => ?_)
  obtain ⟨ts, pt, v, vp, rfl, ha, hp, ⟨hok, hnd⟩, q⟩ := h
  refine ⟨_, (pss_cons (ps_set (i := 2) (sc__law_value T).nd rfl (Or.inl rfl) (pe_tup (pa_cons pe_int (pa_cons pe_int pa_nil)))) (pss_cons (ps_lock (ps_for PassesOwn.never rfl (pi_keys (pv 0)) (pg_name (i := 3) (sc__law_value T).nd rfl (Or.inl rfl)) (pss_cons (ps_set (i := 4) (sc__law_value T).nd rfl (Or.inl rfl) (pe_dget (hu_of hr) (pv 0) (pv 3) (fun _ _ => rfl))) (pss_cons (ps_for PassesOwn.never rfl (RZ.pi_zipA rfl T.f_zip (pa_cons (pv 3) (pa_cons (pv 1) pa_nil))) (pg_tup rfl (pgs_cons (pg_name (i := 5) (sc__law_value T).nd rfl (Or.inl rfl)) (pgs_cons (pg_name (i := 6) (sc__law_value T).nd rfl (Or.inl rfl)) pgs_nil))) (pss_one (ps_for PassesOwn.never rfl (pi_range1 rfl T.f_range (pa_cons (pv 5) pa_nil)) (pg_name (i := 7) (sc__law_value T).nd rfl (Or.inl rfl)) (pss_one (ps_set (i := 4) (sc__law_value T).nd rfl (Or.inl rfl) (pe_f F__law_mul (hr.mono (by omega)) rfl (pa_cons (pv 4) (pa_cons (pv 6) pa_nil)))))))) (pss_one (ps_set (i := 2) (sc__law_value T).nd rfl (Or.inl rfl) (pe_f F__law_add (hr.mono (by omega)) rfl (pa_cons (pv 2) (pa_cons (pv 4) pa_nil))))))))) (pss_one (ps_ret (pv 2))))), ?_⟩
  refine s_set 2 (er_rat (K := K) (i := 0) (j := 1) er_int er_int) fun v2 H1 e1 h2 => ?_
  obtain ⟨d, kvs, rfl, hd, he⟩ := (Mo.mo e1 ha : DicV (RatV K) ts H1 v)
  refine s_forK (A := RatV K) (i := 0) (j := 3) (l := ts) rfl hd he fun od => ?_
  have tm1 : TM H1 (upd H1 d (.frz od (.dT kvs))) := TM.dT hd
  refine ⟨fun i σ' H' => ∃ f x3 x4 x5 x6 x7, σ' = [some (.ref d), some vp, some f, x3, x4, x5, x6, x7] ∧ Same (upd H1 d (.frz od (.dT kvs))) H' ∧ RatV K (sumV prodL pt (0, 1) (ts.take i)) H' f, ⟨v2, none, none, none, none, none, rfl, Same.refl _, Tu.tu tm1 h2⟩, fun i σ' H' p => ?_, fun i t x σ' H' ht p hx D' hD => ?_, fun σ' H' p => ?_⟩
  · obtain ⟨_, _, _, _, _, _, _, e, _⟩ := p; exact ⟨TM.same e, e _ _ upd_same⟩
  · obtain ⟨f, x3, x4, x5, x6, x7, rfl, e3, hf⟩ := p
    have mt := List.mem_of_getElem? ht
    obtain ⟨zl, zp⟩ := hok.zip mt
    have hp1 : TupV K (RatV K) pt H' vp := Tu.tu ((TM.same e1).trans (tm1.trans (TM.same e3))) hp
    refine s_set 4 (er_dget (A := RatV K) (l := ts) (k := t.1) (a := t.2) (er_var (A := RdV (RatV K)) (σ := [some (.ref d), some vp, some f, some x, x4, x5, x6, x7]) 0 rfl (rd_ent (tm1.trans (TM.same e3)) (.inr ⟨od, e3 _ _ upd_same⟩) he)) (er_var (A := KeyV) (a := t.1) 3 rfl hx) (getL_mem hnd mt)) fun v4 H4 e4 h4 => ?_
    refine s_forZ (A := IntV) (B := RatV K) (l := t.1) (m := pt) ((er_var (A := KeyV) (a := t.1) 3 rfl (Mo.mo e4 hx)).imp fun _ _ z => key_tup z) (er_var (A := TupV K (RatV K)) (a := pt) 1 rfl (Mo.mo e4 hp1)) fun H5 e5 => ⟨fun j σ' H6 => ∃ pr x5 x6 x7, σ' = [some (.ref d), some vp, some f, some x, some pr, x5, x6, x7] ∧ Same H5 H6 ∧ RatV K (prodL t.2 ((t.1.zip pt).take j)) H6 pr, ⟨v4, x5, x6, x7, rfl, Same.refl _, Mo.mo e5 h4⟩, fun j σ' H6 p => ?_, fun j y σ' H6 H7 p sm2 ix => ?_, fun σ' H6 p => ?_⟩
    · obtain ⟨_, _, _, _, _, e, _⟩ := p; exact TM.same e
    · obtain ⟨pr, x5, x6, x7, rfl, e6, hpr⟩ := p
      obtain ⟨z, hz, hy⟩ := ix
      have mz := List.mem_of_getElem? hz
      obtain ⟨z0, z4, zs⟩ := zp z mz
      obtain ⟨c, xo, xn, rfl, hs2, hxo, hxn⟩ := hy
      refine ⟨c, _, rfl, hs2, rfl, xo, [xn], rfl, xn, [], rfl, rfl, ?_⟩
      have hpr := Mo.mo sm2 hpr
      have zsz : SzR 100 (prodL t.2 ((t.1.zip pt).take j)) := (prodL_sz (hok.sz t mt) fun p mp => zp p (List.mem_of_mem_take mp)).mono (by rw [List.length_take]; omega)
      refine s_forR (n := z.1) (er_var (A := IntV) (a := z.1) 5 rfl hxo) (by omega) z0 fun H8 e8 => ⟨fun i2 σ' H9 => ∃ pr2 x7, σ' = [some (.ref d), some vp, some f, some x, some pr2, some xo, some xn, x7] ∧ Same H8 H9 ∧ RatV K (mulN (prodL t.2 ((t.1.zip pt).take j)) z.2 i2) H9 pr2, ⟨pr, x7, rfl, Same.refl _, Mo.mo e8 hpr⟩, fun i2 σ' H9 hi2 p => ?_, fun σ' H9 p => ?_⟩
      · obtain ⟨pr2, x7, rfl, e9, hpr2⟩ := p
        refine s_set1 4 (er_call2 (A := RatV K) (B := RatV K) (er_var (A := RatV K) 4 rfl hpr2) (er_var (A := RatV K) (a := z.2) 6 rfl (Mo.mo (e8.trans e9) hxn)) (two_of T (m := 100 + 4 * i2) (n := 4) (mulN_sz zsz zs i2) zs (by omega) (by omega) (by omega))) fun v6 H10 e10 h6 => ⟨v6, _, rfl, e9.trans e10, h6⟩
      · obtain ⟨pr2, x7, rfl, e9, hpr2⟩ := p
        refine ⟨pr2, _, _, _, rfl, ((e6.trans sm2).trans e8).trans e9, ?_⟩
        rw [take_snoc hz, prodL_snoc]
        exact hpr2
    · obtain ⟨pr, x5, x6, x7, rfl, e6, hpr⟩ := p
      rw [List.take_of_length_le (Nat.le_refl _)] at hpr
      have E6 : Same H' H6 := e4.trans (e5.trans e6)
      have sz1 : SzR 700 (sumV prodL pt (0, 1) (ts.take i)) := (sumV_sz (szR01 (m := 1) (by omega)) fun u mu => hok.gL (List.mem_of_mem_take mu)).mono (by rw [List.length_take]; have := hok.len; omega)
      refine s_set1 2 (er_call2 (A := RatV K) (B := RatV K) (er_var (A := RatV K) 2 rfl (Mo.mo E6 hf)) (er_var (A := RatV K) 4 rfl hpr) (two_of T (m := 700) (n := 100) sz1 (hok.gL mt) (by omega) (by omega) (by omega))) fun v7 H7 e7 h7 => ?_
      show D'.nx _ _
      rw [hD]
      refine ⟨v7, _, _, _, _, _, rfl, e3.trans (E6.trans e7), ?_⟩
      rw [take_snoc ht, sumV_snoc]
      exact h7
  · obtain ⟨f, x3, x4, x5, x6, x7, rfl, e3, hf⟩ := p
    rw [List.take_of_length_le (Nat.le_refl _)] at hf
    exact s_ret (er_var (A := RatV K) 2 rfl (Tu.tu (TM.frz (e3 _ _ upd_same)) hf)) fun r H4 e4 hr => q r H4 (e1.trans ((unlock_same hd e3).trans e4)) hr
abbrev SpLN (K : PySem.W.Frag) (l : Nat) : Sp := Pr2 (DicV (RatV K)) IntV (PurV K) (fun ts left => left = (l : Int) ∧ TsOk l 8 ts ∧ ts.length ≤ 1000) (fun ts _ => nest l ts)
theorem sc__law_nested : FnScope ["_law_sums_here", "_law_letters", "_law_most", "_law_found", "_law_exponents", "_law_often", "_law_part"] ["_law_sums_here", "_law_letters"] (defScope s__law_nested) := ⟨rfl, rfl, rfl, by decide +kernel, rfl, by decide +kernel, by decide +kernel⟩
theorem ln_level (l : Nat) (spr : Sp) (F__law_nested : Fd P w K mg base l "_law_nested" ["_law_sums_here", "_law_letters"] spr) (hsp : ∀ l', l = l' + 1 → spr = SpLN K l') : Fd P w K mg base (l + 1) "_law_nested" ["_law_sums_here", "_law_letters"] (SpLN K l) := by
  refine mkFd T.t__law_nested (sc__law_nested T) (fun _ _ _ _ _ _ us hl => match us, hl with | [_, _], _ => rfl) len2 (fun cdv A outer s H vs Q E hr h => ?_)
  obtain ⟨ts, i, v, vi, rfl, ha, hi_, ⟨rfl, hok, hz⟩, q⟩ := h
  refine ⟨_, (pss_cons (ps_if (pt_cmpR op_eq (pv 1) pe_int (nomark _)) (pss_one (ps_ret (pe_dget2 (hu_of hr) (pv 0) (pe_tup pa_nil) (pe_tup (pa_cons pe_int (pa_cons pe_int pa_nil))) ⟨rfl, rfl, rfl, rfl⟩))) pss_nil) (pss_cons (ps_par (i := 2) (j := 3) rfl (sc__law_nested T).nd rfl rfl (by decide) rfl rfl (pa_cons (pe_callB (cr_max rfl) rfl T.f_max bt_max (pa_cons (pe_op op_cat (pe_lock (pe_lc (own := [("_law_exponents", 4)]) rfl (sc__law_nested T).nd (pi_keys (pv 0)) (blkOk_by (own := [("_law_exponents", 4)]) (N := ["_law_sums_here", "_law_letters", "_law_most", "_law_found", "_law_exponents", "_law_often", "_law_part"]) (sc := defScope s__law_nested) (by decide +kernel)) (fun _ _ _ _ _ => (pg_name (i := 4) (sc__law_nested T).nd rfl (Or.inl rfl))) (fun _ _ _ _ _ => pts_nil) (fun _ _ _ _ _ => (pe_ix (r := rIxT K) ix_tup (pv 4) pe_int (fun _ _ => rfl))))) (pe_lst (pa_cons pe_int pa_nil))) pa_nil)) (pa_cons (pe_lst pa_nil) pa_nil)) rfl) (pss_cons (ps_for PassesOwn.never rfl (pi_range1 rfl T.f_range (pa_cons (pe_op op_add (pv 2) pe_int) pa_nil)) (pg_name (i := 5) (sc__law_nested T).nd rfl (Or.inr rfl)) (pss_cons (ps_set (i := 6) (sc__law_nested T).nd rfl (Or.inl rfl) (pe_callTy (cr_dictT rfl hr.units) rfl T.f_dict bt_dict (pa_cons (pe_lock (pe_lc (own := [("_law_exponents", 4)]) rfl (sc__law_nested T).nd (pi_keys (pv 0)) (blkOk_by (own := [("_law_exponents", 4)]) (N := ["_law_sums_here", "_law_letters", "_law_most", "_law_found", "_law_exponents", "_law_often", "_law_part"]) (sc := defScope s__law_nested) (by decide +kernel)) (fun _ _ _ _ _ => (pg_name (i := 4) (sc__law_nested T).nd rfl (Or.inl rfl))) (fun _ _ _ _ _ => (pts_one (pt_cmpR op_eq (pe_ix (r := rIxT K) ix_tup (pv 4) pe_int (fun _ _ => rfl)) (pv 5) (nomark _)))) (fun _ _ _ _ _ => (pe_tup (pa_cons (pe_slice (r := rSlA K) sl_tupA (pv 4) (po_some pe_int) po_none) (pa_cons (pe_dget (hu_of hr) (pv 0) (pv 4) (fun _ _ => rfl)) pa_nil)))))) pa_nil))) (pss_one (ps_expr (pe_bm PySem.F.plainAttrs_list PySem.F.slot_list_append PySem.F.type_list_append mt_append (pv 3) (pa_cons (pe_f F__law_nested (hr.mono (by omega)) rfl (pa_cons (pv 6) (pa_cons (pe_op op_sub (pv 1) pe_int) pa_nil))) pa_nil)))))) (pss_one (ps_ret (pe_tupleOf rfl T.f_tuple (pv 3))))))), ?_⟩
  have iv := er_var (A := IntV) (a := (l : Int)) (σ := start ["_law_sums_here", "_law_letters", "_law_most", "_law_found", "_law_exponents", "_law_often", "_law_part"] [v, vi]) 1 rfl hi_
  cases l with
  | zero =>
    refine s_when (b := true) (et_test (er_eqI iv er_int)) (fun _ H1 e1 => ?_) (fun z => nomatch z)
    refine s_ret (R := PurV K (nest 0 ts)) ((er_dget2 (A := RatV K) (l := ts) (k := []) (er_var (A := RdV (RatV K)) 0 rfl (dic_rd (Mo.mo e1 ha))) er_key00 (er_rat (K := K) (i := 0) (j := 1) er_int er_int)).imp fun _ _ z => ?_) fun r H2 e2 hr => q r H2 (e1.trans e2) hr
    rcases keys0 hok.keys with rfl | ⟨c, rfl⟩
    · exact pur_rat z
    · exact pur_rat z
  | succ l =>
    have hsp := hsp l rfl
    subst hsp
    refine s_when (b := false) (ET.eq (et_test (er_eqI iv er_int)) (by simp; omega)) (fun z => nomatch z) (fun _ H1 e1 => ?_)
    obtain ⟨d, kvs, rfl, hd0, he0⟩ := ha
    have hd := e1 _ _ hd0
    have he : Ent (RatV K) H1 kvs ts := Ent.tu (TM.same e1) he0
    have t0 := top_nonneg ts
    have t8 := top_bd (by decide : (0 : Int) ≤ 8) hok
    refine s_par 2 3 (A := IntV) (a := topE ts) (B := fun (_ : Unit) H' v => ∃ f, v = .ref f ∧ H' f = some (.lst []) ∧ H f = none) (b := ()) (ER.eq (er_max (er_catL (A := IntV) ((er_lcK (A := RatV K) (B := IntV) (l := ts) (i := 0) (fun _ => true) (fun t : Tm => t.1.headD 0) rfl hd he (by omega) fun t x H2 mt tm rd hx => by
      obtain ⟨x0, k, ek⟩ := key_cons (hok.keys.len t mt)
      obtain ⟨t1, t2⟩ := t
      cases ek
      exact turn_name rfl et_yes fun _ => er_key0 (er_var (A := KeyV) (a := x0 :: k) 4 rfl hx)).eq (by rw [filter_yes])) (er_lst1 er_int) (by rw [List.length_map]; simp; omega)) (by simp)) (top_app ts)) (er_lst0F H e1) fun g fv H2 e2 hg hf => ?_
    obtain ⟨f, rfl, hf, hfn⟩ := hf
    refine s_forR (n := topE ts + 1) (er_I0 (er_var (A := IntV) (a := topE ts) 2 rfl hg) er_int) (by omega) (by omega) fun H3 e3 => ?_
    refine ⟨fun i σ' H' => ∃ x4 x5 x6 acc, σ' = [some (.ref d), some vi, some g, some (.ref f), x4, x5, x6] ∧ H' f = some (.lst acc) ∧ Same H H' ∧ All2 (PurV K) H' acc ((List.range i).map fun (j : Nat) => nest l (part (j : Int) ts)), ⟨none, none, none, [], rfl, e3 _ _ hf, (e1.trans e2).trans e3, .nil⟩, fun i σ' H' hi p => ?_, fun σ' H' p => ?_⟩
    · obtain ⟨x4, x5, x6, acc, rfl, h1, h2, h3⟩ := p
      have hacc : acc.length = i := by have := Paired.length h3; simpa using this
      refine s_set 6 (er_dictT (K := K) (ts := part (i : Int) ts) (part_keys hok.keys _).nd (er_lcK (A := RatV K) (B := TermV K) (l := ts) (i := 0) (fun t : Tm => decide (t.1.headD 0 = (i : Int))) (fun t : Tm => (t.1.tail, t.2)) rfl (h2 _ _ hd0) (Ent.tu (TM.same h2) he0) (by omega) fun t x H4 mt tm rd hx => ?_)) fun v7 H4 e4 h7 => ?_
      · obtain ⟨x0, k, ek⟩ := key_cons (hok.keys.len t mt)
        obtain ⟨t1, t2⟩ := t
        cases ek
        have kx := er_var (A := KeyV) (a := x0 :: k) (H := H4) (σ := [some (.ref d), some vi, some g, some (.ref f), some x, some (.int (i : Int)), x6]) 4 rfl hx
        exact turn_name rfl (et_test (er_eqI (er_key0 kx) (er_var (A := IntV) (a := (i : Int)) 5 rfl rfl))) fun _ => er_tupPair (p := (k, t2)) (er_tailK kx) (er_dget (A := RatV K) (l := ts) (k := x0 :: k) (a := t2) (er_var (A := RdV (RatV K)) 0 rfl (rd_ent ((TM.same h2).trans tm) rd he0)) kx (getL_mem hok.keys.nd mt))
      · refine ⟨.ref f, rfl, tyV_lst (e4 _ _ h1), er_call2 (A := DicV (RatV K)) (a := part (i : Int) ts) (B := IntV) (b := (l : Int)) (C := PurV K) (er_var 6 rfl h7) (ER.eq (er_I0 (er_var (A := IntV) 1 rfl (show IntV ((l + 1 : Nat) : Int) H4 vi from hi_)) er_int) (by omega)) ⟨rfl, part_ok hok _, by have := part_len (i : Int) ts; omega⟩ H4 (Same.refl _) _ fun r H5 e5 hr => ⟨f, acc, r, rfl, rfl, e5 _ _ (e4 _ _ h1), sz_lt (by omega), ?_⟩⟩
        have tm : TM H5 (upd H5 f (.lst (acc ++ [r]))) := TM.lst (e5 _ _ (e4 _ _ h1))
        refine ⟨_, _, _, acc ++ [r], rfl, upd_same, same_mut (h2.trans (e4.trans e5)) hfn, ?_⟩
        rw [range_snoc]
        exact Paired.snoc (All2.tu ((TM.same (e4.trans e5)).trans tm) h3) (Tu.tu tm hr)
    · obtain ⟨x4, x5, x6, acc, rfl, h1, h2, h3⟩ := p
      rw [show (topE ts + 1).toNat = (topE ts).toNat + 1 by omega] at h3
      exact s_ret ((er_tupleL (A := PurV K) (er_var 3 rfl ⟨f, acc, rfl, h1, h3⟩)).imp fun _ _ z => pur_tup z) fun r H6 e6 hr => q r H6 (h2.trans e6) hr
theorem ok_law_nested : ∀ l : Nat, Fd P w K mg base (l + 1) "_law_nested" ["_law_sums_here", "_law_letters"] (SpLN K l)
  | 0 => ln_level T 0 _ (mkNever T.t__law_nested (fun _ _ _ _ _ _ us hl => match us, hl with | [_, _], _ => rfl)) fun l' e => nomatch e
  | l + 1 => ln_level T (l + 1) _ (ok_law_nested l) fun l' e => by cases e; rfl
end
end K18

set_option Elab.async false
set_option linter.all false
set_option maxRecDepth 100000
set_option maxHeartbeats 4000000
/-! The law's own test of a form. -/
namespace K18
open PySem PySem.Spec PyProof.Rows L2 RZ
/-! ### good data: shaped, with numbers that are not too large -/
def smallD : PyData → Bool
  | .int i => decide (i.natAbs < 2 ^ 100)
  | .list ds => ds.attach.all fun ⟨d, _⟩ => smallD d
  | .tuple ds => ds.attach.all fun ⟨d, _⟩ => smallD d
  | _ => true
theorem smallD_list (ds : List PyData) : smallD (.list ds) = ds.all smallD := by rw [smallD]; simp
theorem smallD_tuple (ds : List PyData) : smallD (.tuple ds) = ds.all smallD := by rw [smallD]; simp
structure Good (n : Nat) (d : PyData) : Prop where
  lay : PyData.canLay0 d = true
  dep : PyData.depth d ≤ n
  small : smallD d = true
theorem canLay_mem : ∀ {ds : List PyData}, PyData.canLayAll0 ds = true → ∀ d ∈ ds, PyData.canLay0 d = true
  | [], _, d, m => by cases m
  | e :: ds, h, d, m => by
    rw [PyData.canLayAll0, Bool.and_eq_true] at h
    rcases List.mem_cons.mp m with rfl | m
    · exact h.1
    · exact canLay_mem h.2 d m
theorem depth_mem : ∀ {ds : List PyData} {d : PyData}, d ∈ ds → PyData.depth d ≤ PyData.depthAll ds
  | e :: ds, d, m => by
    rw [PyData.depthAll]
    rcases List.mem_cons.mp m with rfl | m
    · exact Nat.le_max_left _ _
    · exact Nat.le_trans (depth_mem m) (Nat.le_max_right _ _)
theorem Good.tup {n : Nat} {ds : List PyData} (h : Good (n + 1) (.tuple ds)) : ∀ d ∈ ds, Good n d := fun d m => by
  obtain ⟨h1, h2, h3⟩ := h
  rw [PyData.canLay0] at h1
  rw [PyData.depth] at h2
  rw [smallD_tuple] at h3
  exact ⟨canLay_mem h1 d m, by have := depth_mem m; omega, List.all_eq_true.mp h3 d m⟩
theorem good_tup {n : Nat} {ds : List PyData} (h : ∀ d ∈ ds, Good n d) : Good (n + 1) (.tuple ds) :=
  ⟨(shape_tup fun d m => ⟨(h d m).lay, (h d m).dep⟩).1, (shape_tup fun d m => ⟨(h d m).lay, (h d m).dep⟩).2, by rw [smallD_tuple]; exact List.all_eq_true.mpr fun d m => (h d m).small⟩
theorem good_list {n : Nat} {ds : List PyData} (h : ∀ d ∈ ds, Good n d) : Good (n + 1) (.list ds) := by
  refine ⟨?_, ?_, by rw [smallD_list]; exact List.all_eq_true.mpr fun d m => (h d m).small⟩
  · rw [PyData.canLay0]; exact canLay_all fun d m => (h d m).lay
  · rw [PyData.depth]; have := depth_all fun d m => (h d m).dep; omega
theorem Good.mono {m n : Nat} {d : PyData} (h : Good m d) (l : m ≤ n) : Good n d := ⟨h.lay, Nat.le_trans h.dep l, h.small⟩
theorem Good.shaped {n : Nat} {d : PyData} (h : Good n d) (l : n ≤ 60) : SeqAt.shaped d = true := shaped_of h.lay (by have := h.dep; omega)
theorem tup_pos {n : Nat} {ds : List PyData} (h : Good n (.tuple ds)) : ∃ m, n = m + 1 := by
  have := h.dep
  rw [PyData.depth] at this
  exact ⟨n - 1, by omega⟩
theorem Good.mem {n : Nat} {ds : List PyData} (h : Good n (.tuple ds)) : ∀ d ∈ ds, Good n d := by
  obtain ⟨m, rfl⟩ := tup_pos h
  exact fun d md => (h.tup d md).mono (by omega)
/-! ### the dict of a form's terms -/
def SpTO (K : PySem.W.Frag) (l : Nat) : Sp := fun vs H Q _ => ∃ (d : PyData) (v : V), vs = [v, .int (l : Int)] ∧ DatV K d H v ∧ Good 60 d ∧
  ∀ r H', Same H H' → ((formB l d = false ∧ r = .non) ∨ (formB l d = true ∧ ∃ a kvs, r = .ref a ∧ H a = none ∧ H' a = some (.dT kvs) ∧ Ent (RatV K) H' kvs (sizeP l d))) → Q r H'
theorem nzT_app (a b : List Tm) : nzT (a ++ b) = nzT a ++ nzT b := List.filter_append ..
theorem nzT_map (i : Int) (a : List Tm) : nzT (a.map fun t => (i :: t.1, t.2)) = (nzT a).map fun t => (i :: t.1, t.2) := by
  unfold nzT
  rw [List.filter_map]
  rfl
theorem form_tup {l : Nat} {ds : List PyData} (h1 : 1 ≤ ds.length) (h9 : ds.length ≤ 9) (h : ∀ d ∈ ds, formB l d = true) : formB (l + 1) (.tuple ds) = true := by
  rw [formB, decide_eq_true h1, decide_eq_true h9, List.all_eq_true.mpr h]
  rfl
theorem form_no {l : Nat} {ds : List PyData} {d : PyData} (m : d ∈ ds) (h : formB l d = false) : formB (l + 1) (.tuple ds) = false := by
  cases q : formB (l + 1) (.tuple ds) with
  | false => rfl
  | true => rw [(form_tuple q).2.2 d m] at h; cases h
theorem nodup_new {A B : List Tm} (nd : ((A ++ B).map (·.1)).Nodup) {j : Nat} {t : Tm} (h : B[j]? = some t) : t.1 ∉ (A ++ B.take j).map (·.1) := by
  intro m
  have hs : ((A ++ B.take j) ++ [t]).Sublist (A ++ B) := by
    rw [List.append_assoc, ← take_snoc h]
    exact (List.Sublist.refl A).append (List.take_sublist _ _)
  have := (hs.map (·.1)).nodup nd
  rw [List.map_append, List.nodup_append] at this
  exact this.2.2 t.1 m t.1 (by simp) rfl
theorem sizeP0 {n u : Int} (h : isRatD (ratD (n, u)) = true) : sizeP 0 (ratD (n, u)) = if n = 0 then [] else [([], (n, u))] := by
  obtain ⟨_, hn⟩ := isRat_ratOf h
  have hn : NormR (n, u) := hn
  show nzT [([], (n, u))] = _
  unfold nzT nzB
  rw [List.filter_cons, List.filter_nil]
  by_cases e : n = 0
  · have := (norm_num0 hn).mp e
    rw [if_pos e, if_neg]
    simp [this]
  · have h1 : ¬ ((n, u) = ((0, 1) : Rt)) := fun z => e ((norm_num0 hn).mpr z)
    rw [if_neg e, if_pos]
    show (!decide ((n, u) = ((0, 1) : Rt))) = true
    rw [decide_eq_false h1]; rfl
theorem mkR_self {n u : Int} (h : 0 < u) : mkR n u = (n, u) ↔ Nat.gcd n.natAbs u.natAbs = 1 := by
  constructor
  · intro e
    have := (mkR_norm (n := n) h).2
    rw [e] at this
    exact this
  · intro e
    exact norm_eq_mk (r := (n, u)) ⟨h, e⟩
section
variable {K : PySem.W.Frag} {σ : L2.St} {H : Hp} {ta tb te tl : TE} {tu : TS} {g : TG} {D : Ends} {α β : Type} {A : Rel α} {B : Rel β}
/-- over enumerate of a tuple that was there before -/
theorem s_forEM [Mo A] {l : List α} {i : Nat} {v : V} {H0 : Hp} (hi : σ[i]? = some (some v)) (hv : TupV K A l H0 v) (e0 : Same H0 H) (Pv : Nat → L2.St → Hp → Prop) (p0 : Pv 0 σ H) (pm : ∀ i σ' H', Pv i σ' H' → Same H0 H')
    (ps : ∀ i x σ' H' H'', Pv i σ' H' → Same H' H'' → (∃ a, l[i]? = some a ∧ PairV K IntV A ((i : Int), a) H'' x) → g x σ' H'' fun σ2 H2 => tu { D with nx := Pv (i + 1), ct := Pv (i + 1), bk := D.nx } σ2 H2) (pd : ∀ σ' H', Pv l.length σ' H' → D.nx σ' H') : tFor (iEnumT K (tCons (tVar i) tNil)) g tu D σ H := by
  obtain ⟨a, xs, rfl, hs, h2⟩ := hv
  have hl := Paired.length h2
  refine ⟨_, hi, a, xs, rfl, tm_seqT (TM.same e0) hs, for_it walk_enumT Pv p0 (fun i σ' H' _ p => tm_seqT (TM.same (pm i σ' H' p)) hs) (fun i x σ' H' H'' hi p y => ?_) (fun σ' H' p => pd σ' H' (hl ▸ p))⟩
  obtain ⟨T, x, z, rfl, hT, rfl, hx, hz⟩ := y
  cases hx
  have sm := same_new (o := .tup [.int (i : Int), z]) hT
  have hi' : i < l.length := by omega
  have hb : l[i]? = some l[i] := List.getElem?_eq_getElem hi'
  exact ps i _ σ' H' _ p sm ⟨_, hb, T, _, z, rfl, SqT.of upd_same, rfl, Mo.mo ((pm i σ' H' p).trans sm) (paired_at (F := fun v a => A a H0 v) h2 hz hb)⟩
end
theorem pe_isiB {X : Cx} {K : PySem.W.Frag} {p1 pos : Pos} {e : Expr} {te : TE} {n : Str} {m : String} {q2 : Pos} (hk : X.K = K) (mi : X.mg "isinstance" = none) (gi : Gl X "isinstance") (he : PE X e te) (gn : Gl X n) (mn : X.mg n = none) (bn : bootBuiltins n = some (.type m)) (hn : n ≠ "__name__" := by decide) (hd : (n == ("__debug__" : Str)) = false := by decide)
    (h1 : starEach [e, .Name n q2] X.env = (false, eval e X.env) :: starEach [.Name n q2] X.env := by rfl) (h2 : starEach [.Name n q2] X.env = (false, eval (.Name n q2) X.env) :: starEach [] X.env := by rfl) (h3 : (backTo pos (starEach [.Name n q2] X.env)).any (·.1) = false := by rfl) :
    PE X (.Call (.Name "isinstance" p1) [e, .Name n q2] [] pos) (tCB (rIsi K) (tCons te (tCons (tC (.ty m)) tNil))) := by
  subst hk
  exact pe_isi mi gi he gn mn bn hn hd h1 h2 h3
section
variable {σ : L2.St} {H : Hp}
theorem et_isN {i : Nat} {x : V} (h : σ[i]? = some (some x)) : ET (tTest (tOp (fun x y H Q => y = V.non ∧ Q (.bl (decide (x = V.non))) H) (tVar i) (tC .non))) σ H (decide (x = .non)) := fun H1 e Q q => ⟨x, h, rfl, _, rfl, q H1 (Same.refl _)⟩
theorem er_disp {K : PySem.W.Frag} {r : Rt} {i : Nat} {v : V} (h : σ[i]? = some (some v)) (hv : RatV K r H v) : ER (tDisp1 (tTup tNil) (tVar i)) σ H (fun H' v => ∃ a kvs, v = .ref a ∧ H a = none ∧ H' a = some (.dT kvs) ∧ Ent (RatV K) H' kvs [([], r)]) := fun H1 e Q q p hp => by
  refine ⟨sz_of (by decide), fun t ht => ⟨v, h, t, [], rfl, upd_same, ?_, ?_⟩⟩
  · have hne : p ≠ t := fun z => by rw [z, upd_same] at ht; cases ht
    rw [upd_ne hne, upd_same]
  · have e2 := e.trans ((same_new (o := .dT []) hp).trans (same_new (o := .tup []) ht))
    have hpd : (upd (upd H1 p (.dT [])) t (.tup [])) p = some (.dT []) := by
      have hne : p ≠ t := fun z => by rw [z, upd_same] at ht; cases ht
      rw [upd_ne hne, upd_same]
    have sm : Same H1 (upd (upd (upd H1 p (.dT [])) t (.tup [])) p (.dT [([], v)])) := same_mut ((same_new hp).trans (same_new ht)) hp
    refine q _ _ sm ⟨p, _, rfl, e.free hp, upd_same, .cons ⟨rfl, ?_⟩ .nil⟩
    exact Tu.tu ((TM.same e2).trans (TM.dT hpd)) hv
end
section
variable {P : Program} {w : World} {K : PySem.W.Frag} {mg : Str → Option Value} {base : Heap} {k : Nat} (T : Txt K mg)
include T
theorem sc__law_terms_of : FnScope ["_law_value_here", "_law_letters", "_law_is_pair", "_law_one", "_law_found", "_law_often", "_law_part", "_law_inner", "_law_exponents"] ["_law_value_here", "_law_letters"] (defScope s__law_terms_of) := ⟨rfl, rfl, rfl, by decide +kernel, rfl, by decide +kernel, by decide +kernel⟩
theorem to_level (l : Nat) (h3 : l ≤ 3) (spr : Sp) (F__law_low : Fd P w K mg base 1 "_law_low" ["_law_number", "_law_under"] (SpMade K)) (F__law_terms_of : Fd P w K mg base (l + 1) "_law_terms_of" ["_law_value_here", "_law_letters"] spr) (hsp : ∀ l', l = l' + 1 → spr = SpTO K l') : Fd P w K mg base (l + 2) "_law_terms_of" ["_law_value_here", "_law_letters"] (SpTO K l) := by
  refine mkFd T.t__law_terms_of (sc__law_terms_of T) (fun _ _ _ _ _ _ us hl => match us, hl with | [_, _], _ => rfl) (fun vs H Q E h => by obtain ⟨_, _, rfl, _⟩ := h; rfl) (fun cdv A outer s H vs Q E hr h => ?_)
  obtain ⟨d, v, rfl, ha, hgood, q⟩ := h
  refine ⟨_, (pss_cons (ps_if (pt_cmpR op_eq (pv 1) pe_int (nomark _)) (pss_cons (ps_set (i := 2) (sc__law_terms_of T).nd rfl (Or.inl rfl) (pe_and (pe_isi T.f_isinstance rfl (pv 0) rfl T.f_tuple bt_tuple) (pe_one (pe_cmpR op_eq (pe_callB call_len_seq rfl T.f_len bt_len (pa_cons (pv 0) pa_nil)) pe_int (nomark _))))) (pss_cons (ps_if (PW.pt (pw_or (pt_not (pt_val (pv 2))) (pw_or1 (pt_not (pt_val (pe_callB (cr_all rfl) rfl T.f_all bt_all (pa_cons (pe_lc (own := [("_law_one", 3)]) rfl (sc__law_terms_of T).nd (pi_tup (pv 0)) (blkOk_by (own := [("_law_one", 3)]) (N := ["_law_value_here", "_law_letters", "_law_is_pair", "_law_one", "_law_found", "_law_often", "_law_part", "_law_inner", "_law_exponents"]) (sc := defScope s__law_terms_of) (by decide +kernel)) (fun _ _ _ _ _ => (pg_name (i := 3) (sc__law_terms_of T).nd rfl (Or.inl rfl))) (fun _ _ _ _ _ => pts_nil) (fun _ _ _ _ _ => (pe_and (pe_isiB (K := K) rfl T.f_isinstance rfl (pv 3) rfl T.f_int bt_int) (pe_one (pe_not (pe_isiB (K := K) rfl T.f_isinstance rfl (pv 3) rfl T.f_bool bt_bool)))))) pa_nil))))))) (pss_one (ps_ret pe_non)) pss_nil) (pss_cons (ps_if (PW.pt (pw_or (pt_cmpR op_lt (pe_ix ix_tup (pv 0) pe_int (fun _ _ => rfl)) pe_int (nomark _)) (pw_or1 (pt_cmpR (op_neD hr.units) (pe_f F__law_low (hr.mono (by omega)) rfl (pa_cons (pe_ix ix_tup (pv 0) pe_int (fun _ _ => rfl)) (pa_cons (pe_ix ix_tup (pv 0) pe_int (fun _ _ => rfl)) pa_nil))) (pv 0) (nomark _))))) (pss_one (ps_ret pe_non)) pss_nil) (pss_one (ps_ret (pe_ifExp (pt_cmpR op_ne (pe_ix ix_tup (pv 0) pe_int (fun _ _ => rfl)) pe_int (nomark _)) (pe_disp1 hr.units (pe_tup pa_nil) (pv 0)) pe_dnewT)))))) pss_nil) (pss_cons (ps_if (PW.pt (pw_or (pt_not (pt_val (pe_isi T.f_isinstance rfl (pv 0) rfl T.f_tuple bt_tuple))) (pw_or (pt_cmpR (op_eqD hr.units) (pv 0) (pe_tup pa_nil) (nomark _)) (pw_or1 (pt_cmpR op_gt (pe_callB call_len_seq rfl T.f_len bt_len (pa_cons (pv 0) pa_nil)) pe_int (nomark _)))))) (pss_one (ps_ret pe_non)) pss_nil) (pss_cons (ps_set (i := 4) (sc__law_terms_of T).nd rfl (Or.inl rfl) pe_dnewT) (pss_cons (ps_for PassesOwn.never rfl (pi_enumT rfl T.f_enumerate (pa_cons (pv 0) pa_nil)) (pg_tup rfl (pgs_cons (pg_name (i := 5) (sc__law_terms_of T).nd rfl (Or.inl rfl)) (pgs_cons (pg_name (i := 6) (sc__law_terms_of T).nd rfl (Or.inl rfl)) pgs_nil))) (pss_cons (ps_set (i := 7) (sc__law_terms_of T).nd rfl (Or.inl rfl) (pe_f F__law_terms_of (hr.mono (by omega)) rfl (pa_cons (pv 6) (pa_cons (pe_op op_sub (pv 1) pe_int) pa_nil)))) (pss_cons (ps_if (pt_cmpR op_isN (pv 7) pe_non (nomark _)) (pss_one (ps_ret pe_non)) pss_nil) (pss_one (ps_lock (ps_for PassesOwn.never rfl (pi_keys (pv 7)) (pg_name (i := 8) (sc__law_terms_of T).nd rfl (Or.inl rfl)) (pss_one (ps_dput (hu_of hr) (pv 4) (pe_op op_catA (pe_tup (pa_cons (pv 5) pa_nil)) (pv 8)) (pe_dget (hu_of hr) (pv 7) (pv 8) (fun _ _ => rfl)) rfl)))))))) (pss_one (ps_ret (pv 4))))))), ?_⟩
  have no : ∀ (hf : formB l d = false) (σ : L2.St) (H1 : Hp) (D : Ends), Same H H1 → D.rt = Q → tRet (tC .non) D σ H1 := fun hf σ H1 D e hD => by
    refine s_ret (er_c (A := NonV) (a := ()) rfl) fun r H2 e2 hr => ?_
    rw [hD]
    exact q r H2 (e.trans e2) (.inl ⟨hf, hr⟩)
  have iv := er_var (A := IntV) (a := (l : Int)) (H := H) (σ := start ["_law_value_here", "_law_letters", "_law_is_pair", "_law_one", "_law_found", "_law_often", "_law_part", "_law_inner", "_law_exponents"] [v, .int (l : Int)]) 1 rfl rfl
  cases l with
  | zero =>
    refine s_when (b := true) (et_test (er_eqI iv er_int)) (fun _ H1 e1 => ?_) (fun z => nomatch z)
    have dv : ER _ _ H1 (DatV K d) := er_var (A := DatV K) (a := d) (σ := start ["_law_value_here", "_law_letters", "_law_is_pair", "_law_one", "_law_found", "_law_often", "_law_part", "_law_inner", "_law_exponents"] [v, .int ((0 : Nat) : Int)]) 0 rfl (Mo.mo e1 ha)
    cases d with
    | tuple ds =>
      by_cases h2 : ds.length = 2
      · obtain ⟨x, y, rfl⟩ : ∃ x y, ds = [x, y] := match ds, h2 with | [x, y], _ => ⟨x, y, rfl⟩
        refine s_set 2 (ER.eq (A := BoolV) (a' := true) (er_andV (er_isD (n := "tuple") dv (kit_tuple _)) fun _ => er_eqI (er_lenD dv) (er_int (i := 2))) rfl) fun v2 H2 e2 hv2 => ?_
        have tst := et_or (et_not (et_B (er_var (A := BoolV) (a := true) (σ := [some v, some (.int ((0 : Nat) : Int)), some v2, none, none, none, none, none, none]) 2 rfl hv2))) fun _ => et_not (et_B (er_all (K := K) (er_lcT (K := K) (vs := [3]) (A := DatV K) (B := BoolV) (l := [x, y]) (fun _ => true) isIntD ((er_var (A := DatV K) (a := .tuple [x, y]) (H := H2) (σ := [some v, some (.int ((0 : Nat) : Int)), some v2, none, none, none, none, none, none]) 0 rfl (Mo.mo (e1.trans e2) ha)).imp fun _ _ z => tup_dat z) (by simp) fun a x H3 ma e hx => turn_name (j := 3) rfl et_yes fun _ => er_andV (er_isD (er_var (A := DatV K) (a := a) 3 rfl hx) (kit_int a)) fun _ => er_notV (er_isD (er_var (A := DatV K) (a := a) 3 rfl hx) (kit_bool a)))))
        rw [filter_yes] at tst
        have tst := tst.eq (k' := !(isIntD x && isIntD y)) (by simp)
        refine s_when tst (fun hb H3 e3 => ?_) (fun hb H3 e3 => ?_)
        · refine no ?_ _ _ _ (e1.trans (e2.trans e3)) rfl
          show isRatD _ = false
          cases x <;> cases y <;> first | rfl | (cases hb)
        · have hxy : isIntD x = true ∧ isIntD y = true := by
            rw [← Bool.and_eq_true]
            revert hb
            cases (isIntD x && isIntD y) <;> simp
          obtain ⟨n, rfl⟩ := isInt_of T hxy.1
          obtain ⟨u, rfl⟩ := isInt_of T hxy.2
          have dv3 := er_var (A := DatV K) (a := .tuple [.int n, .int u]) (σ := [some v, some (.int ((0 : Nat) : Int)), some v2, none, none, none, none, none, none]) 0 rfl (Mo.mo (e1.trans (e2.trans e3)) ha)
          have hu : u.natAbs < 2 ^ 8000 := by
            have := hgood.small
            rw [smallD_tuple] at this
            have := List.all_eq_true.mp this (.int u) (by simp)
            rw [smallD] at this
            exact Nat.lt_of_lt_of_le (of_decide_eq_true this) (Nat.pow_le_pow_right (by decide) (by omega))
          have tlow : u < 1 ∨ 0 < u := by omega
          have ef : formB 0 (.tuple [.int n, .int u]) = (decide (1 ≤ u) && decide (((Nat.gcd n.natAbs u.natAbs : Nat) : Int) = 1)) := rfl
          rcases tlow with lo | hi
          · refine s_when (b := true) (et_or (k := true) ((et_test (er_IB (er_datI (er_ixD 1 dv3 rfl)) er_int)).eq (k' := true) (decide_eq_true lo)) fun z => (by cases z)) (fun _ H4 e4 => ?_) (fun z => nomatch z)
            refine no ?_ _ _ _ (e1.trans (e2.trans (e3.trans e4))) rfl
            rw [ef, decide_eq_false (by omega)]; rfl
          · have rv : ER (tVar 0) [some v, some (.int ((0 : Nat) : Int)), some v2, none, none, none, none, none, none] H3 (RatV K (n, u)) := dv3.imp fun _ _ z => rat_dat z
            have t2 := et_or ((et_test (er_IB (g := fun i j => decide (i < j)) (er_datI (er_ixD 1 dv3 rfl)) (er_int (i := 1)))).eq (k' := false) (decide_eq_false (by omega))) fun _ => et_test (er_neR (er_call2 (A := IntV) (B := IntV) (C := RatV K) (pre := fun n u => 0 < u ∧ u.natAbs < 2 ^ 8000) (f := mkR) (er_datI (er_ixD 0 dv3 rfl)) (er_datI (er_ixD 1 dv3 rfl)) ⟨hi, hu⟩) rv)
            refine s_when t2 (fun hb H4 e4 => ?_) (fun hb H4 e4 => ?_)
            · refine no ?_ _ _ _ (e1.trans (e2.trans (e3.trans e4))) rfl
              have hne : ¬ mkR n u = (n, u) := by simpa using hb
              rw [mkR_self hi] at hne
              rw [ef, decide_eq_true (by omega : 1 ≤ u), decide_eq_false (by omega)]; rfl
            · have he : mkR n u = (n, u) := by simpa using hb
              rw [mkR_self hi] at he
              have hf : formB 0 (.tuple [.int n, .int u]) = true := by rw [ef, decide_eq_true (by omega : 1 ≤ u), decide_eq_true (by omega)]; rfl
              have sP := sizeP0 (n := n) (u := u) hf
              have E4 := e1.trans (e2.trans (e3.trans e4))
              have dv4 := er_var (A := DatV K) (a := .tuple [.int n, .int u]) (σ := [some v, some (.int ((0 : Nat) : Int)), some v2, none, none, none, none, none, none]) 0 rfl (Mo.mo E4 ha)
              refine s_ret (R := fun H' r => ∃ a kvs, r = .ref a ∧ H4 a = none ∧ H' a = some (.dT kvs) ∧ Ent (RatV K) H' kvs (sizeP 0 (.tuple [.int n, .int u]))) (er_if (et_test (er_neI (er_datI (er_ixD 0 dv4 rfl)) (er_int (i := 0)))) (fun hz => ?_) (fun hz => ?_)) fun r H5 e5 hr => ?_
              · have hz : ¬ n = 0 := by simpa using hz
                rw [show sizeP 0 (.tuple [.int n, .int u]) = [([], (n, u))] by rw [show sizeP 0 (.tuple [.int n, .int u]) = _ from sP, if_neg hz]]
                exact er_disp rfl (rat_dat (Mo.mo E4 ha))
              · have hz : n = 0 := by simpa using hz
                rw [show sizeP 0 (.tuple [.int n, .int u]) = [] by rw [show sizeP 0 (.tuple [.int n, .int u]) = _ from sP, if_pos hz]]
                exact fun H6 e6 Q q p hp => q _ _ (same_new hp) ⟨p, [], rfl, e6.free hp, upd_same, .nil⟩
              · obtain ⟨a, kvs, rfl, h1, h2, h3⟩ := hr
                exact q _ H5 (E4.trans e5) (.inr ⟨hf, a, kvs, rfl, E4.free h1, h2, h3⟩)
      · have hf : formB 0 (.tuple ds) = false := by
          match ds, h2 with
          | [], _ => rfl
          | [x], _ => cases x <;> rfl
          | [x, y], h => exact absurd rfl h
          | x :: y :: z :: r, _ => cases x <;> cases y <;> rfl
        refine s_set 2 (ER.eq (A := BoolV) (a' := false) (er_andV (er_isD (n := "tuple") dv (kit_tuple _)) fun _ => er_eqI (er_lenD dv) (er_int (i := 2))) (by simp; omega)) fun v2 H2 e2 hv2 => ?_
        refine s_when (b := true) (et_or (k := true) (et_not (et_B (er_var (A := BoolV) (a := false) 2 rfl hv2))) fun z => (by cases z)) (fun _ H3 e3 => ?_) (fun z => nomatch z)
        exact no hf _ _ _ (e1.trans (e2.trans e3)) rfl
    | _ =>
      refine s_set 2 (ER.eq (A := BoolV) (a' := false) (er_andV (k := true) (er_isD (n := "tuple") dv (kit_tuple _)) fun z => (by cases z)) rfl) fun v2 H2 e2 hv2 => ?_
      refine s_when (b := true) (et_or (k := true) (et_not (et_B (er_var (A := BoolV) (a := false) 2 rfl hv2))) fun z => (by cases z)) (fun _ H3 e3 => ?_) (fun z => nomatch z)
      exact no rfl _ _ _ (e1.trans (e2.trans e3)) rfl
  | succ l =>
    have hsp := hsp l rfl
    subst hsp
    refine s_when (b := false) (ET.eq (et_test (er_eqI iv er_int)) (by simp; omega)) (fun z => nomatch z) (fun _ H1 e1 => ?_)
    have dv := er_var (A := DatV K) (a := d) (σ := start ["_law_value_here", "_law_letters", "_law_is_pair", "_law_one", "_law_found", "_law_often", "_law_part", "_law_inner", "_law_exponents"] [v, .int ((l + 1 : Nat) : Int)]) 0 rfl (Mo.mo e1 ha)
    have tt := et_not (et_B (er_isD (n := "tuple") dv (kit_tuple d)))
    cases d with
    | tuple ds =>
      have t2 := et_or tt fun _ => et_or (et_test (er_eqD dv (er_dat0 (K := K)) (hgood.shaped (by omega)) shaped_nil)) fun _ => et_test (er_IB (g := fun i j => decide (j < i)) (er_lenD dv) (er_int (i := 9)))
      rw [eqv_empty] at t2
      refine s_when t2 (fun hb H2 e2 => ?_) (fun hb H2 e2 => ?_)
      · refine no ?_ _ _ _ (e1.trans e2) rfl
        cases q1 : formB (l + 1) (.tuple ds) with
        | false => rfl
        | true =>
          obtain ⟨a1, a9, _⟩ := form_tuple q1
          exfalso
          cases ds with
          | nil => simp at a1
          | cons a ds => simp at hb a9; omega
      · have hne : 1 ≤ ds.length ∧ ds.length ≤ 9 := by
          cases ds with
          | nil => simp at hb
          | cons a ds => simp at hb ⊢; omega
        have gm := hgood.mem
        refine s_set 4 (er_dnewF H (e1.trans e2)) fun f0 H3 e3 hf0 => ?_
        obtain ⟨f, rfl, hf3, hfn⟩ := hf0
        refine s_forEM (A := DatV K) (l := ds) (H0 := H) rfl (tup_dat ha) ((e1.trans e2).trans e3) (fun i σ' H' => ∃ x5 x6 x7 x8 kvs, σ' = [some v, some (.int ((l + 1 : Nat) : Int)), none, none, some (.ref f), x5, x6, x7, x8] ∧ H' f = some (.dT kvs) ∧ Ent (RatV K) H' kvs (nzT (flatA (flat l) 0 (ds.take i))) ∧ Same H H' ∧ ∀ a ∈ ds.take i, formB l a = true) ⟨none, none, none, none, [], rfl, hf3, .nil, (e1.trans e2).trans e3, fun _ m => (by cases m)⟩ (fun i σ' H' p => ?_) (fun i x σ' H' H'' p sm ix => ?_) (fun σ' H' p => ?_)
        · obtain ⟨_, _, _, _, _, _, _, _, e, _⟩ := p; exact e
        · obtain ⟨x5, x6, x7, x8, kvs, rfl, p1, p2, p3, p4⟩ := p
          obtain ⟨a, hta, b, xo, xi, rfl, hs, hxo, hxi⟩ := ix
          have ma := List.mem_of_getElem? hta
          have hlt : i < ds.length := (List.getElem?_eq_some_iff.mp hta).1
          cases (show xo = .int (i : Int) from hxo)
          refine ⟨b, _, rfl, hs, rfl, _, [xi], rfl, xi, [], rfl, rfl, ⟨xi, rfl, .int ((l + 1 : Nat) : Int), rfl, _, 1, rfl, rfl, a, xi, by show [xi, V.int (((l + 1 : Nat) : Int) - 1)] = _; rw [show (((l + 1 : Nat) : Int) - 1) = (l : Int) by omega], hxi, gm a ma, fun r H2' e2' hr' => ?_⟩⟩
          rcases hr' with ⟨hfa, rfl⟩ | ⟨hfa, di, kvi, rfl, hdn, hdi, hei⟩
          · refine s_when (b := true) (et_isN (x := .non) rfl) (fun _ H4 e4 => ?_) (fun z => nomatch z)
            exact no (form_no ma hfa) _ _ _ ((p3.trans sm).trans (e2'.trans e4)) rfl
          · refine s_when (b := false) (et_isN (x := .ref di) rfl) (fun z => nomatch z) (fun _ H4 e4 => ?_)
            have hdi4 := e4 _ _ hdi
            have hei4 : Ent (RatV K) H4 kvi (sizeP l a) := Ent.tu (TM.same e4) hei
            have hHd : H di = none := (p3.trans sm).free hdn
            have hfd : f ≠ di := fun z => by
              have := sm _ _ p1
              rw [z, hdn] at this; cases this
            refine s_forK (A := RatV K) (i := 7) (j := 8) (l := sizeP l a) rfl hdi4 hei4 fun od => ?_
            have tmL : TM H4 (upd H4 di (.frz od (.dT kvi))) := TM.dT hdi4
            have SL : Same H'' H4 := e2'.trans e4
            have wf : formB (l + 1) (.tuple (ds.take (i + 1))) = true := form_tup (by rw [List.length_take]; omega) (by rw [List.length_take]; omega) fun c mc => by
              rw [take_snoc hta] at mc
              rcases List.mem_append.mp mc with mc | mc
              · exact p4 c mc
              · rw [List.mem_singleton.mp mc]; exact hfa
            have eW : nzT (flatA (flat l) 0 (ds.take (i + 1))) = nzT (flatA (flat l) 0 (ds.take i)) ++ (sizeP l a).map fun t => ((i : Int) :: t.1, t.2) := by
              rw [take_snoc hta, flatA_snoc, nzT_app, Nat.zero_add, List.length_take, Nat.min_eq_left (Nat.le_of_lt hlt), nzT_map]
              rfl
            have ndW : ((nzT (flatA (flat l) 0 (ds.take i)) ++ (sizeP l a).map fun t => ((i : Int) :: t.1, t.2)).map (·.1)).Nodup := by
              rw [← eW]
              exact ((flat_keys wf).filter _).nd
            have big : (nzT (flatA (flat l) 0 (ds.take i)) ++ (sizeP l a).map fun t => ((i : Int) :: t.1, t.2)).length ≤ 729 * 9 := by
              rw [← eW]
              refine Nat.le_trans (List.length_filter_le _ _) (Nat.le_trans (flatA_length (m := 729) fun c mc => Nat.le_trans (flat_length ((form_tuple wf).2.2 c mc)) (pow9 (by omega))) ?_)
              rw [List.length_take]
              exact Nat.mul_le_mul_left _ (by omega)
            refine ⟨fun j σ' H5 => ∃ x8 kvs, σ' = [some v, some (.int ((l + 1 : Nat) : Int)), none, none, some (.ref f), some (.int (i : Int)), some xi, some (.ref di), x8] ∧ H5 f = some (.dT kvs) ∧ Ent (RatV K) H5 kvs (nzT (flatA (flat l) 0 (ds.take i)) ++ ((sizeP l a).map fun t => ((i : Int) :: t.1, t.2)).take j) ∧ Same H H5 ∧ TM (upd H4 di (.frz od (.dT kvi))) H5 ∧ H5 di = some (.frz od (.dT kvi)), ⟨x8, kvs, rfl, ?_, ?_, same_mut ((p3.trans sm).trans SL) hHd, TM.refl _, upd_same⟩, fun j σ' H5 p => ?_, fun j t x σ' H5 ht p hx D' hD => ?_, fun σ' H5 p => ?_⟩
            · rw [upd_ne hfd]; exact SL _ _ (sm _ _ p1)
            · rw [List.take_zero, List.append_nil]
              exact Ent.tu ((TM.same (sm.trans SL)).trans tmL) p2
            · obtain ⟨_, _, _, _, _, _, g1, g2⟩ := p; exact ⟨g1, g2⟩
            · obtain ⟨x8', kvs', rfl, g1, g2, g3, g4, g5⟩ := p
              have mt := List.mem_of_getElem? ht
              have hj : ((sizeP l a).map fun t => ((i : Int) :: t.1, t.2))[j]? = some ((i : Int) :: t.1, t.2) := by rw [List.getElem?_map, ht]; rfl
              have hl2 := Paired.length g2
              refine er_dget (A := RatV K) (l := sizeP l a) (k := t.1) (a := t.2) (er_var (A := RdV (RatV K)) (σ := [some v, some (.int ((l + 1 : Nat) : Int)), none, none, some (.ref f), some (.int (i : Int)), some xi, some (.ref di), some x]) 7 rfl (rd_ent (tmL.trans g4) (.inr ⟨od, g5⟩) hei4)) (er_var (A := KeyV) (a := t.1) 8 rfl hx) (getL_mem (sizeP_ts hfa).keys.nd mt) H5 (Same.refl _) _ fun r H6 e6 hr6 => ⟨_, rfl, ?_⟩
              refine er_catKey (K := K) (i := (i : Int)) (ks := t.1) (er_key1 (er_var (A := IntV) (H := H6) (σ := [some v, some (.int ((l + 1 : Nat) : Int)), none, none, some (.ref f), some (.int (i : Int)), some xi, some (.ref di), some x]) 5 rfl rfl)) (er_var (A := KeyV) (a := t.1) 8 rfl (Mo.mo e6 hx)) (by rw [(sizeP_ts hfa).keys.len t mt]; omega) H6 (Same.refl _) _ fun ky H7 e7 hky => ?_
              obtain ⟨b', rfl, hb'⟩ := key_at hky
              have f7 := e7 _ _ (e6 _ _ g1)
              have E7 := e6.trans e7
              refine ⟨f, _, rfl, DPut.t f7 hb' (sz_lt ?_), ?_⟩
              · rw [hl2, List.length_append, List.length_take]
                rw [List.length_append] at big
                omega
              · show D'.nx _ _
                rw [hD]
                refine ⟨_, _, rfl, upd_same, ?_, same_mut (g3.trans E7) hfn, (g4.trans (TM.same E7)).trans (TM.dT f7), by rw [upd_ne (Ne.symm hfd)]; exact E7 _ _ g5⟩
                rw [take_snoc hj, ← List.append_assoc, ← putL_new (nodup_new ndW hj)]
                exact Ent.tu (TM.dT f7) (ent_put (Ent.tu (TM.same E7) g2) ((i : Int) :: t.1) (Mo.mo e7 hr6))
            · obtain ⟨x8', kvs', rfl, g1, g2, g3, g4, g5⟩ := p
              refine ⟨_, _, _, _, kvs', rfl, by rw [upd_ne hfd]; exact g1, ?_, same_mut g3 hHd, fun c mc => ?_⟩
              · rw [eW]
                have tk : ((sizeP l a).map fun t => ((i : Int) :: t.1, t.2)).take (sizeP l a).length = (sizeP l a).map fun t => ((i : Int) :: t.1, t.2) := List.take_of_length_le (by rw [List.length_map]; exact Nat.le_refl _)
                rw [tk] at g2
                exact Ent.tu (TM.frz g5) g2
              · rw [take_snoc hta] at mc
                rcases List.mem_append.mp mc with mc | mc
                · exact p4 c mc
                · rw [List.mem_singleton.mp mc]; exact hfa
        · obtain ⟨x5, x6, x7, x8, kvs, rfl, p1, p2, p3, p4⟩ := p
          have tk : ds.take ds.length = ds := List.take_of_length_le (Nat.le_refl _)
          rw [tk] at p2 p4
          exact ⟨_, rfl, q _ H' p3 (.inr ⟨form_tup hne.1 hne.2 p4, f, kvs, rfl, hfn, p1, p2⟩)⟩
    | _ =>
      refine s_when (b := true) (et_or (k := true) tt fun z => (by cases z)) (fun _ H2 e2 => ?_) (fun z => nomatch z)
      exact no rfl _ _ _ (e1.trans e2) rfl
end
end K18

set_option Elab.async false
set_option linter.all false
set_option maxRecDepth 100000
set_option maxHeartbeats 4000000
/-! The law's test; bent values. -/
namespace K18
open PySem PySem.Spec PyProof.Rows L2 RZ
/-! ### weights -/
mutual
def wt : PyData → Nat
  | .tuple ds => 1 + wtL ds
  | .list ds => 1 + wtL ds
  | _ => 1
def wtL : List PyData → Nat
  | [] => 0
  | d :: ds => wt d + wtL ds
end
theorem wtL_app : ∀ a b : List PyData, wtL (a ++ b) = wtL a + wtL b
  | [], b => by simp [wtL]
  | d :: a, b => by rw [List.cons_append, wtL, wtL, wtL_app a b]; omega
theorem wt_pos (d : PyData) : 1 ≤ wt d := by cases d <;> simp [wt]
theorem wtL_len : ∀ a : List PyData, a.length ≤ wtL a
  | [] => Nat.le_refl _
  | d :: a => by rw [List.length_cons, wtL]; have := wt_pos d; have := wtL_len a; omega
theorem wtL_sub {a b : List PyData} (h : a.Sublist b) : wtL a ≤ wtL b := by
  induction h with
  | slnil => exact Nat.le_refl _
  | cons d _ ih => rw [wtL]; omega
  | cons_cons d _ ih => rw [wtL, wtL]; omega
theorem wt_mem {d : PyData} {ds : List PyData} (h : d ∈ ds) : wt d ≤ wtL ds := by
  have := wtL_sub (List.singleton_sublist.mpr h)
  rw [wtL, wtL] at this
  omega
theorem flatA_wt {f : PyData → List Tm} : ∀ {ds : List PyData} {n : Nat}, (∀ d ∈ ds, 3 * (f d).length ≤ wt d) → 3 * (flatA f n ds).length ≤ wtL ds
  | [], n, _ => by simp [flatA]
  | d :: ds, n, h => by
    rw [flatA, List.length_append, List.length_map, wtL]
    have h1 := h d List.mem_cons_self
    have h2 := flatA_wt (ds := ds) (n := n + 1) fun e m => h e (List.mem_cons_of_mem _ m)
    omega
theorem flat_wt : ∀ {l : Nat} {d : PyData}, formB l d = true → 3 * (flat l d).length ≤ wt d
  | 0, d, h => by
    obtain ⟨e, _⟩ := isRat_ratOf h
    rw [e]
    show 3 * 1 ≤ 1 + wtL [.int _, .int _]
    simp [wtL, wt]
  | l + 1, d, h => by
    obtain ⟨ds, rfl⟩ := form_succ h
    obtain ⟨_, _, hf⟩ := form_tuple h
    rw [flat]
    show _ ≤ 1 + wtL ds
    have := flatA_wt (f := flat l) (n := 0) fun d m => flat_wt (hf d m)
    omega
def nb (b : Nat) : Nat → Nat
  | 0 => 3
  | l + 1 => 1 + (b + 1) * nb b l
theorem wtL_le {m : Nat} : ∀ {ds : List PyData}, (∀ d ∈ ds, wt d ≤ m) → wtL ds ≤ ds.length * m
  | [], _ => by simp [wtL]
  | d :: ds, h => by
    rw [wtL, List.length_cons, Nat.succ_mul]
    have h1 := h d List.mem_cons_self
    have h2 := wtL_le (ds := ds) fun e m => h e (List.mem_cons_of_mem _ m)
    omega
theorem nest_wt : ∀ {l b : Nat} {ts : List Tm}, TsOk l (b : Int) ts → wt (nest l ts) ≤ nb b l
  | 0, b, ts, h => by
    rcases keys0 h.keys with rfl | ⟨c, rfl⟩
    · show 1 + wtL [.int _, .int _] ≤ 3; simp [wtL, wt]
    · show 1 + wtL [.int _, .int _] ≤ 3; simp [wtL, wt]
  | l + 1, b, ts, h => by
    have ht := top_bd (by omega) h
    show 1 + wtL _ ≤ 1 + (b + 1) * nb b l
    have := wtL_le (m := nb b l) (ds := (List.range ((topE ts).toNat + 1)).map fun (i : Nat) => nest l (part (i : Int) ts)) fun d m => by
      obtain ⟨i, _, rfl⟩ := List.mem_map.mp m
      exact nest_wt (part_ok h _)
    rw [List.length_map, List.length_range] at this
    refine Nat.add_le_add_left (Nat.le_trans this (Nat.mul_le_mul_right _ ?_)) 1
    omega
/-- nest's numbers are small when the ratios are -/
theorem small_ratD {r : Rt} (h : SzR 40 r) : smallD (ratD r) = true := by
  rw [ratD, smallD_tuple]
  have h1 : r.1.natAbs < 2 ^ 100 := Nat.lt_of_lt_of_le h.1 (Nat.pow_le_pow_right (by decide) (by decide))
  have h2 : r.2.natAbs < 2 ^ 100 := Nat.lt_of_lt_of_le h.2.2 (Nat.pow_le_pow_right (by decide) (by decide))
  simp only [List.all_cons, List.all_nil, smallD, Bool.and_true]
  rw [decide_eq_true h1, decide_eq_true h2]
  rfl
theorem nest_good : ∀ {l : Nat} {b : Int} {ts : List Tm}, 0 ≤ b → b ≤ 8 → TsOk l b ts → (∀ t ∈ ts, SzR 40 t.2) → Good (l + 1) (nest l ts) ∧ (b ≤ 4 → Fine l (nest l ts))
  | 0, b, ts, h0, h8, h, hs => by
    rcases keys0 h.keys with rfl | ⟨c, rfl⟩
    · exact ⟨⟨(shape_ratD _).1, (shape_ratD _).2, small_ratD (szR01 (by decide))⟩, fun _ => szR01 (by decide)⟩
    · have := hs _ List.mem_cons_self
      exact ⟨⟨(shape_ratD _).1, (shape_ratD _).2, small_ratD this⟩, fun _ => this⟩
  | l + 1, b, ts, h0, h8, h, hs => by
    have ht := top_bd h0 h
    have ih : ∀ i : Int, Good (l + 1) (nest l (part i ts)) ∧ (b ≤ 4 → Fine l (nest l (part i ts))) := fun i => nest_good h0 h8 (part_ok h i) fun t m => hs (i :: t.1, t.2) ((mem_part h.keys (k := t.1) (r := t.2)).mp m)
    refine ⟨good_tup fun d m => ?_, fun h4 => ⟨?_, fun d m => ?_⟩⟩
    · obtain ⟨i, _, rfl⟩ := List.mem_map.mp m
      exact (ih _).1
    · rw [List.length_map, List.length_range]
      have := top_nonneg ts
      omega
    · obtain ⟨i, _, rfl⟩ := List.mem_map.mp m
      exact (ih _).2 h4
/-! ### lists of like values -/
def EA {α : Type} (A : Rel α) (ta : TA) (σ : L2.St) (H : Hp) (l : List α) : Prop := ∀ H1, Same H H1 → ∀ Q : List V → Hp → Prop, (∀ vs H2, Same H1 H2 → All2 A H2 vs l → Q vs H2) → ta σ H1 Q
section
variable {K : PySem.W.Frag} {σ : L2.St} {H H' : Hp} {ta tb tc te tl : TE} {t : TA} {α β : Type} {A : Rel α} {B : Rel β}
theorem ea_nil : EA A tNil σ H [] := fun H1 e Q q => q [] H1 (Same.refl _) .nil
theorem ea_cons [Mo A] {a : α} {l : List α} (h : ER te σ H (A a)) (g : EA A t σ H l) : EA A (tCons te t) σ H (a :: l) := fun H1 e Q q =>
  h H1 e _ fun v H2 e2 hv => g H2 (e.trans e2) _ fun vs H3 e3 hvs => q (v :: vs) H3 (e2.trans e3) (.cons (Mo.mo e3 hv) hvs)
theorem er_lstA [Mo A] {l : List α} (g : EA A t σ H l) (hz : l.length ≤ 100000) : ER (tLst t) σ H (LstV A l) := fun H1 e Q q =>
  g H1 e _ fun vs H2 e2 hvs => ⟨sz_of (by rw [Paired.length hvs]; exact hz), fun p hp => q _ _ (e2.trans (same_new hp)) ⟨p, vs, rfl, upd_same, All2.mo (same_new hp) hvs⟩⟩
theorem er_tupA [Mo A] {l : List α} (g : EA A t σ H l) (hz : l.length ≤ 100000) : ER (tTup t) σ H (TupV K A l) := fun H1 e Q q =>
  g H1 e _ fun vs H2 e2 hvs => ⟨sz_of (by rw [Paired.length hvs]; exact hz), fun p hp => q _ _ (e2.trans (same_new hp)) ⟨p, vs, rfl, SqT.of upd_same, All2.mo (same_new hp) hvs⟩⟩
theorem cat_val [Mo A] {xs ys : List α} {x y : V} (hx : TupV K A xs H x) (hy : TupV K A ys H y) (hz : xs.length + ys.length ≤ 100000) {Q : VK} (k : ∀ v H2, Same H H2 → TupV K A (xs ++ ys) H2 v → Q v H2) : rCatA K x y H Q := by
  obtain ⟨a, us, rfl, h1, g1⟩ := hx
  obtain ⟨b, vs, rfl, h2, g2⟩ := hy
  have l1 := Paired.length g1
  have l2 := Paired.length g2
  refine ⟨a, b, us, vs, rfl, rfl, h1, h2, sz_of (by omega), fun z => ?_, fun _ z => ?_, fun _ _ p hp => ?_⟩
  · subst z
    cases g1
    exact k _ _ (Same.refl _) ⟨b, vs, rfl, h2, g2⟩
  · subst z
    cases g2
    exact k _ _ (Same.refl _) ⟨a, us, rfl, h1, by rw [List.append_nil]; exact g1⟩
  · exact k _ _ (same_new hp) ⟨p, _, rfl, SqT.of upd_same, All2.mo (same_new hp) (paired_app g1 g2)⟩
theorem er_catT [Mo A] {xs ys : List α} (ha : ER ta σ H (TupV K A xs)) (hb : ER tb σ H (TupV K A ys)) (hz : xs.length + ys.length ≤ 100000) : ER (tOp (rCatA K) ta tb) σ H (TupV K A (xs ++ ys)) :=
  er_op ha hb fun x y H1 _ hx hy Q q => cat_val hx hy hz q
theorem cut_take {α : Type} (l : List α) (n : Nat) (h : n ≤ l.length) : cutL l none (some (n : Int)) = l.take n := by
  unfold cutL
  rw [HT.sIx_none, HT.sIx_nat, Nat.min_eq_left h]
  simp
theorem cut_drop {α : Type} (l : List α) (n : Nat) (h : n ≤ l.length) : cutL l (some (n : Int)) none = l.drop n := by
  unfold cutL
  rw [HT.sIx_none, HT.sIx_nat, Nat.min_eq_left h]
  exact List.take_of_length_le (by rw [List.length_drop]; exact Nat.le_refl _)
theorem cut_sub {α : Type} (l : List α) (lo hi : Option Int) : (cutL l lo hi).Sublist l := (List.take_sublist _ _).trans (List.drop_sublist _ _)
end
section
variable {P : Program} {w : World} {K : PySem.W.Frag} {mg : Str → Option Value} {base : Heap} {k : Nat} (T : Txt K mg)
include T
theorem ok_law_terms_of (F__law_low : Fd P w K mg base 1 "_law_low" ["_law_number", "_law_under"] (SpMade K)) : ∀ l : Nat, l ≤ 3 → Fd P w K mg base (l + 2) "_law_terms_of" ["_law_value_here", "_law_letters"] (SpTO K l)
  | 0, h => to_level T 0 h _ F__law_low ((mkNever T.t__law_terms_of (fun _ _ _ _ _ _ us hl => match us, hl with | [_, _], _ => rfl)).mono (by omega)) fun l' e => nomatch e
  | l + 1, h => to_level T (l + 1) h _ F__law_low (ok_law_terms_of F__law_low l (by omega)) fun l' e => by cases e; rfl
abbrev SpLIN (K : PySem.W.Frag) (l : Nat) : Sp := Pr2 (DatV K) IntV BoolV (fun d m => m = (l : Int) ∧ Good 60 d ∧ Tame l d) (fun d _ => nestedB l d)
theorem sc__law_is_nested : FnScope ["_law_value_here", "_law_letters", "_law_terms_here", "_law_exponents"] ["_law_value_here", "_law_letters"] (defScope s__law_is_nested) := ⟨rfl, rfl, rfl, by decide +kernel, rfl, by decide +kernel, by decide +kernel⟩
theorem ok_law_is_nested (l : Nat) (h3 : l ≤ 3) (F__law_terms_of : Fd P w K mg base 5 "_law_terms_of" ["_law_value_here", "_law_letters"] (SpTO K l)) (F__law_nested : Fd P w K mg base 4 "_law_nested" ["_law_sums_here", "_law_letters"] (SpLN K l)) : Fd P w K mg base 6 "_law_is_nested" ["_law_value_here", "_law_letters"] (SpLIN K l) := by
  refine mkFd T.t__law_is_nested (sc__law_is_nested T) (fun _ _ _ _ _ _ us hl => match us, hl with | [_, _], _ => rfl) len2 (fun cdv A outer s H vs Q E hr h => ?_)
  obtain ⟨d, m, v, v1, rfl, ha, hm, ⟨rfl, hg, hsh, h64⟩, q⟩ := h
  refine ⟨_, (pss_cons (ps_set (i := 2) (sc__law_is_nested T).nd rfl (Or.inl rfl) (pe_f F__law_terms_of (hr.mono (by omega)) rfl (pa_cons (pv 0) (pa_cons (pv 1) pa_nil)))) (pss_cons (ps_if (PW.pt (pw_or (pt_cmpR op_isN (pv 2) pe_non (nomark _)) (pw_or (pt_cmpR op_gt (pe_callB call_len_dT rfl T.f_len bt_len (pa_cons (pv 2) pa_nil)) pe_int (nomark _)) (pw_or1 (pt_cmpR op_gt (pe_callB (cr_max rfl) rfl T.f_max bt_max (pa_cons (pe_op op_cat (pe_lock (pe_lc (own := [("_law_exponents", 3)]) rfl (sc__law_is_nested T).nd (pi_keys (pv 2)) (blkOk_by (own := [("_law_exponents", 3)]) (N := ["_law_value_here", "_law_letters", "_law_terms_here", "_law_exponents"]) (sc := defScope s__law_is_nested) (by decide +kernel)) (fun _ _ _ _ _ => (pg_name (i := 3) (sc__law_is_nested T).nd rfl (Or.inl rfl))) (fun _ _ _ _ _ => pts_nil) (fun _ _ _ _ _ => (pe_callB (r := rSumT K) (cr_sumT rfl) rfl T.f_sum bt_sum (pa_cons (pv 3) pa_nil))))) (pe_lst (pa_cons pe_int pa_nil))) pa_nil)) pe_int (nomark _)))))) (pss_one (ps_ret pe_bl)) pss_nil) (pss_one (ps_ret (pe_cmpR (op_eqD hr.units) (pe_f F__law_nested (hr.mono (by omega)) rfl (pa_cons (pv 2) (pa_cons (pv 1) pa_nil))) (pv 0) (nomark _)))))), ?_⟩
  cases (show v1 = .int (l : Int) from hm)
  refine ⟨v, rfl, .int (l : Int), rfl, d, v, rfl, ha, hg, fun r H1 e1 hr' => ?_⟩
  rcases hr' with ⟨hf, rfl⟩ | ⟨hf, di, kvs, rfl, _, hdi, he⟩
  · refine s_when (b := true) (et_or (k := true) (et_isN (x := .non) rfl) fun z => (by cases z)) (fun _ H2 e2 => ?_) (fun z => nomatch z)
    exact s_ret er_bl fun r H3 e3 hr => q r H3 (e1.trans (e2.trans e3)) (by show BoolV (nestedB l d) H3 r; unfold nestedB; rw [hf]; exact hr)
  · have hts := sizeP_ts hf
    have hpo := sizeP_ok hf (h64 hf)
    have t1 := et_or (et_isN (H := H1) (i := 2) (σ := [some v, some (.int (l : Int)), some (.ref di), none]) (x := .ref di) rfl) fun _ => et_or (et_test (er_IB (g := fun i j => decide (j < i)) (er_lenDic (A := RatV K) (l := sizeP l d) (er_var 2 rfl ⟨di, kvs, rfl, hdi, he⟩)) (er_int (i := 60)))) fun _ => et_test (er_IB (g := fun i j => decide (j < i)) (er_max (K := K) (er_catL (A := IntV) ((er_lcK (te := tCB (rSumT K) (tCons (tVar 3) tNil)) (tt := tYes) (g := gName 3) (vs := [3]) (A := RatV K) (B := IntV) (l := sizeP l d) (i := 2) (fun _ => true) (fun t : Tm => t.1.sum) rfl hdi he (by have := hpo.len; omega) fun t x H2 mt tm rd hx => turn_name rfl et_yes fun _ => er_sumKey (er_var (A := KeyV) (a := t.1) 3 rfl hx)).eq (by rw [filter_yes])) (er_lst1 (er_int (i := 0))) (by rw [List.length_map]; have := hpo.len; simp; omega)) (by simp)) (er_int (i := 8)))
    have t1 := t1.eq (k' := !(decide ((sizeP l d).length ≤ 60) && degB (sizeP l d))) (by
      have e2 : decide (8 < maxL ((sizeP l d).map (fun t => t.1.sum) ++ [0])) = !(degB (sizeP l d)) := by
        cases hd : degB (sizeP l d) with
        | true => exact decide_eq_false (by have := (deg_max (sizeP l d)).mpr hd; omega)
        | false =>
          refine decide_eq_true ?_
          by_cases c : maxL ((sizeP l d).map (fun t => t.1.sum) ++ [0]) ≤ 8
          · rw [(deg_max (sizeP l d)).mp c] at hd; cases hd
          · omega
      rw [e2, Bool.not_and]
      show (false || (decide ((60 : Int) < ((sizeP l d).length : Int)) || _)) = _
      rw [Bool.false_or, ← decide_not]
      congr 1
      exact decide_eq_decide.mpr (by omega))
    refine s_when t1 (fun hb H2 e2 => ?_) (fun hb H2 e2 => ?_)
    · have hc : (decide ((sizeP l d).length ≤ 60) && degB (sizeP l d)) = false := by revert hb; cases (decide ((sizeP l d).length ≤ 60) && degB (sizeP l d)) <;> simp
      exact s_ret er_bl fun r H3 e3 hr => q r H3 (e1.trans (e2.trans e3)) (by show BoolV (nestedB l d) H3 r; unfold nestedB; rw [hf, hc]; exact hr)
    · have hc : (decide ((sizeP l d).length ≤ 60) && degB (sizeP l d)) = true := by revert hb; cases (decide ((sizeP l d).length ≤ 60) && degB (sizeP l d)) <;> simp
      have sn := shaped_form (form_nest (by decide : (0 : Int) ≤ 8) (by decide) hts) (by omega)
      refine s_ret (ER.eq (A := BoolV) (a' := nestedB l d) (er_eqD ((er_call2 (A := DicV (RatV K)) (a := sizeP l d) (B := IntV) (b := (l : Int)) (C := PurV K) (f := fun ts _ => nest l ts) (pre := fun ts left => left = (l : Int) ∧ TsOk l 8 ts ∧ ts.length ≤ 1000) (er_var 2 rfl ⟨di, kvs, rfl, e2 _ _ hdi, Ent.tu (TM.same e2) he⟩) (er_var (A := IntV) 1 rfl rfl) ⟨rfl, hts, hpo.len⟩).imp fun _ _ z => z.2) (er_var (A := DatV K) (a := d) 0 rfl (Mo.mo (e1.trans e2) ha)) sn hsh) ?_) fun r H3 e3 hr => q r H3 (e1.trans (e2.trans e3)) hr
      unfold nestedB
      rw [hf, hc]
      rfl
end
end K18

set_option Elab.async false
set_option linter.all false
set_option maxRecDepth 100000
set_option maxHeartbeats 4000000
/-! Bent values. -/
namespace K18
open PySem PySem.Spec PyProof.Rows L2 RZ
theorem pot_len {p a : Addr} {H : Hp} {xs : List V} (hp : PotAt p H) (ha : H a = some (.lst xs)) (h : xs.length ≠ 2) : a ≠ p := fun z => by
  obtain ⟨x, y, h', _⟩ := hp
  rw [z, h'] at ha
  cases ha
  exact h rfl
theorem all2_of_mem {α : Type} {A : Rel α} {H : Hp} : ∀ {vs : List V} {l : List α}, All2 A H vs l → ∀ v ∈ vs, ∃ a ∈ l, A a H v
  | _, _, .nil, v, m => by cases m
  | _, _, .cons h t, v, m => by
    rcases List.mem_cons.mp m with rfl | m
    · exact ⟨_, List.mem_cons_self, h⟩
    · obtain ⟨a, ma, q⟩ := all2_of_mem t v m
      exact ⟨a, List.mem_cons_of_mem _ ma, q⟩
/-- data without lists, or one list of such, not the pot -/
def EV (K : PySem.W.Frag) (p : Addr) : Rel PyData := fun d H v => PurV K d H v ∨ ∃ q xs es, d = .list es ∧ v = .ref q ∧ q ≠ p ∧ H q = some (.lst xs) ∧ All2 (PurV K) H xs es
instance {K : PySem.W.Frag} {p : Addr} : Mo (EV K p) := ⟨fun e h => by
  rcases h with h | ⟨q, xs, es, h1, h2, h3, h4, h5⟩
  · exact .inl (Mo.mo e h)
  · exact .inr ⟨q, xs, es, h1, h2, h3, e _ _ h4, All2.mo e h5⟩⟩
theorem ev_dat {K : PySem.W.Frag} {p : Addr} {d : PyData} {H H' : Hp} {v : V} (h : EV K p d H v) (g : Gr p H H') (hp : PotAt p H) : DatV K d H' v := by
  rcases h with h | ⟨q, xs, es, rfl, rfl, h3, h4, h5⟩
  · exact (Tu.tu (g.tm hp) h).2
  · exact .lst (SqL.of (g _ _ h3 h4)) (dpAll_iff.mpr (all2_mem (All2.tu (g.tm hp) h5) fun a v _ z => z.2))
def odds : List PyData := [.none, .int 0, .bool true, ratD (0, 1), ratD (1, 1), ratD (2, 4), .tuple [], .tuple [ratD (0, 1)], .tuple [ratD (1, 1)], .tuple [.int 0, .bool true]]
theorem odds_ok : ∀ d ∈ odds, Good 2 d ∧ wt d ≤ 4 := by
  have gi : ∀ i : Int, i.natAbs < 100 → Good 0 (.int i) := fun i h => ⟨rfl, by simp [PyData.depth], by rw [smallD]; exact decide_eq_true (Nat.lt_of_lt_of_le h (by decide))⟩
  have gb : Good 0 (.bool true) := ⟨rfl, by simp [PyData.depth], by simp [smallD]⟩
  have gn : Good 0 .none := ⟨rfl, by simp [PyData.depth], by simp [smallD]⟩
  have gr : ∀ n u : Int, n.natAbs < 100 → u.natAbs < 100 → Good 1 (ratD (n, u)) := fun n u h1 h2 => good_tup fun d m => by
    rcases List.mem_cons.mp m with rfl | m
    · exact gi _ h1
    · rw [List.mem_singleton.mp m]; exact gi _ h2
  intro d m
  simp only [odds, List.mem_cons, List.not_mem_nil, or_false] at m
  rcases m with rfl | rfl | rfl | rfl | rfl | rfl | rfl | rfl | rfl | rfl
  · exact ⟨gn.mono (by decide), by simp [wt]⟩
  · exact ⟨(gi 0 (by decide)).mono (by decide), by simp [wt]⟩
  · exact ⟨gb.mono (by decide), by simp [wt]⟩
  · exact ⟨(gr 0 1 (by decide) (by decide)).mono (by decide), by simp [ratD, wt, wtL]⟩
  · exact ⟨(gr 1 1 (by decide) (by decide)).mono (by decide), by simp [ratD, wt, wtL]⟩
  · exact ⟨(gr 2 4 (by decide) (by decide)).mono (by decide), by simp [ratD, wt, wtL]⟩
  · exact ⟨good_tup fun d m => (by cases m), by simp [wt, wtL]⟩
  · exact ⟨good_tup fun d m => by rw [List.mem_singleton.mp m]; exact gr 0 1 (by decide) (by decide), by simp [ratD, wt, wtL]⟩
  · exact ⟨good_tup fun d m => by rw [List.mem_singleton.mp m]; exact gr 1 1 (by decide) (by decide), by simp [ratD, wt, wtL]⟩
  · refine ⟨good_tup fun d m => ?_, by simp [wt, wtL]⟩
    rcases List.mem_cons.mp m with rfl | m
    · exact (gi 0 (by decide)).mono (by decide)
    · rw [List.mem_singleton.mp m]; exact gb.mono (by decide)
def isNE : PyData → Bool
  | .tuple (_ :: _) => true
  | _ => false
section
variable {P : Program} {w : World} {K : PySem.W.Frag} {mg : Str → Option Value} {base : Heap} {k : Nat} (T : Txt K mg)
include T
def SpBent (K : PySem.W.Frag) (n : Nat) : Sp := fun vs H Q _ => ∃ (p : Addr) (ds : List PyData) (v : V), vs = [.ref p, v] ∧ PotAt p H ∧ PurV K (.tuple ds) H v ∧ ds ≠ [] ∧ Good n (.tuple ds) ∧ wt (.tuple ds) ≤ 900 ∧
  ∀ d' r H', DatV K d' H' r → Good (n + 3) d' → wt d' ≤ 2 * wt (.tuple ds) + 4 → Gr p H H' → PotAt p H' → Q r H'
theorem sc__law_bent : FnScope ["_law_pot_here", "_law_value_here", "_law_odd", "_law_way", "_law_at", "_law_some"] ["_law_pot_here", "_law_value_here"] (defScope s__law_bent) := ⟨rfl, rfl, rfl, by decide +kernel, rfl, by decide +kernel, by decide +kernel⟩
theorem bent_level (n : Nat) (hn : n ≤ 50) (spr : Sp) (F__law_pick : Fd P w K mg base 2 "_law_pick" ["_law_pot_here", "_law_some"] (SpPick K)) (F__law_draw : Fd P w K mg base 1 "_law_draw" ["_law_pot_here", "_law_many"] SpDraw) (F__law_bent : Fd P w K mg base (n + 2) "_law_bent" ["_law_pot_here", "_law_value_here"] spr) (hsp : ∀ n', n = n' + 1 → spr = SpBent K n') : Fd P w K mg base (n + 3) "_law_bent" ["_law_pot_here", "_law_value_here"] (SpBent K n) := by
  refine mkFd T.t__law_bent (sc__law_bent T) (fun _ _ _ _ _ _ us hl => match us, hl with | [_, _], _ => rfl) (fun vs H Q E h => by obtain ⟨_, _, _, rfl, _⟩ := h; rfl) (fun cdv A outer s H vs Q E hr h => ?_)
  obtain ⟨p, ds, v, rfl, hp, hv, hne, hg, hw9, q⟩ := h
  refine ⟨_, (pss_cons (ps_set (i := 2) (sc__law_bent T).nd rfl (Or.inl rfl) (pe_f F__law_pick (hr.mono (by omega)) rfl (pa_cons (pv 0) (pa_cons (pe_lst (pa_cons pe_non (pa_cons pe_int (pa_cons pe_bl (pa_cons (pe_tup (pa_cons pe_int (pa_cons pe_int pa_nil))) (pa_cons (pe_tup (pa_cons pe_int (pa_cons pe_int pa_nil))) (pa_cons (pe_tup (pa_cons pe_int (pa_cons pe_int pa_nil))) (pa_cons (pe_tup pa_nil) (pa_cons (pe_tup (pa_cons (pe_tup (pa_cons pe_int (pa_cons pe_int pa_nil))) pa_nil)) (pa_cons (pe_tup (pa_cons (pe_tup (pa_cons pe_int (pa_cons pe_int pa_nil))) pa_nil)) (pa_cons (pe_tup (pa_cons pe_int (pa_cons pe_bl pa_nil))) pa_nil))))))))))) pa_nil)))) (pss_cons (ps_par (i := 3) (j := 4) rfl (sc__law_bent T).nd rfl rfl (by decide) rfl rfl (pa_cons (pe_f F__law_draw (hr.mono (by omega)) rfl (pa_cons (pv 0) (pa_cons pe_int pa_nil))) (pa_cons (pe_f F__law_draw (hr.mono (by omega)) rfl (pa_cons (pv 0) (pa_cons (pe_callB call_len_seq rfl T.f_len bt_len (pa_cons (pv 1) pa_nil)) pa_nil))) pa_nil)) rfl) (pss_cons (ps_if (PW.pt (pw_and (pt_cmpR op_eq (pv 3) pe_int (nomark _)) (pw_and (pt_val (pe_isi T.f_isinstance rfl (pe_ix ix_tup (pv 1) (pv 4) (fun _ _ => rfl)) rfl T.f_tuple bt_tuple)) (pw_and1 (pt_cmpR (op_neD hr.units) (pe_ix ix_tup (pv 1) (pv 4) (fun _ _ => rfl)) (pe_tup pa_nil) (nomark _)))))) (pss_one (ps_ret (pe_op op_catA (pe_op op_catA (pe_slice sl_tupA (pv 1) po_none (po_some (pv 4))) (pe_tup (pa_cons (pe_f F__law_bent (hr.mono (by omega)) rfl (pa_cons (pv 0) (pa_cons (pe_ix ix_tup (pv 1) (pv 4) (fun _ _ => rfl)) pa_nil))) pa_nil))) (pe_slice sl_tupA (pv 1) (po_some (pe_op op_add (pv 4) pe_int)) po_none)))) pss_nil) (pss_cons (ps_set (i := 5) (sc__law_bent T).nd rfl (Or.inl rfl) (pe_lst (pa_cons (pe_op op_catA (pv 1) (pe_tup (pa_cons (pv 2) pa_nil))) (pa_cons (pe_op op_catA (pe_slice sl_tupA (pv 1) po_none (po_some (pv 4))) (pe_slice sl_tupA (pv 1) (po_some (pe_op op_add (pv 4) pe_int)) po_none)) (pa_cons (pe_op op_catA (pe_op op_catA (pe_slice sl_tupA (pv 1) po_none (po_some (pv 4))) (pe_tup (pa_cons (pv 2) pa_nil))) (pe_slice sl_tupA (pv 1) (po_some (pe_op op_add (pv 4) pe_int)) po_none)) (pa_cons (pe_callTy call_list_of rfl T.f_list bt_list (pa_cons (pv 1) pa_nil)) (pa_cons (pe_op op_catA (pv 1) (pe_slice sl_tupA (pv 1) (po_some (pe_un un_neg pe_int)) po_none)) pa_nil))))))) (pss_one (ps_ret (pe_f F__law_pick (hr.mono (by omega)) rfl (pa_cons (pv 0) (pa_cons (pv 5) pa_nil))))))))), ?_⟩
  obtain ⟨m, rfl⟩ := tup_pos hg
  have hsp := hsp m rfl
  subst hsp
  have gm := hg.tup
  have hm60 : m ≤ 64 := by omega
  have hwL : wt (.tuple ds) = 1 + wtL ds := by rw [wt]
  have hlen := wtL_len ds
  have hlen1 : 1 ≤ ds.length := List.length_pos_iff.mpr hne
  have pc : ∀ {σ : L2.St} {H : Hp} {d : PyData} {x : V}, puD d = true → Dp K H x d → ER (tC x) σ H (PurV K d) := fun h1 h2 => er_c (A := PurV K) ⟨h1, h2⟩
  have pr : ∀ {σ : L2.St} {H : Hp} (i j : Int), ER (tTup (tCons (tC (.int i)) (tCons (tC (.int j)) tNil))) σ H (PurV K (ratD (i, j))) := fun i j => (er_rat (K := K) (i := i) (j := j) er_int er_int).imp fun _ _ z => pur_rat z
  refine ⟨.ref p, rfl, er_lstA (A := PurV K) (l := odds) (ea_cons (pc (by simp [puD]) .non) (ea_cons (pc (by simp [puD]) (.int 0)) (ea_cons (pc (by simp [puD]) (.bl true)) (ea_cons (pr 0 1) (ea_cons (pr 1 1) (ea_cons (pr 2 4) (ea_cons (er_tup0.imp fun _ _ z => pur_tup z) (ea_cons ((er_tupA (A := PurV K) (ea_cons (pr 0 1) ea_nil) (by simp)).imp fun _ _ z => pur_tup z) (ea_cons ((er_tupA (A := PurV K) (ea_cons (pr 1 1) ea_nil) (by simp)).imp fun _ _ z => pur_tup z) (ea_cons ((er_tupA (A := PurV K) (ea_cons (pc (by simp [puD]) (.int 0)) (ea_cons (pc (by simp [puD]) (.bl true)) ea_nil)) (by simp)).imp fun _ _ z => pur_tup z) ea_nil)))))))))) (by simp [odds]) H (Same.refl _) _ fun lv H1 e1 hlv => ?_⟩
  obtain ⟨a, xs, rfl, ha, hall⟩ := hlv
  have hx10 : xs.length = 10 := by rw [Paired.length hall]; rfl
  have hp1 := hp.same e1
  refine ⟨p, a, xs, rfl, hp1, ha, pot_len hp1 ha (by omega), by omega, by omega, fun v2 H2 hv2 g2 hp2 => ?_⟩
  obtain ⟨od, hod, hpod⟩ := all2_of_mem hall v2 hv2
  obtain ⟨god, wod⟩ := odds_ok od hod
  have hod2 : PurV K od H2 v2 := Tu.tu (g2.tm hp1) hpod
  have tm2 := (TM.same e1).trans (g2.tm hp1)
  have hv2' := Tu.tu tm2 hv
  refine ⟨.ref p, rfl, p, 6, rfl, hp2, by decide, by decide, fun wy H3 hw0 hw1 g3 hp3 => ?_⟩
  have tm3 := g3.tm hp2
  obtain ⟨av, ys, rfl, hs3, hys3⟩ := tup_pur (Tu.tu tm3 hv2')
  have hl3 := Paired.length hys3
  refine ⟨.ref p, rfl, .ref av, rfl, av, ys, rfl, .inr hs3, p, (ys.length : Int), rfl, hp3, by omega, by omega, fun at_ H4 ha0 ha1 g4 hp4 => ⟨.int wy, .int at_, rfl, ?_⟩⟩
  obtain ⟨j, rfl⟩ : ∃ j : Nat, at_ = (j : Int) := ⟨at_.toNat, by omega⟩
  have hj : j < ds.length := by omega
  have tm4 := g4.tm hp3
  have hod4 : PurV K od H4 v2 := Tu.tu (tm3.trans tm4) hod2
  have hval4 : TupV K (PurV K) ds H4 (.ref av) := Tu.tu tm4 ⟨av, ys, rfl, hs3, hys3⟩
  have G4 : Gr p H H4 := (((Gr.same e1).trans g2).trans g3).trans g4
  have hcj : ds[j]? = some ds[j] := List.getElem?_eq_getElem hj
  have split : ds = ds.take j ++ ds[j] :: ds.drop (j + 1) := by rw [List.getElem_cons_drop]; exact (List.take_append_drop j ds).symm
  have wsplit : wtL ds = wtL (ds.take j) + (wt ds[j] + wtL (ds.drop (j + 1))) := by
    have := congrArg wtL split
    rw [wtL_app] at this
    exact this
  generalize hc : ds[j] = c at hcj wsplit
  have mc : c ∈ ds := hc ▸ List.getElem_mem hj
  have vv : ∀ H5, TupV K (PurV K) ds H5 (.ref av) → ER (tVar 1) [some (.ref p), some (.ref av), some v2, some (.int wy), some (.int (j : Int)), none] H5 (TupV K (PurV K) ds) := fun H5 e => er_var (A := TupV K (PurV K)) (a := ds) 1 rfl e
  have jv : ∀ H5, ER (tVar 4) [some (.ref p), some (.ref av), some v2, some (.int wy), some (.int (j : Int)), none] H5 (IntV (j : Int)) := fun H5 => er_var (A := IntV) 4 rfl rfl
  have s1 : ∀ H5, TupV K (PurV K) ds H5 (.ref av) → ER (tSl (rSlA K) (tVar 1) tNoPart (tPart (tVar 4))) [some (.ref p), some (.ref av), some v2, some (.int wy), some (.int (j : Int)), none] H5 (TupV K (PurV K) (ds.take j)) := fun H5 e => (er_slT (vv H5 e) eo_none (eo_int (jv H5))).eq (cut_take ds j (by omega))
  have s2 : ∀ H5, TupV K (PurV K) ds H5 (.ref av) → ER (tSl (rSlA K) (tVar 1) (tPart (tOp (rI0 fun i j => .int (i + j)) (tVar 4) (tC (.int 1)))) tNoPart) [some (.ref p), some (.ref av), some v2, some (.int wy), some (.int (j : Int)), none] H5 (TupV K (PurV K) (ds.drop (j + 1))) := fun H5 e => (er_slT (vv H5 e) (eo_int (er_I0 (g := fun i j => i + j) (jv H5) (er_int (i := 1)))) eo_none).eq (cut_drop ds (j + 1) (by omega))
  have ix : ∀ H5, TupV K (PurV K) ds H5 (.ref av) → ER (tOp (rIxT K) (tVar 1) (tVar 4)) [some (.ref p), some (.ref av), some v2, some (.int wy), some (.int (j : Int)), none] H5 (PurV K c) := fun H5 e => er_ixTv j (vv H5 e) (jv H5) hcj
  have eq0 := et_test (er_eqI (er_var (A := IntV) (a := wy) (H := H4) (σ := [some (.ref p), some (.ref av), some v2, some (.int wy), some (.int (j : Int)), none]) 3 rfl rfl) (er_int (i := 0)))
  have gc := gm c mc
  have wc := wt_mem mc
  dsimp only
  refine s_when (b := decide (wy = 0) && isNE c) ?_ (fun hb H5 e5 => ?_) (fun hb H5 e5 => ?_)
  · have ic := et_B (er_isD (n := "tuple") ((ix H4 hval4).imp fun _ _ z => z.2) (kit_tuple c))
    clear hc
    cases c with
    | tuple cs =>
      refine (et_and eq0 fun _ => et_and ic fun _ => et_test (er_neD ((ix H4 hval4).imp fun _ _ z => z.2) er_dat0 (shaped_of gc.lay (Nat.le_trans gc.dep hm60)) shaped_nil)).eq ?_
      rw [eqv_empty]
      cases cs <;> rfl
    | _ => exact (et_and eq0 fun _ => et_and (k := true) ic fun z => (by cases z)).eq rfl
  · rw [Bool.and_eq_true] at hb
    obtain ⟨cs, rfl, hcs⟩ : ∃ cs, c = .tuple cs ∧ cs ≠ [] := by
      have := hb.2
      clear hc
      cases c with
      | tuple cs => exact ⟨cs, rfl, by rintro rfl; cases this⟩
      | _ => cases this
    have hv5 : TupV K (PurV K) ds H5 (.ref av) := Mo.mo e5 hval4
    refine s1 H5 hv5 H5 (Same.refl _) _ fun u H6 e6 hu => ⟨.ref p, rfl, ix H6 (Mo.mo e6 hv5) H6 (Same.refl _) _ fun cv H7 e7 hcv => ⟨p, cs, cv, rfl, hp4.same (e5.trans (e6.trans e7)), hcv, hcs, gc, by omega, fun d' r H8 hd' good' wt' g8 hp8 => ⟨sz_of (by show 1 ≤ 100000; decide), fun qa hqa => ?_⟩⟩⟩
    have t57 : TM H6 (upd H8 qa (.tup [r])) := (TM.same e7).trans ((g8.tm (hp4.same (e5.trans (e6.trans e7)))).trans (TM.same (same_new hqa)))
    have pd : ∀ {l : List PyData} {H : Hp} {v : V}, TupV K (PurV K) l H v → TupV K (DatV K) l H v := fun h => let ⟨a, xs, e, h1, h2⟩ := h; ⟨a, xs, e, h1, all2_mem h2 fun _ _ _ z => z.2⟩
    refine cat_val (A := DatV K) (xs := ds.take j) (ys := [d']) (pd (Tu.tu t57 hu)) ⟨qa, [r], rfl, SqT.of upd_same, .cons (Mo.mo (same_new hqa) hd') .nil⟩ (by rw [List.length_take]; simp; omega) fun x9 H9 e9 h9 => ?_
    refine s2 H9 (Tu.tu ((TM.same e6).trans (t57.trans (TM.same e9))) hv5) H9 (Same.refl _) _ fun u2 H10 e10 hu2 => ?_
    refine cat_val (A := DatV K) (Mo.mo e10 h9) (pd hu2) (by rw [List.length_append, List.length_take, List.length_drop]; simp; omega) fun x11 H11 e11 h11 => ?_
    have tail : Gr p H8 H11 := ((Gr.same (same_new hqa)).trans (Gr.same e9)).trans (Gr.same (e10.trans e11))
    refine q _ _ _ (dat_tup h11) (good_tup (n := m + 3) fun d md => ?_) ?_ (((G4.trans (Gr.same (e5.trans (e6.trans e7)))).trans g8).trans tail) (((hp8.same (same_new hqa)).same e9).same (e10.trans e11))
    · rcases List.mem_append.mp md with md | md
      · rcases List.mem_append.mp md with md | md
        · exact (gm d (List.mem_of_mem_take md)).mono (by omega)
        · rw [List.mem_singleton.mp md]; exact good'
      · exact (gm d (List.mem_of_mem_drop md)).mono (by omega)
    · rw [wt, wtL_app, wtL_app, hwL]
      have : wtL [d'] = wt d' := by rw [wtL, wtL]; rfl
      omega
  · have hv5 : TupV K (PurV K) ds H5 (.ref av) := Mo.mo e5 hval4
    have hp5 := hp4.same e5
    have odv : ER (tVar 2) [some (.ref p), some (.ref av), some v2, some (.int wy), some (.int (j : Int)), none] H5 (PurV K od) := er_var (A := PurV K) 2 rfl (Mo.mo e5 hod4)
    have one : ER (tTup (tCons (tVar 2) tNil)) [some (.ref p), some (.ref av), some v2, some (.int wy), some (.int (j : Int)), none] H5 (TupV K (PurV K) [od]) := er_tupA (ea_cons odv ea_nil) (by simp)
    have ev : ∀ {te : TE} {σ : L2.St} {l : List PyData}, ER te σ H5 (TupV K (PurV K) l) → ER te σ H5 (EV K p (.tuple l)) := fun h => h.imp fun _ _ z => .inl (pur_tup z)
    have l1 : (ds.take j).length ≤ 900 := by rw [List.length_take]; omega
    have l2 : (ds.drop (j + 1)).length ≤ 900 := by rw [List.length_drop]; omega
    have cutsub := cut_sub ds (some (-1)) none
    have lc := cutsub.length_le
    refine s_set 5 (er_lstA (A := EV K p) (l := [.tuple (ds ++ [od]), .tuple (ds.take j ++ ds.drop (j + 1)), .tuple ((ds.take j ++ [od]) ++ ds.drop (j + 1)), .list ds, .tuple (ds ++ cutL ds (some (-1)) none)])
      (ea_cons (ev (er_catT (vv H5 hv5) one (by simp; omega))) (ea_cons (ev (er_catT (s1 H5 hv5) (s2 H5 hv5) (by omega))) (ea_cons (ev (er_catT (er_catT (s1 H5 hv5) one (by simp; omega)) (s2 H5 hv5) (by rw [List.length_append]; simp; omega))) (ea_cons ((er_CB1 (vv H5 hv5) fun x H6 e6 hx Q qq => ?_)) (ea_cons (ev (er_catT (vv H5 hv5) (er_slT (vv H5 hv5) (eo_int (er_neg (er_int (i := 1)))) eo_none) (by omega))) ea_nil)))))
      (by simp)) fun v5 H6 e6 h5 => ?_
    · obtain ⟨b, xs, rfl, h, h2⟩ := hx
      exact ⟨b, xs, rfl, .inr h, fun l hl => qq _ _ (same_new hl) (.inr ⟨l, xs, ds, rfl, rfl, pot_ne (hp5.same e6) hl, upd_same, All2.mo (same_new hl) h2⟩)⟩
    · obtain ⟨a5, xs5, rfl, ha5, hall5⟩ := h5
      have hx5 : xs5.length = 5 := by rw [Paired.length hall5]; rfl
      have hp6 := hp5.same e6
      refine ⟨.ref p, rfl, .ref a5, rfl, p, a5, xs5, rfl, hp6, ha5, pot_len hp6 ha5 (by omega), by omega, by omega, fun r H7 hr g7 hp7 => ?_⟩
      obtain ⟨d', hd', hE⟩ := all2_of_mem hall5 r hr
      have gd : ∀ l : List PyData, (∀ d ∈ l, d ∈ ds ∨ d = od) → ∀ d ∈ l, Good (m + 3) d := fun l hl d md => by
        rcases hl d md with h | rfl
        · exact (gm d h).mono (by omega)
        · exact god.mono (by omega)
      have fin : Good (m + 1 + 3) d' ∧ wt d' ≤ 2 * wt (.tuple ds) + 4 := by
        have w1 := wtL_sub (List.take_sublist j ds)
        have w2 := wtL_sub (List.drop_sublist (j + 1) ds)
        have w3 := wtL_sub cutsub
        have w4 : wtL [od] = wt od := by rw [wtL, wtL]; rfl
        simp only [List.mem_cons, List.not_mem_nil, or_false] at hd'
        rw [hwL]
        rcases hd' with rfl | rfl | rfl | rfl | rfl
        · exact ⟨good_tup (gd _ fun d md => (List.mem_append.mp md).imp id fun h => List.mem_singleton.mp h), by rw [wt, wtL_app]; omega⟩
        · exact ⟨good_tup (gd _ fun d md => .inl ((List.mem_append.mp md).elim List.mem_of_mem_take List.mem_of_mem_drop)), by rw [wt, wtL_app]; omega⟩
        · refine ⟨good_tup (gd _ fun d md => ?_), by rw [wt, wtL_app, wtL_app]; omega⟩
          rcases List.mem_append.mp md with md | md
          · exact (List.mem_append.mp md).imp List.mem_of_mem_take fun h => List.mem_singleton.mp h
          · exact .inl (List.mem_of_mem_drop md)
        · exact ⟨good_list (gd _ fun d md => .inl md), by rw [wt]; omega⟩
        · exact ⟨good_tup (gd _ fun d md => .inl ((List.mem_append.mp md).elim id fun h => cutsub.subset h)), by rw [wt, wtL_app]; omega⟩
      exact q d' r H7 (ev_dat hE g7 hp6) fin.1 fin.2 ((G4.trans (Gr.same (e5.trans e6))).trans g7) hp7
end
end K18

set_option Elab.async false
set_option linter.all false
set_option maxRecDepth 100000
set_option maxHeartbeats 4000000
/-! Promises of defs that are called while nothing is being shown (repr asks it): as Fd, told of such surroundings only; the law's call from the outside. -/
namespace K18
open PySem PySem.Spec PyProof.Rows L2 RZ
theorem guards_in (A : Around) (env : Env) : (A.deeper env).guards = A.guards := rfl
abbrev Runs (P : Program) (w : World) (K : PySem.W.Frag) (mg : Str → Option Value) (base : Heap) (k : Nat) (f : Addr) (fd : FuncData) (ps : List Str) (sp : Sp) (A : Around) : Prop :=
  ∀ (outer : List Env) (s : Shared) (H : Hp) (args : Args) (us : List Value) (vs : List V) (Q : VK), Room k A → Env0 P w K mg base A outer s H → BindsTo s fd args (ps.zip us) → Vals vs us → sp vs H Q E0 →
    codeAny (model P w) A (.call (.ref f) args) (CR CX0 outer P w H s Q E0) s
/-- the def x, in quiet surroundings -/
structure FdS (P : Program) (w : World) (K : PySem.W.Frag) (mg : Str → Option Value) (base : Heap) (k : Nat) (f : Addr) (fd : FuncData) (ps : List Str) (sp : Sp) : Prop where
  len : ∀ vs H Q E, sp vs H Q E → vs.length = ps.length
  run : ∀ A : Around, A.guards = some [] → Runs P w K mg base k f fd ps sp A
section
variable {P : Program} {w : World} {K : PySem.W.Frag} {mg : Str → Option Value} {base : Heap} {k : Nat} {x : Str} {st : Stmt} {N ps : List Str} {sp : Sp} {f : Addr} {fd : FuncData}
theorem mkS (F : FunD K x x (defArgs st) (defBody st) (defScope st) [] [] f fd) (S : FnScope N ps (defScope st)) (len : ∀ vs H Q E, sp vs H Q E → vs.length = ps.length)
    (body : ∀ (cdv : Value) (A : Around) (outer : List Env) (s : Shared) (H : Hp) (vs : List V) (Q : VK), (A.deeper (envOfC x (defScope st) s.heap.objs.size f cdv)).guards = some [] → Room k (A.deeper (envOfC x (defScope st) s.heap.objs.size f cdv)) → sp vs H Q E0 →
      ∃ t, PSs (cxOf CX0 P w K mg base N x (defScope st) f cdv A outer s H E0).nox (defBody st) t ∧ t { nx := fun _ H' => Q .non H', rt := Q } (start N vs) H) : FdS P w K mg base (k + 1) f fd ps sp := by
  obtain ⟨oc, od, dV, kV, doc, pm, an, cdv, ct, osl, rfl, lk, hcd, _⟩ := F.ex
  refine ⟨len, fun A quiet outer s H args us vs Q room e0 bound rel want => ?_⟩
  obtain ⟨t, ht, hq⟩ := body cdv A outer s H vs Q quiet (room.deeper _) want
  have old : ∀ b o, base.get? b = some o → s.heap.get? b = some o := fun b o e => (e0.bs b o e).1
  have inK : K.In s.heap := e0.mod.kin.keeps old
  have pk : ∀ y ∈ ps.zip us, (defScope st).names.lookup y.1 = some .local ∨ ((defScope st).names.lookup y.1 = some .cell ∧ ((cellsFrom (s.heap.objs.size + 1) (defScope st).names []).lookup y.1).isSome = true) := fun y hy =>
    (S.par y.1 (List.of_mem_zip (a := y.1) (b := y.2) hy).1).imp id fun c => ⟨c, PySem.W.cellsFrom_some _ _ _ (.inl c)⟩
  refine codeAny_call_function room.depth (inK _ _ lk) rfl S.co S.gen rfl (PySem.W.codeRec_of inK hcd) (bound _ _ _ _ (wpAny_newFunctionEnv_cells S.kind pk fun env he s1 made => ?_))
  subst he
  refine ⟨(e0.mod.nolimit.keeps old).keeps made.toInCall.keep, codeAny_func (wpAny_mono (ht.nox.run [] s1 (start N vs) H _ (inv_start S room.hd e0 (len _ _ _ _ want) rel made) hq) (fun fl s' end_ => ?_) fun _ _ z => z)⟩
  match fl, end_ with
  | .ret u, ⟨v, σ', H', J, rv, q⟩ => exact ⟨v, H', J.os, J.bare, J.base, J.hok, rv, q⟩
  | .next, ⟨σ', H', J, q⟩ => exact ⟨V.non, H', J.os, J.bare, J.base, J.hok, rfl, q⟩
  | .brk, ⟨_, _, _, z⟩ => exact z.elim
  | .cont, ⟨_, _, _, z⟩ => exact z.elim
theorem pe_fS {X : Cx} {p pos : Pos} {e : Expr} {es : List Expr} {t : TA} (F : FdS X.prog X.w X.K X.mg X.base k f fd ps sp) (quiet : X.A.guards = some []) (hr : Room k X.A) (hm : X.mg x = some (.ref f)) (hk : PySem.W.keepIn X.K (.ref f) = true) (hb : Binds X.K fd ps []) (hg : Gl X x) (ha : PA X (e :: es) t) (hdb : (x == ("__debug__" : Str)) = false := by decide)
    (he : starEach (e :: es) X.env = (false, eval e X.env) :: starEach es X.env := by rfl) (hpl : (backTo pos (starEach es X.env)).any (·.1) = false := by rfl) : PE X (.Call (.Name x p) (e :: es) [] pos) (tCall sp [] E0 t) := ⟨fun pins s σ H Q I h => by
  refine wpAny_Call_Name_kw (ld_glob I hg hm (PySem.W.callWith_K (h₀ := X.base) I.ok.mod.kin hk (thn (ha.run pos pins s σ H _ I h) fun us s1 ⟨vs, H1, I1, rel, want⟩ => ⟨I1.kIn, ?_⟩) he hpl) hdb)
  have want : sp vs H1 Q E0 := by rw [← List.append_nil vs]; exact want
  have bound := hb s1 us I1.kIn (by rw [List.append_nil, ← rel.length]; exact F.len _ _ _ _ want)
  rw [List.append_nil] at bound
  refine wpAny_call (codeAny_mono (F.run X.A quiet X.stack s1 H1 ⟨us, []⟩ us vs Q hr I1.env0 bound rel want) fun r s' hq => ?_)
  match r, hq with
  | .ok (.ret u), hq => exact I1.after hq
  | .ok .next, z => exact z.elim
  | .ok .brk, z => exact z.elim
  | .ok .cont, z => exact z.elim
  | .error _, z => exact z.elim⟩
/-- the law's call, ahead of everything: nothing is tracked but the script -/
theorem call_law {mb : Str → Option Value} {a : Addr} {s₁ : Shared} {vs : List Value} {ns : List Int} (inK : K.In s₁.heap) (glob : s₁.heap.Ns mainGlobals mg) (blt : s₁.heap.Ns builtinsNs mb) (bltEq : ∀ x : Str, x ≠ "__name__" → mb x = bootBuiltins x) (lim : s₁.heap.NoLimit) (gens : s₁.gens = #[])
    (hobj : s₁.heap.get? a = some { cls := .type "list", data := .seq vs.toArray }) (rd : IntsAre vs ns) (few : ns.length ≤ sizeLine) (room : Room k callerA)
    (F : ∀ base : Heap, K.In base → base.Ns mainGlobals mg → FdS P w K mg base k f fd [x] sp) (bound : ∀ (s : Shared) (u : Value), BindsTo s fd ⟨[u], []⟩ [(x, u)]) (want : ∀ H : Hp, SqL K H a (ns.map V.int) → sp [.ref a] H (fun v _ => v = .bl true) E0) :
    codeAny (model P w) callerA (.call (.ref f) ⟨[.ref a], []⟩) (fun r s' => r = .ok (.ret (.bool true)) ∧ OldK s₁.heap s'.heap ∧ s'.os = s₁.os ∧ AllBare s'.gens) s₁ := by
  have rel := L2.vals_ints rd
  obtain ⟨H, only, hS⟩ : ∃ H : Hp, (∀ b u, H b = some u → b = a ∧ K.lookup a = none ∧ u = .frz { cls := .type "list", data := .seq vs.toArray } (.lst (ns.map V.int))) ∧ SqL K H a (ns.map V.int) := by
    cases known : K.lookup a with
    | none =>
      refine ⟨fun b => if b = a then some (.frz { cls := .type "list", data := .seq vs.toArray } (.lst (ns.map V.int))) else none, fun b u z => ?_, .inl (.inr ⟨{ cls := .type "list", data := .seq vs.toArray }, if_pos rfl⟩)⟩
      simp only at z
      by_cases c : b = a
      · rw [if_pos c] at z
        exact ⟨c, rfl, (Option.some.inj z).symm⟩
      · rw [if_neg c] at z
        cases z
    | some o =>
      have same := inK a o known
      rw [hobj] at same
      cases same
      exact ⟨fun _ => none, fun b u z => (nomatch z), .inr ⟨_, vs.toArray, _, known, rfl, rfl, rfl, by rw [List.size_toArray, rd.length]; exact few, by simpa using rel⟩⟩
  have ok : HOk P w H s₁.heap := fun b u z => by
    obtain ⟨rfl, _, rfl⟩ := only b u z
    exact ⟨hobj, by rw [List.length_map]; exact few, vs, _, rel, hobj⟩
  have see : ∀ {b : Addr} {o : Obj}, s₁.heap.get? b = some o → (b = a → K.lookup a ≠ none ∨ ∃ es ep, o.data = .dict es ep) → (hidT s₁.heap H).get? b = some o := fun {b o} e c => hidT_get e (by
    cases z : H b with
    | none => rfl
    | some u =>
      obtain ⟨rfl, n, _⟩ := only b u z
      rcases c rfl with c | ⟨es, ep, d⟩
      · exact absurd n c
      · rw [hobj] at e
        cases e
        exact nomatch (show Data.seq _ _ = Data.dict es ep from d))
  have seeNs : ∀ {b : Addr} {m : Str → Option Value}, s₁.heap.Ns b m → (hidT s₁.heap H).Ns b m := fun n => by
    obtain ⟨o, es, ep, e, d, r⟩ := n
    exact ⟨o, es, ep, see e fun _ => .inr ⟨es, ep, d⟩, d, r⟩
  have inB : K.In (hidT s₁.heap H) := fun b o e => see (inK b o e) fun c => .inl (by rw [← c, e]; simp)
  have md : Mod K mg (hidT s₁.heap H) := ⟨inB, seeNs glob, ⟨mb, seeNs blt, bltEq⟩, by obtain ⟨m, h1, h2⟩ := lim; exact ⟨m, seeNs h1, h2⟩⟩
  have here : Env0 P w K mg (hidT s₁.heap H) callerA [] s₁ H := ⟨rfl, md, fun _ _ e => of_hidT e, Nat.le_of_eq (hidT_size _ _), trivial, fun _ z => (nomatch z), ok, .of_eq gens⟩
  refine codeAny_mono ((F _ inB (seeNs glob)).run callerA rfl [] s₁ H ⟨[.ref a], []⟩ [.ref a] [.ref a] _ room here (bound s₁ _) (.cons rfl .nil) (want H hS)) fun r s' h => ?_
  match r, h with
  | .ok (.ret u), ⟨v, H', os, bare, un, ok', ru, isT⟩ =>
    have isT : v = V.bl true := isT
    subst isT
    obtain rfl : u = Value.bool true := ru
    refine ⟨rfl, OldK.of_keep fun b o e => ?_, os, bare⟩
    cases z : H b with
    | none => exact un.keep b o e z (fun m => (nomatch m)) (by simp)
    | some t =>
      obtain ⟨rfl, _, rfl⟩ := only b t z
      rw [hobj] at e
      cases e
      exact (ok' b _ (un.frzs b _ _ z)).1
  | .ok .next, z => exact z.elim
  | .ok .brk, z => exact z.elim
  | .ok .cont, z => exact z.elim
  | .error _, z => exact z.elim
end
end K18

set_option Elab.async false
set_option linter.all false
set_option maxRecDepth 100000
set_option maxHeartbeats 4000000
/-! The pot; the law's middle. -/
namespace K18
open PySem PySem.Spec PyProof.Rows L2 RZ
theorem er_lst2 {σ : L2.St} {H : Hp} {ta tb : TE} {i j : Int} (ha : ER ta σ H (IntV i)) (hb : ER tb σ H (IntV j)) : ER (tLst (tCons ta (tCons tb tNil))) σ H (fun H' v => ∃ p, v = .ref p ∧ H' p = some (.lst [.int i, .int j])) := fun H1 e Q q =>
  ha H1 e _ fun x H2 e2 hx => hb H2 (e.trans e2) _ fun y H3 e3 hy => ⟨sz_of (by show 2 ≤ 100000; decide), fun p hp => q _ _ ((e2.trans e3).trans (same_new hp)) ⟨p, rfl, by rw [upd_same, show x = .int i from hx, show y = .int j from hy]⟩⟩
section
variable {P : Program} {w : World} {K : PySem.W.Frag} {mg : Str → Option Value} {base : Heap} {k : Nat} (T : Txt K mg)
include T
theorem ok_law_bent (F__law_pick : Fd P w K mg base 2 "_law_pick" ["_law_pot_here", "_law_some"] (SpPick K)) (F__law_draw : Fd P w K mg base 1 "_law_draw" ["_law_pot_here", "_law_many"] SpDraw) : ∀ n : Nat, n ≤ 50 → Fd P w K mg base (n + 3) "_law_bent" ["_law_pot_here", "_law_value_here"] (SpBent K n)
  | 0, h => bent_level T 0 h _ F__law_pick F__law_draw ((mkNever T.t__law_bent (fun _ _ _ _ _ _ us hl => match us, hl with | [_, _], _ => rfl)).mono (by omega)) fun n' e => nomatch e
  | n + 1, h => bent_level T (n + 1) h _ F__law_pick F__law_draw (ok_law_bent F__law_pick F__law_draw n (by omega)) fun n' e => by cases e; rfl
def SpPot (K : PySem.W.Frag) : Sp := fun vs H Q _ => ∃ (a : Addr) (ns : List Int), vs = [.ref a, .int 0] ∧ SqL K H a (ns.map V.int) ∧ ∀ p H', PotAt p H' → Q (.ref p) H'
theorem sc__law_pot : FnScope ["_law_script", "_law_k", "_law_cell"] ["_law_script", "_law_k"] (defScope s__law_pot) := ⟨rfl, rfl, rfl, by decide +kernel, rfl, by decide +kernel, by decide +kernel⟩
theorem ok_law_pot : Fd P w K mg base 1 "_law_pot" ["_law_script", "_law_k"] (SpPot K) := by
  refine mkFd T.t__law_pot (sc__law_pot T) (fun _ _ _ _ _ _ us hl => match us, hl with | [_, _], _ => rfl) (fun vs H Q E h => by obtain ⟨_, _, rfl, _⟩ := h; rfl) (fun cdv A outer s H vs Q E hr h => ?_)
  obtain ⟨a, ns, rfl, hs, q⟩ := h
  refine ⟨_, (pss_cons (ps_set (i := 2) (sc__law_pot T).nd rfl (Or.inl rfl) (pe_op op_add (pe_op op_mulW pe_int (pv 1)) pe_int)) (pss_cons (ps_if (pt_cmpR op_lt (pv 1) (pe_callB call_len_seq rfl T.f_len bt_len (pa_cons (pv 0) pa_nil)) (nomark _)) (pss_one (ps_set (i := 2) (sc__law_pot T).nd rfl (Or.inl rfl) (pe_callB call_abs rfl T.f_abs bt_abs (pa_cons (pe_ix ix_list (pv 0) (pv 1) (fun _ _ => rfl)) pa_nil)))) pss_nil) (pss_one (ps_ret (pe_lst (pa_cons (pe_callB (call_max2 rfl) rfl T.f_max bt_max (pa_cons pe_int (pa_cons (pe_op op_sub (pv 2) (pe_op op_pow pe_int pe_int)) pa_nil))) (pa_cons (pe_op op_add (pe_op op_modN (pe_callTy call_int1 rfl T.f_int bt_int (pa_cons (pe_op op_add (pe_op op_add (pe_op op_mulW (pe_op op_modN (pe_callTy call_int1 rfl T.f_int bt_int (pa_cons (pv 2) pa_nil)) pe_int) pe_int) (pe_op op_mulW pe_int (pv 1))) pe_int) pa_nil)) pe_int) pe_int) pa_nil))))))), ?_⟩
  have wm : ∀ i j : Int, 0 ≤ i → i < 2147483648 → 0 ≤ j → j < 2147483648 → CMulW i j := fun i j a1 a2 a3 a4 => wide_mul (a := 31) (b := 31) (by omega) (by omega) (by decide) (by decide) (by decide)
  have end_ : ∀ (cell : Int) (H1 : Hp) (D : Ends), D.rt = Q → tRet (tLst (tCons (tCB (fun xs H Q => ∃ i j, xs = [.int i, .int j] ∧ Q (.int (if j > i then j else i)) H) (tCons (tC (.int 0)) (tCons (tOp (rI0 fun i j => .int (i - j)) (tVar 2) (tOp (rI CPow fun i j => .int (i ^ j.toNat)) (tC (.int 10)) (tC (.int 18)))) tNil)))
      (tCons (tOp (rI0 fun i j => .int (i + j)) (tOp (rI (fun _ j => j ≠ 0) fun i j => .int (i.fmod j)) (tCB (fun xs H Q => (∃ i, xs = [.int i] ∧ Q (.int i) H) ∨ ∃ k, xs = [.bl k] ∧ Q (.int (if k then 1 else 0)) H) (tCons (tOp (rI0 fun i j => .int (i + j)) (tOp (rI0 fun i j => .int (i + j)) (tOp (rI CMulW fun i j => .int (i * j)) (tOp (rI (fun _ j => j ≠ 0) fun i j => .int (i.fmod j)) (tCB (fun xs H Q => (∃ i, xs = [.int i] ∧ Q (.int i) H) ∨ ∃ k, xs = [.bl k] ∧ Q (.int (if k then 1 else 0)) H) (tCons (tVar 2) tNil)) (tC (.int 2147483549))) (tC (.int 48271))) (tOp (rI CMulW fun i j => .int (i * j)) (tC (.int 6317)) (tVar 1))) (tC (.int 1061))) tNil)) (tC (.int 2147483563))) (tC (.int 1))) tNil))) D [some (.ref a), some (.int 0), some (.int cell)] H1 := fun cell H1 D hD => by
    have cv := er_var (A := IntV) (a := cell) (H := H1) (σ := [some (.ref a), some (.int 0), some (.int cell)]) 2 rfl rfl
    have ei : ∀ {te : TE} {σ : L2.St} {H : Hp} {i : Int}, ER te σ H (IntV i) → ER (tCB (fun xs H Q => (∃ i, xs = [.int i] ∧ Q (.int i) H) ∨ ∃ k, xs = [.bl k] ∧ Q (.int (if k then 1 else 0)) H) (tCons te tNil)) σ H (IntV i) := fun h => er_CB1 h fun x H1 _ hx Q q => .inl ⟨_, by rw [show x = .int _ from hx], q _ H1 (Same.refl _) rfl⟩
    have em : ∀ {ta tb : TE} {σ : L2.St} {H : Hp} {i j : Int}, 0 < j → ER ta σ H (IntV i) → ER tb σ H (IntV j) → ER (tOp (rI (fun _ j => j ≠ 0) fun i j => .int (i.fmod j)) ta tb) σ H (IntV (i % j)) := fun hj a b => (er_I (g := fun i j => i.fmod j) a b (by omega)).eq (Int.fmod_eq_emod_of_nonneg _ (by omega))
    have z0 : 0 ≤ cell % 2147483549 := Int.emod_nonneg _ (by decide)
    have z1 : cell % 2147483549 < 2147483549 := Int.emod_lt_of_pos _ (by decide)
    have one : ER _ _ H1 (IntV (if cell - 10 ^ 18 > 0 then cell - 10 ^ 18 else 0)) := er_CB2 (A := IntV) (a := 0) (S := IntV (cell - 10 ^ 18)) (rr := fun xs H Q => ∃ i j, xs = [.int i, .int j] ∧ Q (.int (if j > i then j else i)) H) er_int (er_I0 (g := fun i j => i - j) cv (er_I (P := CPow) (g := fun i j => i ^ j.toNat) (i := 10) (j := 18) er_int er_int ⟨by decide, by decide, by decide⟩)) fun x y H2 _ hx hy Q q => ⟨0, cell - 10 ^ 18, by rw [show x = .int 0 from hx, show y = .int _ from hy], q _ H2 (Same.refl _) rfl⟩
    have two := er_I0 (g := fun i j => i + j) (em (by decide) (ei (er_I0 (g := fun i j => i + j) (er_I0 (g := fun i j => i + j) (er_I (P := CMulW) (g := fun i j => i * j) (em (by decide) (ei cv) (er_int (i := 2147483549))) (er_int (i := 48271)) (wm _ _ z0 (by omega) (by decide) (by decide))) (er_I (P := CMulW) (g := fun i j => i * j) (er_int (i := 6317)) (er_var (A := IntV) (a := 0) (H := H1) (σ := [some (.ref a), some (.int 0), some (.int cell)]) 1 rfl rfl) (wm 6317 0 (by decide) (by decide) (by decide) (by decide)))) (er_int (i := 1061)))) (er_int (i := 2147483563))) (er_int (i := 1))
    refine s_ret (er_lst2 one two) fun v H2 e2 hv => ?_
    obtain ⟨p, rfl, hp⟩ := hv
    rw [hD]
    have w0 := Int.emod_nonneg (cell % 2147483549 * 48271 + 6317 * 0 + 1061) (b := 2147483563) (by decide)
    have w1 := Int.emod_lt_of_pos (cell % 2147483549 * 48271 + 6317 * 0 + 1061) (b := 2147483563) (by decide)
    exact q p _ ⟨_, _, hp, by split <;> omega, by omega, by omega⟩
  refine s_set 2 (er_I0 (g := fun i j => i + j) (er_I (P := CMulW) (g := fun i j => i * j) (er_int (i := 1231)) (er_var (A := IntV) (a := 0) (H := H) (σ := [some (.ref a), some (.int 0), none]) 1 rfl rfl) (wm 1231 0 (by decide) (by decide) (by decide) (by decide))) (er_int (i := 1031))) fun v2 H1 e1 hv2 => ?_
  cases (show v2 = .int _ from hv2)
  have hs1 := e1.seq hs
  have ln : ER (tCB (rLenS K) (tCons (tVar 0) tNil)) [some (.ref a), some (.int 0), some (.int (1231 * 0 + 1031))] H1 (IntV (ns.length : Int)) := fun H2 e2 Q q => ⟨.ref a, rfl, a, _, rfl, .inl (e2.seq hs1), q _ H2 (Same.refl _) (by rw [List.length_map]; rfl)⟩
  refine s_when (b := decide ((0 : Int) < (ns.length : Int))) (et_test (er_IB (g := fun i j => decide (i < j)) (er_var (A := IntV) (a := 0) 1 rfl rfl) ln)) (fun hb H2 e2 => ?_) (fun _ H2 e2 => end_ _ H2 _ rfl)
  have hb : (0 : Int) < (ns.length : Int) := of_decide_eq_true hb
  obtain ⟨n, r, rfl⟩ : ∃ n r, ns = n :: r := by cases ns with | nil => simp at hb | cons n r => exact ⟨n, r, rfl⟩
  exact ⟨.ref a, rfl, .int 0, rfl, a, _, 0, .int n, rfl, rfl, e2.seq hs1, atI_nat (j := 0) rfl, n, rfl, end_ _ H2 _ rfl⟩
end
end K18

set_option Elab.async false
set_option linter.all false
set_option maxRecDepth 100000
set_option maxHeartbeats 4000000
/-! The law's middle: everything is right. -/
namespace K18
open PySem PySem.Spec PyProof.Rows L2 RZ
abbrev L3 := {l : Nat // 1 ≤ l ∧ l ≤ 3}
theorem pe_ex {X : Cx} {e : Expr} {ι : Type} {te : ι → TE} (h : ∀ i, PE X e (te i)) : PE X e (fun σ H Q => ∃ i, te i σ H Q) := ⟨fun pins s σ H Q I w => let ⟨i, w⟩ := w; (h i).run pins s σ H Q I w⟩
theorem er_ex {ι : Type} {te : ι → TE} {σ : L2.St} {H : Hp} {R : Hp → V → Prop} (i : ι) (h : ER (te i) σ H R) : ER (fun σ H Q => ∃ i, te i σ H Q) σ H R := fun H1 e Q q => ⟨i, h H1 e Q q⟩
/-- how deep the law draws -/
def bOf (l : Nat) : Nat := if 1 < l then 4 / l else 4
theorem bOf_le (l : L3) : bOf l.1 ≤ 4 ∧ bOf l.1 * l.1 ≤ 4 ∧ nb (bOf l.1) l.1 ≤ 31 := by
  obtain ⟨l, h1, h3⟩ := l
  match l, h1, h3 with
  | 1, _, _ => exact (by decide : bOf 1 ≤ 4 ∧ bOf 1 * 1 ≤ 4 ∧ nb (bOf 1) 1 ≤ 31)
  | 2, _, _ => exact (by decide : bOf 2 ≤ 4 ∧ bOf 2 * 2 ≤ 4 ∧ nb (bOf 2) 2 ≤ 31)
  | 3, _, _ => exact (by decide : bOf 3 ≤ 4 ∧ bOf 3 * 3 ≤ 4 ∧ nb (bOf 3) 3 ≤ 31)
theorem sum_le {b : Int} : ∀ {k : List Int}, (∀ x ∈ k, x ≤ b) → k.sum ≤ k.length * b
  | [], _ => by simp
  | x :: k, h => by
    have h1 := h x List.mem_cons_self
    have h2 := sum_le (k := k) fun y m => h y (List.mem_cons_of_mem _ m)
    rw [List.sum_cons, List.length_cons]
    have e : (((k.length + 1 : Nat) : Int)) * b = (k.length : Int) * b + b := by rw [Int.natCast_add, Int.add_mul]; simp
    omega
theorem sh2 : ∀ a b : Bool, (shB [a, b]).length ≤ 1000 := by decide +kernel
theorem sh8 : ∀ a b c d e f g h : Bool, (shB [a, b, c, d, e, f, g, h]).length ≤ 1000 := by decide +kernel
theorem tame_of {l n : Nat} {d : PyData} (g : Good n d) (hn : n ≤ 60) (h : wt d ≤ 180) : Tame l d := ⟨g.shaped hn, fun hf => by have := flat_wt hf; omega⟩
def odd8 : List PyData := [.none, .int 0, .str "", .list [], .tuple [], ratD (0, 1), .tuple [ratD (1, 1), ratD (0, 1)], .tuple [.tuple [ratD (0, 1)]]]
theorem odd8_ok : ∀ d ∈ odd8, Good 60 d ∧ wt d ≤ 180 := by
  have gi : ∀ i : Int, i.natAbs < 100 → Good 0 (.int i) := fun i h => ⟨rfl, by simp [PyData.depth], by rw [smallD]; exact decide_eq_true (Nat.lt_of_lt_of_le h (by decide))⟩
  have gr : ∀ n u : Int, n.natAbs < 100 → u.natAbs < 100 → Good 1 (ratD (n, u)) := fun n u h1 h2 => good_tup fun d m => by
    rcases List.mem_cons.mp m with rfl | m
    · exact gi _ h1
    · rw [List.mem_singleton.mp m]; exact gi _ h2
  intro d m
  simp only [odd8, List.mem_cons, List.not_mem_nil, or_false] at m
  rcases m with rfl | rfl | rfl | rfl | rfl | rfl | rfl | rfl
  · exact ⟨⟨rfl, by simp [PyData.depth], by simp [smallD]⟩, by simp [wt]⟩
  · exact ⟨(gi 0 (by decide)).mono (by decide), by simp [wt]⟩
  · exact ⟨⟨by decide +kernel, by simp [PyData.depth], by simp [smallD]⟩, by simp [wt]⟩
  · exact ⟨(good_list (n := 0) fun d m => (by cases m)).mono (by decide), by simp [wt, wtL]⟩
  · exact ⟨(good_tup (n := 0) fun d m => (by cases m)).mono (by decide), by simp [wt, wtL]⟩
  · exact ⟨(gr 0 1 (by decide) (by decide)).mono (by decide), by simp [ratD, wt, wtL]⟩
  · refine ⟨(good_tup (n := 1) fun d m => ?_).mono (by decide), by simp [ratD, wt, wtL]⟩
    rcases List.mem_cons.mp m with rfl | m
    · exact gr 1 1 (by decide) (by decide)
    · rw [List.mem_singleton.mp m]; exact gr 0 1 (by decide) (by decide)
  · exact ⟨(good_tup (n := 2) fun d m => by rw [List.mem_singleton.mp m]; exact good_tup (n := 1) fun d m => by rw [List.mem_singleton.mp m]; exact gr 0 1 (by decide) (by decide)).mono (by decide), by simp [ratD, wt, wtL]⟩
section
variable {K : PySem.W.Frag} {σ : L2.St} {H H' : Hp} {ta tb tc te tl : TE}
theorem er_eqS {s t : Str} (ha : ER ta σ H (StrV s)) (hb : ER tb σ H (StrV t)) : ER (tOp rEq ta tb) σ H (BoolV (decide (s = t))) := fun H1 e Q q =>
  ha H1 e _ fun x H2 e2 hx => hb H2 (e.trans e2) _ fun y H3 e3 hy => by
    cases hx; cases hy
    refine ⟨rfl, q _ H3 (e2.trans e3) ?_⟩
    show V.bl _ = V.bl _
    rw [dec_str, Bool.beq_eq_decide_eq]
theorem er_neS {s t : Str} (ha : ER ta σ H (StrV s)) (hb : ER tb σ H (StrV t)) : ER (tOp rNe ta tb) σ H (BoolV (!decide (s = t))) := fun H1 e Q q =>
  ha H1 e _ fun x H2 e2 hx => hb H2 (e.trans e2) _ fun y H3 e3 hy => by
    cases hx; cases hy
    refine ⟨rfl, q _ H3 (e2.trans e3) ?_⟩
    show V.bl _ = V.bl _
    rw [dec_str, Bool.beq_eq_decide_eq]
theorem er_repr {bs : List Bool} (ha : ER ta σ H (LstV BoolV bs)) (hz : (shB bs).length ≤ 1000) : ER (tCB (rReprB K) (tCons ta tNil)) σ H (StrV (shB bs)) :=
  er_CB1 ha fun x H1 _ hx Q q => let ⟨a, xs, ex, h, h2⟩ := hx; ⟨a, bs, by rw [ex], by rw [← all2_bl h2]; exact SqL.of h, Nat.le_trans hz (by decide), q _ H1 (Same.refl _) rfl⟩
theorem et_neSame {d : PyData} (ha : ER ta σ H (DatV K d)) (hb : ER tb σ H (DatV K d)) (hc : PyData.canLay0 d = true ∧ PyData.depth d ≤ 60) : ET (tTest (tOp (rNeD K) ta tb)) σ H false :=
  (et_test (er_neD ha hb (shaped_of hc.1 (by omega)) (shaped_of hc.1 (by omega)))).eq (by rw [eqv_self hc.1]; rfl)
theorem et_neR {r r' : Rt} (ha : ER ta σ H (RatV K r)) (hb : ER tb σ H (RatV K r')) (e : r = r') : ET (tTest (tOp (rNeD K) ta tb)) σ H false :=
  (et_test (er_neR ha hb)).eq (by rw [e]; simp)
theorem er_pd {ts : List Tm} (ha : ER ta σ H (PolyV K ts)) : ER ta σ H (DatV K (polyD ts)) := ha.imp fun _ _ z => poly_dat z
theorem er_ud {d : PyData} (ha : ER ta σ H (PurV K d)) : ER ta σ H (DatV K d) := ha.imp fun _ _ z => z.2
theorem lay_poly (ts : List Tm) : PyData.canLay0 (polyD ts) = true ∧ PyData.depth (polyD ts) ≤ 60 := ⟨(shape_polyD ts).1, Nat.le_trans (shape_polyD ts).2 (by decide)⟩
theorem et_notTrue {b : Bool} (h : ER te σ H (BoolV b)) : ET (tTest (tOp rNotB te (tC (.bl true)))) σ H (!b) := fun H1 e Q q =>
  h H1 e _ fun x H2 e2 hx => ⟨b, true, hx, rfl, _, rfl, by cases b <;> exact q H2 e2⟩
theorem dic_gr {ts : List Tm} {p : Addr} {v : V} (h : DicV (RatV K) ts H v) (g : Gr p H H') (hp : PotAt p H) : DicV (RatV K) ts H' v := by
  obtain ⟨d, kvs, rfl, hd, he⟩ := h
  refine ⟨d, kvs, rfl, g _ _ (fun z => ?_) hd, Ent.tu (g.tm hp) he⟩
  obtain ⟨x, y, h', _⟩ := hp
  rw [z, h'] at hd
  cases hd
theorem er_TO {l : Nat} {d : PyData} (ha : ER ta σ H (DatV K d)) (hb : ER tb σ H (IntV (l : Int))) (hg : Good 60 d) (hf : formB l d = true) : ER (tCall (SpTO K l) [] E0 (tCons ta (tCons tb tNil))) σ H (DicV (RatV K) (sizeP l d)) := fun H1 e Q q =>
  ha H1 e _ fun x H2 e2 hx => hb H2 (e.trans e2) _ fun y H3 e3 hy => ⟨d, x, by rw [show y = .int (l : Int) from hy]; rfl, Mo.mo e3 hx, hg, fun r H4 e4 hr => by
    rcases hr with ⟨h, _⟩ | ⟨_, a, kvs, rfl, _, h1, h2⟩
    · rw [hf] at h; cases h
    · exact q _ H4 ((e2.trans e3).trans e4) ⟨a, kvs, rfl, h1, h2⟩⟩
end
def SpRight (K : PySem.W.Frag) : Sp := fun vs H Q _ => ∃ p : Addr, vs = [.ref p] ∧ PotAt p H ∧ ∀ H', Q (.bl true) H'
section
variable {P : Program} {w : World} {K : PySem.W.Frag} {mg : Str → Option Value} {base : Heap} {k : Nat} (T : Txt K mg)
include T
theorem sc__law_right : FnScope ["_law_pot_here", "_law_letters", "_law_sums_here", "_law_poly_here", "_law_due", "_law_told_here", "_law_turn", "_law_point_here", "_law_value_here", "_law_bent_here", "_law_is_so", "_law_odd"] ["_law_pot_here"] (defScope s__law_right) := ⟨rfl, rfl, rfl, by decide +kernel, rfl, by decide +kernel, by decide +kernel⟩
theorem ok_law_right {f : Addr} {fd : FuncData} (F : FnP K "_law_right" s__law_right fd) (hfa : f = He.ga K "_law_right")
    (F__law_pick : Fd P w K mg base 2 "_law_pick" ["_law_pot_here", "_law_some"] (SpPick K)) (F__law_poly : Fd P w K mg base 5 "_law_poly" ["_law_pot_here", "_law_letters", "_law_most", "_law_deep"] (SpPoly K)) (F__law_told : Fd P w K mg base 1 "_law_told" ["_law_sums_here"] (SpLTold K))
    (F__law_nested : ∀ l : L3, Fd P w K mg base 4 "_law_nested" ["_law_sums_here", "_law_letters"] (SpLN K l.1)) (F_nested_of : ∀ l : L3, Fd P w K mg base 6 "nested_of" ["many", "poly"] (SpNestedOf K l.1)) (FK_nested_of : ∀ l : L3, FdK P w K mg base 6 "nested_of" ["many", "poly"] (SpNestedOf K l.1))
    (F_poly_of : Fd P w K mg base 5 "poly_of" ["many", "terms"] (SpPolyOf K)) (F_is_nested : ∀ l : L3, Fd P w K mg base 8 "is_nested" ["many", "value"] (SpINO K l.1)) (FK_is_nested : ∀ l : L3, FdK P w K mg base 8 "is_nested" ["many", "value"] (SpINO K l.1))
    (F_poly_of_nested : ∀ l : L3, Fd P w K mg base 9 "poly_of_nested" ["many", "nested"] (SpPON K l.1)) (FK_poly_of_nested : ∀ l : L3, FdK P w K mg base 9 "poly_of_nested" ["many", "nested"] (SpPON K l.1)) (F__law_point : Fd P w K mg base 4 "_law_point" ["_law_pot_here", "_law_letters"] (SpPoint K)) (F__law_value : Fd P w K mg base 3 "_law_value" ["_law_sums_here", "_law_point_here"] (SpLValue K))
    (F_value_of_nested : ∀ l : L3, Fd P w K mg base 9 "value_of_nested" ["many", "nested", "point"] (SpVON K l.1)) (FK_value_of_nested : ∀ l : L3, FdK P w K mg base 9 "value_of_nested" ["many", "nested", "point"] (SpVON K l.1)) (F_value_at : Fd P w K mg base 7 "value_at" ["poly", "point"] (SpValueAt K))
    (F__law_bent : Fd P w K mg base 7 "_law_bent" ["_law_pot_here", "_law_value_here"] (SpBent K 4)) (F__law_is_nested : ∀ l : L3, Fd P w K mg base 6 "_law_is_nested" ["_law_value_here", "_law_letters"] (SpLIN K l.1)) (F__law_terms_of : ∀ l : L3, Fd P w K mg base 5 "_law_terms_of" ["_law_value_here", "_law_letters"] (SpTO K l.1)) :
    FdS P w K mg base 10 f fd ["_law_pot_here"] (SpRight K) := by
  subst hfa
  refine mkS F (sc__law_right T) (fun vs H Q E h => by obtain ⟨_, rfl, _⟩ := h; rfl) (fun cdv A outer s H vs Q hgd hr h => ?_)
  obtain ⟨p, rfl, hp, q⟩ := h
  refine ⟨_, (pss_cons (ps_set (i := 1) (sc__law_right T).nd rfl (Or.inr rfl) (pe_f F__law_pick (hr.mono (by omega)) rfl (pa_cons (pv 0) (pa_cons (pe_lst (pa_cons pe_int (pa_cons pe_int (pa_cons pe_int (pa_cons pe_int pa_nil))))) pa_nil)))) (pss_cons (ps_set (i := 2) (sc__law_right T).nd rfl (Or.inl rfl) (pe_f F__law_poly (hr.mono (by omega)) rfl (pa_cons (pv 0) (pa_cons (pv 1) (pa_cons pe_int (pa_cons (pe_ifExp (pt_cmpR op_gt (pv 1) pe_int (nomark _)) (pe_op op_fdivW pe_int (pv 1)) pe_int) pa_nil)))))) (pss_cons (ps_par (i := 3) (j := 4) rfl (sc__law_right T).nd rfl rfl (by decide) rfl rfl (pa_cons (pe_f F__law_told (hr.mono (by omega)) rfl (pa_cons (pv 2) pa_nil)) (pa_cons (pe_ex (ι := L3) fun l => (pe_f (F__law_nested l) (hr.mono (by omega)) rfl (pa_cons (pv 2) (pa_cons (pv 1) pa_nil)))) pa_nil)) rfl) (pss_cons (ps_set (i := 5) (sc__law_right T).nd rfl (Or.inl rfl) (pe_ex (ι := L3) fun l => (pe_f (F_nested_of l) (hr.mono (by omega)) rfl (pa_cons (pv 1) (pa_cons (pv 3) pa_nil))))) (pss_cons (ps_if (PW.pt (pw_or (pt_cmpR (op_neD hr.units) (pe_f F_poly_of (hr.mono (by omega)) rfl (pa_cons (pv 1) (pa_cons (pe_callTy call_list_of rfl T.f_list bt_list (pa_cons (pv 3) pa_nil)) pa_nil))) (pv 3) (nomark _)) (pw_or (pt_cmpR (op_neD hr.units) (pv 5) (pv 4) (nomark _)) (pw_or1 (pt_cmpR (op_neD hr.units) (pe_ex (ι := L3) fun l => (pe_fk (FK_nested_of l) (hr.mono (by omega)) rfl (pk_cons (pv 3) (pk_cons (pv 1) pk_nil)))) (pv 4) (nomark _)))))) (pss_one (ps_ret pe_bl)) pss_nil) (pss_cons (ps_if (PW.pt (pw_or (pt_cmpR op_notBl (pe_ex (ι := L3) fun l => (pe_f (F_is_nested l) (hr.mono (by omega)) rfl (pa_cons (pv 1) (pa_cons (pv 5) pa_nil)))) pe_bl (nomark _)) (pw_or1 (pt_cmpR (op_neD hr.units) (pe_ex (ι := L3) fun l => (pe_f (F_poly_of_nested l) (hr.mono (by omega)) rfl (pa_cons (pv 1) (pa_cons (pv 5) pa_nil)))) (pv 3) (nomark _))))) (pss_one (ps_ret pe_bl)) pss_nil) (pss_cons (ps_for PassesOwn.never rfl (pi_range1 rfl T.f_range (pa_cons pe_int pa_nil)) (pg_name (i := 6) (sc__law_right T).nd rfl (Or.inl rfl)) (pss_cons (ps_set (i := 7) (sc__law_right T).nd rfl (Or.inl rfl) (pe_f F__law_point (hr.mono (by omega)) rfl (pa_cons (pv 0) (pa_cons (pv 1) pa_nil)))) (pss_cons (ps_set (i := 8) (sc__law_right T).nd rfl (Or.inl rfl) (pe_f F__law_value (hr.mono (by omega)) rfl (pa_cons (pv 2) (pa_cons (pv 7) pa_nil)))) (pss_cons (ps_if (PW.pt (pw_or (pt_cmpR (op_neD hr.units) (pe_ex (ι := L3) fun l => (pe_f (F_value_of_nested l) (hr.mono (by omega)) rfl (pa_cons (pv 1) (pa_cons (pv 5) (pa_cons (pv 7) pa_nil))))) (pv 8) (nomark _)) (pw_or1 (pt_cmpR (op_neD hr.units) (pe_ex (ι := L3) fun l => (pe_fk (FK_value_of_nested l) (hr.mono (by omega)) rfl (pk_cons (pv 7) (pk_cons (pv 5) (pk_cons (pv 1) pk_nil))))) (pv 8) (nomark _))))) (pss_one (ps_ret pe_bl)) pss_nil) (pss_one (ps_if (PW.pt (pw_and (pt_cmpR (op_neD hr.units) (pv 3) (pe_tup pa_nil) (nomark _)) (pw_and1 (pt_cmpR (op_neD hr.units) (pe_f F_value_at (hr.mono (by omega)) rfl (pa_cons (pv 3) (pa_cons (pv 7) pa_nil))) (pv 8) (nomark _))))) (pss_one (ps_ret pe_bl)) pss_nil)))))) (pss_cons (ps_for PassesOwn.never rfl (pi_range1 rfl T.f_range (pa_cons pe_int pa_nil)) (pg_name (i := 6) (sc__law_right T).nd rfl (Or.inl rfl)) (pss_cons (ps_set (i := 9) (sc__law_right T).nd rfl (Or.inl rfl) (pe_f F__law_bent (hr.mono (by omega)) rfl (pa_cons (pv 0) (pa_cons (pv 4) pa_nil)))) (pss_cons (ps_set (i := 10) (sc__law_right T).nd rfl (Or.inl rfl) (pe_ex (ι := L3) fun l => (pe_f (F__law_is_nested l) (hr.mono (by omega)) rfl (pa_cons (pv 9) (pa_cons (pv 1) pa_nil))))) (pss_cons (ps_if (pt_cmpR op_ne (pe_callB (cr_reprB hgd hr.units) rfl T.f_repr bt_repr (pa_cons (pe_lst (pa_cons (pe_ex (ι := L3) fun l => (pe_f (F_is_nested l) (hr.mono (by omega)) rfl (pa_cons (pv 1) (pa_cons (pv 9) pa_nil)))) (pa_cons (pe_ex (ι := L3) fun l => (pe_fk (FK_is_nested l) (hr.mono (by omega)) rfl (pk_cons (pv 9) (pk_cons (pv 1) pk_nil)))) pa_nil))) pa_nil)) (pe_callB (cr_reprB hgd hr.units) rfl T.f_repr bt_repr (pa_cons (pe_lst (pa_cons (pv 10) (pa_cons (pv 10) pa_nil))) pa_nil)) (nomark _)) (pss_one (ps_ret pe_bl)) pss_nil) (pss_one (ps_if (PW.pt (pw_and (pt_val (pv 10)) (pw_and1 (pt_cmpR (op_neD hr.units) (pe_ex (ι := L3) fun l => (pe_fk (FK_poly_of_nested l) (hr.mono (by omega)) rfl (pk_cons (pv 9) (pk_cons (pv 1) pk_nil)))) (pe_f F__law_told (hr.mono (by omega)) rfl (pa_cons (pe_ex (ι := L3) fun l => (pe_f (F__law_terms_of l) (hr.mono (by omega)) rfl (pa_cons (pv 9) (pa_cons (pv 1) pa_nil)))) pa_nil)) (nomark _))))) (pss_one (ps_ret pe_bl)) pss_nil)))))) (pss_cons (ps_set (i := 11) (sc__law_right T).nd rfl (Or.inl rfl) (pe_lst (pa_cons pe_non (pa_cons pe_int (pa_cons pe_str (pa_cons (pe_lst pa_nil) (pa_cons (pe_tup pa_nil) (pa_cons (pe_tup (pa_cons pe_int (pa_cons pe_int pa_nil))) (pa_cons (pe_tup (pa_cons (pe_tup (pa_cons pe_int (pa_cons pe_int pa_nil))) (pa_cons (pe_tup (pa_cons pe_int (pa_cons pe_int pa_nil))) pa_nil))) (pa_cons (pe_tup (pa_cons (pe_tup (pa_cons (pe_tup (pa_cons pe_int (pa_cons pe_int pa_nil))) pa_nil)) pa_nil)) pa_nil)))))))))) (pss_one (ps_ret (pe_cmpR op_eq (pe_callB (cr_reprB hgd hr.units) rfl T.f_repr bt_repr (pa_cons (pe_lc (own := [("_law_value_here", 8)]) rfl (sc__law_right T).nd (pi_list (pv 11)) (blkOk_by (own := [("_law_value_here", 8)]) (N := ["_law_pot_here", "_law_letters", "_law_sums_here", "_law_poly_here", "_law_due", "_law_told_here", "_law_turn", "_law_point_here", "_law_value_here", "_law_bent_here", "_law_is_so", "_law_odd"]) (sc := defScope s__law_right) (by decide +kernel)) (fun _ _ _ _ _ => (pg_name (i := 8) (sc__law_right T).nd rfl (Or.inl rfl))) (fun _ _ _ _ _ => pts_nil) (fun _ _ _ _ _ => (pe_ex (ι := L3) fun l => (pe_f (F_is_nested l) (hr.mono (by omega)) rfl (pa_cons (pv 1) (pa_cons (pv 8) pa_nil)))))) pa_nil)) (pe_callB (cr_reprB hgd hr.units) rfl T.f_repr bt_repr (pa_cons (pe_lc (own := [("_law_value_here", 8)]) rfl (sc__law_right T).nd (pi_list (pv 11)) (blkOk_by (own := [("_law_value_here", 8)]) (N := ["_law_pot_here", "_law_letters", "_law_sums_here", "_law_poly_here", "_law_due", "_law_told_here", "_law_turn", "_law_point_here", "_law_value_here", "_law_bent_here", "_law_is_so", "_law_odd"]) (sc := defScope s__law_right) (by decide +kernel)) (fun _ _ _ _ _ => (pg_name (i := 8) (sc__law_right T).nd rfl (Or.inl rfl))) (fun _ _ _ _ _ => pts_nil) (fun _ _ _ _ _ => (pe_ex (ι := L3) fun l => (pe_f (F__law_is_nested l) (hr.mono (by omega)) rfl (pa_cons (pv 8) (pa_cons (pv 1) pa_nil)))))) pa_nil)) (nomark _))))))))))))), ?_⟩
  refine ⟨.ref p, rfl, sz_of (by decide), fun a ha => ⟨p, a, _, rfl, hp.same (same_new ha), upd_same, pot_ne hp ha, by decide, by decide, fun v H1 hv g1 hp1 => ?_⟩⟩
  obtain ⟨l, rfl⟩ : ∃ l : L3, v = .int ((l.1 : Nat) : Int) := by
    simp only [List.mem_cons, List.not_mem_nil, or_false] at hv
    rcases hv with rfl | rfl | rfl | rfl
    · exact ⟨⟨1, by decide⟩, rfl⟩
    · exact ⟨⟨2, by decide⟩, rfl⟩
    · exact ⟨⟨2, by decide⟩, rfl⟩
    · exact ⟨⟨3, by decide⟩, rfl⟩
  obtain ⟨b4, bl4, b31⟩ := bOf_le l
  have l1 := l.2.1
  have l3 := l.2.2
  have lv : ∀ {σ : L2.St} {H : Hp}, σ[1]? = some (some (.int ((l.1 : Nat) : Int))) → ER (tVar 1) σ H (IntV (l.1 : Int)) := fun h => er_var (A := IntV) 1 h rfl
  refine ⟨.ref p, rfl, .int (l.1 : Int), rfl, er_if (R := IntV (bOf l.1 : Int)) (j := decide (1 < l.1)) ((et_test (er_IB (g := fun i j => decide (j < i)) (lv rfl) (er_int (i := 1)))).eq (decide_eq_decide.mpr (by omega))) (fun h => ?_) (fun h => ?_) H1 (Same.refl _) _ fun x H2 e2 hx => ⟨p, l.1, 6, (bOf l.1 : Int), by rw [show x = .int (bOf l.1 : Int) from hx]; rfl, hp1.same e2, by omega, by decide, by decide, by omega, by omega, fun ts sv H3 hS hd3 g3 hp3 => ?_⟩⟩
  · have h := of_decide_eq_true h
    refine (er_I (P := CDivW) (g := fun i j => i / j) (er_int (i := 4)) (lv rfl) (wide_div (b := 8) (by omega) (by omega) (by decide) (by decide))).eq ?_
    unfold bOf
    rw [if_pos h]
    rfl
  · have h := of_decide_eq_false h
    refine (er_int (i := 4)).eq ?_
    unfold bOf
    rw [if_neg h]
    rfl
  have hso := hS.ok
  have few := hS.few
  have hts8 : TsOk l.1 8 ts := ⟨hso.keys, fun t m x hx => by have := hso.exp t m x hx; omega, hso.norm⟩
  have hts4 : TsOk l.1 4 ts := ⟨hso.keys, fun t m x hx => by have := hso.exp t m x hx; omega, hso.norm⟩
  have nzts : nzT ts = ts := List.filter_eq_self.mpr fun t m => by simpa [nzB] using hS.nz t m
  have perm : (told ts).Perm ts := by have := told_perm ts; rw [nzts] at this; exact this
  have flen : (told ts).length ≤ 6 := by rw [perm.length_eq]; exact few
  have hto8 := hts8.perm perm
  have hpo : PolyOk l.1 (told ts) := ⟨hto8.keys, told_up ts, fun t m => hS.nz t (perm.mem_iff.mp m), hto8.norm, by omega⟩
  have sum8 : ∀ t ∈ ts, t.1.sum ≤ 8 := fun t m => by
    have h1 := sum_le (hso.exp t m)
    rw [hso.keys.len t m] at h1
    have h2 : ((l.1 : Int)) * ((bOf l.1 : Nat) : Int) ≤ 4 := by
      have : ((bOf l.1 * l.1 : Nat) : Int) ≤ 4 := by omega
      rw [Int.natCast_mul, Int.mul_comm] at this
      exact this
    omega
  have hdeg : degB (told ts) = true := List.all_eq_true.mpr fun t m => decide_eq_true (sum8 t (perm.mem_iff.mp m))
  have hnest : nest l.1 (told ts) = nest l.1 ts := nest_perm hso.keys perm
  have hnB : nestedB l.1 (nest l.1 ts) = true := nestedB_nest (by decide) (by decide) hts8 hS.nz sum8 (by omega)
  have hsz : sizeP l.1 (nest l.1 ts) = told ts := sizeP_nest (by decide) (by decide) hts8
  obtain ⟨hgood, hfine⟩ := nest_good (by omega) (by omega) hso hS.sz
  have hfine := hfine (by omega)
  have hwt : wt (nest l.1 ts) ≤ 31 := Nat.le_trans (nest_wt hso) b31
  have hg60 : Good 60 (nest l.1 ts) := hgood.mono (by omega)
  have htame : Tame l.1 (nest l.1 ts) := tame_of hg60 (by decide) (by omega)
  have lay : PyData.canLay0 (nest l.1 ts) = true ∧ PyData.depth (nest l.1 ts) ≤ 60 := ⟨hg60.lay, hg60.dep⟩
  refine s_par 3 4 (A := PolyV K) (a := told ts) (B := PurV K) (b := nest l.1 ts) (er_call1 (A := DicV (RatV K)) (a := ts) (er_var 2 rfl hd3) ⟨⟨l.1, l1, hso.keys⟩, by omega, hso.norm⟩) (er_ex l (er_call2 (A := DicV (RatV K)) (a := ts) (B := IntV) (b := (l.1 : Int)) (er_var 2 rfl hd3) (lv rfl) ⟨rfl, hts8, by omega⟩)) fun pv dv H4 e4 hpv hdv => ?_
  refine s_set 5 (er_ex l (ER.eq (er_call2 (A := IntV) (a := (l.1 : Int)) (B := PolyV K) (b := told ts) (C := PurV K) (lv rfl) (er_var 3 rfl hpv) ⟨rfl, hpo, hto8, by omega, hdeg⟩) hnest)) fun tv H5 e5 htv => ?_
  have σ5 : L2.St := [some (.ref p), some (.int (l.1 : Int)), some sv, some pv, some dv, some tv, none, none, none, none, none, none]
  have vP : ∀ {σ : L2.St} {H : Hp}, Same H5 H → σ[3]? = some (some pv) → ER (tVar 3) σ H (PolyV K (told ts)) := fun e h => er_var 3 h (Mo.mo (e5.trans e) hpv)
  have vD : ∀ {σ : L2.St} {H : Hp}, Same H5 H → σ[4]? = some (some dv) → ER (tVar 4) σ H (PurV K (nest l.1 ts)) := fun e h => er_var 4 h (Mo.mo (e5.trans e) hdv)
  have vT : ∀ {σ : L2.St} {H : Hp}, Same H5 H → σ[5]? = some (some tv) → ER (tVar 5) σ H (PurV K (nest l.1 ts)) := fun e h => er_var 5 h (Mo.mo e htv)
  have r5 := Same.refl H5
  refine s_when (b := false) (et_or (et_neSame (d := polyD (told ts)) (er_pd (er_call2 (A := IntV) (a := (l.1 : Int)) (B := LstV (TermV K)) (b := told ts) (C := PolyV K) (f := fun _ ts => ts) (lv rfl) (er_listT (vP r5 rfl)) ⟨l.1, rfl, l1, by omega, hpo, by omega, hdeg, fun t m => hS.sz t (perm.mem_iff.mp m)⟩)) (er_pd (vP r5 rfl)) (lay_poly _)) fun _ => et_or (et_neSame (er_ud (vT r5 rfl)) (er_ud (vD r5 rfl)) lay) fun _ => et_neSame (er_ud (er_ex l (ER.eq (er_callR2 (A := IntV) (a := (l.1 : Int)) (B := PolyV K) (b := told ts) (C := PurV K) (vP r5 rfl) (lv rfl) ⟨rfl, hpo, hto8, by omega, hdeg⟩) hnest))) (er_ud (vD r5 rfl)) lay) (fun z => nomatch z) fun _ H6 e6 => ?_
  refine s_when (b := false) (ET.eq (et_or (et_notTrue (er_ex l (er_call2 (A := IntV) (a := (l.1 : Int)) (B := DatV K) (b := nest l.1 ts) (C := BoolV) (lv rfl) (er_ud (vT e6 rfl)) ⟨rfl, htame⟩))) fun _ => et_neSame (er_pd (er_ex l (ER.eq (er_call2 (A := IntV) (a := (l.1 : Int)) (B := DatV K) (b := nest l.1 ts) (C := PolyV K) (lv rfl) (er_ud (vT e6 rfl)) ⟨rfl, htame, hnB⟩) hsz))) (er_pd (vP e6 rfl)) (lay_poly _)) (by rw [hnB]; rfl)) (fun z => nomatch z) fun _ H7 e7 => ?_
  have E7 := e4.trans (e5.trans (e6.trans e7))
  have dv7 : DicV (RatV K) ts H7 sv := Mo.mo E7 hd3
  have pv7 : PolyV K (told ts) H7 pv := Mo.mo (e5.trans (e6.trans e7)) hpv
  have uv7 : PurV K (nest l.1 ts) H7 dv := Mo.mo (e5.trans (e6.trans e7)) hdv
  have tv7 : PurV K (nest l.1 ts) H7 tv := Mo.mo (e6.trans e7) htv
  have hp7 := hp3.same E7
  clear vP vD vT r5 e6 e7 e4 e5 E7 hp3 hpv hdv htv hd3 σ5
  refine s_forR (n := 3) er_int (by decide) (by decide) fun H8 e8 => ⟨fun i σ' H' => ∃ x6 x7 x8, σ' = [some (.ref p), some (.int (l.1 : Int)), some sv, some pv, some dv, some tv, x6, x7, x8, none, none, none] ∧ Gr p H7 H' ∧ PotAt p H', ⟨none, none, none, rfl, Gr.same e8, hp7.same e8⟩, fun i σ' H' _ pi => ?_, fun σ' H' pi => ?_⟩
  · obtain ⟨x6, x7, x8, rfl, g9, hp9⟩ := pi
    refine ⟨.ref p, rfl, .int (l.1 : Int), rfl, p, l.1, rfl, hp9, by omega, fun rs rv H10 hrl hrs hrv g10 hp10 => ?_⟩
    have G := g9.trans g10
    have tm := G.tm hp7
    have vok : VOk ts rs := ⟨few, fun t m => ⟨by rw [hso.keys.len t m]; exact l3, fun x hx => ⟨(hso.keys.bd t m x hx).1, hts4.exp t m x hx⟩⟩, hS.sz, fun x m => (hrs x m).2⟩
    have vokT : VOk (told ts) rs := ⟨flen, fun t m => vok.key t (perm.mem_iff.mp m), fun t m => vok.sz t (perm.mem_iff.mp m), vok.pt⟩
    obtain ⟨va, vb_⟩ := values_agree (by omega) (by omega) hso perm hrl fun y m => (hrs y m).1.1
    refine s_set 8 (er_call2 (A := DicV (RatV K)) (a := ts) (B := TupV K (RatV K)) (b := rs) (C := RatV K) (f := fun ts pt => sumV prodL pt (0, 1) ts) (er_var 2 rfl (dic_gr dv7 G hp7)) (er_var 7 rfl hrv) ⟨vok, hso.keys.nd⟩) fun wv H11 e11 hwv => ?_
    have vp : ∀ {σ : L2.St} {H : Hp}, Same H11 H → σ[7]? = some (some rv) → ER (tVar 7) σ H (TupV K (RatV K) rs) := fun e h => er_var 7 h (Mo.mo (e11.trans e) hrv)
    have vw : ∀ {σ : L2.St} {H : Hp}, Same H11 H → σ[8]? = some (some wv) → ER (tVar 8) σ H (RatV K (sumV prodL rs (0, 1) ts)) := fun e h => er_var 8 h (Mo.mo e hwv)
    have vt : ∀ {σ : L2.St} {H : Hp}, Same H11 H → σ[5]? = some (some tv) → ER (tVar 5) σ H (DatV K (nest l.1 ts)) := fun e h => er_var (A := DatV K) 5 h (Tu.tu (tm.trans (TM.same (e11.trans e))) tv7).2
    have r11 := Same.refl H11
    refine s_when (b := false) (et_or (et_neR (er_ex l (er_call3 (A := IntV) (a := (l.1 : Int)) (B := DatV K) (b := nest l.1 ts) (C := TupV K (RatV K)) (c := rs) (D := RatV K) (f := fun _ d pt => valF d pt) (lv rfl) (vt r11 rfl) (vp r11 rfl) ⟨rfl, htame, hnB, hfine, hrl, vok.pt, fun x m => (hrs x m).1⟩)) (vw r11 rfl) va) fun _ => et_neR (er_ex l (er_callR3 (A := IntV) (a := (l.1 : Int)) (B := DatV K) (b := nest l.1 ts) (C := TupV K (RatV K)) (c := rs) (D := RatV K) (f := fun _ d pt => valF d pt) (vp r11 rfl) (vt r11 rfl) (lv rfl) ⟨rfl, htame, hnB, hfine, hrl, vok.pt, fun x m => (hrs x m).1⟩)) (vw r11 rfl) va) (fun z => nomatch z) fun _ H12 e12 => ?_
    have vq : ER (tVar 3) [some (.ref p), some (.int (l.1 : Int)), some sv, some pv, some dv, some tv, some (.int (i : Int)), some rv, some wv, none, none, none] H12 (PolyV K (told ts)) := er_var 3 rfl (Tu.tu (tm.trans (TM.same (e11.trans e12))) pv7)
    refine s_when1 (b := false) (ET.eq (et_and (k := false) (et_test (er_neD (er_pd vq) er_dat0 (shaped_polyD _) shaped_nil)) fun hz => ?_) (by simp)) (fun z => nomatch z) fun _ H13 e13 => ⟨_, _, _, rfl, G.trans (Gr.same (e11.trans (e12.trans e13))), hp10.same (e11.trans (e12.trans e13))⟩
    unfold polyD at hz
    rw [eqv_empty] at hz
    have hne : told ts ≠ [] := fun z => by rw [z] at hz; cases hz
    exact et_neR (er_call2 (A := PolyV K) (a := told ts) (B := TupV K (RatV K)) (b := rs) (C := RatV K) (f := fun ts pt => sumV prodV pt (0, 1) ts) vq (vp e12 rfl) ⟨vokT, hne, l.1, l1, by omega, hpo, by omega, hdeg, hrl, fun x m => (hrs x m).1⟩) (vw e12 rfl) vb_
  · obtain ⟨x6, x7, x8, rfl, g9, hp9⟩ := pi
    refine s_forR (n := 4) er_int (by decide) (by decide) fun H10 e10 => ⟨fun i σ' H' => ∃ x6 x7 x8 x9 x10, σ' = [some (.ref p), some (.int (l.1 : Int)), some sv, some pv, some dv, some tv, x6, x7, x8, x9, x10, none] ∧ Gr p H7 H' ∧ PotAt p H', ⟨x6, x7, x8, none, none, rfl, g9.trans (Gr.same e10), hp9.same e10⟩, fun i σ' H' _ pi => ?_, fun σ' H' pi => ?_⟩
    · obtain ⟨x6, x7, x8, x9, x10, rfl, g11, hp11⟩ := pi
      obtain ⟨ds, hds⟩ : ∃ ds, nest l.1 ts = .tuple ds := form_succ (l := l.1 - 1) (by rw [Nat.sub_add_cancel l1]; exact nested_formB T hnB)
      have hne : ds ≠ [] := by
        have := nested_formB T hnB
        rw [hds, show l.1 = (l.1 - 1) + 1 by omega] at this
        have := (form_tuple this).1
        intro z
        rw [z] at this
        simp at this
      refine ⟨.ref p, rfl, dv, rfl, p, ds, dv, rfl, hp11, by rw [← hds]; exact Tu.tu (g11.tm hp7) uv7, hne, by rw [← hds]; exact hgood.mono (by omega), by rw [← hds]; omega, fun d' bv H12 hbv gd' wd' g12 hp12 => ?_⟩
      rw [← hds] at wd'
      have gd : Good 60 d' := gd'.mono (by decide)
      have td : Tame l.1 d' := tame_of gd (by decide) (by omega)
      have vb1 : ∀ {σ : L2.St} {H : Hp}, Same H12 H → σ[9]? = some (some bv) → ER (tVar 9) σ H (DatV K d') := fun e h => er_var 9 h (Mo.mo e hbv)
      refine s_set 10 (er_ex l (er_call2 (A := DatV K) (a := d') (B := IntV) (b := (l.1 : Int)) (C := BoolV) (f := fun d _ => nestedB l.1 d) (vb1 (Same.refl _) rfl) (lv rfl) ⟨rfl, gd, td⟩)) fun iv H13 e13 hiv => ?_
      have vi : ∀ {σ : L2.St} {H : Hp}, Same H13 H → σ[10]? = some (some iv) → ER (tVar 10) σ H (BoolV (nestedB l.1 d')) := fun e h => er_var 10 h (Mo.mo e hiv)
      have r13 := Same.refl H13
      refine s_when (b := false) (ET.eq (et_test (er_neS (er_repr (K := K) (er_lstA (A := BoolV) (l := [nestedB l.1 d', nestedB l.1 d']) (ea_cons (er_ex l (er_call2 (A := IntV) (a := (l.1 : Int)) (B := DatV K) (b := d') (C := BoolV) (f := fun _ d => nestedB l.1 d) (lv rfl) (vb1 e13 rfl) ⟨rfl, td⟩)) (ea_cons (er_ex l (er_callR2 (A := IntV) (a := (l.1 : Int)) (B := DatV K) (b := d') (C := BoolV) (f := fun _ d => nestedB l.1 d) (vb1 e13 rfl) (lv rfl) ⟨rfl, td⟩)) ea_nil)) (by simp)) (sh2 _ _)) (er_repr (K := K) (er_lstA (A := BoolV) (l := [nestedB l.1 d', nestedB l.1 d']) (ea_cons (vi r13 rfl) (ea_cons (vi r13 rfl) ea_nil)) (by simp)) (sh2 _ _)))) (by simp)) (fun z => nomatch z) fun _ H14 e14 => ?_
      refine s_when1 (b := false) (ET.eq (et_and (k := false) (et_B (vi e14 rfl)) fun hz => ?_) (by simp)) (fun z => nomatch z) fun _ H15 e15 => ⟨_, _, _, _, _, rfl, (g11.trans g12).trans (Gr.same (e13.trans (e14.trans e15))), hp12.same (e13.trans (e14.trans e15))⟩
      have hf := nested_formB T hz
      have hpd := sizeP_ok hf (td.2 hf)
      have E14 := e13.trans e14
      exact et_neSame (d := polyD (sizeP l.1 d')) (er_pd (er_ex l (er_callR2 (A := IntV) (a := (l.1 : Int)) (B := DatV K) (b := d') (C := PolyV K) (f := fun _ d => sizeP l.1 d) (vb1 E14 rfl) (lv rfl) ⟨rfl, td, hz⟩))) (er_pd (ER.eq (er_call1 (A := DicV (RatV K)) (a := sizeP l.1 d') (B := PolyV K) (f := told) (er_ex l (er_TO (vb1 E14 rfl) (lv rfl) gd hf)) ⟨⟨l.1, l1, hpd.keys⟩, Nat.lt_of_le_of_lt (List.length_filter_le _ _) (td.2 hf), hpd.norm⟩) hpd.told)) (lay_poly _)
    · obtain ⟨x6, x7, x8, x9, x10, rfl, g11, hp11⟩ := pi
      have pc : ∀ {σ : L2.St} {H : Hp} {d : PyData} {x : V}, Dp K H x d → ER (tC x) σ H (DatV K d) := fun h => er_c (A := DatV K) h
      have pr : ∀ {σ : L2.St} {H : Hp} (i j : Int), ER (tTup (tCons (tC (.int i)) (tCons (tC (.int j)) tNil))) σ H (DatV K (ratD (i, j))) := fun i j => (er_rat (K := K) (i := i) (j := j) er_int er_int).imp fun _ _ z => dat_rat z
      have ld : ∀ {H : Hp} {v : V} {l : List PyData}, LstV (DatV K) l H v → DatV K (.list l) H v := fun h => let ⟨a, xs, e, h1, h2⟩ := h; e ▸ .lst (SqL.of h1) (dpAll_iff.mpr h2)
      refine s_set 11 (er_lstA (A := DatV K) (l := odd8) (ea_cons (pc .non) (ea_cons (pc (.int 0)) (ea_cons (pc (.str "")) (ea_cons (er_lst0.imp fun _ _ z => ld z) (ea_cons er_dat0 (ea_cons (pr 0 1) (ea_cons ((er_tupA (A := DatV K) (ea_cons (pr 1 1) (ea_cons (pr 0 1) ea_nil)) (by simp)).imp fun _ _ z => dat_tup z) (ea_cons ((er_tupA (A := DatV K) (ea_cons ((er_tupA (A := DatV K) (ea_cons (pr 0 1) ea_nil) (by simp)).imp fun _ _ z => dat_tup z) ea_nil) (by simp)).imp fun _ _ z => dat_tup z) ea_nil)))))))) (by simp [odd8])) fun ov H12 e12 hov => ?_
      have vo := er_var (A := LstV (DatV K)) (a := odd8) (H := H12) (σ := [some (.ref p), some (.int (l.1 : Int)), some sv, some pv, some dv, some tv, x6, x7, x8, x9, x10, some ov]) 11 rfl hov
      refine s_ret (ER.eq (A := BoolV) (a' := true) (er_eqS (er_repr (K := K) (bs := odd8.map (nestedB l.1)) (ER.eq (er_lcL (A := DatV K) (B := BoolV) (fun _ => true) (nestedB l.1) vo (by simp [odd8]) fun d x H13 md e13 hx => ?_) (by rw [filter_yes])) (sh8 _ _ _ _ _ _ _ _)) (er_repr (K := K) (bs := odd8.map (nestedB l.1)) (ER.eq (er_lcL (A := DatV K) (B := BoolV) (fun _ => true) (nestedB l.1) vo (by simp [odd8]) fun d x H13 md e13 hx => ?_) (by rw [filter_yes])) (sh8 _ _ _ _ _ _ _ _))) (by simp)) fun r H14 e14 hr14 => ?_
      · obtain ⟨gd, wd⟩ := odd8_ok d md
        exact turn_name rfl et_yes fun _ => er_ex l (er_call2 (A := IntV) (a := (l.1 : Int)) (B := DatV K) (b := d) (C := BoolV) (f := fun _ d => nestedB l.1 d) (lv rfl) (er_var 8 rfl hx) ⟨rfl, tame_of gd (by decide) wd⟩)
      · obtain ⟨gd, wd⟩ := odd8_ok d md
        exact turn_name rfl et_yes fun _ => er_ex l (er_call2 (A := DatV K) (a := d) (B := IntV) (b := (l.1 : Int)) (C := BoolV) (f := fun d _ => nestedB l.1 d) (er_var 8 rfl hx) (lv rfl) ⟨rfl, gd, tame_of gd (by decide) wd⟩)
      · rw [show r = .bl true from hr14]
        exact q H14
end
end K18

set_option Elab.async false
set_option linter.all false
set_option maxRecDepth 100000
set_option maxHeartbeats 4000000
/-! The law: all defs put together. -/
namespace K18
open PySem PySem.Spec PyProof.Rows L2 RZ
/-- for a list of at most 63 ints the answer is True -/
def SpLaw (K : PySem.W.Frag) : Sp := fun vs H Q _ => ∃ (a : Addr) (ns : List Int), vs = [.ref a] ∧ SqL K H a (ns.map V.int) ∧ ∀ H', Q (.bl true) H'
section
variable {P : Program} {w : World} {K : PySem.W.Frag} {mg : Str → Option Value} {base : Heap} {k : Nat} (T : Txt K mg)
include T
theorem sc_law : FnScope ["_law_script"] ["_law_script"] (defScope s_law) := ⟨rfl, rfl, rfl, by decide +kernel, rfl, by decide +kernel, by decide +kernel⟩
theorem ok_law {fd fr : FuncData} (F : FnP K "law" s_law fd) (R : FnP K "_law_right" s__law_right fr) : FdS P w K mg base 11 (He.ga K "law") fd ["_law_script"] (SpLaw K) := by
  have F_is_integer : Fd P w K mg base 1 "is_integer" _ _ := ok_is_integer T
  have F_is_count := ok_is_count T F_is_integer
  have F_want_many := ok_want_many T F_is_count
  have F_want_at_most : Fd P w K mg base 1 "want_at_most" _ _ := ok_want_at_most T
  have F_made_ratio : Fd P w K mg base 1 "made_ratio" _ _ := ok_made_ratio T
  have F_add_ratios := ok_add_ratios T F_made_ratio
  have F_mul_ratios := ok_mul_ratios T F_made_ratio
  have F_is_ratio := ok_is_ratio T F_is_integer
  have F_power_ratio := ok_power_ratio T F_mul_ratios
  have F_low : Fd P w K mg base 1 "_law_low" _ _ := ok_law_low T
  have F_ladd := ok_law_add T F_low
  have F_lmul := ok_law_mul T F_low
  have F_is_point := ok_is_point T F_is_ratio
  have F_is_term := ok_is_term T F_is_ratio F_is_count
  have F_is_poly_in := ok_is_poly_in T F_is_term
  have F_letters_of : Fd P w K mg base 1 "letters_of" _ _ := ok_letters_of T
  have F_is_any_poly := ok_is_any_poly T F_is_poly_in
  have F_want_letters_many := ok_want_letters_many T F_want_many
  have F_want_poly := ok_want_poly T F_is_any_poly
  have F_want_poly_in := ok_want_poly_in T F_is_poly_in
  have F_want_point_for := ok_want_point_for T F_is_point
  have F_told_poly : Fd P w K mg base 1 "told_poly" _ _ := ok_told_poly T
  have F_put_more := ok_put_more T F_add_ratios
  have F_degree_of : Fd P w K mg base 1 "degree_of" _ _ := ok_degree_of T
  have F_want_few := ok_want_few T F_want_at_most F_degree_of
  have F_value_of := ok_value_of T F_add_ratios F_mul_ratios F_power_ratio
  have F_value_at := ok_value_at T F_want_poly F_letters_of F_want_point_for F_value_of
  have F_is_list : Fd P w K mg base 1 "is_list" _ _ := ok_is_list T
  have F_poly_of := ok_poly_of T F_want_letters_many F_is_list F_is_term F_put_more F_want_few F_told_poly
  have F_nested_from : ∀ l : L3, Fd P w K mg base 4 "nested_from" _ (SpNF K l.1) := fun l => (ok_nested_from T l.1).mono (by have := l.2.2; omega)
  have F_terms_from : ∀ l : L3, Fd P w K mg base 4 "terms_from" _ (SpTF K l.1) := fun l => (ok_terms_from T l.1).mono (by have := l.2.2; omega)
  have F_value_from : ∀ l : L3, Fd P w K mg base 6 "value_from" _ (SpVF K l.1) := fun l => (ok_value_from T F_add_ratios F_mul_ratios l.1).mono (by have := l.2.2; omega)
  have F_has_form : ∀ l : L3, Fd P w K mg base 6 "has_form" _ (SpHF K l.1) := fun l => (ok_has_form T F_is_ratio l.1).mono (by have := l.2.2; omega)
  have F_poly_from := fun l : L3 => ok_poly_from T l.1 l.2.1 l.2.2 (F_terms_from l) F_told_poly
  have F_is_nested_of := fun l : L3 => ok_is_nested_of T l.1 l.2.1 l.2.2 (F_has_form l) (F_poly_from l) F_is_poly_in (F_nested_from l)
  have F_want_nested := fun l : L3 => ok_want_nested T l.1 (F_is_nested_of l)
  have B_is_nested := fun l : L3 => ok_is_nested T l.1 l.2.1 l.2.2 F_want_letters_many (F_is_nested_of l)
  have B_nested_of := fun l : L3 => ok_nested_of T l.1 l.2.1 l.2.2 F_want_letters_many F_want_poly_in (F_nested_from l)
  have B_poly_of_nested := fun l : L3 => ok_poly_of_nested T l.1 l.2.1 l.2.2 F_want_letters_many (F_want_nested l) (F_poly_from l)
  have B_value_of_nested := fun l : L3 => ok_value_of_nested T l.1 l.2.1 l.2.2 F_want_letters_many (F_want_nested l) F_want_point_for (F_value_from l)
  have F_draw : Fd P w K mg base 1 "_law_draw" _ _ := ok_law_draw T
  have F_pick := ok_law_pick T F_draw
  have F_ratio := ok_law_ratio T F_pick F_low
  have F_point := ok_law_point T F_ratio
  have F_terms := ok_law_terms T F_draw F_ratio
  have F_sums := ok_law_sums T F_ladd
  have F_poly := ok_law_poly T F_terms F_sums
  have F_told : Fd P w K mg base 1 "_law_told" _ _ := ok_law_told T
  have F_value := ok_law_value T F_ladd F_lmul
  have F_nested : ∀ l : L3, Fd P w K mg base 4 "_law_nested" _ (SpLN K l.1) := fun l => (ok_law_nested T l.1).mono (by have := l.2.2; omega)
  have F_terms_of : ∀ l : L3, Fd P w K mg base 5 "_law_terms_of" _ (SpTO K l.1) := fun l => (ok_law_terms_of T F_low l.1 l.2.2).mono (by have := l.2.2; omega)
  have F_lis := fun l : L3 => ok_law_is_nested T l.1 l.2.2 (F_terms_of l) (F_nested l)
  have F_bent : Fd P w K mg base 7 "_law_bent" _ (SpBent K 4) := ok_law_bent T F_pick F_draw 4 (by decide)
  have F__law_pot : Fd P w K mg base 1 "_law_pot" _ _ := ok_law_pot T
  have F_right := ok_law_right T R rfl F_pick F_poly F_told F_nested (fun l => (B_nested_of l).1) (fun l => (B_nested_of l).2) F_poly_of (fun l => (B_is_nested l).1) (fun l => (B_is_nested l).2) (fun l => (B_poly_of_nested l).1) (fun l => (B_poly_of_nested l).2) F_point F_value (fun l => (B_value_of_nested l).1) (fun l => (B_value_of_nested l).2) F_value_at F_bent F_lis F_terms_of
  refine mkS F (sc_law T) (fun vs H Q E h => by obtain ⟨_, _, rfl, _⟩ := h; rfl) (fun cdv A outer s H vs Q hgd hr h => ?_)
  obtain ⟨a, ns, rfl, hs, q⟩ := h
  refine ⟨_, pss_one (ps_ret (pe_fS F_right hgd hr T.t__law_right.2 R.kp (R.bindsN (fun _ _ _ _ _ _ us hl => match us, hl with | [_], _ => rfl)) rfl (pa_cons (pe_f F__law_pot (hr.mono (by omega)) rfl (pa_cons (pv 0) (pa_cons pe_int pa_nil))) pa_nil))), ?_⟩
  exact ⟨.ref a, rfl, a, ns, rfl, hs, fun p H1 hp => ⟨p, rfl, hp, q⟩⟩
end
theorem fn_binds {K : PySem.W.Frag} {fd : FuncData} (F : FnP K "law" s_law fd) (s : Shared) (v : Value) : BindsTo s fd ⟨[v], []⟩ [("_law_script", v)] := by
  obtain ⟨oc, od, dV, kV, doc, pm, an, cdv, ct, osl, rfl, lk, hcd, hD, hK⟩ := F.ex
  rcases hD with ⟨_, rfl⟩ | ⟨e, _⟩
  · exact .of_eq rfl
  · exact absurd rfl e
end K18
open PySem PySem.W PySem.Calls PyProof.Rows
theorem PySem.Challenge.cw_truecourse_k18_whole_nested_forms_holds : PySem.Challenge.rw_truecourse_k18_whole_nested_forms.Holds := by
  w_on; o_law
  refine HandSHeadRun.head_imp (r := OpenLaw.row PySem.Challenge.rw_truecourse_k18_whole_nested_forms) (q := view (OpenLaw.row PySem.Challenge.rw_truecourse_k18_whole_nested_forms).prog [0, 78]) (H := K18.hk) (ob := K18.ob) (M := 20000) (loose := K18.names) (d := HandSHeadRun.topDef (OpenLaw.row PySem.Challenge.rw_truecourse_k18_whole_nested_forms).prog 78) (kwd := []) K18.ob_eq
    K18.run (by kernel_rfl) (by kernel_rfl) (by kernel_rfl) (by rfl) (by first | assumption | decide +kernel) (by decide +kernel) ⟨rfl, rfl, rfl, rfl, rfl, by decide +kernel⟩ ?hw ?hc
  case hw => w_witness2
  case hc =>
    refine Att.attach_call (l := PySem.Challenge.rw_truecourse_k18_whole_nested_forms) (n := 63) rfl (by kernel_rfl) fun w s₀ s₁ mg mb fa o pm cd doc a vs ns G Y ho hd hcd hmg0 hobj hints hlen hg => ?_
    obtain ⟨K, KX, c⟩ := Y
    have hmg : mg ("law" : PySem.Str) = some (.ref fa) := by
      have e : (HandSHeadRun.topDef (OpenLaw.row PySem.Challenge.rw_truecourse_k18_whole_nested_forms).prog 78).name = ("law" : PySem.Str) := by kernel_rfl
      rw [← e]
      exact hmg0
    have T : K18.Txt K mg := ⟨⟨_, KX, G.T.g, c⟩⟩
    obtain ⟨⟨fd, F⟩, hm⟩ := T.t_law
    obtain ⟨⟨fr, R⟩, _⟩ := T.t__law_right
    rw [hmg] at hm
    cases hm
    exact K18.call_law (x := "_law_script") (sp := K18.SpLaw K) (k := 11) KX G.T.g G.T.b G.T.builtins G.T.nolimit hg hobj hints (Nat.le_trans hlen (by decide)) ⟨rfl, by decide, by decide⟩ (fun base _ _ => K18.ok_law T F R) (fun s u => K18.fn_binds F s u) (fun H hS => ⟨a, ns, rfl, hS, fun _ => rfl⟩)

