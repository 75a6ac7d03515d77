import PyProof.Rows.All
import Wide.All
import OpenK.AllK
import Wide.FinOn
import KE.KStateDown
import HandS.ForMost
import HandS.IsInst
import HandS.Defaults
import HandS.Head0
import HandS.Head1
import HandS.Head2
import HandS.HeadEnd
import HandS.HeadHook1
import HandS.HeadHook2
import PySem.Challenge.RW_wittspaces_k40_whole_against_all_matrice
import HandS.Conv
import HandS.Flow
import HandS.Style
import HandS.Walk
import HandS.Zip
import HandS.TupAny
import HandS.Deep
import KE.GoesEnum
import KE.DataAny
import HandS.Strs
import HandS.Codes
/-! # WkHead -/
set_option Elab.async false
set_option linter.all false
set_option maxRecDepth 100000
set_option maxHeartbeats 0
namespace Wk
open PySem PySem.Spec PyProof.Rows L2
def top (i : Nat) : Stmt := PySem.Challenge.pw_wittspaces_k40_whole_against_all_matrice.main.body.getD i (.Pass ⟨0, 0, 0, 0⟩)
def mkD (x : Str) (i : Nat) : He.DefD := ⟨(x, none), x, x, defArgs (top i), defBody (top i), defScope (top i), [], []⟩
def mkM (c m q : Str) (i j : Nat) : He.DefD := ⟨(c, some m), m, q, defArgs (inClass (top i) j), defBody (inClass (top i) j), defScope (inClass (top i) j), [], []⟩
def fnL0 : List He.DefD := [mkD "is_row" 6, mkD "unit_row" 8, mkD "add" 9, mkD "scaled" 10, mkD "dot" 11, mkD "combine" 12, mkD "cleared" 13, mkD "reduced" 14, mkD "span" 15, mkD "pivots_of" 16, mkD "kernel" 17, mkD "transposed" 18, mkD "relations" 19, mkD "solve" 20, mkD "rest" 21, mkD "holds" 22, mkD "complement_rows" 23, mkD "moved" 25, mkD "times" 26, mkD "identity" 27, mkD "is_matrix" 28, mkD "determinant" 29, mkD "matrix_inverse" 30, mkD "is_integer" 32, mkD "check_kind" 41, mkD "taken" 42, mkD "has_form" 43, mkD "gram_of" 44, mkD "keeps" 48, mkD "is_isometry" 49]
def fnL1 : List He.DefD := [mkD "is_rows" 52, mkD "is_free" 53, mkD "is_kept" 54, mkD "check" 55, mkD "weights_in_radical" 56, mkD "extends" 57, mkD "barrier" 58, mkD "difference" 59, mkD "of_images" 60, mkD "shifted" 61, mkD "step" 62, mkD "beyond" 63, mkD "gone_on" 64, mkD "in_radical" 65, mkD "extension" 66, mkD "_law_state" 68, mkD "_law_take" 69, mkD "_law_prime" 70, mkD "_law_joined" 71, mkD "_law_field" 72, mkD "_law_negative" 73, mkD "_law_bar" 74, mkD "_law_sum" 75, mkD "_law_times" 76, mkD "_law_combined" 77, mkD "_law_unit" 78, mkD "_law_rows" 79, mkD "_law_product" 80, mkD "_law_value" 81, mkD "_law_restricted" 82]
def fnL2 : List He.DefD := [mkD "_law_fixed" 83, mkD "_law_plane" 84, mkD "_law_pieces" 85, mkD "_law_basis" 86, mkD "_law_radical" 87, mkD "_law_spanned" 88, mkD "_law_is_free" 89, mkD "_law_image" 90, mkD "_law_is_isometry" 91, mkD "_law_is_matrix" 92, mkD "_law_space" 93, mkD "_law_matrices" 94, mkD "_law_small" 95, mkD "_law_pairs" 96, mkD "_law_is_near" 97, mkD "_law_is_extension" 98, mkD "_law_bent" 99, mkD "_law_any_good" 100, mkD "law" 101, mkM "Field" "__init__" "Field.__init__" 36 0, mkM "Field" "is_number" "Field.is_number" 36 2, mkM "Field" "numbers" "Field.numbers" 36 3, mkM "Field" "joined" "Field.joined" 36 4, mkM "Field" "add" "Field.add" 36 5, mkM "Field" "negative" "Field.negative" 36 6, mkM "Field" "multiply" "Field.multiply" 36 8, mkM "Field" "power" "Field.power" 36 9, mkM "Field" "inverse" "Field.inverse" 36 10, mkM "Field" "mirrored" "Field.mirrored" 36 11, mkM "Field" "squares" "Field.squares" 36 15]
def fnL3 : List He.DefD := [mkM "Field" "root" "Field.root" 36 17, mkM "Space" "__init__" "Space.__init__" 45 0, mkM "Space" "is_row" "Space.is_row" 45 3, mkM "Space" "unit" "Space.unit" 45 5, mkM "Space" "facing" "Space.facing" 45 8, mkM "Space" "product" "Space.product" 45 9, mkM "Space" "value" "Space.value" 45 10, mkM "Space" "radical" "Space.radical" 45 11, mkM "Space" "singular_radical" "Space.singular_radical" 45 12, mkM "Space" "perp" "Space.perp" 45 13, mkM "Isometry" "__init__" "Isometry.__init__" 50 0]
def fnL : List He.DefD := fnL0 ++ fnL1 ++ fnL2 ++ fnL3
def faL0 : List He.Fa := [.glo "Fault", .glo "Malformed", .glo "Refused", .glo "is_row", .glo "is_row_linear", .glo "unit_row", .glo "add", .glo "scaled", .glo "dot", .glo "combine", .glo "cleared", .glo "reduced", .glo "span", .glo "pivots_of", .glo "kernel", .glo "transposed", .glo "relations", .glo "solve", .glo "rest", .glo "holds", .glo "complement_rows", .glo "moved", .glo "times", .glo "identity", .glo "is_matrix", .glo "determinant", .glo "matrix_inverse", .glo "is_integer", .glo "Field", .glo "check_kind"]
def faL1 : List He.Fa := [.glo "taken", .glo "has_form", .glo "gram_of", .glo "Space", .glo "keeps", .glo "is_isometry", .glo "Isometry", .glo "is_rows", .glo "is_free", .glo "is_kept", .glo "check", .glo "weights_in_radical", .glo "extends", .glo "barrier", .glo "difference", .glo "of_images", .glo "shifted", .glo "step", .glo "beyond", .glo "gone_on", .glo "in_radical", .glo "extension", .glo "_law_state", .glo "_law_take", .glo "_law_prime", .glo "_law_joined", .glo "_law_field", .glo "_law_negative", .glo "_law_bar", .glo "_law_sum"]
def faL2 : List He.Fa := [.glo "_law_times", .glo "_law_combined", .glo "_law_unit", .glo "_law_rows", .glo "_law_product", .glo "_law_value", .glo "_law_restricted", .glo "_law_fixed", .glo "_law_plane", .glo "_law_pieces", .glo "_law_basis", .glo "_law_radical", .glo "_law_spanned", .glo "_law_is_free", .glo "_law_image", .glo "_law_is_isometry", .glo "_law_is_matrix", .glo "_law_space", .glo "_law_matrices", .glo "_law_small", .glo "_law_pairs", .glo "_law_is_near", .glo "_law_is_extension", .glo "_law_bent", .glo "_law_any_good", .glo "law", .free "len", .free "tuple", .free "list", .free "range"]
def faL3 : List He.Fa := [.free "zip", .free "enumerate", .free "isinstance", .free "int", .free "bool", .free "str", .free "any", .free "all", .free "abs", .cls "Field", .mkr "Field", .noat "Field" "q", .noat "Field" "p", .meth "Field" "is_number", .meth "Field" "numbers", .meth "Field" "joined", .meth "Field" "add", .meth "Field" "negative", .meth "Field" "multiply", .meth "Field" "power", .meth "Field" "inverse", .meth "Field" "mirrored", .meth "Field" "squares", .meth "Field" "root", .cls "Space", .mkr "Space", .noat "Space" "kind", .noat "Space" "q", .noat "Space" "n", .noat "Space" "matrix"]
def faL4 : List He.Fa := [.noat "Space" "field", .noat "Space" "_gram", .meth "Space" "is_row", .meth "Space" "unit", .meth "Space" "facing", .meth "Space" "product", .meth "Space" "value", .meth "Space" "radical", .meth "Space" "singular_radical", .meth "Space" "perp", .cls "Isometry", .mkr "Isometry", .noat "Isometry" "space", .noat "Isometry" "matrix", .int "MOST_space" 6, .glo "SIZES_field", .glo "CHARACTERISTICS", .glo "SIZES_space", .glo "KINDS"]
def faL : List He.Fa := faL0 ++ faL1 ++ faL2 ++ faL3 ++ faL4
def loose0 : List PySem.Str := ["_wall", "Fault", "Malformed", "Refused", "is_row", "is_row_linear", "unit_row", "add", "scaled", "dot", "combine", "cleared", "reduced", "span", "pivots_of", "kernel", "transposed", "relations", "solve", "rest", "holds", "complement_rows", "all_rows", "moved", "times", "identity", "is_matrix", "determinant", "matrix_inverse", "is_integer"]
def loose1 : List PySem.Str := ["SIZES_field", "CHARACTERISTICS", "Field", "KINDS", "SIZES_space", "MOST_space", "check_kind", "taken", "has_form", "gram_of", "Space", "MOST_isometry", "keeps", "is_isometry", "Isometry", "is_rows", "is_free", "is_kept", "check", "weights_in_radical", "extends", "barrier", "difference", "of_images", "shifted", "step", "beyond", "gone_on", "in_radical", "extension"]
def loose2 : List PySem.Str := ["_law_state", "_law_take", "_law_prime", "_law_joined", "_law_field", "_law_negative", "_law_bar", "_law_sum", "_law_times", "_law_combined", "_law_unit", "_law_rows", "_law_product", "_law_value", "_law_restricted", "_law_fixed", "_law_plane", "_law_pieces", "_law_basis", "_law_radical", "_law_spanned", "_law_is_free", "_law_image", "_law_is_isometry", "_law_is_matrix", "_law_space", "_law_matrices", "_law_small", "_law_pairs", "_law_is_near"]
def loose3 : List PySem.Str := ["_law_is_extension", "_law_bent", "_law_any_good"]
def loose : List PySem.Str := loose0 ++ loose1 ++ loose2 ++ loose3
/-- what else is looked at: the tables of the top, isinstance of the own class Space -/
def isiB (K : PySem.W.Frag) (C : Addr) : Bool :=
  He.eqO (PySem.W.findIn K (.ref C) "__class__") (some (some (.builtin "object.__class__"))) &&
  (He.eqO (PySem.W.specialIn K (.builtin "object.__class__") "__get__") (some (some (.builtin "getset_descriptor.__get__"))) &&
  (decide (PySem.W.takesIn K (.builtin "object.__class__") = some true) &&
  (decide (PySem.W.mroIn K C (.type "object") = some true) && decide (PySem.W.kitOne K (.ref C) (.ref C) = some true))))
def nodB (K : PySem.W.Frag) (x : PySem.Str) : Bool := match K.lookup (He.ga K x) with
  | some ⟨.type c, none, _, _⟩ => decide (c = "tuple")
  | _ => false
def exB (K : PySem.W.Frag) : Bool :=
  He.tupB K "SIZES_field" [.int 2, .int 3, .int 4, .int 5, .int 7, .int 9] &&
  (He.tupB K "CHARACTERISTICS" [.int 2, .int 3, .int 2, .int 5, .int 7, .int 3] &&
  (He.tupB K "SIZES_space" [.int 2, .int 3, .int 4, .int 5, .int 7, .int 9] &&
  (He.tupB K "KINDS" [.str "alternating", .str "quadratic", .str "hermitian"] &&
  (isiB K (He.ga K "Space") && (decide (He.ga K "is_row_linear" = He.ga K "is_row") && nodB K "SIZES_field")))))
/-! ### what is looked at, forced once -/
section
variable {b : Type}
open HandSHeadRun
def fcNs : List Nat → (List Nat → b) → b
  | [], k => k []
  | n :: r, k => frNat n fun n => fcNs r fun r => k (n :: r)
theorem fcNs_eq : ∀ (l : List Nat) (k : List Nat → b), fcNs l k = k l
  | [], _ => rfl
  | n :: r, k => by
    show frNat n (fun n => fcNs r fun r => k (n :: r)) = k (n :: r)
    rw [frNat_eq, fcNs_eq r]
def fcV (v : Value) (k : Value → b) : b := match v with
  | .ref a => frNat a fun a => k (.ref a)
  | .str ⟨⟨l⟩⟩ t => fcNs l fun l => k (.str ⟨⟨l⟩⟩ t)
  | v => k v
theorem fcV_eq (v : Value) (k : Value → b) : fcV v k = k v := by
  cases v with
  | ref a => exact frNat_eq a (fun a => k (.ref a))
  | str x t =>
    obtain ⟨⟨l⟩⟩ := x
    exact fcNs_eq l (fun l => k (.str ⟨⟨l⟩⟩ t))
  | _ => rfl
def fcVs : List Value → (List Value → b) → b
  | [], k => k []
  | v :: r, k => fcV v fun v => fcVs r fun r => k (v :: r)
theorem fcVs_eq : ∀ (l : List Value) (k : List Value → b), fcVs l k = k l
  | [], _ => rfl
  | v :: r, k => by
    show fcV v (fun v => fcVs r fun r => k (v :: r)) = k (v :: r)
    rw [fcV_eq, fcVs_eq r]
def fcE : List DictEntry → (List DictEntry → b) → b
  | [], k => k []
  | ⟨h, x, v⟩ :: r, k => fcV x fun x => fcV v fun v => fcE r fun r => k (⟨h, x, v⟩ :: r)
theorem fcE_eq : ∀ (l : List DictEntry) (k : List DictEntry → b), fcE l k = k l
  | [], _ => rfl
  | ⟨h, x, v⟩ :: r, k => by
    show fcV x (fun x => fcV v fun v => fcE r fun r => k (⟨h, x, v⟩ :: r)) = k (⟨h, x, v⟩ :: r)
    rw [fcV_eq, fcV_eq, fcE_eq r]
def fcO (o : Obj) (k : Obj → b) : b := match o with
  | ⟨c, d, .dict ⟨es⟩ n, sl⟩ => fcV c fun c => fcE es fun es => k ⟨c, d, .dict ⟨es⟩ n, sl⟩
  | ⟨c, d, .seq ⟨es⟩ n, sl⟩ => fcV c fun c => fcVs es fun es => k ⟨c, d, .seq ⟨es⟩ n, sl⟩
  | ⟨c, d, .fields ⟨es⟩, sl⟩ => fcV c fun c => fcVs es fun es => k ⟨c, d, .fields ⟨es⟩, sl⟩
  | ⟨c, d, .func ⟨f1, f2, f3, f4, f5, f6, f7, f8, f9, f10, f11, f12, f13, f14, f15⟩, sl⟩ => fcV c fun c => fcV f8 fun f8 => fcV f13 fun f13 => k ⟨c, d, .func ⟨f1, f2, f3, f4, f5, f6, f7, f8, f9, f10, f11, f12, f13, f14, f15⟩, sl⟩
  | ⟨c, d, .cls ⟨c1, c2, c3, c4, c5, c6, c7, c8, c9, c10, c11⟩, sl⟩ => fcV c fun c => fcVs c3 fun c3 => frNat c4 fun c4 => k ⟨c, d, .cls ⟨c1, c2, c3, c4, c5, c6, c7, c8, c9, c10, c11⟩, sl⟩
  | o => k o
theorem fcO_eq (o : Obj) (k : Obj → b) : fcO o k = k o := by
  obtain ⟨c, d, dt, sl⟩ := o
  cases dt with
  | dict es n =>
    obtain ⟨es⟩ := es
    show fcV c (fun c => fcE es fun es => k ⟨c, d, .dict ⟨es⟩ n, sl⟩) = _
    rw [fcV_eq, fcE_eq]
  | seq es n =>
    obtain ⟨es⟩ := es
    show fcV c (fun c => fcVs es fun es => k ⟨c, d, .seq ⟨es⟩ n, sl⟩) = _
    rw [fcV_eq, fcVs_eq]
  | fields es =>
    obtain ⟨es⟩ := es
    show fcV c (fun c => fcVs es fun es => k ⟨c, d, .fields ⟨es⟩, sl⟩) = _
    rw [fcV_eq, fcVs_eq]
  | func f =>
    obtain ⟨f1, f2, f3, f4, f5, f6, f7, f8, f9, f10, f11, f12, f13, f14, f15⟩ := f
    show fcV c (fun c => fcV f8 fun f8 => fcV f13 fun f13 => k ⟨c, d, .func ⟨f1, f2, f3, f4, f5, f6, f7, f8, f9, f10, f11, f12, f13, f14, f15⟩, sl⟩) = _
    rw [fcV_eq, fcV_eq, fcV_eq]
  | cls f =>
    obtain ⟨c1, c2, c3, c4, c5, c6, c7, c8, c9, c10, c11⟩ := f
    show fcV c (fun c => fcVs c3 fun c3 => frNat c4 fun c4 => k ⟨c, d, .cls ⟨c1, c2, c3, c4, c5, c6, c7, c8, c9, c10, c11⟩, sl⟩) = _
    rw [fcV_eq, fcVs_eq, frNat_eq]
  | _ => rfl
def fcK : List (Addr × Obj) → (List (Addr × Obj) → b) → b
  | [], k => k []
  | (a, o) :: r, k => frNat a fun a => fcO o fun o => fcK r fun r => k ((a, o) :: r)
theorem fcK_eq : ∀ (l : List (Addr × Obj)) (k : List (Addr × Obj) → b), fcK l k = k l
  | [], _ => rfl
  | (a, o) :: r, k => by
    show frNat a (fun a => fcO o fun o => fcK r fun r => k ((a, o) :: r)) = k ((a, o) :: r)
    rw [frNat_eq, fcO_eq, fcK_eq r]
end
/-- the next layer of addresses -/
def nxt (g : Addr → Option Obj) (as : List Addr) : List Addr := as.flatMap fun a => match g a with
  | some o => He.refsD o
  | none => []
def layers (g : Addr → Option Obj) : Nat → List Addr → List Addr
  | 0, as => as
  | n + 1, as => fcNs as fun as => as ++ layers g n (fcNs (nxt g as) fun z => z)
def asW (g : Addr → Option Obj) (n : Nat) : List Addr := layers g n [mainGlobals]
abbrev AlW : Type := He.AlD × Bool
def obsK (K : PySem.W.Frag) : AlW := (He.obsD faL fnL K, exB K)
def obsW (n : Nat) (g : Addr → Option Obj) : AlW := fcK (He.frG g (asW g n)) obsK
def valW : AlW := (He.valD fnL, true)
/-- what the end leans on -/
structure Says (K : PySem.W.Frag) : Prop where
  d : He.SaysD faL fnL K
  ex : exB K = true
def hk (n : Nat) : PySem.W.Hook where
  α := AlW
  obs := fun s => obsW n s.heap.get?
  val := fun _ => valW
  says := fun _ h => ∃ K : PySem.W.Frag, K.In h ∧ Says K
  of := fun _ s e => by
    have e2 : obsK (He.frG s.heap.get? (asW s.heap.get? n)) = valW := (fcK_eq _ _).symm.trans e
    exact ⟨_, He.frG_in, congrArg (fun z : AlW => z.1) e2, congrArg (fun z : AlW => z.2) e2⟩
  keeps := fun _ _ _ ⟨K, hK, c⟩ k => ⟨K, PySem.W.Frag.In.keeps hK k, c⟩
theorem obsW_eq {n : Nat} {g : Addr → Option Obj} {s : Shared} (h : ∀ a, g a = s.heap.get? a) : obsW n g = (hk n).obs s := by
  have e : g = s.heap.get? := funext h
  rw [e] <;> rfl
end Wk
/-! # WkHeadRun -/
set_option Elab.async false
set_option linter.all false
set_option maxRecDepth 100000
set_option maxHeartbeats 0
namespace Wk
open PySem PySem.Spec PyProof.Rows L2
abbrev R : PySem.W.OpenRow := PySem.W.OpenLaw.row PySem.Challenge.rw_wittspaces_k40_whole_against_all_matrice
def ob (s : PySem.W.SharedT) : AlW := obsW 4 (HandSHeadRun.getT s)
theorem ob_eq (s : PySem.W.SharedT) : ob s = (hk 4).obs s.abs := obsW_eq (HandSHeadRun.getT_eq s)
theorem run (w : World) : HandSHeadRun.RunEq R (PySem.W.view R.prog [101]) (hk 4) ob 6000 loose w := by
  intro os
  kernel_rfl
end Wk
/-! # WkFd -/
set_option Elab.async false
set_option linter.all false
set_option maxRecDepth 100000
set_option maxHeartbeats 4000000
/-! The six fields as the program counts in them; rows. -/
namespace Wk
def chr (q : Nat) : Nat := if q = 4 then 2 else if q = 9 then 3 else q
structure Fd where
  q : Nat
  ok : q = 2 ∨ q = 3 ∨ q = 4 ∨ q = 5 ∨ q = 7 ∨ q = 9
def Fd.p (F : Fd) : Nat := chr F.q
theorem Fd.pos (F : Fd) : 0 < F.q := by rcases F.ok with h | h | h | h | h | h <;> omega
theorem Fd.two (F : Fd) : 2 ≤ F.q := by rcases F.ok with h | h | h | h | h | h <;> omega
theorem Fd.le (F : Fd) : F.q ≤ 9 := by rcases F.ok with h | h | h | h | h | h <;> omega
theorem Fd.p_pos (F : Fd) : 2 ≤ F.p := by unfold Fd.p chr; rcases F.ok with h | h | h | h | h | h <;> rw [h] <;> decide
theorem Fd.p_le (F : Fd) : F.p ≤ 7 := by unfold Fd.p chr; rcases F.ok with h | h | h | h | h | h <;> rw [h] <;> decide
def El (F : Fd) : Type := Fin F.q
instance (F : Fd) : DecidableEq (El F) := inferInstanceAs (DecidableEq (Fin F.q))
def El.v {F : Fd} (a : El F) : Nat := (show Fin F.q from a).val
theorem El.lt {F : Fd} (a : El F) : a.v < F.q := (show Fin F.q from a).isLt
theorem El.ext {F : Fd} {a b : El F} (h : a.v = b.v) : a = b := Fin.ext h
def El.mk {F : Fd} (k : Nat) (h : k < F.q) : El F := ⟨k, h⟩
theorem El.mk_v {F : Fd} {k : Nat} (h : k < F.q) : (El.mk k h : El F).v = k := rfl
/-- the program's joined -/
def fj (q : Nat) (low high : Int) : Int := if q = chr q then low % chr q else low % chr q + chr q * (high % chr q)
theorem fj_rg (F : Fd) (low high : Int) : 0 ≤ fj F.q low high ∧ fj F.q low high < F.q := by
  unfold fj chr
  rcases F.ok with h | h | h | h | h | h <;> rw [h] <;> simp <;> omega
def joinE (F : Fd) (low high : Int) : El F := El.mk (fj F.q low high).toNat (by have := fj_rg F low high; omega)
theorem joinE_v (F : Fd) (low high : Int) : ((joinE F low high).v : Int) = fj F.q low high := by
  have := fj_rg F low high
  show (((fj F.q low high).toNat : Nat) : Int) = _
  omega
def fmul (q : Nat) (a b : Int) : Int :=
  if q = chr q then a * b % chr q else
  if chr q = 2 then fj q ((a % chr q) * (b % chr q) + (a / chr q) * (b / chr q)) ((a % chr q) * (b / chr q) + (a / chr q) * (b % chr q) + (a / chr q) * (b / chr q))
  else fj q ((a % chr q) * (b % chr q) - (a / chr q) * (b / chr q)) ((a % chr q) * (b / chr q) + (a / chr q) * (b % chr q))
theorem fmul_rg (F : Fd) (a b : Int) : 0 ≤ fmul F.q a b ∧ fmul F.q a b < F.q := by
  unfold fmul
  split
  · rename_i h
    have h2 := F.p_pos
    have e : F.p = chr F.q := rfl
    rw [e, ← h] at h2
    rw [← h]
    exact ⟨Int.emod_nonneg _ (by omega), Int.emod_lt_of_pos _ (by omega)⟩
  · split
    · exact fj_rg F _ _
    · exact fj_rg F _ _
def eadd {F : Fd} (a b : El F) : El F := joinE F ((a.v : Int) % F.p + (b.v : Int) % F.p) ((a.v : Int) / F.p + (b.v : Int) / F.p)
def eneg {F : Fd} (a : El F) : El F := joinE F (-((a.v : Int) % F.p)) (-((a.v : Int) / F.p))
def emul {F : Fd} (a b : El F) : El F := El.mk (fmul F.q a.v b.v).toNat (by have := fmul_rg F a.v b.v; omega)
theorem emul_v {F : Fd} (a b : El F) : ((emul a b).v : Int) = fmul F.q a.v b.v := by
  have := fmul_rg F a.v b.v
  show (((fmul F.q a.v b.v).toNat : Nat) : Int) = _
  omega
def enat {F : Fd} : Nat → El F
  | 0 => El.mk 0 F.pos
  | n + 1 => eadd (enat n) (El.mk 1 F.two)
def epow {F : Fd} (a : El F) : Nat → El F
  | 0 => El.mk 1 F.two
  | n + 1 => emul (epow a n) a
def einv {F : Fd} (a : El F) : El F := if a.v = 0 then a else epow a (F.q - 2)
instance (F : Fd) : Add (El F) := ⟨eadd⟩
instance (F : Fd) : Mul (El F) := ⟨emul⟩
instance (F : Fd) : Neg (El F) := ⟨eneg⟩
instance (F : Fd) : Sub (El F) := ⟨fun a b => eadd a (eneg b)⟩
instance (F : Fd) : Inv (El F) := ⟨einv⟩
instance (F : Fd) : Div (El F) := ⟨fun a b => emul a (einv b)⟩
instance elOfNat (F : Fd) (n : Nat) : OfNat (El F) n := ⟨match n with | 0 => El.mk 0 F.pos | 1 => El.mk 1 F.two | n + 2 => enat (n + 2)⟩
section laws
/-- for all elements: counted -/
def allE (F : Fd) (f : El F → Bool) : Bool := (List.finRange F.q).all fun i => f i
theorem allE_spec {F : Fd} {f : El F → Bool} (h : allE F f = true) (a : El F) : f a = true := List.all_eq_true.mp h a (List.mem_finRange _)
def lawsB (F : Fd) : Bool := allE F fun a => decide (a + 0 = a) && decide (-a + a = 0) && decide (a * 1 = a) && decide (a = 0 ∨ a * a⁻¹ = 1) &&
  allE F fun b => decide (a + b = b + a) && decide (a * b = b * a) && allE F fun c => decide (a + b + c = a + (b + c)) && decide (a * b * c = a * (b * c)) && decide (a * (b + c) = a * b + a * c)
theorem laws (F : Fd) : lawsB F = true := by
  obtain ⟨q, ok⟩ := F
  rcases ok with rfl | rfl | rfl | rfl | rfl | rfl
  · decide +kernel
  · decide +kernel
  · decide +kernel
  · decide +kernel
  · decide +kernel
  · decide +kernel
variable {F : Fd}
theorem law1 (a : El F) : a + 0 = a ∧ -a + a = 0 ∧ a * 1 = a ∧ (a = 0 ∨ a * a⁻¹ = 1) := by
  have h := allE_spec (laws F) a
  simp only [Bool.and_eq_true, decide_eq_true_eq] at h
  exact ⟨h.1.1.1.1, h.1.1.1.2, h.1.1.2, h.1.2⟩
theorem law2 (a b : El F) : a + b = b + a ∧ a * b = b * a := by
  have h := allE_spec (laws F) a
  simp only [Bool.and_eq_true, decide_eq_true_eq] at h
  have h2 := allE_spec h.2 b
  simp only [Bool.and_eq_true, decide_eq_true_eq] at h2
  exact h2.1
theorem law3 (a b c : El F) : a + b + c = a + (b + c) ∧ a * b * c = a * (b * c) ∧ a * (b + c) = a * b + a * c := by
  have h := allE_spec (laws F) a
  simp only [Bool.and_eq_true, decide_eq_true_eq] at h
  have h2 := allE_spec h.2 b
  simp only [Bool.and_eq_true, decide_eq_true_eq] at h2
  have h3 := allE_spec h2.2 c
  simp only [Bool.and_eq_true, decide_eq_true_eq] at h3
  exact ⟨h3.1.1, h3.1.2, h3.2⟩
theorem e_mul_zero (a : El F) : a * 0 = 0 := by
  have h := (law3 a 0 0).2.2
  rw [(law1 (0 : El F)).1] at h
  have h2 := congrArg (fun x => -(a * 0) + x) h
  rw [← (law3 _ _ _).1, (law1 (a * 0)).2.1, (law2 0 _).1, (law1 _).1] at h2
  exact h2.symm
end laws
instance (F : Fd) : NatCast (El F) := ⟨fun n => OfNat.ofNat n⟩
theorem ofNat_succE (F : Fd) (a : Nat) : (OfNat.ofNat (a + 1) : El F) = OfNat.ofNat a + 1 := by
  match a with
  | 0 => exact (((law2 (0 : El F) 1).1).trans (law1 _).1).symm
  | 1 =>
    show eadd (eadd (El.mk 0 F.pos) (El.mk 1 F.two)) (El.mk 1 F.two) = eadd (El.mk 1 F.two) (El.mk 1 F.two)
    exact congrArg (fun x => eadd x (El.mk 1 F.two)) (((law2 (0 : El F) 1).1).trans (law1 _).1)
  | a + 2 => rfl
instance (F : Fd) : Lean.Grind.Semiring (El F) where
  natCast := inferInstance
  nsmul := ⟨fun n a => (OfNat.ofNat n : El F) * a⟩
  npow := ⟨fun a n => epow a n⟩
  add_zero a := (law1 a).1
  add_comm a b := (law2 a b).1
  add_assoc a b c := (law3 a b c).1
  mul_assoc a b c := (law3 a b c).2.1
  mul_one a := (law1 a).2.2.1
  one_mul a := ((law2 1 a).2).trans (law1 a).2.2.1
  left_distrib a b c := (law3 a b c).2.2
  right_distrib a b c := by rw [(law2 _ c).2, (law3 _ _ _).2.2, (law2 c a).2, (law2 c b).2]
  zero_mul a := ((law2 0 a).2).trans (e_mul_zero a)
  mul_zero a := e_mul_zero a
  pow_zero a := rfl
  pow_succ a n := rfl
  ofNat_succ := ofNat_succE F
  ofNat_eq_natCast n := rfl
  nsmul_eq_natCast_mul n a := rfl
instance (F : Fd) : IntCast (El F) := ⟨fun z => match z with | .ofNat n => OfNat.ofNat n | .negSucc n => -(OfNat.ofNat (n + 1))⟩
theorem e_neg_neg {F : Fd} (a : El F) : - -a = a := by
  have h1 := (law1 a).2.1
  have h2 := (law1 (-a)).2.1
  have h3 := congrArg (fun x => x + a) h2
  rw [(law3 _ _ _).1, h1, (law1 _).1, (law2 0 a).1, (law1 _).1] at h3
  exact h3
theorem e_neg_zero {F : Fd} : -(0 : El F) = 0 := by
  have h := (law1 (0 : El F)).2.1
  rw [(law1 _).1] at h
  exact h
theorem e_neg_mul {F : Fd} (a b : El F) : -a * b = -(a * b) := by
  have h1 : (-a + a) * b = 0 := by rw [(law1 a).2.1, (law2 0 b).2, e_mul_zero]
  rw [(law2 _ b).2, (law3 _ _ _).2.2, (law2 b (-a)).2, (law2 b a).2] at h1
  have h2 := congrArg (fun x => x + -(a * b)) h1
  rw [(law3 _ _ _).1, (law2 (a * b) _).1, (law1 (a * b)).2.1, (law1 _).1, (law2 0 _).1, (law1 _).1] at h2
  exact h2
instance (F : Fd) : Lean.Grind.CommRing (El F) where
  intCast := inferInstance
  zsmul := ⟨fun n a => (n : El F) * a⟩
  neg_add_cancel a := (law1 a).2.1
  sub_eq_add_neg a b := rfl
  neg_zsmul i a := by
    show ((-i : Int) : El F) * a = -((i : El F) * a)
    rw [← e_neg_mul]
    congr 1
    match i with
    | .ofNat 0 => exact e_neg_zero.symm
    | .ofNat (n + 1) => rfl
    | .negSucc n => exact (e_neg_neg _).symm
  zsmul_natCast_eq_nsmul n a := rfl
  intCast_ofNat n := rfl
  intCast_neg i := by
    match i with
    | .ofNat 0 => exact e_neg_zero.symm
    | .ofNat (n + 1) => rfl
    | .negSucc n => exact (e_neg_neg _).symm
  mul_comm a b := (law2 a b).2
def ezpow {F : Fd} (a : El F) : Int → El F
  | .ofNat n => epow a n
  | .negSucc n => einv (epow a (n + 1))
theorem e_zno {F : Fd} : (0 : El F) ≠ 1 := fun h => by
  have := congrArg El.v h
  cases this
theorem e_inv_zero {F : Fd} : (0 : El F)⁻¹ = 0 := rfl
theorem e_inv_inv {F : Fd} (a : El F) : a⁻¹⁻¹ = a := by
  rcases (law1 a).2.2.2 with h | h
  · rw [h]; rfl
  · have ha : a⁻¹ ≠ 0 := fun z => by rw [z, e_mul_zero] at h; exact e_zno h
    have h2 := ((law1 (a⁻¹)).2.2.2).resolve_left ha
    have h3 : a * (a⁻¹ * a⁻¹⁻¹) = a⁻¹⁻¹ := by rw [← (law3 _ _ _).2.1, h, (law2 1 _).2, (law1 _).2.2.1]
    rw [h2, (law1 _).2.2.1] at h3
    exact h3.symm
instance (F : Fd) : Lean.Grind.Field (El F) where
  zpow := ⟨fun a n => ezpow a n⟩
  div_eq_mul_inv a b := rfl
  zero_ne_one := e_zno
  inv_zero := e_inv_zero
  mul_inv_cancel {a} h := ((law1 a).2.2.2).resolve_left h
  zpow_zero a := rfl
  zpow_succ a n := rfl
  zpow_neg a n := by
    match n with
    | .ofNat 0 =>
      show (1 : El F) = (1 : El F)⁻¹
      rcases (law1 (1 : El F)).2.2.2 with h | h
      · exact absurd h.symm e_zno
      · rw [(law2 1 _).2, (law1 _).2.2.1] at h; exact h.symm
    | .ofNat (n + 1) => rfl
    | .negSucc n => exact (e_inv_inv _).symm
def els (F : Fd) : List (El F) := List.finRange F.q
theorem els_len (F : Fd) : (els F).length = F.q := List.length_finRange
theorem els_at (F : Fd) (k : Nat) (h : k < F.q) : (els F)[k]? = some (El.mk k h) := by
  rw [List.getElem?_eq_getElem (by rw [els_len]; exact h)]
  exact congrArg some (List.getElem_finRange (i := k) (by rw [List.length_finRange]; exact h))
theorem els_mem {F : Fd} (a : El F) : a ∈ els F := List.mem_finRange _
example (F : Fd) (a b c : El F) (h : a * b + c ≠ 0) : (a*b + c)⁻¹ * (c + b * a) = 1 := by grind
end Wk
/-! # WkMi -/
set_option Elab.async false
set_option linter.all false
set_option maxRecDepth 100000
set_option maxHeartbeats 4000000
/-! What the program's defs compute, in plain Lean. -/
namespace Wk
abbrev Row (F : Fd) (n : Nat) := Fin n → El F
section
variable {F : Fd} {n k : Nat}
instance rowDec : DecidableEq (Fin n → El F) := fun v w => decidable_of_iff (∀ i, v i = w i) ⟨funext, fun h i => by rw [h]⟩
def rzero : Row F n := fun _ => 0
def runit (i : Fin n) : Row F n := fun k => if k = i then 1 else 0
def radd (v w : Row F n) : Row F n := fun i => v i + w i
def rscl (v : Row F n) (c : El F) : Row F n := fun i => v i * c
def dot (v w : Row F n) : El F := (List.finRange n).foldl (fun s i => s + v i * w i) 0
def comb (l : List (Row F n)) (c : List (El F)) : Row F n := (l.zip c).foldl (fun s p => radd s (rscl p.1 p.2)) rzero
def cleared (row lead : Row F n) (a : Fin n) : Row F n := radd row (rscl lead (-(row a)))
structure RS (F : Fd) (n : Nat) where
  left : List (Row F n)
  table : List (Row F n)
  piv : List (Fin n)
def redStep (s : RS F n) (a : Fin n) : RS F n := match s.left.filter (fun r => !decide (r a = 0)) with
  | [] => s
  | h :: _ => ⟨s.left.map fun r => cleared r (rscl h (h a)⁻¹) a, (s.table.map fun r => cleared r (rscl h (h a)⁻¹) a) ++ [rscl h (h a)⁻¹], s.piv ++ [a]⟩
def red (l : List (Row F n)) : RS F n := (List.finRange n).foldl redStep ⟨l, [], []⟩
def span (l : List (Row F n)) : List (Row F n) := (red l).table
def rset (v : Row F n) (a : Fin n) (x : El F) : Row F n := fun k => if k = a then x else v k
def kerRow (s : RS F n) (free : Fin n) : Row F n := (s.table.zip s.piv).foldl (fun row p => rset row p.2 (-(p.1 free))) (runit free)
def kernel (l : List (Row F n)) : List (Row F n) := span (((List.finRange n).filter fun a => !decide (a ∈ (red l).piv)).map fun a => kerRow (red l) a)
def transp (l : List (Row F n)) (k : Nat) (h : l.length = k) : List (Row F k) := (List.finRange n).map fun j => fun i => (l[i.val]'(by omega)) j
def relations (l : List (Row F n)) (k : Nat) (h : l.length = k) : List (Row F k) := kernel (transp l k h)
def rsnoc (v : Row F n) (x : El F) : Row F (n + 1) := fun i => if h : i.val < n then v ⟨i.val, h⟩ else x
def solve (rows : List (Row F n)) (right : List (El F)) : Option (Row F n) :=
  let s := red ((rows.zip right).map fun p => rsnoc p.1 p.2)
  if Fin.last n ∈ s.piv then none else some ((s.table.zip s.piv).foldl (fun row p => if h : p.2.val < n then rset row ⟨p.2.val, h⟩ (p.1 (Fin.last n)) else row) rzero)
def lead1 (r : Row F n) : Option (Fin n) := (List.finRange n).find? fun i => decide (r i = 1)
def pivs (sp : List (Row F n)) : List (Fin n) := sp.filterMap lead1
/-- every row holds a 1 -/
def Led (sp : List (Row F n)) : Prop := ∀ r ∈ sp, ∃ i, r i = 1
def rest (sp : List (Row F n)) (v : Row F n) : Row F n := (sp.zip (pivs sp)).foldl (fun v p => cleared v p.1 p.2) v
def holds (sp : List (Row F n)) (v : Row F n) : Bool := (List.finRange n).all fun i => decide (rest sp v i = 0)
def complRows (sp : List (Row F n)) : List (Row F n) := ((List.finRange n).filter fun a => !decide (a ∈ pivs sp)).map runit
def moved (v : Row F k) (rows : List (Row F n)) : Row F n := comb rows (List.ofFn v)
def times (one : List (Row F k)) (two : List (Row F n)) : List (Row F n) := one.map fun r => moved r two
def ident (F : Fd) (n : Nat) : List (Row F n) := (List.finRange n).map runit
structure DS (F : Fd) (n : Nat) where
  left : List (Row F n)
  found : El F
def detP (l : List (Row F n)) (a : Fin n) (k : Nat) : Bool := match l[k]? with | some r => !decide (r a = 0) | none => false
def detStep (s : DS F n) (a : Fin n) : Option (DS F n) := match (List.range s.left.length).find? (detP s.left a) with
  | none => none
  | some k => match s.left[k]? with
    | none => none
    | some h => some ⟨(s.left.eraseIdx k).map fun r => cleared r (rscl h (h a)⁻¹) a, (if k % 2 = 1 then -s.found else s.found) * h a⟩
def detGo : List (Fin n) → DS F n → El F
  | [], s => s.found
  | a :: r, s => match detStep s a with | none => 0 | some s' => detGo r s'
def det (m : List (Row F n)) : El F := detGo (List.finRange n) ⟨m, 1⟩
def rapp (v w : Row F n) : Row F (2 * n) := fun k => if h : k.val < n then v ⟨k.val, h⟩ else w ⟨k.val - n, by omega⟩
def wide (m : List (Row F n)) (h : m.length = n) : List (Row F (2 * n)) := (List.finRange n).map fun i => rapp (m[i.val]'(by omega)) (runit i)
def rback (v : Row F (2 * n)) : Row F n := fun k => v ⟨n + k.val, by omega⟩
/-- none: it raises -/
def minv (m : List (Row F n)) : Option (List (Row F n)) :=
  if h : m.length = n then
    if (red (wide m h)).piv = (List.finRange n).map (fun i => (⟨i.val, by omega⟩ : Fin (2 * n))) then some ((red (wide m h)).table.map rback) else none
  else none
def ebar (a : El F) : El F := if F.q = F.p then a else a ^ F.p
end
inductive Kd where
  | alt | quad | herm
  deriving DecidableEq
structure Spc where
  F : Fd
  n : Nat
  kind : Kd
  mat : Fin n → Row F n
section
variable (S : Spc)
abbrev Spc.R : Type := Row S.F S.n
def Spc.gram (i : Fin S.n) : S.R := fun j => if S.kind = .quad then S.mat i j + S.mat j i else S.mat i j
def Spc.facing (y : S.R) : S.R := fun i => dot (S.gram i) (fun k => if S.kind = .herm then ebar (y k) else y k)
def Spc.prod (x y : S.R) : El S.F := dot x (S.facing y)
def Spc.value (x : S.R) : El S.F := match S.kind with
  | .alt => 0
  | .herm => S.prod x x
  | .quad => (List.finRange S.n).foldl (fun t i => t + x i * dot (S.mat i) x) 0
def Spc.radical : List S.R := kernel (transp ((List.finRange S.n).map S.gram) S.n (by simp))
def rootE {F : Fd} (a : El F) : El F := ((els F).find? fun b => decide (b * b = a)).getD 0
def Spc.roots (tb : List S.R) : Row S.F tb.length := fun i => rootE (S.value (tb[i.val]'i.isLt))
def Spc.singRadical : List S.R :=
  if S.kind ≠ .quad ∨ S.F.p ≠ 2 ∨ S.radical = [] then S.radical
  else span ((kernel [S.roots S.radical]).map fun w => comb S.radical (List.ofFn w))
def Spc.formOk : Prop := match S.kind with
  | .alt => (∀ i, S.mat i i = 0) ∧ ∀ i j, S.mat i j = -(S.mat j i)
  | .herm => ∀ i j, S.mat i j = ebar (S.mat j i)
  | .quad => ∀ i j, j < i → S.mat i j = 0
/-- what Space takes -/
structure Spc.ok : Prop where
  form : S.formOk
  herm : S.kind = .herm → S.F.q = 4 ∨ S.F.q = 9
  small : S.n ≤ 6
def Spc.perp (rows : List S.R) : List S.R := kernel (rows.map S.facing)
def Spc.keeps (rows : List S.R) : Prop := ∀ i j : Fin S.n, ∀ r s, rows[i.val]? = some r → rows[j.val]? = some s → S.value r = S.value (runit i) ∧ (i < j → S.prod r s = S.prod (runit i) (runit j))
/-- what Isometry takes -/
def Spc.isIso (m : List S.R) : Prop := m.length = S.n ∧ det m ≠ 0 ∧ S.keeps m
/-! the extension -/
def Spc.isKept (us vs : List S.R) : Prop := us.length = vs.length ∧ ∀ i j : Nat, ∀ u v u' v', us[i]? = some u → vs[i]? = some v → us[j]? = some u' → vs[j]? = some v' → S.value u = S.value v ∧ (i < j → S.prod u u' = S.prod v v')
def isFree {F : Fd} {n : Nat} (l : List (Row F n)) : Prop := (span l).length = l.length
/-- what check lets pass -/
def Spc.checked (us vs : List S.R) : Prop := isFree us ∧ isFree vs ∧ S.isKept us vs
def Spc.wir (rows : List S.R) (k : Nat) (h : rows.length = k) : List (Row S.F k) := relations (rows.map (rest S.radical)) k (by rw [List.length_map]; exact h)
def barW {F : Fd} {k : Nat} (one two : List (Row F k)) : Option (Row F k) := match one.find? fun w => !holds two w with
  | some w => some w
  | none => two.find? fun w => !holds one w
def rsub {F : Fd} {n : Nat} (v w : Row F n) : Row F n := radd v (rscl w (-1))
def ofImages {F : Fd} {n : Nat} (rows images : List (Row F n)) : Option (List (Row F n)) := (minv rows).map fun inv => times inv images
def shift {F : Fd} {n : Nat} (f d : Row F n) : List (Row F n) := (List.finRange n).map fun i => radd (runit i) (rscl d (f i))
def Spc.funs (S : Spc) (row : S.R) : S.R := fun i => S.prod (runit i) row
def Spc.beyond (images : List S.R) (d : S.R) : Option (List S.R) :=
  match (List.finRange S.n).find? fun i => !decide (S.prod (runit i) d = 0) with
  | none => none
  | some i => match solve ((times (S.perp [d]) images).map S.funs) ((S.perp [d]).map fun row => S.prod (runit i) row) with
    | none => none
    | some y => match (els S.F).find? fun k => decide (S.value (radd y (rscl d k)) = S.value (runit i)) with
      | none => none
      | some k => ofImages (S.perp [d] ++ [runit i]) (times (S.perp [d]) images ++ [radd y (rscl d k)])
def Spc.zeros1 (head : List S.R) (d : S.R) : List S.R := if holds S.radical d then head else head ++ S.radical
def Spc.zeros (head : List S.R) (w d : S.R) : List S.R := if holds (span (S.zeros1 head d ++ [w])) d then S.zeros1 head d else S.zeros1 head d ++ [d]
def Spc.step (head : List S.R) (w y : S.R) : Option (List S.R) :=
  if rsub y w = rzero then some (ident S.F S.n)
  else if S.prod w (rsub y w) ≠ 0 then some (shift (fun i => S.prod (runit i) (rsub y w) * (S.prod w (rsub y w))⁻¹) (rsub y w))
  else match solve (S.zeros head w (rsub y w) ++ [w]) (List.replicate (S.zeros head w (rsub y w)).length 0 ++ [1]) with
    | none => none
    | some f => if holds S.radical (rsub y w) then some (shift f (rsub y w)) else S.beyond (shift f (rsub y w)) (rsub y w)
def goneStep {F : Fd} {n : Nat} (rows found : List (Row F n)) (row : Row F n) : List (Row F n) := if holds (span (rows ++ found)) row then found else found ++ [row]
def goneOn {F : Fd} {n : Nat} (rows more : List (Row F n)) : List (Row F n) := more.foldl (goneStep rows) []
def Spc.irOne (us : List S.R) : List S.R := us ++ goneOn us S.singRadical
def Spc.irLast (us : List S.R) : List S.R := goneOn (S.irOne us) S.radical
def Spc.irOwn (us stay : List S.R) : List S.R := S.irOne us ++ S.irLast us ++ stay
def Spc.inRadical (us vs stay : List S.R) : Option (List S.R) :=
  ofImages (S.irOwn us stay ++ complRows (span (S.irOwn us stay))) (S.irOne vs ++ S.irLast us ++ stay ++ complRows (span (S.irOwn us stay)))
def combs {F : Fd} {n k : Nat} (l : List (Row F n)) (ws : List (Row F k)) : List (Row F n) := ws.map fun w => comb l (List.ofFn w)
/-- the walk over the outer weights: j of them are done -/
def Spc.extGo (us : List S.R) {k : Nat} (images : List S.R) : Nat → List (Row S.F k) → List S.R → Option (List S.R)
  | _, [], found => some found
  | j, w :: ws, found => match images[j]? with
    | none => none
    | some y => match S.step (images.take j) (moved (comb us (List.ofFn w)) found) y with
      | none => none
      | some m => Spc.extGo us images (j + 1) ws (times found m)
def Spc.extM (us vs : List S.R) (k : Nat) (h : us.length = k) : Option (List S.R) :=
  match S.extGo us (combs vs (complRows (S.wir us k h))) 0 (complRows (S.wir us k h)) (ident S.F S.n) with
  | none => none
  | some found => (S.inRadical (times (combs us (S.wir us k h)) found) (combs vs (S.wir us k h)) (combs vs (complRows (S.wir us k h)))).map fun m => times found m
end
end Wk
/-! # WkLm -/
set_option Elab.async false
set_option linter.all false
set_option maxRecDepth 100000
set_option maxHeartbeats 4000000
/-! What the law's own defs compute. -/
namespace Wk
noncomputable def bp (P : Prop) : Bool := @decide P (Classical.propDecidable P)
theorem bp_t {P : Prop} (h : P) : bp P = true := by unfold bp; exact @decide_eq_true P (Classical.propDecidable P) h
theorem bp_f {P : Prop} (h : ¬ P) : bp P = false := by unfold bp; exact @decide_eq_false P (Classical.propDecidable P) h
theorem bp_iff {P : Prop} : bp P = true ↔ P := ⟨fun h => by unfold bp at h; exact @of_decide_eq_true P (Classical.propDecidable P) h, bp_t⟩
theorem bp_dec {P : Prop} [Decidable P] : bp P = decide P := by
  by_cases h : P
  · rw [bp_t h, decide_eq_true h]
  · rw [bp_f h, decide_eq_false h]
def allRows (F : Fd) : (n : Nat) → List (Row F n)
  | 0 => [fun i => i.elim0]
  | n + 1 => (allRows F n).flatMap fun h => (els F).map fun c => rsnoc h c
def allMats (F : Fd) (n : Nat) : Nat → List (List (Row F n))
  | 0 => [[]]
  | k + 1 => (allMats F n k).flatMap fun h => (allRows F n).map fun r => h ++ [r]
section
variable (S : Spc)
def Spc.lstep (x y : S.R) (t : El S.F) (i j : Fin S.n) : El S.F :=
  if S.mat i j = 0 then t else if S.kind = .quad then t + S.mat i j * (x i * y j + x j * y i) else t + S.mat i j * (x i * (if S.kind = .herm then ebar (y j) else y j))
def Spc.lprod (x y : S.R) : El S.F := (List.finRange S.n).foldl (fun t i => (List.finRange S.n).foldl (fun t j => S.lstep x y t i j) t) 0
def Spc.lvalue (x : S.R) : El S.F := match S.kind with
  | .alt => 0
  | .herm => S.lprod x x
  | .quad => (List.finRange S.n).foldl (fun t i => ((List.finRange S.n).filter fun j => decide (i ≤ j)).foldl (fun t j => t + S.mat i j * (x i * x j)) t) 0
def Spc.lmat (rows : Fin S.n → S.R) (i j : Fin S.n) : El S.F :=
  if S.kind ≠ .quad ∨ i < j then S.lprod (rows i) (rows j) else if i = j then S.lvalue (rows i) else 0
def lspanStep {F : Fd} {n : Nat} (found : List (Row F n)) (row : Row F n) : List (Row F n) := if row ∈ found then found else found.flatMap fun x => (els F).map fun c => radd x (rscl row c)
def lspan {F : Fd} {n : Nat} (rows : List (Row F n)) : List (Row F n) := rows.foldl lspanStep [rzero]
def lfree {F : Fd} {n : Nat} (rows : List (Row F n)) : Prop := (lspan rows).length = F.q ^ rows.length
def Spc.lrad : List S.R := (allRows S.F S.n).filter fun x => (List.finRange S.n).all fun i => decide (S.lprod x (runit i) = 0)
def Spc.lkeeps (m : List S.R) : Prop := ∀ i : Fin S.n, ∀ r, m[i.val]? = some r → S.lvalue r = S.lvalue (runit i) ∧ ∀ j : Fin S.n, j < i → ∀ r', m[j.val]? = some r' → S.lprod r' r = S.lprod (runit j) (runit i)
def Spc.lIso (m : List S.R) : Prop := S.lkeeps m ∧ lfree m
def Spc.lnear (us vs : List S.R) (u v : S.R) : Prop := ∀ (k : Nat) (a b : S.R), us[k]? = some a → vs[k]? = some b → S.lprod a u = S.lprod b v
def Spc.ltakes (us vs m : List S.R) : Prop := ∀ (k : Nat) (a b : S.R), us[k]? = some a → vs[k]? = some b → moved a m = b
def Spc.lgood (us vs : List S.R) : Prop := ∃ m ∈ allMats S.F S.n S.n, S.ltakes us vs m ∧ S.lIso m
/-- small enough to be walked -/
structure Spc.tiny : Prop where
  n3 : S.n ≤ 3
  rows : S.F.q ^ S.n ≤ 25
  mats : (S.F.q ^ S.n) ^ S.n ≤ 625
end
theorem allRows_len (F : Fd) : ∀ n, (allRows F n).length = F.q ^ n
  | 0 => rfl
  | n + 1 => by
    unfold allRows
    rw [List.length_flatMap]
    have : ((allRows F n).map fun h => ((els F).map fun c => rsnoc h c).length) = (allRows F n).map fun _ => F.q := by
      apply List.map_congr_left
      intro a _
      rw [List.length_map, els_len]
    rw [this, List.map_const', List.sum_replicate_nat, allRows_len F n, Nat.pow_succ]
theorem allMats_len (F : Fd) (n : Nat) : ∀ k, (allMats F n k).length = (F.q ^ n) ^ k
  | 0 => rfl
  | k + 1 => by
    unfold allMats
    rw [List.length_flatMap]
    have : ((allMats F n k).map fun h => ((allRows F n).map fun r => h ++ [r]).length) = (allMats F n k).map fun _ => F.q ^ n := by
      apply List.map_congr_left
      intro a _
      rw [List.length_map, allRows_len]
    rw [this, List.map_const', List.sum_replicate_nat, allMats_len F n k, Nat.pow_succ]
end Wk
/-! # WkA -/
set_option Elab.async false
set_option linter.all false
set_option maxRecDepth 100000
set_option maxHeartbeats 4000000
/-! Linear algebra over the six fields: sums, spans, independence, counting. -/
namespace Wk
section sums
variable {F : Fd} {A B : Type}
def lsm (f : A → El F) : List A → El F
  | [] => 0
  | a :: l => f a + lsm f l
theorem foldl_lsm (f : A → El F) : ∀ (l : List A) (z : El F), l.foldl (fun s a => s + f a) z = z + lsm f l
  | [], z => by show z = z + 0; grind
  | a :: l, z => by
    rw [List.foldl_cons, foldl_lsm f l]
    show z + f a + lsm f l = z + (f a + lsm f l)
    grind
theorem lsm_add (f g : A → El F) : ∀ l : List A, lsm (fun a => f a + g a) l = lsm f l + lsm g l
  | [] => by show (0 : El F) = 0 + 0; grind
  | a :: l => by
    show f a + g a + lsm (fun a => f a + g a) l = (f a + lsm f l) + (g a + lsm g l)
    rw [lsm_add f g l]
    grind
theorem lsm_mul (f : A → El F) (c : El F) : ∀ l : List A, lsm (fun a => f a * c) l = lsm f l * c
  | [] => by show (0 : El F) = 0 * c; grind
  | a :: l => by
    show f a * c + lsm (fun a => f a * c) l = (f a + lsm f l) * c
    rw [lsm_mul f c l]
    grind
theorem lsm_mulL (f : A → El F) (c : El F) (l : List A) : lsm (fun a => c * f a) l = c * lsm f l := by
  have h := lsm_mul f c l
  have e : (fun a => c * f a) = fun a => f a * c := by funext a; grind
  rw [e, h]
  grind
theorem lsm_congr {f g : A → El F} : ∀ {l : List A}, (∀ a ∈ l, f a = g a) → lsm f l = lsm g l
  | [], _ => rfl
  | a :: l, h => by
    show f a + lsm f l = g a + lsm g l
    rw [h a (List.mem_cons_self ..), lsm_congr fun b hb => h b (List.mem_cons_of_mem _ hb)]
theorem lsm_zero : ∀ l : List A, lsm (fun _ => (0 : El F)) l = 0
  | [] => rfl
  | a :: l => by
    show 0 + lsm (fun _ => (0 : El F)) l = 0
    rw [lsm_zero l]
    grind
theorem lsm_swap (f : A → B → El F) (m : List B) : ∀ l : List A, lsm (fun a => lsm (fun b => f a b) m) l = lsm (fun b => lsm (fun a => f a b) l) m
  | [] => by
    show (0 : El F) = lsm (fun b => 0) m
    rw [lsm_zero]
  | a :: l => by
    show lsm (fun b => f a b) m + lsm (fun a => lsm (fun b => f a b) m) l = lsm (fun b => f a b + lsm (fun a => f a b) l) m
    rw [lsm_swap f m l, lsm_add]
theorem lsm_append (f : A → El F) : ∀ l m : List A, lsm f (l ++ m) = lsm f l + lsm f m
  | [], m => by show lsm f m = 0 + lsm f m; grind
  | a :: l, m => by
    show f a + lsm f (l ++ m) = f a + lsm f l + lsm f m
    rw [lsm_append f l m]
    grind
theorem lsm_map (g : B → A) (f : A → El F) : ∀ l : List B, lsm f (l.map g) = lsm (fun b => f (g b)) l
  | [] => rfl
  | b :: l => by
    show f (g b) + lsm f (l.map g) = f (g b) + lsm (fun b => f (g b)) l
    rw [lsm_map g f l]
theorem lsm_single [DecidableEq A] (g : A → El F) (j : A) : ∀ l : List A, l.Nodup → j ∈ l → lsm (fun i => if i = j then g i else 0) l = g j
  | [], _, h => by cases h
  | a :: l, nd, h => by
    obtain ⟨h1, h2⟩ := List.nodup_cons.mp nd
    show (if a = j then g a else 0) + lsm (fun i => if i = j then g i else 0) l = g j
    by_cases e : a = j
    · subst e
      rw [if_pos rfl, lsm_congr (g := fun _ => 0) fun b hb => if_neg fun z => h1 (by rw [← z]; exact hb), lsm_zero]
      grind
    · rw [if_neg e, lsm_single g j l h2 ((List.mem_cons.mp h).resolve_left fun z => e z.symm)]
      grind
theorem lsm_bar (f : A → El F) : ∀ l : List A, (∀ a b : El F, ebar (a + b) = ebar a + ebar b) → ebar (0 : El F) = 0 → ebar (lsm f l) = lsm (fun a => ebar (f a)) l
  | [], _, h0 => h0
  | a :: l, h, h0 => by
    show ebar (f a + lsm f l) = ebar (f a) + lsm (fun a => ebar (f a)) l
    rw [h, lsm_bar f l h h0]
end sums
section rows
variable {F : Fd} {n k : Nat}
abbrev sm (f : Fin n → El F) : El F := lsm f (List.finRange n)
theorem fin_nodup (n : Nat) : (List.finRange n).Nodup := List.nodup_finRange n
theorem sm_single (g : Fin n → El F) (j : Fin n) : sm (fun i => if i = j then g i else 0) = g j := lsm_single g j _ (fin_nodup n) (List.mem_finRange j)
theorem dot_sm (v w : Row F n) : dot v w = sm fun i => v i * w i := by
  unfold dot
  rw [foldl_lsm]
  grind
theorem dot_addL (v w x : Row F n) : dot (radd v w) x = dot v x + dot w x := by
  rw [dot_sm, dot_sm, dot_sm, ← lsm_add]
  apply lsm_congr
  intro i _
  show (v i + w i) * x i = _
  grind
theorem dot_sclL (v x : Row F n) (c : El F) : dot (rscl v c) x = dot v x * c := by
  rw [dot_sm, dot_sm, ← lsm_mul]
  apply lsm_congr
  intro i _
  show (v i * c) * x i = _
  grind
theorem dot_comm (v w : Row F n) : dot v w = dot w v := by
  rw [dot_sm, dot_sm]
  apply lsm_congr
  intro i _
  grind
theorem dot_addR (v w x : Row F n) : dot x (radd v w) = dot x v + dot x w := by rw [dot_comm, dot_addL, dot_comm v, dot_comm w]
theorem dot_sclR (v x : Row F n) (c : El F) : dot x (rscl v c) = dot x v * c := by rw [dot_comm, dot_sclL, dot_comm v]
theorem dot_unitL (i : Fin n) (x : Row F n) : dot (runit i) x = x i := by
  rw [dot_sm, ← sm_single x i]
  apply lsm_congr
  intro k _
  unfold runit
  split <;> grind
theorem dot_zeroL (x : Row F n) : dot rzero x = 0 := by
  rw [dot_sm, ← lsm_zero (F := F) (List.finRange n)]
  apply lsm_congr
  intro k _
  show (0 : El F) * x k = 0
  grind
theorem dot_zeroR (x : Row F n) : dot x rzero = 0 := by rw [dot_comm, dot_zeroL]
/-! rows as vectors -/
theorem radd_comm (v w : Row F n) : radd v w = radd w v := by funext i; show v i + w i = w i + v i; grind
theorem radd_assoc (v w x : Row F n) : radd (radd v w) x = radd v (radd w x) := by funext i; show v i + w i + x i = v i + (w i + x i); grind
theorem radd_zero (v : Row F n) : radd v rzero = v := by funext i; show v i + 0 = v i; grind
theorem zero_radd (v : Row F n) : radd rzero v = v := by funext i; show 0 + v i = v i; grind
theorem rscl_add (v w : Row F n) (c : El F) : rscl (radd v w) c = radd (rscl v c) (rscl w c) := by funext i; show (v i + w i) * c = v i * c + w i * c; grind
theorem rscl_scl (v : Row F n) (c d : El F) : rscl (rscl v c) d = rscl v (c * d) := by funext i; show v i * c * d = v i * (c * d); grind
theorem rscl_zero (v : Row F n) : rscl v 0 = rzero := by funext i; show v i * 0 = 0; grind
theorem zero_rscl (c : El F) : rscl (rzero : Row F n) c = rzero := by funext i; show 0 * c = 0; grind
theorem rscl_one (v : Row F n) : rscl v 1 = v := by funext i; show v i * 1 = v i; grind
theorem radd_neg (v : Row F n) : radd v (rscl v (-1)) = rzero := by funext i; show v i + v i * -1 = 0; grind
theorem rscl_addc (v : Row F n) (c d : El F) : rscl v (c + d) = radd (rscl v c) (rscl v d) := by funext i; show v i * (c + d) = v i * c + v i * d; grind
/-! combinations -/
theorem comb_fold : ∀ (ps : List (Row F n × El F)) (z : Row F n), ps.foldl (fun s p => radd s (rscl p.1 p.2)) z = radd z (ps.foldl (fun s p => radd s (rscl p.1 p.2)) rzero)
  | [], z => (radd_zero z).symm
  | p :: ps, z => by
    rw [List.foldl_cons, List.foldl_cons, comb_fold ps, comb_fold ps (radd rzero _), zero_radd, radd_assoc]
theorem comb_cons (r : Row F n) (l : List (Row F n)) (x : El F) (c : List (El F)) : comb (r :: l) (x :: c) = radd (rscl r x) (comb l c) := by
  unfold comb
  rw [List.zip_cons_cons, List.foldl_cons, comb_fold, zero_radd]
theorem comb_nil (c : List (El F)) : comb ([] : List (Row F n)) c = rzero := rfl
theorem comb_nilR (l : List (Row F n)) : comb l [] = rzero := by
  unfold comb
  rw [List.zip_nil_right]
  rfl
theorem comb_append : ∀ (l m : List (Row F n)) (c d : List (El F)), c.length = l.length → comb (l ++ m) (c ++ d) = radd (comb l c) (comb m d)
  | [], m, [], d, _ => by rw [comb_nil, zero_radd]; rfl
  | r :: l, m, x :: c, d, h => by
    rw [List.cons_append, List.cons_append, comb_cons, comb_cons, comb_append l m c d (by simpa using h), radd_assoc]
  | [], _, _ :: _, _, h => by simp at h
  | _ :: _, _, [], _, h => by simp at h
theorem comb_zero : ∀ (l : List (Row F n)) (k : Nat), comb l (List.replicate k 0) = rzero
  | [], _ => rfl
  | r :: l, 0 => comb_nilR _
  | r :: l, k + 1 => by rw [List.replicate_succ, comb_cons, comb_zero l k, rscl_zero, radd_zero]
/-! spans -/
inductive InSp (l : List (Row F n)) : Row F n → Prop where
  | zero : InSp l rzero
  | step {v r : Row F n} (h : InSp l v) (hr : r ∈ l) (c : El F) : InSp l (radd v (rscl r c))
theorem InSp.gen {l : List (Row F n)} {r : Row F n} (h : r ∈ l) : InSp l r := by
  have := InSp.step (InSp.zero (l := l)) h 1
  rwa [rscl_one, zero_radd] at this
theorem InSp.add {l : List (Row F n)} {v w : Row F n} (h : InSp l v) (g : InSp l w) : InSp l (radd v w) := by
  induction g with
  | zero => rw [radd_zero]; exact h
  | step g hr c ih => rw [← radd_assoc]; exact ih.step hr c
theorem InSp.scl {l : List (Row F n)} {v : Row F n} (h : InSp l v) (c : El F) : InSp l (rscl v c) := by
  induction h with
  | zero => rw [zero_rscl]; exact .zero
  | step h hr d ih => rw [rscl_add, rscl_scl]; exact ih.step hr _
theorem InSp.trans {l m : List (Row F n)} {v : Row F n} (h : InSp l v) (g : ∀ r ∈ l, InSp m r) : InSp m v := by
  induction h with
  | zero => exact .zero
  | step h hr c ih => exact ih.add ((g _ hr).scl c)
theorem InSp.mono {l m : List (Row F n)} {v : Row F n} (h : InSp l v) (g : ∀ r ∈ l, r ∈ m) : InSp m v := h.trans fun r hr => .gen (g r hr)
theorem InSp.comb {l : List (Row F n)} : ∀ {m : List (Row F n)} (c : List (El F)), (∀ r ∈ m, r ∈ l) → InSp l (comb m c)
  | [], c, _ => .zero
  | r :: m, [], _ => by rw [comb_nilR]; exact .zero
  | r :: m, x :: c, h => by
    rw [comb_cons]
    exact ((InSp.gen (h r (List.mem_cons_self ..))).scl x).add (InSp.comb c fun s hs => h s (List.mem_cons_of_mem _ hs))
theorem comb_add : ∀ (l : List (Row F n)) (c d : List (El F)), c.length = l.length → d.length = l.length → comb l (List.zipWith (· + ·) c d) = radd (comb l c) (comb l d)
  | [], _, _, _, _ => by rw [comb_nil, comb_nil, comb_nil, radd_zero]
  | r :: l, x :: c, y :: d, h, g => by
    rw [List.zipWith_cons_cons, comb_cons, comb_cons, comb_cons, comb_add l c d (by simpa using h) (by simpa using g), rscl_addc]
    funext i
    show r i * x + r i * y + (comb l c i + comb l d i) = r i * x + comb l c i + (r i * y + comb l d i)
    grind
  | _ :: _, [], _, h, _ => by simp at h
  | _ :: _, _ :: _, [], _, h => by simp at h
theorem comb_single : ∀ (l : List (Row F n)) (r : Row F n) (x : El F), r ∈ l → ∃ c : List (El F), c.length = l.length ∧ comb l c = rscl r x
  | [], _, _, h => by cases h
  | s :: l, r, x, h => by
    rcases List.mem_cons.mp h with e | h
    · subst e
      refine ⟨x :: List.replicate l.length 0, by simp, ?_⟩
      rw [comb_cons, comb_zero, radd_zero]
    · obtain ⟨c, h1, h2⟩ := comb_single l r x h
      refine ⟨0 :: c, by simp [h1], ?_⟩
      rw [comb_cons, rscl_zero, zero_radd, h2]
theorem InSp.coef {l : List (Row F n)} {v : Row F n} (h : InSp l v) : ∃ c : List (El F), c.length = l.length ∧ Wk.comb l c = v := by
  induction h with
  | zero => exact ⟨List.replicate l.length 0, by simp, comb_zero _ _⟩
  | step h hr x ih =>
    obtain ⟨c, h1, h2⟩ := ih
    obtain ⟨d, g1, g2⟩ := comb_single l _ x hr
    exact ⟨List.zipWith (· + ·) c d, by rw [List.length_zipWith, h1, g1]; omega, by rw [comb_add l c d h1 g1, h2, g2]⟩
/-- only the trivial combination is zero -/
def Ind (l : List (Row F n)) : Prop := ∀ c : List (El F), c.length = l.length → comb l c = rzero → ∀ x ∈ c, x = 0
theorem Ind.nil : Ind ([] : List (Row F n)) := fun c h _ x hx => by
  have : c = [] := List.length_eq_zero_iff.mp h
  rw [this] at hx
  cases hx
theorem all_zero : ∀ {c : List (El F)}, (∀ x ∈ c, x = 0) → c = List.replicate c.length 0
  | [], _ => rfl
  | a :: c, h => by
    have h2 := all_zero fun x hx => h x (List.mem_cons_of_mem _ hx)
    rw [List.length_cons, List.replicate_succ, ← h2, h a (List.mem_cons_self ..)]
theorem ind_snoc {l : List (Row F n)} {v : Row F n} : Ind (l ++ [v]) ↔ Ind l ∧ ¬ InSp l v := by
  refine ⟨fun h => ⟨fun c hc h0 x hx => ?_, fun hv => ?_⟩, fun ⟨h1, h2⟩ c hc h0 => ?_⟩
  · refine h (c ++ [0]) (by simp [hc]) ?_ x (List.mem_append_left _ hx)
    rw [comb_append l [v] c [0] hc, h0, comb_cons, comb_nil, rscl_zero, radd_zero, radd_zero]
  · obtain ⟨c, hc, e⟩ := hv.coef
    have := h (c ++ [-1]) (by simp [hc]) (by
      rw [comb_append l [v] c [-1] hc, e, comb_cons, comb_nil, radd_zero, radd_neg]) (-1) (by simp)
    have z : (1 : El F) = 0 := by grind
    exact e_zno z.symm
  · have hne : c ≠ [] := fun z => by rw [z] at hc; simp at hc
    obtain ⟨d, x, rfl⟩ : ∃ d x, c = d ++ [x] := ⟨c.dropLast, c.getLast hne, (List.dropLast_concat_getLast hne).symm⟩
    have hd : d.length = l.length := by simpa using hc
    rw [comb_append l [v] d [x] hd, comb_cons, comb_nil, radd_zero] at h0
    have hx : x = 0 := by
      apply Classical.byContradiction
      intro hx
      apply h2
      have e : v = rscl (comb l d) (-(x⁻¹)) := by
        funext i
        have h3 := congrFun h0 i
        have h3 : comb l d i + v i * x = 0 := h3
        show v i = comb l d i * -(x⁻¹)
        grind
      rw [e]
      exact (InSp.comb d fun r hr => hr).scl _
    subst hx
    rw [rscl_zero, radd_zero] at h0
    intro y hy
    rcases List.mem_append.mp hy with hy | hy
    · exact h1 d hd h0 y hy
    · simpa using hy
end rows
end Wk
/-! # WkB -/
set_option Elab.async false
set_option linter.all false
set_option maxRecDepth 100000
set_option maxHeartbeats 4000000
/-! The law's spans; dimension by counting. -/
namespace Wk
section count
variable {A : Type} [DecidableEq A]
theorem nodup_sub_len : ∀ {l m : List A}, l.Nodup → (∀ a ∈ l, a ∈ m) → l.length ≤ m.length
  | [], _, _, _ => Nat.zero_le _
  | a :: l, m, nd, h => by
    obtain ⟨h1, h2⟩ := List.nodup_cons.mp nd
    have ha := h a (List.mem_cons_self ..)
    have : l.length ≤ (m.erase a).length := nodup_sub_len h2 fun b hb => by
      have ne : b ≠ a := fun z => h1 (by rw [← z]; exact hb)
      exact (List.mem_erase_of_ne ne).mpr (h b (List.mem_cons_of_mem _ hb))
    rw [List.length_erase_of_mem ha] at this
    have hp : 0 < m.length := List.length_pos_of_mem ha
    rw [List.length_cons]
    omega
theorem nodup_sub_all {l m : List A} (nd : l.Nodup) (h : ∀ a ∈ l, a ∈ m) (hl : m.length ≤ l.length) : ∀ a ∈ m, a ∈ l := by
  intro a ha
  apply Classical.byContradiction
  intro hn
  have := nodup_sub_len (l := a :: l) (m := m) (List.nodup_cons.mpr ⟨hn, nd⟩) fun b hb => by
    rcases List.mem_cons.mp hb with z | z
    · rw [z]; exact ha
    · exact h b z
  rw [List.length_cons] at this
  omega
end count
theorem allRows_all {F : Fd} : ∀ {n : Nat} (v : Row F n), v ∈ allRows F n
  | 0, v => by
    have : v = fun i => i.elim0 := funext fun i => i.elim0
    rw [this]
    exact List.mem_singleton.mpr rfl
  | n + 1, v => by
    unfold allRows
    refine List.mem_flatMap.mpr ⟨fun i => v i.castSucc, allRows_all _, List.mem_map.mpr ⟨v (Fin.last n), els_mem _, ?_⟩⟩
    funext i
    unfold rsnoc
    split
    · rfl
    · rename_i h
      have : i = Fin.last n := Fin.ext (by have := i.isLt; show i.val = n; omega)
      rw [this]
theorem els_nodup (F : Fd) : (els F).Nodup := List.nodup_finRange F.q
theorem flatMap_nodup {A B : Type} {g : A → List B} : ∀ {l : List A}, l.Nodup → (∀ a ∈ l, (g a).Nodup) → (∀ a ∈ l, ∀ b ∈ l, a ≠ b → ∀ x ∈ g a, x ∉ g b) → (l.flatMap g).Nodup
  | [], _, _, _ => List.nodup_nil
  | a :: l, nd, h1, h2 => by
    obtain ⟨n1, n2⟩ := List.nodup_cons.mp nd
    rw [List.flatMap_cons]
    refine List.nodup_append.mpr ⟨h1 a (List.mem_cons_self ..), flatMap_nodup n2 (fun b hb => h1 b (List.mem_cons_of_mem _ hb)) (fun b hb c hc => h2 b (List.mem_cons_of_mem _ hb) c (List.mem_cons_of_mem _ hc)), fun x hx y hy e => ?_⟩
    subst e
    obtain ⟨b, hb, hxb⟩ := List.mem_flatMap.mp hy
    exact h2 a (List.mem_cons_self ..) b (List.mem_cons_of_mem _ hb) (fun z => n1 (by rw [z]; exact hb)) x hx hxb
theorem map_nodup {A B : Type} {f : A → B} : ∀ {l : List A}, l.Nodup → (∀ a ∈ l, ∀ b ∈ l, f a = f b → a = b) → (l.map f).Nodup
  | [], _, _ => List.nodup_nil
  | a :: l, nd, h => by
    obtain ⟨n1, n2⟩ := List.nodup_cons.mp nd
    rw [List.map_cons]
    refine List.nodup_cons.mpr ⟨fun z => ?_, map_nodup n2 fun b hb c hc => h b (List.mem_cons_of_mem _ hb) c (List.mem_cons_of_mem _ hc)⟩
    obtain ⟨b, hb, e⟩ := List.mem_map.mp z
    exact n1 (by rw [← h b (List.mem_cons_of_mem _ hb) a (List.mem_cons_self ..) e]; exact hb)
theorem allRows_nodup (F : Fd) : ∀ n, (allRows F n).Nodup
  | 0 => by unfold allRows; simp
  | n + 1 => by
    have last : ∀ (a : Row F n) (c : El F), rsnoc a c (Fin.last n) = c := fun a c => by unfold rsnoc; rw [dif_neg (by show ¬ n < n; omega)]
    have init : ∀ (a : Row F n) (c : El F) (i : Fin n), rsnoc a c i.castSucc = a i := fun a c i => by unfold rsnoc; rw [dif_pos (show i.castSucc.val < n from i.isLt)]; rfl
    unfold allRows
    refine flatMap_nodup (allRows_nodup F n) (fun a _ => map_nodup (els_nodup F) fun c _ d _ e => ?_) fun a _ b _ hab x hx hxb => ?_
    · have := congrFun e (Fin.last n)
      rwa [last, last] at this
    · obtain ⟨c, _, e1⟩ := List.mem_map.mp hx
      obtain ⟨d, _, e2⟩ := List.mem_map.mp hxb
      apply hab
      funext i
      have := congrFun (e1.trans e2.symm) i.castSucc
      rwa [init, init] at this
section
variable {F : Fd} {n : Nat}
theorem lspanStep_mem {found : List (Row F n)} {row v : Row F n} (h0 : ∀ x c, x ∈ found → rscl x c ∈ found) (h1 : ∀ x y, x ∈ found → y ∈ found → radd x y ∈ found) : v ∈ lspanStep found row ↔ ∃ x ∈ found, ∃ c, v = radd x (rscl row c) := by
  unfold lspanStep
  split
  · rename_i hr
    refine ⟨fun h => ⟨v, h, 0, by rw [rscl_zero, radd_zero]⟩, ?_⟩
    rintro ⟨x, hx, c, rfl⟩
    exact h1 _ _ hx (h0 _ _ hr)
  · rw [List.mem_flatMap]
    refine ⟨?_, ?_⟩
    · rintro ⟨x, hx, hv⟩
      obtain ⟨c, _, e⟩ := List.mem_map.mp hv
      exact ⟨x, hx, c, e.symm⟩
    · rintro ⟨x, hx, c, rfl⟩
      exact ⟨x, hx, List.mem_map.mpr ⟨c, els_mem c, rfl⟩⟩
theorem lspan_snoc (l : List (Row F n)) (v : Row F n) : lspan (l ++ [v]) = lspanStep (lspan l) v := by
  unfold lspan
  rw [List.foldl_append]
  rfl
theorem InSp_snoc {l : List (Row F n)} {r v : Row F n} : InSp (l ++ [r]) v ↔ ∃ x, InSp l x ∧ ∃ c, v = radd x (rscl r c) := by
  refine ⟨fun h => ?_, ?_⟩
  · induction h with
    | zero => exact ⟨rzero, .zero, 0, by rw [rscl_zero, radd_zero]⟩
    | step h hr d ih =>
      obtain ⟨x, hx, c, rfl⟩ := ih
      rcases List.mem_append.mp hr with hr | hr
      · refine ⟨_, hx.step hr d, c, ?_⟩
        rw [radd_assoc, radd_assoc, radd_comm (rscl r c)]
      · have : _ = r := List.mem_singleton.mp hr
        subst this
        refine ⟨x, hx, c + d, ?_⟩
        rw [rscl_addc, radd_assoc]
  · rintro ⟨x, hx, c, rfl⟩
    exact (hx.mono fun s hs => List.mem_append_left _ hs).step (List.mem_append_right _ (List.mem_singleton.mpr rfl)) c
/-- induction from behind -/
theorem snoc_ind {A : Type} {P : List A → Prop} (h0 : P []) (h1 : ∀ l a, P l → P (l ++ [a])) : ∀ l, P l := fun l => by
  have : ∀ (k : Nat) (l : List A), l.length = k → P l := by
    intro k
    induction k with
    | zero => intro l hl; rw [List.length_eq_zero_iff.mp hl]; exact h0
    | succ k ih =>
      intro l hl
      have hne : l ≠ [] := fun z => by rw [z] at hl; simp at hl
      rw [← List.dropLast_concat_getLast hne]
      exact h1 _ _ (ih _ (by rw [List.length_dropLast]; omega))
  exact this _ l rfl
theorem mem_lspan (l : List (Row F n)) : ∀ v, v ∈ lspan l ↔ InSp l v := by
  refine snoc_ind (P := fun l => ∀ v, v ∈ lspan l ↔ InSp l v) ?_ ?_ l
  · intro v
    refine ⟨fun h => ?_, fun h => ?_⟩
    · have : v = rzero := by simpa [lspan] using h
      rw [this]; exact .zero
    · cases h with
      | zero => simp [lspan]
      | step _ hr _ => cases hr
  · intro l r ih v
    rw [lspan_snoc, lspanStep_mem (fun x c hx => (ih _).mpr (((ih x).mp hx).scl c)) (fun x y hx hy => (ih _).mpr (((ih x).mp hx).add ((ih y).mp hy))), InSp_snoc]
    refine ⟨?_, ?_⟩
    · rintro ⟨x, hx, c, e⟩; exact ⟨x, (ih x).mp hx, c, e⟩
    · rintro ⟨x, hx, c, e⟩; exact ⟨x, (ih x).mpr hx, c, e⟩
theorem lspan_nodup (l : List (Row F n)) : (lspan l).Nodup := by
  refine snoc_ind (P := fun l => (lspan l).Nodup) ?_ ?_ l
  · simp [lspan]
  · intro l r ih
    rw [lspan_snoc]
    unfold lspanStep
    split
    · exact ih
    · rename_i hr
      have hr : ¬ InSp l r := fun z => hr ((mem_lspan l r).mpr z)
      have key : ∀ x y c d, InSp l x → InSp l y → radd x (rscl r c) = radd y (rscl r d) → c = d := fun x y c d hx hy e => by
        apply Classical.byContradiction
        intro hcd
        apply hr
        have e2 : r = rscl (radd x (rscl y (-1))) ((d + -c)⁻¹) := by
          funext i
          have h3 := congrFun e i
          have h3 : x i + r i * c = y i + r i * d := h3
          have h4 : d + -c ≠ 0 := fun z => hcd (by grind)
          show r i = (x i + y i * -1) * (d + -c)⁻¹
          grind
        rw [e2]
        exact (hx.add (hy.scl _)).scl _
      have canc : ∀ x y c, radd x (rscl r c) = radd y (rscl r c) → x = y := fun x y c e => by
        funext i
        have h3 := congrFun e i
        have h3 : x i + r i * c = y i + r i * c := h3
        grind
      refine flatMap_nodup ih (fun x hx => map_nodup (els_nodup F) fun c _ d _ e => key x x c d ((mem_lspan l x).mp hx) ((mem_lspan l x).mp hx) e) fun x hx y hy hxy z hz hzy => ?_
      obtain ⟨c, _, e1⟩ := List.mem_map.mp hz
      obtain ⟨d, _, e2⟩ := List.mem_map.mp hzy
      have e := e1.trans e2.symm
      have hcd := key x y c d ((mem_lspan l x).mp hx) ((mem_lspan l y).mp hy) e
      subst hcd
      exact hxy (canc x y c e)
theorem lspan_le (l : List (Row F n)) : (lspan l).length ≤ F.q ^ l.length := by
  refine snoc_ind (P := fun l => (lspan l).length ≤ F.q ^ l.length) ?_ ?_ l
  · exact Nat.le_refl _
  · intro l r ih
    rw [lspan_snoc, List.length_append, List.length_singleton, Nat.pow_succ]
    unfold lspanStep
    split
    · have := F.two
      exact Nat.le_trans ih (Nat.le_mul_of_pos_right _ F.pos)
    · rw [List.length_flatMap]
      have e : ((lspan l).map fun x => ((els F).map fun c => radd x (rscl r c)).length) = (lspan l).map fun _ => F.q := by
        apply List.map_congr_left
        intro a _
        rw [List.length_map, els_len]
      rw [e, List.map_const', List.sum_replicate_nat]
      exact Nat.mul_le_mul_right _ ih
theorem lfree_ind (l : List (Row F n)) : lfree l ↔ Ind l := by
  refine snoc_ind (P := fun l => lfree l ↔ Ind l) ?_ ?_ l
  · exact ⟨fun _ => Ind.nil, fun _ => rfl⟩
  · intro l r ih
    rw [ind_snoc, ← ih, ← mem_lspan]
    unfold lfree
    rw [lspan_snoc, List.length_append, List.length_singleton, Nat.pow_succ]
    have h1 := lspan_le l
    have h2 : 0 < F.q ^ l.length := Nat.pow_pos F.pos
    have h3 := F.two
    unfold lspanStep
    split
    · rename_i hr
      refine ⟨fun h => ?_, fun h => absurd hr h.2⟩
      have : F.q ^ l.length * 2 ≤ F.q ^ l.length * F.q := Nat.mul_le_mul_left _ h3
      omega
    · rename_i hr
      rw [List.length_flatMap]
      have e : ((lspan l).map fun x => ((els F).map fun c => radd x (rscl r c)).length) = (lspan l).map fun _ => F.q := by
        apply List.map_congr_left
        intro a _
        rw [List.length_map, els_len]
      rw [e, List.map_const', List.sum_replicate_nat]
      exact ⟨fun h => ⟨Nat.eq_of_mul_eq_mul_right F.pos h, hr⟩, fun h => by rw [h.1]⟩
/-- the number of rows of independent lists -/
theorem ind_le {l m : List (Row F n)} (hl : Ind l) (hm : Ind m) (h : ∀ v, InSp l v → InSp m v) : l.length ≤ m.length := by
  have h1 := (lfree_ind l).mpr hl
  have h2 := (lfree_ind m).mpr hm
  unfold lfree at h1 h2
  have h3 := nodup_sub_len (lspan_nodup l) (m := lspan m) fun v hv => (mem_lspan m v).mpr (h v ((mem_lspan l v).mp hv))
  rw [h1, h2] at h3
  exact (Nat.pow_le_pow_iff_right (by have := F.two; omega)).mp h3
theorem ind_eq {l m : List (Row F n)} (hl : Ind l) (hm : Ind m) (h : ∀ v, InSp l v ↔ InSp m v) : l.length = m.length := Nat.le_antisymm (ind_le hl hm fun v => (h v).mp) (ind_le hm hl fun v => (h v).mpr)
/-- as many as there can be: they reach all of the other's -/
theorem ind_full {l m : List (Row F n)} (hl : Ind l) (hm : Ind m) (h : ∀ v, InSp l v → InSp m v) (e : m.length ≤ l.length) : ∀ v, InSp m v → InSp l v := fun v hv => by
  have h1 := (lfree_ind l).mpr hl
  have h2 := (lfree_ind m).mpr hm
  unfold lfree at h1 h2
  have := nodup_sub_all (lspan_nodup l) (m := lspan m) (fun v hv => (mem_lspan m v).mpr (h v ((mem_lspan l v).mp hv))) (by rw [h1, h2]; exact Nat.pow_le_pow_right F.pos e) v ((mem_lspan m v).mpr hv)
  exact (mem_lspan l v).mp this
theorem ind_all {l : List (Row F n)} (hl : Ind l) (e : l.length = n) (v : Row F n) : InSp l v := by
  have h1 := (lfree_ind l).mpr hl
  unfold lfree at h1
  have := nodup_sub_all (lspan_nodup l) (m := allRows F n) (fun v _ => allRows_all v) (by rw [h1, allRows_len, e]; exact Nat.le_refl _) v (allRows_all v)
  exact (mem_lspan l v).mp this
theorem ind_max {l : List (Row F n)} (hl : Ind l) : l.length ≤ n := by
  have h1 := (lfree_ind l).mpr hl
  unfold lfree at h1
  have := nodup_sub_len (lspan_nodup l) (m := allRows F n) fun v _ => allRows_all v
  rw [h1, allRows_len] at this
  exact (Nat.pow_le_pow_iff_right (by have := F.two; omega)).mp this
/-- independent and everything: n of them -/
theorem ind_count {l : List (Row F n)} (hl : Ind l) (h : ∀ v, InSp l v) : l.length = n := by
  refine Nat.le_antisymm (ind_max hl) ?_
  have h1 := (lfree_ind l).mpr hl
  unfold lfree at h1
  have := nodup_sub_len (allRows_nodup F n) (m := lspan l) fun v _ => (mem_lspan l v).mpr (h v)
  rw [h1, allRows_len] at this
  exact (Nat.pow_le_pow_iff_right (by have := F.two; omega)).mp this
end
end Wk
/-! # WkC -/
set_option Elab.async false
set_option linter.all false
set_option maxRecDepth 100000
set_option maxHeartbeats 4000000
/-! The reduced table. -/
namespace Wk
section
variable {F : Fd} {n : Nat}
theorem fin_val0 (n : Nat) : (List.finRange n).map (fun j => j.val) = List.range n := by
  apply List.ext_getElem
  · simp
  · intro i h1 h2; simp
theorem fin_split {pre post : List (Fin n)} {a : Fin n} (h : List.finRange n = pre ++ a :: post) : (∀ b : Fin n, b < a → b ∈ pre) ∧ (∀ b ∈ pre, b < a) := by
  have hpw : (List.finRange n).Pairwise (· < ·) := by
    have := List.pairwise_lt_range (n := n)
    rw [← fin_val0 n] at this
    have h2 := (List.pairwise_map (f := fun j : Fin n => j.val) (R := fun a b => a < b)).mp this
    exact h2.imp fun h => h
  rw [h] at hpw
  obtain ⟨h1, h2, h3⟩ := List.pairwise_append.mp hpw
  refine ⟨fun b hb => ?_, fun b hb => h3 b hb a (List.mem_cons_self ..)⟩
  have hm : b ∈ pre ++ a :: post := by rw [← h]; exact List.mem_finRange b
  rcases List.mem_append.mp hm with z | z
  · exact z
  · rcases List.mem_cons.mp z with z | z
    · subst z; exact absurd hb (Nat.lt_irrefl _)
    · have := (List.pairwise_cons.mp h2).1 b z
      exact absurd hb (Nat.lt_asymm this)
/-- pivots and rows fit -/
structure Fit (table : List (Row F n)) (piv : List (Fin n)) : Prop where
  len : table.length = piv.length
  one : ∀ q ∈ table.zip piv, q.1 q.2 = 1
  off : ∀ q ∈ table.zip piv, ∀ p ∈ piv, p ≠ q.2 → q.1 p = 0
  lead : ∀ q ∈ table.zip piv, ∀ b, b < q.2 → q.1 b = 0
  asc : piv.Pairwise (· < ·)
structure RInv (l : List (Row F n)) (pre : List (Fin n)) (s : RS F n) : Prop where
  left : ∀ r ∈ s.left, ∀ a ∈ pre, r a = 0
  fit : Fit s.table s.piv
  sub : ∀ p ∈ s.piv, p ∈ pre
  sp : ∀ v, InSp (s.left ++ s.table) v ↔ InSp l v
theorem cleared_at (r lead : Row F n) (a b : Fin n) : cleared r lead a b = r b + lead b * -(r a) := rfl
theorem red_step {l : List (Row F n)} {pre post : List (Fin n)} {a : Fin n} {s : RS F n} (h : List.finRange n = pre ++ a :: post) (I : RInv l pre s) : RInv l (pre ++ [a]) (redStep s a) := by
  obtain ⟨lt, gt⟩ := fin_split h
  unfold redStep
  cases hq : s.left.filter fun r => !decide (r a = 0) with
  | nil =>
    refine ⟨fun r hr b hb => ?_, I.fit, fun p hp => List.mem_append_left _ (I.sub p hp), I.sp⟩
    rcases List.mem_append.mp hb with hb | hb
    · exact I.left r hr b hb
    · rw [List.mem_singleton.mp hb]
      have := List.filter_eq_nil_iff.mp hq r hr
      simpa using this
  | cons x xs =>
    have hxm : x ∈ s.left.filter fun r => !decide (r a = 0) := by rw [hq]; exact List.mem_cons_self ..
    have hxl := (List.mem_filter.mp hxm).1
    have hxa : ¬ x a = 0 := by simpa using (List.mem_filter.mp hxm).2
    have hl0 : ∀ b ∈ pre, rscl x (x a)⁻¹ b = 0 := fun b hb => by
      show x b * (x a)⁻¹ = 0
      rw [I.left x hxl b hb]
      grind
    have hl1 : rscl x (x a)⁻¹ a = 1 := by
      show x a * (x a)⁻¹ = 1
      exact Lean.Grind.Field.mul_inv_cancel hxa
    generalize hL : rscl x (x a)⁻¹ = L at hl0 hl1
    show RInv l (pre ++ [a]) ⟨s.left.map fun r => cleared r (rscl x (x a)⁻¹) a, (s.table.map fun r => cleared r (rscl x (x a)⁻¹) a) ++ [rscl x (x a)⁻¹], s.piv ++ [a]⟩
    rw [hL]
    have ez : ((s.table.map fun r => cleared r L a) ++ [L]).zip (s.piv ++ [a]) = ((s.table.zip s.piv).map fun q => (cleared q.1 L a, q.2)) ++ [(L, a)] := by
      rw [List.zip_append (by rw [List.length_map]; exact I.fit.len), List.zip_map_left]
      rfl
    refine ⟨fun r hr b hb => ?_, ⟨by simp [I.fit.len], fun q hq => ?_, fun q hq p hp hne => ?_, fun q hq b hb => ?_, ?_⟩, fun p hp => ?_, fun v => ?_⟩
    · obtain ⟨r0, hr0, rfl⟩ := List.mem_map.mp hr
      rw [cleared_at]
      rcases List.mem_append.mp hb with hb | hb
      · rw [I.left r0 hr0 b hb, hl0 b hb]; grind
      · rw [List.mem_singleton.mp hb, hl1]; grind
    · have hq : q ∈ ((s.table.map fun r => cleared r L a) ++ [L]).zip (s.piv ++ [a]) := hq
      rw [ez] at hq
      rcases List.mem_append.mp hq with hq | hq
      · obtain ⟨q0, hq0, rfl⟩ := List.mem_map.mp hq
        show cleared q0.1 L a q0.2 = 1
        have hp := I.sub q0.2 (List.of_mem_zip (show (q0.1, q0.2) ∈ s.table.zip s.piv from hq0)).2
        rw [cleared_at, I.fit.one q0 hq0, hl0 _ hp]; grind
      · rw [List.mem_singleton.mp hq]; exact hl1
    · have hq : q ∈ ((s.table.map fun r => cleared r L a) ++ [L]).zip (s.piv ++ [a]) := hq
      have hp : p ∈ s.piv ++ [a] := hp
      rw [ez] at hq
      rcases List.mem_append.mp hq with hq | hq
      · obtain ⟨q0, hq0, rfl⟩ := List.mem_map.mp hq
        show cleared q0.1 L a p = 0
        rw [cleared_at]
        rcases List.mem_append.mp hp with hp | hp
        · rw [I.fit.off q0 hq0 p hp hne, hl0 p (I.sub p hp)]; grind
        · rw [List.mem_singleton.mp hp, hl1]; grind
      · have hq := List.mem_singleton.mp hq
        subst hq
        rcases List.mem_append.mp hp with hp | hp
        · exact hl0 p (I.sub p hp)
        · exact absurd (List.mem_singleton.mp hp) hne
    · have hq : q ∈ ((s.table.map fun r => cleared r L a) ++ [L]).zip (s.piv ++ [a]) := hq
      rw [ez] at hq
      rcases List.mem_append.mp hq with hq | hq
      · obtain ⟨q0, hq0, rfl⟩ := List.mem_map.mp hq
        show cleared q0.1 L a b = 0
        have hb : b < q0.2 := hb
        have hp := I.sub q0.2 (List.of_mem_zip (show (q0.1, q0.2) ∈ s.table.zip s.piv from hq0)).2
        rw [cleared_at, I.fit.lead q0 hq0 b hb, hl0 b (lt b (Nat.lt_trans hb (gt _ hp)))]; grind
      · have hq := List.mem_singleton.mp hq
        subst hq
        exact hl0 b (lt b hb)
    · refine List.pairwise_append.mpr ⟨I.fit.asc, List.pairwise_singleton .., fun p hp b hb => ?_⟩
      rw [List.mem_singleton.mp hb]
      exact gt p (I.sub p hp)
    · rcases List.mem_append.mp hp with hp | hp
      · exact List.mem_append_left _ (I.sub p hp)
      · exact List.mem_append_right _ hp
    · rw [← I.sp v]
      have hLin : InSp (s.left ++ s.table) L := by rw [← hL]; exact (InSp.gen (List.mem_append_left _ hxl)).scl _
      have hLin2 : InSp ((s.left.map fun r => cleared r L a) ++ ((s.table.map fun r => cleared r L a) ++ [L])) L := .gen (by simp)
      refine ⟨fun hv => hv.trans fun r hr => ?_, fun hv => hv.trans fun r hr => ?_⟩
      · rcases List.mem_append.mp hr with hr | hr
        · obtain ⟨r0, hr0, rfl⟩ := List.mem_map.mp hr
          exact (InSp.gen (List.mem_append_left _ hr0)).add (hLin.scl _)
        · rcases List.mem_append.mp hr with hr | hr
          · obtain ⟨r0, hr0, rfl⟩ := List.mem_map.mp hr
            exact (InSp.gen (List.mem_append_right _ hr0)).add (hLin.scl _)
          · rw [List.mem_singleton.mp hr]; exact hLin
      · have back : ∀ r0 : Row F n, InSp ((s.left.map fun r => cleared r L a) ++ ((s.table.map fun r => cleared r L a) ++ [L])) (cleared r0 L a) → InSp ((s.left.map fun r => cleared r L a) ++ ((s.table.map fun r => cleared r L a) ++ [L])) r0 := fun r0 h0 => by
          have e : r0 = radd (cleared r0 L a) (rscl L (r0 a)) := by
            funext i
            show r0 i = r0 i + L i * -(r0 a) + L i * r0 a
            grind
          rw [e]
          exact h0.add (hLin2.scl _)
        refine back r (.gen ?_)
        rcases List.mem_append.mp hr with hr | hr
        · exact List.mem_append_left _ (List.mem_map.mpr ⟨r, hr, rfl⟩)
        · exact List.mem_append_right _ (List.mem_append_left _ (List.mem_map.mpr ⟨r, hr, rfl⟩))
theorem red_inv (l : List (Row F n)) : RInv l (List.finRange n) (red l) := by
  have h : ∀ (post pre : List (Fin n)) (s : RS F n), List.finRange n = pre ++ post → RInv l pre s → RInv l (List.finRange n) (post.foldl redStep s) := by
    intro post
    induction post with
    | nil => intro pre s e I; rw [e, List.append_nil]; exact I
    | cons a post ih =>
      intro pre s e I
      exact ih (pre ++ [a]) _ (by rw [e, List.append_assoc]; rfl) (red_step e I)
  refine h _ [] _ rfl ⟨fun r _ a ha => absurd ha List.not_mem_nil, ⟨rfl, fun q hq => (by simp at hq), fun q hq => (by simp at hq), fun q hq => (by simp at hq), List.Pairwise.nil⟩, fun p hp => absurd hp List.not_mem_nil, fun v => (by rw [List.append_nil])⟩
theorem red_fit (l : List (Row F n)) : Fit (red l).table (red l).piv := (red_inv l).fit
theorem span_mem (l : List (Row F n)) (v : Row F n) : InSp (span l) v ↔ InSp l v := by
  rw [← (red_inv l).sp v]
  refine ⟨fun h => h.mono fun r hr => List.mem_append_right _ hr, fun h => h.trans fun r hr => ?_⟩
  rcases List.mem_append.mp hr with hr | hr
  · have : r = rzero := funext fun i => (red_inv l).left r hr i (List.mem_finRange i)
    rw [this]; exact .zero
  · exact .gen hr
theorem zip_of_mem {A B : Type} {l : List A} {m : List B} (e : l.length = m.length) {x : A} (h : x ∈ l) : ∃ y, (x, y) ∈ l.zip m := by
  obtain ⟨i, hi, rfl⟩ := List.mem_iff_getElem.mp h
  exact ⟨m[i]'(by omega), List.mem_iff_getElem.mpr ⟨i, by rw [List.length_zip]; omega, by simp⟩⟩
theorem zip_of_memR {A B : Type} {l : List A} {m : List B} (e : l.length = m.length) {y : B} (h : y ∈ m) : ∃ x, (x, y) ∈ l.zip m := by
  obtain ⟨i, hi, rfl⟩ := List.mem_iff_getElem.mp h
  exact ⟨l[i]'(by omega), List.mem_iff_getElem.mpr ⟨i, by rw [List.length_zip]; omega, by simp⟩⟩
theorem led_span (l : List (Row F n)) : Led (span l) := fun r hr => by
  obtain ⟨p, hp⟩ := zip_of_mem (red_fit l).len hr
  exact ⟨p, (red_fit l).one _ hp⟩
/-- combinations at the pivots -/
theorem comb_at {P : List (Fin n)} : ∀ (tb : List (Row F n)) (pv : List (Fin n)) (c : List (El F)), tb.length = pv.length → c.length = pv.length → (∀ q ∈ tb.zip pv, q.1 q.2 = 1) → (∀ q ∈ tb.zip pv, ∀ p ∈ P, p ≠ q.2 → q.1 p = 0) → (∀ p ∈ pv, p ∈ P) → pv.Nodup →
    (∀ q ∈ c.zip pv, comb tb c q.2 = q.1) ∧ ∀ p ∈ P, p ∉ pv → comb tb c p = 0
  | [], [], [], _, _, _, _, _, _ => ⟨fun q hq => by simp at hq, fun p _ _ => rfl⟩
  | t :: tb, p :: pv, x :: c, h1, h2, ho, hf, hs, nd => by
    obtain ⟨n1, n2⟩ := List.nodup_cons.mp nd
    obtain ⟨g1, g2⟩ := comb_at tb pv c (by simpa using h1) (by simpa using h2) (fun q hq => ho q (List.mem_cons_of_mem _ hq)) (fun q hq => hf q (List.mem_cons_of_mem _ hq)) (fun q hq => hs q (List.mem_cons_of_mem _ hq)) n2
    have t1 : t p = 1 := ho (t, p) (List.mem_cons_self ..)
    have t0 : ∀ p' ∈ P, p' ≠ p → t p' = 0 := fun p' h h' => hf (t, p) (List.mem_cons_self ..) p' h h'
    rw [comb_cons]
    refine ⟨fun q hq => ?_, fun p' hp' hn => ?_⟩
    · rcases List.mem_cons.mp (show q ∈ (x, p) :: c.zip pv from hq) with e | hq
      · subst e
        show t p * x + comb tb c p = x
        rw [t1, g2 p (hs p (List.mem_cons_self ..)) n1]; grind
      · have hm := (List.of_mem_zip (show (q.1, q.2) ∈ c.zip pv from hq)).2
        show t q.2 * x + comb tb c q.2 = q.1
        rw [t0 q.2 (hs _ (List.mem_cons_of_mem _ hm)) (fun z => n1 (by rw [← z]; exact hm)), g1 q hq]; grind
    · show t p' * x + comb tb c p' = 0
      rw [t0 p' hp' (fun z => hn (by rw [z]; exact List.mem_cons_self ..)), g2 p' hp' (fun z => hn (List.mem_cons_of_mem _ z))]; grind
  | [], _ :: _, _, h, _, _, _, _, _ => by simp at h
  | _ :: _, [], _, h, _, _, _, _, _ => by simp at h
  | [], [], _ :: _, _, h, _, _, _, _ => by simp at h
  | _ :: _, _ :: _, [], _, h, _, _, _, _ => by simp at h
theorem asc_nodup {l : List (Fin n)} (h : l.Pairwise (· < ·)) : l.Nodup := List.Pairwise.imp (fun h e => by subst e; exact absurd h (Nat.lt_irrefl _)) h
theorem Fit.comb {tb : List (Row F n)} {pv : List (Fin n)} (h : Fit tb pv) {c : List (El F)} (hc : c.length = pv.length) : ∀ q ∈ c.zip pv, comb tb c q.2 = q.1 := (comb_at tb pv c h.len hc h.one h.off (fun _ h => h) (asc_nodup h.asc)).1
theorem Fit.ind {tb : List (Row F n)} {pv : List (Fin n)} (h : Fit tb pv) : Ind tb := fun c hc h0 x hx => by
  have hc2 : c.length = pv.length := hc.trans h.len
  obtain ⟨p, hp⟩ := zip_of_mem hc2 hx
  have := h.comb hc2 _ hp
  rw [h0] at this
  exact this.symm
theorem ind_span (l : List (Row F n)) : Ind (span l) := (red_fit l).ind
theorem isFree_iff (l : List (Row F n)) : isFree l ↔ Ind l := by
  have h1 := (lfree_ind (span l)).mpr (ind_span l)
  have hs : (lspan (span l)).length = (lspan l).length := Nat.le_antisymm
    (nodup_sub_len (lspan_nodup _) fun v hv => (mem_lspan l v).mpr ((span_mem l v).mp ((mem_lspan _ v).mp hv)))
    (nodup_sub_len (lspan_nodup _) fun v hv => (mem_lspan _ v).mpr ((span_mem l v).mpr ((mem_lspan l v).mp hv)))
  rw [← lfree_ind]
  unfold isFree lfree
  unfold lfree at h1
  rw [hs] at h1
  rw [h1]
  refine ⟨fun h => by rw [h], fun h => ?_⟩
  exact Nat.le_antisymm ((Nat.pow_le_pow_iff_right (by have := F.two; omega)).mp (Nat.le_of_eq h)) ((Nat.pow_le_pow_iff_right (by have := F.two; omega)).mp (Nat.le_of_eq h.symm))
/-- what is spanned, by its values at the pivots -/
theorem Fit.coef {tb : List (Row F n)} {pv : List (Fin n)} (h : Fit tb pv) {v : Row F n} (hv : InSp tb v) : Wk.comb tb (pv.map v) = v := by
  obtain ⟨c, hc, e⟩ := hv.coef
  have hc2 : c.length = pv.length := hc.trans h.len
  have : c = pv.map v := by
    apply List.ext_getElem
    · rw [List.length_map, hc2]
    · intro i h1 h2
      have hi : i < pv.length := by simpa using h2
      have := h.comb hc2 (c[i], pv[i]) (List.mem_iff_getElem.mpr ⟨i, by rw [List.length_zip]; omega, by simp⟩)
      rw [e] at this
      rw [List.getElem_map]
      exact this.symm
  rw [← this, e]
end
end Wk
/-! # WkM0 -/
set_option Elab.async false
set_option linter.all false
set_option maxRecDepth 100000
set_option maxHeartbeats 4000000
namespace Wk
theorem led_kernel {F : Fd} {n : Nat} (l : List (Row F n)) : Led (kernel l) := led_span _
end Wk
/-! # WkDd -/
set_option Elab.async false
set_option linter.all false
set_option maxRecDepth 100000
set_option maxHeartbeats 4000000
/-! The reduced table is the only one; kernels, relations. -/
namespace Wk
section
variable {F : Fd} {n k : Nat}
theorem asc_eq : ∀ {l m : List (Fin n)}, l.Pairwise (· < ·) → m.Pairwise (· < ·) → (∀ a, a ∈ l ↔ a ∈ m) → l = m
  | [], [], _, _, _ => rfl
  | [], b :: m, _, _, h => absurd ((h b).mpr (List.mem_cons_self ..)) List.not_mem_nil
  | a :: l, [], _, _, h => absurd ((h a).mp (List.mem_cons_self ..)) List.not_mem_nil
  | a :: l, b :: m, hl, hm, h => by
    obtain ⟨l1, l2⟩ := List.pairwise_cons.mp hl
    obtain ⟨m1, m2⟩ := List.pairwise_cons.mp hm
    have e : a = b := by
      rcases List.mem_cons.mp ((h a).mp (List.mem_cons_self ..)) with z | z
      · exact z
      · rcases List.mem_cons.mp ((h b).mpr (List.mem_cons_self ..)) with y | y
        · exact y.symm
        · exact absurd (m1 a z) (Nat.lt_asymm (l1 b y))
    subst e
    rw [asc_eq l2 m2 fun x => ⟨fun hx => ?_, fun hx => ?_⟩]
    · rcases List.mem_cons.mp ((h x).mp (List.mem_cons_of_mem _ hx)) with z | z
      · subst z; exact absurd (l1 x hx) (Nat.lt_irrefl _)
      · exact z
    · rcases List.mem_cons.mp ((h x).mpr (List.mem_cons_of_mem _ hx)) with z | z
      · subst z; exact absurd (m1 x hx) (Nat.lt_irrefl _)
      · exact z
theorem comb_zero_at (w : Row F n) (p : Fin n) : ∀ (tb : List (Row F n)) (pv : List (Fin n)), (∀ q ∈ tb.zip pv, q.1 p * w q.2 = 0) → comb tb (pv.map w) p = 0
  | [], _, _ => rfl
  | t :: tb, [], _ => by rw [List.map_nil, comb_nilR]; rfl
  | t :: tb, p' :: pv, h => by
    rw [List.map_cons, comb_cons]
    show t p * w p' + comb tb (pv.map w) p = 0
    rw [comb_zero_at w p tb pv fun q hq => h q (List.mem_cons_of_mem _ hq), h (t, p') (List.mem_cons_self ..)]
    grind
theorem Fit.piv_iff {tb : List (Row F n)} {pv : List (Fin n)} (h : Fit tb pv) (p : Fin n) : p ∈ pv ↔ ∃ w, InSp tb w ∧ w p ≠ 0 ∧ ∀ b, b < p → w b = 0 := by
  refine ⟨fun hp => ?_, ?_⟩
  · obtain ⟨t, ht⟩ := zip_of_memR h.len hp
    refine ⟨t, .gen (List.of_mem_zip ht).1, ?_, fun b hb => h.lead _ ht b hb⟩
    have this : t p = 1 := h.one _ ht
    intro z
    rw [z] at this
    exact e_zno this
  · rintro ⟨w, hw, h1, h2⟩
    apply Classical.byContradiction
    intro hn
    apply h1
    rw [← h.coef hw]
    refine comb_zero_at w p tb pv fun q hq => ?_
    have hm := (List.of_mem_zip (show (q.1, q.2) ∈ tb.zip pv from hq)).2
    have hne : q.2 ≠ p := fun z => hn (by rw [← z]; exact hm)
    rcases Nat.lt_or_gt_of_ne (fun z => hne (Fin.ext z)) with z | z
    · rw [h2 q.2 z]; grind
    · rw [h.lead q hq p z]; grind
theorem fit_unique {tb tb' : List (Row F n)} {pv pv' : List (Fin n)} (h : Fit tb pv) (h' : Fit tb' pv') (hs : ∀ v, InSp tb v ↔ InSp tb' v) : tb = tb' := by
  have e : pv = pv' := asc_eq h.asc h'.asc fun a => by
    rw [h.piv_iff, h'.piv_iff]
    exact ⟨fun ⟨w, h1, h2⟩ => ⟨w, (hs w).mp h1, h2⟩, fun ⟨w, h1, h2⟩ => ⟨w, (hs w).mpr h1, h2⟩⟩
  subst e
  apply List.ext_getElem
  · rw [h.len, h'.len]
  · intro i h1 h2
    have hi : i < pv.length := by rw [← h.len]; exact h1
    have z1 : (tb[i], pv[i]) ∈ tb.zip pv := List.mem_iff_getElem.mpr ⟨i, by rw [List.length_zip]; omega, by simp⟩
    have z2 : (tb'[i], pv[i]) ∈ tb'.zip pv := List.mem_iff_getElem.mpr ⟨i, by rw [List.length_zip]; omega, by simp⟩
    have s1 : InSp tb tb[i] := .gen (List.getElem_mem _)
    have s2 : InSp tb tb'[i] := (hs _).mpr (.gen (List.getElem_mem _))
    rw [← h.coef s1, ← h.coef s2]
    congr 1
    apply List.map_congr_left
    intro p hp
    by_cases e : p = pv[i]
    · rw [e, show tb[i] pv[i] = 1 from h.one _ z1, show tb'[i] pv[i] = 1 from h'.one _ z2]
    · rw [show tb[i] p = 0 from h.off _ z1 p hp e, show tb'[i] p = 0 from h'.off _ z2 p hp e]
theorem span_eq {l m : List (Row F n)} (h : ∀ v, InSp l v ↔ InSp m v) : span l = span m := fit_unique (red_fit l) (red_fit m) fun v => ((span_mem l v).trans (h v)).trans (span_mem m v).symm
/-! ### kernels -/
theorem ker_fold (a : Fin n) : ∀ (tb : List (Row F n)) (pv : List (Fin n)) (row : Row F n), tb.length = pv.length → pv.Nodup →
    (∀ q ∈ tb.zip pv, ((tb.zip pv).foldl (fun row p => rset row p.2 (-(p.1 a))) row) q.2 = -(q.1 a)) ∧ ∀ b, b ∉ pv → ((tb.zip pv).foldl (fun row p => rset row p.2 (-(p.1 a))) row) b = row b
  | [], [], row, _, _ => ⟨fun q hq => (by simp at hq), fun b _ => rfl⟩
  | t :: tb, p :: pv, row, hl, nd => by
    obtain ⟨n1, n2⟩ := List.nodup_cons.mp nd
    obtain ⟨g1, g2⟩ := ker_fold a tb pv (rset row p (-(t a))) (by simpa using hl) n2
    rw [List.zip_cons_cons, List.foldl_cons]
    refine ⟨fun q hq => ?_, fun b hb => ?_⟩
    · rcases List.mem_cons.mp hq with e | hq
      · subst e
        show (List.foldl _ (rset row p (-(t a))) (tb.zip pv)) p = -(t a)
        rw [g2 p n1]
        unfold rset
        rw [if_pos rfl]
      · exact g1 q hq
    · show (List.foldl _ (rset row p (-(t a))) (tb.zip pv)) b = row b
      rw [g2 b fun z => hb (List.mem_cons_of_mem _ z)]
      unfold rset
      rw [if_neg fun z => hb (by rw [z]; exact List.mem_cons_self ..)]
  | [], _ :: _, _, h, _ => by simp at h
  | _ :: _, [], _, h, _ => by simp at h
theorem ker_at (l : List (Row F n)) {a : Fin n} (ha : a ∉ (red l).piv) : (∀ q ∈ (red l).table.zip (red l).piv, kerRow (red l) a q.2 = -(q.1 a)) ∧ ∀ b, b ∉ (red l).piv → kerRow (red l) a b = (runit a : Row F n) b := ker_fold a _ _ _ (red_fit l).len (asc_nodup (red_fit l).asc)
theorem dot_InSp {l : List (Row F n)} {v : Row F n} (h : ∀ r ∈ l, dot r v = 0) {w : Row F n} (hw : InSp l w) : dot w v = 0 := by
  induction hw with
  | zero => exact dot_zeroL v
  | step _ hr c ih =>
    rw [dot_addL, dot_sclL, ih, h _ hr]
    grind
theorem dot_InSpR {l : List (Row F n)} {w : Row F n} (h : ∀ r ∈ l, dot w r = 0) {v : Row F n} (hv : InSp l v) : dot w v = 0 := by
  rw [dot_comm]
  exact dot_InSp (fun r hr => by rw [dot_comm]; exact h r hr) hv
theorem dot_tab (l : List (Row F n)) (v : Row F n) : (∀ r ∈ l, dot r v = 0) ↔ ∀ t ∈ (red l).table, dot t v = 0 :=
  ⟨fun h t ht => dot_InSp h ((span_mem l t).mp (.gen ht)), fun h r hr => dot_InSp h ((span_mem l r).mpr (.gen hr))⟩
theorem unit_same (a : Fin n) : (runit a : Row F n) a = 1 := if_pos rfl
theorem unit_ne {a b : Fin n} (h : b ≠ a) : (runit a : Row F n) b = 0 := if_neg h
theorem ker_dot (l : List (Row F n)) {a : Fin n} (ha : a ∉ (red l).piv) : ∀ t ∈ (red l).table, dot t (kerRow (red l) a) = 0 := fun t ht => by
  obtain ⟨p, hp⟩ := zip_of_mem (red_fit l).len ht
  obtain ⟨k1, k2⟩ := ker_at l ha
  have hpm := (List.of_mem_zip hp).2
  have hap : a ≠ p := fun z => ha (by rw [z]; exact hpm)
  rw [dot_sm]
  show lsm (fun i => t i * kerRow (red l) a i) (List.finRange n) = 0
  rw [lsm_congr (g := fun b => (if b = a then t b else 0) + (if b = p then -(t a) else 0)) fun b _ => ?_, lsm_add, lsm_single t a _ (fin_nodup n) (List.mem_finRange a), lsm_single (fun _ => -(t a)) p _ (fin_nodup n) (List.mem_finRange p)]
  · grind
  · by_cases hb : b ∈ (red l).piv
    · have hba : b ≠ a := fun z => ha (by rw [← z]; exact hb)
      rw [if_neg hba]
      by_cases hbp : b = p
      · subst hbp
        have h1 := (red_fit l).one _ hp
        have h2 := k1 _ hp
        rw [if_pos rfl, show t b = 1 from h1, show kerRow (red l) a b = -(t a) from h2]
        grind
      · rw [if_neg hbp, show t b = 0 from (red_fit l).off _ hp b hb hbp]
        grind
    · have hbp : b ≠ p := fun z => hb (by rw [z]; exact hpm)
      rw [if_neg hbp, k2 b hb]
      by_cases hba : b = a
      · subst hba
        rw [if_pos rfl, unit_same]
        grind
      · rw [if_neg hba, unit_ne hba]
        grind
theorem kernel_mem (l : List (Row F n)) (v : Row F n) : InSp (kernel l) v ↔ ∀ r ∈ l, dot r v = 0 := by
  unfold kernel
  rw [span_mem, dot_tab]
  refine ⟨fun h t ht => ?_, fun h => ?_⟩
  · refine dot_InSpR (fun r hr => ?_) h
    obtain ⟨a, ha, rfl⟩ := List.mem_map.mp hr
    exact ker_dot l (by simpa using (List.mem_filter.mp ha).2) t ht
  · generalize hfree : (List.finRange n).filter (fun a => !decide (a ∈ (red l).piv)) = free
    have hfr : ∀ a, a ∈ free ↔ a ∉ (red l).piv := fun a => by rw [← hfree, List.mem_filter]; simp
    have hnd : free.Nodup := by rw [← hfree]; exact List.Pairwise.filter _ (fin_nodup n)
    have hu := comb_at (F := F) (P := free) (free.map fun a => kerRow (red l) a) free (free.map v) (by simp) (by simp) (fun q hq => ?_) (fun q hq p hp hne => ?_) (fun _ h => h) hnd
    · have hub : ∀ a, a ∈ free → comb (free.map fun a => kerRow (red l) a) (free.map v) a = v a := fun a ha => by
        obtain ⟨i, hi, e⟩ := List.mem_iff_getElem.mp ha
        have := hu.1 (v a, a) (List.mem_iff_getElem.mpr ⟨i, by rw [List.length_zip, List.length_map]; omega, by simp [e]⟩)
        exact this
      have hin : InSp (free.map fun a => kerRow (red l) a) (comb (free.map fun a => kerRow (red l) a) (free.map v)) := InSp.comb _ fun r hr => hr
      generalize comb (free.map fun a => kerRow (red l) a) (free.map v) = u at hub hin
      have hd : ∀ t ∈ (red l).table, dot t u = 0 := fun t ht => dot_InSpR (fun r hr => by
        obtain ⟨a, ha, rfl⟩ := List.mem_map.mp hr
        exact ker_dot l ((hfr a).mp ha) t ht) hin
      have e : v = u := by
        have hw : ∀ b, radd v (rscl u (-1)) b = 0 := fun b => by
          by_cases hb : b ∈ (red l).piv
          · obtain ⟨t, ht⟩ := zip_of_memR (red_fit l).len hb
            have htm := (List.of_mem_zip ht).1
            have h0 : dot t (radd v (rscl u (-1))) = 0 := by
              rw [dot_addR, dot_sclR, h t htm, hd t htm]
              grind
            rw [dot_sm] at h0
            have h0 : lsm (fun c => t c * radd v (rscl u (-1)) c) (List.finRange n) = 0 := h0
            rw [lsm_congr (g := fun c => if c = b then radd v (rscl u (-1)) c else 0) fun c _ => ?_, lsm_single (fun c => radd v (rscl u (-1)) c) b _ (fin_nodup n) (List.mem_finRange b)] at h0
            · exact h0
            · by_cases hcb : c = b
              · subst hcb
                rw [if_pos rfl, show t c = 1 from (red_fit l).one _ ht]
                grind
              · rw [if_neg hcb]
                by_cases hc : c ∈ (red l).piv
                · rw [show t c = 0 from (red_fit l).off _ ht c hc hcb]
                  grind
                · have : radd v (rscl u (-1)) c = 0 := by
                    show v c + u c * -1 = 0
                    rw [hub c ((hfr c).mpr hc)]
                    grind
                  rw [this]
                  grind
          · show v b + u b * -1 = 0
            rw [hub b ((hfr b).mpr hb)]
            grind
        funext b
        have : v b + u b * -1 = 0 := hw b
        grind
      rw [e]
      exact hin
    · have hq2 : q.2 ∈ free := (List.of_mem_zip (show (q.1, q.2) ∈ (free.map fun a => kerRow (red l) a).zip free from hq)).2
      obtain ⟨i, hi, e⟩ := List.mem_iff_getElem.mp hq
      have hi2 : i < free.length := by rw [List.length_zip, List.length_map] at hi; omega
      have e1 : q.1 = kerRow (red l) q.2 := by rw [← e]; simp
      rw [e1, (ker_at l ((hfr _).mp hq2)).2 _ ((hfr _).mp hq2), unit_same]
    · have hq2 : q.2 ∈ free := (List.of_mem_zip (show (q.1, q.2) ∈ (free.map fun a => kerRow (red l) a).zip free from hq)).2
      obtain ⟨i, hi, e⟩ := List.mem_iff_getElem.mp hq
      have hi2 : i < free.length := by rw [List.length_zip, List.length_map] at hi; omega
      have e1 : q.1 = kerRow (red l) q.2 := by rw [← e]; simp
      rw [e1, (ker_at l ((hfr _).mp hq2)).2 _ ((hfr _).mp hp), unit_ne hne]
theorem comb_pt : ∀ {k : Nat} (l : List (Row F n)) (c : Row F k) (h : l.length = k) (j : Fin n), comb l (List.ofFn c) j = sm fun i => (l[i.val]'(by omega)) j * c i
  | 0, [], c, _, j => rfl
  | k + 1, r :: l, c, h, j => by
    have hl : l.length = k := by simpa using h
    rw [List.ofFn_succ, comb_cons]
    show r j * c 0 + comb l (List.ofFn fun i => c i.succ) j = _
    rw [comb_pt l (fun i => c i.succ) hl j]
    unfold sm
    rw [List.finRange_succ]
    show _ = r j * c 0 + lsm _ ((List.finRange k).map Fin.succ)
    rw [lsm_map]
    rfl
  | 0, _ :: _, _, h, _ => by simp at h
  | _ + 1, [], _, h, _ => by simp at h
theorem relations_mem (l : List (Row F n)) (k : Nat) (h : l.length = k) (c : Row F k) : InSp (relations l k h) c ↔ comb l (List.ofFn c) = rzero := by
  unfold relations
  rw [kernel_mem]
  refine ⟨fun hk => ?_, fun hk r hr => ?_⟩
  · funext j
    have := hk (fun i => (l[i.val]'(by omega)) j) (List.mem_map.mpr ⟨j, List.mem_finRange j, rfl⟩)
    rw [dot_sm] at this
    rw [comb_pt l c h j]
    exact this
  · obtain ⟨j, _, rfl⟩ := List.mem_map.mp hr
    rw [dot_sm, ← comb_pt l c h j, hk]
    rfl
end
end Wk
/-! # WkE1 -/
set_option Elab.async false
set_option linter.all false
set_option maxRecDepth 100000
set_option maxHeartbeats 4000000
/-! rest, holds, complements, weights in the radical. -/
namespace Wk
section
variable {F : Fd} {n k : Nat}
theorem lead1_eq {r : Row F n} {p : Fin n} (h1 : r p = 1) (h0 : ∀ b, b < p → r b = 0) : lead1 r = some p := by
  unfold lead1
  rw [List.find?_eq_some_iff_append]
  obtain ⟨pre, post, e⟩ := List.append_of_mem (List.mem_finRange p)
  refine ⟨by simpa using h1, pre, post, e, fun b hb => ?_⟩
  have := (fin_split e).2 b hb
  rw [h0 b this]
  simp
  exact e_zno
theorem pivs_fit : ∀ {tb : List (Row F n)} {pv : List (Fin n)}, tb.length = pv.length → (∀ q ∈ tb.zip pv, q.1 q.2 = 1) → (∀ q ∈ tb.zip pv, ∀ b, b < q.2 → q.1 b = 0) → pivs tb = pv
  | [], [], _, _, _ => rfl
  | t :: tb, p :: pv, hl, h1, h0 => by
    have e : lead1 t = some p := lead1_eq (h1 (t, p) (List.mem_cons_self ..)) (h0 (t, p) (List.mem_cons_self ..))
    have ih := pivs_fit (tb := tb) (pv := pv) (by simpa using hl) (fun q hq => h1 q (List.mem_cons_of_mem _ hq)) (fun q hq => h0 q (List.mem_cons_of_mem _ hq))
    unfold pivs at ih ⊢
    rw [List.filterMap_cons_some e, ih]
  | [], _ :: _, h, _, _ => by simp at h
  | _ :: _, [], h, _, _ => by simp at h
theorem Fit.pivs {tb : List (Row F n)} {pv : List (Fin n)} (h : Fit tb pv) : pivs tb = pv := pivs_fit h.len h.one h.lead
theorem rest_fold {P : List (Fin n)} {tb0 : List (Row F n)} : ∀ (tb : List (Row F n)) (pv : List (Fin n)) (v : Row F n), tb.length = pv.length → (∀ q ∈ tb.zip pv, q.1 q.2 = 1) → (∀ q ∈ tb.zip pv, ∀ p ∈ P, p ≠ q.2 → q.1 p = 0) → (∀ p ∈ pv, p ∈ P) → pv.Nodup → (∀ t ∈ tb, t ∈ tb0) →
    (∀ p ∈ pv, ((tb.zip pv).foldl (fun v p => cleared v p.1 p.2) v) p = 0) ∧ (∀ p ∈ P, p ∉ pv → ((tb.zip pv).foldl (fun v p => cleared v p.1 p.2) v) p = v p) ∧ ∃ s, InSp tb0 s ∧ v = radd ((tb.zip pv).foldl (fun v p => cleared v p.1 p.2) v) s
  | [], [], v, _, _, _, _, _, _ => ⟨fun p hp => absurd hp List.not_mem_nil, fun p _ _ => rfl, rzero, .zero, (radd_zero v).symm⟩
  | t :: tb, p :: pv, v, hl, h1, hf, hs, nd, ht => by
    obtain ⟨n1, n2⟩ := List.nodup_cons.mp nd
    have t1 : t p = 1 := h1 (t, p) (List.mem_cons_self ..)
    have t0 : ∀ p' ∈ P, p' ≠ p → t p' = 0 := fun p' h h' => hf (t, p) (List.mem_cons_self ..) p' h h'
    obtain ⟨g1, g2, s, g3, g4⟩ := rest_fold tb pv (cleared v t p) (by simpa using hl) (fun q hq => h1 q (List.mem_cons_of_mem _ hq)) (fun q hq => hf q (List.mem_cons_of_mem _ hq)) (fun q hq => hs q (List.mem_cons_of_mem _ hq)) n2 (fun q hq => ht q (List.mem_cons_of_mem _ hq))
    rw [List.zip_cons_cons, List.foldl_cons]
    show (∀ q ∈ p :: pv, (List.foldl (fun v p => cleared v p.1 p.2) (cleared v t p) (tb.zip pv)) q = 0) ∧ _
    refine ⟨fun q hq => ?_, fun q hq hn => ?_, radd s (rscl t (v p)), g3.add ((InSp.gen (ht t (List.mem_cons_self ..))).scl _), ?_⟩
    · rcases List.mem_cons.mp hq with e | hq
      · subst e
        rw [g2 q (hs q (List.mem_cons_self ..)) n1, cleared_at, t1]
        grind
      · exact g1 q hq
    · have hqp : q ≠ p := fun z => hn (by rw [z]; exact List.mem_cons_self ..)
      have hq2 : q ∉ pv := fun z => hn (List.mem_cons_of_mem _ z)
      show (List.foldl (fun v p => cleared v p.1 p.2) (cleared v t p) (tb.zip pv)) q = v q
      rw [g2 q hq hq2, cleared_at, t0 q hq hqp]
      grind
    · show v = radd (List.foldl (fun v p => cleared v p.1 p.2) (cleared v t p) (tb.zip pv)) (radd s (rscl t (v p)))
      rw [← radd_assoc, ← g4]
      funext i
      show v i = v i + t i * -(v p) + t i * v p
      grind
  | [], _ :: _, _, h, _, _, _, _, _ => by simp at h
  | _ :: _, [], _, h, _, _, _, _, _ => by simp at h
theorem Fit.rest {tb : List (Row F n)} {pv : List (Fin n)} (h : Fit tb pv) (v : Row F n) : (∀ p ∈ pv, rest tb v p = 0) ∧ ∃ s, InSp tb s ∧ v = radd (Wk.rest tb v) s := by
  have := rest_fold (tb0 := tb) tb pv v h.len h.one h.off (fun _ h => h) (asc_nodup h.asc) (fun _ h => h)
  unfold Wk.rest
  rw [h.pivs]
  exact ⟨this.1, this.2.2⟩
theorem Fit.zero {tb : List (Row F n)} {pv : List (Fin n)} (h : Fit tb pv) {w : Row F n} (hw : InSp tb w) (h0 : ∀ p ∈ pv, w p = 0) : w = rzero := by
  rw [← h.coef hw]
  have e : pv.map w = List.replicate pv.length 0 := by
    apply List.ext_getElem
    · simp
    · intro i h1 h2
      rw [List.getElem_map, List.getElem_replicate]
      exact h0 _ (List.getElem_mem _)
  rw [e, comb_zero]
theorem Fit.rest_zero {tb : List (Row F n)} {pv : List (Fin n)} (h : Fit tb pv) (v : Row F n) : Wk.rest tb v = rzero ↔ InSp tb v := by
  obtain ⟨h1, s, h2, h3⟩ := h.rest v
  refine ⟨fun z => ?_, fun hv => ?_⟩
  · rw [z, zero_radd] at h3
    rw [h3]
    exact h2
  · refine h.zero ?_ h1
    have e : Wk.rest tb v = radd v (rscl s (-1)) := by
      funext i
      have := congrFun h3 i
      have : v i = Wk.rest tb v i + s i := this
      show Wk.rest tb v i = v i + s i * -1
      grind
    rw [e]
    exact hv.add (h2.scl _)
theorem holds_iff (l : List (Row F n)) (v : Row F n) : holds (span l) v = true ↔ InSp l v := by
  rw [← span_mem]
  rw [← (show rest (span l) v = rzero ↔ InSp (span l) v from (red_fit l).rest_zero v)]
  unfold holds
  rw [List.all_eq_true]
  refine ⟨fun h => funext fun i => show rest (span l) v i = 0 from of_decide_eq_true (h i (List.mem_finRange i)), fun h i _ => decide_eq_true ?_⟩
  have : Wk.rest (span l) v = rzero := h
  rw [this]
  rfl
theorem wir_mem (S : Spc) (l : List S.R) (k : Nat) (h : l.length = k) (c : Row S.F k) : InSp (S.wir l k h) c ↔ InSp S.radical (comb l (List.ofFn c)) := by
  unfold Spc.wir
  rw [relations_mem]
  have fit : ∃ pv, Fit S.radical pv := ⟨_, red_fit _⟩
  obtain ⟨pv, fit⟩ := fit
  have key : ∀ (l : List S.R) (c : List (El S.F)), (∀ p ∈ pv, comb (l.map (rest S.radical)) c p = 0) ∧ ∃ s, InSp S.radical s ∧ comb l c = radd (comb (l.map (rest S.radical)) c) s := by
    intro l
    induction l with
    | nil => intro c; exact ⟨fun p _ => rfl, rzero, .zero, by rw [radd_zero]; rfl⟩
    | cons r l ih =>
      intro c
      cases c with
      | nil => rw [comb_nilR, comb_nilR]; exact ⟨fun p _ => rfl, rzero, .zero, by rw [radd_zero]⟩
      | cons x c =>
        obtain ⟨h1, s, h2, h3⟩ := ih c
        obtain ⟨g1, t, g2, g3⟩ := fit.rest r
        rw [List.map_cons, comb_cons, comb_cons]
        refine ⟨fun p hp => ?_, radd s (rscl t x), h2.add (g2.scl x), ?_⟩
        · show rest S.radical r p * x + comb (l.map (rest S.radical)) c p = 0
          rw [g1 p hp, h1 p hp]
          grind
        · funext i
          have e1 := congrFun h3 i
          have e2 := congrFun g3 i
          have e1 : comb l c i = comb (l.map (rest S.radical)) c i + s i := e1
          have e2 : r i = rest S.radical r i + t i := e2
          show r i * x + comb l c i = rest S.radical r i * x + comb (l.map (rest S.radical)) c i + (s i + t i * x)
          rw [e1]
          grind
  obtain ⟨h1, s, h2, h3⟩ := key l (List.ofFn c)
  refine ⟨fun z => by rw [h3, z, zero_radd]; exact h2, fun hv => fit.zero ?_ h1⟩
  have e : comb (l.map (rest S.radical)) (List.ofFn c) = radd (comb l (List.ofFn c)) (rscl s (-1)) := by
    funext i
    have e1 := congrFun h3 i
    have e1 : comb l (List.ofFn c) i = comb (l.map (rest S.radical)) (List.ofFn c) i + s i := e1
    show _ = comb l (List.ofFn c) i + s i * -1
    grind
  rw [e]
  exact hv.add (h2.scl _)
/-- equal radical weights: the same combinations lie in the radical -/
theorem wir_eq (S : Spc) (us vs : List S.R) (k : Nat) (hu : us.length = k) (hv : vs.length = k) : S.wir us k hu = S.wir vs k hv ↔ ∀ c : Row S.F k, InSp S.radical (comb us (List.ofFn c)) ↔ InSp S.radical (comb vs (List.ofFn c)) := by
  refine ⟨fun h c => by rw [← wir_mem S us k hu, ← wir_mem S vs k hv, h], fun h => ?_⟩
  have e : ∀ c, InSp (S.wir us k hu) c ↔ InSp (S.wir vs k hv) c := fun c => by rw [wir_mem, wir_mem]; exact h c
  unfold Spc.wir relations kernel at e ⊢
  exact span_eq fun v => by rw [← span_mem, e v, span_mem]
end
end Wk
/-! # WkE2 -/
set_option Elab.async false
set_option linter.all false
set_option maxRecDepth 100000
set_option maxHeartbeats 4000000
/-! The forms. -/
namespace Wk
def barB (F : Fd) : Bool := allE F fun a => decide (ebar (ebar a) = a) && allE F fun b => decide (ebar (a + b) = ebar a + ebar b) && decide (ebar (a * b) = ebar a * ebar b)
theorem barAll (F : Fd) : barB F = true := by
  obtain ⟨q, ok⟩ := F
  rcases ok with rfl | rfl | rfl | rfl | rfl | rfl
  · decide +kernel
  · decide +kernel
  · decide +kernel
  · decide +kernel
  · decide +kernel
  · decide +kernel
section
variable {F : Fd}
theorem bar_bar (a : El F) : ebar (ebar a) = a := by
  have h := allE_spec (barAll F) a
  simp only [Bool.and_eq_true, decide_eq_true_eq] at h
  exact h.1
theorem bar_add (a b : El F) : ebar (a + b) = ebar a + ebar b := by
  have h := allE_spec (barAll F) a
  simp only [Bool.and_eq_true, decide_eq_true_eq] at h
  have h2 := allE_spec h.2 b
  simp only [Bool.and_eq_true, decide_eq_true_eq] at h2
  exact h2.1
theorem bar_mul (a b : El F) : ebar (a * b) = ebar a * ebar b := by
  have h := allE_spec (barAll F) a
  simp only [Bool.and_eq_true, decide_eq_true_eq] at h
  have h2 := allE_spec h.2 b
  simp only [Bool.and_eq_true, decide_eq_true_eq] at h2
  exact h2.2
theorem bar_zero : ebar (0 : El F) = 0 := by
  have h := bar_add (0 : El F) 0
  grind
theorem bar_one : ebar (1 : El F) = 1 := by
  have h := bar_mul (1 : El F) (ebar 1)
  have e : (1 : El F) * ebar 1 = ebar 1 := by grind
  rw [e, bar_bar] at h
  grind
theorem bar_neg (a : El F) : ebar (-a) = -(ebar a) := by
  have h := bar_add a (-a)
  have e : a + -a = 0 := by grind
  rw [e, bar_zero] at h
  grind
end
section
variable (S : Spc)
def Spc.sg (c : El S.F) : El S.F := if S.kind = .herm then ebar c else c
theorem Spc.sg_add (a b : El S.F) : S.sg (a + b) = S.sg a + S.sg b := by unfold Spc.sg; split; exact bar_add a b; rfl
theorem Spc.sg_mul (a b : El S.F) : S.sg (a * b) = S.sg a * S.sg b := by unfold Spc.sg; split; exact bar_mul a b; rfl
theorem Spc.sg_zero : S.sg 0 = 0 := by unfold Spc.sg; split; exact bar_zero; rfl
theorem Spc.sg_one : S.sg 1 = 1 := by unfold Spc.sg; split; exact bar_one; rfl
theorem Spc.sg_sg (a : El S.F) : S.sg (S.sg a) = a := by unfold Spc.sg; split; exact bar_bar a; rfl
theorem Spc.sg_neg (a : El S.F) : S.sg (-a) = -(S.sg a) := by unfold Spc.sg; split; exact bar_neg a; rfl
variable {S}
theorem facing_sm (y : S.R) (i : Fin S.n) : S.facing y i = sm fun j => S.gram i j * S.sg (y j) := by
  unfold Spc.facing
  rw [dot_sm]
  rfl
theorem facing_add (y z : S.R) : S.facing (radd y z) = radd (S.facing y) (S.facing z) := by
  funext i
  show S.facing (radd y z) i = S.facing y i + S.facing z i
  rw [facing_sm, facing_sm, facing_sm]
  unfold sm
  rw [← lsm_add]
  apply lsm_congr
  intro j _
  show S.gram i j * S.sg (y j + z j) = _
  rw [S.sg_add]
  grind
theorem facing_scl (y : S.R) (c : El S.F) : S.facing (rscl y c) = rscl (S.facing y) (S.sg c) := by
  funext i
  show S.facing (rscl y c) i = S.facing y i * S.sg c
  rw [facing_sm, facing_sm]
  unfold sm
  rw [← lsm_mul]
  apply lsm_congr
  intro j _
  show S.gram i j * S.sg (y j * c) = _
  rw [S.sg_mul]
  grind
theorem prod_addL (x y z : S.R) : S.prod (radd x y) z = S.prod x z + S.prod y z := dot_addL _ _ _
theorem prod_sclL (x z : S.R) (c : El S.F) : S.prod (rscl x c) z = S.prod x z * c := dot_sclL _ _ _
theorem prod_addR (x y z : S.R) : S.prod x (radd y z) = S.prod x y + S.prod x z := by unfold Spc.prod; rw [facing_add, dot_addR]
theorem prod_sclR (x y : S.R) (c : El S.F) : S.prod x (rscl y c) = S.prod x y * S.sg c := by unfold Spc.prod; rw [facing_scl, dot_sclR]
theorem prod_zeroL (y : S.R) : S.prod rzero y = 0 := dot_zeroL _
theorem prod_zeroR (x : S.R) : S.prod x rzero = 0 := by
  have h := prod_sclR x rzero 0
  rw [rscl_zero, S.sg_zero] at h
  grind
theorem prod_sm (x y : S.R) : S.prod x y = sm fun i => sm fun j => x i * S.gram i j * S.sg (y j) := by
  unfold Spc.prod
  rw [dot_sm]
  apply lsm_congr
  intro i _
  rw [facing_sm]
  show x i * lsm _ _ = lsm _ _
  rw [← lsm_mulL]
  apply lsm_congr
  intro j _
  grind
/-- the form turned about -/
def Spc.sw (S : Spc) (c : El S.F) : El S.F := match S.kind with | .alt => -c | .quad => c | .herm => ebar c
theorem sw_add (a b : El S.F) : S.sw (a + b) = S.sw a + S.sw b := by
  unfold Spc.sw
  split
  · grind
  · rfl
  · exact bar_add a b
theorem sw_zero : S.sw 0 = 0 := by
  unfold Spc.sw
  split
  · grind
  · rfl
  · exact bar_zero
theorem lsm_sw {A : Type} (f : A → El S.F) : ∀ l : List A, S.sw (lsm f l) = lsm (fun a => S.sw (f a)) l
  | [] => sw_zero
  | a :: l => by
    show S.sw (f a + lsm f l) = S.sw (f a) + lsm (fun a => S.sw (f a)) l
    rw [sw_add, lsm_sw f l]
theorem gram_sw (hS : S.ok) (i j : Fin S.n) : S.gram j i = S.sw (S.gram i j) := by
  have hf := hS.form
  unfold Spc.formOk at hf
  unfold Spc.sw Spc.gram
  cases hk : S.kind with
  | alt =>
    rw [hk] at hf
    simp only [reduceCtorEq, if_false]
    exact hf.2 j i
  | quad =>
    simp only [if_true]
    grind
  | herm =>
    rw [hk] at hf
    simp only [reduceCtorEq, if_false]
    exact hf j i
theorem prod_sw (hS : S.ok) (x y : S.R) : S.prod y x = S.sw (S.prod x y) := by
  rw [prod_sm, prod_sm]
  unfold sm
  rw [lsm_swap, lsm_sw]
  apply lsm_congr
  intro i _
  rw [lsm_sw]
  apply lsm_congr
  intro j _
  rw [gram_sw hS i j]
  unfold Spc.sw Spc.sg
  cases hk : S.kind with
  | alt => simp only [reduceCtorEq, if_false]; grind
  | quad => simp only [reduceCtorEq, if_false]; grind
  | herm =>
    simp only [if_true]
    rw [bar_mul, bar_mul, bar_bar]
    grind
/-! ### values -/
def Spc.tr (S : Spc) (c : El S.F) : El S.F := match S.kind with | .alt => 0 | .quad => c | .herm => c + ebar c
def Spc.nm (S : Spc) (c : El S.F) : El S.F := match S.kind with | .alt => 0 | .quad => c * c | .herm => c * ebar c
theorem value_quad (hk : S.kind = .quad) (x : S.R) : S.value x = sm fun i => sm fun j => x i * S.mat i j * x j := by
  unfold Spc.value
  rw [hk]
  show (List.finRange S.n).foldl (fun t i => t + x i * dot (S.mat i) x) 0 = _
  rw [foldl_lsm]
  have e : lsm (fun i => x i * dot (S.mat i) x) (List.finRange S.n) = sm fun i => sm fun j => x i * S.mat i j * x j := by
    apply lsm_congr
    intro i _
    rw [dot_sm]
    show x i * lsm _ _ = lsm _ _
    rw [← lsm_mulL]
    apply lsm_congr
    intro j _
    grind
  rw [e]
  grind
theorem value_alt (hk : S.kind = .alt) (x : S.R) : S.value x = 0 := by unfold Spc.value; rw [hk]
theorem value_herm (hk : S.kind = .herm) (x : S.R) : S.value x = S.prod x x := by unfold Spc.value; rw [hk]
theorem prod_quad (hk : S.kind = .quad) (x y : S.R) : S.prod x y = sm fun i => sm fun j => x i * (S.mat i j + S.mat j i) * y j := by
  rw [prod_sm]
  apply lsm_congr
  intro i _
  apply lsm_congr
  intro j _
  unfold Spc.gram Spc.sg
  rw [hk]
  simp
theorem value_add (hS : S.ok) (x y : S.R) : S.value (radd x y) = S.value x + S.value y + S.tr (S.prod x y) := by
  cases hk : S.kind with
  | alt =>
    rw [value_alt hk, value_alt hk, value_alt hk]
    unfold Spc.tr
    rw [hk]
    show (0 : El S.F) = 0 + 0 + 0
    grind
  | quad =>
    rw [value_quad hk, value_quad hk, value_quad hk]
    unfold Spc.tr
    rw [hk]
    show _ = _ + _ + S.prod x y
    rw [prod_quad hk]
    have e : (sm fun i => sm fun j => x i * (S.mat i j + S.mat j i) * y j) = (sm fun i => sm fun j => x i * S.mat i j * y j) + sm fun i => sm fun j => y i * S.mat i j * x j := by
      have e2 : (sm fun i => sm fun j => y i * S.mat i j * x j) = sm fun i => sm fun j => y j * S.mat j i * x i := lsm_swap (fun i j => y i * S.mat i j * x j) _ _
      rw [e2]
      unfold sm
      rw [← lsm_add]
      apply lsm_congr
      intro i _
      rw [← lsm_add]
      apply lsm_congr
      intro j _
      grind
    rw [e]
    unfold sm
    rw [← lsm_add, ← lsm_add, ← lsm_add]
    apply lsm_congr
    intro i _
    rw [← lsm_add, ← lsm_add, ← lsm_add]
    apply lsm_congr
    intro j _
    show (x i + y i) * S.mat i j * (x j + y j) = _
    grind
  | herm =>
    rw [value_herm hk, value_herm hk, value_herm hk, prod_addL, prod_addR, prod_addR, prod_sw hS x y]
    unfold Spc.tr Spc.sw
    rw [hk]
    show _ = _ + _ + (S.prod x y + ebar (S.prod x y))
    grind
theorem value_scl (x : S.R) (c : El S.F) : S.value (rscl x c) = S.value x * S.nm c := by
  cases hk : S.kind with
  | alt =>
    rw [value_alt hk, value_alt hk]
    grind
  | quad =>
    rw [value_quad hk, value_quad hk]
    unfold Spc.nm
    rw [hk]
    show _ = _ * (c * c)
    unfold sm
    rw [← lsm_mul]
    apply lsm_congr
    intro i _
    rw [← lsm_mul]
    apply lsm_congr
    intro j _
    show x i * c * S.mat i j * (x j * c) = _
    grind
  | herm =>
    rw [value_herm hk, value_herm hk, prod_sclL, prod_sclR]
    unfold Spc.nm Spc.sg
    rw [hk]
    simp only [if_true]
    grind
theorem value_zero : S.value rzero = 0 := by
  have h := value_scl (S := S) rzero 0
  rw [rscl_zero] at h
  rw [h]
  unfold Spc.nm
  split <;> grind
end
end Wk
/-! # WkE3 -/
set_option Elab.async false
set_option linter.all false
set_option maxRecDepth 100000
set_option maxHeartbeats 4000000
/-! The law's forms are the program's; the radical; restricted forms. -/
namespace Wk
section
variable {S : Spc}
theorem foldl_foldl_lsm {F : Fd} {A B : Type} (f : A → B → El F) (m : A → List B) : ∀ (l : List A) (z : El F), l.foldl (fun t i => (m i).foldl (fun t j => t + f i j) t) z = z + lsm (fun i => lsm (f i) (m i)) l
  | [], z => by show z = z + 0; grind
  | a :: l, z => by
    rw [List.foldl_cons, foldl_foldl_lsm f m l, foldl_lsm]
    show z + lsm (f a) (m a) + _ = z + (lsm (f a) (m a) + _)
    grind
theorem lprod_eq (x y : S.R) : S.lprod x y = S.prod x y := by
  unfold Spc.lprod
  have e : (fun t i => (List.finRange S.n).foldl (fun t j => S.lstep x y t i j) t) = fun (t : El S.F) (i : Fin S.n) => (List.finRange S.n).foldl (fun t j => t + (if S.kind = .quad then S.mat i j * (x i * y j + x j * y i) else S.mat i j * (x i * S.sg (y j)))) t := by
    funext t i
    congr 1
    funext t j
    unfold Spc.lstep Spc.sg
    split
    · rename_i h
      rw [h]
      split <;> grind
    · split <;> rfl
  rw [e, foldl_foldl_lsm]
  by_cases hk : S.kind = .quad
  · rw [prod_quad hk]
    simp only [hk, if_true]
    have e2 : (sm fun i => sm fun j => x i * (S.mat i j + S.mat j i) * y j) = (sm fun i => sm fun j => x i * S.mat i j * y j) + sm fun i => sm fun j => x j * S.mat i j * y i := by
      have e3 : (sm fun i => sm fun j => x j * S.mat i j * y i) = sm fun i => sm fun j => x i * S.mat j i * y j := lsm_swap (fun i j => x j * S.mat i j * y i) _ _
      rw [e3]
      unfold sm
      rw [← lsm_add]
      apply lsm_congr
      intro i _
      rw [← lsm_add]
      apply lsm_congr
      intro j _
      grind
    rw [e2]
    unfold sm
    rw [← lsm_add]
    have e4 : ∀ z : El S.F, (0 : El S.F) + z = z := fun z => by grind
    rw [e4]
    apply lsm_congr
    intro i _
    rw [← lsm_add]
    apply lsm_congr
    intro j _
    grind
  · rw [prod_sm]
    have e4 : ∀ z : El S.F, (0 : El S.F) + z = z := fun z => by grind
    rw [e4]
    unfold sm
    apply lsm_congr
    intro i _
    apply lsm_congr
    intro j _
    rw [if_neg hk]
    unfold Spc.gram
    rw [if_neg hk]
    grind
theorem lsm_filter {F : Fd} {A : Type} (f : A → El F) (p : A → Bool) : ∀ l : List A, (∀ a ∈ l, p a = false → f a = 0) → lsm f (l.filter p) = lsm f l
  | [], _ => rfl
  | a :: l, h => by
    have ih := lsm_filter f p l fun b hb => h b (List.mem_cons_of_mem _ hb)
    cases hp : p a with
    | true =>
      rw [List.filter_cons_of_pos hp]
      show f a + lsm f (l.filter p) = f a + lsm f l
      rw [ih]
    | false =>
      rw [List.filter_cons_of_neg (by rw [hp]; simp)]
      show lsm f (l.filter p) = f a + lsm f l
      rw [ih, h a (List.mem_cons_self ..) hp]
      grind
theorem lvalue_eq (hS : S.ok) (x : S.R) : S.lvalue x = S.value x := by
  cases hk : S.kind with
  | alt =>
    rw [value_alt hk]
    unfold Spc.lvalue
    rw [hk]
  | herm =>
    rw [value_herm hk, ← lprod_eq]
    unfold Spc.lvalue
    rw [hk]
  | quad =>
    rw [value_quad hk]
    unfold Spc.lvalue
    rw [hk]
    show (List.finRange S.n).foldl (fun t i => ((List.finRange S.n).filter fun j => decide (i ≤ j)).foldl (fun t j => t + S.mat i j * (x i * x j)) t) 0 = _
    rw [foldl_foldl_lsm (fun i j => S.mat i j * (x i * x j))]
    have e4 : ∀ z : El S.F, (0 : El S.F) + z = z := fun z => by grind
    rw [e4]
    apply lsm_congr
    intro i _
    rw [lsm_filter]
    · apply lsm_congr
      intro j _
      grind
    · intro j _ hj
      have hji : j < i := by
        have := of_decide_eq_false hj
        exact Nat.lt_of_not_le this
      have hf := hS.form
      unfold Spc.formOk at hf
      rw [hk] at hf
      rw [hf i j hji]
      grind
theorem rad_mem (hS : S.ok) (x : S.R) : InSp S.radical x ↔ ∀ y, S.prod y x = 0 := by
  unfold Spc.radical
  rw [kernel_mem]
  have key : ∀ j : Fin S.n, dot (fun i => S.gram i j : S.R) x = sm fun i => S.gram i j * x i := fun j => dot_sm _ _
  have unitp : ∀ j : Fin S.n, S.prod x (runit j) = sm fun i => S.gram i j * x i := fun j => by
    rw [prod_sm]
    apply lsm_congr
    intro i _
    have : (fun k => x i * S.gram i k * S.sg ((runit j : S.R) k)) = fun k => if k = j then x i * S.gram i k else 0 := by
      funext k
      unfold runit
      split
      · rw [S.sg_one]; grind
      · rw [S.sg_zero]; grind
    show lsm _ _ = _
    rw [this, lsm_single (fun k => x i * S.gram i k) j _ (fin_nodup _) (List.mem_finRange j)]
    grind
  have swz : ∀ y, S.prod y x = 0 ↔ S.prod x y = 0 := fun y => by
    refine ⟨fun h => ?_, fun h => ?_⟩
    · rw [prod_sw hS y x, h, sw_zero]
    · rw [prod_sw hS x y, h, sw_zero]
  refine ⟨fun h y => ?_, fun h r hr => ?_⟩
  · rw [swz]
    have hu : ∀ j, S.prod x (runit j) = 0 := fun j => by
      rw [unitp j, ← key j]
      refine h _ ?_
      refine List.mem_map.mpr ⟨j, List.mem_finRange j, ?_⟩
      funext i
      simp
    rw [prod_sm]
    have : (sm fun i => sm fun j => x i * S.gram i j * S.sg (y j)) = sm fun j => S.sg (y j) * sm fun i => S.gram i j * x i := by
      unfold sm
      rw [lsm_swap]
      apply lsm_congr
      intro j _
      rw [← lsm_mulL]
      apply lsm_congr
      intro i _
      grind
    rw [this]
    show lsm _ _ = 0
    rw [lsm_congr (g := fun _ => 0) fun j _ => ?_, lsm_zero]
    rw [← unitp j, hu j]
    grind
  · obtain ⟨j, _, rfl⟩ := List.mem_map.mp hr
    have e : (fun (i : Fin S.n) => (((List.finRange S.n).map S.gram)[i.val]'(by simp)) j) = fun i => S.gram i j := by
      funext i
      simp
    rw [e, key j, ← unitp j]
    exact (swz _).mp (h (runit j))
theorem alt_sum {F : Fd} {A : Type} (f : A → A → El F) (h0 : ∀ a, f a a = 0) (h1 : ∀ a b, f a b = -(f b a)) : ∀ l : List A, lsm (fun a => lsm (f a) l) l = 0
  | [] => rfl
  | a :: l => by
    show (f a a + lsm (f a) l) + lsm (fun i => f i a + lsm (f i) l) l = 0
    rw [lsm_add, alt_sum f h0 h1 l, h0 a]
    have e : lsm (fun i => f i a) l = lsm (f a) l * -1 := by
      rw [← lsm_mul]
      apply lsm_congr
      intro i _
      rw [h1 i a]
      grind
    rw [e]
    grind
theorem prod_alt (hS : S.ok) (hk : S.kind = .alt) (x : S.R) : S.prod x x = 0 := by
  have hf := hS.form
  unfold Spc.formOk at hf
  rw [hk] at hf
  have eg : ∀ i j, S.gram i j = S.mat i j := fun i j => by unfold Spc.gram; rw [if_neg (by rw [hk]; simp)]
  have es : ∀ c, S.sg c = c := fun c => by unfold Spc.sg; rw [if_neg (by rw [hk]; simp)]
  rw [prod_sm]
  exact alt_sum (fun i j => x i * S.gram i j * S.sg (x j)) (fun i => by rw [eg, hf.1 i]; grind) (fun i j => by rw [eg, eg, es, es, hf.2 i j]; grind) _
theorem lmat_ok (S : Spc) (h : S.ok) (rows : Fin S.n → S.R) : (Spc.mk S.F S.n S.kind (S.lmat rows)).ok := by
  refine ⟨?_, h.herm, h.small⟩
  have hp : ∀ i j, S.lprod (rows i) (rows j) = S.sw (S.lprod (rows j) (rows i)) := fun i j => by rw [lprod_eq, lprod_eq]; exact prod_sw h _ _
  unfold Spc.formOk
  show match S.kind with
    | .alt => (∀ i, S.lmat rows i i = 0) ∧ ∀ i j, S.lmat rows i j = -(S.lmat rows j i)
    | .herm => ∀ i j, S.lmat rows i j = ebar (S.lmat rows j i)
    | .quad => ∀ i j, j < i → S.lmat rows i j = 0
  cases hk : S.kind with
  | alt =>
    have hl : ∀ i j, S.lmat rows i j = S.lprod (rows i) (rows j) := fun i j => by unfold Spc.lmat; rw [if_pos (.inl (by rw [hk]; simp))]
    refine ⟨fun i => ?_, fun i j => ?_⟩
    · rw [hl, lprod_eq]
      exact prod_alt h hk _
    · rw [hl, hl, hp i j]
      unfold Spc.sw
      rw [hk]
  | herm =>
    have hl : ∀ i j, S.lmat rows i j = S.lprod (rows i) (rows j) := fun i j => by unfold Spc.lmat; rw [if_pos (.inl (by rw [hk]; simp))]
    intro i j
    rw [hl, hl, hp i j]
    unfold Spc.sw
    rw [hk]
  | quad =>
    intro i j hij
    unfold Spc.lmat
    rw [if_neg, if_neg]
    · intro e; rw [e] at hij; exact Nat.lt_irrefl _ hij
    · rintro (z | z)
      · exact z hk
      · exact Nat.lt_asymm hij z
end
end Wk
/-! # WkE4 -/
set_option Elab.async false
set_option linter.all false
set_option maxRecDepth 100000
set_option maxHeartbeats 4000000
/-! The drawn rows keep the form; barriers. -/
namespace Wk
/-- the rows and their images as the law draws them -/
inductive Spc.Pairs (S : Spc) : List S.R → List S.R → Prop where
  | nil : Spc.Pairs S [] []
  | snoc {us vs : List S.R} {u v : S.R} (h : Spc.Pairs S us vs) (hf : lfree (us ++ [u])) (hv : S.lvalue v = S.lvalue u) (hn : S.lnear us vs u v) (hs : v ∉ lspan vs) : Spc.Pairs S (us ++ [u]) (vs ++ [v])
section
variable {S : Spc} {us vs : List S.R}
theorem Spc.Pairs.len (h : S.Pairs us vs) : vs.length = us.length := by
  induction h with
  | nil => rfl
  | snoc _ _ _ _ _ ih => rw [List.length_append, List.length_append, ih]; rfl
theorem Spc.Pairs.indL (h : S.Pairs us vs) : Ind us := by
  cases h with
  | nil => exact Ind.nil
  | snoc _ hf _ _ _ => exact (lfree_ind _).mp hf
theorem Spc.Pairs.indR (h : S.Pairs us vs) : Ind vs := by
  induction h with
  | nil => exact Ind.nil
  | snoc _ _ _ _ hs ih => exact ind_snoc.mpr ⟨ih, fun z => hs ((mem_lspan _ _).mpr z)⟩
theorem Spc.Pairs.kept (hS : S.ok) (h : S.Pairs us vs) : S.isKept us vs := by
  refine ⟨h.len.symm, ?_⟩
  induction h with
  | nil => intro i j u v u' v' hu; simp at hu
  | @snoc us vs u0 v0 hp hf hv hn hs ih =>
    have hl := hp.len
    intro i j u v u' v' hu hv1 hu' hv'
    have cut : ∀ (i : Nat) (u v : S.R), (us ++ [u0])[i]? = some u → (vs ++ [v0])[i]? = some v → (us[i]? = some u ∧ vs[i]? = some v) ∨ (i = us.length ∧ u = u0 ∧ v = v0) := fun i u v h1 h2 => by
      by_cases hi : i < us.length
      · rw [List.getElem?_append_left hi] at h1
        rw [List.getElem?_append_left (by omega)] at h2
        exact .inl ⟨h1, h2⟩
      · rw [List.getElem?_append_right (by omega)] at h1
        rw [List.getElem?_append_right (by omega)] at h2
        by_cases h0 : i = us.length
        · subst h0
          rw [Nat.sub_self] at h1
          rw [hl, Nat.sub_self] at h2
          exact .inr ⟨rfl, (Option.some.inj h1).symm, (Option.some.inj h2).symm⟩
        · rw [List.getElem?_eq_none (by simp; omega)] at h1
          cases h1
    rcases cut i u v hu hv1 with ⟨a1, a2⟩ | ⟨a1, a2, a3⟩
    · rcases cut j u' v' hu' hv' with ⟨b1, b2⟩ | ⟨b1, b2, b3⟩
      · exact ih i j u v u' v' a1 a2 b1 b2
      · refine ⟨(ih i i u v u v a1 a2 a1 a2).1, fun _ => ?_⟩
        rw [b2, b3, ← lprod_eq, ← lprod_eq]
        exact hn i u v a1 a2
    · rw [a2, a3]
      refine ⟨by rw [← lvalue_eq hS, ← lvalue_eq hS]; exact hv.symm, fun hij => ?_⟩
      have : j < (us ++ [u0]).length := (List.getElem?_eq_some_iff.mp hu').1
      rw [List.length_append, List.length_singleton] at this
      omega
theorem main_checked (hS : S.ok) (ht : S.tiny) (hp : S.Pairs us vs) (hl : us.length ≤ 2) : S.checked us vs :=
  ⟨(isFree_iff us).mpr hp.indL, (isFree_iff vs).mpr hp.indR, hp.kept hS⟩
theorem prod_InSpR {L : List S.R} {x y : S.R} (h : ∀ r ∈ L, S.prod x r = 0) (hy : InSp L y) : S.prod x y = 0 := by
  induction hy with
  | zero => exact prod_zeroR x
  | step _ hr c ih =>
    rw [prod_addR, prod_sclR, ih, h _ hr]
    grind
theorem prod_InSpL {L : List S.R} {x y : S.R} (h : ∀ r ∈ L, S.prod r x = 0) (hy : InSp L y) : S.prod y x = 0 := by
  induction hy with
  | zero => exact prod_zeroL x
  | step _ hr c ih =>
    rw [prod_addL, prod_sclL, ih, h _ hr]
    grind
theorem lrad_mem (hS : S.ok) (x : S.R) : x ∈ S.lrad ↔ InSp S.radical x := by
  rw [rad_mem hS]
  unfold Spc.lrad
  rw [List.mem_filter, List.all_eq_true]
  refine ⟨fun ⟨_, h⟩ y => ?_, fun h => ⟨allRows_all x, fun i _ => decide_eq_true ?_⟩⟩
  · have hu : ∀ i, S.prod x (runit i) = 0 := fun i => by
      have := of_decide_eq_true (h i (List.mem_finRange i))
      rwa [lprod_eq] at this
    rw [prod_sw hS x y]
    have : S.prod x y = 0 := by
      have e : y = comb (List.ofFn (runit : Fin S.n → S.R)) (List.ofFn y) := by
        funext j
        rw [comb_pt (List.ofFn (runit : Fin S.n → S.R)) y (by simp) j]
        have : (fun (i : Fin S.n) => ((List.ofFn (runit : Fin S.n → S.R))[i.val]'(by simp)) j * y i) = fun i => if i = j then y i else 0 := by
          funext i
          simp only [List.getElem_ofFn]
          unfold runit
          by_cases hij : j = i
          · subst hij; simp; grind
          · rw [if_neg hij, if_neg (fun z => hij z.symm)]; grind
        show y j = lsm _ _
        rw [this, lsm_single y j _ (fin_nodup _) (List.mem_finRange j)]
      have hin : InSp (List.ofFn (runit : Fin S.n → S.R)) y := by rw [e]; exact InSp.comb _ fun r hr => hr
      refine prod_InSpR (fun r hr => ?_) hin
      obtain ⟨i, e⟩ := List.mem_ofFn.mp hr
      rw [← e]
      exact hu i
    rw [this, sw_zero]
  · rw [lprod_eq, prod_sw hS (runit i) x, h (runit i), sw_zero]
theorem wir_holds (k : Nat) (l : List S.R) (h : l.length = k) (c : Row S.F k) : holds (S.wir l k h) c = true ↔ InSp (S.wir l k h) c := by
  unfold Spc.wir relations kernel
  rw [holds_iff, span_mem]
theorem bent_aux (hS : S.ok) (hp : S.Pairs us vs) (h : S.wir us us.length rfl ≠ S.wir vs us.length hp.len) :
    ∃ x, barW (S.wir us us.length rfl) (S.wir vs us.length hp.len) = some x ∧ (decide (comb us (List.ofFn x) ∈ S.lrad) != decide (comb vs (List.ofFn x) ∈ S.lrad)) = true := by
  have fin : ∀ x : Row S.F us.length, (InSp S.radical (comb us (List.ofFn x)) ↔ ¬ InSp S.radical (comb vs (List.ofFn x))) → (decide (comb us (List.ofFn x) ∈ S.lrad) != decide (comb vs (List.ofFn x) ∈ S.lrad)) = true := fun x hx => by
    rw [← lrad_mem hS, ← lrad_mem hS] at hx
    by_cases h1 : comb us (List.ofFn x) ∈ S.lrad
    · rw [decide_eq_true h1, decide_eq_false (hx.mp h1)]; rfl
    · by_cases h2 : comb vs (List.ofFn x) ∈ S.lrad
      · rw [decide_eq_false h1, decide_eq_true h2]; rfl
      · exact absurd (hx.mpr h2) h1
  unfold barW
  cases h1 : (S.wir us us.length rfl).find? fun w => !holds (S.wir vs us.length hp.len) w with
  | some x =>
    refine ⟨x, rfl, fin x ?_⟩
    have hm := List.mem_of_find?_eq_some h1
    have hn := List.find?_some h1
    have a1 : InSp S.radical (comb us (List.ofFn x)) := (wir_mem S us _ rfl x).mp (.gen hm)
    have a2 : ¬ InSp S.radical (comb vs (List.ofFn x)) := fun z => by
      have z2 := (wir_holds _ vs hp.len x).mpr ((wir_mem S vs _ hp.len x).mpr z)
      rw [z2] at hn
      cases hn
    exact ⟨fun _ => a2, fun _ => a1⟩
  | none =>
    have n1 := List.find?_eq_none.mp h1
    cases h2 : (S.wir vs us.length hp.len).find? fun w => !holds (S.wir us us.length rfl) w with
    | some x =>
      refine ⟨x, rfl, fin x ?_⟩
      have hm := List.mem_of_find?_eq_some h2
      have hn := List.find?_some h2
      have a1 : InSp S.radical (comb vs (List.ofFn x)) := (wir_mem S vs _ hp.len x).mp (.gen hm)
      have a2 : ¬ InSp S.radical (comb us (List.ofFn x)) := fun z => by
        have z2 := (wir_holds _ us rfl x).mpr ((wir_mem S us _ rfl x).mpr z)
        rw [z2] at hn
        cases hn
      exact ⟨fun z => absurd z a2, fun z => absurd a1 z⟩
    | none =>
      exfalso
      apply h
      have n2 := List.find?_eq_none.mp h2
      rw [wir_eq]
      intro c
      rw [← wir_mem S us _ rfl, ← wir_mem S vs _ hp.len]
      refine ⟨fun z => z.trans fun r hr => ?_, fun z => z.trans fun r hr => ?_⟩
      · have := n1 r hr
        exact (wir_holds _ vs hp.len r).mp (by simpa using this)
      · have := n2 r hr
        exact (wir_holds _ us rfl r).mp (by simpa using this)
end
end Wk
/-! # WkF1 -/
set_option Elab.async false
set_option linter.all false
set_option maxRecDepth 100000
set_option maxHeartbeats 4000000
/-! solve is right; pairs along a zip. -/
namespace Wk
section
variable {F : Fd} {n k : Nat}
def ini (w : Row F (n + 1)) : Row F n := fun i => w i.castSucc
theorem sol_fold : ∀ (tb : List (Row F (n + 1))) (pv : List (Fin (n + 1))) (row : Row F n), tb.length = pv.length → pv.Nodup →
    (∀ q ∈ tb.zip pv, ∀ b : Fin n, q.2 = b.castSucc → ((tb.zip pv).foldl (fun row p => if h : p.2.val < n then rset row ⟨p.2.val, h⟩ (p.1 (Fin.last n)) else row) row) b = q.1 (Fin.last n)) ∧
      ∀ b : Fin n, b.castSucc ∉ pv → ((tb.zip pv).foldl (fun row p => if h : p.2.val < n then rset row ⟨p.2.val, h⟩ (p.1 (Fin.last n)) else row) row) b = row b
  | [], [], row, _, _ => ⟨fun q hq => absurd hq (by simp), fun b _ => rfl⟩
  | t :: tb, p :: pv, row, hl, nd => by
    obtain ⟨n1, n2⟩ := List.nodup_cons.mp nd
    obtain ⟨g1, g2⟩ := sol_fold tb pv (if h : p.val < n then rset row ⟨p.val, h⟩ (t (Fin.last n)) else row) (by simpa using hl) n2
    rw [List.zip_cons_cons, List.foldl_cons]
    refine ⟨fun q hq b hb => ?_, fun b hb => ?_⟩
    · rcases List.mem_cons.mp hq with e | hq
      · subst e
        have hb : p = b.castSucc := hb
        have h2 := g2 b (by rw [← hb]; exact n1)
        refine h2.trans ?_
        have hpn : p.val < n := by rw [hb]; exact b.isLt
        rw [dif_pos hpn]
        unfold rset
        rw [if_pos (Fin.ext (by show b.val = p.val; rw [hb]; rfl))]
      · exact g1 q hq b hb
    · have h2 := g2 b fun z => hb (List.mem_cons_of_mem _ z)
      refine h2.trans ?_
      split
      · rename_i hpn
        unfold rset
        rw [if_neg]
        intro z
        apply hb
        have : b.castSucc = p := Fin.ext (by show b.val = p.val; rw [z])
        rw [this]
        exact List.mem_cons_self ..
      · rfl
  | [], _ :: _, _, h, _ => by simp at h
  | _ :: _, [], _, h, _ => by simp at h
/-- a linear equation that holds of the generators -/
theorem lin_InSp {l : List (Row F (n + 1))} {x : Row F n} (h : ∀ w ∈ l, dot (ini w) x = w (Fin.last n)) {w : Row F (n + 1)} (hw : InSp l w) : dot (ini w) x = w (Fin.last n) := by
  induction hw with
  | zero => exact dot_zeroL x
  | @step v r _ hr c ih =>
    have e : ini (radd v (rscl r c)) = radd (ini v) (rscl (ini r) c) := rfl
    rw [e, dot_addL, dot_sclL, ih, h _ hr]
    rfl
theorem ini_snoc (v : Row F n) (y : El F) : ini (rsnoc v y) = v := by
  funext i
  unfold ini rsnoc
  rw [dif_pos (show i.castSucc.val < n from i.isLt)]
  rfl
theorem last_snoc (v : Row F n) (y : El F) : rsnoc v y (Fin.last n) = y := by
  unfold rsnoc
  rw [dif_neg (show ¬ (Fin.last n).val < n from Nat.lt_irrefl _)]
theorem solve_some {rows : List (Row F n)} {right : List (El F)} {x : Row F n} (h : solve rows right = some x) : ∀ q ∈ rows.zip right, dot q.1 x = q.2 := by
  have fit := red_fit ((rows.zip right).map fun p => rsnoc p.1 p.2)
  have sp := span_mem ((rows.zip right).map fun p => rsnoc p.1 p.2)
  unfold span at sp
  unfold solve at h
  generalize hs : red ((rows.zip right).map fun p => rsnoc p.1 p.2) = s at fit h sp
  have h : (if Fin.last n ∈ s.piv then none else some ((s.table.zip s.piv).foldl (fun row p => if h : p.2.val < n then rset row ⟨p.2.val, h⟩ (p.1 (Fin.last n)) else row) rzero)) = some x := h
  by_cases hl : Fin.last n ∈ s.piv
  · rw [if_pos hl] at h; cases h
  rw [if_neg hl] at h
  have h := Option.some.inj h
  obtain ⟨g1, g2⟩ := sol_fold s.table s.piv rzero fit.len (asc_nodup fit.asc)
  rw [h] at g1 g2
  have key : ∀ t ∈ s.table, dot (ini t) x = t (Fin.last n) := fun t ht => by
    obtain ⟨p, hp⟩ := zip_of_mem fit.len ht
    have hpm := (List.of_mem_zip hp).2
    have hpl : p.val < n := by
      have h1 := p.isLt
      have h2 : ¬ p.val = n := fun z => hl (by rw [← show p = Fin.last n from Fin.ext z]; exact hpm)
      omega
    have hpe : p = (⟨p.val, hpl⟩ : Fin n).castSucc := Fin.ext rfl
    rw [dot_sm]
    show lsm _ _ = _
    rw [lsm_congr (g := fun b => if b = (⟨p.val, hpl⟩ : Fin n) then t (Fin.last n) else 0) fun b _ => ?_, lsm_single (fun _ => t (Fin.last n)) _ _ (fin_nodup n) (List.mem_finRange _)]
    by_cases hb : b = (⟨p.val, hpl⟩ : Fin n)
    · subst hb
      rw [if_pos rfl]
      have h1 := g1 _ hp _ hpe
      have h2 : t p = 1 := fit.one _ hp
      show t (Fin.castSucc ⟨p.val, hpl⟩) * x ⟨p.val, hpl⟩ = _
      rw [← hpe, h2, h1]
      grind
    · rw [if_neg hb]
      show t b.castSucc * x b = 0
      by_cases hbp : b.castSucc ∈ s.piv
      · have : t b.castSucc = 0 := fit.off _ hp _ hbp (fun z => hb (Fin.ext (by have := congrArg Fin.val z; exact this)))
        rw [this]; grind
      · rw [g2 b hbp]
        show _ * (0 : El F) = 0
        grind
  intro q hq
  have hin : InSp s.table (rsnoc q.1 q.2) := (sp _).mpr (.gen (List.mem_map.mpr ⟨q, hq, rfl⟩))
  have := lin_InSp key hin
  rw [ini_snoc, last_snoc] at this
  exact this
theorem solve_ex {rows : List (Row F n)} {right : List (El F)} {x0 : Row F n} (h : ∀ q ∈ rows.zip right, dot q.1 x0 = q.2) : ∃ x, solve rows right = some x := by
  have fit := red_fit ((rows.zip right).map fun p => rsnoc p.1 p.2)
  have sp := span_mem ((rows.zip right).map fun p => rsnoc p.1 p.2)
  unfold span at sp
  have hl : Fin.last n ∉ (red ((rows.zip right).map fun p => rsnoc p.1 p.2)).piv := fun hl => by
    obtain ⟨t, ht⟩ := zip_of_memR fit.len hl
    have h1 : t (Fin.last n) = 1 := fit.one _ ht
    have hin := (sp t).mp (.gen (List.of_mem_zip ht).1)
    have h2 := lin_InSp (x := x0) (fun w hw => by
      obtain ⟨q, hq, rfl⟩ := List.mem_map.mp hw
      rw [ini_snoc, last_snoc]
      exact h q hq) hin
    have h3 : ini t = rzero := by
      funext i
      exact fit.lead _ ht i.castSucc (show i.val < n from i.isLt)
    rw [h3, dot_zeroL, h1] at h2
    exact e_zno h2
  unfold solve
  exact ⟨_, if_neg hl⟩
/-! ### pairs along a zip -/
inductive InSp2 (l m : List (Row F n)) : Row F n → Row F n → Prop where
  | zero : InSp2 l m rzero rzero
  | step {v w r s : Row F n} (h : InSp2 l m v w) (hr : (r, s) ∈ l.zip m) (c : El F) : InSp2 l m (radd v (rscl r c)) (radd w (rscl s c))
theorem InSp2.left {l m : List (Row F n)} {v w : Row F n} (h : InSp2 l m v w) : InSp l v := by
  induction h with
  | zero => exact .zero
  | step _ hr c ih => exact ih.step (List.of_mem_zip hr).1 c
theorem InSp2.right {l m : List (Row F n)} {v w : Row F n} (h : InSp2 l m v w) : InSp m w := by
  induction h with
  | zero => exact .zero
  | step _ hr c ih => exact ih.step (List.of_mem_zip hr).2 c
theorem InSp2.gen {l m : List (Row F n)} {r s : Row F n} (h : (r, s) ∈ l.zip m) : InSp2 l m r s := by
  have := InSp2.step (InSp2.zero (l := l) (m := m)) h 1
  rwa [rscl_one, rscl_one, zero_radd, zero_radd] at this
theorem InSp2.add {l m : List (Row F n)} {v w v' w' : Row F n} (h : InSp2 l m v w) (g : InSp2 l m v' w') : InSp2 l m (radd v v') (radd w w') := by
  induction g with
  | zero => rw [radd_zero, radd_zero]; exact h
  | step g hr c ih => rw [← radd_assoc, ← radd_assoc]; exact ih.step hr c
theorem InSp2.scl {l m : List (Row F n)} {v w : Row F n} (h : InSp2 l m v w) (c : El F) : InSp2 l m (rscl v c) (rscl w c) := by
  induction h with
  | zero => rw [zero_rscl]; exact .zero
  | step h hr d ih => rw [rscl_add, rscl_add, rscl_scl, rscl_scl]; exact ih.step hr _
theorem InSp2.comb {L M : List (Row F n)} : ∀ {l m : List (Row F n)} (c : List (El F)), l.length = m.length → (∀ q ∈ l.zip m, q ∈ L.zip M) → InSp2 L M (Wk.comb l c) (Wk.comb m c)
  | [], [], c, _, _ => .zero
  | r :: l, s :: m, [], _, _ => by rw [comb_nilR, comb_nilR]; exact .zero
  | r :: l, s :: m, x :: c, h, g => by
    rw [comb_cons, comb_cons]
    exact ((InSp2.gen (g (r, s) (List.mem_cons_self ..))).scl x).add (InSp2.comb c (by simpa using h) fun q hq => g q (List.mem_cons_of_mem _ hq))
  | [], _ :: _, _, h, _ => by simp at h
  | _ :: _, [], _, h, _ => by simp at h
theorem InSp2.of_left {l m : List (Row F n)} (e : l.length = m.length) {v : Row F n} (h : InSp l v) : ∃ w, InSp2 l m v w := by
  obtain ⟨c, _, hc⟩ := h.coef
  exact ⟨Wk.comb m c, hc ▸ InSp2.comb c e fun _ h => h⟩
/-- a linear map that takes the generators -/
theorem moved_add (v w : Row F k) (M : List (Row F n)) (h : M.length = k) : moved (radd v w) M = radd (moved v M) (moved w M) := by
  unfold moved
  rw [← comb_add M _ _ (by simp [h]) (by simp [h])]
  congr 1
  apply List.ext_getElem
  · simp
  · intro i h1 h2
    simp [radd]
theorem moved_scl (v : Row F k) (c : El F) (M : List (Row F n)) (h : M.length = k) : moved (rscl v c) M = rscl (moved v M) c := by
  funext j
  unfold moved
  show comb M (List.ofFn (rscl v c)) j = comb M (List.ofFn v) j * c
  rw [comb_pt M _ h j, comb_pt M _ h j]
  unfold sm
  rw [← lsm_mul]
  apply lsm_congr
  intro i _
  show _ * (v i * c) = _
  grind
theorem moved_zero (M : List (Row F n)) (h : M.length = k) : moved (rzero : Row F k) M = rzero := by
  have := moved_scl (rzero : Row F k) 0 M h
  rw [zero_rscl, rscl_zero] at this
  exact this
theorem moved_unit (M : List (Row F n)) (h : M.length = k) (i : Fin k) : moved (runit i : Row F k) M = M[i.val]'(by omega) := by
  funext j
  unfold moved
  rw [comb_pt M _ h j]
  have : (fun (a : Fin k) => (M[a.val]'(by omega)) j * (runit i : Row F k) a) = fun a => if a = i then (M[a.val]'(by omega)) j else 0 := by
    funext a
    unfold runit
    split <;> grind
  rw [this]
  exact lsm_single (fun (a : Fin k) => (M[a.val]'(by omega)) j) i _ (fin_nodup k) (List.mem_finRange i)
theorem moved_InSp2 {l m M : List (Row F n)} (hM : M.length = n) (h : ∀ q ∈ l.zip m, moved q.1 M = q.2) {v w : Row F n} (hv : InSp2 l m v w) : moved v M = w := by
  induction hv with
  | zero => exact moved_zero M hM
  | step _ hr c ih => rw [moved_add _ _ M hM, moved_scl _ _ M hM, ih, h _ hr]
end
end Wk
/-! # WkF2 -/
set_option Elab.async false
set_option linter.all false
set_option maxRecDepth 100000
set_option maxHeartbeats 4000000
/-! Inverses: rows are taken to their images. -/
namespace Wk
section
variable {F : Fd} {n k : Nat}
theorem unit_comb (v : Row F n) : v = comb (List.ofFn (runit : Fin n → Row F n)) (List.ofFn v) := by
  funext j
  rw [comb_pt (List.ofFn (runit : Fin n → Row F n)) v (by simp) j]
  have : (fun (i : Fin n) => ((List.ofFn (runit : Fin n → Row F n))[i.val]'(by simp)) j * v i) = fun i => if i = j then v i else 0 := by
    funext i
    simp only [List.getElem_ofFn]
    unfold runit
    by_cases hij : j = i
    · subst hij; simp; grind
    · rw [if_neg hij, if_neg (fun z => hij z.symm)]; grind
  show v j = lsm _ _
  rw [this, lsm_single v j _ (fin_nodup _) (List.mem_finRange j)]
theorem unit_span (v : Row F n) : InSp (List.ofFn (runit : Fin n → Row F n)) v := by
  rw [unit_comb v]
  exact InSp.comb _ fun r hr => hr
theorem moved_times {B : List (Row F n)} {A : List (Row F n)} (hA : A.length = n) (hB : B.length = n) (v : Row F n) : moved v (times A B) = moved (moved v A) B := by
  have hT : (times A B).length = n := by unfold times; rw [List.length_map, hA]
  have key : ∀ v, InSp (List.ofFn (runit : Fin n → Row F n)) v → moved v (times A B) = moved (moved v A) B := fun v hv => by
    induction hv with
    | zero => rw [moved_zero _ hT, moved_zero _ hA, moved_zero _ hB]
    | step _ hr c ih =>
      obtain ⟨i, rfl⟩ := List.mem_ofFn.mp hr
      rw [moved_add _ _ _ hT, moved_scl _ _ _ hT, ih, moved_add _ _ _ hA, moved_scl _ _ _ hA, moved_add _ _ _ hB, moved_scl _ _ _ hB, moved_unit _ hT, moved_unit _ hA]
      unfold times
      rw [List.getElem_map]
  exact key v (unit_span v)
def fst2 (w : Row F (2 * n)) : Row F n := fun k => w ⟨k.val, by omega⟩
theorem back_comb : ∀ (l : List (Row F (2 * n))) (c : List (El F)), rback (comb l c) = comb (l.map rback) c
  | [], _ => rfl
  | r :: l, [] => by rw [comb_nilR, comb_nilR]; rfl
  | r :: l, x :: c => by
    rw [List.map_cons, comb_cons, comb_cons, ← back_comb l c]
    rfl
theorem wide_at {m : List (Row F n)} (h : m.length = n) (i : Fin n) : (wide m h)[i.val]? = some (rapp (m[i.val]'(by omega)) (runit i)) := by
  unfold wide
  rw [List.getElem?_map, List.getElem?_eq_getElem (by simp)]
  simp
theorem fst_app (v w : Row F n) : fst2 (rapp v w) = v := by
  funext i
  unfold fst2 rapp
  rw [dif_pos (show (⟨i.val, by omega⟩ : Fin (2 * n)).val < n from i.isLt)]
theorem back_app (v w : Row F n) : rback (rapp v w) = w := by
  funext i
  unfold rback rapp
  rw [dif_neg (show ¬ n + i.val < n by omega)]
  congr 1
  exact Fin.ext (by show n + i.val - n = i.val; omega)
theorem wide_fst {m : List (Row F n)} (h : m.length = n) {w : Row F (2 * n)} (hw : InSp (wide m h) w) : fst2 w = moved (rback w) m := by
  induction hw with
  | zero => exact (moved_zero m h).symm
  | @step v r _ hr c ih =>
    have e1 : fst2 (radd v (rscl r c)) = radd (fst2 v) (rscl (fst2 r) c) := rfl
    have e2 : rback (radd v (rscl r c)) = radd (rback v) (rscl (rback r) c) := rfl
    obtain ⟨i, _, rfl⟩ := List.mem_map.mp hr
    rw [e1, e2, moved_add _ _ m h, moved_scl _ _ m h, ih, fst_app, back_app, moved_unit m h]
theorem wide_len {m : List (Row F n)} (h : m.length = n) : (wide m h).length = n := by unfold wide; rw [List.length_map, List.length_finRange]
theorem wide_ind {m : List (Row F n)} (h : m.length = n) : Ind (wide m h) := fun c hc h0 x hx => by
  have hcl : c.length = n := hc.trans (wide_len h)
  have h1 := congrArg rback h0
  rw [back_comb] at h1
  have e : (wide m h).map rback = List.ofFn (runit : Fin n → Row F n) := by
    unfold wide
    rw [List.map_map]
    apply List.ext_getElem
    · simp
    · intro i h1 h2
      simp [back_app]
  rw [e] at h1
  have ec : c = List.ofFn fun i : Fin n => c[i.val]'(by omega) := by
    apply List.ext_getElem
    · simp [hcl]
    · intro i h1 h2; simp
  rw [ec, ← unit_comb] at h1
  obtain ⟨i, hi, rfl⟩ := List.mem_iff_getElem.mp hx
  exact congrFun h1 ⟨i, by omega⟩
theorem minv_ok {m : List (Row F n)} (h : m.length = n) (hi : Ind m) : ∃ inv, minv m = some inv ∧ inv.length = n ∧ ∀ i : Fin n, moved (m[i.val]'(by omega)) inv = runit i := by
  have fit := red_fit (wide m h)
  have sp := span_mem (wide m h)
  unfold span at sp
  have small : ∀ p ∈ (red (wide m h)).piv, p.val < n := fun p hp => by
    apply Classical.byContradiction
    intro hn
    obtain ⟨t, ht⟩ := zip_of_memR fit.len hp
    have htin := (sp t).mp (.gen (List.of_mem_zip ht).1)
    have f0 : fst2 t = rzero := funext fun i => fit.lead _ ht _ (show i.val < p.val by have := i.isLt; omega)
    have h1 := wide_fst h htin
    rw [f0] at h1
    have hz := hi (List.ofFn (rback t)) (by simp [h]) h1.symm
    have h2 : t p = 1 := fit.one _ ht
    have h3 : rback t ⟨p.val - n, by have := p.isLt; omega⟩ = 0 := hz _ (List.mem_ofFn.mpr ⟨_, rfl⟩)
    have h4 : rback t ⟨p.val - n, by have := p.isLt; omega⟩ = t p := by
      unfold rback
      congr 1
      exact Fin.ext (by show n + (p.val - n) = p.val; omega)
    rw [h4, h2] at h3
    exact e_zno h3.symm
  have hlen : (red (wide m h)).piv.length = n := fit.len.symm.trans ((ind_eq fit.ind (wide_ind h) sp).trans (wide_len h))
  have hL : ((List.finRange n).map fun i => (⟨i.val, by omega⟩ : Fin (2 * n))).length = n := by simp
  have hasc : ((List.finRange n).map fun i => (⟨i.val, by omega⟩ : Fin (2 * n))).Pairwise (· < ·) := by
    have := List.pairwise_lt_range (n := n)
    rw [← fin_val0 n] at this
    have h2 := (List.pairwise_map (f := fun j : Fin n => j.val) (R := fun a b => a < b)).mp this
    exact List.pairwise_map.mpr (h2.imp fun h => h)
  have sub : ∀ p ∈ (red (wide m h)).piv, p ∈ (List.finRange n).map fun i => (⟨i.val, by omega⟩ : Fin (2 * n)) := fun p hp => List.mem_map.mpr ⟨⟨p.val, small p hp⟩, List.mem_finRange _, rfl⟩
  have epv : (red (wide m h)).piv = (List.finRange n).map fun i => (⟨i.val, by omega⟩ : Fin (2 * n)) := asc_eq fit.asc hasc fun a => ⟨sub a, nodup_sub_all (asc_nodup fit.asc) sub (by rw [hL, hlen]; exact Nat.le_refl _) a⟩
  refine ⟨(red (wide m h)).table.map rback, ?_, by rw [List.length_map, fit.len, hlen], fun i => ?_⟩
  · unfold minv
    rw [dif_pos h, if_pos epv]
  · have hin : InSp (red (wide m h)).table (rapp (m[i.val]'(by omega)) (runit i)) := (sp _).mpr (.gen (List.mem_of_getElem? (wide_at h i)))
    have h1 := congrArg rback (fit.coef hin)
    rw [back_comb, back_app] at h1
    rw [← h1]
    unfold moved
    congr 1
    rw [epv, List.map_map]
    apply List.ext_getElem
    · simp
    · intro j h2 h3
      have hj : j < n := by simpa using h2
      simp [rapp, hj]
theorem ofImages_ok {rows images : List (Row F n)} (h : rows.length = n) (hm : images.length = n) (hi : Ind rows) : ∃ M, ofImages rows images = some M ∧ M.length = n ∧ ∀ q ∈ rows.zip images, moved q.1 M = q.2 := by
  obtain ⟨inv, h1, h2, h3⟩ := minv_ok h hi
  refine ⟨times inv images, by unfold ofImages; rw [h1]; rfl, by unfold times; rw [List.length_map, h2], fun q hq => ?_⟩
  obtain ⟨i, hil, e⟩ := List.mem_iff_getElem.mp hq
  have hin : i < n := by rw [List.length_zip] at hil; omega
  have e1 : q.1 = rows[i]'(by omega) := by rw [← e]; simp
  have e2 : q.2 = images[i]'(by omega) := by rw [← e]; simp
  rw [e1, e2, moved_times h2 hm, h3 ⟨i, hin⟩, moved_unit images hm]
end
end Wk
/-! # WkF3 -/
set_option Elab.async false
set_option linter.all false
set_option maxRecDepth 100000
set_option maxHeartbeats 4000000
/-! Functionals; shifts. -/
namespace Wk
section
variable {F : Fd} {n : Nat}
/-- what is not spanned is told apart by a functional -/
theorem sep_ex {l : List (Row F n)} {w : Row F n} (h : ¬ InSp l w) : ∃ x, (∀ z ∈ l, dot z x = 0) ∧ dot w x = 1 := by
  have fit := red_fit l
  have hs : ¬ InSp (red l).table w := fun z => h ((span_mem l w).mp z)
  obtain ⟨r1, s, r2, r3⟩ := fit.rest w
  have hne : ¬ rest (red l).table w = rzero := fun z => hs ((fit.rest_zero w).mp z)
  have : ∃ a, rest (red l).table w a ≠ 0 := by
    apply Classical.byContradiction
    intro hn
    exact hne (funext fun a => Classical.byContradiction fun z => hn ⟨a, z⟩)
  obtain ⟨a, ha⟩ := this
  have hap : a ∉ (red l).piv := fun z => ha (r1 a z)
  obtain ⟨k1, k2⟩ := ker_at l hap
  have kd := ker_dot l hap
  have e1 : dot (rest (red l).table w) (kerRow (red l) a) = rest (red l).table w a := by
    rw [dot_sm]
    show lsm _ _ = _
    rw [lsm_congr (g := fun b => if b = a then rest (red l).table w b else 0) fun b _ => ?_, lsm_single (fun b => rest (red l).table w b) a _ (fin_nodup n) (List.mem_finRange a)]
    by_cases hb : b ∈ (red l).piv
    · rw [r1 b hb, if_neg (fun z => hap (by rw [← z]; exact hb))]
      grind
    · rw [k2 b hb]
      by_cases hba : b = a
      · subst hba
        rw [if_pos rfl, unit_same]
        grind
      · rw [if_neg hba, unit_ne hba]
        grind
  have e2 : dot w (kerRow (red l) a) = rest (red l).table w a := by
    rw [r3, dot_addL]
    have : dot s (kerRow (red l) a) = 0 := dot_InSp kd r2
    rw [this]
    rw [← r3, e1]
    grind
  refine ⟨rscl (kerRow (red l) a) (rest (red l).table w a)⁻¹, fun z hz => ?_, ?_⟩
  · rw [dot_sclR, (dot_tab l (kerRow (red l) a)).mpr kd z hz]
    grind
  · rw [dot_sclR, e2]
    exact Lean.Grind.Field.mul_inv_cancel ha
theorem shift_len (f d : Row F n) : (shift f d).length = n := by unfold shift; rw [List.length_map, List.length_finRange]
theorem moved_shift (f d x : Row F n) : moved x (shift f d) = radd x (rscl d (dot x f)) := by
  have key : ∀ v, InSp (List.ofFn (runit : Fin n → Row F n)) v → moved v (shift f d) = radd v (rscl d (dot v f)) := fun v hv => by
    induction hv with
    | zero => rw [moved_zero _ (shift_len f d), dot_zeroL, rscl_zero, radd_zero]
    | @step u r _ hr c ih =>
      obtain ⟨i, rfl⟩ := List.mem_ofFn.mp hr
      rw [moved_add _ _ _ (shift_len f d), moved_scl _ _ _ (shift_len f d), ih, moved_unit _ (shift_len f d), dot_addL, dot_sclL, dot_unitL]
      unfold shift
      rw [List.getElem_map, List.getElem_finRange]
      funext j
      show (u j + d j * dot u f) + ((runit i : Row F n) j + d j * f i) * c = (u j + (runit i : Row F n) j * c) + d j * (dot u f + f i * c)
      grind
  exact key x (unit_span x)
end
/-- a linear map that keeps the form and is injective -/
structure Spc.Iso (S : Spc) (M : List S.R) : Prop where
  len : M.length = S.n
  val : ∀ x : S.R, S.value (moved x M) = S.value x
  prd : ∀ x y : S.R, S.prod (moved x M) (moved y M) = S.prod x y
  inj : ∀ x : S.R, moved x M = rzero → x = rzero
end Wk
/-! # WkF4 -/
set_option Elab.async false
set_option linter.all false
set_option maxRecDepth 100000
set_option maxHeartbeats 4000000
/-! Steps by shifts. -/
namespace Wk
section
variable {S : Spc}
theorem dot_funs (x d : S.R) : dot x (S.funs d) = S.prod x d := by
  have key : ∀ v, InSp (List.ofFn (runit : Fin S.n → S.R)) v → dot v (S.funs d) = S.prod v d := fun v hv => by
    induction hv with
    | zero => rw [dot_zeroL, prod_zeroL]
    | step _ hr c ih =>
      obtain ⟨i, rfl⟩ := List.mem_ofFn.mp hr
      rw [dot_addL, dot_sclL, prod_addL, prod_sclL, ih, dot_unitL]
      rfl
  exact key x (unit_span x)
theorem prod_shift (x y d : S.R) (s t : El S.F) : S.prod (radd x (rscl d s)) (radd y (rscl d t)) = S.prod x y + S.prod x d * S.sg t + S.prod d y * s + S.prod d d * s * S.sg t := by
  rw [prod_addL, prod_addR, prod_addR, prod_sclL, prod_sclL, prod_sclR, prod_sclR]
  grind
theorem value_shift (hS : S.ok) (x d : S.R) (t : El S.F) : S.value (radd x (rscl d t)) = S.value x + S.value d * S.nm t + S.tr (S.prod x d * S.sg t) := by
  rw [value_add hS, value_scl, prod_sclR]
theorem shift_inj {F : Fd} {n : Nat} {f d : Row F n} (h : 1 + dot d f ≠ 0) {x : Row F n} (hx : moved x (shift f d) = rzero) : x = rzero := by
  rw [moved_shift] at hx
  have h1 : dot (radd x (rscl d (dot x f))) f = 0 := by rw [hx, dot_zeroL]
  rw [dot_addL, dot_sclL] at h1
  have h2 : dot x f * (1 + dot d f) = 0 := by grind
  have h3 : dot x f = 0 := by
    apply Classical.byContradiction
    intro z
    have : dot x f * (1 + dot d f) ≠ 0 := by grind
    exact this h2
  rw [h3, rscl_zero, radd_zero] at hx
  exact hx
/-- what d = y - w tells: its value, its products -/
theorem diff_self (hS : S.ok) {w y : S.R} (hv : S.value w = S.value y) :
    (S.kind = .quad → S.value (rsub y w) = -(S.prod w (rsub y w))) ∧ (S.kind = .herm → S.prod (rsub y w) (rsub y w) = -(S.prod w (rsub y w)) + -(ebar (S.prod w (rsub y w)))) ∧ (S.kind = .alt → S.prod (rsub y w) (rsub y w) = 0) ∧
      (S.kind = .quad → S.prod (rsub y w) (rsub y w) = -(S.prod w (rsub y w)) + -(S.prod w (rsub y w))) := by
  have q2 : ∀ x, S.kind = .quad → S.prod x x = S.value x + S.value x := fun x hk => by
    have h1 := value_add hS x x
    have e : radd x x = rscl x (1 + 1) := by rw [rscl_addc, rscl_one]
    rw [e, value_scl] at h1
    unfold Spc.nm Spc.tr at h1
    rw [hk] at h1
    have h1 : S.value x * ((1 + 1) * (1 + 1)) = S.value x + S.value x + S.prod x x := h1
    grind
  have hq : S.kind = .quad → S.value (rsub y w) = -(S.prod w (rsub y w)) := fun hk => by
    unfold rsub
    have h1 := value_shift hS y w (-1)
    rw [h1, prod_addR, prod_sclR, q2 w hk, prod_sw hS w y]
    unfold Spc.nm Spc.tr Spc.sg Spc.sw
    rw [hk]
    simp only [reduceCtorEq, if_false]
    grind
  refine ⟨hq, fun hk => ?_, fun hk => prod_alt hS hk _, fun hk => by rw [q2 _ hk, hq hk]⟩
  unfold rsub
  have e0 : S.prod w (radd y (rscl w (-1))) = S.prod w y + S.prod w w * -1 := by rw [prod_addR, prod_sclR, S.sg_neg, S.sg_one]
  rw [value_herm hk, value_herm hk] at hv
  rw [e0, prod_addL, prod_addR, prod_addR, prod_sclL, prod_sclL, prod_sclR, prod_sclR, prod_sw hS w y, S.sg_neg, S.sg_one]
  have e : ebar (S.prod w w) = S.prod w w := by
    have := prod_sw hS w w
    unfold Spc.sw at this
    rw [hk] at this
    exact this.symm
  have hs : S.sw (S.prod w y) = ebar (S.prod w y) := by unfold Spc.sw; rw [hk]
  rw [hs, bar_add, show S.prod w w * -1 = -(S.prod w w) by grind, bar_neg, e, hv]
  grind
/-- c /= 0: the reflection, the transvection -/
theorem step_c (hS : S.ok) {w y : S.R} (hv : S.value w = S.value y) (hc : S.prod w (rsub y w) ≠ 0) :
    S.Iso (shift (fun i => S.prod (runit i) (rsub y w) * (S.prod w (rsub y w))⁻¹) (rsub y w)) ∧ moved w (shift (fun i => S.prod (runit i) (rsub y w) * (S.prod w (rsub y w))⁻¹) (rsub y w)) = y ∧
      ∀ r, S.prod r (rsub y w) = 0 → moved r (shift (fun i => S.prod (runit i) (rsub y w) * (S.prod w (rsub y w))⁻¹) (rsub y w)) = r := by
  obtain ⟨d1, d2, d3, d4⟩ := diff_self hS hv
  have hy : radd w (rsub y w) = y := by funext i; show w i + (y i + w i * -1) = y i; grind
  generalize rsub y w = d at *
  generalize hcc : S.prod w d = c at *
  have hdf : ∀ x : S.R, dot x (fun i => S.prod (runit i) d * c⁻¹ : S.R) = S.prod x d * c⁻¹ := fun x => by
    have e : (fun i => S.prod (runit i) d * c⁻¹ : S.R) = rscl (S.funs d) c⁻¹ := rfl
    rw [e, dot_sclR, dot_funs]
  have hcci : c * c⁻¹ = 1 := Lean.Grind.Field.mul_inv_cancel hc
  refine ⟨⟨shift_len _ _, fun x => ?_, fun x z => ?_, fun x hx => shift_inj ?_ hx⟩, ?_, fun r hr => ?_⟩
  · rw [moved_shift, hdf, value_shift hS]
    cases hk : S.kind with
    | alt =>
      rw [value_alt hk, value_alt hk]
      unfold Spc.tr
      rw [hk]
      show (0 : El S.F) + 0 * _ + 0 = 0
      grind
    | quad =>
      rw [d1 hk]
      unfold Spc.nm Spc.tr Spc.sg
      rw [hk]
      simp only [reduceCtorEq, if_false]
      grind
    | herm =>
      rw [value_herm hk d, d2 hk]
      unfold Spc.nm Spc.tr Spc.sg
      rw [hk]
      simp only [if_true]
      rw [bar_mul, bar_mul, bar_mul, bar_bar, bar_bar]
      have : ebar c * ebar c⁻¹ = 1 := by rw [← bar_mul, hcci, bar_one]
      grind
  · rw [moved_shift, moved_shift, hdf, hdf, prod_shift, prod_sw hS z d]
    cases hk : S.kind with
    | alt =>
      rw [d3 hk]
      unfold Spc.sg Spc.sw
      rw [hk]
      simp only [reduceCtorEq, if_false]
      grind
    | quad =>
      rw [d4 hk]
      unfold Spc.sg Spc.sw
      rw [hk]
      simp only [reduceCtorEq, if_false]
      grind
    | herm =>
      rw [d2 hk]
      unfold Spc.sg Spc.sw
      rw [hk]
      simp only [if_true]
      rw [bar_mul]
      have : ebar c * ebar c⁻¹ = 1 := by rw [← bar_mul, hcci, bar_one]
      grind
  · rw [hdf]
    cases hk : S.kind with
    | alt =>
      rw [d3 hk]
      have := e_zno (F := S.F)
      grind
    | quad =>
      rw [d4 hk]
      have := e_zno (F := S.F)
      grind
    | herm =>
      rw [d2 hk]
      have h1 : ebar c ≠ 0 := fun z => hc (by rw [← bar_bar c, z, bar_zero])
      grind
  · rw [moved_shift, hdf, hcc, hcci, rscl_one, hy]
  · rw [moved_shift, hdf, hr]
    rw [show (0 : El S.F) * c⁻¹ = 0 by grind, rscl_zero, radd_zero]
end
end Wk
/-! # WkF5 -/
set_option Elab.async false
set_option linter.all false
set_option maxRecDepth 100000
set_option maxHeartbeats 4000000
/-! Steps along a singular difference. -/
namespace Wk
section
variable {S : Spc}
theorem dot_zeroOn {F : Fd} {n : Nat} {Z : List (Row F n)} {f : Row F n} (h : ∀ z ∈ Z, dot z f = 0) {v : Row F n} (hv : InSp Z v) : dot v f = 0 := dot_InSp h hv
theorem one_add_ne {F : Fd} {n : Nat} {Z : List (Row F n)} {f w d : Row F n} (hz : ∀ z ∈ Z, dot z f = 0) (hw : dot w f = 1) (hd : InSp (Z ++ [w]) d ∨ dot d f = 0) (hy : ¬ InSp Z (radd w d)) : 1 + dot d f ≠ 0 := by
  rcases hd with hd | hd
  · obtain ⟨s, hs, t, rfl⟩ := InSp_snoc.mp hd
    rw [dot_addL, dot_sclL, dot_zeroOn hz hs, hw]
    intro e
    apply hy
    have e2 : radd w (radd s (rscl w t)) = s := by
      funext i
      show w i + (s i + w i * t) = s i
      have : t = -1 := by grind
      rw [this]
      grind
    rw [e2]
    exact hs
  · rw [hd]
    intro e
    have := e_zno (F := F)
    grind
theorem value_sing (hS : S.ok) {w y : S.R} (hv : S.value w = S.value y) (hc : S.prod w (rsub y w) = 0) : S.value (rsub y w) = 0 ∧ S.prod (rsub y w) (rsub y w) = 0 := by
  obtain ⟨d1, d2, d3, d4⟩ := diff_self hS hv
  cases hk : S.kind with
  | alt => exact ⟨value_alt hk _, d3 hk⟩
  | quad =>
    rw [d1 hk, d4 hk, hc]
    exact ⟨by grind, by grind⟩
  | herm =>
    rw [value_herm hk, d2 hk, hc, bar_zero]
    exact ⟨by grind, by grind⟩
theorem tr_zero : S.tr 0 = 0 := by
  unfold Spc.tr
  split
  · rfl
  · rfl
  · rw [bar_zero]; grind
/-- d in the radical: the shift keeps the form -/
theorem shift_rad (hS : S.ok) {f d : S.R} (hd : ∀ x, S.prod x d = 0) (hv : S.value d = 0) (h1 : 1 + dot d f ≠ 0) : S.Iso (shift f d) := by
  have hd2 : ∀ x, S.prod d x = 0 := fun x => by rw [prod_sw hS x d, hd, sw_zero]
  refine ⟨shift_len _ _, fun x => ?_, fun x z => ?_, fun x hx => shift_inj h1 hx⟩
  · rw [moved_shift, value_shift hS, hd, hv, show (0 : El S.F) * S.sg (dot x f) = 0 by grind, tr_zero]
    grind
  · rw [moved_shift, moved_shift, prod_shift, hd, hd2, hd2]
    grind
/-- on what is perpendicular to d the shift keeps the form -/
theorem shift_perp (hS : S.ok) {f d : S.R} (hv : S.value d = 0) (hdd : S.prod d d = 0) {x : S.R} (hx : S.prod x d = 0) : S.value (moved x (shift f d)) = S.value x ∧ ∀ z, S.prod z d = 0 → S.prod (moved x (shift f d)) (moved z (shift f d)) = S.prod x z := by
  refine ⟨?_, fun z hz => ?_⟩
  · rw [moved_shift, value_shift hS, hx, hv, show (0 : El S.F) * S.sg (dot x f) = 0 by grind, tr_zero]
    grind
  · rw [moved_shift, moved_shift, prod_shift, hx, prod_sw hS z d, hz, sw_zero, hdd]
    grind
end
end Wk
/-! # WkF6 -/
set_option Elab.async false
set_option linter.all false
set_option maxRecDepth 100000
set_option maxHeartbeats 4000000
/-! The step beyond: parts. -/
namespace Wk
theorem solve_ex2 {F : Fd} {n : Nat} {rows : List (Row F n)} {right : List (El F)} (h : ∀ w, InSp ((rows.zip right).map fun p => rsnoc p.1 p.2) w → ini w = rzero → w (Fin.last n) = 0) : ∃ x, solve rows right = some x := by
  have fit := red_fit ((rows.zip right).map fun p => rsnoc p.1 p.2)
  have sp := span_mem ((rows.zip right).map fun p => rsnoc p.1 p.2)
  unfold span at sp
  have hl : Fin.last n ∉ (red ((rows.zip right).map fun p => rsnoc p.1 p.2)).piv := fun hl => by
    obtain ⟨t, ht⟩ := zip_of_memR fit.len hl
    have h1 : t (Fin.last n) = 1 := fit.one _ ht
    have hin := (sp t).mp (.gen (List.of_mem_zip ht).1)
    have h3 : ini t = rzero := by
      funext i
      exact fit.lead _ ht i.castSucc (show i.val < n from i.isLt)
    rw [h t hin h3] at h1
    exact e_zno h1
  unfold solve
  exact ⟨_, if_neg hl⟩
section
variable {S : Spc}
theorem perp_mem (d x : S.R) : InSp (S.perp [d]) x ↔ S.prod x d = 0 := by
  unfold Spc.perp
  rw [kernel_mem]
  show (∀ r ∈ [S.facing d], dot r x = 0) ↔ dot x (S.facing d) = 0
  rw [dot_comm x]
  simp
theorem unit_all (hS : S.ok) {d : S.R} (h : ∀ i, S.prod (runit i) d = 0) : InSp S.radical d := (rad_mem hS d).mpr fun y => by
  have : ∀ v, InSp (List.ofFn (runit : Fin S.n → S.R)) v → S.prod v d = 0 := fun v hv => prod_InSpL (fun r hr => by
    obtain ⟨i, rfl⟩ := List.mem_ofFn.mp hr
    exact h i) hv
  exact this y (unit_span y)
theorem find_unit (hS : S.ok) {d : S.R} (h : ¬ InSp S.radical d) : ∃ i, (List.finRange S.n).find? (fun i => !decide (S.prod (runit i) d = 0)) = some i ∧ S.prod (runit i) d ≠ 0 := by
  cases hf : (List.finRange S.n).find? fun i => !decide (S.prod (runit i) d = 0) with
  | some i => exact ⟨i, rfl, by simpa using List.find?_some hf⟩
  | none =>
    exfalso
    apply h
    refine unit_all hS fun i => ?_
    have := List.find?_eq_none.mp hf i (List.mem_finRange i)
    simpa using this
/-- a shift that takes a vector into the radical has it there already -/
theorem shift_back (hS : S.ok) {f d x : S.R} (hR : ∀ r, InSp S.radical r → dot r f = 0) (h1 : 1 + dot d f ≠ 0) (h : InSp S.radical (moved x (shift f d))) : InSp S.radical x := by
  have h2 := hR _ h
  rw [moved_shift, dot_addL, dot_sclL] at h2
  have h3 : dot x f = 0 := by
    apply Classical.byContradiction
    intro z
    have : dot x f * (1 + dot d f) ≠ 0 := by grind
    apply this
    grind
  rw [moved_shift, h3, rscl_zero, radd_zero] at h
  exact h
end
end Wk
/-! # WkF7 -/
set_option Elab.async false
set_option linter.all false
set_option maxRecDepth 100000
set_option maxHeartbeats 4000000
/-! The step beyond: the image of z. -/
namespace Wk
section
variable {S : Spc}
theorem bey_solve (hS : S.ok) {f d z : S.R} (hR : ∀ r, InSp S.radical r → dot r f = 0) (h1 : 1 + dot d f ≠ 0) (own : List S.R) :
    ∃ y, solve ((times own (shift f d)).map S.funs) (own.map fun row => S.prod z row) = some y ∧ ∀ o, InSp own o → S.prod y (moved o (shift f d)) = S.prod z o := by
  have hl := shift_len f d
  have cl : ∀ w, InSp ((((times own (shift f d)).map S.funs).zip (own.map fun row => S.prod z row)).map fun p => rsnoc p.1 p.2) w → ∃ o, InSp own o ∧ ini w = S.funs (moved o (shift f d)) ∧ w (Fin.last S.n) = S.prod z o := fun w hw => by
    induction hw with
    | zero =>
      refine ⟨rzero, .zero, ?_, ?_⟩
      · rw [moved_zero _ hl]
        funext i
        exact (prod_zeroR (runit i : S.R)).symm
      · exact (prod_zeroR z).symm
    | @step v r _ hr c ih =>
      obtain ⟨o, o1, o2, o3⟩ := ih
      obtain ⟨q, hq, rfl⟩ := List.mem_map.mp hr
      have hq2 : ∃ a ∈ own, q = (S.funs (moved a (shift f d)), S.prod z a) := by
        unfold times at hq
        rw [List.map_map, List.zip_map'] at hq
        obtain ⟨a, ha, rfl⟩ := List.mem_map.mp hq
        exact ⟨a, ha, rfl⟩
      obtain ⟨a, ha, rfl⟩ := hq2
      refine ⟨radd o (rscl a (S.sg c)), o1.step ha _, ?_, ?_⟩
      · rw [moved_add _ _ _ hl, moved_scl _ _ _ hl]
        funext i
        have e1 : ini v i = S.prod (runit i) (moved o (shift f d)) := congrFun o2 i
        have e2 : ini (rsnoc (S.funs (moved a (shift f d))) (S.prod z a)) i = S.prod (runit i) (moved a (shift f d)) := by rw [ini_snoc]; rfl
        show ini v i + ini (rsnoc (S.funs (moved a (shift f d))) (S.prod z a)) i * c = S.prod (runit i) (radd (moved o (shift f d)) (rscl (moved a (shift f d)) (S.sg c)))
        rw [prod_addR, prod_sclR, S.sg_sg, e1, e2]
      · show v (Fin.last S.n) + rsnoc (S.funs (moved a (shift f d))) (S.prod z a) (Fin.last S.n) * c = _
        rw [last_snoc, o3, prod_addR, prod_sclR, S.sg_sg]
  obtain ⟨y, hy⟩ := solve_ex2 (rows := (times own (shift f d)).map S.funs) (right := own.map fun row => S.prod z row) fun w hw h0 => by
    obtain ⟨o, o1, o2, o3⟩ := cl w hw
    rw [h0] at o2
    have hin : InSp S.radical (moved o (shift f d)) := unit_all hS fun i => (congrFun o2 i).symm
    rw [o3]
    exact (rad_mem hS o).mp (shift_back hS hR h1 hin) z
  refine ⟨y, hy, fun o ho => ?_⟩
  have hs := solve_some hy
  have gen : ∀ a ∈ own, S.prod y (moved a (shift f d)) = S.prod z a := fun a ha => by
    have hq : (S.funs (moved a (shift f d)), S.prod z a) ∈ ((times own (shift f d)).map S.funs).zip (own.map fun row => S.prod z row) := by
      unfold times
      rw [List.map_map, List.zip_map']
      exact List.mem_map.mpr ⟨a, ha, rfl⟩
    have := hs _ hq
    rw [← dot_funs, dot_comm]
    exact this
  induction ho with
  | zero => rw [moved_zero _ hl, prod_zeroR, prod_zeroR]
  | step _ hr c ih => rw [moved_add _ _ _ hl, moved_scl _ _ _ hl, prod_addR, prod_sclR, prod_addR, prod_sclR, ih, gen _ hr]
def trB (F : Fd) : Bool := if F.q = 4 ∨ F.q = 9 then allE F fun a => !decide (ebar a = a) || !(allE F fun t => !decide (t + ebar t = a)) else true
theorem trAll (F : Fd) : trB F = true := by
  obtain ⟨q, ok⟩ := F
  rcases ok with rfl | rfl | rfl | rfl | rfl | rfl
  · decide +kernel
  · decide +kernel
  · decide +kernel
  · decide +kernel
  · decide +kernel
  · decide +kernel
end
end Wk
/-! # WkF8 -/
set_option Elab.async false
set_option linter.all false
set_option maxRecDepth 100000
set_option maxHeartbeats 4000000
/-! The step beyond is right. -/
namespace Wk
section
variable {S : Spc}
theorem tr_onto (hS : S.ok) {b v : El S.F} (hb : b ≠ 0) (hk : S.kind = .herm) (hv : ebar v = v) : ∃ k, S.tr (b * S.sg k) = v := by
  have h := trAll S.F
  unfold trB at h
  rw [if_pos (hS.herm hk)] at h
  have h2 := allE_spec h v
  rw [decide_eq_true hv] at h2
  have h2 : allE S.F (fun t => !decide (t + ebar t = v)) = false := by simpa using h2
  unfold allE at h2
  rw [List.all_eq_false] at h2
  obtain ⟨t, _, ht⟩ := h2
  have ht : (show El S.F from t) + ebar (show El S.F from t) = v := by simpa using ht
  refine ⟨ebar ((show El S.F from t) * b⁻¹), ?_⟩
  unfold Spc.tr Spc.sg
  rw [hk]
  simp only [if_true]
  rw [bar_bar]
  have e : b * ((show El S.F from t) * b⁻¹) = (show El S.F from t) := by
    have := Lean.Grind.Field.mul_inv_cancel hb
    grind
  rw [e]
  exact ht
theorem value_fix (hS : S.ok) (hk : S.kind = .herm) (x : S.R) : ebar (S.value x) = S.value x := by
  rw [value_herm hk]
  have := prod_sw hS x x
  unfold Spc.sw at this
  rw [hk] at this
  exact this.symm
theorem bey_find (hS : S.ok) {y d z : S.R} (hv : S.value d = 0) (hyd : S.prod y d ≠ 0) : ∃ k, (els S.F).find? (fun k => decide (S.value (radd y (rscl d k)) = S.value z)) = some k ∧ S.value (radd y (rscl d k)) = S.value z := by
  have ex : ∃ k, S.value (radd y (rscl d k)) = S.value z := by
    cases hk : S.kind with
    | alt => exact ⟨0, by rw [value_alt hk, value_alt hk]⟩
    | quad =>
      refine ⟨(S.value z + -(S.value y)) * (S.prod y d)⁻¹, ?_⟩
      rw [value_shift hS, hv]
      unfold Spc.tr Spc.sg
      rw [hk]
      simp only [reduceCtorEq, if_false]
      have := Lean.Grind.Field.mul_inv_cancel hyd
      grind
    | herm =>
      obtain ⟨k, hk2⟩ := tr_onto hS hyd hk (v := S.value z + -(S.value y)) (by rw [bar_add, bar_neg, value_fix hS hk, value_fix hS hk])
      refine ⟨k, ?_⟩
      rw [value_shift hS, hv, hk2]
      grind
  cases hf : (els S.F).find? fun k => decide (S.value (radd y (rscl d k)) = S.value z) with
  | some k => exact ⟨k, rfl, by simpa using List.find?_some hf⟩
  | none =>
    obtain ⟨k, hk⟩ := ex
    have := List.find?_eq_none.mp hf k (els_mem k)
    exact absurd hk (by simpa using this)
end
end Wk
/-! # WkF9 -/
set_option Elab.async false
set_option linter.all false
set_option maxRecDepth 100000
set_option maxHeartbeats 4000000
namespace Wk
section
variable {S : Spc}
theorem moved_InSp {F : Fd} {n : Nat} {l : List (Row F n)} {A B : List (Row F n)} (hA : A.length = n) (hB : B.length = n) (h : ∀ r ∈ l, moved r A = moved r B) {v : Row F n} (hv : InSp l v) : moved v A = moved v B := by
  induction hv with
  | zero => rw [moved_zero _ hA, moved_zero _ hB]
  | step _ hr c ih => rw [moved_add _ _ _ hA, moved_scl _ _ _ hA, moved_add _ _ _ hB, moved_scl _ _ _ hB, ih, h _ hr]
theorem beyond_ok (hS : S.ok) {f d : S.R} (hv : S.value d = 0) (hdd : S.prod d d = 0) (hR : ∀ r, InSp S.radical r → dot r f = 0) (h1 : 1 + dot d f ≠ 0) (hd : ¬ InSp S.radical d) :
    ∃ M, S.beyond (shift f d) d = some M ∧ S.Iso M ∧ ∀ x, S.prod x d = 0 → moved x M = moved x (shift f d) := by
  have hl := shift_len f d
  obtain ⟨i, i1, i2⟩ := find_unit hS hd
  obtain ⟨y, y1, y2⟩ := bey_solve hS (z := runit i) hR h1 (S.perp [d])
  generalize hz : (runit i : S.R) = z at *
  have dd : InSp (S.perp [d]) d := (perp_mem d d).mpr hdd
  have md : moved d (shift f d) = rscl d (1 + dot d f) := by
    rw [moved_shift, rscl_addc, rscl_one]
  have hyd : S.prod y d ≠ 0 := fun e => by
    have := y2 d dd
    rw [md, prod_sclR, e] at this
    exact i2 (by grind)
  obtain ⟨k, k1, k2⟩ := bey_find hS hv hyd (z := z)
  have hzo : ¬ InSp (S.perp [d]) z := fun e => i2 ((perp_mem d z).mp e)
  have hind : Ind (S.perp [d] ++ [z]) := ind_snoc.mpr ⟨ind_span _, hzo⟩
  have split : ∀ x, ∃ o t, InSp (S.perp [d]) o ∧ x = radd o (rscl z t) := fun x => by
    refine ⟨radd x (rscl z (-(S.prod x d * (S.prod z d)⁻¹))), S.prod x d * (S.prod z d)⁻¹, (perp_mem d _).mpr ?_, ?_⟩
    · rw [prod_addL, prod_sclL]
      have := Lean.Grind.Field.mul_inv_cancel i2
      grind
    · funext j
      show x j = x j + z j * -(S.prod x d * (S.prod z d)⁻¹) + z j * (S.prod x d * (S.prod z d)⁻¹)
      grind
  have hall : ∀ x, InSp (S.perp [d] ++ [z]) x := fun x => by
    obtain ⟨o, t, ho, rfl⟩ := split x
    exact InSp_snoc.mpr ⟨o, ho, t, rfl⟩
  have hlen := ind_count hind hall
  obtain ⟨M, M1, M2, M3⟩ := ofImages_ok (rows := S.perp [d] ++ [z]) (images := times (S.perp [d]) (shift f d) ++ [radd y (rscl d k)]) hlen (by
    rw [List.length_append, List.length_singleton] at hlen ⊢
    unfold times
    rw [List.length_map]
    exact hlen) hind
  have Mo : ∀ x, InSp (S.perp [d]) x → moved x M = moved x (shift f d) := fun x hx => moved_InSp M2 hl (fun r hr => by
    refine M3 (r, moved r (shift f d)) ?_
    rw [List.zip_append (by unfold times; rw [List.length_map])]
    refine List.mem_append_left _ ?_
    unfold times
    obtain ⟨j, hj, rfl⟩ := List.mem_iff_getElem.mp hr
    exact List.mem_iff_getElem.mpr ⟨j, by rw [List.length_zip, List.length_map]; omega, by simp⟩) hx
  have Mz : moved z M = radd y (rscl d k) := by
    refine M3 (z, radd y (rscl d k)) ?_
    rw [List.zip_append (by unfold times; rw [List.length_map])]
    exact List.mem_append_right _ (by simp)
  have pd : ∀ o, InSp (S.perp [d]) o → S.prod d (moved o (shift f d)) = 0 := fun o ho => by
    have h0 := (perp_mem d o).mp ho
    rw [moved_shift, prod_addR, prod_sclR, hdd, prod_sw hS o d, h0, sw_zero]
    grind
  have pz : ∀ o, InSp (S.perp [d]) o → S.prod (moved z M) (moved o M) = S.prod z o := fun o ho => by
    rw [Mz, Mo o ho, prod_addL, prod_sclL, y2 o ho, pd o ho]
    grind
  have pz2 : ∀ o, InSp (S.perp [d]) o → S.prod (moved o M) (moved z M) = S.prod o z := fun o ho => by
    rw [prod_sw hS (moved z M) (moved o M), pz o ho, ← prod_sw hS z o]
  have po : ∀ o o', InSp (S.perp [d]) o → InSp (S.perp [d]) o' → S.prod (moved o M) (moved o' M) = S.prod o o' := fun o o' ho ho' => by
    rw [Mo o ho, Mo o' ho']
    exact (shift_perp hS hv hdd ((perp_mem d o).mp ho)).2 o' ((perp_mem d o').mp ho')
  have pzz : S.prod (moved z M) (moved z M) = S.prod z z := by
    rw [Mz]
    cases hk : S.kind with
    | alt => rw [prod_alt hS hk, prod_alt hS hk]
    | herm => rw [← value_herm hk, ← value_herm hk, k2]
    | quad =>
      have q2 : ∀ x, S.prod x x = S.value x + S.value x := fun x => by
        have h1 := value_add hS x x
        have e : radd x x = rscl x (1 + 1) := by rw [rscl_addc, rscl_one]
        rw [e, value_scl] at h1
        unfold Spc.nm Spc.tr at h1
        rw [hk] at h1
        have h1 : S.value x * ((1 + 1) * (1 + 1)) = S.value x + S.value x + S.prod x x := h1
        grind
      rw [q2, q2, k2]
  refine ⟨M, ?_, ⟨M2, fun x => ?_, fun x x' => ?_, fun x hx => ?_⟩, fun x hx => Mo x ((perp_mem d x).mpr hx)⟩
  · unfold Spc.beyond
    rw [i1]
    simp only [hz, y1, k1]
    exact M1
  · obtain ⟨o, t, ho, rfl⟩ := split x
    rw [moved_add _ _ _ M2, moved_scl _ _ _ M2, value_shift hS, value_shift hS, pz2 o ho]
    have e1 : S.value (moved o M) = S.value o := by rw [Mo o ho]; exact (shift_perp hS hv hdd ((perp_mem d o).mp ho)).1
    have e2 : S.value (moved z M) = S.value z := by rw [Mz]; exact k2
    rw [e1, e2]
  · obtain ⟨o, t, ho, rfl⟩ := split x
    obtain ⟨o', t', ho', rfl⟩ := split x'
    rw [moved_add _ _ _ M2, moved_scl _ _ _ M2, moved_add _ _ _ M2, moved_scl _ _ _ M2, prod_shift, prod_shift, po o o' ho ho', pz2 o ho, pz o' ho', pzz]
  · obtain ⟨o, t, ho, rfl⟩ := split x
    rw [moved_add _ _ _ M2, moved_scl _ _ _ M2] at hx
    have e1 : S.prod (radd (moved o M) (rscl (moved z M) t)) (moved d M) = 0 := by rw [hx, prod_zeroL]
    rw [prod_addL, prod_sclL, po o d ho dd, pz d dd, (perp_mem d o).mp ho] at e1
    have ht : t = 0 := by
      apply Classical.byContradiction
      intro ht
      have : S.prod z d * t ≠ 0 := by grind
      apply this
      grind
    subst ht
    rw [rscl_zero, radd_zero, Mo o ho] at hx
    rw [shift_inj h1 hx, rscl_zero, radd_zero]
end
end Wk
/-! # WkG1 -/
set_option Elab.async false
set_option linter.all false
set_option maxRecDepth 100000
set_option maxHeartbeats 4000000
/-! A step is right. -/
namespace Wk
section
variable {S : Spc}
theorem moved_ident {F : Fd} {n : Nat} (x : Row F n) : moved x (ident F n) = x := by
  have e : ident F n = List.ofFn (runit : Fin n → Row F n) := by
    unfold ident
    apply List.ext_getElem
    · simp
    · intro i h1 h2; simp
  unfold moved
  rw [e]
  exact (unit_comb x).symm
theorem ident_iso (S : Spc) : S.Iso (ident S.F S.n) := ⟨by unfold ident; rw [List.length_map, List.length_finRange], fun x => by rw [moved_ident], fun x y => by rw [moved_ident, moved_ident], fun x h => by rw [moved_ident] at h; exact h⟩
theorem rad_holds (d : S.R) : holds S.radical d = true ↔ InSp S.radical d := by
  unfold Spc.radical kernel
  rw [holds_iff, span_mem]
theorem step_ok (hS : S.ok) {head : List S.R} {w y : S.R} (hv : S.value w = S.value y) (hb : ∀ r ∈ head, S.prod r w = S.prod r y) (hw : ¬ InSp (head ++ S.radical) w) (hy : ¬ InSp (head ++ S.radical) y) :
    ∃ M, S.step head w y = some M ∧ S.Iso M ∧ moved w M = y ∧ ∀ r ∈ head, moved r M = r := by
  have hbd : ∀ r ∈ head, S.prod r (rsub y w) = 0 := fun r hr => by
    unfold rsub
    rw [prod_addR, prod_sclR, S.sg_neg, S.sg_one, hb r hr]
    grind
  have hyw : radd w (rsub y w) = y := by funext i; show w i + (y i + w i * -1) = y i; grind
  unfold Spc.step
  by_cases h0 : rsub y w = rzero
  · rw [if_pos h0]
    refine ⟨_, rfl, ident_iso S, ?_, fun r _ => moved_ident r⟩
    rw [moved_ident, ← hyw, h0, radd_zero]
  rw [if_neg h0]
  by_cases hc : S.prod w (rsub y w) ≠ 0
  · rw [if_pos hc]
    obtain ⟨s1, s2, s3⟩ := step_c hS hv hc
    exact ⟨_, rfl, s1, s2, fun r hr => s3 r (hbd r hr)⟩
  rw [if_neg hc]
  have hc : S.prod w (rsub y w) = 0 := by
    apply Classical.byContradiction
    exact hc
  obtain ⟨hdv, hdd⟩ := value_sing hS hv hc
  generalize rsub y w = d at *
  have z1 : ∀ z ∈ S.zeros1 head d, z ∈ head ++ S.radical := fun z hz => by
    unfold Spc.zeros1 at hz
    split at hz
    · exact List.mem_append_left _ hz
    · exact hz
  have hw1 : ¬ InSp (S.zeros1 head d) w := fun h => hw (h.mono z1)
  have hy1 : ¬ InSp (S.zeros1 head d) (radd w d) := fun h => hy (by rw [← hyw]; exact h.mono z1)
  have hzs : (S.zeros head w d = S.zeros1 head d ∧ InSp (S.zeros1 head d ++ [w]) d) ∨ (S.zeros head w d = S.zeros1 head d ++ [d] ∧ ¬ InSp (S.zeros1 head d ++ [w]) d) := by
    unfold Spc.zeros
    by_cases h : holds (span (S.zeros1 head d ++ [w])) d = true
    · rw [if_pos h]
      exact .inl ⟨rfl, (holds_iff _ _).mp h⟩
    · rw [if_neg h]
      exact .inr ⟨rfl, fun z => h ((holds_iff _ _).mpr z)⟩
  have hwZ : ¬ InSp (S.zeros head w d) w := by
    rcases hzs with ⟨e, _⟩ | ⟨e, hd⟩
    · rw [e]; exact hw1
    · rw [e]
      intro h
      obtain ⟨s, hs, t, ht⟩ := InSp_snoc.mp h
      by_cases t0 : t = 0
      · rw [t0, rscl_zero, radd_zero] at ht
        exact hw1 (by rw [ht]; exact hs)
      · apply hd
        have hti := Lean.Grind.Field.mul_inv_cancel t0
        refine InSp_snoc.mpr ⟨rscl s (-(t⁻¹)), hs.scl _, t⁻¹, ?_⟩
        funext i
        have := congrFun ht i
        have : w i = s i + d i * t := this
        show d i = s i * -(t⁻¹) + w i * t⁻¹
        rw [this]
        grind
  obtain ⟨x0, x1, x2⟩ := sep_ex hwZ
  have zipm : ∀ (Z : List S.R) (q : S.R × El S.F), q ∈ (Z ++ [w]).zip (List.replicate Z.length (0 : El S.F) ++ [1]) → (q.1 ∈ Z ∧ q.2 = 0) ∨ (q.1 = w ∧ q.2 = 1) := fun Z q hq => by
    rw [List.zip_append (by simp)] at hq
    rcases List.mem_append.mp hq with hq | hq
    · have := List.of_mem_zip (show (q.1, q.2) ∈ Z.zip (List.replicate Z.length 0) from hq)
      exact .inl ⟨this.1, List.eq_of_mem_replicate this.2⟩
    · have : q = (w, 1) := by simpa using hq
      rw [this]
      exact .inr ⟨rfl, rfl⟩
  obtain ⟨f, hf⟩ := solve_ex (rows := S.zeros head w d ++ [w]) (right := List.replicate (S.zeros head w d).length 0 ++ [1]) (x0 := x0) fun q hq => by
    rcases zipm _ q hq with ⟨a, b⟩ | ⟨a, b⟩
    · rw [b]; exact x1 _ a
    · rw [a, b]; exact x2
  have hsol := solve_some hf
  have fz : ∀ z ∈ S.zeros head w d, dot z f = 0 := fun z hz => by
    refine hsol (z, 0) ?_
    rw [List.zip_append (by simp)]
    refine List.mem_append_left _ ?_
    obtain ⟨j, hj, rfl⟩ := List.mem_iff_getElem.mp hz
    exact List.mem_iff_getElem.mpr ⟨j, by rw [List.length_zip, List.length_replicate]; omega, by simp⟩
  have fw : dot w f = 1 := by
    refine hsol (w, 1) ?_
    rw [List.zip_append (by simp)]
    exact List.mem_append_right _ (by simp)
  have fz1 : ∀ z ∈ S.zeros1 head d, dot z f = 0 := fun z hz => by
    refine fz z ?_
    rcases hzs with ⟨e, _⟩ | ⟨e, _⟩
    · rw [e]; exact hz
    · rw [e]; exact List.mem_append_left _ hz
  have h1 : 1 + dot d f ≠ 0 := one_add_ne fz1 fw (by
    rcases hzs with ⟨e, hd⟩ | ⟨e, _⟩
    · exact .inl hd
    · exact .inr (fz d (by rw [e]; exact List.mem_append_right _ (List.mem_singleton.mpr rfl)))) hy1
  have fh : ∀ r ∈ head, dot r f = 0 := fun r hr => fz1 r (by
    unfold Spc.zeros1
    split
    · exact hr
    · exact List.mem_append_left _ hr)
  rw [hf]
  have mw : moved w (shift f d) = y := by rw [moved_shift, fw, rscl_one, hyw]
  have mr : ∀ r ∈ head, moved r (shift f d) = r := fun r hr => by rw [moved_shift, fh r hr, rscl_zero, radd_zero]
  by_cases hr : holds S.radical d = true
  · show ∃ M, (if holds S.radical d = true then some (shift f d) else S.beyond (shift f d) d) = some M ∧ _
    rw [if_pos hr]
    exact ⟨_, rfl, shift_rad hS ((rad_mem hS d).mp ((rad_holds d).mp hr)) hdv h1, mw, mr⟩
  · show ∃ M, (if holds S.radical d = true then some (shift f d) else S.beyond (shift f d) d) = some M ∧ _
    rw [if_neg hr]
    have frad : ∀ r, InSp S.radical r → dot r f = 0 := fun r hin => dot_zeroOn (fun z hz => fz1 z (by
      unfold Spc.zeros1
      rw [if_neg hr]
      exact List.mem_append_right _ hz)) hin
    obtain ⟨M, M1, M2, M3⟩ := beyond_ok hS hdv hdd frad h1 (fun z => hr ((rad_holds d).mpr z))
    exact ⟨M, M1, M2, by rw [M3 w hc, mw], fun r hh => by rw [M3 r (hbd r hh), mr r hh]⟩
end
end Wk
/-! # WkG2 -/
set_option Elab.async false
set_option linter.all false
set_option maxRecDepth 100000
set_option maxHeartbeats 4000000
/-! More on independence; isometries compose, are onto, keep the radical. -/
namespace Wk
section
variable {F : Fd} {n k : Nat}
theorem ind_of_span {l m : List (Row F n)} (hl : Ind l) (h : ∀ v, InSp l v → InSp m v) (e : m.length ≤ l.length) : Ind m := by
  have h1 := (lfree_ind l).mpr hl
  rw [← lfree_ind]
  unfold lfree at h1 ⊢
  have h2 := nodup_sub_len (lspan_nodup l) (m := lspan m) fun v hv => (mem_lspan m v).mpr (h v ((mem_lspan l v).mp hv))
  have h3 := lspan_le m
  rw [h1] at h2
  exact Nat.le_antisymm h3 (Nat.le_trans (Nat.pow_le_pow_right F.pos e) h2)
theorem ofFn_of {A : Type} {c : List A} (h : c.length = n) : ∃ v : Fin n → A, c = List.ofFn v := ⟨fun i => c[i.val]'(by omega), by
  apply List.ext_getElem
  · simp [h]
  · intro i h1 h2; simp⟩
theorem moved_inj {M : List (Row F n)} (h : Ind M) (hl : M.length = k) {x : Row F k} (hx : moved x M = rzero) : x = rzero := by
  have := h (List.ofFn x) (by simp [hl]) hx
  funext i
  exact this _ (List.mem_ofFn.mpr ⟨i, rfl⟩)
theorem ind_of_inj {M : List (Row F n)} (hl : M.length = k) (h : ∀ x : Row F k, moved x M = rzero → x = rzero) : Ind M := fun c hc h0 y hy => by
  obtain ⟨v, rfl⟩ := ofFn_of (hc.trans hl)
  have := h v h0
  obtain ⟨i, rfl⟩ := List.mem_ofFn.mp hy
  rw [this]
  rfl
theorem moved_onto {M : List (Row F n)} (h : Ind M) (hl : M.length = n) (y : Row F n) : ∃ x : Row F n, moved x M = y := by
  obtain ⟨c, hc, e⟩ := (ind_all h hl y).coef
  obtain ⟨v, rfl⟩ := ofFn_of (hc.trans hl)
  exact ⟨v, e⟩
theorem unit_ind : Ind (List.ofFn (runit : Fin n → Row F n)) := ind_of_inj (k := n) (by simp) fun x hx => by
  have e := unit_comb x
  rw [e]
  exact hx
theorem ident_ofFn (F : Fd) (n : Nat) : ident F n = List.ofFn (runit : Fin n → Row F n) := by
  unfold ident
  apply List.ext_getElem
  · simp
  · intro i h1 h2; simp
theorem InSp_append {l m : List (Row F n)} {v : Row F n} (h : InSp (l ++ m) v) : ∃ a b, InSp l a ∧ InSp m b ∧ v = radd a b := by
  induction h with
  | zero => exact ⟨rzero, rzero, .zero, .zero, (radd_zero _).symm⟩
  | step h hr c ih =>
    obtain ⟨a, b, ha, hb, rfl⟩ := ih
    rcases List.mem_append.mp hr with hr | hr
    · refine ⟨_, b, ha.step hr c, hb, ?_⟩
      rw [radd_assoc, radd_assoc, radd_comm b]
    · exact ⟨a, _, ha, hb.step hr c, radd_assoc _ _ _⟩
theorem InSp.appL {l m : List (Row F n)} {v : Row F n} (h : InSp l v) : InSp (l ++ m) v := h.mono fun _ hr => List.mem_append_left _ hr
theorem InSp.appR {l m : List (Row F n)} {v : Row F n} (h : InSp m v) : InSp (l ++ m) v := h.mono fun _ hr => List.mem_append_right _ hr
theorem InSp.neg {l : List (Row F n)} {a b : Row F n} (h : InSp l b) (e : radd a b = rzero) : InSp l a := by
  have : a = rscl b (-1) := by
    funext i
    have := congrFun e i
    have : a i + b i = 0 := this
    show a i = b i * -1
    grind
  rw [this]
  exact h.scl _
theorem InSp.sub {l : List (Row F n)} {a b : Row F n} (h : InSp l (radd a b)) (hb : InSp l b) : InSp l a := by
  have : a = radd (radd a b) (rscl b (-1)) := by
    funext i
    show a i = a i + b i + b i * -1
    grind
  rw [this]
  exact h.add (hb.scl _)
theorem sub_comb {l m : List (Row F n)} (h : m.Sublist l) : ∀ c : List (El F), c.length = m.length → ∃ c' : List (El F), c'.length = l.length ∧ comb l c' = comb m c ∧ ∀ x ∈ c, x ∈ c' := by
  induction h with
  | slnil => intro c hc; exact ⟨c, hc, rfl, fun x h => h⟩
  | cons a _ ih =>
    intro c hc
    obtain ⟨c', h1, h2, h3⟩ := ih c hc
    exact ⟨0 :: c', by simp [h1], by rw [comb_cons, rscl_zero, zero_radd, h2], fun x hx => List.mem_cons_of_mem _ (h3 x hx)⟩
  | cons_cons a _ ih =>
    intro c hc
    match c, hc with
    | x :: c, hc =>
      obtain ⟨c', h1, h2, h3⟩ := ih c (by simpa using hc)
      refine ⟨x :: c', by simp [h1], by rw [comb_cons, comb_cons, h2], fun y hy => ?_⟩
      rcases List.mem_cons.mp hy with e | hy
      · rw [e]; exact List.mem_cons_self ..
      · exact List.mem_cons_of_mem _ (h3 y hy)
theorem Ind.sub {l m : List (Row F n)} (hl : Ind l) (h : m.Sublist l) : Ind m := fun c hc h0 x hx => by
  obtain ⟨c', h1, h2, h3⟩ := sub_comb h c hc
  exact hl c' h1 (h2.trans h0) x (h3 x hx)
theorem ind_app {l m : List (Row F n)} (hl : Ind l) (hm : Ind m) (h : ∀ v, InSp l v → InSp m v → v = rzero) : Ind (l ++ m) := fun c hc h0 => by
  have hc : c.length = l.length + m.length := by rw [hc, List.length_append]
  have e : c = c.take l.length ++ c.drop l.length := (List.take_append_drop _ _).symm
  have l1 : (c.take l.length).length = l.length := by rw [List.length_take]; omega
  have l2 : (c.drop l.length).length = m.length := by rw [List.length_drop]; omega
  rw [e, comb_append l m _ _ l1] at h0
  have b0 : InSp m (comb m (c.drop l.length)) := InSp.comb _ fun _ h => h
  have a0 : InSp l (comb l (c.take l.length)) := InSp.comb _ fun _ h => h
  have az := h _ a0 (b0.neg h0)
  rw [az, zero_radd] at h0
  intro x hx
  rw [e] at hx
  rcases List.mem_append.mp hx with hx | hx
  · exact hl _ l1 az x hx
  · exact hm _ l2 h0 x hx
theorem ind_cut {l m : List (Row F n)} (h : Ind (l ++ m)) {v : Row F n} (hl : InSp l v) (hm : InSp m v) : v = rzero := by
  obtain ⟨c, hc, e⟩ := hl.coef
  obtain ⟨d, hd, e2⟩ := (hm.scl (-1)).coef
  have := h (c ++ d) (by simp [hc, hd]) (by rw [comb_append l m c d hc, e, e2, radd_neg])
  have hz := all_zero (c := c) fun x hx => this x (List.mem_append_left _ hx)
  rw [← e, hz, comb_zero]
/-! images of lists of weights -/
theorem InSp.times {A : List (Row F k)} {M : List (Row F n)} (hM : M.length = k) {c : Row F k} (h : InSp A c) : InSp (Wk.times A M) (moved c M) := by
  induction h with
  | zero => rw [moved_zero _ hM]; exact .zero
  | step h hr x ih =>
    rw [moved_add _ _ _ hM, moved_scl _ _ _ hM]
    exact ih.step (List.mem_map.mpr ⟨_, hr, rfl⟩) x
theorem InSp.of_times {A : List (Row F k)} {M : List (Row F n)} (hM : M.length = k) {v : Row F n} (h : InSp (Wk.times A M) v) : ∃ c, InSp A c ∧ v = moved c M := by
  induction h with
  | zero => exact ⟨rzero, .zero, (moved_zero _ hM).symm⟩
  | step h hr x ih =>
    obtain ⟨c, hc, rfl⟩ := ih
    obtain ⟨r, hr2, rfl⟩ := List.mem_map.mp hr
    exact ⟨_, hc.step hr2 x, by rw [moved_add _ _ _ hM, moved_scl _ _ _ hM]⟩
theorem comb_times {M : List (Row F n)} (hM : M.length = k) : ∀ (A : List (Row F k)) (c : List (El F)), comb (times A M) c = moved (comb A c) M
  | [], c => (moved_zero M hM).symm
  | r :: A, [] => by rw [comb_nilR, comb_nilR, moved_zero M hM]
  | r :: A, x :: c => by
    rw [comb_cons, moved_add _ _ _ hM, moved_scl _ _ _ hM, ← comb_times hM A c]
    exact comb_cons _ _ _ _
theorem ind_times {A : List (Row F k)} {M : List (Row F n)} (hM : M.length = k) (hA : Ind A) (hi : Ind M) : Ind (times A M) := fun c hc h0 => by
  rw [comb_times hM] at h0
  exact hA c (by rw [hc]; unfold times; rw [List.length_map]) (moved_inj hi hM h0)
theorem moved_fix {l M : List (Row F n)} (hM : M.length = n) (h : ∀ r ∈ l, moved r M = r) {v : Row F n} (hv : InSp l v) : moved v M = v := by
  induction hv with
  | zero => exact moved_zero _ hM
  | step _ hr c ih => rw [moved_add _ _ _ hM, moved_scl _ _ _ hM, ih, h _ hr]
/-! complements -/
theorem pivs_span (l : List (Row F n)) : pivs (span l) = (red l).piv := (red_fit l).pivs
theorem compl_zero {l : List (Row F n)} {v : Row F n} (h : InSp (complRows (span l)) v) : ∀ p ∈ (red l).piv, v p = 0 := fun p hp => by
  have : dot v (runit p) = 0 := dot_InSp (fun r hr => by
    unfold complRows at hr
    obtain ⟨a, ha, rfl⟩ := List.mem_map.mp hr
    have ha := (List.mem_filter.mp ha).2
    rw [pivs_span] at ha
    rw [dot_unitL]
    exact unit_ne fun z => by subst z; simp at ha; exact ha hp) h
  rw [dot_comm, dot_unitL] at this
  exact this
theorem compl_all (l : List (Row F n)) (v : Row F n) : InSp (span l ++ complRows (span l)) v := by
  obtain ⟨h1, s, h2, h3⟩ := (red_fit l).rest v
  rw [h3]
  refine InSp.add (InSp.appR ?_) (InSp.appL h2)
  apply Classical.byContradiction
  intro hn
  obtain ⟨x, x1, x2⟩ := sep_ex hn
  have hx : ∀ a, a ∉ (red l).piv → x a = 0 := fun a ha => by
    rw [← dot_unitL a x]
    refine x1 _ ?_
    unfold complRows
    refine List.mem_map.mpr ⟨a, List.mem_filter.mpr ⟨List.mem_finRange a, ?_⟩, rfl⟩
    rw [pivs_span]
    simp [ha]
  rw [dot_sm] at x2
  have : lsm (fun i => rest (red l).table v i * x i) (List.finRange n) = 0 := by
    rw [lsm_congr (g := fun _ => 0) fun a _ => ?_, lsm_zero]
    by_cases ha : a ∈ (red l).piv
    · rw [h1 a ha]; grind
    · rw [hx a ha]; grind
  exact e_zno (this.symm.trans x2)
theorem compl_ind (l : List (Row F n)) : Ind (span l ++ complRows (span l)) := by
  refine ind_app (ind_span l) ?_ fun v h1 h2 => (red_fit l).zero h1 (compl_zero h2)
  have : (complRows (span l)).Sublist (ident F n) := List.Sublist.map _ List.filter_sublist
  rw [ident_ofFn] at this
  exact unit_ind.sub this
end
section
variable {S : Spc}
theorem Spc.Iso.comp {A B : List S.R} (hA : S.Iso A) (hB : S.Iso B) : S.Iso (times A B) :=
  ⟨by unfold times; rw [List.length_map, hA.len], fun x => by rw [moved_times hA.len hB.len, hB.val, hA.val], fun x y => by rw [moved_times hA.len hB.len, moved_times hA.len hB.len, hB.prd, hA.prd], fun x h => by
    rw [moved_times hA.len hB.len] at h
    exact hA.inj x (hB.inj _ h)⟩
theorem Spc.Iso.ind {M : List S.R} (h : S.Iso M) : Ind M := ind_of_inj h.len h.inj
theorem Spc.Iso.onto {M : List S.R} (h : S.Iso M) (y : S.R) : ∃ x : S.R, moved x M = y := moved_onto h.ind h.len y
theorem Spc.Iso.rad (hS : S.ok) {M : List S.R} (h : S.Iso M) (x : S.R) : InSp S.radical (moved x M) ↔ InSp S.radical x := by
  rw [rad_mem hS, rad_mem hS]
  refine ⟨fun g y => by rw [← h.prd, g], fun g y => ?_⟩
  obtain ⟨z, rfl⟩ := h.onto y
  rw [h.prd, g]
/-! rows whose values and products are those of their images -/
structure Spc.Kept (S : Spc) (L M : List S.R) : Prop where
  len : L.length = M.length
  val : ∀ q ∈ L.zip M, S.value q.1 = S.value q.2
  prd : ∀ q ∈ L.zip M, ∀ q' ∈ L.zip M, S.prod q.1 q'.1 = S.prod q.2 q'.2
theorem quad_two (hS : S.ok) (hk : S.kind = .quad) (x : S.R) : S.prod x x = S.value x + S.value x := by
  have h1 := value_add hS x x
  have e : radd x x = rscl x (1 + 1) := by rw [rscl_addc, rscl_one]
  rw [e, value_scl] at h1
  unfold Spc.nm Spc.tr at h1
  rw [hk] at h1
  have h1 : S.value x * ((1 + 1) * (1 + 1)) = S.value x + S.value x + S.prod x x := h1
  grind
theorem prod_self (hS : S.ok) {x y : S.R} (h : S.value x = S.value y) : S.prod x x = S.prod y y := by
  cases hk : S.kind with
  | alt => rw [prod_alt hS hk, prod_alt hS hk]
  | herm => rw [← value_herm hk, ← value_herm hk, h]
  | quad => rw [quad_two hS hk, quad_two hS hk, h]
/-- from what is asked of the rows in their order -/
theorem kept_of (hS : S.ok) {L M : List S.R} (hl : L.length = M.length) (h : ∀ (i j : Nat) (hi : i < L.length) (hj : j < L.length), S.value L[i] = S.value (M[i]'(by omega)) ∧ (i < j → S.prod L[i] L[j] = S.prod (M[i]'(by omega)) (M[j]'(by omega)))) : S.Kept L M := by
  have ix : ∀ q ∈ L.zip M, ∃ (i : Nat) (hi : i < L.length), q = (L[i], M[i]'(by omega)) := fun q hq => by
    obtain ⟨i, hi, e⟩ := List.mem_iff_getElem.mp hq
    rw [List.length_zip] at hi
    refine ⟨i, by omega, ?_⟩
    rw [← e]
    simp
  refine ⟨hl, fun q hq => ?_, fun q hq q' hq' => ?_⟩
  · obtain ⟨i, hi, rfl⟩ := ix q hq
    exact (h i i hi hi).1
  · obtain ⟨i, hi, rfl⟩ := ix q hq
    obtain ⟨j, hj, rfl⟩ := ix q' hq'
    show S.prod L[i] L[j] = S.prod (M[i]'(by omega)) (M[j]'(by omega))
    rcases Nat.lt_trichotomy i j with z | z | z
    · exact (h i j hi hj).2 z
    · subst z
      exact prod_self hS (h i i hi hi).1
    · rw [prod_sw hS L[j] L[i], prod_sw hS (M[j]'(by omega)) (M[i]'(by omega)), (h j i hj hi).2 z]
theorem Spc.Kept.prod {L M : List S.R} (g : S.Kept L M) {x y x' y' : S.R} (h : InSp2 L M x y) (h' : InSp2 L M x' y') : S.prod x x' = S.prod y y' := by
  have one : ∀ q' ∈ L.zip M, S.prod x q'.1 = S.prod y q'.2 := fun q' hq' => by
    induction h with
    | zero => rw [prod_zeroL, prod_zeroL]
    | step _ hr c ih => rw [prod_addL, prod_sclL, prod_addL, prod_sclL, ih, g.prd _ hr _ hq']
  induction h' with
  | zero => rw [prod_zeroR, prod_zeroR]
  | step _ hr c ih => rw [prod_addR, prod_sclR, prod_addR, prod_sclR, ih, one _ hr]
theorem Spc.Kept.value (hS : S.ok) {L M : List S.R} (g : S.Kept L M) {x y : S.R} (h : InSp2 L M x y) : S.value x = S.value y := by
  induction h with
  | zero => rfl
  | step h hr c ih => rw [value_shift hS, value_shift hS, ih, g.val _ hr, g.prod h (.gen hr)]
theorem Pairs.Kept (hS : S.ok) {us vs : List S.R} (h : S.Pairs us vs) : S.Kept us vs := by
  have hk := h.kept hS
  refine kept_of hS hk.1 fun i j hi hj => ?_
  have hl := hk.1
  have h2 := hk.2 i j us[i] (vs[i]'(by omega)) us[j] (vs[j]'(by omega)) (List.getElem?_eq_getElem hi) (List.getElem?_eq_getElem (by omega)) (List.getElem?_eq_getElem hj) (List.getElem?_eq_getElem (by omega))
  exact h2
theorem InSp2.moved {F : Fd} {n k : Nat} {L M : List (Row F n)} (h : L.length = M.length) (c : Row F k) : InSp2 L M (Wk.moved c L) (Wk.moved c M) := InSp2.comb _ h fun _ h => h
end
end Wk
/-! # WkG3 -/
set_option Elab.async false
set_option linter.all false
set_option maxRecDepth 100000
set_option maxHeartbeats 4000000
/-! The walk over the outer weights. -/
namespace Wk
section
variable {S : Spc}
theorem wir_span (l : List S.R) (k : Nat) (h : l.length = k) : ∃ L, S.wir l k h = span L := ⟨_, rfl⟩
/-- what is drawn: kept, independent, with equal weights in the radical -/
structure Spc.Wt (S : Spc) (us vs : List S.R) (k : Nat) (W : List (Row S.F k)) : Prop where
  lu : us.length = k
  lv : vs.length = k
  kept : S.Kept us vs
  iu : Ind us
  iv : Ind vs
  sp : ∃ L, W = span L
  ru : ∀ c, InSp W c ↔ InSp S.radical (moved c us)
  rv : ∀ c, InSp W c ↔ InSp S.radical (moved c vs)
theorem Spc.Wt.all {us vs : List S.R} {k : Nat} {W : List (Row S.F k)} (h : S.Wt us vs k W) (c : Row S.F k) : InSp (W ++ complRows W) c := by
  obtain ⟨L, rfl⟩ := h.sp
  exact compl_all L c
theorem Spc.Wt.ind {us vs : List S.R} {k : Nat} {W : List (Row S.F k)} (h : S.Wt us vs k W) : Ind (W ++ complRows W) := by
  obtain ⟨L, rfl⟩ := h.sp
  exact compl_ind L
theorem outer_no {F : Fd} {n k : Nat} {W : List (Row F k)} {R : List (Row F n)} {A : List (Row F n)} (hA : A.length = k) (hr : ∀ c, InSp W c ↔ InSp R (moved c A)) {pre : List (Row F k)} {w : Row F k} (hi : Ind (W ++ pre ++ [w])) : ¬ InSp (times pre A ++ R) (moved w A) := fun h => by
  obtain ⟨a, b, ha, hb, e⟩ := InSp_append h
  obtain ⟨c, hc, rfl⟩ := ha.of_times hA
  have e2 : moved (radd w (rscl c (-1))) A = b := by
    rw [moved_add _ _ _ hA, moved_scl _ _ _ hA, e]
    funext i
    show moved c A i + b i + moved c A i * -1 = b i
    grind
  rw [← e2, ← hr] at hb
  refine (ind_snoc.mp hi).2 ?_
  have : w = radd (radd w (rscl c (-1))) c := by
    funext i
    show w i = w i + c i * -1 + c i
    grind
  rw [this]
  exact hb.appL.add hc.appR
theorem extGo_ok (hS : S.ok) {us vs : List S.R} {k : Nat} {W : List (Row S.F k)} (h : S.Wt us vs k W) : ∀ (post pre : List (Row S.F k)) (found : List S.R), complRows W = pre ++ post → S.Iso found → (∀ w ∈ pre, moved (moved w us) found = moved w vs) →
    ∃ found', S.extGo us (combs vs (complRows W)) pre.length post found = some found' ∧ S.Iso found' ∧ ∀ w ∈ complRows W, moved (moved w us) found' = moved w vs
  | [], pre, found, e, hf, hp => ⟨found, by unfold Spc.extGo; rfl, hf, by rw [e, List.append_nil]; exact hp⟩
  | w :: post, pre, found, e, hf, hp => by
    have ea : combs vs (complRows W) = combs vs pre ++ moved w vs :: combs vs post := by
      rw [e]
      unfold combs
      rw [List.map_append, List.map_cons]
      rfl
    have lp : (combs vs pre).length = pre.length := by unfold combs; rw [List.length_map]
    have eg : (combs vs (complRows W))[pre.length]? = some (moved w vs) := by
      rw [ea, List.getElem?_append_right (by omega), lp, Nat.sub_self]
      rfl
    have et : (combs vs (complRows W)).take pre.length = combs vs pre := by
      rw [ea, ← lp, List.take_left]
    have hi : Ind (W ++ pre ++ [w]) := by
      have h1 := h.ind
      rw [e] at h1
      refine h1.sub ?_
      have : W ++ (pre ++ w :: post) = (W ++ pre ++ [w]) ++ post := by simp
      rw [this]
      exact List.sublist_append_left _ _
    have luv : us.length = vs.length := h.lu.trans h.lv.symm
    have lT : (times us found).length = k := by unfold times; rw [List.length_map]; exact h.lu
    have kp : ∀ c c' : Row S.F k, S.prod (moved c us) (moved c' us) = S.prod (moved c vs) (moved c' vs) := fun c c' => h.kept.prod (.moved luv c) (.moved luv c')
    have kv : ∀ c : Row S.F k, S.value (moved c us) = S.value (moved c vs) := fun c => h.kept.value hS (.moved luv c)
    obtain ⟨m, m1, m2, m3, m4⟩ := step_ok hS (head := combs vs pre) (w := moved (moved w us) found) (y := moved w vs) (by rw [hf.val, kv]) (fun r hr => by
        obtain ⟨c, hc, rfl⟩ := List.mem_map.mp hr
        show S.prod (moved c vs) _ = S.prod (moved c vs) _
        rw [← kp c w, ← hp c hc, hf.prd]) (fun z => by
        obtain ⟨a, b, ha, hb, e⟩ := InSp_append z
        have ha : InSp (times pre vs) a := ha
        obtain ⟨c, hc, rfl⟩ := ha.of_times h.lv
        have hcf : ∀ c, InSp pre c → moved (moved c us) found = moved c vs := fun c hc => by
          induction hc with
          | zero => rw [moved_zero _ h.lu, moved_zero _ hf.len, moved_zero _ h.lv]
          | step _ hr c ih => rw [moved_add _ _ _ h.lu, moved_scl _ _ _ h.lu, moved_add _ _ _ hf.len, moved_scl _ _ _ hf.len, moved_add _ _ _ h.lv, moved_scl _ _ _ h.lv, ih, hp _ hr]
        rw [← hcf c hc] at e
        have e2 : b = moved (moved (radd w (rscl c (-1))) us) found := by
          rw [moved_add _ _ _ h.lu, moved_scl _ _ _ h.lu, moved_add _ _ _ hf.len, moved_scl _ _ _ hf.len, e]
          funext i
          show b i = moved (moved c us) found i + b i + moved (moved c us) found i * -1
          grind
        rw [e2, hf.rad hS, ← h.ru] at hb
        refine (ind_snoc.mp hi).2 ?_
        have : w = radd (radd w (rscl c (-1))) c := by
          funext i
          show w i = w i + c i * -1 + c i
          grind
        rw [this]
        exact hb.appL.add hc.appR) (outer_no h.lv h.rv hi)
    obtain ⟨found', f1, f2, f3⟩ := extGo_ok hS h post (pre ++ [w]) (times found m) (by rw [e, List.append_assoc]; rfl) (hf.comp m2) (fun c hc => by
      rw [moved_times hf.len m2.len]
      rcases List.mem_append.mp hc with hc | hc
      · rw [hp c hc]
        exact m4 _ (List.mem_map.mpr ⟨c, hc, rfl⟩)
      · rw [List.mem_singleton.mp hc]
        exact m3)
    refine ⟨found', ?_, f2, f3⟩
    rw [List.length_append, List.length_singleton] at f1
    unfold Spc.extGo
    rw [eg]
    show (match S.step ((combs vs (complRows W)).take pre.length) (moved (moved w us) found) (moved w vs) with
      | none => none
      | some m => S.extGo us (combs vs (complRows W)) (pre.length + 1) post (times found m)) = some found'
    rw [et, m1]
    exact f1
end
end Wk
/-! # WkG4 -/
set_option Elab.async false
set_option linter.all false
set_option maxRecDepth 100000
set_option maxHeartbeats 4000000
/-! The singular radical; the rows that goneOn adds. -/
namespace Wk
def rootB (F : Fd) : Bool := if F.p = 2 then decide ((1 : El F) + 1 = 0) && allE F fun a => decide (rootE a * rootE a = a) else !decide ((1 : El F) + 1 = 0)
theorem rootAll (F : Fd) : rootB F = true := by
  obtain ⟨q, ok⟩ := F
  rcases ok with rfl | rfl | rfl | rfl | rfl | rfl
  · decide +kernel
  · decide +kernel
  · decide +kernel
  · decide +kernel
  · decide +kernel
  · decide +kernel
theorem two_zero {F : Fd} (h : F.p = 2) : (1 : El F) + 1 = 0 := by
  have := rootAll F
  unfold rootB at this
  rw [if_pos h] at this
  simp only [Bool.and_eq_true, decide_eq_true_eq] at this
  exact this.1
theorem two_ne {F : Fd} (h : F.p ≠ 2) : ¬ (1 : El F) + 1 = 0 := by
  have := rootAll F
  unfold rootB at this
  rw [if_neg h] at this
  simpa using this
theorem root_sq {F : Fd} (h : F.p = 2) (a : El F) : rootE a * rootE a = a := by
  have := rootAll F
  unfold rootB at this
  rw [if_pos h] at this
  simp only [Bool.and_eq_true, decide_eq_true_eq] at this
  have h2 := allE_spec this.2 a
  exact of_decide_eq_true h2
section
variable {S : Spc}
theorem rad_prodR (hS : S.ok) {r : S.R} (h : InSp S.radical r) (x : S.R) : S.prod x r = 0 := (rad_mem hS r).mp h x
theorem rad_prodL (hS : S.ok) {r : S.R} (h : InSp S.radical r) (x : S.R) : S.prod r x = 0 := by rw [prod_sw hS x r, rad_prodR hS h, sw_zero]
theorem rad_value (hS : S.ok) {r : S.R} (h : InSp S.radical r) (x : S.R) : S.value (radd x r) = S.value x + S.value r := by
  rw [value_add hS, rad_prodR hS h, tr_zero]
  grind
/-- but for quadratic forms in characteristic two the radical is singular -/
theorem rad_sing (hS : S.ok) (hc : S.kind ≠ .quad ∨ S.F.p ≠ 2) {r : S.R} (h : InSp S.radical r) : S.value r = 0 := by
  cases hk : S.kind with
  | alt => exact value_alt hk r
  | herm => rw [value_herm hk]; exact rad_prodR hS h r
  | quad =>
    rw [hk] at hc
    have h2 := two_ne (hc.resolve_left (fun z => z rfl))
    have h1 := quad_two hS hk r
    rw [rad_prodR hS h r] at h1
    apply Classical.byContradiction
    intro hn
    have : S.value r * (1 + 1) ≠ 0 := by grind
    apply this
    grind
theorem zero_of_nil {F : Fd} {n : Nat} {v : Row F n} (h : InSp [] v) : v = rzero := by
  cases h with
  | zero => rfl
  | step _ hr _ => cases hr
theorem sq_add {F : Fd} (h : F.p = 2) (a b : El F) : (a + b) * (a + b) = a * a + b * b := by
  have := two_zero h
  grind
theorem comb_value (hS : S.ok) (hk : S.kind = .quad) (hp : S.F.p = 2) : ∀ (tb : List S.R) (c : List (El S.F)), (∀ r ∈ tb, InSp S.radical r) → tb.length = c.length →
    S.value (comb tb c) = lsm (fun q : S.R × El S.F => rootE (S.value q.1) * q.2) (tb.zip c) * lsm (fun q : S.R × El S.F => rootE (S.value q.1) * q.2) (tb.zip c)
  | [], [], _, _ => by
    show S.value rzero = (0 : El S.F) * 0
    rw [value_zero]
    grind
  | r :: tb, x :: c, h, hl => by
    have ih := comb_value hS hk hp tb c (fun s hs => h s (List.mem_cons_of_mem _ hs)) (by simpa using hl)
    rw [comb_cons, List.zip_cons_cons]
    show _ = (rootE (S.value r) * x + lsm _ (tb.zip c)) * (rootE (S.value r) * x + lsm _ (tb.zip c))
    rw [sq_add hp, ← ih, rad_value hS (InSp.trans (l := tb) (InSp.comb _ fun _ h => h) fun s hs => h s (List.mem_cons_of_mem _ hs)), value_scl]
    have e := root_sq hp (S.value r)
    unfold Spc.nm
    rw [hk]
    show S.value r * (x * x) + _ = _
    grind
  | [], _ :: _, _, h => by simp at h
  | _ :: _, [], _, h => by simp at h
theorem dot_roots (tb : List S.R) (w : Row S.F tb.length) : dot (S.roots tb) w = lsm (fun q : S.R × El S.F => rootE (S.value q.1) * q.2) (tb.zip (List.ofFn w)) := by
  rw [dot_sm]
  have e : tb.zip (List.ofFn w) = (List.finRange tb.length).map fun i => (tb[i.val]'i.isLt, w i) := by
    apply List.ext_getElem
    · simp
    · intro i h1 h2; simp
  rw [e, lsm_map]
  rfl
theorem sing_mem (hS : S.ok) (x : S.R) : InSp S.singRadical x ↔ InSp S.radical x ∧ S.value x = 0 := by
  unfold Spc.singRadical
  by_cases hc : S.kind ≠ .quad ∨ S.F.p ≠ 2 ∨ S.radical = []
  · rw [if_pos hc]
    refine ⟨fun h => ⟨h, ?_⟩, fun h => h.1⟩
    rcases hc with hc | hc | hc
    · exact rad_sing hS (.inl hc) h
    · exact rad_sing hS (.inr hc) h
    · rw [hc] at h
      rw [zero_of_nil h, value_zero]
  · rw [if_neg hc]
    have hk : S.kind = .quad := Classical.byContradiction fun z => hc (.inl z)
    have hp : S.F.p = 2 := Classical.byContradiction fun z => hc (.inr (.inl z))
    have key : ∀ w : Row S.F S.radical.length, S.value (moved w S.radical) = dot (S.roots S.radical) w * dot (S.roots S.radical) w := fun w => by
      rw [dot_roots]
      exact comb_value hS hk hp S.radical (List.ofFn w) (fun r hr => .gen hr) (by simp)
    rw [span_mem]
    have et : ((kernel [S.roots S.radical]).map fun w => comb S.radical (List.ofFn w)) = times (kernel [S.roots S.radical]) S.radical := rfl
    rw [et]
    refine ⟨fun h => ?_, fun ⟨h1, h2⟩ => ?_⟩
    · obtain ⟨c, hc, rfl⟩ := h.of_times rfl
      refine ⟨InSp.comb _ fun _ h => h, ?_⟩
      rw [key, (kernel_mem _ c).mp hc _ (List.mem_singleton.mpr rfl)]
      grind
    · obtain ⟨c, hc, e⟩ := h1.coef
      obtain ⟨w, rfl⟩ := ofFn_of hc
      have e : moved w S.radical = x := e
      rw [← e] at h2 ⊢
      refine InSp.times rfl ((kernel_mem _ w).mpr fun r hr => ?_)
      rw [List.mem_singleton.mp hr]
      rw [key] at h2
      apply Classical.byContradiction
      intro z
      have : dot (S.roots S.radical) w * dot (S.roots S.radical) w ≠ 0 := by grind
      exact this h2
/-- one row of the radical that is not singular fills it up -/
theorem sing_full (hS : S.ok) {u : S.R} (hu : InSp S.radical u) (hne : S.value u ≠ 0) {x : S.R} (hx : InSp S.radical x) : ∃ t, InSp S.singRadical (radd x (rscl u t)) := by
  have hk : S.kind = .quad := Classical.byContradiction fun z => hne (rad_sing hS (.inl z) hu)
  have hp : S.F.p = 2 := Classical.byContradiction fun z => hne (rad_sing hS (.inr z) hu)
  refine ⟨rootE (S.value x * (S.value u)⁻¹), (sing_mem hS _).mpr ⟨hx.add (hu.scl _), ?_⟩⟩
  rw [rad_value hS (hu.scl _), value_scl]
  have e := root_sq hp (S.value x * (S.value u)⁻¹)
  have h2 := two_zero hp
  have h3 := Lean.Grind.Field.mul_inv_cancel hne
  unfold Spc.nm
  rw [hk]
  show S.value x + S.value u * (rootE (S.value x * (S.value u)⁻¹) * rootE (S.value x * (S.value u)⁻¹)) = 0
  rw [e]
  grind
theorem gone_ok {F : Fd} {n : Nat} {rows : List (Row F n)} (hr : Ind rows) (more : List (Row F n)) : Ind (rows ++ goneOn rows more) ∧ (∀ v, InSp (rows ++ goneOn rows more) v ↔ InSp (rows ++ more) v) ∧ ∀ r ∈ goneOn rows more, r ∈ more := by
  unfold goneOn
  refine snoc_ind (P := fun more => Ind (rows ++ more.foldl (goneStep rows) []) ∧ (∀ v, InSp (rows ++ more.foldl (goneStep rows) []) v ↔ InSp (rows ++ more) v) ∧ ∀ r ∈ more.foldl (goneStep rows) [], r ∈ more) ?_ ?_ more
  · refine ⟨?_, fun v => Iff.rfl, fun r h => h⟩
    show Ind (rows ++ [])
    rw [List.append_nil]
    exact hr
  · intro l a ⟨h1, h2, h3⟩
    rw [List.foldl_append, List.foldl_cons, List.foldl_nil]
    generalize l.foldl (goneStep rows) [] = found at *
    unfold goneStep
    by_cases hh : holds (span (rows ++ found)) a = true
    · rw [if_pos hh]
      have ha := (holds_iff _ _).mp hh
      refine ⟨h1, fun v => ?_, fun r hr => List.mem_append_left _ (h3 r hr)⟩
      rw [h2 v]
      refine ⟨fun h => h.mono fun r hr => ?_, fun h => h.trans fun r hr => ?_⟩
      · rw [← List.append_assoc]
        exact List.mem_append_left _ hr
      · rw [← List.append_assoc] at hr
        rcases List.mem_append.mp hr with hr | hr
        · exact .gen hr
        · rw [List.mem_singleton.mp hr]
          exact (h2 a).mp ha
    · rw [if_neg hh]
      have ha : ¬ InSp (rows ++ found) a := fun z => hh ((holds_iff _ _).mpr z)
      refine ⟨?_, fun v => ?_, fun r hr => ?_⟩
      · rw [← List.append_assoc]
        exact ind_snoc.mpr ⟨h1, ha⟩
      · rw [← List.append_assoc, ← List.append_assoc, InSp_snoc, InSp_snoc]
        exact ⟨fun ⟨x, hx, c, e⟩ => ⟨x, (h2 x).mp hx, c, e⟩, fun ⟨x, hx, c, e⟩ => ⟨x, (h2 x).mpr hx, c, e⟩⟩
      · rcases List.mem_append.mp hr with hr | hr
        · exact List.mem_append_left _ (h3 r hr)
        · exact List.mem_append_right _ hr
end
end Wk
/-! # WkG5 -/
set_option Elab.async false
set_option linter.all false
set_option maxRecDepth 100000
set_option maxHeartbeats 4000000
/-! The part in the radical. -/
namespace Wk
section
variable {S : Spc}
theorem rad_ind (S : Spc) : Ind S.radical := by
  unfold Spc.radical kernel
  exact ind_span _
theorem InSp2_fix {F : Fd} {n : Nat} {l m M : List (Row F n)} (hM : M.length = n) (h : ∀ q ∈ l.zip m, moved q.1 M = q.2) {v w : Row F n} (hv : InSp2 l m v w) : moved v M = w := moved_InSp2 hM h hv
/-- the spans of the two ones are the same -/
theorem one_same (hS : S.ok) {us vs : List S.R} (hu : ∀ r ∈ us, InSp S.radical r) (hv : ∀ r ∈ vs, InSp S.radical r) (hl : us.length = vs.length) (hval : ∀ q ∈ us.zip vs, S.value q.1 = S.value q.2) (v : S.R) : InSp (us ++ S.singRadical) v ↔ InSp (vs ++ S.singRadical) v := by
  have half : ∀ us vs : List S.R, (∀ r ∈ us, InSp S.radical r) → (∀ r ∈ vs, InSp S.radical r) → (∀ r ∈ us, ∃ r' ∈ vs, S.value r = S.value r') → InSp (us ++ S.singRadical) v → InSp (vs ++ S.singRadical) v := fun us vs hu hv hp h => h.trans fun r hr => by
    rcases List.mem_append.mp hr with hr | hr
    · obtain ⟨r', h1, h2⟩ := hp r hr
      by_cases hz : S.value r = 0
      · exact InSp.appR ((sing_mem hS r).mpr ⟨hu r hr, hz⟩)
      · rw [h2] at hz
        obtain ⟨t, ht⟩ := sing_full hS (hv r' h1) hz (hu r hr)
        exact (ht.appR (l := vs)).sub ((InSp.gen (List.mem_append_left _ h1)).scl t)
    · exact .gen (List.mem_append_right _ hr)
  refine ⟨half us vs hu hv fun r hr => ?_, half vs us hv hu fun r hr => ?_⟩
  · obtain ⟨r', hr'⟩ := zip_of_mem hl hr
    have e := hval (r, r') hr'
    dsimp only at e
    exact ⟨r', (List.of_mem_zip hr').2, e⟩
  · obtain ⟨r', hr'⟩ := zip_of_memR hl hr
    have e := hval (r', r) hr'
    dsimp only at e
    exact ⟨r', (List.of_mem_zip hr').1, e.symm⟩
theorem inRadical_ok (hS : S.ok) {us vs stay : List S.R} (hu : ∀ r ∈ us, InSp S.radical r) (hv : ∀ r ∈ vs, InSp S.radical r) (hl : us.length = vs.length) (hval : ∀ q ∈ us.zip vs, S.value q.1 = S.value q.2) (iu : Ind us) (iv : Ind vs) (is : Ind (S.radical ++ stay)) :
    ∃ M, S.inRadical us vs stay = some M ∧ S.Iso M ∧ (∀ q ∈ us.zip vs, moved q.1 M = q.2) ∧ ∀ r ∈ stay, moved r M = r := by
  obtain ⟨a1, a2, a3⟩ := gone_ok iu S.singRadical
  obtain ⟨b1, b2, b3⟩ := gone_ok iv S.singRadical
  have same : ∀ v, InSp (S.irOne us) v ↔ InSp (S.irOne vs) v := fun v => ((a2 v).trans (one_same hS hu hv hl hval v)).trans (b2 v).symm
  have hlen : (S.irOne us).length = (S.irOne vs).length := ind_eq a1 b1 same
  have oneR : ∀ v, InSp (S.irOne us) v → InSp S.radical v := fun v h => h.trans fun r hr => by
    rcases List.mem_append.mp hr with hr | hr
    · exact hu r hr
    · exact ((sing_mem hS r).mp (.gen (a3 r hr))).1
  obtain ⟨c1, c2, c3⟩ := gone_ok (rows := S.irOne us) a1 S.radical
  have c2 : ∀ v, InSp (S.irOne us ++ S.irLast us) v ↔ InSp S.radical v := fun v => (c2 v).trans ⟨fun h => h.trans fun r hr => by
    rcases List.mem_append.mp hr with hr | hr
    · exact oneR r (.gen hr)
    · exact .gen hr, fun h => h.appR⟩
  have c1 : Ind (S.irOne us ++ S.irLast us) := c1
  have lenR : (S.irOne us ++ S.irLast us).length = S.radical.length := ind_eq c1 (rad_ind S) c2
  have own : Ind (S.irOwn us stay) := by
    refine ind_of_span is (fun v h => h.trans fun r hr => ?_) (by unfold Spc.irOwn; rw [List.length_append, lenR, List.length_append]; exact Nat.le_refl _)
    unfold Spc.irOwn
    rcases List.mem_append.mp hr with hr | hr
    · exact ((c2 r).mpr (.gen hr)).appL
    · exact .gen (List.mem_append_right _ hr)
  have lown : (span (S.irOwn us stay)).length = (S.irOwn us stay).length := (isFree_iff _).mpr own
  have ball : ∀ v, InSp (S.irOwn us stay ++ complRows (span (S.irOwn us stay))) v := fun v => (compl_all (S.irOwn us stay) v).trans fun r hr => by
    rcases List.mem_append.mp hr with hr | hr
    · exact ((span_mem _ r).mp (.gen hr)).appL
    · exact .gen (List.mem_append_right _ hr)
  have bind : Ind (S.irOwn us stay ++ complRows (span (S.irOwn us stay))) := ind_of_span (compl_ind (S.irOwn us stay)) (fun v _ => ball v) (by rw [List.length_append, List.length_append, lown]; exact Nat.le_refl _)
  have blen := ind_count bind ball
  unfold Spc.inRadical
  generalize complRows (span (S.irOwn us stay)) = C at *
  have eA : S.irOwn us stay ++ C = S.irOne us ++ (S.irLast us ++ stay ++ C) := by unfold Spc.irOwn; simp
  have eB : S.irOne vs ++ S.irLast us ++ stay ++ C = S.irOne vs ++ (S.irLast us ++ stay ++ C) := by simp
  rw [eA] at ball bind blen ⊢
  rw [eB]
  generalize hT : S.irLast us ++ stay ++ C = T at *
  have iall : ∀ v, InSp (S.irOne vs ++ T) v := fun v => (ball v).trans fun r hr => by
    rcases List.mem_append.mp hr with hr | hr
    · exact ((same r).mp (.gen hr)).appL
    · exact .gen (List.mem_append_right _ hr)
  have ilen : (S.irOne vs ++ T).length = S.n := by rw [← blen, List.length_append, List.length_append, hlen]
  have iind : Ind (S.irOne vs ++ T) := ind_of_span bind (fun v _ => iall v) (by rw [ilen, blen]; exact Nat.le_refl _)
  obtain ⟨M, M1, M2, M3⟩ := ofImages_ok blen ilen bind
  have zp : (S.irOne us ++ T).zip (S.irOne vs ++ T) = (S.irOne us).zip (S.irOne vs) ++ T.zip T := List.zip_append hlen
  have zo : (S.irOne us).zip (S.irOne vs) = us.zip vs ++ (goneOn us S.singRadical).zip (goneOn vs S.singRadical) := by
    unfold Spc.irOne
    exact List.zip_append hl
  have Mt : ∀ r ∈ T, moved r M = r := fun r hr => by
    refine M3 (r, r) ?_
    rw [zp]
    refine List.mem_append_right _ ?_
    obtain ⟨j, hj, rfl⟩ := List.mem_iff_getElem.mp hr
    exact List.mem_iff_getElem.mpr ⟨j, by rw [List.length_zip]; omega, by simp⟩
  have Mo : ∀ q ∈ (S.irOne us).zip (S.irOne vs), moved q.1 M = q.2 := fun q hq => M3 q (by rw [zp]; exact List.mem_append_left _ hq)
  have Vo : ∀ q ∈ (S.irOne us).zip (S.irOne vs), S.value q.1 = S.value q.2 ∧ InSp S.radical q.1 ∧ InSp S.radical q.2 := fun q hq => by
    rw [zo] at hq
    rcases List.mem_append.mp hq with hq | hq
    · have := List.of_mem_zip (show (q.1, q.2) ∈ us.zip vs from hq)
      exact ⟨hval q hq, hu _ this.1, hv _ this.2⟩
    · have := List.of_mem_zip (show (q.1, q.2) ∈ (goneOn us S.singRadical).zip (goneOn vs S.singRadical) from hq)
      have g1 := (sing_mem hS q.1).mp (.gen (a3 _ this.1))
      have g2 := (sing_mem hS q.2).mp (.gen (b3 _ this.2))
      exact ⟨by rw [g1.2, g2.2], g1.1, g2.1⟩
  have pairR : ∀ a a' : S.R, InSp2 (S.irOne us) (S.irOne vs) a a' → S.value a = S.value a' ∧ InSp S.radical a ∧ InSp S.radical a' := fun a a' h => by
    induction h with
    | zero => exact ⟨rfl, .zero, .zero⟩
    | step _ hr c ih =>
      obtain ⟨v1, v2, v3⟩ := Vo _ hr
      refine ⟨?_, ih.2.1.add (v2.scl c), ih.2.2.add (v3.scl c)⟩
      rw [rad_value hS (v2.scl c), rad_value hS (v3.scl c), value_scl, value_scl, ih.1, v1]
  have split : ∀ x : S.R, ∃ a a' b, x = radd b a ∧ moved x M = radd b a' ∧ S.value a = S.value a' ∧ InSp S.radical a ∧ InSp S.radical a' := fun x => by
    obtain ⟨a, b, ha, hb, rfl⟩ := InSp_append (ball x)
    obtain ⟨a', haa⟩ := InSp2.of_left hlen ha
    obtain ⟨p1, p2, p3⟩ := pairR a a' haa
    refine ⟨a, a', b, radd_comm _ _, ?_, p1, p2, p3⟩
    rw [moved_add _ _ _ M2, moved_InSp2 M2 Mo haa, moved_fix M2 Mt hb, radd_comm]
  refine ⟨M, M1, ⟨M2, fun x => ?_, fun x y => ?_, fun x hx => ?_⟩, fun q hq => Mo q (by rw [zo]; exact List.mem_append_left _ hq), fun r hr => Mt r (by rw [← hT]; simp [hr])⟩
  · obtain ⟨a, a', b, e1, e2, e3, e4, e5⟩ := split x
    rw [e2, rad_value hS e5, e1, rad_value hS e4, e3]
  · obtain ⟨a, a', b, e1, e2, e3, e4, e5⟩ := split x
    obtain ⟨c, c', d, f1, f2, f3, f4, f5⟩ := split y
    rw [e2, f2, e1, f1, prod_addL, prod_addR, prod_addR, prod_addL, prod_addR, prod_addR, rad_prodR hS f5, rad_prodR hS f5, rad_prodR hS f4, rad_prodR hS f4, rad_prodL hS e5, rad_prodL hS e4]
  · obtain ⟨c, hc, rfl⟩ := (ball x).coef
    have h2 : InSp2 (S.irOne us ++ T) (S.irOne vs ++ T) (comb (S.irOne us ++ T) c) (comb (S.irOne vs ++ T) c) := InSp2.comb c (blen.trans ilen.symm) fun _ h => h
    rw [moved_InSp2 M2 M3 h2] at hx
    have := iind c (by rw [hc, blen, ilen]) hx
    rw [all_zero this, comb_zero]
end
end Wk
/-! # WkG6 -/
set_option Elab.async false
set_option linter.all false
set_option maxRecDepth 100000
set_option maxHeartbeats 4000000
/-! Determinants are not zero. -/
namespace Wk
section
variable {F : Fd} {n : Nat}
theorem supp_span {v : Row F n} {L : List (Fin n)} (h : ∀ a, a ∉ L → v a = 0) : InSp (L.map runit) v := by
  apply Classical.byContradiction
  intro hn
  obtain ⟨x, x1, x2⟩ := sep_ex hn
  have hx : ∀ a ∈ L, x a = 0 := fun a ha => by
    rw [← dot_unitL a x]
    exact x1 _ (List.mem_map.mpr ⟨a, ha, rfl⟩)
  rw [dot_sm] at x2
  have : lsm (fun i => v i * x i) (List.finRange n) = 0 := by
    rw [lsm_congr (g := fun _ => 0) fun a _ => ?_, lsm_zero]
    by_cases ha : a ∈ L
    · rw [hx a ha]; grind
    · rw [h a ha]; grind
  exact e_zno (this.symm.trans x2)
theorem ind_supp {l : List (Row F n)} (hl : Ind l) {L : List (Fin n)} (h : ∀ v ∈ l, ∀ a, a ∉ L → v a = 0) : l.length ≤ L.length := by
  apply Classical.byContradiction
  intro hn
  have h1 := (lfree_ind l).mpr hl
  unfold lfree at h1
  have h2 := nodup_sub_len (lspan_nodup l) (m := lspan (L.map runit)) fun v hv => (mem_lspan _ v).mpr (((mem_lspan l v).mp hv).trans fun r hr => supp_span (h r hr))
  have h3 := lspan_le (L.map (runit : Fin n → Row F n))
  rw [List.length_map] at h3
  rw [h1] at h2
  exact hn ((Nat.pow_le_pow_iff_right (by have := F.two; omega)).mp (Nat.le_trans h2 h3))
theorem erase_mem {A : Type} {l : List A} {k : Nat} {h r : A} (hk : l[k]? = some h) (hr : r ∈ l) : r = h ∨ r ∈ l.eraseIdx k := by
  obtain ⟨i, hi, rfl⟩ := List.mem_iff_getElem.mp hr
  by_cases e : i = k
  · subst e
    rw [List.getElem?_eq_getElem hi] at hk
    exact .inl (Option.some.inj hk)
  · exact .inr (List.mem_eraseIdx_iff_getElem?.mpr ⟨i, e, List.getElem?_eq_getElem hi⟩)
theorem det_go : ∀ (post pre : List (Fin n)) (s : DS F n), List.finRange n = pre ++ post → Ind s.left → s.left.length = post.length → (∀ r ∈ s.left, ∀ a ∈ pre, r a = 0) → s.found ≠ 0 → detGo post s ≠ 0
  | [], pre, s, _, _, _, _, hf => by unfold detGo; exact hf
  | a :: post, pre, s, e, hi, hl, hz, hf => by
    have ex : ∃ k, (List.range s.left.length).find? (detP s.left a) = some k := by
      cases hq : (List.range s.left.length).find? (detP s.left a) with
      | some k => exact ⟨k, rfl⟩
      | none =>
        exfalso
        have hn := List.find?_eq_none.mp hq
        have : s.left.length ≤ post.length := ind_supp hi fun v hv b hb => by
          obtain ⟨i, hil, rfl⟩ := List.mem_iff_getElem.mp hv
          have hm : b ∈ pre ++ a :: post := by rw [← e]; exact List.mem_finRange b
          rcases List.mem_append.mp hm with z | z
          · exact hz _ (List.getElem_mem _) b z
          · rcases List.mem_cons.mp z with z | z
            · subst z
              have := hn i (List.mem_range.mpr hil)
              unfold detP at this
              rw [List.getElem?_eq_getElem hil] at this
              simpa using this
            · exact absurd z hb
        rw [hl, List.length_cons] at this
        omega
    obtain ⟨k, hk⟩ := ex
    have hp := List.find?_some hk
    unfold detP at hp
    cases hq : s.left[k]? with
    | none => rw [hq] at hp; cases hp
    | some h =>
      rw [hq] at hp
      have ha : h a ≠ 0 := by simpa using hp
      have hkl : k < s.left.length := (List.getElem?_eq_some_iff.mp hq).1
      have hm : h ∈ s.left := List.mem_of_getElem? hq
      unfold detGo detStep
      rw [hk]
      show (match (match s.left[k]? with
        | none => none
        | some h => some (⟨(s.left.eraseIdx k).map fun r => cleared r (rscl h (h a)⁻¹) a, (if k % 2 = 1 then -s.found else s.found) * h a⟩ : DS F n)) with
        | none => 0
        | some s' => detGo post s') ≠ 0
      rw [hq]
      show detGo post ⟨(s.left.eraseIdx k).map fun r => cleared r (rscl h (h a)⁻¹) a, (if k % 2 = 1 then -s.found else s.found) * h a⟩ ≠ 0
      have h1 : rscl h (h a)⁻¹ a = 1 := by
        show h a * (h a)⁻¹ = 1
        exact Lean.Grind.Field.mul_inv_cancel ha
      have h0 : ∀ b ∈ pre, rscl h (h a)⁻¹ b = 0 := fun b hb => by
        show h b * (h a)⁻¹ = 0
        rw [hz h hm b hb]
        grind
      have hle : (s.left.eraseIdx k).length = post.length := by
        rw [List.length_eraseIdx_of_lt hkl, hl, List.length_cons]
        omega
      have hin : Ind (((s.left.eraseIdx k).map fun r => cleared r (rscl h (h a)⁻¹) a) ++ [h]) := by
        refine ind_of_span hi (fun v hv => hv.trans fun r hr => ?_) (by rw [List.length_append, List.length_map, hle, hl]; exact Nat.le_refl _)
        have hh : InSp (((s.left.eraseIdx k).map fun r => cleared r (rscl h (h a)⁻¹) a) ++ [h]) h := .gen (List.mem_append_right _ (List.mem_singleton.mpr rfl))
        rcases erase_mem hq hr with z | z
        · rw [z]; exact hh
        · have hc : InSp (((s.left.eraseIdx k).map fun r => cleared r (rscl h (h a)⁻¹) a) ++ [h]) (cleared r (rscl h (h a)⁻¹) a) := .gen (List.mem_append_left _ (List.mem_map.mpr ⟨r, z, rfl⟩))
          exact InSp.sub (a := r) (b := rscl (rscl h (h a)⁻¹) (-(r a))) hc ((hh.scl _).scl _)
      refine det_go post (pre ++ [a]) _ (by rw [e, List.append_assoc]; rfl) (ind_snoc.mp hin).1 (by rw [List.length_map]; exact hle) (fun r hr b hb => ?_) ?_
      · obtain ⟨r0, hr0, rfl⟩ := List.mem_map.mp hr
        have hr0 : r0 ∈ s.left := List.mem_of_mem_eraseIdx hr0
        rw [cleared_at]
        rcases List.mem_append.mp hb with hb | hb
        · rw [hz r0 hr0 b hb, h0 b hb]; grind
        · rw [List.mem_singleton.mp hb, h1]; grind
      · show (if k % 2 = 1 then -s.found else s.found) * h a ≠ 0
        split <;> grind
theorem det_ne {m : List (Row F n)} (hi : Ind m) (hl : m.length = n) : det m ≠ 0 := by
  unfold det
  refine det_go (List.finRange n) [] ⟨m, 1⟩ rfl hi (by rw [List.length_finRange]; exact hl) (fun r _ a ha => absurd ha List.not_mem_nil) ?_
  show (1 : El F) ≠ 0
  exact fun z => e_zno z.symm
end
section
variable {S : Spc}
theorem Spc.Iso.at {m : List S.R} (h : S.Iso m) {i : Fin S.n} {r : S.R} (hr : m[i.val]? = some r) : r = moved (runit i) m := by
  rw [moved_unit m h.len i]
  obtain ⟨h1, h2⟩ := List.getElem?_eq_some_iff.mp hr
  exact h2.symm
theorem Spc.Iso.isIso {m : List S.R} (h : S.Iso m) : S.isIso m := by
  refine ⟨h.len, det_ne h.ind h.len, fun i j r s hr hs => ?_⟩
  rw [h.at hr, h.at hs]
  exact ⟨h.val _, fun _ => h.prd _ _⟩
theorem Spc.Iso.lIso (hS : S.ok) {m : List S.R} (h : S.Iso m) : S.lIso m := by
  refine ⟨fun i r hr => ⟨?_, fun j _ r' hr' => ?_⟩, (lfree_ind m).mpr h.ind⟩
  · rw [lvalue_eq hS, lvalue_eq hS, h.at hr, h.val]
  · rw [lprod_eq, lprod_eq, h.at hr, h.at hr', h.prd]
theorem lIso_iso (hS : S.ok) {m : List S.R} (hl : m.length = S.n) (h : S.lIso m) : S.Iso m := by
  obtain ⟨h1, h2⟩ := h
  have hi := (lfree_ind m).mp h2
  have hlU : (List.ofFn (runit : Fin S.n → S.R)).length = m.length := by simp [hl]
  have hk : S.Kept (List.ofFn (runit : Fin S.n → S.R)) m := kept_of hS hlU fun i j hi hj => by
    have hi2 : i < S.n := by simpa using hi
    have hj2 : j < S.n := by simpa using hj
    have e1 : ∀ (k : Nat) (hk : k < (List.ofFn (runit : Fin S.n → S.R)).length) (hk2 : k < S.n), (List.ofFn (runit : Fin S.n → S.R))[k] = runit ⟨k, hk2⟩ := fun k hk hk2 => by simp
    rw [e1 i hi hi2, e1 j hj hj2]
    have gi : m[i]? = some (m[i]'(by omega)) := List.getElem?_eq_getElem (by omega)
    have gj : m[j]? = some (m[j]'(by omega)) := List.getElem?_eq_getElem (by omega)
    have vi := (h1 ⟨i, hi2⟩ _ gi).1
    rw [lvalue_eq hS, lvalue_eq hS] at vi
    refine ⟨vi.symm, fun hij => ?_⟩
    have pj := (h1 ⟨j, hj2⟩ _ gj).2 ⟨i, hi2⟩ hij _ gi
    rw [lprod_eq, lprod_eq] at pj
    exact pj.symm
  have pr : ∀ x : S.R, InSp2 (List.ofFn (runit : Fin S.n → S.R)) m x (moved x m) := fun x => by
    have := InSp2.comb (L := List.ofFn (runit : Fin S.n → S.R)) (M := m) (List.ofFn x) hlU fun _ h => h
    rw [← unit_comb x] at this
    exact this
  exact ⟨hl, fun x => (hk.value hS (pr x)).symm, fun x y => (hk.prod (pr x) (pr y)).symm, fun x hx => moved_inj hi hl hx⟩
theorem allMats_len_iff {F : Fd} {n : Nat} : ∀ {k : Nat} {m : List (Row F n)}, m ∈ allMats F n k ↔ m.length = k
  | 0, m => by
    unfold allMats
    rw [List.mem_singleton]
    exact ⟨fun h => by rw [h]; rfl, fun h => List.length_eq_zero_iff.mp h⟩
  | k + 1, m => by
    unfold allMats
    rw [List.mem_flatMap]
    refine ⟨fun ⟨h, h1, h2⟩ => ?_, fun h => ?_⟩
    · obtain ⟨r, _, rfl⟩ := List.mem_map.mp h2
      rw [List.length_append, allMats_len_iff.mp h1]
      rfl
    · have hne : m ≠ [] := fun z => by rw [z] at h; simp at h
      refine ⟨m.dropLast, allMats_len_iff.mpr (by rw [List.length_dropLast]; omega), List.mem_map.mpr ⟨m.getLast hne, allRows_all _, List.dropLast_concat_getLast hne⟩⟩
theorem moved_row {F : Fd} {n k : Nat} (M : List (Row F n)) (h : M.length = k) {i : Nat} {a : Row F n} (ha : M[i]? = some a) : ∃ c : Row F k, moved c M = a := by
  obtain ⟨h1, h2⟩ := List.getElem?_eq_some_iff.mp ha
  exact ⟨runit ⟨i, by omega⟩, by rw [moved_unit M h]; exact h2⟩
theorem ext_ok (hS : S.ok) {us vs : List S.R} (hp : S.Pairs us vs) (h : S.wir us us.length rfl = S.wir vs us.length hp.len) :
    ∃ m, S.extM us vs us.length rfl = some m ∧ S.Iso m ∧ ∀ c : Row S.F us.length, moved (moved c us) m = moved c vs := by
  have luv : us.length = vs.length := hp.len.symm
  have kept := Pairs.Kept hS hp
  have hW : S.Wt us vs us.length (S.wir us us.length rfl) := ⟨rfl, hp.len, kept, hp.indL, hp.indR, wir_span _ _ _, fun c => wir_mem S us _ rfl c, fun c => by rw [h]; exact wir_mem S vs _ hp.len c⟩
  unfold Spc.extM
  generalize S.wir us us.length rfl = W at *
  obtain ⟨found, f1, f2, f3⟩ := extGo_ok hS hW (complRows W) [] (ident S.F S.n) rfl (ident_iso S) (fun w hw => absurd hw List.not_mem_nil)
  have f1 : S.extGo us (combs vs (complRows W)) 0 (complRows W) (ident S.F S.n) = some found := f1
  rw [f1]
  have e1 : ∀ r ∈ times (combs us W) found, ∃ w ∈ W, r = moved (moved w us) found := fun r hr => by
    obtain ⟨r1, h1, rfl⟩ := List.mem_map.mp hr
    obtain ⟨w, h2, rfl⟩ := List.mem_map.mp h1
    exact ⟨w, h2, rfl⟩
  have ez : (times (combs us W) found).zip (combs vs W) = W.map fun w => (moved (moved w us) found, moved w vs) := by
    unfold times combs
    rw [List.map_map, List.zip_map']
    rfl
  obtain ⟨iW, iO⟩ : Ind W ∧ Ind (complRows W) := ⟨hW.ind.sub (List.sublist_append_left _ _), hW.ind.sub (List.sublist_append_right _ _)⟩
  obtain ⟨M, M1, M2, M3, M4⟩ := inRadical_ok hS (us := times (combs us W) found) (vs := combs vs W) (stay := combs vs (complRows W)) (fun r hr => by
      obtain ⟨w, hw, rfl⟩ := e1 r hr
      rw [f2.rad hS]
      exact (hW.ru w).mp (.gen hw)) (fun r hr => by
      obtain ⟨w, hw, rfl⟩ := List.mem_map.mp hr
      exact (hW.rv w).mp (.gen hw)) (by unfold times combs; rw [List.length_map, List.length_map, List.length_map]) (fun q hq => by
      rw [ez] at hq
      obtain ⟨w, hw, rfl⟩ := List.mem_map.mp hq
      show S.value (moved (moved w us) found) = S.value (moved w vs)
      rw [f2.val]
      exact kept.value hS (.moved luv w)) (ind_times f2.len (ind_times rfl iW hp.indL) f2.ind) (ind_times hp.len iW hp.indR) (ind_app (rad_ind S) (ind_times hp.len iO hp.indR) fun v h1 h2 => by
      obtain ⟨c, hc, rfl⟩ := h2.of_times hp.len
      have := (hW.rv c).mpr h1
      rw [ind_cut hW.ind this hc, moved_zero _ hp.len])
  refine ⟨times found M, ?_, f2.comp M2, fun c => ?_⟩
  · show (S.inRadical (times (combs us W) found) (combs vs W) (combs vs (complRows W))).map (fun m => times found m) = some (times found M)
    rw [M1]
    rfl
  have gen : ∀ w ∈ W ++ complRows W, moved (moved w us) (times found M) = moved w vs := fun w hw => by
    rw [moved_times f2.len M2.len]
    rcases List.mem_append.mp hw with hw | hw
    · exact M3 (moved (moved w us) found, moved w vs) (by rw [ez]; exact List.mem_map.mpr ⟨w, hw, rfl⟩)
    · rw [f3 w hw]
      exact M4 _ (List.mem_map.mpr ⟨w, hw, rfl⟩)
  have hc := hW.all c
  have hm := (f2.comp M2).len
  induction hc with
  | zero => rw [moved_zero _ rfl, moved_zero _ hm, moved_zero _ hp.len]
  | step _ hr x ih => rw [moved_add _ _ us rfl, moved_scl _ _ us rfl, moved_add _ _ _ hm, moved_scl _ _ _ hm, moved_add _ _ vs hp.len, moved_scl _ _ vs hp.len, ih, gen _ hr]
theorem takes_of {us vs m : List S.R} (hl : vs.length = us.length) (h : ∀ c : Row S.F us.length, moved (moved c us) m = moved c vs) : S.ltakes us vs m := fun k a b ha hb => by
  obtain ⟨h1, h2⟩ := List.getElem?_eq_some_iff.mp ha
  obtain ⟨g1, g2⟩ := List.getElem?_eq_some_iff.mp hb
  have := h (runit ⟨k, h1⟩)
  rw [moved_unit us rfl, moved_unit vs hl] at this
  rw [← h2, ← g2]
  exact this
theorem of_takes {us vs m : List S.R} (hl : vs.length = us.length) (hm : m.length = S.n) (h : S.ltakes us vs m) (c : Row S.F us.length) : moved (moved c us) m = moved c vs := by
  refine moved_InSp2 (l := us) (m := vs) hm (fun q hq => ?_) (.moved hl.symm c)
  obtain ⟨i, hi, e⟩ := List.mem_iff_getElem.mp hq
  rw [List.length_zip] at hi
  have e1 : q.1 = us[i]'(by omega) := by rw [← e]; simp
  have e2 : q.2 = vs[i]'(by omega) := by rw [← e]; simp
  exact h i q.1 q.2 (by rw [e1]; exact List.getElem?_eq_getElem _) (by rw [e2]; exact List.getElem?_eq_getElem _)
end
end Wk
/-! # WkM1 -/
set_option Elab.async false
set_option linter.all false
set_option maxRecDepth 100000
set_option maxHeartbeats 4000000
namespace Wk
theorem fin2 (i : Fin 2) : i = 0 ∨ i = 1 := by
  match i with
  | ⟨0, _⟩ => exact .inl rfl
  | ⟨1, _⟩ => exact .inr rfl
end Wk
/-! # WkM2 -/
set_option Elab.async false
set_option linter.all false
set_option maxRecDepth 100000
set_option maxHeartbeats 4000000
namespace Wk
theorem main_bent {S : Spc} (hS : S.ok) (ht : S.tiny) {us vs : List S.R} (hp : S.Pairs us vs) (hl : us.length ≤ 2) (h : S.wir us us.length rfl ≠ S.wir vs us.length hp.len) :
    ∃ x, barW (S.wir us us.length rfl) (S.wir vs us.length hp.len) = some x ∧ (decide (comb us (List.ofFn x) ∈ S.lrad) != decide (comb vs (List.ofFn x) ∈ S.lrad)) = true := bent_aux hS hp h
theorem main_ext {S : Spc} (hS : S.ok) (ht : S.tiny) {us vs : List S.R} (hp : S.Pairs us vs) (hl : us.length ≤ 2) (h : S.wir us us.length rfl = S.wir vs us.length hp.len) :
    ∃ m, S.extM us vs us.length rfl = some m ∧ S.isIso m ∧ S.lIso m ∧ S.ltakes us vs m := by
  obtain ⟨m, h1, h2, h3⟩ := ext_ok hS hp h
  exact ⟨m, h1, h2.isIso, h2.lIso hS, takes_of hp.len h3⟩
theorem main_good {S : Spc} (hS : S.ok) (ht : S.tiny) {us vs : List S.R} (hp : S.Pairs us vs) (hl : us.length ≤ 2) : S.lgood us vs ↔ S.wir us us.length rfl = S.wir vs us.length hp.len := by
  refine ⟨fun ⟨m, h1, h2, h3⟩ => ?_, fun h => ?_⟩
  · have hm := allMats_len_iff.mp h1
    have iso := lIso_iso hS hm h3
    rw [wir_eq]
    intro c
    have := of_takes hp.len hm h2 c
    show InSp S.radical (moved c us) ↔ InSp S.radical (moved c vs)
    rw [← this, iso.rad hS]
  · obtain ⟨m, h1, h2, h3, h4⟩ := main_ext hS ht hp hl h
    exact ⟨m, allMats_len_iff.mpr h2.1, h4, h3⟩
end Wk
/-! # WkLg -/
set_option Elab.async false
set_option linter.all false
set_option maxRecDepth 100000
set_option maxHeartbeats 2000000
/-! The data logic over HandS: data D, what stands for it in a heap (Rep), slots, evaluation without heaps (RunE ..), promises over data. -/
namespace Wk
open PySem PySem.Spec PyProof.Rows L2

/-! ### data -/
inductive D where
  | non | bl (b : Bool) | int (i : Int) | str (x : Str)
  | tup (xs : List D) | lst (xs : List D)
  /-- a row of ints, a plain tuple (without a dict of its own) -/
  | nrw (xs : List Int)
  /-- a list of ints that is only read -/
  | scr (xs : List Int)
  | ins (c : Str) (fs : List (Str × D))

def Ext (H H' : Hp) : Prop := ∀ a o, H a = some o → H' a = some o
theorem Ext.refl (H : Hp) : Ext H H := fun _ _ h => h
theorem Ext.trans {H H1 H2 : Hp} (a : Ext H H1) (b : Ext H1 H2) : Ext H H2 := fun x o h => b x o (a x o h)
theorem Ext.new {H : Hp} {p : Addr} {o : HO} (h : H p = none) : Ext H (upd H p o) := fun a u e => by
  rw [upd_ne (ne_of_none e h)]
  exact e
theorem Ext.seqL {K : PySem.W.Frag} {H H' : Hp} {a : Addr} {xs : List V} (e : Ext H H') (h : SqL K H a xs) : SqL K H' a xs := by
  rcases h with (h | ⟨o, h⟩) | h
  · exact .inl (.inl (e _ _ h))
  · exact .inl (.inr ⟨o, e _ _ h⟩)
  · exact .inr h
theorem Ext.seqT {K : PySem.W.Frag} {H H' : Hp} {a : Addr} {xs : List V} (e : Ext H H') (h : SqT K H a xs) : SqT K H' a xs := by
  rcases h with (h | ⟨o, h⟩) | h
  · exact .inl (.inl (e _ _ h))
  · exact .inl (.inr ⟨o, e _ _ h⟩)
  · exact .inr h
theorem Ext.back {H H' : Hp} (e : Ext H H') {l : Addr} (h : H' l = none) : H l = none := by
  cases q : H l with
  | none => rfl
  | some o => rw [e l o q] at h; cases h

mutual
def Rep (K : PySem.W.Frag) (F : Hp) : D → V → Prop
  | .non, v => v = .non
  | .bl b, v => v = .bl b
  | .int i, v => v = .int i
  | .str x, v => v = .str x
  | .tup ds, v => ∃ a vs, v = .ref a ∧ SqT K F a vs ∧ RepL K F ds vs
  | .lst ds, v => ∃ a vs, v = .ref a ∧ F a = some (.lst vs) ∧ RepL K F ds vs
  | .scr ns, v => ∃ a, v = .ref a ∧ SqL K F a (ns.map V.int)
  | .nrw xs, v => ∃ a o, v = .ref a ∧ F a = some (.frz o (.tup (xs.map V.int))) ∧ o.cls = .type "tuple" ∧ o.dict = none
  | .ins c fs, v => ∃ a dx vs, v = .ref a ∧ F a = some (.ins (He.ga K c) dx vs) ∧ RepF K F fs vs
def RepL (K : PySem.W.Frag) (F : Hp) : List D → List V → Prop
  | [], vs => vs = []
  | d :: ds, vs => ∃ v r, vs = v :: r ∧ Rep K F d v ∧ RepL K F ds r
def RepF (K : PySem.W.Frag) (F : Hp) : List (Str × D) → List (Str × V) → Prop
  | [], vs => vs = []
  | (x, d) :: fs, vs => ∃ v r, vs = (x, v) :: r ∧ Rep K F d v ∧ RepF K F fs r
end

section
variable {K : PySem.W.Frag} {F F' H H' : Hp}
mutual
theorem Rep.mono (e : Ext F F') : ∀ {d : D} {v : V}, Rep K F d v → Rep K F' d v
  | .non, _, h => by unfold Rep at *; exact h
  | .bl _, _, h => by unfold Rep at *; exact h
  | .int _, _, h => by unfold Rep at *; exact h
  | .str _, _, h => by unfold Rep at *; exact h
  | .tup _, _, h => by
    unfold Rep at *
    obtain ⟨a, vs, h1, h2, h3⟩ := h
    exact ⟨a, vs, h1, e.seqT h2, RepL.mono e h3⟩
  | .lst _, _, h => by
    unfold Rep at *
    obtain ⟨a, vs, h1, h2, h3⟩ := h
    exact ⟨a, vs, h1, e _ _ h2, RepL.mono e h3⟩
  | .scr _, _, h => by
    unfold Rep at *
    obtain ⟨a, h1, h2⟩ := h
    exact ⟨a, h1, e.seqL h2⟩
  | .nrw _, _, h => by
    unfold Rep at *
    obtain ⟨a, o, h1, h2, h3⟩ := h
    exact ⟨a, o, h1, e _ _ h2, h3⟩
  | .ins _ _, _, h => by
    unfold Rep at *
    obtain ⟨a, dx, vs, h1, h2, h3⟩ := h
    exact ⟨a, dx, vs, h1, e _ _ h2, RepF.mono e h3⟩
theorem RepL.mono (e : Ext F F') : ∀ {ds : List D} {vs : List V}, RepL K F ds vs → RepL K F' ds vs
  | [], _, h => by unfold RepL at *; exact h
  | _ :: _, _, h => by
    unfold RepL at *
    obtain ⟨v, r, h1, h2, h3⟩ := h
    exact ⟨v, r, h1, Rep.mono e h2, RepL.mono e h3⟩
theorem RepF.mono (e : Ext F F') : ∀ {ds : List (Str × D)} {vs : List (Str × V)}, RepF K F ds vs → RepF K F' ds vs
  | [], _, h => by unfold RepF at *; exact h
  | (_, _) :: _, _, h => by
    unfold RepF at *
    obtain ⟨v, r, h1, h2, h3⟩ := h
    exact ⟨v, r, h1, Rep.mono e h2, RepF.mono e h3⟩
end
theorem RepL.nil : RepL K F [] [] := by unfold RepL; rfl
theorem RepL.cons {d : D} {ds : List D} {v : V} {vs : List V} (h : Rep K F d v) (t : RepL K F ds vs) : RepL K F (d :: ds) (v :: vs) := by
  unfold RepL
  exact ⟨v, vs, rfl, h, t⟩
theorem RepL.of_nil {vs : List V} (h : RepL K F [] vs) : vs = [] := by unfold RepL at h; exact h
theorem RepL.of_cons {d : D} {ds : List D} {vs : List V} (h : RepL K F (d :: ds) vs) : ∃ v r, vs = v :: r ∧ Rep K F d v ∧ RepL K F ds r := by
  unfold RepL at h
  exact h
theorem RepL.length : ∀ {ds : List D} {vs : List V}, RepL K F ds vs → vs.length = ds.length
  | [], _, h => by rw [h.of_nil]; rfl
  | _ :: _, _, h => by
    obtain ⟨v, r, rfl, _, t⟩ := h.of_cons
    rw [List.length_cons, List.length_cons, RepL.length t]
theorem RepL.get : ∀ {ds : List D} {vs : List V} {i : Nat} {d : D}, RepL K F ds vs → ds[i]? = some d → ∃ v, vs[i]? = some v ∧ Rep K F d v
  | [], _, _, _, _, e => by simp at e
  | d :: ds, _, 0, _, h, e => by
    obtain ⟨v, r, rfl, q, t⟩ := h.of_cons
    simp at e
    subst e
    exact ⟨v, rfl, q⟩
  | d :: ds, _, i + 1, _, h, e => by
    obtain ⟨v, r, rfl, q, t⟩ := h.of_cons
    exact RepL.get (i := i) t (by simpa using e)
theorem RepL.append : ∀ {ds es : List D} {vs us : List V}, RepL K F ds vs → RepL K F es us → RepL K F (ds ++ es) (vs ++ us)
  | [], _, _, _, h, g => by rw [h.of_nil]; exact g
  | _ :: _, _, _, _, h, g => by
    obtain ⟨v, r, rfl, q, t⟩ := h.of_cons
    exact .cons q (RepL.append t g)
theorem RepL.set {d : D} {v : V} (q : Rep K F d v) : ∀ {ds : List D} {vs : List V} (i : Nat), RepL K F ds vs → RepL K F (ds.set i d) (vs.set i v)
  | [], _, _, h => by rw [h.of_nil]; exact RepL.nil
  | _ :: _, _, 0, h => by
    obtain ⟨w, r, rfl, _, t⟩ := h.of_cons
    exact .cons q t
  | _ :: _, _, i + 1, h => by
    obtain ⟨w, r, rfl, p, t⟩ := h.of_cons
    exact .cons p (RepL.set q i t)
theorem RepL.erase : ∀ {ds : List D} {vs : List V} (i : Nat), RepL K F ds vs → RepL K F (ds.eraseIdx i) (vs.eraseIdx i)
  | [], _, _, h => by rw [h.of_nil]; exact RepL.nil
  | _ :: _, _, 0, h => by
    obtain ⟨w, r, rfl, _, t⟩ := h.of_cons
    exact t
  | _ :: _, _, i + 1, h => by
    obtain ⟨w, r, rfl, p, t⟩ := h.of_cons
    exact .cons p (RepL.erase i t)
theorem RepL.drop : ∀ {ds : List D} {vs : List V} (i : Nat), RepL K F ds vs → RepL K F (ds.drop i) (vs.drop i)
  | _, _, 0, h => h
  | [], _, _ + 1, h => by rw [h.of_nil]; exact RepL.nil
  | _ :: _, _, i + 1, h => by
    obtain ⟨w, r, rfl, p, t⟩ := h.of_cons
    exact RepL.drop i t
theorem RepL.take : ∀ {ds : List D} {vs : List V} (i : Nat), RepL K F ds vs → RepL K F (ds.take i) (vs.take i)
  | _, _, 0, _ => RepL.nil
  | [], _, _ + 1, h => by rw [h.of_nil]; exact RepL.nil
  | _ :: _, _, i + 1, h => by
    obtain ⟨w, r, rfl, p, t⟩ := h.of_cons
    exact .cons p (RepL.take i t)
theorem RepL.ints : ∀ {ns : List Int} {vs : List V}, RepL K F (ns.map D.int) vs → vs = ns.map V.int
  | [], _, h => h.of_nil
  | _ :: _, _, h => by
    obtain ⟨w, r, rfl, p, t⟩ := h.of_cons
    unfold Rep at p
    rw [p, RepL.ints t]
    rfl
theorem RepL.of_ints : ∀ {ns : List Int}, RepL K F (ns.map D.int) (ns.map V.int)
  | [] => RepL.nil
  | _ :: _ => .cons (by unfold Rep; rfl) RepL.of_ints
theorem RepF.lookup {f : Str} {d : D} : ∀ {fs : List (Str × D)} {vs : List (Str × V)}, RepF K F fs vs → fs.lookup f = some d → ∃ v, vs.lookup f = some v ∧ Rep K F d v
  | [], _, _, e => by simp at e
  | (x, d') :: fs, _, h, e => by
    unfold RepF at h
    obtain ⟨v, r, rfl, q, t⟩ := h
    rw [List.lookup_cons] at e ⊢
    cases hx : f == x with
    | true => rw [hx] at e; cases e; exact ⟨v, rfl, q⟩
    | false => rw [hx] at e; exact RepF.lookup t e
theorem RepF.lookup_none {f : Str} : ∀ {fs : List (Str × D)} {vs : List (Str × V)}, RepF K F fs vs → fs.lookup f = none → vs.lookup f = none
  | [], _, h, _ => by unfold RepF at h; rw [h]; rfl
  | (x, d') :: fs, _, h, e => by
    unfold RepF at h
    obtain ⟨v, r, rfl, q, t⟩ := h
    rw [List.lookup_cons] at e ⊢
    cases hx : f == x with
    | true => rw [hx] at e; cases e
    | false => rw [hx] at e; exact RepF.lookup_none t e
theorem RepF.length : ∀ {fs : List (Str × D)} {vs : List (Str × V)}, RepF K F fs vs → vs.length = fs.length
  | [], _, h => by unfold RepF at h; rw [h]; rfl
  | (x, d') :: fs, _, h => by
    unfold RepF at h
    obtain ⟨v, r, rfl, q, t⟩ := h
    rw [List.length_cons, List.length_cons, RepF.length t]
/-- attributes over data -/
def putD (f : Str) (d : D) : List (Str × D) → List (Str × D)
  | [] => [(f, d)]
  | (g, x) :: r => if g = f then (g, d) :: r else (g, x) :: putD f d r
theorem RepF.put {f : Str} {d : D} {v : V} (q : Rep K F d v) : ∀ {fs : List (Str × D)} {vs : List (Str × V)}, RepF K F fs vs → RepF K F (putD f d fs) (putF f v vs)
  | [], _, h => by
    unfold RepF at h
    subst h
    show RepF K F [(f, d)] [(f, v)]
    unfold RepF
    exact ⟨v, [], rfl, q, by unfold RepF; rfl⟩
  | (x, d') :: fs, _, h => by
    unfold RepF at h
    obtain ⟨w, r, rfl, p, t⟩ := h
    show RepF K F (if x = f then (x, d) :: fs else (x, d') :: putD f d fs) (if x = f then (x, v) :: r else (x, w) :: putF f v r)
    by_cases hx : x = f
    · rw [if_pos hx, if_pos hx]; unfold RepF; exact ⟨v, r, rfl, q, t⟩
    · rw [if_neg hx, if_neg hx]; unfold RepF; exact ⟨w, _, rfl, p, RepF.put q t⟩
theorem Rep.int {i : Int} {v : V} (h : Rep K F (.int i) v) : v = .int i := by unfold Rep at h; exact h
theorem Rep.bl {i : Bool} {v : V} (h : Rep K F (.bl i) v) : v = .bl i := by unfold Rep at h; exact h
theorem Rep.str {i : Str} {v : V} (h : Rep K F (.str i) v) : v = .str i := by unfold Rep at h; exact h
theorem Rep.non {v : V} (h : Rep K F .non v) : v = .non := by unfold Rep at h; exact h
theorem Rep.tup {ds : List D} {v : V} (h : Rep K F (.tup ds) v) : ∃ a vs, v = .ref a ∧ SqT K F a vs ∧ RepL K F ds vs := by unfold Rep at h; exact h
theorem Rep.lst' {ds : List D} {v : V} (h : Rep K F (.lst ds) v) : ∃ a vs, v = .ref a ∧ F a = some (.lst vs) ∧ RepL K F ds vs := by unfold Rep at h; exact h
theorem Rep.lst {ds : List D} {v : V} (h : Rep K F (.lst ds) v) : ∃ a vs, v = .ref a ∧ SqL K F a vs ∧ RepL K F ds vs := by
  obtain ⟨a, vs, h1, h2, h3⟩ := h.lst'
  exact ⟨a, vs, h1, SqL.of h2, h3⟩
theorem Rep.scr {ns : List Int} {v : V} (h : Rep K F (.scr ns) v) : ∃ a, v = .ref a ∧ SqL K F a (ns.map V.int) := by unfold Rep at h; exact h
theorem Rep.mk_scr {ns : List Int} {a : Addr} (h : SqL K F a (ns.map V.int)) : Rep K F (.scr ns) (.ref a) := by unfold Rep; exact ⟨a, rfl, h⟩
theorem Rep.nrw {xs : List Int} {v : V} (h : Rep K F (.nrw xs) v) : ∃ a o, v = .ref a ∧ F a = some (.frz o (.tup (xs.map V.int))) ∧ o.cls = .type "tuple" ∧ o.dict = none := by unfold Rep at h; exact h
theorem Rep.ins {c : Str} {fs : List (Str × D)} {v : V} (h : Rep K F (.ins c fs) v) : ∃ a dx vs, v = .ref a ∧ F a = some (.ins (He.ga K c) dx vs) ∧ RepF K F fs vs := by unfold Rep at h; exact h
theorem Rep.mk_int {i : Int} : Rep K F (.int i) (.int i) := by unfold Rep; rfl
theorem Rep.mk_bl {i : Bool} : Rep K F (.bl i) (.bl i) := by unfold Rep; rfl
theorem Rep.mk_str {i : Str} : Rep K F (.str i) (.str i) := by unfold Rep; rfl
theorem Rep.mk_non : Rep K F .non .non := by unfold Rep; rfl
theorem Rep.mk_tup {ds : List D} {a : Addr} {vs : List V} (h : SqT K F a vs) (r : RepL K F ds vs) : Rep K F (.tup ds) (.ref a) := by unfold Rep; exact ⟨a, vs, rfl, h, r⟩
theorem Rep.mk_lst {ds : List D} {a : Addr} {vs : List V} (h : F a = some (.lst vs)) (r : RepL K F ds vs) : Rep K F (.lst ds) (.ref a) := by unfold Rep; exact ⟨a, vs, rfl, h, r⟩
theorem Rep.mk_nrw {xs : List Int} {a : Addr} {o : Obj} (h : F a = some (.frz o (.tup (xs.map V.int)))) (h1 : o.cls = .type "tuple") (h2 : o.dict = none) : Rep K F (.nrw xs) (.ref a) := by unfold Rep; exact ⟨a, o, rfl, h, h1, h2⟩
/-- a row is a tuple -/
theorem Rep.row {xs : List Int} {v : V} (h : Rep K F (.nrw xs) v) : Rep K F (.tup (xs.map D.int)) v := by
  obtain ⟨a, o, rfl, h1, _⟩ := h.nrw
  exact Rep.mk_tup (.inl (.inr ⟨o, h1⟩)) RepL.of_ints
theorem RepL.rows : ∀ {xss : List (List Int)} {vs : List V}, RepL K F (xss.map D.nrw) vs → RepL K F (xss.map fun xs => .tup (xs.map D.int)) vs
  | [], _, h => h
  | _ :: _, _, h => by
    obtain ⟨v, r, rfl, q, t⟩ := h.of_cons
    exact .cons q.row (RepL.rows t)
theorem Rep.mk_ins {c : Str} {fs : List (Str × D)} {a dx : Addr} {vs : List (Str × V)} (h : F a = some (.ins (He.ga K c) dx vs)) (r : RepF K F fs vs) : Rep K F (.ins c fs) (.ref a) := by unfold Rep; exact ⟨a, dx, vs, rfl, h, r⟩

/-! ### growth -/
/-- from (F, H) to (F', H'): what was represented stays, what was tracked stays (but the state's list), what is newly represented is new -/
structure Gr (S : Option Addr) (F H F' H' : Hp) : Prop where
  ex : Ext F F'
  sub : Ext F' H'
  keep : ∀ b o, S ≠ some b → H b = some o → H' b = some o
  fresh : ∀ b o, F' b = some o → F b = none → H b = none
  st : ∀ a, S = some a → ∃ i j, H' a = some (.lst [.int i, .int j])
theorem Gr.trans {S : Option Addr} {F H F1 H1 F2 H2 : Hp} (a : Gr S F H F1 H1) (b : Gr S F1 H1 F2 H2) : Gr S F H F2 H2 := by
  refine ⟨a.ex.trans b.ex, b.sub, fun c o hc h => b.keep c o hc (a.keep c o hc h), fun c o h2 h0 => ?_, b.st⟩
  cases q : F1 c with
  | some u => exact a.fresh c u q h0
  | none =>
    have h1 := b.fresh c o h2 q
    cases r : H c with
    | none => rfl
    | some u =>
      by_cases hc : S = some c
      · obtain ⟨i, j, e⟩ := a.st c hc
        rw [e] at h1
        cases h1
      · rw [a.keep c u hc r] at h1
        cases h1

/-! ### slots -/
inductive Sl where
  | un
  | im (d : D)
  | ow (a : Addr) (ds : List D)
  | st
  | sf (a : Addr) (c : Str) (fs : List (Str × D))
  | mx (a : Addr) (ps : List Addr) (dss : List (List D))
abbrev En := List Sl
/-- own lists within an own list -/
def MxOk (K : PySem.W.Frag) (F H : Hp) : List Addr → List (List D) → Prop
  | [], [] => True
  | p :: ps, ds :: dss => (F p = none ∧ ∃ vs, H p = some (.lst vs) ∧ RepL K F ds vs) ∧ MxOk K F H ps dss
  | _, _ => False
theorem MxOk.map {K : PySem.W.Frag} {F H F' H' : Hp} (e : Ext F F') : ∀ {ps : List Addr} {dss : List (List D)}, (∀ p ∈ ps, F p = none → ∀ o, H p = some o → F' p = none ∧ H' p = some o) → MxOk K F H ps dss → MxOk K F' H' ps dss
  | [], [], _, _ => trivial
  | p :: ps, ds :: dss, h, ⟨⟨h1, vs, h2, h3⟩, t⟩ => by
    obtain ⟨g1, g2⟩ := h p (List.mem_cons_self ..) h1 _ h2
    exact ⟨⟨g1, vs, g2, h3.mono e⟩, MxOk.map e (fun q hq => h q (List.mem_cons_of_mem _ hq)) t⟩
theorem MxOk.at {K : PySem.W.Frag} {F H : Hp} : ∀ {ps : List Addr} {dss : List (List D)} {p : Addr}, p ∈ ps → MxOk K F H ps dss → F p = none ∧ ∃ vs, H p = some (.lst vs)
  | q :: ps, ds :: dss, p, hp, ⟨⟨h1, vs, h2, h3⟩, t⟩ => by
    rcases List.mem_cons.mp hp with z | z
    · rw [z]; exact ⟨h1, vs, h2⟩
    · exact MxOk.at z t
  | [], _, _, hp, _ => by cases hp
  | _ :: _, [], _, _, h => h.elim
def SlOk (K : PySem.W.Frag) (S : Option Addr) (F H : Hp) : Sl → Option V → Prop
  | .un, _ => True
  | .im d, v => ∃ x, v = some x ∧ Rep K F d x
  | .ow a ds, v => v = some (.ref a) ∧ F a = none ∧ ∃ vs, H a = some (.lst vs) ∧ RepL K F ds vs
  | .st, v => ∃ a, S = some a ∧ v = some (.ref a)
  | .sf a c fs, v => v = some (.ref a) ∧ F a = none ∧ ∃ dx vs, H a = some (.ins (He.ga K c) dx vs) ∧ RepF K F fs vs
  | .mx a ps dss, v => v = some (.ref a) ∧ F a = none ∧ H a = some (.lst (ps.map V.ref)) ∧ MxOk K F H ps dss
def own1 : Sl → List Addr
  | .ow a _ => [a]
  | .sf a _ _ => [a]
  | .mx a ps _ => a :: ps
  | _ => []
def owns (r : En) : List Addr := r.flatMap own1
structure EnOk (K : PySem.W.Frag) (S : Option Addr) (r : En) (s : L2.St) (F H : Hp) : Prop where
  ext : Ext F H
  len : r.length = s.length
  sl : ∀ (i : Nat) (x : Sl), r[i]? = some x → ∃ v, s[i]? = some v ∧ SlOk K S F H x v
  nd : (owns r).Nodup
  st : ∀ a, S = some a → F a = none ∧ a ∉ owns r ∧ ∃ i j, H a = some (.lst [.int i, .int j])
variable {S : Option Addr} {r : En} {s : L2.St}
theorem mem_owns {x : Sl} {a : Addr} {i : Nat} (h : r[i]? = some x) (ha : a ∈ own1 x) : a ∈ owns r := List.mem_flatMap.mpr ⟨x, List.mem_of_getElem? h, ha⟩
/-- what is owned is tracked, not represented -/
theorem EnOk.own (e : EnOk K S r s F H) {a : Addr} (h : a ∈ owns r) : F a = none ∧ ∃ o, H a = some o := by
  obtain ⟨x, hx, ha⟩ := List.mem_flatMap.mp h
  obtain ⟨i, hi⟩ := List.mem_iff_getElem?.mp hx
  obtain ⟨v, _, ok⟩ := e.sl i x hi
  cases x with
  | ow b ds =>
    have q : a = b := by simpa [own1] using ha
    subst q
    obtain ⟨_, h2, vs, h3, _⟩ := ok
    exact ⟨h2, _, h3⟩
  | sf b c fs =>
    have q : a = b := by simpa [own1] using ha
    subst q
    obtain ⟨_, h2, dx, vs, h3, _⟩ := ok
    exact ⟨h2, _, h3⟩
  | mx b ps dss =>
    obtain ⟨_, h2, h3, h4⟩ := ok
    rcases List.mem_cons.mp (show a ∈ b :: ps from ha) with z | z
    · rw [z]; exact ⟨h2, _, h3⟩
    · obtain ⟨q1, vs, q2⟩ := MxOk.at z h4
      exact ⟨q1, _, q2⟩
  | _ => simp [own1] at ha
theorem EnOk.gr (e : EnOk K S r s F H) (g : Gr S F H F' H') : EnOk K S r s F' H' := by
  have keepF : ∀ a o, F a = none → H a = some o → F' a = none := fun a o hf hh => by
    cases q : F' a with
    | none => rfl
    | some u =>
      have z := g.fresh a u q hf
      rw [hh] at z
      cases z
  refine ⟨g.sub, e.len, fun i x hi => ?_, e.nd, fun a ha => ?_⟩
  · obtain ⟨v, hv, ok⟩ := e.sl i x hi
    refine ⟨v, hv, ?_⟩
    cases x with
    | un => trivial
    | im d =>
      obtain ⟨y, h1, h2⟩ := ok
      exact ⟨y, h1, h2.mono g.ex⟩
    | ow a ds =>
      obtain ⟨h1, h2, vs, h3, h4⟩ := ok
      have ne : S ≠ some a := fun z => (e.st a z).2.1 (mem_owns hi (by simp [own1]))
      exact ⟨h1, keepF _ _ h2 h3, vs, g.keep a _ ne h3, h4.mono g.ex⟩
    | st => exact ok
    | sf a c fs =>
      obtain ⟨h1, h2, dx, vs, h3, h4⟩ := ok
      have ne : S ≠ some a := fun z => (e.st a z).2.1 (mem_owns hi (by simp [own1]))
      exact ⟨h1, keepF _ _ h2 h3, dx, vs, g.keep a _ ne h3, h4.mono g.ex⟩
    | mx a ps dss =>
      obtain ⟨h1, h2, h3, h4⟩ := ok
      have ne : ∀ b ∈ a :: ps, S ≠ some b := fun b hb z => (e.st b z).2.1 (mem_owns hi hb)
      exact ⟨h1, keepF _ _ h2 h3, g.keep a _ (ne a (List.mem_cons_self ..)) h3, h4.map g.ex fun p hp hf o ho => ⟨keepF p o hf ho, g.keep p o (ne p (List.mem_cons_of_mem _ hp)) ho⟩⟩
  · obtain ⟨h1, h2, i, j, h3⟩ := e.st a ha
    exact ⟨keepF _ _ h1 h3, h2, g.st a ha⟩
theorem EnOk.grr (e : EnOk K S r s F H) : Gr S F H F H where
  ex := Ext.refl F
  sub := e.ext
  keep := fun _ _ _ h => h
  fresh := fun b o h n => by rw [n] at h; cases h
  st := fun a ha => (e.st a ha).2.2
end
end Wk
/-! # WkRu -/
set_option Elab.async false
set_option linter.all false
set_option maxRecDepth 100000
set_option maxHeartbeats 2000000
/-! Evaluation over data: RunE (an expression), RunT (a test), RunA (arguments), RunO (a new list), RunL (a list that is read), rules for operators and built-ins. -/
namespace Wk
open PySem PySem.Spec PyProof.Rows L2

def StOk (S : Option Addr) (F H : Hp) : Prop := ∀ a, S = some a → F a = none ∧ ∃ i j, H a = some (.lst [.int i, .int j])
section
variable {K : PySem.W.Frag} {S : Option Addr} {F F' H H' F1 H1 F2 H2 : Hp} {r : En} {s : L2.St}
theorem EnOk.sok (e : EnOk K S r s F H) : StOk S F H := fun a ha => ⟨(e.st a ha).1, (e.st a ha).2.2⟩
theorem Gr.refl (e : Ext F H) (t : StOk S F H) : Gr S F H F H where
  ex := Ext.refl F
  sub := e
  keep := fun _ _ _ h => h
  fresh := fun b o h n => by rw [n] at h; cases h
  st := fun a ha => (t a ha).2
theorem Gr.sok (g : Gr S F H F' H') (t : StOk S F H) : StOk S F' H' := fun a ha => by
  obtain ⟨h1, i, j, h2⟩ := t a ha
  refine ⟨?_, g.st a ha⟩
  cases q : F' a with
  | none => rfl
  | some u =>
    have z := g.fresh a u q h1
    rw [h2] at z
    cases z
/-- a new object, tracked and represented -/
theorem Gr.new {p : Addr} {o : HO} (e : Ext F H) (t : StOk S F H) (hp : H p = none) : Gr S F H (upd F p o) (upd H p o) where
  ex := Ext.new (e.back hp)
  sub := fun b u h => by
    by_cases z : b = p
    · subst z; rw [upd_same] at h ⊢; exact h
    · rw [upd_ne z] at h ⊢; exact e b u h
  keep := fun b u _ h => Ext.new hp b u h
  fresh := fun b u h n => by
    by_cases z : b = p
    · subst z; exact hp
    · rw [upd_ne z] at h; rw [n] at h; cases h
  st := fun a ha => by
    obtain ⟨_, i, j, h⟩ := t a ha
    exact ⟨i, j, Ext.new hp a _ h⟩
/-- a new object, tracked only -/
theorem Gr.track {p : Addr} {o : HO} (e : Ext F H) (t : StOk S F H) (hp : H p = none) : Gr S F H F (upd H p o) where
  ex := Ext.refl F
  sub := e.trans (Ext.new hp)
  keep := fun b u _ h => Ext.new hp b u h
  fresh := fun b u h n => by rw [n] at h; cases h
  st := fun a ha => by
    obtain ⟨_, i, j, h⟩ := t a ha
    exact ⟨i, j, Ext.new hp a _ h⟩
/-- what is tracked and new is represented from now on -/
theorem Gr.freeze {p : Addr} {o : HO} (g : Gr S F H F' H') (hf : F' p = none) (hp : H p = none) (h : H' p = some o) : Gr S F H (upd F' p o) H' where
  ex := g.ex.trans (Ext.new hf)
  sub := fun b u q => by
    by_cases z : b = p
    · subst z; rw [upd_same] at q; rw [h]; exact q
    · rw [upd_ne z] at q; exact g.sub b u q
  keep := g.keep
  fresh := fun b u q n => by
    by_cases z : b = p
    · subst z; exact hp
    · rw [upd_ne z] at q; exact g.fresh b u q n
  st := g.st
/-- growth without a state is growth with one -/
theorem Gr.any (g : Gr none F H F' H') (t : StOk S F H) : Gr S F H F' H' where
  ex := g.ex
  sub := g.sub
  keep := fun b o _ h => g.keep b o (by simp) h
  fresh := g.fresh
  st := fun a ha => by
    obtain ⟨_, i, j, h⟩ := t a ha
    exact ⟨i, j, g.keep a _ (by simp) h⟩
end

def RunE (K : PySem.W.Frag) (t : TE) (r : En) (f : D → Prop) : Prop := ∀ S s F H, EnOk K S r s F H → ∀ Q : VK, (∀ d v F' H', f d → Rep K F' d v → Gr S F H F' H' → Q v H') → t s H Q
abbrev RunV (K : PySem.W.Frag) (t : TE) (r : En) (d : D) : Prop := RunE K t r fun x => x = d
def RunT (K : PySem.W.Frag) (t : TT) (r : En) (b : Bool) : Prop := ∀ S s F H, EnOk K S r s F H → ∀ Q : Bool → Hp → Prop, (∀ F' H', Gr S F H F' H' → Q b H') → t s H Q
def RunA (K : PySem.W.Frag) (t : TA) (r : En) (f : List D → Prop) : Prop := ∀ S s F H, EnOk K S r s F H → ∀ Q : List V → Hp → Prop, (∀ ds vs F' H', f ds → RepL K F' ds vs → Gr S F H F' H' → Q vs H') → t s H Q
abbrev RunAV (K : PySem.W.Frag) (t : TA) (r : En) (ds : List D) : Prop := RunA K t r fun x => x = ds
/-- a new list -/
def RunO (K : PySem.W.Frag) (t : TE) (r : En) (f : List D → Prop) : Prop := ∀ S s F H, EnOk K S r s F H → ∀ Q : VK, (∀ ds p vs F' H', f ds → Gr S F H F' H' → F' p = none → H p = none → H' p = some (.lst vs) → RepL K F' ds vs → Q (.ref p) H') → t s H Q
abbrev RunOV (K : PySem.W.Frag) (t : TE) (r : En) (ds : List D) : Prop := RunO K t r fun x => x = ds
/-- a list that is read -/
def RunL (K : PySem.W.Frag) (t : TE) (r : En) (ds : List D) : Prop := ∀ S s F H, EnOk K S r s F H → ∀ Q : VK, (∀ a vs F' H', Gr S F H F' H' → (∀ F2 H2, Gr S F' H' F2 H2 → SqL K H2 a vs) → RepL K F' ds vs → Q (.ref a) H') → t s H Q
/-- an operation on two values, on one, a call on values -/
def RunR (K : PySem.W.Frag) (rr : R2) (x y : D) (f : D → Prop) : Prop := ∀ S F H vx vy, Ext F H → StOk S F H → Rep K F x vx → Rep K F y vy → ∀ Q : VK, (∀ d v F' H', f d → Rep K F' d v → Gr S F H F' H' → Q v H') → rr vx vy H Q
def RunC (K : PySem.W.Frag) (rr : List V → Hp → VK → Prop) (ds : List D) (f : D → Prop) : Prop := ∀ S F H vs, Ext F H → StOk S F H → RepL K F ds vs → ∀ Q : VK, (∀ d v F' H', f d → Rep K F' d v → Gr S F H F' H' → Q v H') → rr vs H Q

section
variable {K : PySem.W.Frag} {r : En} {ta tb tc te : TE} {f g h : D → Prop} {d x y : D} {ds es : List D} {rr : R2} {i : Nat} {t u : TT} {a b : Bool} {tr : TA}

theorem RunE.imp (w : RunE K te r f) (k : ∀ d, f d → g d) : RunE K te r g := fun S s F H e Q q => w S s F H e Q fun d v F' H' hd => q d v F' H' (k d hd)
theorem RunE.is (w : RunV K te r d) (k : d = x) : RunV K te r x := by subst k; exact w
theorem RunT.is (w : RunT K t r a) (k : a = b) : RunT K t r b := by subst k; exact w
theorem RunA.imp {f g : List D → Prop} (w : RunA K tr r f) (k : ∀ d, f d → g d) : RunA K tr r g := fun S s F H e Q q => w S s F H e Q fun d v F' H' hd => q d v F' H' (k d hd)
theorem RunO.imp {f g : List D → Prop} (w : RunO K te r f) (k : ∀ d, f d → g d) : RunO K te r g := fun S s F H e Q q => w S s F H e Q fun d p v F' H' hd => q d p v F' H' (k d hd)

theorem RunO.is2 (w : RunOV K te r ds) (k : ds = es) : RunOV K te r es := by subst k; exact w
/-! ### names, constants -/
theorem rv_var (h : r[i]? = some (.im d)) : RunV K (tVar i) r d := fun S s F H e Q q => by
  obtain ⟨v, hv, z, h1, h2⟩ := e.sl i _ h
  subst h1
  exact ⟨z, hv, q d z F H rfl h2 e.grr⟩
theorem rv_int {n : Int} : RunV K (tC (.int n)) r (.int n) := fun S s F H e Q q => q _ _ F H rfl Rep.mk_int e.grr
theorem rv_str {n : Str} : RunV K (tC (.str n)) r (.str n) := fun S s F H e Q q => q _ _ F H rfl Rep.mk_str e.grr
theorem rv_bl {n : Bool} : RunV K (tC (.bl n)) r (.bl n) := fun S s F H e Q q => q _ _ F H rfl Rep.mk_bl e.grr
theorem rv_non : RunV K (tC .non) r .non := fun S s F H e Q q => q _ _ F H rfl Rep.mk_non e.grr
/-- a table of the top -/
theorem rv_tab {p : Addr} {vs : List V} (hs : ∀ H, SqT K H p vs) (hr : ∀ F, RepL K F ds vs) : RunV K (tC (.ref p)) r (.tup ds) := fun S s F H e Q q => q _ _ F H rfl (Rep.mk_tup (hs F) (hr F)) e.grr

/-! ### lists that are read -/
theorem RunO.e {f : List D → Prop} (w : RunO K te r f) : RunE K te r (fun x => ∃ ds, f ds ∧ x = .lst ds) := fun S s F H e Q q =>
  w S s F H e Q fun ds p vs F' H' hf gr hn hp hh rp => q (.lst ds) (.ref p) (upd F' p (.lst vs)) H' ⟨ds, hf, rfl⟩ (Rep.mk_lst upd_same (rp.mono (Ext.new hn))) (gr.freeze hn hp hh)
theorem RunO.v (w : RunOV K te r ds) : RunV K te r (.lst ds) := (RunO.e w).imp fun x ⟨z, hz, hx⟩ => by subst hz; exact hx
theorem seqL_keep {S : Option Addr} {F H : Hp} {p : Addr} {vs : List V} (h : SqL K H p vs) (n : S ≠ some p) : ∀ F2 H2, Gr S F H F2 H2 → SqL K H2 p vs := fun F2 H2 g => by
  rcases h with (h | ⟨o, h⟩) | h
  · exact .inl (.inl (g.keep _ _ n h))
  · exact .inl (.inr ⟨o, g.keep _ _ n h⟩)
  · exact .inr h
theorem EnOk.ne_new {S : Option Addr} {s : L2.St} {F H : Hp} (e : EnOk K S r s F H) {p : Addr} (hp : H p = none) : S ≠ some p := fun z => by
  obtain ⟨_, _, i, j, h⟩ := e.st p z
  rw [hp] at h
  cases h
theorem RunO.l (w : RunOV K te r ds) : RunL K te r ds := fun S s F H e Q q =>
  w S s F H e Q fun ds' p vs F' H' hf gr hn hp hh rp => by
    subst hf
    exact q p vs F' H' gr (seqL_keep (SqL.of hh) (e.ne_new hp)) rp
theorem RunE.l (w : RunV K te r (.lst ds)) : RunL K te r ds := fun S s F H e Q q =>
  w S s F H e Q fun d v F' H' hd rp gr => by
    subst hd
    obtain ⟨a, vs, rfl, h1, h2⟩ := rp.lst
    refine q a vs F' H' gr (fun F2 H2 g2 => g2.sub.seqL (g2.ex.seqL h1)) h2
theorem rl_own {p : Addr} (h : r[i]? = some (.ow p ds)) : RunL K (tVar i) r ds := fun S s F H e Q q => by
  obtain ⟨v, hv, h1, h2, vs, h3, h4⟩ := e.sl i _ h
  subst h1
  exact ⟨_, hv, q p vs F H e.grr (seqL_keep (SqL.of h3) fun z => (e.st p z).2.1 (mem_owns h (by simp [own1]))) h4⟩

/-! ### arguments, displays -/
theorem ra_nil : RunAV K tNil r [] := fun S s F H e Q q => q _ _ F H rfl RepL.nil e.grr
theorem ra_consE {f : D → Prop} {g h : List D → Prop} (w : RunE K ta r f) (z : RunA K tr r g) (k : ∀ x xs, f x → g xs → h (x :: xs)) : RunA K (tCons ta tr) r h := fun S s F H e Q q =>
  w S s F H e _ fun d v F1 H1 hd r1 g1 => z S s F1 H1 (e.gr g1) _ fun es vs F2 H2 hes r2 g2 => q _ _ F2 H2 (k _ _ hd hes) (.cons (r1.mono g2.ex) r2) (g1.trans g2)
theorem ra_cons (w : RunV K ta r d) (z : RunAV K tr r ds) : RunAV K (tCons ta tr) r (d :: ds) := ra_consE w z fun x xs h1 h2 => by rw [h1, h2]
theorem re_tup {f : List D → Prop} (w : RunA K tr r f) (hl : ∀ ds, f ds → ds.length ≤ 1000) : RunE K (tTup tr) r (fun x => ∃ ds, f ds ∧ x = .tup ds) := fun S s F H e Q q =>
  w S s F H e _ fun es vs F1 H1 hes r1 g1 => ⟨by rw [r1.length]; exact Nat.le_trans (hl _ hes) (by decide), fun p hp =>
    q (.tup es) (.ref p) (upd F1 p (.tup vs)) (upd H1 p (.tup vs)) ⟨es, hes, rfl⟩ (Rep.mk_tup (SqT.of upd_same) (r1.mono (Ext.new (g1.sub.back hp)))) (g1.trans (Gr.new g1.sub (g1.sok e.sok) hp))⟩
theorem rv_tup (w : RunAV K tr r ds) (hl : ds.length ≤ 1000 := by first | decide | simp) : RunV K (tTup tr) r (.tup ds) := (re_tup w (by intro z hz; subst hz; exact hl)).imp fun x ⟨z, hz, hx⟩ => by subst hz; exact hx
theorem ro_lst {f : List D → Prop} (w : RunA K tr r f) (hl : ∀ ds, f ds → ds.length ≤ 1000) : RunO K (tLst tr) r f := fun S s F H e Q q =>
  w S s F H e _ fun es vs F1 H1 hes r1 g1 => ⟨by rw [r1.length]; exact Nat.le_trans (hl _ hes) (by decide), fun p hp => by
    have hp0 : H p = none := by
      cases z : H p with
      | none => rfl
      | some u =>
        by_cases c : S = some p
        · obtain ⟨i, j, w2⟩ := g1.st p c
          rw [w2] at hp; cases hp
        · rw [g1.keep p u c z] at hp; cases hp
    exact q es p vs F1 (upd H1 p (.lst vs)) hes (g1.trans (Gr.track g1.sub (g1.sok e.sok) hp)) (g1.sub.back hp) hp0 upd_same r1⟩
theorem rov_lst (w : RunAV K tr r ds) (hl : ds.length ≤ 1000 := by first | decide | simp) : RunOV K (tLst tr) r ds := ro_lst w (by intro z hz; subst hz; exact hl)
/-- free behind is free before -/
theorem gr_free {S : Option Addr} {F H F1 H1 : Hp} {p : Addr} (g1 : Gr S F H F1 H1) (hp : H1 p = none) : H p = none := by
  cases z : H p with
  | none => rfl
  | some u =>
    by_cases c : S = some p
    · obtain ⟨i, j, w2⟩ := g1.st p c
      rw [w2] at hp; cases hp
    · rw [g1.keep p u c z] at hp; cases hp

/-! ### operators -/
theorem re_op (wa : RunE K ta r f) (wb : RunE K tb r g) (k : ∀ x y, f x → g y → RunR K rr x y h) : RunE K (tOp rr ta tb) r h := fun S s F H e Q q =>
  wa S s F H e _ fun x vx F1 H1 hx r1 g1 => wb S s F1 H1 (e.gr g1) _ fun y vy F2 H2 hy r2 g2 =>
    k x y hx hy S F2 H2 vx vy g2.sub (g2.sok (g1.sok e.sok)) (r1.mono g2.ex) r2 Q fun d v F3 H3 hd rd g3 => q d v F3 H3 hd rd ((g1.trans g2).trans g3)
theorem rv_op (wa : RunV K ta r x) (wb : RunV K tb r y) (k : RunR K rr x y h) : RunE K (tOp rr ta tb) r h := re_op wa wb fun x' y' h1 h2 => by subst h1 h2; exact k
abbrev rAddI : R2 := rI0 fun i j => .int (i + j)
abbrev rSubI : R2 := rI0 fun i j => .int (i - j)
abbrev rMulI : R2 := rI CMul fun i j => .int (i * j)
abbrev rModI : R2 := rI (fun _ j => 0 < j) fun i j => .int (i % j)
abbrev rDivI : R2 := rI CDiv fun i j => .int (i / j)
abbrev rLtI : R2 := rI0 fun i j => .bl (decide (i < j))
abbrev rLeI : R2 := rI0 fun i j => .bl (decide (i ≤ j))
abbrev rGtI : R2 := rI0 fun i j => .bl (decide (j < i))
abbrev rGeI : R2 := rI0 fun i j => .bl (decide (j ≤ i))
theorem rr_I0 {G : Int → Int → V} {m n : Int} {d : D} (hd : ∀ F, Rep K F d (G m n)) (hf : f d) : RunR K (rI0 G) (.int m) (.int n) f := fun S F H vx vy e so rx ry Q q => by
  rw [rx.int, ry.int]
  exact ⟨m, n, rfl, rfl, q d _ F H hf (hd F) (Gr.refl e so)⟩
theorem rr_I {C : Int → Int → Prop} {G : Int → Int → V} {m n : Int} {d : D} (hc : C m n) (hd : ∀ F, Rep K F d (G m n)) (hf : f d) : RunR K (rI C G) (.int m) (.int n) f := fun S F H vx vy e so rx ry Q q => by
  rw [rx.int, ry.int]
  exact ⟨m, n, rfl, rfl, hc, q d _ F H hf (hd F) (Gr.refl e so)⟩
variable {m n : Int}
theorem rv_add (wa : RunV K ta r (.int m)) (wb : RunV K tb r (.int n)) : RunV K (tOp rAddI ta tb) r (.int (m + n)) := rv_op wa wb (rr_I0 (d := .int (m + n)) (fun _ => Rep.mk_int) rfl)
theorem rv_sub (wa : RunV K ta r (.int m)) (wb : RunV K tb r (.int n)) : RunV K (tOp rSubI ta tb) r (.int (m - n)) := rv_op wa wb (rr_I0 (d := .int (m - n)) (fun _ => Rep.mk_int) rfl)
theorem rv_mul (wa : RunV K ta r (.int m)) (wb : RunV K tb r (.int n)) (hc : CMul m n) : RunV K (tOp rMulI ta tb) r (.int (m * n)) := rv_op wa wb (rr_I (d := .int (m * n)) hc (fun _ => Rep.mk_int) rfl)
theorem rv_mod (wa : RunV K ta r (.int m)) (wb : RunV K tb r (.int n)) (hc : 0 < n) : RunV K (tOp rModI ta tb) r (.int (m % n)) := rv_op wa wb (rr_I (C := fun _ j => 0 < j) (d := .int (m % n)) hc (fun _ => Rep.mk_int) rfl)
theorem rv_div (wa : RunV K ta r (.int m)) (wb : RunV K tb r (.int n)) (hc : 0 < n) (hb : n < 1073741824) : RunV K (tOp rDivI ta tb) r (.int (m / n)) := rv_op wa wb (rr_I (C := CDiv) (d := .int (m / n)) ⟨hc, hb⟩ (fun _ => Rep.mk_int) rfl)
theorem rv_lt (wa : RunV K ta r (.int m)) (wb : RunV K tb r (.int n)) : RunV K (tOp rLtI ta tb) r (.bl (decide (m < n))) := rv_op wa wb (rr_I0 (d := .bl (decide (m < n))) (fun _ => Rep.mk_bl) rfl)
theorem rv_le (wa : RunV K ta r (.int m)) (wb : RunV K tb r (.int n)) : RunV K (tOp rLeI ta tb) r (.bl (decide (m ≤ n))) := rv_op wa wb (rr_I0 (d := .bl (decide (m ≤ n))) (fun _ => Rep.mk_bl) rfl)
theorem rv_gt (wa : RunV K ta r (.int m)) (wb : RunV K tb r (.int n)) : RunV K (tOp rGtI ta tb) r (.bl (decide (n < m))) := rv_op wa wb (rr_I0 (d := .bl (decide (n < m))) (fun _ => Rep.mk_bl) rfl)
theorem rv_ge (wa : RunV K ta r (.int m)) (wb : RunV K tb r (.int n)) : RunV K (tOp rGeI ta tb) r (.bl (decide (n ≤ m))) := rv_op wa wb (rr_I0 (d := .bl (decide (n ≤ m))) (fun _ => Rep.mk_bl) rfl)
theorem rv_neg (wa : RunV K ta r (.int m)) : RunV K (tUn (rU fun i => .int (-i)) ta) r (.int (-m)) := fun S s F H e Q q =>
  wa S s F H e _ fun d v F1 H1 hd r1 g1 => by
    subst hd
    exact ⟨m, r1.int, q _ _ F1 H1 rfl Rep.mk_int g1⟩

/-! ### == of scalars -/
def scD : D → Option V
  | .non => some .non
  | .bl b => some (.bl b)
  | .int i => some (.int i)
  | .str x => some (.str x)
  | _ => none
theorem scD_rep {F : Hp} {v w : V} (h : scD d = some v) (q : Rep K F d w) : w = v := by
  cases d with
  | non => cases h; exact q.non
  | bl b => cases h; exact q.bl
  | int i => cases h; exact q.int
  | str x => cases h; exact q.str
  | _ => cases h
theorem rr_eq {v w : V} (h1 : scD x = some v) (h2 : scD y = some w) (hs : scal v w = true) (hf : f (.bl (decide (v = w)))) : RunR K rEq x y f := fun S F H vx vy e so rx ry Q q => by
  rw [scD_rep h1 rx, scD_rep h2 ry]
  exact ⟨hs, q _ _ F H hf Rep.mk_bl (Gr.refl e so)⟩
theorem rr_ne {v w : V} (h1 : scD x = some v) (h2 : scD y = some w) (hs : scal v w = true) (hf : f (.bl (!decide (v = w)))) : RunR K rNe x y f := fun S F H vx vy e so rx ry Q q => by
  rw [scD_rep h1 rx, scD_rep h2 ry]
  exact ⟨hs, q _ _ F H hf Rep.mk_bl (Gr.refl e so)⟩
theorem rv_eqI (wa : RunV K ta r (.int m)) (wb : RunV K tb r (.int n)) : RunV K (tOp rEq ta tb) r (.bl (decide (m = n))) := rv_op wa wb (rr_eq rfl rfl rfl (by rw [dec_int, Bool.beq_eq_decide_eq]))
theorem rv_neI (wa : RunV K ta r (.int m)) (wb : RunV K tb r (.int n)) : RunV K (tOp rNe ta tb) r (.bl (!decide (m = n))) := rv_op wa wb (rr_ne rfl rfl rfl (by rw [dec_int, Bool.beq_eq_decide_eq]))
theorem rv_eqS {m n : Str} (wa : RunV K ta r (.str m)) (wb : RunV K tb r (.str n)) : RunV K (tOp rEq ta tb) r (.bl (decide (m = n))) := rv_op wa wb (rr_eq rfl rfl rfl (by rw [dec_str, Bool.beq_eq_decide_eq]))
theorem rv_neS {m n : Str} (wa : RunV K ta r (.str m)) (wb : RunV K tb r (.str n)) : RunV K (tOp rNe ta tb) r (.bl (!decide (m = n))) := rv_op wa wb (rr_ne rfl rfl rfl (by rw [dec_str, Bool.beq_eq_decide_eq]))
theorem rv_neB {m n : Bool} (wa : RunV K ta r (.bl m)) (wb : RunV K tb r (.bl n)) : RunV K (tOp rNe ta tb) r (.bl (m != n)) := rv_op wa wb (rr_ne rfl rfl rfl (by rw [dec_bl]; rfl))
/-- is None -/
def D.isN : D → Bool
  | .non => true
  | _ => false
theorem isN_rep {F : Hp} {v : V} (r1 : Rep K F d v) : decide (v = .non) = d.isN := by
  cases d with
  | non => rw [r1.non]; rfl
  | bl b => rw [r1.bl]; rfl
  | int b => rw [r1.int]; rfl
  | str b => rw [r1.str]; rfl
  | tup b => obtain ⟨_, _, h, _⟩ := r1.tup; rw [h]; rfl
  | lst b => obtain ⟨_, _, h, _⟩ := r1.lst; rw [h]; rfl
  | scr b => obtain ⟨_, h, _⟩ := r1.scr; rw [h]; rfl
  | nrw b => obtain ⟨_, _, h, _⟩ := r1.nrw; rw [h]; rfl
  | ins b c => obtain ⟨_, _, _, h, _⟩ := r1.ins; rw [h]; rfl
abbrev rIsN : R2 := fun x y H Q => y = .non ∧ Q (.bl (decide (x = .non))) H
abbrev rNotN : R2 := fun x y H Q => y = .non ∧ Q (.bl (!decide (x = .non))) H
theorem rv_isN (wa : RunV K ta r x) : RunV K (tOp rIsN ta (tC .non)) r (.bl x.isN) := fun S s F H e Q q =>
  wa S s F H e _ fun d v F1 H1 hd r1 g1 => ⟨rfl, by
    subst hd
    rw [isN_rep r1]
    exact q _ _ F1 H1 rfl Rep.mk_bl g1⟩
theorem rv_notN (wa : RunV K ta r x) : RunV K (tOp rNotN ta (tC .non)) r (.bl (!x.isN)) := fun S s F H e Q q =>
  wa S s F H e _ fun d v F1 H1 hd r1 g1 => ⟨rfl, by
    subst hd
    rw [isN_rep r1]
    exact q _ _ F1 H1 rfl Rep.mk_bl g1⟩

/-! ### tests -/
theorem rt_test (w : RunV K te r (.bl b)) : RunT K (tTest te) r b := fun S s F H e Q q => w S s F H e _ fun d v F1 H1 hd r1 g1 => ⟨b, by subst hd; exact r1.bl, q F1 H1 g1⟩
theorem rt_B (w : RunV K te r (.bl b)) : RunT K (tB te) r b := fun S s F H e Q q => w S s F H e _ fun d v F1 H1 hd r1 g1 => ⟨b, by subst hd; exact r1.bl, q F1 H1 g1⟩
theorem rt_and (h1 : RunT K t r a) (h2 : a = true → RunT K u r b) : RunT K (tAnd t u) r (a && b) := fun S s F H e Q q => h1 S s F H e _ fun F1 H1 g1 => by
  cases a with
  | true =>
    show (if true = true then u s H1 Q else Q false H1)
    rw [if_pos rfl]
    exact h2 rfl S s F1 H1 (e.gr g1) Q fun F2 H2 g2 => q F2 H2 (g1.trans g2)
  | false =>
    show (if false = true then u s H1 Q else Q false H1)
    rw [if_neg Bool.false_ne_true]
    exact q F1 H1 g1
theorem rt_or (h1 : RunT K t r a) (h2 : a = false → RunT K u r b) : RunT K (tOr t u) r (a || b) := fun S s F H e Q q => h1 S s F H e _ fun F1 H1 g1 => by
  cases a with
  | true =>
    show (if true = true then Q true H1 else u s H1 Q)
    rw [if_pos rfl]
    exact q F1 H1 g1
  | false =>
    show (if false = true then Q true H1 else u s H1 Q)
    rw [if_neg Bool.false_ne_true]
    exact h2 rfl S s F1 H1 (e.gr g1) Q fun F2 H2 g2 => q F2 H2 (g1.trans g2)
theorem rt_not (h1 : RunT K t r a) : RunT K (tNot t) r (!a) := fun S s F H e Q q => h1 S s F H e _ fun F1 H1 g1 => q F1 H1 g1
theorem rv_andV (h1 : RunV K ta r (.bl a)) (h2 : a = true → RunV K tb r (.bl b)) : RunV K (tAndV ta tb) r (.bl (a && b)) := fun S s F H e Q q => h1 S s F H e _ fun d v F1 H1 hd r1 g1 => ⟨a, by subst hd; exact r1.bl, by
  cases a with
  | true =>
    rw [if_pos rfl]
    exact h2 rfl S s F1 H1 (e.gr g1) Q fun d2 v2 F2 H2 hd2 r2 g2 => q d2 v2 F2 H2 hd2 r2 (g1.trans g2)
  | false =>
    rw [if_neg Bool.false_ne_true]
    exact q _ _ F1 H1 rfl Rep.mk_bl g1⟩
theorem rv_notV (h1 : RunV K ta r (.bl a)) : RunV K (tNotV ta) r (.bl (!a)) := fun S s F H e Q q => h1 S s F H e _ fun d v F1 H1 hd r1 g1 => ⟨a, by subst hd; exact r1.bl, q _ _ F1 H1 rfl Rep.mk_bl g1⟩
/-- a <= b < c over ints -/
theorem rv_chain {l : Int} (wa : RunV K ta r (.int l)) (wb : RunV K tb r (.int m)) (wc : RunV K tc r (.int n)) : RunV K (tChain rLeI rLtI ta tb tc) r (.bl (decide (l ≤ m) && decide (m < n))) := fun S s F H e Q q =>
  wa S s F H e _ fun d1 v1 F1 H1 hd1 r1 g1 => wb S s F1 H1 (e.gr g1) _ fun d2 v2 F2 H2 hd2 r2 g2 => by
    subst hd1 hd2
    refine ⟨l, m, r1.int, r2.int, decide (l ≤ m), rfl, ?_⟩
    cases c : decide (l ≤ m) with
    | true =>
      rw [if_pos rfl]
      refine wc S s F2 H2 (e.gr (g1.trans g2)) _ fun d3 v3 F3 H3 hd3 r3 g3 => ?_
      subst hd3
      exact ⟨m, n, r2.int, r3.int, q _ _ F3 H3 (by rw [c]; rfl) Rep.mk_bl ((g1.trans g2).trans g3)⟩
    | false =>
      rw [if_neg Bool.false_ne_true]
      exact q _ _ F2 H2 (by rw [c]; rfl) Rep.mk_bl (g1.trans g2)

/-! ### items -/
theorem rv_ixT {k : Nat} {z : Int} (wa : RunV K ta r (.tup ds)) (wb : RunV K tb r (.int z)) (hz : z = (k : Int)) (hd : ds[k]? = some d) : RunV K (tOp (rIxT K) ta tb) r d := fun S s F H e Q q =>
  wa S s F H e _ fun d1 v1 F1 H1 hd1 r1 g1 => wb S s F1 H1 (e.gr g1) _ fun d2 v2 F2 H2 hd2 r2 g2 => by
    subst hd1 hd2 hz
    obtain ⟨a, vs, h1, h2, h3⟩ := (r1.mono g2.ex).tup
    obtain ⟨v, hv, rd⟩ := h3.get hd
    exact ⟨a, vs, k, v, h1, r2.int, g2.sub.seqT h2, atI_nat hv, q _ _ F2 H2 rfl rd (g1.trans g2)⟩
/-- a known list at an unknown place -/
theorem re_ixL {Z : Int → Prop} (wa : RunL K ta r ds) (wb : RunE K tb r fun x => ∃ z, Z z ∧ x = .int z) (hd : ∀ z, Z z → ∃ (k : Nat) (d : D), z = (k : Int) ∧ ds[k]? = some d ∧ f d) : RunE K (tOp (rIxL K) ta tb) r f := fun S s F H e Q q =>
  wa S s F H e _ fun a vs F1 H1 g1 h2 r1 => wb S s F1 H1 (e.gr g1) _ fun d2 v2 F2 H2 ⟨z, hz, hd2⟩ r2 g2 => by
    subst hd2
    obtain ⟨k, d, rfl, h4, h5⟩ := hd z hz
    obtain ⟨v, hv, rd⟩ := (r1.mono g2.ex).get h4
    exact ⟨a, vs, k, v, rfl, r2.int, h2 F2 H2 g2, atI_nat hv, q _ _ F2 H2 h5 rd (g1.trans g2)⟩
theorem rv_ixL {k : Nat} {z : Int} (wa : RunL K ta r ds) (wb : RunV K tb r (.int z)) (hz : z = (k : Int)) (hd : ds[k]? = some d) : RunV K (tOp (rIxL K) ta tb) r d :=
  re_ixL (Z := fun y => y = z) wa (wb.imp fun x hx => ⟨z, rfl, hx⟩) fun y hy => ⟨k, d, hy.trans hz, hd, rfl⟩
end
end Wk
/-! # WkRv -/
set_option Elab.async false
set_option linter.all false
set_option maxRecDepth 100000
set_option maxHeartbeats 2000000
/-! Evaluation over data, further: deep equality, membership, list and tuple operators, slices, built-ins called. -/
namespace Wk
open PySem PySem.Spec PyProof.Rows L2

/-! ### rows and tables of ints; equality -/
abbrev irow (xs : List Int) : D := .tup (xs.map D.int)
abbrev itab (xss : List (List Int)) : D := .tup (xss.map fun xs => irow xs)
abbrev ilst (xss : List (List Int)) : D := .lst (xss.map fun xs => irow xs)
def pyRow (xs : List Int) : PyData := .tuple (xs.map PyData.int)
def pyRows (xss : List (List Int)) : List PyData := xss.map pyRow
section
variable {K : PySem.W.Frag} {F H : Hp}
theorem dp_ints : ∀ {xs : List Int} {vs : List V}, RepL K F (xs.map D.int) vs → DpAll K H vs (xs.map PyData.int)
  | [], _, h => by rw [h.of_nil]; exact .nil
  | x :: xs, _, h => by
    obtain ⟨v, r, rfl, q, t⟩ := h.of_cons
    rw [q.int]
    exact .cons (.int x) (dp_ints t)
theorem dp_row (e : Ext F H) {xs : List Int} {v : V} (h : Rep K F (irow xs) v) : Dp K H v (pyRow xs) := by
  obtain ⟨a, vs, rfl, h1, h2⟩ := h.tup
  exact .tup (e.seqT h1) (dp_ints h2)
theorem dp_rows (e : Ext F H) : ∀ {xss : List (List Int)} {vs : List V}, RepL K F (xss.map fun xs => irow xs) vs → DpAll K H vs (pyRows xss)
  | [], _, h => by rw [h.of_nil]; exact .nil
  | x :: xs, _, h => by
    obtain ⟨v, r, rfl, q, t⟩ := h.of_cons
    exact .cons (dp_row e q) (dp_rows e t)
theorem py_lay : ∀ xs : List Int, PyData.canLayAll0 (xs.map PyData.int) = true
  | [] => rfl
  | x :: xs => by
    rw [List.map_cons, PyData.canLayAll0, py_lay xs]
    rfl
theorem py_lays : ∀ xss : List (List Int), PyData.canLayAll0 (pyRows xss) = true
  | [] => rfl
  | x :: xs => by
    show PyData.canLayAll0 (pyRow x :: pyRows xs) = true
    rw [PyData.canLayAll0, py_lays xs]
    show (PyData.canLayAll0 (x.map PyData.int) && true) = true
    rw [py_lay]
    rfl
theorem py_dep : ∀ xs : List Int, PyData.depthAll (xs.map PyData.int) = 0
  | [] => by simp [PyData.depthAll]
  | x :: xs => by
    rw [List.map_cons, PyData.depthAll, py_dep xs, PyData.depth]
    rfl
theorem py_deps : ∀ xss : List (List Int), PyData.depthAll (pyRows xss) ≤ 1
  | [] => by simp [PyData.depthAll, pyRows]
  | x :: xs => by
    show PyData.depthAll (pyRow x :: pyRows xs) ≤ 1
    have h := py_deps xs
    rw [PyData.depthAll]
    show max (PyData.depth (.tuple (x.map PyData.int))) _ ≤ 1
    rw [PyData.depth, py_dep]
    omega
theorem sh_row (xs : List Int) : SeqAt.shaped (pyRow xs) = true := by
  unfold SeqAt.shaped pyRow
  rw [PyData.depth, py_dep]
  show (PyData.canLayAll0 (xs.map PyData.int) && _) = true
  rw [py_lay]
  rfl
theorem sh_tab (xss : List (List Int)) : SeqAt.shaped (.tuple (pyRows xss)) = true := by
  unfold SeqAt.shaped
  have h := py_deps xss
  rw [PyData.depth]
  show (PyData.canLayAll0 (pyRows xss) && _) = true
  rw [py_lays]
  simp
  omega
theorem sh_lst (xss : List (List Int)) : SeqAt.shaped (.list (pyRows xss)) = true := by
  unfold SeqAt.shaped
  have h := py_deps xss
  rw [PyData.depth]
  show (PyData.canLayAll0 (pyRows xss) && _) = true
  rw [py_lays]
  simp
  omega
theorem eqv_ints : ∀ xs ys : List Int, PyData.eqvAll (xs.map PyData.int) (ys.map PyData.int) = decide (xs = ys)
  | [], [] => by simp [PyData.eqvAll]
  | [], _ :: _ => by simp [PyData.eqvAll]
  | _ :: _, [] => by simp [PyData.eqvAll]
  | x :: xs, y :: ys => by
    rw [List.map_cons, List.map_cons, PyData.eqvAll, eqv_ints xs ys, PyData.eqv, Bool.beq_eq_decide_eq, Bool.eq_iff_iff]
    simp
theorem eqv_row (xs ys : List Int) : PyData.eqv (pyRow xs) (pyRow ys) = decide (xs = ys) := by
  unfold pyRow
  rw [PyData.eqv, eqv_ints]
theorem eqv_rows : ∀ xs ys : List (List Int), PyData.eqvAll (pyRows xs) (pyRows ys) = decide (xs = ys)
  | [], [] => by simp [PyData.eqvAll, pyRows]
  | [], _ :: _ => by simp [PyData.eqvAll, pyRows]
  | _ :: _, [] => by simp [PyData.eqvAll, pyRows]
  | x :: xs, y :: ys => by
    show PyData.eqvAll (pyRow x :: pyRows xs) (pyRow y :: pyRows ys) = _
    rw [PyData.eqvAll, eqv_rows xs ys, eqv_row, Bool.eq_iff_iff]
    simp
theorem any_rows (x : List Int) : ∀ xss : List (List Int), ((pyRows xss).any fun z => PyData.eqv z (pyRow x)) = decide (x ∈ xss)
  | [] => by simp [pyRows]
  | y :: ys => by
    show ((pyRow y :: pyRows ys).any fun z => PyData.eqv z (pyRow x)) = _
    rw [List.any_cons, any_rows x ys, eqv_row, Bool.eq_iff_iff]
    simp only [List.mem_cons, Bool.or_eq_true, decide_eq_true_eq]
    exact or_congr_left ⟨Eq.symm, Eq.symm⟩
end

section
variable {K : PySem.W.Frag} {r : En} {ta tb tc te : TE} {f g h : D → Prop} {d x y : D} {ds es : List D} {i : Nat} {a b : Bool} {tr : TA} {m n : Int} {xs ys : List Int} {xss yss : List (List Int)}
theorem rv_eqRow (wa : RunV K ta r (irow xs)) (wb : RunV K tb r (irow ys)) : RunV K (tOp (rEqD K) ta tb) r (.bl (decide (xs = ys))) := rv_op wa wb fun S F H vx vy e so rx ry Q q =>
  ⟨_, _, dp_row e rx, dp_row e ry, sh_row _, sh_row _, by rw [eqv_row]; exact q _ _ F H rfl Rep.mk_bl (Gr.refl e so)⟩
theorem rv_neRow (wa : RunV K ta r (irow xs)) (wb : RunV K tb r (irow ys)) : RunV K (tOp (rNeD K) ta tb) r (.bl (!decide (xs = ys))) := rv_op wa wb fun S F H vx vy e so rx ry Q q =>
  ⟨_, _, dp_row e rx, dp_row e ry, sh_row _, sh_row _, by rw [eqv_row]; exact q _ _ F H rfl Rep.mk_bl (Gr.refl e so)⟩
theorem rv_eqTab (wa : RunV K ta r (itab xss)) (wb : RunV K tb r (itab yss)) : RunV K (tOp (rEqD K) ta tb) r (.bl (decide (xss = yss))) := rv_op wa wb fun S F H vx vy e so rx ry Q q => by
  obtain ⟨a1, v1, rfl, h1, h2⟩ := rx.tup
  obtain ⟨a2, v2, rfl, h3, h4⟩ := ry.tup
  refine ⟨_, _, .tup (e.seqT h1) (dp_rows e h2), .tup (e.seqT h3) (dp_rows e h4), sh_tab _, sh_tab _, ?_⟩
  rw [PyData.eqv, eqv_rows]
  exact q _ _ F H rfl Rep.mk_bl (Gr.refl e so)
theorem rv_inRows (wa : RunV K ta r (irow xs)) (wb : RunV K tb r (ilst xss)) : RunV K (tOp (rInD K) ta tb) r (.bl (decide (xs ∈ xss))) := rv_op wa wb fun S F H vx vy e so rx ry Q q => by
  obtain ⟨a2, v2, rfl, h3, h4⟩ := ry.lst
  refine ⟨_, _, dp_row e rx, .lst (e.seqL h3) (dp_rows e h4), sh_row _, sh_lst _, ?_⟩
  rw [any_rows]
  exact q _ _ F H rfl Rep.mk_bl (Gr.refl e so)
theorem rv_niRows (wa : RunV K ta r (irow xs)) (wb : RunV K tb r (ilst xss)) : RunV K (tOp (rNotInD K) ta tb) r (.bl (!decide (xs ∈ xss))) := rv_op wa wb fun S F H vx vy e so rx ry Q q => by
  obtain ⟨a2, v2, rfl, h3, h4⟩ := ry.lst
  refine ⟨_, _, dp_row e rx, .lst (e.seqL h3) (dp_rows e h4), sh_row _, sh_lst _, ?_⟩
  rw [any_rows]
  exact q _ _ F H rfl Rep.mk_bl (Gr.refl e so)
theorem flat_ints : ∀ xs : List Int, (xs.map V.int).all flatV = true
  | [] => rfl
  | x :: xs => by
    rw [List.map_cons, List.all_cons, flat_ints xs]
    rfl
theorem inV_ints (x : Int) : ∀ xs : List Int, inV (.int x) (xs.map V.int) = decide (x ∈ xs)
  | [] => rfl
  | y :: ys => by
    show (eqV (.int y) (.int x) || inV (.int x) (ys.map V.int)) = _
    rw [inV_ints x ys, Bool.eq_iff_iff]
    show ((y == x || decide (x ∈ ys)) = true) ↔ _
    simp only [List.mem_cons, Bool.or_eq_true, decide_eq_true_eq, beq_iff_eq]
    exact or_congr_left ⟨Eq.symm, Eq.symm⟩
theorem rv_inT (wa : RunV K ta r (.int m)) (wb : RunV K tb r (irow xs)) : RunV K (tOp (rIn K false) ta tb) r (.bl (decide (m ∈ xs))) := rv_op wa wb fun S F H vx vy e so rx ry Q q => by
  obtain ⟨a2, v2, rfl, h3, h4⟩ := ry.tup
  have z1 := rx.int
  have z2 := h4.ints
  subst z1 z2
  refine ⟨a2, _, rfl, Or.inr (e.seqT h3), rfl, flat_ints _, ?_⟩
  show Q (.bl (inV (.int m) (xs.map V.int))) H
  rw [inV_ints]
  exact q _ _ F H rfl Rep.mk_bl (Gr.refl e so)
theorem rv_niT (wa : RunV K ta r (.int m)) (wb : RunV K tb r (irow xs)) : RunV K (tOp (rIn K true) ta tb) r (.bl (!decide (m ∈ xs))) := rv_op wa wb fun S F H vx vy e so rx ry Q q => by
  obtain ⟨a2, v2, rfl, h3, h4⟩ := ry.tup
  have z1 := rx.int
  have z2 := h4.ints
  subst z1 z2
  refine ⟨a2, _, rfl, Or.inr (e.seqT h3), rfl, flat_ints _, ?_⟩
  show Q (.bl (!inV (.int m) (xs.map V.int))) H
  rw [inV_ints]
  exact q _ _ F H rfl Rep.mk_bl (Gr.refl e so)
/-- a flat item in, not in a list of ints -/
theorem rv_niL (wa : RunV K ta r (.int m)) (wb : RunL K tb r (xs.map D.int)) : RunV K (tOp (rIn K true) ta tb) r (.bl (!decide (m ∈ xs))) := fun S s F H e Q q =>
  wa S s F H e _ fun d1 v1 F1 H1 hd1 r1 g1 => wb S s F1 H1 (e.gr g1) _ fun a vs F2 H2 g2 h2 r2 => by
    subst hd1
    have z1 := r1.int
    have z2 := r2.ints
    subst z1 z2
    refine ⟨a, _, rfl, Or.inl (h2 F2 H2 (Gr.refl g2.sub (g2.sok (g1.sok e.sok)))), rfl, flat_ints _, ?_⟩
    show Q (.bl (!inV (.int m) (xs.map V.int))) H2
    rw [inV_ints]
    exact q _ _ F2 H2 rfl Rep.mk_bl (g1.trans g2)
/-- texts in a tuple of texts -/
theorem RepL.strs {F : Hp} : ∀ {ns : List Str} {vs : List V}, RepL K F (ns.map D.str) vs → vs = ns.map V.str
  | [], _, h => h.of_nil
  | _ :: _, _, h => by
    obtain ⟨w, r, rfl, p, t⟩ := h.of_cons
    rw [p.str, RepL.strs t]
    rfl
theorem flat_strs : ∀ xs : List Str, (xs.map V.str).all flatV = true
  | [] => rfl
  | x :: xs => by
    rw [List.map_cons, List.all_cons, flat_strs xs]
    rfl
theorem inV_strs (x : Str) : ∀ xs : List Str, inV (.str x) (xs.map V.str) = decide (x ∈ xs)
  | [] => rfl
  | y :: ys => by
    show (eqV (.str y) (.str x) || inV (.str x) (ys.map V.str)) = _
    rw [inV_strs x ys, Bool.eq_iff_iff]
    show ((y == x || decide (x ∈ ys)) = true) ↔ _
    simp only [List.mem_cons, Bool.or_eq_true, decide_eq_true_eq, beq_iff_eq]
    exact or_congr_left ⟨Eq.symm, Eq.symm⟩
theorem rv_niS {m : Str} {xs : List Str} (wa : RunV K ta r (.str m)) (wb : RunV K tb r (.tup (xs.map D.str))) : RunV K (tOp (rIn K true) ta tb) r (.bl (!decide (m ∈ xs))) := rv_op wa wb fun S F H vx vy e so rx ry Q q => by
  obtain ⟨a2, v2, rfl, h3, h4⟩ := ry.tup
  have z1 := rx.str
  have z2 := h4.strs
  subst z1 z2
  refine ⟨a2, _, rfl, Or.inr (e.seqT h3), rfl, flat_strs _, ?_⟩
  show Q (.bl (!inV (.str m) (xs.map V.str))) H
  rw [inV_strs]
  exact q _ _ F H rfl Rep.mk_bl (Gr.refl e so)

/-! ### +, *, slices -/
theorem rv_catT (wa : RunV K ta r (.tup ds)) (wb : RunV K tb r (.tup es)) (hl : ds.length + es.length ≤ 10000) : RunV K (tOp (rCatA K) ta tb) r (.tup (ds ++ es)) := rv_op wa wb fun S F H vx vy e so rx ry Q q => by
  obtain ⟨a1, v1, rfl, h1, h2⟩ := rx.tup
  obtain ⟨a2, v2, rfl, h3, h4⟩ := ry.tup
  have l1 := h2.length
  have l2 := h4.length
  have hs : sizeLine = 16777216 := sizeLine_eq
  refine ⟨a1, a2, v1, v2, rfl, rfl, e.seqT h1, e.seqT h3, by omega, fun z => ?_, fun _ z => ?_, fun _ _ p hp => ?_⟩
  · subst z
    have : ds = [] := List.length_eq_zero_iff.mp l1.symm
    subst this
    exact q _ _ F H rfl (Rep.mk_tup h3 h4) (Gr.refl e so)
  · subst z
    have : es = [] := List.length_eq_zero_iff.mp l2.symm
    subst this
    exact q _ _ F H rfl (by rw [List.append_nil]; exact Rep.mk_tup h1 h2) (Gr.refl e so)
  · exact q _ _ _ _ rfl (Rep.mk_tup (SqT.of upd_same) ((h2.append h4).mono (Ext.new (e.back hp)))) (Gr.new e so hp)
/-- a list that stands by itself -/
def RunM (K : PySem.W.Frag) (t : TE) (r : En) (ds : List D) : Prop := ∀ S s F H, EnOk K S r s F H → ∀ Q : VK, (∀ a vs F' H', Gr S F H F' H' → H' a = some (.lst vs) → S ≠ some a → RepL K F' ds vs → Q (.ref a) H') → t s H Q
theorem ro_m (w : RunOV K te r ds) : RunM K te r ds := fun S s F H e Q q =>
  w S s F H e Q fun ds' p vs F' H' hf gr hn hp hh rp => by
    subst hf
    exact q p vs F' H' gr hh (e.ne_new hp) rp
theorem rm_own {p : Addr} (h : r[i]? = some (.ow p ds)) : RunM K (tVar i) r ds := fun S s F H e Q q => by
  obtain ⟨v, hv, h1, h2, vs, h3, h4⟩ := e.sl i _ h
  subst h1
  exact ⟨_, hv, q p vs F H e.grr h3 (fun z => (e.st p z).2.1 (mem_owns h (by simp [own1]))) h4⟩
theorem rm_lst (w : RunV K te r (.lst ds)) : RunM K te r ds := fun S s F H e Q q =>
  w S s F H e Q fun d v F' H' hd rp gr => by
    subst hd
    obtain ⟨a, vs, rfl, h1, h2⟩ := rp.lst'
    refine q a vs F' H' gr (gr.sub _ _ h1) (fun z => ?_) h2
    have := (gr.sok e.sok a z).1
    rw [h1] at this
    cases this
theorem RunM.l (w : RunM K te r ds) : RunL K te r ds := fun S s F H e Q q => w S s F H e Q fun a vs F' H' g h n rp => q a vs F' H' g (seqL_keep (SqL.of h) n) rp
theorem ro_cat (wa : RunM K ta r ds) (wb : RunM K tb r es) (hl : ds.length + es.length ≤ 100000) : RunOV K (tOp rCat ta tb) r (ds ++ es) := fun S s F H e Q q =>
  wa S s F H e _ fun a v1 F1 H1 g1 h1 n1 r1 => wb S s F1 H1 (e.gr g1) _ fun b v2 F2 H2 g2 h2 n2 r2 => by
    have l1 := r1.length
    have l2 := r2.length
    have hs : sizeLine = 16777216 := sizeLine_eq
    refine ⟨a, b, v1, v2, rfl, rfl, g2.keep _ _ n1 h1, h2, by omega, fun p hp => ?_⟩
    have g := g1.trans g2
    exact q _ p _ F2 _ rfl (g.trans (Gr.track g2.sub (g.sok e.sok) hp)) (g2.sub.back hp) (gr_free g hp) upd_same ((r1.mono g2.ex).append r2)
theorem ro_rep {k : Nat} {d : D} (wa : RunM K ta r [d]) (wb : RunV K tb r (.int k)) (hl : k ≤ 100000) : RunOV K (tOp rRep ta tb) r (List.replicate k d) := fun S s F H e Q q =>
  wa S s F H e _ fun a v1 F1 H1 g1 h1 n1 r1 => wb S s F1 H1 (e.gr g1) _ fun d2 v2 F2 H2 hd2 r2 g2 => by
    subst hd2
    obtain ⟨v, rr, rfl, p1, p2⟩ := r1.of_cons
    obtain rfl := p2.of_nil
    have hs : sizeLine = 16777216 := sizeLine_eq
    refine ⟨a, k, [v], rfl, r2.int, g2.keep _ _ n1 h1, by omega, by omega, ?_, fun p hp => ?_⟩
    · rw [List.length_singleton, Int.toNat_natCast]
      omega
    · have g := g1.trans g2
      rw [Int.toNat_natCast]
      refine q _ p _ F2 _ rfl (g.trans (Gr.track g2.sub (g.sok e.sok) hp)) (g2.sub.back hp) (gr_free g hp) upd_same ?_
      have pm := p1.mono g2.ex
      clear q hp hl wb e r2
      induction k with
      | zero => exact RepL.nil
      | succ k ih =>
        rw [List.replicate_succ, List.replicate_succ, List.flatten_cons]
        exact RepL.cons pm ih
theorem RunO.imp2 (w : RunOV K te r ds) (k : ds = es) : RunOV K te r es := by subst k; exact w
/-- row[n:] of a tuple -/
theorem rv_sliceFrom {k : Nat} {to : TO} (wa : RunV K ta r (.tup ds)) (wb : RunV K tb r (.int k)) (hk : k ≤ ds.length) : RunV K (tSl (rSlA K) ta (tPart tb) tNoPart) r (.tup (ds.drop k)) := fun S s F H e Q q =>
  wa S s F H e _ fun d1 v1 F1 H1 hd1 r1 g1 => wb S s F1 H1 (e.gr g1) _ fun d2 v2 F2 H2 hd2 r2 g2 => by
    subst hd1 hd2
    obtain ⟨a1, vs, rfl, h1, h2⟩ := (r1.mono g2.ex).tup
    have l1 := h2.length
    refine ⟨k, r2.int, ?_⟩
    have s1 : HT.sIx vs.length 0 (some (k : Int)) = k := by rw [HT.sIx_nat]; omega
    have s2 : HT.sIx vs.length vs.length none = vs.length := HT.sIx_none _ _
    have g := g1.trans g2
    refine ⟨a1, vs, rfl, g2.sub.seqT h1, fun z => ?_, fun _ p hp => ?_⟩
    · have z1 := z.1
      rw [s1] at z1
      subst z1
      exact q _ _ F2 H2 rfl (Rep.mk_tup h1 h2) g
    · have ec : cutV vs (some (k : Int)) none = vs.drop k := by
        unfold cutV
        rw [s1, s2]
        exact List.take_of_length_le (by rw [List.length_drop]; exact Nat.le_refl _)
      rw [ec]
      exact q _ _ _ _ rfl (Rep.mk_tup (SqT.of upd_same) ((h2.drop k).mono (Ext.new (g2.sub.back hp)))) (g.trans (Gr.new g2.sub (g.sok e.sok) hp))
/-- images[:at] of a list -/
theorem ro_sliceTo {k : Nat} (wa : RunL K ta r ds) (wb : RunV K tb r (.int k)) (hk : k ≤ ds.length) : RunOV K (tSl (rSlL K) ta tNoPart (tPart tb)) r (ds.take k) := fun S s F H e Q q =>
  wa S s F H e _ fun a vs F1 H1 g1 h1 r1 => wb S s F1 H1 (e.gr g1) _ fun d2 v2 F2 H2 hd2 r2 g2 => by
    subst hd2
    have l1 := r1.length
    have s2 : HT.sIx vs.length vs.length (some (k : Int)) = k := by rw [HT.sIx_nat]; omega
    have s1 : HT.sIx vs.length 0 none = 0 := HT.sIx_none _ _
    have g := g1.trans g2
    refine ⟨k, r2.int, a, vs, rfl, h1 F2 H2 g2, fun p hp => ?_⟩
    have ec : cutV vs none (some (k : Int)) = vs.take k := by
      unfold cutV
      rw [s1, s2]
      rfl
    rw [ec]
    exact q _ p _ F2 _ rfl (g.trans (Gr.track g2.sub (g.sok e.sok) hp)) (g2.sub.back hp) (gr_free g hp) upd_same ((r1.mono g2.ex).take k)

/-! ### built-ins -/
abbrev rLenS (K : PySem.W.Frag) : List V → Hp → VK → Prop := fun xs H Q => ∃ p ys, xs = [.ref p] ∧ (SqL K H p ys ∨ SqT K H p ys) ∧ Q (.int ys.length) H
abbrev rTupS (K : PySem.W.Frag) : List V → Hp → VK → Prop := fun xs H Q => ∃ p ys, xs = [.ref p] ∧ ((SqL K H p ys ∧ ∀ l, H l = none → Q (.ref l) (upd H l (.tup ys))) ∨ (SqT K H p ys ∧ Q (.ref p) H))
abbrev rLstS (K : PySem.W.Frag) : List V → Hp → VK → Prop := fun xs H Q => ∃ p ys, xs = [.ref p] ∧ (SqL K H p ys ∨ SqT K H p ys) ∧ ∀ l, H l = none → Q (.ref l) (upd H l (.lst ys))
abbrev rInt1 : List V → Hp → VK → Prop := fun xs H Q => (∃ i, xs = [.int i] ∧ Q (.int i) H) ∨ ∃ k, xs = [.bl k] ∧ Q (.int (if k then 1 else 0)) H
abbrev rAbs1 : List V → Hp → VK → Prop := fun xs H Q => ∃ i, xs = [.int i] ∧ Q (.int (if i < 0 then -i else i)) H
theorem rv_lenL {k : Int} (wa : RunL K ta r ds) (hk : (ds.length : Int) = k) : RunV K (tCB (rLenS K) (tCons ta tNil)) r (.int k) := fun S s F H e Q q =>
  wa S s F H e _ fun a vs F1 H1 g1 h1 r1 => ⟨a, vs, rfl, .inl (h1 F1 H1 (Gr.refl g1.sub (g1.sok e.sok))), by
    rw [r1.length, hk]
    exact q _ _ F1 H1 rfl Rep.mk_int g1⟩
theorem rv_lenT {k : Int} (wa : RunV K ta r (.tup ds)) (hk : (ds.length : Int) = k) : RunV K (tCB (rLenS K) (tCons ta tNil)) r (.int k) := fun S s F H e Q q =>
  wa S s F H e _ fun d v F1 H1 hd r1 g1 => by
    subst hd
    obtain ⟨a, vs, rfl, h1, h2⟩ := r1.tup
    refine ⟨a, vs, rfl, .inr (g1.sub.seqT h1), ?_⟩
    rw [h2.length, hk]
    exact q _ _ F1 H1 rfl Rep.mk_int g1
theorem rv_tupL (wa : RunL K ta r ds) : RunV K (tCB (rTupS K) (tCons ta tNil)) r (.tup ds) := fun S s F H e Q q =>
  wa S s F H e _ fun a vs F1 H1 g1 h1 r1 => ⟨a, vs, rfl, .inl ⟨h1 F1 H1 (Gr.refl g1.sub (g1.sok e.sok)), fun p hp =>
    q _ _ _ _ rfl (Rep.mk_tup (SqT.of upd_same) (r1.mono (Ext.new (g1.sub.back hp)))) (g1.trans (Gr.new g1.sub (g1.sok e.sok) hp))⟩⟩
theorem rv_tupT (wa : RunV K ta r (.tup ds)) : RunV K (tCB (rTupS K) (tCons ta tNil)) r (.tup ds) := fun S s F H e Q q =>
  wa S s F H e _ fun d v F1 H1 hd r1 g1 => by
    subst hd
    obtain ⟨a, vs, rfl, h1, h2⟩ := r1.tup
    exact ⟨a, vs, rfl, .inr ⟨g1.sub.seqT h1, q _ _ F1 H1 rfl (Rep.mk_tup h1 h2) g1⟩⟩
theorem ro_lstL (wa : RunL K ta r ds) : RunOV K (tCB (rLstS K) (tCons ta tNil)) r ds := fun S s F H e Q q =>
  wa S s F H e _ fun a vs F1 H1 g1 h1 r1 => ⟨a, vs, rfl, .inl (h1 F1 H1 (Gr.refl g1.sub (g1.sok e.sok))), fun p hp =>
    q _ p _ F1 _ rfl (g1.trans (Gr.track g1.sub (g1.sok e.sok) hp)) (g1.sub.back hp) (gr_free g1 hp) upd_same r1⟩
theorem ro_lstT (wa : RunV K ta r (.tup ds)) : RunOV K (tCB (rLstS K) (tCons ta tNil)) r ds := fun S s F H e Q q =>
  wa S s F H e _ fun d v F1 H1 hd r1 g1 => by
    subst hd
    obtain ⟨a, vs, rfl, h1, h2⟩ := r1.tup
    exact ⟨a, vs, rfl, .inr (g1.sub.seqT h1), fun p hp => q _ p _ F1 _ rfl (g1.trans (Gr.track g1.sub (g1.sok e.sok) hp)) (g1.sub.back hp) (gr_free g1 hp) upd_same h2⟩
theorem rv_intI (wa : RunV K ta r (.int m)) : RunV K (tCB rInt1 (tCons ta tNil)) r (.int m) := fun S s F H e Q q =>
  wa S s F H e _ fun d v F1 H1 hd r1 g1 => by
    subst hd
    exact .inl ⟨m, by rw [r1.int], q _ _ F1 H1 rfl Rep.mk_int g1⟩
theorem re_intI {Z : Int → Prop} (wa : RunE K ta r fun x => ∃ z, Z z ∧ x = .int z) : RunE K (tCB rInt1 (tCons ta tNil)) r fun x => ∃ z, Z z ∧ x = .int z := fun S s F H e Q q =>
  wa S s F H e _ fun d v F1 H1 ⟨z, hz, hd⟩ r1 g1 => by
    subst hd
    exact .inl ⟨z, by rw [r1.int], q _ _ F1 H1 ⟨z, hz, rfl⟩ Rep.mk_int g1⟩
theorem rv_intB (wa : RunV K ta r (.bl b)) : RunV K (tCB rInt1 (tCons ta tNil)) r (.int (if b then 1 else 0)) := fun S s F H e Q q =>
  wa S s F H e _ fun d v F1 H1 hd r1 g1 => by
    subst hd
    exact .inr ⟨b, by rw [r1.bl], q _ _ F1 H1 rfl Rep.mk_int g1⟩
theorem rv_abs (wa : RunV K ta r (.int m)) : RunV K (tCB rAbs1 (tCons ta tNil)) r (.int (if m < 0 then -m else m)) := fun S s F H e Q q =>
  wa S s F H e _ fun d v F1 H1 hd r1 g1 => by
    subst hd
    exact ⟨m, by rw [r1.int], q _ _ F1 H1 rfl Rep.mk_int g1⟩
/-- all, any of a list of truth values -/
theorem RepL.bls {F : Hp} : ∀ {ns : List Bool} {vs : List V}, RepL K F (ns.map D.bl) vs → vs = ns.map V.bl
  | [], _, h => h.of_nil
  | _ :: _, _, h => by
    obtain ⟨w, r, rfl, p, t⟩ := h.of_cons
    rw [p.bl, RepL.bls t]
    rfl
theorem rv_all {bs : List Bool} (wa : RunL K ta r (bs.map D.bl)) : RunV K (tCB (rAll K) (tCons ta tNil)) r (.bl (bs.all id)) := fun S s F H e Q q =>
  wa S s F H e _ fun a vs F1 H1 g1 h1 r1 => ⟨a, bs, rfl, by rw [← r1.bls]; exact h1 F1 H1 (Gr.refl g1.sub (g1.sok e.sok)), q _ _ F1 H1 rfl Rep.mk_bl g1⟩
end
end Wk
/-! # WkRs -/
set_option Elab.async false
set_option linter.all false
set_option maxRecDepth 100000
set_option maxHeartbeats 2000000
/-! Promises over data, calls, fields, instances; what is walked; comprehensions; statements. -/
namespace Wk
open PySem PySem.Spec PyProof.Rows L2

/-! ### promises -/
/-- a pure def: R tells, of the arguments, what holds of the answer -/
def psp (K : PySem.W.Frag) (R : List D → (D → Prop) → Prop) : Sp := fun vs H Q _ => ∃ F ds f, Ext F H ∧ RepL K F ds vs ∧ R ds f ∧ ∀ d v F' H', f d → Rep K F' d v → Gr none F H F' H' → Q v H'
/-- a pure def that hands back a new list -/
def fsp (K : PySem.W.Frag) (R : List D → (List D → Prop) → Prop) : Sp := fun vs H Q _ => ∃ F ds f, Ext F H ∧ RepL K F ds vs ∧ R ds f ∧ ∀ es p us F' H', f es → Gr none F H F' H' → F' p = none → H p = none → H' p = some (.lst us) → RepL K F' es us → Q (.ref p) H'
/-- a def that turns the state's list, its first argument -/
def ssp (K : PySem.W.Frag) (R : List D → (D → Prop) → Prop) : Sp := fun vs H Q _ => ∃ F a us ds f, vs = .ref a :: us ∧ Ext F H ∧ StOk (some a) F H ∧ RepL K F ds us ∧ R ds f ∧ ∀ d v F' H', f d → Rep K F' d v → Gr (some a) F H F' H' → Q v H'
/-- an __init__ of the class c: the attributes that it makes -/
def isp (K : PySem.W.Frag) (c : Str) (R : List D → (List (Str × D) → Prop) → Prop) : Sp := fun vs H Q _ => ∃ F a dx us ds f, vs = .ref a :: us ∧ Ext F H ∧ F a = none ∧ H a = some (.ins (He.ga K c) dx []) ∧ RepL K F ds us ∧ R ds f ∧
  ∀ fs ws F' H' dx', f fs → RepF K F' fs ws → Ext F F' → Ext F' H' → F' a = none → (∀ b o, b ≠ a → H b = some o → H' b = some o) → (∀ b o, F' b = some o → F b = none → H b = none) → H' a = some (.ins (He.ga K c) dx' ws) → Q .non H'
section
variable {K : PySem.W.Frag} {r : En} {ta tb tc te : TE} {f g : D → Prop} {d x y : D} {ds es : List D} {i : Nat} {a b : Bool} {tr : TA}
theorem re_callA {R : List D → (D → Prop) → Prop} {P : List D → Prop} (w : RunA K tr r P) (h : ∀ ds, P ds → R ds f) : RunE K (tCall (psp K R) [] E0 tr) r f := fun S s F H e Q q =>
  w S s F H e _ fun es vs F1 H1 hes r1 g1 => ⟨F1, es, f, g1.sub, by rw [List.append_nil]; exact r1, h es hes, fun d v F2 H2 hd rd g2 => q d v F2 H2 hd rd (g1.trans (g2.any (g1.sok e.sok)))⟩
theorem re_call {R : List D → (D → Prop) → Prop} (w : RunAV K tr r ds) (h : R ds f) : RunE K (tCall (psp K R) [] E0 tr) r f := re_callA w fun z hz => by subst hz; exact h
theorem ro_call {R : List D → (List D → Prop) → Prop} {f : List D → Prop} (w : RunAV K tr r ds) (h : R ds f) : RunO K (tCall (fsp K R) [] E0 tr) r f := fun S s F H e Q q =>
  w S s F H e _ fun es vs F1 H1 hes r1 g1 => by
    subst hes
    exact ⟨F1, es, f, g1.sub, by rw [List.append_nil]; exact r1, h, fun es p us F2 H2 hd g2 n1 n2 hp rd => q es p us F2 H2 hd (g1.trans (g2.any (g1.sok e.sok))) n1 (gr_free g1 n2) hp rd⟩
theorem re_scall {R : List D → (D → Prop) → Prop} (hi : r[i]? = some .st) (w : RunAV K tr r ds) (h : R ds f) : RunE K (tCall (ssp K R) [] E0 (tCons (tVar i) tr)) r f := fun S s F H e Q q => by
  obtain ⟨v, hv, p, rfl, h2⟩ := e.sl i _ hi
  subst h2
  refine ⟨_, hv, w _ s F H e _ fun es vs F1 H1 hes r1 g1 => ?_⟩
  subst hes
  exact ⟨F1, p, vs, es, f, by rw [List.append_nil], g1.sub, g1.sok e.sok, r1, h, fun d v F2 H2 hd rd g2 => q d v F2 H2 hd rd (g1.trans g2)⟩
/-- o.m(..) -/
theorem re_meth {R : List D → (D → Prop) → Prop} {c m : Str} {fs : List (Str × D)} (wa : RunV K ta r (.ins c fs)) (hm : fs.lookup m = none) (w : RunAV K tr r ds) (h : R (.ins c fs :: ds) f) : RunE K (tMeth (He.ga K c) m (psp K R) [] E0 ta tr) r f := fun S s F H e Q q =>
  wa S s F H e _ fun d v F1 H1 hd r1 g1 => by
    subst hd
    obtain ⟨p, dx, ws, rfl, h1, h2⟩ := r1.ins
    refine ⟨p, dx, ws, rfl, g1.sub _ _ h1, h2.lookup_none hm, ?_⟩
    refine w S s F1 H1 (e.gr g1) _ fun es vs F2 H2 hes r2 g2 => ?_
    subst hes
    have g := g1.trans g2
    exact ⟨F2, .ins c fs :: es, f, g2.sub, by rw [List.append_nil]; exact .cons (r1.mono g2.ex) r2, h, fun d v F3 H3 hd rd g3 => q d v F3 H3 hd rd (g.trans (g3.any (g.sok e.sok)))⟩
theorem ro_meth {R : List D → (List D → Prop) → Prop} {c m : Str} {fs : List (Str × D)} {f : List D → Prop} (wa : RunV K ta r (.ins c fs)) (hm : fs.lookup m = none) (w : RunAV K tr r ds) (h : R (.ins c fs :: ds) f) : RunO K (tMeth (He.ga K c) m (fsp K R) [] E0 ta tr) r f := fun S s F H e Q q =>
  wa S s F H e _ fun d v F1 H1 hd r1 g1 => by
    subst hd
    obtain ⟨p, dx, ws, rfl, h1, h2⟩ := r1.ins
    refine ⟨p, dx, ws, rfl, g1.sub _ _ h1, h2.lookup_none hm, ?_⟩
    refine w S s F1 H1 (e.gr g1) _ fun es vs F2 H2 hes r2 g2 => ?_
    subst hes
    have g := g1.trans g2
    exact ⟨F2, .ins c fs :: es, f, g2.sub, by rw [List.append_nil]; exact .cons (r1.mono g2.ex) r2, h, fun es p us F3 H3 hd g3 n1 n2 hp rd => q es p us F3 H3 hd (g.trans (g3.any (g.sok e.sok))) n1 (gr_free g n2) hp rd⟩
/-- o.f -/
theorem rv_fld {c x : Str} {fs : List (Str × D)} (wa : RunV K ta r (.ins c fs)) (hc : Cls K (He.ga K c)) (hn : NoAttr K (He.ga K c) x) (hl : fs.lookup x = some d) : RunV K (tFld K ta x) r d := fun S s F H e Q q =>
  wa S s F H e _ fun d1 v F1 H1 hd r1 g1 => by
    subst hd
    obtain ⟨p, dx, ws, rfl, h1, h2⟩ := r1.ins
    obtain ⟨w, h3, h4⟩ := h2.lookup hl
    exact ⟨p, _, dx, ws, w, rfl, g1.sub _ _ h1, hc, hn, h3, q _ _ F1 H1 rfl h4 g1⟩
/-- C(..) -/
theorem re_make {R : List D → (List (Str × D) → Prop) → Prop} {c : Str} {P : List (Str × D) → Prop} (w : RunAV K tr r ds) (h : R ds P) : RunE K (tMake (He.ga K c) (isp K c R) [] E0 tr) r (fun z => ∃ fs, P fs ∧ z = .ins c fs) := fun S s F H e Q q =>
  w S s F H e _ fun es vs F1 H1 hes r1 g1 => by
    subst hes
    intro p dx hp hdx hne
    have n1 : F1 p = none := g1.sub.back hp
    have n2 : F1 dx = none := g1.sub.back hdx
    refine ⟨F1, p, dx, vs, es, P, by rw [List.append_nil], fun b o hb => ?_, n1, upd_same, r1, h, fun fs ws F2 H2 dx' hfs rf e1 e2 nf keep fr hh => ⟨rfl, ?_⟩⟩
    · rw [upd_ne (ne_of_none hb n1), upd_ne (ne_of_none hb n2)]
      exact g1.sub b o hb
    · have keep2 : ∀ b o, H1 b = some o → H2 b = some o := fun b o hb => keep b o (ne_of_none hb hp) (by
        rw [upd_ne (ne_of_none hb hp), upd_ne (ne_of_none hb hdx)]
        exact hb)
      have so := g1.sok e.sok
      refine q (.ins c fs) (.ref p) (upd F2 p (.ins (He.ga K c) dx' ws)) H2 ⟨fs, hfs, rfl⟩ (Rep.mk_ins upd_same (rf.mono (Ext.new nf))) (g1.trans ?_)
      refine ⟨e1.trans (Ext.new nf), fun b o hb => ?_, fun b o _ hb => keep2 b o hb, fun b o hb n => ?_, fun a ha => ?_⟩
      · by_cases z : b = p
        · subst z; rw [upd_same] at hb; rw [hh]; exact hb
        · rw [upd_ne z] at hb; exact e2 b o hb
      · by_cases z : b = p
        · subst z; exact hp
        · rw [upd_ne z] at hb
          have q1 := fr b o hb n
          rw [upd_ne z] at q1
          by_cases z2 : b = dx
          · subst z2; exact hdx
          · rw [upd_ne z2] at q1; exact q1
      · obtain ⟨_, i, j, h3⟩ := so a ha
        exact ⟨i, j, keep2 a _ h3⟩

/-! ### what is walked -/
/-- it yields the data xs, one after another, over every heap that has grown from (F0, H0) -/
structure Yields (K : PySem.W.Frag) (S : Option Addr) (J : It) (F0 H0 : Hp) (xs : List D) : Prop where
  go : ∀ i F H, i < xs.length → Gr S F0 H0 F H → J.go i H
  stop : ∀ F H, Gr S F0 H0 F H → J.stop xs.length H
  yld : ∀ i d F H v H', xs[i]? = some d → Gr S F0 H0 F H → J.yld i H v H' → ∃ F', Gr S F H F' H' ∧ Rep K F' d v
def RunI (K : PySem.W.Frag) (wi : TI) (r : En) (xs : List D) : Prop := ∀ S s F H, EnOk K S r s F H → ∀ Q : It → Hp → Prop, (∀ J F' H', Gr S F H F' H' → Yields K S J F' H' xs → Q J H') → wi s H Q
/-- the same over everything in which what was represented still is -/
structure Yield2 (K : PySem.W.Frag) (S : Option Addr) (J : It) (F0 : Hp) (xs : List D) : Prop where
  go : ∀ i F H, i < xs.length → Ext F0 F → Ext F H → StOk S F H → J.go i H
  stop : ∀ F H, Ext F0 F → Ext F H → J.stop xs.length H
  yld : ∀ i d F H v H', xs[i]? = some d → Ext F0 F → Ext F H → StOk S F H → J.yld i H v H' → ∃ F', Gr S F H F' H' ∧ Rep K F' d v
def RunJ (K : PySem.W.Frag) (wi : TI) (r : En) (xs : List D) : Prop := ∀ S s F H, EnOk K S r s F H → ∀ Q : It → Hp → Prop, (∀ J F' H', Gr S F H F' H' → Yield2 K S J F' xs → Q J H') → wi s H Q
theorem rj_i {wi : TI} {xs : List D} (w : RunJ K wi r xs) : RunI K wi r xs := fun S s F H e Q q => w S s F H e Q fun J F' H' g Y => q J F' H' g
  ⟨fun i F2 H2 hi g2 => Y.go i F2 H2 hi g2.ex g2.sub (g2.sok (g.sok e.sok)), fun F2 H2 g2 => Y.stop F2 H2 g2.ex g2.sub, fun i d F2 H2 v H3 hd g2 hy => Y.yld i d F2 H2 v H3 hd g2.ex g2.sub (g2.sok (g.sok e.sok)) hy⟩
theorem ri_list (w : RunL K te r ds) : RunI K (iList K te) r ds := fun S s F H e Q q => w S s F H e _ fun a vs F1 H1 g1 h1 r1 => by
  have hl := r1.length
  have so := g1.sok e.sok
  refine ⟨a, rfl, ⟨vs, h1 F1 H1 (Gr.refl g1.sub so)⟩, q _ F1 H1 g1 ⟨fun i F2 H2 hi g2 => ?_, fun F2 H2 g2 => ⟨vs, h1 F2 H2 g2, by rw [hl]; exact Nat.le_refl _⟩, fun i d F2 H2 v H3 hd g2 hy => ?_⟩⟩
  · have hv : i < vs.length := by rw [hl]; exact hi
    exact ⟨vs, vs[i], h1 F2 H2 g2, by simp [hv]⟩
  · obtain ⟨rfl, hy⟩ := hy
    obtain ⟨v', hv', rd⟩ := (r1.mono g2.ex).get hd
    have := hy vs (h1 F2 H3 g2)
    rw [hv'] at this
    cases this
    exact ⟨F2, Gr.refl g2.sub (g2.sok so), rd⟩
theorem rj_list (w : RunV K te r (.lst ds)) : RunJ K (iList K te) r ds := fun S s F H e Q q => w S s F H e _ fun dd v F1 H1 hd r1 g1 => by
  subst hd
  obtain ⟨a, vs, rfl, h1, h2⟩ := r1.lst
  have hl := h2.length
  have so := g1.sok e.sok
  refine ⟨a, rfl, ⟨vs, g1.sub.seqL h1⟩, q _ F1 H1 g1 ⟨fun i F2 H2 hi x1 x2 _ => ?_, fun F2 H2 x1 x2 => ⟨vs, x2.seqL (x1.seqL h1), by rw [hl]; exact Nat.le_refl _⟩, fun i d F2 H2 v H3 hd x1 x2 so2 hy => ?_⟩⟩
  · have hv : i < vs.length := by rw [hl]; exact hi
    exact ⟨vs, vs[i], x2.seqL (x1.seqL h1), by simp [hv]⟩
  · obtain ⟨rfl, hy⟩ := hy
    obtain ⟨v', hv', rd⟩ := (h2.mono x1).get hd
    have := hy vs (x2.seqL (x1.seqL h1))
    rw [hv'] at this
    cases this
    exact ⟨F2, Gr.refl x2 so2, rd⟩
theorem rj_tup (w : RunV K te r (.tup ds)) : RunJ K (iTup K te) r ds := fun S s F H e Q q => w S s F H e _ fun dd v F1 H1 hd r1 g1 => by
  subst hd
  obtain ⟨a, vs, rfl, h1, h2⟩ := r1.tup
  have hl := h2.length
  refine ⟨a, rfl, ⟨vs, g1.sub.seqT h1⟩, q _ F1 H1 g1 ⟨fun i F2 H2 hi x1 x2 _ => ?_, fun F2 H2 x1 x2 => ⟨vs, x2.seqT (x1.seqT h1), by rw [hl]; exact Nat.le_refl _⟩, fun i d F2 H2 v H3 hd x1 x2 so2 hy => ?_⟩⟩
  · have hv : i < vs.length := by rw [hl]; exact hi
    exact ⟨vs, vs[i], x2.seqT (x1.seqT h1), by simp [hv]⟩
  · obtain ⟨rfl, hy⟩ := hy
    obtain ⟨v', hv', rd⟩ := (h2.mono x1).get hd
    have := hy vs (x2.seqT (x1.seqT h1))
    rw [hv'] at this
    cases this
    exact ⟨F2, Gr.refl x2 so2, rd⟩
/-- the ints lo, lo + 1, .. -/
def rng (lo : Int) (n : Nat) : List D := (List.range n).map fun (i : Nat) => .int (lo + (i : Int))
theorem yl_rng {S : Option Addr} {F : Hp} {lo : Int} {n : Nat} : Yield2 K S (Itr lo n) F (rng lo n) where
  go := fun i F2 H2 hi _ _ _ => by
    unfold rng at hi
    rw [List.length_map, List.length_range] at hi
    exact hi
  stop := fun F2 H2 _ _ => by
    show n ≤ (rng lo n).length
    unfold rng
    rw [List.length_map, List.length_range]
    exact Nat.le_refl _
  yld := fun i d F2 H2 v H3 hd x1 x2 so2 hy => by
    obtain ⟨rfl, rfl⟩ := hy
    unfold rng at hd
    rw [List.getElem?_map] at hd
    cases hq : (List.range n)[i]? with
    | none => rw [hq] at hd; cases hd
    | some k =>
      rw [hq] at hd
      have hk : k = i := by
        obtain ⟨h1, h2⟩ := List.getElem?_eq_some_iff.mp hq
        rw [List.getElem_range] at h2
        exact h2.symm
      subst hk
      cases hd
      exact ⟨F2, Gr.refl x2 so2, Rep.mk_int⟩
/-- a range whose end may be drawn -/
theorem rj_rng1E {Z : Nat → Prop} {xs : List D → Prop} (w : RunE K te r fun x => ∃ n, Z n ∧ x = .int (n : Nat)) (hn : ∀ n, Z n → n ≤ 1000000) : ∀ S s F H, EnOk K S r s F H → ∀ Q : It → Hp → Prop, (∀ n J F' H', Z n → Gr S F H F' H' → Yield2 K S J F' (rng 0 n) → Q J H') → iRng1 (tCons te tNil) s H Q := fun S s F H e Q q => w S s F H e _ fun dd v F1 H1 ⟨n, hz, hd⟩ r1 g1 => by
  subst hd
  have := hn n hz
  refine ⟨n, by rw [r1.int], by omega, by omega, ?_⟩
  rw [Int.toNat_natCast]
  exact q n _ F1 H1 hz g1 yl_rng
theorem rj_rng1 {n : Nat} {k : Int} (w : RunV K te r (.int k)) (hk : k = (n : Int)) (hn : n ≤ 1000000) : RunJ K (iRng1 (tCons te tNil)) r (rng 0 n) := fun S s F H e Q q => w S s F H e _ fun dd v F1 H1 hd r1 g1 => by
  subst hd hk
  refine ⟨n, by rw [r1.int], by omega, by omega, ?_⟩
  rw [Int.toNat_natCast]
  exact q _ F1 H1 g1 yl_rng
theorem rj_rng2 {m n : Nat} {i j : Int} (wa : RunV K ta r (.int i)) (wb : RunV K tb r (.int j)) (hi : i = (m : Int)) (hj : j = (n : Int)) (hm : m ≤ 1000000) (hn : n ≤ 1000000) : RunJ K (iRng2 (tCons ta (tCons tb tNil))) r (rng m (n - m)) := fun S s F H e Q q =>
  wa S s F H e _ fun d1 v1 F1 H1 hd1 r1 g1 => wb S s F1 H1 (e.gr g1) _ fun d2 v2 F2 H2 hd2 r2 g2 => by
    subst hd1 hd2 hi hj
    have g := g1.trans g2
    refine ⟨m, n, by rw [r1.int, r2.int], ⟨by omega, by omega, by omega, by omega⟩, ?_⟩
    have ek : ((n : Int) - (m : Int)).toNat = n - m := by omega
    rw [ek]
    exact q _ F2 H2 g yl_rng
/-- zip of two tuples -/
def zipD (xs ys : List D) : List D := (xs.zip ys).map fun p => .tup [p.1, p.2]
theorem zip_at {xs ys : List D} {i : Nat} {d : D} (h : (zipD xs ys)[i]? = some d) : ∃ x y, xs[i]? = some x ∧ ys[i]? = some y ∧ d = .tup [x, y] := by
  unfold zipD at h
  rw [List.getElem?_map] at h
  cases hq : (xs.zip ys)[i]? with
  | none => rw [hq] at h; cases h
  | some p =>
    rw [hq] at h
    cases h
    obtain ⟨h1, h2⟩ := List.getElem?_zip_eq_some.mp hq
    exact ⟨p.1, p.2, h1, h2, rfl⟩
theorem zip_len (xs ys : List D) : (zipD xs ys).length = min xs.length ys.length := by
  unfold zipD
  rw [List.length_map, List.length_zip]
theorem yl_pair {S : Option Addr} {F H : Hp} {T : Addr} {x y : D} {vx vy : V} (e : Ext F H) (so : StOk S F H) (hT : H T = none) (rx : Rep K F x vx) (ry : Rep K F y vy) : ∃ F', Gr S F H F' (upd H T (.tup [vx, vy])) ∧ Rep K F' (.tup [x, y]) (.ref T) :=
  ⟨upd F T (.tup [vx, vy]), Gr.new e so hT, Rep.mk_tup (SqT.of upd_same) (.cons (rx.mono (Ext.new (e.back hT))) (.cons (ry.mono (Ext.new (e.back hT))) .nil))⟩
theorem rj_zipT (wa : RunV K ta r (.tup ds)) (wb : RunV K tb r (.tup es)) : RunJ K (RZ.iZipA K (tCons ta (tCons tb tNil))) r (zipD ds es) := fun S s F H e Q q =>
  wa S s F H e _ fun d1 v1 F1 H1 hd1 r1 g1 => wb S s F1 H1 (e.gr g1) _ fun d2 v2 F2 H2 hd2 r2 g2 => by
    subst hd1 hd2
    have g := g1.trans g2
    have so := g.sok e.sok
    obtain ⟨a1, us, rfl, h1, h2⟩ := (r1.mono g2.ex).tup
    obtain ⟨a2, ws, rfl, h3, h4⟩ := r2.tup
    have l1 := h2.length
    have l2 := h4.length
    refine ⟨a1, a2, us, ws, rfl, .inr ⟨g.sub.seqT h1, g.sub.seqT h3, q _ F2 H2 g ⟨fun i F3 H3 hi x1 x2 _ => ?_, fun F3 H3 x1 x2 => ?_, fun i d F3 H3 v H4 hd x1 x2 so2 hy => ?_⟩⟩⟩
    · rw [zip_len] at hi
      have hx : i < us.length := by omega
      have hy : i < ws.length := by omega
      exact ⟨us, ws, us[i], ws[i], x2.seqT (x1.seqT h1), x2.seqT (x1.seqT h3), by simp [hx], by simp [hy]⟩
    · rw [zip_len]
      exact ⟨us, ws, x2.seqT (x1.seqT h1), x2.seqT (x1.seqT h3), by omega⟩
    · obtain ⟨T, x, y, rfl, hT, rfl, f1, f2⟩ := hy
      obtain ⟨dx, dy, q1, q2, rfl⟩ := zip_at hd
      obtain ⟨vx, p1, p2⟩ := (h2.mono x1).get q1
      obtain ⟨vy, p3, p4⟩ := (h4.mono x1).get q2
      have z1 := f1 us (x2.seqT (x1.seqT h1))
      have z2 := f2 ws (x2.seqT (x1.seqT h3))
      rw [p1] at z1; cases z1
      rw [p3] at z2; cases z2
      exact yl_pair x2 so2 hT p2 p4
theorem ri_zipL (wa : RunL K ta r ds) (wb : RunL K tb r es) : RunI K (RZ.iZipA K (tCons ta (tCons tb tNil))) r (zipD ds es) := fun S s F H e Q q =>
  wa S s F H e _ fun a1 us F1 H1 g1 h1 r1 => wb S s F1 H1 (e.gr g1) _ fun a2 ws F2 H2 g2 h3 r2 => by
    have g := g1.trans g2
    have so := g.sok e.sok
    have h2 := r1.mono g2.ex
    have l1 := r1.length
    have l2 := r2.length
    have k1 : ∀ F3 H3, Gr S F2 H2 F3 H3 → SqL K H3 a1 us := fun F3 H3 g3 => h1 F3 H3 (g2.trans g3)
    refine ⟨a1, a2, us, ws, rfl, .inl ⟨k1 F2 H2 (Gr.refl g.sub so), h3 F2 H2 (Gr.refl g.sub so), q _ F2 H2 g ⟨fun i F3 H3 hi g3 => ?_, fun F3 H3 g3 => ?_, fun i d F3 H3 v H4 hd g3 hy => ?_⟩⟩⟩
    · rw [zip_len] at hi
      have hx : i < us.length := by omega
      have hy : i < ws.length := by omega
      exact ⟨us, ws, us[i], ws[i], k1 F3 H3 g3, h3 F3 H3 g3, by simp [hx], by simp [hy]⟩
    · rw [zip_len]
      exact ⟨us, ws, k1 F3 H3 g3, h3 F3 H3 g3, by omega⟩
    · obtain ⟨T, x, y, rfl, hT, rfl, f1, f2⟩ := hy
      obtain ⟨dx, dy, q1, q2, rfl⟩ := zip_at hd
      obtain ⟨vx, p1, p2⟩ := (h2.mono g3.ex).get q1
      obtain ⟨vy, p3, p4⟩ := (r2.mono g3.ex).get q2
      have z1 := f1 us (k1 F3 H3 g3)
      have z2 := f2 ws (h3 F3 H3 g3)
      rw [p1] at z1; cases z1
      rw [p3] at z2; cases z2
      exact yl_pair g3.sub (g3.sok so) hT p2 p4

/-! ### targets -/
theorem wipe_get (s : L2.St) (i : Nat) : ∀ vs : List Nat, (wipe s vs)[i]? = if i ∈ vs then (s[i]?).map (fun _ => none) else s[i]?
  | [] => by rw [if_neg (by simp)]; rfl
  | v :: vs => by
    show ((wipe s vs).set v none)[i]? = _
    have ih := wipe_get s i vs
    by_cases h : v = i
    · subst h
      rw [if_pos (by simp)]
      by_cases hl : v < s.length
      · rw [List.getElem?_set_self (by rw [wipe_length]; exact hl), List.getElem?_eq_getElem hl]
        rfl
      · rw [List.getElem?_eq_none (by rw [List.length_set, wipe_length]; omega), List.getElem?_eq_none (by omega)]
        rfl
    · rw [List.getElem?_set_ne h, ih]
      by_cases hi : i ∈ vs
      · rw [if_pos hi, if_pos (by simp [hi])]
      · rw [if_neg hi, if_neg (by simp [hi, Ne.symm h])]
theorem wipe_set {s : L2.St} {j : Nat} {x : Option V} {vs : List Nat} (h : j ∈ vs) : wipe (s.set j x) vs = wipe s vs := by
  apply List.ext_getElem?
  intro i
  rw [wipe_get, wipe_get]
  by_cases hi : i ∈ vs
  · rw [if_pos hi, if_pos hi]
    by_cases hj : j = i
    · subst hj
      by_cases hl : j < s.length
      · rw [List.getElem?_set_self hl, List.getElem?_eq_getElem hl]
        rfl
      · rw [List.getElem?_eq_none (by rw [List.length_set]; omega), List.getElem?_eq_none (by omega)]
    · rw [List.getElem?_set_ne hj]
  · rw [if_neg hi, if_neg hi, List.getElem?_set_ne (fun (z : j = i) => hi (by rw [← z]; exact h))]
theorem wipe_wipe {s : L2.St} {vs : List Nat} : wipe (wipe s vs) vs = wipe s vs := by
  apply List.ext_getElem?
  intro i
  rw [wipe_get, wipe_get]
  by_cases hi : i ∈ vs
  · rw [if_pos hi, if_pos hi]
    cases s[i]? <;> rfl
  · rw [if_neg hi, if_neg hi]
/-- the datum d is stored in the slots js: r becomes r1 -/
def RunG (K : PySem.W.Frag) (gt : TG) (r : En) (d : D) (js : List Nat) (r1 : En) : Prop := ∀ S s F H v, EnOk K S r s F H → Rep K F d v → ∀ Q : L2.St → Hp → Prop, (∀ s1, EnOk K S r1 s1 F H → (∀ vs, (∀ j ∈ js, j ∈ vs) → wipe s1 vs = wipe s vs) → Q s1 H) → gt v s H Q
theorem owns_set {x : Sl} (hx : own1 x = []) : ∀ (r : En) (j : Nat), ∀ a, a ∈ owns (r.set j x) → a ∈ owns r
  | [], _, a, h => h
  | y :: r, 0, a, h => by
    unfold owns at h ⊢
    rw [List.set_cons_zero, List.flatMap_cons, hx, List.nil_append] at h
    rw [List.flatMap_cons]
    exact List.mem_append_right _ h
  | y :: r, j + 1, a, h => by
    unfold owns at h ⊢
    rw [List.set_cons_succ, List.flatMap_cons] at h
    rw [List.flatMap_cons]
    rcases List.mem_append.mp h with h | h
    · exact List.mem_append_left _ h
    · exact List.mem_append_right _ (owns_set hx r j a h)
theorem owns_set_nd {x : Sl} (hx : own1 x = []) : ∀ (r : En) (j : Nat), (owns r).Nodup → (owns (r.set j x)).Nodup
  | [], _, h => h
  | y :: r, 0, h => by
    unfold owns at h ⊢
    rw [List.set_cons_zero, List.flatMap_cons, hx, List.nil_append]
    rw [List.flatMap_cons] at h
    exact (List.nodup_append.mp h).2.1
  | y :: r, j + 1, h => by
    unfold owns at h ⊢
    rw [List.set_cons_succ, List.flatMap_cons]
    rw [List.flatMap_cons] at h
    obtain ⟨h1, h2, h3⟩ := List.nodup_append.mp h
    exact List.nodup_append.mpr ⟨h1, owns_set_nd hx r j h2, fun a ha b hb => h3 a ha b (owns_set hx r j b hb)⟩
theorem sl_im {S : Option Addr} {F H : Hp} {v : V} (h : Rep K F d v) : SlOk K S F H (.im d) (some v) := ⟨v, rfl, h⟩
/-- a slot gets what is owned by none -/
theorem EnOk.set {S : Option Addr} {s : L2.St} {F H : Hp} (e : EnOk K S r s F H) {x : Sl} {v : Option V} (hx : own1 x = []) (ok : SlOk K S F H x v) (j : Nat) : EnOk K S (r.set j x) (s.set j v) F H := by
  refine ⟨e.ext, by rw [List.length_set, List.length_set]; exact e.len, fun i y hi => ?_, owns_set_nd hx r j e.nd, fun a ha => ?_⟩
  · by_cases hj : j = i
    · subst hj
      have hl : j < r.length := by
        have := (List.getElem?_eq_some_iff.mp hi).1
        rwa [List.length_set] at this
      rw [List.getElem?_set_self hl] at hi
      cases hi
      exact ⟨v, List.getElem?_set_self (by rw [← e.len]; exact hl), ok⟩
    · rw [List.getElem?_set_ne hj] at hi ⊢
      exact e.sl i y hi
  · obtain ⟨h1, h2, h3⟩ := e.st a ha
    exact ⟨h1, fun z => h2 (owns_set hx r j a z), h3⟩
theorem rg_name {j : Nat} : RunG K (gName j) r d [j] (r.set j (.im d)) := fun S s F H v e rd Q q => q _ (e.set rfl (sl_im rd) j) fun vs h => wipe_set (h j (by simp))
theorem rg_tup2 {i j : Nat} : RunG K (gTup K 2 (gCons (gName i) (gCons (gName j) gNil))) r (.tup [x, y]) [i, j] ((r.set i (.im x)).set j (.im y)) := fun S s F H v e rd Q q => by
  obtain ⟨a, vs, rfl, h1, h2⟩ := rd.tup
  obtain ⟨vx, r1, rfl, p1, h3⟩ := h2.of_cons
  obtain ⟨vy, r2, rfl, p2, h4⟩ := h3.of_cons
  obtain rfl := h4.of_nil
  exact ⟨a, [vx, vy], rfl, e.ext.seqT h1, rfl, vx, [vy], rfl, vy, [], rfl, rfl, q _ ((e.set rfl (sl_im p1) i).set rfl (sl_im p2) j) fun vs h => (wipe_set (h j (by simp))).trans (wipe_set (h i (by simp)))⟩
theorem rg_tup3 {i j k : Nat} {z : D} : RunG K (gTup K 3 (gCons (gName i) (gCons (gName j) (gCons (gName k) gNil)))) r (.tup [x, y, z]) [i, j, k] (((r.set i (.im x)).set j (.im y)).set k (.im z)) := fun S s F H v e rd Q q => by
  obtain ⟨a, vs, rfl, h1, h2⟩ := rd.tup
  obtain ⟨vx, r1, rfl, p1, h3⟩ := h2.of_cons
  obtain ⟨vy, r2, rfl, p2, h4⟩ := h3.of_cons
  obtain ⟨vz, r3, rfl, p3, h5⟩ := h4.of_cons
  obtain rfl := h5.of_nil
  exact ⟨a, [vx, vy, vz], rfl, e.ext.seqT h1, rfl, vx, [vy, vz], rfl, vy, [vz], rfl, vz, [], rfl, rfl, q _ (((e.set rfl (sl_im p1) i).set rfl (sl_im p2) j).set rfl (sl_im p3) k)
    fun vs h => (wipe_set (h k (by simp))).trans ((wipe_set (h j (by simp))).trans (wipe_set (h i (by simp))))⟩
theorem rg_tup4 {i j k l : Nat} {z w : D} : RunG K (gTup K 4 (gCons (gName i) (gCons (gName j) (gCons (gName k) (gCons (gName l) gNil))))) r (.tup [x, y, z, w]) [i, j, k, l] ((((r.set i (.im x)).set j (.im y)).set k (.im z)).set l (.im w)) := fun S s F H v e rd Q q => by
  obtain ⟨a, vs, rfl, h1, h2⟩ := rd.tup
  obtain ⟨vx, r1, rfl, p1, h3⟩ := h2.of_cons
  obtain ⟨vy, r2, rfl, p2, h4⟩ := h3.of_cons
  obtain ⟨vz, r3, rfl, p3, h5⟩ := h4.of_cons
  obtain ⟨vw, r4, rfl, p4, h6⟩ := h5.of_cons
  obtain rfl := h6.of_nil
  exact ⟨a, [vx, vy, vz, vw], rfl, e.ext.seqT h1, rfl, vx, [vy, vz, vw], rfl, vy, [vz, vw], rfl, vz, [vw], rfl, vw, [], rfl, rfl, q _ ((((e.set rfl (sl_im p1) i).set rfl (sl_im p2) j).set rfl (sl_im p3) k).set rfl (sl_im p4) l)
    fun vs h => (wipe_set (h l (by simp))).trans ((wipe_set (h k (by simp))).trans ((wipe_set (h j (by simp))).trans (wipe_set (h i (by simp)))))⟩

/-! ### comprehensions -/
def wipeE (r : En) : List Nat → En
  | [] => r
  | v :: vs => (wipeE r vs).set v .un
theorem EnOk.wipe {S : Option Addr} {s : L2.St} {F H : Hp} (e : EnOk K S r s F H) : ∀ vs : List Nat, EnOk K S (wipeE r vs) (wipe s vs) F H
  | [] => e
  | v :: vs => (EnOk.wipe e vs).set (x := .un) rfl trivial v
theorem ro_lc {A : Type} {l : List A} {sx ex : A → D} {p : A → Bool} {wi : TI} {gt : TG} {tt : TT} {vs : List Nat} {js : List Nat} (hw : RunI K wi r (l.map sx)) (hl : l.length ≤ 100000) (hj : ∀ j ∈ js, j ∈ vs)
    (step : ∀ a ∈ l, ∃ r1, RunG K gt (wipeE r vs) (sx a) js r1 ∧ RunT K tt r1 (p a) ∧ (p a = true → RunV K te r1 (ex a))) : RunOV K (tLc wi gt tt te vs) r ((l.filter p).map ex) := fun S s F H e Q q => by
  refine hw S s F H e _ fun J F1 H1 g1 Y D hD => ?_
  have e1 := e.gr g1
  have so1 := g1.sok e.sok
  have nS : S ≠ some D := e1.ne_new hD
  have hs : sizeLine = 16777216 := sizeLine_eq
  have ln : (l.map sx).length = l.length := List.length_map _
  refine ⟨fun i m H' => m = l.length - i ∧ i ≤ l.length ∧ ∃ F' acc, Gr S F1 H1 F' H' ∧ F' D = none ∧ H' D = some (.lst acc) ∧ acc.length ≤ i ∧ RepL K F' (((l.take i).filter p).map ex) acc, ⟨l.length, by simp, Nat.zero_le _, F1, [], Gr.track g1.sub so1 hD, g1.sub.back hD, upd_same, Nat.le_refl _, RepL.nil⟩, ?_⟩
  rintro i m H' ⟨rfl, hi, F', acc, g2, n2, h2, la, ra⟩
  by_cases hlt : i < l.length
  · refine .inr ⟨Y.go i F' H' (by rw [ln]; exact hlt) g2, fun H3 => i + 1 ≤ l.length ∧ ∃ F' acc, Gr S F1 H1 F' H3 ∧ F' D = none ∧ H3 D = some (.lst acc) ∧ acc.length ≤ i + 1 ∧ RepL K F' (((l.take (i + 1)).filter p).map ex) acc, fun H3 h3 => ⟨l.length - (i + 1), by omega, rfl, h3⟩, fun x H3 hy => ?_⟩
    have hget : (l.map sx)[i]? = some (sx l[i]) := by rw [List.getElem?_map, List.getElem?_eq_getElem hlt]; rfl
    obtain ⟨F3, g3, rx⟩ := Y.yld i _ F' H' x H3 hget g2 hy
    obtain ⟨r1, hg, ht, he⟩ := step l[i] (List.getElem_mem hlt)
    have g13 := g2.trans g3
    have et : l.take (i + 1) = l.take i ++ [l[i]] := by rw [List.take_add_one, List.getElem?_eq_getElem hlt]; rfl
    have noD : ∀ {F4 H4}, Gr S F' H' F4 H4 → F4 D = none := fun {F4 H4} g => by
      cases z : F4 D with
      | none => rfl
      | some u =>
        have z2 := g.fresh D u z n2
        rw [h2] at z2
        cases z2
    refine hg S _ F3 H3 x ((e1.gr g13).wipe vs) rx _ fun s1 en1 hwp => ⟨(hwp vs hj).trans wipe_wipe, ?_⟩
    refine ht S s1 F3 H3 en1 _ fun F4 H4 g4 => ?_
    cases hp : p l[i] with
    | false =>
      rw [if_neg Bool.false_ne_true]
      have g34 := g3.trans g4
      refine ⟨hlt, F4, acc, g2.trans g34, noD g34, g34.keep D _ nS h2, by omega, ?_⟩
      rw [et, List.filter_append, List.filter_cons_of_neg (by rw [hp]; exact Bool.false_ne_true), List.filter_nil, List.append_nil]
      exact ra.mono g34.ex
    | true =>
      rw [if_pos rfl]
      refine he hp S s1 F4 H4 (en1.gr g4) _ fun d v F5 H5 hd rd g5 => ?_
      subst hd
      have g35 := (g3.trans g4).trans g5
      have hD5 := g35.keep D _ nS h2
      have gA := g2.trans g35
      refine ⟨acc, hD5, by omega, hlt, F5, acc ++ [v], ⟨gA.ex, fun b o hb => ?_, fun b o hS hb => ?_, gA.fresh, fun a ha => ?_⟩, noD g35, upd_same, by rw [List.length_append, List.length_singleton]; omega, ?_⟩
      · have nb : b ≠ D := fun z => by rw [z, noD g35] at hb; cases hb
        rw [upd_ne nb]
        exact gA.sub b o hb
      · have nb : b ≠ D := fun z => by rw [z, hD] at hb; cases hb
        rw [upd_ne nb]
        exact gA.keep b o hS hb
      · have nb : a ≠ D := fun z => nS (by rw [ha, z])
        rw [upd_ne nb]
        exact gA.st a ha
      · rw [et, List.filter_append, List.filter_cons_of_pos hp, List.filter_nil, List.map_append]
        exact (ra.mono g35.ex).append (.cons rd .nil)
  · have ei : i = l.length := by omega
    subst ei
    refine .inl ⟨?_, q _ D acc F' H' rfl (g1.trans g2) n2 (gr_free g1 hD) h2 (by rw [List.take_length] at ra; exact ra)⟩
    have := Y.stop F' H' g2
    rw [ln] at this
    exact this
theorem rt_yes : RunT K tYes r true := fun S s F H e Q q => q F H e.grr
/-- without a test -/
theorem ro_map {A : Type} {l : List A} {sx ex : A → D} {wi : TI} {gt : TG} {vs : List Nat} {js : List Nat} (hw : RunI K wi r (l.map sx)) (hl : l.length ≤ 100000) (hj : ∀ j ∈ js, j ∈ vs)
    (step : ∀ a ∈ l, ∃ r1, RunG K gt (wipeE r vs) (sx a) js r1 ∧ RunV K te r1 (ex a)) : RunOV K (tLc wi gt tYes te vs) r (l.map ex) := by
  have h := ro_lc (p := fun _ => true) (ex := ex) (te := te) (tt := tYes) hw hl hj fun a ha => by
    obtain ⟨r1, h1, h2⟩ := step a ha
    exact ⟨r1, h1, rt_yes, fun _ => h2⟩
  rw [List.filter_eq_self.mpr (fun _ _ => rfl)] at h
  exact h
end
end Wk
/-! # WkSt -/
set_option Elab.async false
set_option linter.all false
set_option maxRecDepth 100000
set_option maxHeartbeats 2000000
/-! Statements over data: RunS, loops, own lists, bodies of defs. -/
namespace Wk
open PySem PySem.Spec PyProof.Rows L2

/-- the entry of a def's run: what is represented and tracked there, the state's list -/
structure Cn where
  F : Hp
  H : Hp
  S : Option Addr
structure EnC (K : PySem.W.Frag) (C : Cn) (r : En) (s : L2.St) (F H : Hp) : Prop where
  en : EnOk K C.S r s F H
  gr : Gr C.S C.F C.H F H
  new : ∀ a ∈ owns r, C.H a = none
/-- what is wanted behind a statement; ro: a new list is handed back -/
structure Po where
  nx : En → Prop := fun _ => False
  rt : D → Prop := fun _ => False
  ro : List D → Prop := fun _ => False
  bk : En → Prop := fun _ => False
  ct : En → Prop := fun _ => False
structure Sat (K : PySem.W.Frag) (C : Cn) (Fs : Hp) (P : Po) (Dn : Ends) : Prop where
  nx : ∀ r s F H, P.nx r → EnC K C r s F H → Ext Fs F → Dn.nx s H
  bk : ∀ r s F H, P.bk r → EnC K C r s F H → Ext Fs F → Dn.bk s H
  ct : ∀ r s F H, P.ct r → EnC K C r s F H → Ext Fs F → Dn.ct s H
  rt : ∀ d v F H, P.rt d → Rep K F d v → Gr C.S C.F C.H F H → Dn.rt v H
  ro : ∀ ds p vs F H, P.ro ds → Gr C.S C.F C.H F H → F p = none → C.H p = none → H p = some (.lst vs) → RepL K F ds vs → Dn.rt (.ref p) H
theorem Sat.mono {K : PySem.W.Frag} {C : Cn} {F F' : Hp} {P : Po} {Dn : Ends} (q : Sat K C F P Dn) (e : Ext F F') : Sat K C F' P Dn := ⟨fun r s G H h k x => q.nx r s G H h k (e.trans x), fun r s G H h k x => q.bk r s G H h k (e.trans x), fun r s G H h k x => q.ct r s G H h k (e.trans x), q.rt, q.ro⟩
def RunS (K : PySem.W.Frag) (t : TS) (r : En) (P : Po) : Prop := ∀ C s F H Dn, EnC K C r s F H → Sat K C F P Dn → t Dn s H
section
variable {K : PySem.W.Frag} {r : En} {ta tb tc te : TE} {f g : D → Prop} {d x y : D} {ds es : List D} {i j : Nat} {b : Bool} {tr : TA} {t u tz : TS} {P P' : Po} {C : Cn} {s : L2.St} {F H F' H' : Hp} {Dn : Ends} {ct : TT}
theorem EnC.go (e : EnC K C r s F H) (g : Gr C.S F H F' H') : EnC K C r s F' H' := ⟨e.en.gr g, e.gr.trans g, e.new⟩
theorem Sat.with_nx {M : En → Prop} (q : Sat K C F P Dn) {n : L2.St → Hp → Prop} (h : ∀ r s F' H, M r → EnC K C r s F' H → Ext F F' → n s H) : Sat K C F { P with nx := M } { Dn with nx := n } := ⟨h, q.bk, q.ct, q.rt, q.ro⟩
theorem RunS.imp (w : RunS K t r P) (h1 : ∀ r, P.nx r → P'.nx r) (h2 : ∀ d, P.rt d → P'.rt d) (h3 : ∀ d, P.ro d → P'.ro d) (h4 : ∀ r, P.bk r → P'.bk r) (h5 : ∀ r, P.ct r → P'.ct r) : RunS K t r P' := fun C s F H Dn e q =>
  w C s F H Dn e ⟨fun r s F H h => q.nx r s F H (h1 r h), fun r s F H h => q.bk r s F H (h4 r h), fun r s F H h => q.ct r s F H (h5 r h), fun d v F H h => q.rt d v F H (h2 d h), fun ds p vs F H h => q.ro ds p vs F H (h3 ds h)⟩
theorem rs_seq (M : En → Prop) (w : RunS K t r { P with nx := M }) (k : ∀ r', M r' → RunS K u r' P) : RunS K (tSeq t u) r P := fun C s F H Dn e q =>
  w C s F H _ e (q.with_nx fun r' s' F' H' hm e' x => k r' hm C s' F' H' Dn e' (q.mono x))
theorem rs_next (h : P.nx r) : RunS K tNext r P := fun C s F H Dn e q => q.nx r s F H h e (Ext.refl F)
theorem rs_break (h : P.bk r) : RunS K tBreak r P := fun C s F H Dn e q => q.bk r s F H h e (Ext.refl F)
theorem rs_cont (h : P.ct r) : RunS K tCont r P := fun C s F H Dn e q => q.ct r s F H h e (Ext.refl F)
theorem rs_if (w : RunT K ct r b) (h1 : b = true → RunS K t r P) (h2 : b = false → RunS K u r P) : RunS K (tIfS ct t u) r P := fun C s F H Dn e q =>
  w C.S s F H e.en _ fun F' H' g => by
    cases b with
    | true => rw [if_pos rfl]; exact h1 rfl C s F' H' Dn (e.go g) (q.mono g.ex)
    | false => rw [if_neg Bool.false_ne_true]; exact h2 rfl C s F' H' Dn (e.go g) (q.mono g.ex)
/-- an if of no else, followed by more -/
theorem rs_ifq (w : RunT K ct r b) (h1 : b = true → RunS K (tSeq t tz) r P) (h2 : b = false → RunS K (tSeq u tz) r P) : RunS K (tSeq (tIfS ct t u) tz) r P := fun C s F H Dn e q =>
  w C.S s F H e.en _ fun F' H' g => by
    cases b with
    | true => rw [if_pos rfl]; exact h1 rfl C s F' H' Dn (e.go g) (q.mono g.ex)
    | false => rw [if_neg Bool.false_ne_true]; exact h2 rfl C s F' H' Dn (e.go g) (q.mono g.ex)
theorem rs_nextq (h : RunS K tz r P) : RunS K (tSeq tNext tz) r P := fun C s F H Dn e q => h C s F H Dn e q
/-- a guard that is passed: if c: raise .. -/
theorem rs_guard (w : RunT K ct r false) (h : RunS K tz r P) : RunS K (tSeq (tIfS ct t tNext) tz) r P := rs_ifq w (fun z => nomatch z) fun _ => rs_nextq h
theorem rs_ret (w : RunE K te r f) (h : ∀ d, f d → P.rt d) : RunS K (tRet te) r P := fun C s F H Dn e q => w C.S s F H e.en _ fun d v F' H' hd rd g => q.rt d v F' H' (h d hd) rd (e.gr.trans g)
theorem rs_retV (w : RunV K te r d) (h : P.rt d) : RunS K (tRet te) r P := rs_ret w fun x hx => by subst hx; exact h
theorem rs_retO {f : List D → Prop} (w : RunO K te r f) (h : ∀ d, f d → P.ro d) : RunS K (tRet te) r P := fun C s F H Dn e q =>
  w C.S s F H e.en _ fun ds p vs F' H' hd g n1 n2 hp rd => q.ro ds p vs F' H' (h ds hd) (e.gr.trans g) n1 (gr_free e.gr n2) hp rd
/-- an own list is handed back -/
theorem rs_retOwn {p : Addr} (hi : r[i]? = some (.ow p ds)) (h : P.ro ds) : RunS K (tRet (tVar i)) r P := fun C s F H Dn e q => by
  obtain ⟨v, hv, h1, h2, vs, h3, h4⟩ := e.en.sl i _ hi
  subst h1
  exact ⟨_, hv, q.ro ds p vs F H h e.gr h2 (e.new p (mem_owns hi (by simp [own1]))) h3 h4⟩
/-- an own list is an ordinary one from here on -/
theorem rs_retOwnV {p : Addr} (hi : r[i]? = some (.ow p ds)) (h : P.rt (.lst ds)) : RunS K (tRet (tVar i)) r P := fun C s F H Dn e q => by
  obtain ⟨v, hv, h1, h2, vs, h3, h4⟩ := e.en.sl i _ hi
  subst h1
  exact ⟨_, hv, q.rt (.lst ds) _ (upd F p (.lst vs)) H h (Rep.mk_lst upd_same (h4.mono (Ext.new h2))) (e.gr.freeze h2 (e.new p (mem_owns hi (by simp [own1]))) h3)⟩
/-! ### slots set -/
theorem EnC.set (e : EnC K C r s F H) {x : Sl} {v : Option V} (hx : own1 x = []) (ok : SlOk K C.S F H x v) (j : Nat) : EnC K C (r.set j x) (s.set j v) F H := ⟨e.en.set hx ok j, e.gr, fun a ha => e.new a (owns_set hx r j a ha)⟩
theorem rs_set (w : RunE K te r f) (h : ∀ d, f d → P.nx (r.set i (.im d))) : RunS K (tAsg te (gName i)) r P := fun C s F H Dn e q =>
  w C.S s F H e.en _ fun d v F' H' hd rd g => q.nx _ _ F' H' (h d hd) ((e.go g).set rfl (sl_im rd) i) g.ex
theorem rs_setq (w : RunE K te r f) (h : ∀ d, f d → RunS K tz (r.set i (.im d)) P) : RunS K (tSeq (tAsg te (gName i)) tz) r P := fun C s F H Dn e q =>
  w C.S s F H e.en _ fun d v F' H' hd rd g => h d hd C _ F' H' Dn ((e.go g).set rfl (sl_im rd) i) (q.mono g.ex)
theorem rs_setV (w : RunV K te r d) (h : RunS K tz (r.set i (.im d)) P) : RunS K (tSeq (tAsg te (gName i)) tz) r P := rs_setq w fun x hx => by subst hx; exact h
theorem owns_set1 {x : Sl} {p : Addr} (hx : own1 x = [p]) : ∀ (r : En) (j : Nat), ∀ a, a ∈ owns (r.set j x) → a = p ∨ a ∈ owns r
  | [], _, a, h => .inr h
  | y :: r, 0, a, h => by
    unfold owns at h ⊢
    rw [List.set_cons_zero, List.flatMap_cons, hx] at h
    rw [List.flatMap_cons]
    rcases List.mem_append.mp h with h | h
    · exact .inl (by simpa using h)
    · exact .inr (List.mem_append_right _ h)
  | y :: r, j + 1, a, h => by
    unfold owns at h ⊢
    rw [List.set_cons_succ, List.flatMap_cons] at h
    rw [List.flatMap_cons]
    rcases List.mem_append.mp h with h | h
    · exact .inr (List.mem_append_left _ h)
    · rcases owns_set1 hx r j a h with h | h
      · exact .inl h
      · exact .inr (List.mem_append_right _ h)
theorem owns_set1_nd {x : Sl} {p : Addr} (hx : own1 x = [p]) : ∀ (r : En) (j : Nat), (∀ k y, r[k]? = some y → k ≠ j → p ∉ own1 y) → (owns r).Nodup → (owns (r.set j x)).Nodup
  | [], _, _, h => h
  | y :: r, 0, hp, h => by
    unfold owns at h ⊢
    rw [List.set_cons_zero, List.flatMap_cons, hx]
    rw [List.flatMap_cons] at h
    refine List.nodup_cons.mpr ⟨fun hm => ?_, (List.nodup_append.mp h).2.1⟩
    obtain ⟨y', hy', hp'⟩ := List.mem_flatMap.mp hm
    obtain ⟨k, hk⟩ := List.mem_iff_getElem?.mp hy'
    exact hp (k + 1) y' (by simpa using hk) (by omega) hp'
  | y :: r, j + 1, hp, h => by
    unfold owns at h ⊢
    rw [List.set_cons_succ, List.flatMap_cons]
    rw [List.flatMap_cons] at h
    obtain ⟨h1, h2, h3⟩ := List.nodup_append.mp h
    refine List.nodup_append.mpr ⟨h1, owns_set1_nd hx r j (fun k y' hk hne => hp (k + 1) y' (by simpa using hk) (by omega)) h2, fun a ha b hb => ?_⟩
    rcases owns_set1 hx r j b hb with z | z
    · intro e
      exact hp 0 y rfl (by omega) (by rw [← z, ← e]; exact ha)
    · exact h3 a ha b z
/-- a slot gets an own list, new or its old one -/
theorem EnOk.setOwn {S : Option Addr} (e : EnOk K S r s F H) {p : Addr} {v : Option V} {x : Sl} (hx : own1 x = [p]) (hp : ∀ k y, r[k]? = some y → k ≠ j → p ∉ own1 y) (hS : S ≠ some p) (ok : SlOk K S F H x v) : EnOk K S (r.set j x) (s.set j v) F H := by
  refine ⟨e.ext, by rw [List.length_set, List.length_set]; exact e.len, fun i y hi => ?_, owns_set1_nd hx r j hp e.nd, fun a ha => ?_⟩
  · by_cases hj : j = i
    · subst hj
      have hl : j < r.length := by
        have := (List.getElem?_eq_some_iff.mp hi).1
        rwa [List.length_set] at this
      rw [List.getElem?_set_self hl] at hi
      cases hi
      exact ⟨v, List.getElem?_set_self (by rw [← e.len]; exact hl), ok⟩
    · rw [List.getElem?_set_ne hj] at hi ⊢
      exact e.sl i y hi
  · obtain ⟨h1, h2, h3⟩ := e.st a ha
    refine ⟨h1, fun z => ?_, h3⟩
    rcases owns_set1 hx r j a z with z | z
    · exact hS (by rw [ha, z])
    · exact h2 z
theorem not_own {S : Option Addr} (e : EnOk K S r s F H) {p : Addr} (hp : H p = none) : ∀ (k : Nat) (y : Sl), r[k]? = some y → p ∉ own1 y := fun k y hk z => by
  obtain ⟨_, o, h⟩ := e.own (mem_owns hk z)
  rw [hp] at h
  cases h
theorem rs_ownq {f : List D → Prop} (w : RunO K te r f) (h : ∀ ds p, f ds → RunS K tz (r.set i (.ow p ds)) P) : RunS K (tSeq (tAsg te (gName i)) tz) r P := fun C s F H Dn e q =>
  w C.S s F H e.en _ fun ds p vs F' H' hd g n1 n2 hp rd => by
    have e' := e.go g
    refine h ds p hd C _ F' H' Dn ⟨e'.en.setOwn rfl (fun k y hk _ => not_own e.en n2 k y hk) (e.en.ne_new n2) ⟨rfl, n1, vs, hp, rd⟩, e'.gr, fun a ha => ?_⟩ (q.mono g.ex)
    rcases owns_set1 rfl r i a ha with z | z
    · rw [z]; exact gr_free e.gr n2
    · exact e.new a z
theorem rs_ownV (w : RunOV K te r ds) (h : ∀ p, RunS K tz (r.set i (.ow p ds)) P) : RunS K (tSeq (tAsg te (gName i)) tz) r P := rs_ownq w fun x p hx => by subst hx; exact h p
theorem rs_own {f : List D → Prop} (w : RunO K te r f) (h : ∀ ds p, f ds → P.nx (r.set i (.ow p ds))) : RunS K (tAsg te (gName i)) r P := fun C s F H Dn e q =>
  rs_ownq (tz := tNext) w (fun ds p hd => rs_next (h ds p hd)) C s F H Dn e q
/-- a new list that will not change: an ordinary one -/
theorem rs_lstV (w : RunOV K te r ds) (h : RunS K tz (r.set i (.im (.lst ds))) P) : RunS K (tSeq (tAsg te (gName i)) tz) r P := rs_setV w.v h
theorem rs_tgq {gt : TG} {js : List Nat} (w : RunE K te r f) (h : ∀ d, f d → ∃ r1, RunG K gt r d js r1 ∧ (∀ a, a ∈ owns r1 → a ∈ owns r) ∧ RunS K tz r1 P) : RunS K (tSeq (tAsg te gt) tz) r P := fun C s F H Dn e q =>
  w C.S s F H e.en _ fun d v F' H' hd rd g => by
    obtain ⟨r1, hg, ho, hz⟩ := h d hd
    have e' := e.go g
    exact hg C.S s F' H' v e'.en rd _ fun s1 en1 _ => hz C s1 F' H' Dn ⟨en1, e'.gr, fun a ha => e.new a (ho a ha)⟩ (q.mono g.ex)
/-- a, b = x, y -/
theorem rs_par (w : RunAV K tr r [x, y]) (h : RunS K tz ((r.set i (.im x)).set j (.im y)) P) : RunS K (tSeq (tPar i j tr) tz) r P := fun C s F H Dn e q =>
  w C.S s F H e.en _ fun ds vs F' H' hd rd g => by
    subst hd
    obtain ⟨vx, r1, rfl, p1, h3⟩ := rd.of_cons
    obtain ⟨vy, r2, rfl, p2, h4⟩ := h3.of_cons
    obtain rfl := h4.of_nil
    have e' := e.go g
    exact ⟨vx, vy, rfl, h C _ F' H' Dn ((e'.set rfl (sl_im p1) i).set rfl (sl_im p2) j) (q.mono g.ex)⟩
theorem rs_par3 {k : Nat} {h : List D → Prop} (w : RunA K tr r h) (hz : ∀ ds, h ds → ∃ x y z, ds = [x, y, z] ∧ RunS K tz (((r.set i (.im x)).set j (.im y)).set k (.im z)) P) : RunS K (tSeq (tPar3 i j k tr) tz) r P := fun C s F H Dn e q =>
  w C.S s F H e.en _ fun ds vs F' H' hd rd g => by
    obtain ⟨x, y, z, rfl, hz⟩ := hz ds hd
    obtain ⟨vx, r1, rfl, p1, h3⟩ := rd.of_cons
    obtain ⟨vy, r2, rfl, p2, h4⟩ := h3.of_cons
    obtain ⟨vz, r3, rfl, p3, h5⟩ := h4.of_cons
    obtain rfl := h5.of_nil
    have e' := e.go g
    exact ⟨vx, vy, vz, rfl, hz C _ F' H' Dn (((e'.set rfl (sl_im p1) i).set rfl (sl_im p2) j).set rfl (sl_im p3) k) (q.mono g.ex)⟩
theorem rs_drop (w : RunE K te r f) (h : P.nx r) : RunS K (tDrop te) r P := fun C s F H Dn e q => w C.S s F H e.en _ fun d v F' H' hd rd g => q.nx r s F' H' h (e.go g) g.ex

theorem own_key {p : Addr} : ∀ (l : En) (i k : Nat) (x y : Sl), l[i]? = some x → l[k]? = some y → k ≠ i → p ∈ own1 x → p ∈ own1 y → (owns l).Nodup → False := by
  intro l
  induction l with
  | nil => intro i k x y h; simp at h
  | cons z l ih =>
    intro i k x y h1 h2 hne px py nd
    unfold owns at nd
    rw [List.flatMap_cons] at nd
    obtain ⟨n1, n2, n3⟩ := List.nodup_append.mp nd
    cases i with
    | zero =>
      cases k with
      | zero => exact hne rfl
      | succ k =>
        have e1 : z = x := by simpa using h1
        subst e1
        exact n3 p px p (mem_owns (r := l) (i := k) (by simpa using h2) py) rfl
    | succ i =>
      cases k with
      | zero =>
        have e1 : z = y := by simpa using h2
        subst e1
        exact n3 p py p (mem_owns (r := l) (i := i) (by simpa using h1) px) rfl
      | succ k => exact ih i k x y (by simpa using h1) (by simpa using h2) (by omega) px py n2
theorem own_apart {p : Addr} (nd : (owns r).Nodup) (hi : r[i]? = some (.ow p ds)) : ∀ (k : Nat) (y : Sl), r[k]? = some y → k ≠ i → p ∉ own1 y := fun k y hk hne hp => own_key r i k _ y hi hk hne (by simp [own1]) hp nd

/-! ### own lists change -/
/-- the list at p, owned by slot i, becomes what is represented by es -/
theorem EnC.mut (e : EnC K C r s F H) {p : Addr} {vs : List V} (hi : r[i]? = some (.ow p ds)) (rd : RepL K F es vs) : EnC K C (r.set i (.ow p es)) s F (upd H p (.lst vs)) := by
  obtain ⟨v, hv, h1, h2, us, h3, h4⟩ := e.en.sl i _ hi
  subst h1
  have hm : p ∈ owns r := mem_owns hi (by simp [own1])
  have nS : C.S ≠ some p := fun z => (e.en.st p z).2.1 hm
  have li : i < r.length := (List.getElem?_eq_some_iff.mp hi).1
  have oth : ∀ (k : Nat) (y : Sl), r[k]? = some y → k ≠ i → p ∉ own1 y := own_apart e.en.nd hi
  have ext : Ext F (upd H p (.lst vs)) := fun b o hb => by
    rw [upd_ne (fun z => by rw [z, h2] at hb; cases hb)]
    exact e.en.ext b o hb
  have ow : ∀ a, a ∈ owns (r.set i (.ow p es)) → a ∈ owns r := fun a ha => by
    rcases owns_set1 rfl r i a ha with z | z
    · rw [z]; exact hm
    · exact z
  refine ⟨⟨ext, by rw [List.length_set]; exact e.en.len, fun k y hk => ?_, owns_set1_nd rfl r i oth e.en.nd, fun a ha => ?_⟩, ⟨e.gr.ex, ext, fun b o hS hb => ?_, e.gr.fresh, fun a ha => ?_⟩, fun a ha => e.new a (ow a ha)⟩
  · by_cases hki : i = k
    · subst hki
      rw [List.getElem?_set_self li] at hk
      cases hk
      exact ⟨_, hv, rfl, h2, vs, upd_same, rd⟩
    · rw [List.getElem?_set_ne hki] at hk
      obtain ⟨w, hw, ok⟩ := e.en.sl k y hk
      refine ⟨w, hw, ?_⟩
      cases y with
      | un => trivial
      | im d => exact ok
      | ow a ds' =>
        obtain ⟨q1, q2, us', q3, q4⟩ := ok
        have na : a ≠ p := fun z => oth k _ hk (Ne.symm hki) (by simp [own1, z])
        exact ⟨q1, q2, us', by rw [upd_ne na]; exact q3, q4⟩
      | st => exact ok
      | sf a c fs =>
        obtain ⟨q1, q2, dx, us', q3, q4⟩ := ok
        have na : a ≠ p := fun z => oth k _ hk (Ne.symm hki) (by simp [own1, z])
        exact ⟨q1, q2, dx, us', by rw [upd_ne na]; exact q3, q4⟩
      | mx a ps dss =>
        obtain ⟨q1, q2, q3, q4⟩ := ok
        have na : ∀ b ∈ a :: ps, b ≠ p := fun b hb z => oth k _ hk (Ne.symm hki) (by rw [← z]; exact hb)
        exact ⟨q1, q2, by rw [upd_ne (na a (List.mem_cons_self ..))]; exact q3, q4.map (Ext.refl _) fun b hb hf o ho => ⟨hf, by rw [upd_ne (na b (List.mem_cons_of_mem _ hb))]; exact ho⟩⟩
  · obtain ⟨q1, q2, i', j', q3⟩ := e.en.st a ha
    have na : a ≠ p := fun z => nS (by rw [ha, z])
    exact ⟨q1, fun z => q2 (ow a z), i', j', by rw [upd_ne na]; exact q3⟩
  · have nb : b ≠ p := fun z => by rw [z, e.new p hm] at hb; cases hb
    rw [upd_ne nb]
    exact e.gr.keep b o hS hb
  · have na : a ≠ p := fun z => nS (by rw [ha, z])
    rw [upd_ne na]
    exact e.gr.st a ha
abbrev tApp (K : PySem.W.Frag) (i : Nat) (te : TE) : TS := tDrop (tBM K "list" rAppend (tVar i) (tCons te tNil))
theorem ty_list {p : Addr} {vs : List V} (h : H p = some (.lst vs)) : tyV K "list" (.ref p) H := .inl ⟨rfl, _, SqL.of h⟩
theorem rs_app {p : Addr} (hi : r[i]? = some (.ow p ds)) (hl : ds.length ≤ 100000) (w : RunE K te r f) (h : ∀ d, f d → P.nx (r.set i (.ow p (ds ++ [d])))) : RunS K (tApp K i te) r P := fun C s F H Dn e q => by
  obtain ⟨v, hv, h1, h2, us, h3, h4⟩ := e.en.sl i _ hi
  subst h1
  have nS : C.S ≠ some p := fun z => (e.en.st p z).2.1 (mem_owns hi (by simp [own1]))
  refine ⟨_, hv, ty_list h3, w C.S s F H e.en _ fun d v F' H' hd rd g => ?_⟩
  have hs : sizeLine = 16777216 := sizeLine_eq
  have l := h4.length
  refine ⟨p, us, v, rfl, rfl, g.keep _ _ nS h3, by omega, q.nx _ _ F' _ (h d hd) ((e.go g).mut hi ((h4.mono g.ex).append (.cons rd .nil))) g.ex⟩
theorem rs_appq {p : Addr} (hi : r[i]? = some (.ow p ds)) (hl : ds.length ≤ 100000) (w : RunE K te r f) (h : ∀ d, f d → RunS K tz (r.set i (.ow p (ds ++ [d]))) P) : RunS K (tSeq (tApp K i te) tz) r P :=
  rs_seq (fun r' => ∃ d, f d ∧ r' = r.set i (.ow p (ds ++ [d]))) (rs_app hi hl w fun d hd => ⟨d, hd, rfl⟩) fun r' ⟨d, hd, e⟩ => by subst e; exact h d hd
theorem rs_appV {p : Addr} (hi : r[i]? = some (.ow p ds)) (hl : ds.length ≤ 100000) (w : RunV K te r d) (h : RunS K tz (r.set i (.ow p (ds ++ [d]))) P) : RunS K (tSeq (tApp K i te) tz) r P := rs_appq hi hl w fun x hx => by subst hx; exact h
/-- x[k] = e -/
theorem rs_item {p : Addr} {k : Nat} {z : Int} {ti : TE} (hi : r[i]? = some (.ow p ds)) (w : RunE K te r f) (wi : RunV K ti r (.int z)) (hz : z = (k : Int)) (hk : k < ds.length) (h : ∀ d, f d → P.nx (r.set i (.ow p (ds.set k d)))) : RunS K (tAsg te (gSub (tVar i) ti rSetL)) r P := fun C s F H Dn e q =>
  w C.S s F H e.en _ fun d v F1 H1 hd r1 g1 => by
    have e1 := e.go g1
    obtain ⟨v', hv, h1, h2, us, h3, h4⟩ := e1.en.sl i _ hi
    subst h1 hz
    have nS : C.S ≠ some p := fun z => (e1.en.st p z).2.1 (mem_owns hi (by simp [own1]))
    refine ⟨_, hv, wi C.S s F1 H1 e1.en _ fun d2 v2 F2 H2 hd2 r2 g2 => ?_⟩
    subst hd2
    have l := h4.length
    refine ⟨p, us, k, k, rfl, r2.int, g2.keep _ _ nS h3, ?_, q.nx _ _ F2 _ (h d hd) ((e1.go g2).mut hi ((h4.mono g2.ex).set (r1.mono g2.ex) k)) (g1.ex.trans g2.ex)⟩
    unfold ixN
    rw [if_pos (by omega), if_pos (by omega), Int.toNat_natCast]
/-- x = l.pop(k) -/
theorem rs_popq {p : Addr} {k : Nat} {z : Int} {ti : TE} (hi : r[i]? = some (.ow p ds)) (wi : RunV K ti r (.int z)) (hz : z = (k : Int)) (hk : ds[k]? = some d) (hl : ds.length ≤ 100000) (hij : i ≠ j) (h : RunS K tz ((r.set i (.ow p (ds.eraseIdx k))).set j (.im d)) P) :
    RunS K (tSeq (tAsg (tBM K "list" rPopAt (tVar i) (tCons ti tNil)) (gName j)) tz) r P := fun C s F H Dn e q => by
  obtain ⟨v, hv, h1, h2, us, h3, h4⟩ := e.en.sl i _ hi
  subst h1 hz
  have nS : C.S ≠ some p := fun z => (e.en.st p z).2.1 (mem_owns hi (by simp [own1]))
  refine ⟨_, hv, ty_list h3, wi C.S s F H e.en _ fun d2 v2 F' H' hd2 r2 g => ?_⟩
  subst hd2
  have l := h4.length
  obtain ⟨w, hw, rw⟩ := (h4.mono g.ex).get hk
  have lk : k < us.length := (List.getElem?_eq_some_iff.mp hw).1
  refine ⟨p, us, k, k, w, rfl, by rw [r2.int], g.keep _ _ nS h3, by omega, by omega, ?_, hw, ?_⟩
  · exact (ixN_seq (n := us.length) (i := (k : Int)) (j := k) (by unfold ixN; rw [if_pos (by omega), if_pos (by omega), Int.toNat_natCast])).1
  · exact h C _ F' _ Dn (((e.go g).mut hi ((h4.mono g.ex).erase k)).set rfl (sl_im rw) j) (q.mono g.ex)
/-- an own list is an ordinary one from here on -/
theorem rs_freeze {p : Addr} (hi : r[i]? = some (.ow p ds)) (h : RunS K t (r.set i (.im (.lst ds))) P) : RunS K t r P := fun C s F H Dn e q => by
  obtain ⟨v, hv, h1, h2, us, h3, h4⟩ := e.en.sl i _ hi
  subst h1
  have hm : p ∈ owns r := mem_owns hi (by simp [own1])
  have nS : C.S ≠ some p := fun z => (e.en.st p z).2.1 hm
  have ex : Ext F (upd F p (.lst us)) := Ext.new h2
  have ok : ∀ (k : Nat) (y : Sl), r[k]? = some y → k ≠ i → p ∉ own1 y := own_apart e.en.nd hi
  have nofr : ∀ a, a ≠ p → upd F p (.lst us) a = F a := fun a z => upd_ne z
  have ow : ∀ a, a ∈ owns (r.set i (.im (.lst ds))) → a ∈ owns r ∧ a ≠ p := fun a ha => by
    refine ⟨owns_set rfl r i a ha, fun z => ?_⟩
    subst z
    obtain ⟨y, hy, ay⟩ := List.mem_flatMap.mp ha
    obtain ⟨k, hk⟩ := List.mem_iff_getElem?.mp hy
    by_cases hki : i = k
    · subst hki
      rw [List.getElem?_set_self (List.getElem?_eq_some_iff.mp hi).1] at hk
      cases hk
      simp [own1] at ay
    · rw [List.getElem?_set_ne hki] at hk
      exact ok k y hk (Ne.symm hki) ay
  have sub : Ext (upd F p (.lst us)) H := fun b o hb => by
    by_cases z : b = p
    · subst z; rw [upd_same] at hb; rw [h3]; exact hb
    · rw [upd_ne z] at hb; exact e.en.ext b o hb
  refine h C s (upd F p (.lst us)) H Dn ⟨⟨sub, by rw [List.length_set]; exact e.en.len, fun k y hk => ?_, owns_set_nd rfl r i e.en.nd, fun a ha => ?_⟩, e.gr.freeze h2 (e.new p hm) h3, fun a ha => e.new a (ow a ha).1⟩ (q.mono ex)
  · by_cases hki : i = k
    · subst hki
      rw [List.getElem?_set_self (List.getElem?_eq_some_iff.mp hi).1] at hk
      cases hk
      exact ⟨_, hv, _, rfl, Rep.mk_lst upd_same (h4.mono ex)⟩
    · rw [List.getElem?_set_ne hki] at hk
      obtain ⟨w, hw, okk⟩ := e.en.sl k y hk
      refine ⟨w, hw, ?_⟩
      cases y with
      | un => trivial
      | im d =>
        obtain ⟨z, z1, z2⟩ := okk
        exact ⟨z, z1, z2.mono ex⟩
      | ow a ds' =>
        obtain ⟨q1, q2, us', q3, q4⟩ := okk
        have na : a ≠ p := fun z => ok k _ hk (Ne.symm hki) (by simp [own1, z])
        exact ⟨q1, by rw [nofr a na]; exact q2, us', q3, q4.mono ex⟩
      | st => exact okk
      | sf a c fs =>
        obtain ⟨q1, q2, dx, us', q3, q4⟩ := okk
        have na : a ≠ p := fun z => ok k _ hk (Ne.symm hki) (by simp [own1, z])
        exact ⟨q1, by rw [nofr a na]; exact q2, dx, us', q3, q4.mono ex⟩
      | mx a ps dss =>
        obtain ⟨q1, q2, q3, q4⟩ := okk
        have na : ∀ b ∈ a :: ps, b ≠ p := fun b hb z => ok k _ hk (Ne.symm hki) (by rw [← z]; exact hb)
        exact ⟨q1, by rw [nofr a (na a (List.mem_cons_self ..))]; exact q2, q3, q4.map ex fun b hb hf o ho => ⟨by rw [nofr b (na b (List.mem_cons_of_mem _ hb))]; exact hf, ho⟩⟩
  · obtain ⟨q1, q2, q3⟩ := e.en.st a ha
    have na : a ≠ p := fun z => nS (by rw [ha, z])
    exact ⟨by rw [nofr a na]; exact q1, fun z => q2 (ow a z).1, q3⟩

/-! ### loops -/
theorem rs_for {wi : TI} {gt : TG} {xs : List D} {js : List Nat} (hw : RunJ K wi r xs) (I : Nat → En → Prop) (h0 : I 0 r)
    (ho : ∀ i r' d, xs[i]? = some d → I i r' → ∃ r1, RunG K gt r' d js r1 ∧ (∀ a, a ∈ owns r1 → a ∈ owns r') ∧ RunS K t r1 { P with nx := I (i + 1), ct := I (i + 1), bk := P.nx })
    (hd : ∀ r', I xs.length r' → P.nx r') : RunS K (tFor wi gt t) r P := fun C s F H Dn e q =>
  hw C.S s F H e.en _ fun J F1 H1 g1 Y => by
    have e1 := e.go g1
    refine ⟨fun i m s' H' => m = xs.length - i ∧ i ≤ xs.length ∧ ∃ r' F', I i r' ∧ EnC K C r' s' F' H' ∧ Ext F1 F', ⟨xs.length, by simp, Nat.zero_le _, r, F1, h0, e1, Ext.refl F1⟩, ?_⟩
    rintro i m s' H' ⟨rfl, hi, r', F', hI, e', x'⟩
    by_cases hlt : i < xs.length
    · refine .inr ⟨Y.go i F' H' hlt x' e'.en.ext e'.en.sok, fun s2 H2 => i + 1 ≤ xs.length ∧ ∃ r' F', I (i + 1) r' ∧ EnC K C r' s2 F' H2 ∧ Ext F1 F', fun s2 H2 h2 => ⟨xs.length - (i + 1), by omega, rfl, h2⟩, fun x H2 hy => ?_⟩
      have hget : xs[i]? = some xs[i] := List.getElem?_eq_getElem hlt
      obtain ⟨F2, g2, rx⟩ := Y.yld i _ F' H' x H2 hget x' e'.en.ext e'.en.sok hy
      obtain ⟨r1, hg, how, hb⟩ := ho i r' xs[i] hget hI
      have e2 := e'.go g2
      refine hg C.S s' F2 H2 x e2.en rx _ fun s1 en1 _ => ?_
      refine hb C s1 F2 H2 _ ⟨en1, e2.gr, fun a ha => e2.new a (how a ha)⟩ ⟨fun r3 s3 F3 H3 h3 e3 x3 => ⟨hlt, r3, F3, h3, e3, x'.trans (g2.ex.trans x3)⟩, fun r3 s3 F3 H3 h3 e3 x3 => ?_, fun r3 s3 F3 H3 h3 e3 x3 => ⟨hlt, r3, F3, h3, e3, x'.trans (g2.ex.trans x3)⟩, q.rt, q.ro⟩
      exact q.nx r3 s3 F3 H3 h3 e3 (g1.ex.trans (x'.trans (g2.ex.trans x3)))
    · have ei : i = xs.length := by omega
      subst ei
      exact .inl ⟨Y.stop F' H' x' e'.en.ext, q.nx r' s' F' H' (hd r' hI) e' (g1.ex.trans x')⟩
/-- while: I by the measure -/
theorem rs_while (I : Nat → En → Prop) (m0 : Nat) (h0 : I m0 r) (hs : ∀ m r', I m r' → ∃ b, RunT K ct r' b ∧ (b = true → RunS K t r' { P with nx := fun r2 => ∃ m', m' < m ∧ I m' r2, ct := fun r2 => ∃ m', m' < m ∧ I m' r2, bk := P.nx }) ∧ (b = false → P.nx r')) : RunS K (tWhile ct t) r P := fun C s F H Dn e q => by
  refine ⟨fun m s' H' => ∃ r' F', I m r' ∧ EnC K C r' s' F' H' ∧ Ext F F', ⟨m0, r, F, h0, e, Ext.refl F⟩, ?_⟩
  rintro m s' H' ⟨r', F', hI, e', x'⟩
  obtain ⟨b, ht, h1, h2⟩ := hs m r' hI
  refine ht C.S s' F' H' e'.en _ fun F1 H1 g1 => ?_
  have e1 := e'.go g1
  cases b with
  | true =>
    rw [if_pos rfl]
    refine ⟨fun s2 H2 => ∃ m', m' < m ∧ ∃ r' F', I m' r' ∧ EnC K C r' s2 F' H2 ∧ Ext F F', fun s2 H2 h => h, ?_⟩
    refine h1 rfl C s' F1 H1 _ e1 ⟨fun r3 s3 F3 H3 h3 e3 x3 => ?_, fun r3 s3 F3 H3 h3 e3 x3 => q.nx r3 s3 F3 H3 h3 e3 (x'.trans (g1.ex.trans x3)), fun r3 s3 F3 H3 h3 e3 x3 => ?_, q.rt, q.ro⟩
    · obtain ⟨m', hm, hI'⟩ := h3
      exact ⟨m', hm, r3, F3, hI', e3, x'.trans (g1.ex.trans x3)⟩
    · obtain ⟨m', hm, hI'⟩ := h3
      exact ⟨m', hm, r3, F3, hI', e3, x'.trans (g1.ex.trans x3)⟩
  | false =>
    rw [if_neg Bool.false_ne_true]
    exact q.nx r' s' F1 H1 (h2 rfl) e1 (x'.trans g1.ex)

/-! ### bodies -/
theorem owns_im : ∀ ds : List D, owns (ds.map Sl.im) = []
  | [] => rfl
  | d :: ds => by
    show own1 (.im d) ++ owns (ds.map Sl.im) = []
    rw [owns_im ds]
    rfl
theorem owns_un : ∀ n : Nat, owns (List.replicate n Sl.un) = []
  | 0 => rfl
  | n + 1 => by
    show own1 .un ++ owns (List.replicate n Sl.un) = []
    rw [owns_un n]
    rfl
theorem owns_app (a b : En) : owns (a ++ b) = owns a ++ owns b := by
  unfold owns
  rw [List.flatMap_append]
theorem sl_start {S : Option Addr} {vs : List V} (rd : RepL K F ds vs) (n : Nat) : ∀ (i : Nat) (x : Sl), (ds.map Sl.im ++ List.replicate n Sl.un)[i]? = some x → ∃ v, (vs.map some ++ List.replicate n none)[i]? = some v ∧ SlOk K S F H x v := fun i x hi => by
  have l := rd.length
  by_cases hlt : i < ds.length
  · rw [List.getElem?_append_left (by rw [List.length_map]; exact hlt), List.getElem?_map, List.getElem?_eq_getElem hlt] at hi
    obtain ⟨v, hv, rv⟩ := rd.get (List.getElem?_eq_getElem hlt)
    cases hi
    exact ⟨some v, by rw [List.getElem?_append_left (by rw [List.length_map, l]; exact hlt), List.getElem?_map, hv]; rfl, v, rfl, rv⟩
  · rw [List.getElem?_append_right (by rw [List.length_map]; omega), List.length_map, List.getElem?_replicate] at hi
    split at hi
    · rename_i h
      cases hi
      refine ⟨none, ?_, trivial⟩
      rw [List.getElem?_append_right (by rw [List.length_map]; omega), List.length_map, l, List.getElem?_replicate, if_pos h]
    · cases hi
/-- the slots at the entry -/
def ent (n : Nat) (ds : List D) : En := ds.map Sl.im ++ List.replicate (n - ds.length) .un
theorem body_psp {R : List D → (D → Prop) → Prop} {N : List Str} {n : Nat} {vs : List V} {Q : VK} {E : XK} (h : psp K R vs H Q E) (hn : N.length = n) (run : ∀ ds f, R ds f → RunS K t (ent n ds) { rt := f, nx := fun _ => f .non }) : t { nx := fun _ H' => Q .non H', rt := Q } (L2.start N vs) H := by
  obtain ⟨F, ds, f, ex, rd, hR, k⟩ := h
  have l := rd.length
  refine run ds f hR ⟨F, H, none⟩ _ F H _ ⟨⟨ex, ?_, ?_, ?_, fun a ha => nomatch ha⟩, Gr.refl ex (fun a ha => nomatch ha), fun a ha => ?_⟩ ⟨fun r s F' H' hf e _ => k .non .non F' H' hf Rep.mk_non e.gr, fun _ _ _ _ h => h.elim, fun _ _ _ _ h => h.elim, fun d v F' H' hd rv g => k d v F' H' hd rv g, fun _ _ _ _ _ h => h.elim⟩
  · unfold ent L2.start
    simp only [List.length_append, List.length_map, List.length_replicate]
    omega
  · unfold ent L2.start
    rw [l, hn]
    exact sl_start rd _
  · unfold ent
    rw [owns_app, owns_im, owns_un]
    exact List.nodup_nil
  · unfold ent at ha
    rw [owns_app, owns_im, owns_un] at ha
    cases ha
theorem body_fsp {R : List D → (List D → Prop) → Prop} {N : List Str} {n : Nat} {vs : List V} {Q : VK} {E : XK} (h : fsp K R vs H Q E) (hn : N.length = n) (run : ∀ ds f, R ds f → RunS K t (ent n ds) { ro := f }) : t { nx := fun _ H' => Q .non H', rt := Q } (L2.start N vs) H := by
  obtain ⟨F, ds, f, ex, rd, hR, k⟩ := h
  have l := rd.length
  refine run ds f hR ⟨F, H, none⟩ _ F H _ ⟨⟨ex, ?_, ?_, ?_, fun a ha => nomatch ha⟩, Gr.refl ex (fun a ha => nomatch ha), fun a ha => ?_⟩ ⟨fun _ _ _ _ h => h.elim, fun _ _ _ _ h => h.elim, fun _ _ _ _ h => h.elim, fun _ _ _ _ h => h.elim, fun es p us F' H' hd g n1 n2 hp rv => k es p us F' H' hd g n1 n2 hp rv⟩
  · unfold ent L2.start
    simp only [List.length_append, List.length_map, List.length_replicate]
    omega
  · unfold ent L2.start
    rw [l, hn]
    exact sl_start rd _
  · unfold ent
    rw [owns_app, owns_im, owns_un]
    exact List.nodup_nil
  · unfold ent at ha
    rw [owns_app, owns_im, owns_un] at ha
    cases ha
def entS (n : Nat) (ds : List D) : En := Sl.st :: (ds.map Sl.im ++ List.replicate (n - 1 - ds.length) .un)
theorem body_ssp {R : List D → (D → Prop) → Prop} {N : List Str} {n : Nat} {vs : List V} {Q : VK} {E : XK} (h : ssp K R vs H Q E) (hn : N.length = n) (run : ∀ ds f, R ds f → RunS K t (entS n ds) { rt := f, nx := fun _ => f .non }) (h1 : 0 < n) : t { nx := fun _ H' => Q .non H', rt := Q } (L2.start N vs) H := by
  obtain ⟨F, a, us, ds, f, rfl, ex, so, rd, hR, k⟩ := h
  have l := rd.length
  have ho : owns (entS n ds) = [] := by
    unfold entS
    show own1 .st ++ owns _ = []
    rw [owns_app, owns_im, owns_un]
    rfl
  have hst : L2.start N (V.ref a :: us) = some (V.ref a) :: (us.map some ++ List.replicate (n - 1 - ds.length) none) := by
    unfold L2.start
    rw [List.length_cons, l, hn, List.map_cons, List.cons_append]
    rw [show n - (ds.length + 1) = n - 1 - ds.length by omega]
  rw [hst]
  refine run ds f hR ⟨F, H, some a⟩ _ F H _ ⟨⟨ex, ?_, fun i x hi => ?_, by rw [ho]; exact List.nodup_nil, fun b hb => ?_⟩, Gr.refl ex so, fun a ha => by rw [ho] at ha; cases ha⟩ ⟨fun r s F' H' hf e _ => k .non .non F' H' hf Rep.mk_non e.gr, fun _ _ _ _ h => h.elim, fun _ _ _ _ h => h.elim, fun d v F' H' hd rv g => k d v F' H' hd rv g, fun _ _ _ _ _ h => h.elim⟩
  · unfold entS
    simp only [List.length_cons, List.length_append, List.length_map, List.length_replicate]
    omega
  · cases i with
    | zero =>
      cases hi
      exact ⟨_, rfl, a, rfl, rfl⟩
    | succ i =>
      exact sl_start rd _ i x hi
  · cases hb
    exact ⟨(so a rfl).1, by rw [ho]; simp, (so a rfl).2⟩
/-- x.f = e, x the instance in making -/
theorem rs_fld {p : Addr} {c fn : Str} {fs : List (Str × D)} {tv : TE} (hi : r[i]? = some (.sf p c fs)) (w : RunE K tv r f) (hc : Cls K (He.ga K c)) (hn : NoAttr K (He.ga K c) fn) (hl : fs.length < 1000)
    (h : ∀ d, f d → P.nx (r.set i (.sf p c (putD fn d fs)))) : RunS K (sFld K (tVar i) tv fn) r P := fun C s F H Dn e q =>
  w C.S s F H e.en _ fun d v F1 H1 hd r1 g1 => by
    have e1 := e.go g1
    obtain ⟨v', hv, h1, h2, dx, ws, h3, h4⟩ := e1.en.sl i _ hi
    subst h1
    have hm : p ∈ owns r := mem_owns hi (by simp [own1])
    have nS : C.S ≠ some p := fun z => (e1.en.st p z).2.1 hm
    have li : i < r.length := (List.getElem?_eq_some_iff.mp hi).1
    have oth : ∀ (k : Nat) (y : Sl), r[k]? = some y → k ≠ i → p ∉ own1 y := fun k y hk hne hp => own_key r i k _ y hi hk hne (by simp [own1]) hp e1.en.nd
    have ext : Ext F1 (upd H1 p (.ins (He.ga K c) dx (putF fn v ws))) := fun b o hb => by
      rw [upd_ne (fun z => by rw [z, h2] at hb; cases hb)]
      exact e1.en.ext b o hb
    have ow : ∀ a, a ∈ owns (r.set i (.sf p c (putD fn d fs))) → a ∈ owns r := fun a ha => by
      rcases owns_set1 rfl r i a ha with z | z
      · rw [z]; exact hm
      · exact z
    refine ⟨_, hv, p, _, dx, ws, rfl, h3, hc, hn, by rw [h4.length]; exact hl, q.nx _ _ F1 _ (h d hd) ⟨⟨ext, by rw [List.length_set]; exact e1.en.len, fun k y hk => ?_, owns_set1_nd rfl r i oth e1.en.nd, fun a ha => ?_⟩, ⟨e1.gr.ex, ext, fun b o hS hb => ?_, e1.gr.fresh, fun a ha => ?_⟩, fun a ha => e1.new a (ow a ha)⟩ g1.ex⟩
    · by_cases hki : i = k
      · subst hki
        rw [List.getElem?_set_self li] at hk
        cases hk
        exact ⟨_, hv, rfl, h2, dx, _, upd_same, h4.put r1⟩
      · rw [List.getElem?_set_ne hki] at hk
        obtain ⟨w, hw, ok⟩ := e1.en.sl k y hk
        refine ⟨w, hw, ?_⟩
        cases y with
        | un => trivial
        | im d => exact ok
        | ow a ds' =>
          obtain ⟨q1, q2, us', q3, q4⟩ := ok
          have na : a ≠ p := fun z => oth k _ hk (Ne.symm hki) (by simp [own1, z])
          exact ⟨q1, q2, us', by rw [upd_ne na]; exact q3, q4⟩
        | st => exact ok
        | sf a c fs =>
          obtain ⟨q1, q2, dx, us', q3, q4⟩ := ok
          have na : a ≠ p := fun z => oth k _ hk (Ne.symm hki) (by simp [own1, z])
          exact ⟨q1, q2, dx, us', by rw [upd_ne na]; exact q3, q4⟩
        | mx a ps dss =>
          obtain ⟨q1, q2, q3, q4⟩ := ok
          have na : ∀ b ∈ a :: ps, b ≠ p := fun b hb z => oth k _ hk (Ne.symm hki) (by rw [← z]; exact hb)
          exact ⟨q1, q2, by rw [upd_ne (na a (List.mem_cons_self ..))]; exact q3, q4.map (Ext.refl _) fun b hb hf o ho => ⟨hf, by rw [upd_ne (na b (List.mem_cons_of_mem _ hb))]; exact ho⟩⟩
    · obtain ⟨q1, q2, i', j', q3⟩ := e1.en.st a ha
      have na : a ≠ p := fun z => nS (by rw [ha, z])
      exact ⟨q1, fun z => q2 (ow a z), i', j', by rw [upd_ne na]; exact q3⟩
    · have nb : b ≠ p := fun z => by rw [z, e1.new p hm] at hb; cases hb
      rw [upd_ne nb]
      exact e1.gr.keep b o hS hb
    · have na : a ≠ p := fun z => nS (by rw [ha, z])
      rw [upd_ne na]
      exact e1.gr.st a ha
theorem rs_fldq {p : Addr} {c fn : Str} {fs : List (Str × D)} {tv : TE} (hi : r[i]? = some (.sf p c fs)) (w : RunV K tv r d) (hc : Cls K (He.ga K c)) (hn : NoAttr K (He.ga K c) fn) (hl : fs.length < 1000)
    (h : RunS K tz (r.set i (.sf p c (putD fn d fs))) P) : RunS K (tSeq (sFld K (tVar i) tv fn) tz) r P :=
  rs_seq (fun r' => r' = r.set i (.sf p c (putD fn d fs))) (rs_fld hi w hc hn hl fun x hx => by subst hx; rfl) fun r' e => by subst e; exact h
def entI (n : Nat) (p : Addr) (c : Str) (ds : List D) : En := Sl.sf p c [] :: (ds.map Sl.im ++ List.replicate (n - 1 - ds.length) .un)
/-- an __init__: at its end slot 0 still is the instance in making -/
theorem body_isp {c : Str} {R : List D → (List (Str × D) → Prop) → Prop} {N : List Str} {n : Nat} {vs : List V} {Q : VK} {E : XK} (h : isp K c R vs H Q E) (hn : N.length = n)
    (run : ∀ ds f p, R ds f → RunS K t (entI n p c ds) { nx := fun r => ∃ fs, r[0]? = some (.sf p c fs) ∧ f fs }) (h1 : 0 < n) : t { nx := fun _ H' => Q .non H', rt := Q } (L2.start N vs) H := by
  obtain ⟨F, p, dx, us, ds, f, rfl, ex, nf, hp, rd, hR, k⟩ := h
  have l := rd.length
  have ho : owns (entI n p c ds) = [p] := by
    unfold entI
    show own1 (.sf p c []) ++ owns _ = [p]
    rw [owns_app, owns_im, owns_un]
    rfl
  have hst : L2.start N (V.ref p :: us) = some (V.ref p) :: (us.map some ++ List.replicate (n - 1 - ds.length) none) := by
    unfold L2.start
    rw [List.length_cons, l, hn, List.map_cons, List.cons_append]
    rw [show n - (ds.length + 1) = n - 1 - ds.length by omega]
  rw [hst]
  -- the entry: all but the instance
  have exU : Ext F (fun b => if b = p then none else H b) := fun b o hb => by
    have nb : b ≠ p := fun z => by rw [z, nf] at hb; cases hb
    show (if b = p then none else H b) = some o
    rw [if_neg nb]
    exact ex b o hb
  have grU : Gr none F (fun b => if b = p then none else H b) F H := ⟨Ext.refl F, ex, fun b o _ hb => by
    have hb : (if b = p then none else H b) = some o := hb
    split at hb
    · cases hb
    · exact hb, fun b o hb n => (by rw [n] at hb; cases hb), fun a ha => nomatch ha⟩
  refine run ds f p hR ⟨F, fun b => if b = p then none else H b, none⟩ _ F H _ ⟨⟨ex, ?_, fun i x hi => ?_, by rw [ho]; simp, fun b hb => nomatch hb⟩, grU, fun a ha => ?_⟩ ⟨fun r s F' H' hf e x => ?_, fun _ _ _ _ h => h.elim, fun _ _ _ _ h => h.elim, fun _ _ _ _ h => h.elim, fun _ _ _ _ _ h => h.elim⟩
  · unfold entI
    simp only [List.length_cons, List.length_append, List.length_map, List.length_replicate]
    omega
  · cases i with
    | zero =>
      cases hi
      exact ⟨_, rfl, rfl, nf, dx, [], hp, by unfold RepF; rfl⟩
    | succ i => exact sl_start rd _ i x hi
  · rw [ho] at ha
    have : a = p := by simpa using ha
    subst this
    exact if_pos rfl
  · obtain ⟨fs, h0, hfs⟩ := hf
    obtain ⟨v, _, h2, h3, dx', ws, h4, h5⟩ := e.en.sl 0 _ h0
    refine k fs ws F' H' dx' hfs h5 x e.en.ext h3 (fun b o nb hb => e.gr.keep b o (by simp) (by show (if b = p then none else H b) = some o; rw [if_neg nb]; exact hb)) (fun b o hb n => ?_) h4
    have := e.gr.fresh b o hb n
    have hb2 : (if b = p then none else H b) = none := this
    by_cases z : b = p
    · subst z; rw [h3] at hb; cases hb
    · rw [if_neg z] at hb2; exact hb2
end
end Wk
/-! # WkBs -/
set_option Elab.async false
set_option linter.all false
set_option maxRecDepth 100000
set_option maxHeartbeats 4000000
/-! Rules that the hand layer lacks: enumerate(tuple), zip(tuple, list), any of ints, tuple.index of an int. -/
namespace Wk
open PySem PySem.Spec PyProof.Rows L2

/-! ### enumerate(x), x begun by any rule -/
theorem enumMeets {v : Value} {o : Obj} {G : Heap → Prop} (B : Begins v o G) :
    Meets (Builtin.«enumerate.__new__» ⟨[.type "enumerate", v], []⟩) (fun _ R s => G s.heap ∧ R (.ok (.ret (.ref (s.heap.push o).objs.size)))
      { s with heap := (s.heap.push o).push { cls := .type "enumerate", data := .fields #[.none, .bool false, .ref s.heap.objs.size, rawInt 0, .none, .none] } }) :=
  .of_wp fun prog w A R s h => by
    obtain ⟨hp, g, d, tk, os⟩ := s
    obtain ⟨h1, h⟩ := h
    have hsub := sub_enumerate
    have go : ∀ {A' : Around} {E : Value → Shared → Prop} {Q : Value → Shared → Prop}, Q (.ref hp.objs.size) ⟨hp.push o, g, d, tk, os⟩ → wpAny (model prog w) A' (pyIter v) Q E ⟨hp, g, d, tk, os⟩ :=
      fun q => B.iter prog w _ _ ⟨hp, g, d, tk, os⟩ _ h1 q
    wp_walk
    refine wpAny_stack_any fun st => wpAny_pure ?_
    split
    · rename_i c _ _ _ _ _
      cases (c == Value.type "enumerate")
      · wp_walk using go
        exact ⟨_, rfl, h⟩
      · wp_walk using go
        exact ⟨_, rfl, h⟩
    · wp_walk using go
      exact ⟨_, rfl, h⟩
section
variable {prog : Program} {w : World} {A : Around} {E : Value → Shared → Prop} {s : Shared}
theorem enumCall {v : Value} {o : Obj} {G : Heap → Prop} {Q : Value → Shared → Prop} (B : Begins v o G) (h1 : G s.heap)
    (h : ∀ h', IsEnum h' (s.heap.objs.size + 1) s.heap.objs.size 0 .none → h'.get? s.heap.objs.size = some o → (∀ b u, s.heap.get? b = some u → h'.get? b = some u) → Q (.ref (s.heap.objs.size + 1)) { s with heap := h' }) :
    wpAny (model prog w) A (call (.type "enumerate") [v]) Q E s := by
  refine callType_new F.called_enumerate (by decide) (F.typeCall_enumerate_1 _) (F.newCall_enumerate_1 _) (fun obj => F.args_object_init_2 obj _) F.entry_enumerate_new (enumMeets B) ⟨h1, ?_⟩
  have hz : (s.heap.push o).objs.size = s.heap.objs.size + 1 := Heap.size_push ..
  show _ ∧ _
  rw [hz]
  have he : IsEnum ((s.heap.push o).push { cls := .type "enumerate", data := .fields #[.none, .bool false, .ref s.heap.objs.size, rawInt 0, .none, .none] }) (s.heap.objs.size + 1) s.heap.objs.size 0 .none := by
    have q := Heap.get?_push_size (s.heap.push o) (o := { cls := .type "enumerate", data := .fields #[.none, .bool false, .ref s.heap.objs.size, rawInt 0, .none, .none] }) rfl
    rw [hz] at q
    exact q
  exact ⟨⟨_, he, rfl⟩, h _ he (Heap.get?_push_of_some _ (Heap.get?_push_size _ B.free)) fun b u x => Heap.get?_push_of_some _ (Heap.get?_push_of_some _ x)⟩
end
/-- the tuple at a, each item in a new pair with its place -/
def ItEnT (K : PySem.W.Frag) (a : Addr) : It :=
  ⟨fun i H => ∃ (xs : List V) (x : V), SqT K H a xs ∧ xs[i]? = some x, fun i H v H' => ∃ T x, v = .ref T ∧ H T = none ∧ H' = upd H T (.tup [.int (i : Nat), x]) ∧ ∀ xs, SqT K H a xs → xs[i]? = some x, fun i H => ∃ xs : List V, SqT K H a xs ∧ xs.length ≤ i⟩
theorem turnEnT {P : Program} {w : World} {K : PySem.W.Frag} {elts : List Expr} {kk : Nat} {tpos : Pos} (a e it : Addr) (hei : e ≠ it) (hat : a ≠ it) (hae : a ≠ e) :
    Turn P w K (.Tuple elts kk tpos) (ItEnT K a) [e, it] e (fun i h => (∃ old, IsEnum h e it ((i : Nat) : Int) old) ∧ h.IsTupleIter it a i) where
  mem := by simp
  obj := fun i h st b hb => by
    obtain ⟨⟨old, he⟩, ⟨o, ho, hc, hd⟩⟩ := st
    rcases List.mem_cons.mp hb with z | z
    · rw [z]; exact ⟨_, he, fun v q => nomatch q⟩
    · rw [List.mem_singleton.mp z]; exact ⟨o, ho, fun v q => by rw [hd] at q; cases q⟩
  keep := fun i h h' st k => let ⟨⟨old, he⟩, hi⟩ := st; ⟨⟨old, k e (by simp) _ he⟩, hi.at fun o q => k it (by simp) o q⟩
  item := by
    intro X hP hw hK hc i pins s σ H E I hf st hg
    subst hP hw hK
    obtain ⟨⟨old, he⟩, hit⟩ := st
    obtain ⟨xs, x, hq, hx⟩ := hg
    obtain ⟨its, rv, p, hz⟩ := I.tuple hq
    obtain ⟨u, hu, ru⟩ := rv.get hx
    have Dr := Draws.tuple (prog := X.prog) (w := X.w) (A := X.A.in1) (I.ok.hd hc) it a hat its.toArray
    have W := WalksT.enumFrom 0 Dr e hei (by simp [hei, Ne.symm hae]) (by simp)
    have hlt : i < its.toArray.size := by
      have := (List.getElem?_eq_some_iff.mp hu).1
      simpa using this
    refine W.item i s _ _ hlt ⟨⟨old, by simpa using he⟩, hit, p⟩ fun T vals h' tk hP hT hTv hM hk => ⟨_, rfl, ?_⟩
    refine W.go elts kk tpos i T { s with heap := h', toks := tk } _ _ hM fun h'' hS hk2 => ?_
    obtain ⟨t, y, hy, rfl⟩ := hP
    have ey : y = u := by
      have z : its[i]? = some y := by simpa using hy
      rw [hu] at z
      exact (Option.some.inj z).symm
    subst ey
    have hTn : T ∉ [e, it] := W.apart i T h' hM
    obtain ⟨oT, g1, g2, nT, g3⟩ := hTv
    have hT2 : h''.get? T = some oT := hk2 T oT hTn g1
    have new : ObjOk X.prog X.w (upd H T (.tup [.int (i : Nat), x])) h'' T (.tup [.int (i : Nat), x]) :=
      ⟨by show 2 ≤ sizeLine; decide, [.int (0 + (i : Int)) t, y], .cons ⟨t, by rw [Int.zero_add]⟩ (.cons ru .nil), ⟨oT, hT2, g2, nT, g3⟩⟩
    have I1 : Inv X pins σ (upd H T (.tup [.int (i : Nat), x])) { s with heap := h'', toks := tk } :=
      I.turnedNew (t' := tk) (ch := [e, it]) (fun b ob hb q => hk2 b ob hb (hk b ob hb q)) hf hT new
    obtain ⟨⟨old2, he2⟩, hit2, _⟩ := hS
    refine ⟨.ref T, _, I1, rfl, ⟨T, x, rfl, I.hok.fresh hT, rfl, fun ys hy => by rw [I.tuple_inj hy hq]; exact hx⟩, ⟨⟨old2, by simpa using he2⟩, hit2⟩, fun b hb => ?_⟩
    rw [upd_ne (fun z => hTn (by rw [← z]; exact hb))]
    exact (hf b hb).1
  done := by
    intro X hP hw hK hc i pins s σ H E I hf st hg
    subst hP hw hK
    obtain ⟨⟨old, he⟩, hit⟩ := st
    obtain ⟨xs, hq, hx⟩ := hg
    obtain ⟨its, rv, p, hz⟩ := I.tuple hq
    have hl := rv.length
    have Dr := Draws.tuple (prog := X.prog) (w := X.w) (A := X.A.in1) (I.ok.hd hc) it a hat its.toArray
    have fin : ∀ {Q : Option Value → Shared → Prop}, (∀ h' , (∀ b o, b ∉ [e, it] → s.heap.get? b = some o → h'.get? b = some o) → Q none { s with heap := h' }) → wpAny (model X.prog X.w) X.A (pyNext (.ref e)) Q E s := fun {Q} k => by
      have hT : s.TypeIs (.ref e) "enumerate" := ⟨_, he, rfl⟩
      unfold pyNext
      refine wpAny_bind (wpAny_attempt (wpAny_callSpecial?_slot (name := Str.ofString "__next__") hT F.slot_enumerate_next
        (wpAny_call_entry F.slot_enumerate_next hT F.entry_enumerate_next ?_ (F.args_enumerate_next_1 _))))
      show wpAny _ _ (field (.ref e) 2 >>= _) _ _ _
      refine wpAny_bind (wpAny_field he rfl (x := .ref it) rfl ?_)
      refine wpAny_bind (wpAny_nextOf_tuple_end (I.ok.hd hc) hit p (by simp; omega) fun h' e2 hx2 he2 => ?_)
      obtain ⟨o, ho, hc2⟩ := he2
      refine wpAny_bind (wpAny_isInstance (T := "StopIteration") (b := true) ⟨o, ho, hc2⟩ isSubtype_stop (wpAny_pure (k h' fun b u hb q => hx2 b u (fun z => hb (by simp [z])) q)))
    exact fin fun h' hk => ⟨rfl, I.turnedL (t' := s.toks) (ch := [e, it]) hk hf⟩
  self := fun A i s Q E st h => let ⟨⟨_, he⟩, _⟩ := st; wpAny_pyIter_enum he h
def iEnT (K : PySem.W.Frag) (ta : TA) : TI := fun σ H R => ta σ H fun vs H1 => ∃ a xs, vs = [.ref a] ∧ SqT K H1 a xs ∧ R (ItEnT K a) H1
theorem pi_enT {X : Cx} {e : Expr} {ta : TA} {p pos tpos : Pos} {elts : List Expr} {kk : Nat} (hg : Gl X "enumerate") (hm : X.mg "enumerate" = none) (ha : PA X [e] ta) (hs : starEach [e] X.env = [(false, eval e X.env)] := by rfl) :
    PI X (.Tuple elts kk tpos) (.Call (.Name "enumerate" p) [e] [] pos) (iEnT X.K ta) := by
  refine ⟨fun pins s σ H R I h => Call_ (ld_blt I hg hm boot_enumerate (PyProof.Rows.callWith_type1 (thn (ha.run pos pins s σ H _ I h) fun us s1 ⟨vs, H1, I1, r1, q1⟩ => ?_) hs rfl))⟩
  obtain ⟨a, xs, ex, hq, q⟩ := q1
  subst ex
  obtain rfl := Vals.ref1 r1
  obtain ⟨its, rv, p', hz⟩ := I1.tuple hq
  have pT : s1.heap.IsTuple a its.toArray := p'
  have la : a < s1.heap.objs.size := by obtain ⟨_, g, _⟩ := pT; exact Heap.lt_size g
  refine enumCall (begins_tuple a its.toArray) pT fun h' he hit hk => wpAny_pyIter_enum he ?_
  have I2 : Inv X pins σ H1 { s1 with heap := h' } := I1.kept (t' := s1.toks) hk
  refine ⟨s1.heap.objs.size + 1, [s1.heap.objs.size + 1, s1.heap.objs.size], _, _, H1, rfl, I2, turnEnT a (s1.heap.objs.size + 1) s1.heap.objs.size (Nat.succ_ne_self _) (Nat.ne_of_lt la) (Nat.ne_of_lt (Nat.lt_succ_of_lt la)), ⟨⟨.none, he⟩, _, hit, rfl, rfl⟩, fun b hb => ?_, q⟩
  have hle : s1.heap.objs.size ≤ b := by
    rcases List.mem_cons.mp hb with z | z
    · rw [z]; exact Nat.le_succ _
    · rw [List.mem_singleton.mp z]; exact Nat.le_refl _
  exact I1.fpOk hle (I1.hok.fresh hle)

/-! ### zip(tuple, list) -/
def ItZm (K : PySem.W.Frag) (a b : Addr) : It :=
  ⟨fun i H => ∃ (xs ys : List V) (x y : V), SqT K H a xs ∧ SqL K H b ys ∧ xs[i]? = some x ∧ ys[i]? = some y,
    fun i H v H' => ∃ T x y, v = .ref T ∧ H T = none ∧ H' = upd H T (.tup [x, y]) ∧ (∀ xs, SqT K H a xs → xs[i]? = some x) ∧ ∀ ys, SqL K H b ys → ys[i]? = some y,
    fun i H => ∃ xs ys : List V, SqT K H a xs ∧ SqL K H b ys ∧ i = min xs.length ys.length⟩
theorem turnZm {P : Program} {w : World} {K : PySem.W.Frag} {elts : List Expr} {kk : Nat} {tpos : Pos} {a b z TI TO i1 i2 : Addr} (S : ZipSep2 z TI TO i1 i2 [i1, a] [i2, b]) (ha1 : a ≠ i1) (hb2 : b ≠ i2) :
    Turn P w K (.Tuple elts kk tpos) (ItZm K a b) [z, TI, TO, i1, i2] z (fun i h => IsZip h z TI TO .none ∧ IsTupOf2 h TI (.ref i1) (.ref i2) ∧ (∃ x y, IsTupOf2 h TO x y) ∧ h.IsTupleIter i1 a i ∧ h.IsListIter i2 b i) where
  mem := by simp
  obj := fun i h st c hc => by
    obtain ⟨hz, hTI, ⟨x, y, hTO⟩, ⟨o1, e1, _, d1⟩, ⟨o2, e2, _, d2⟩⟩ := st
    have e' : c = z ∨ c = TI ∨ c = TO ∨ c = i1 ∨ c = i2 := by simpa using hc
    rcases e' with q | q | q | q | q
    · rw [q]; exact ⟨_, hz, fun v q => nomatch q⟩
    · rw [q]; exact ⟨_, hTI, fun v q => nomatch q⟩
    · rw [q]; exact ⟨_, hTO, fun v q => nomatch q⟩
    · rw [q]; exact ⟨o1, e1, fun v q => by rw [d1] at q; cases q⟩
    · rw [q]; exact ⟨o2, e2, fun v q => by rw [d2] at q; cases q⟩
  keep := fun i h h' st k => by
    obtain ⟨hz, hTI, ⟨x, y, hTO⟩, h1, h2⟩ := st
    exact ⟨k z (by simp) _ hz, k TI (by simp) _ hTI, ⟨x, y, k TO (by simp) _ hTO⟩, h1.at fun o q => k i1 (by simp) o q, h2.at fun o q => k i2 (by simp) o q⟩
  item := by
    intro X hP hw hK hc i pins s σ H E I hf st hg
    subst hP hw hK
    obtain ⟨hz, hTI, ⟨x0, y0, hTO⟩, h1, h2⟩ := st
    obtain ⟨xs, ys, x, y, hqx, hqy, hx, hy⟩ := hg
    obtain ⟨its, rv, p, _⟩ := I.tuple hqx
    obtain ⟨its2, rv2, p2, _⟩ := I.list hqy
    obtain ⟨u, hu, ru⟩ := rv.get hx
    obtain ⟨u2, hu2, ru2⟩ := rv2.get hy
    have D1 := Draws.tuple (prog := X.prog) (w := X.w) (A := X.A.in1) (I.ok.hd hc) i1 a ha1 its.toArray
    have D2 := Draws.list (prog := X.prog) (w := X.w) (A := X.A.in1) (I.ok.hd hc) i2 b hb2 its2.toArray
    have W := WalksT.zipD2 S D1 D2
    have hlt : i < min its.toArray.size its2.toArray.size := by
      have q1 := (List.getElem?_eq_some_iff.mp hu).1
      have q2 := (List.getElem?_eq_some_iff.mp hu2).1
      simp only [List.size_toArray]
      omega
    refine W.item i s _ _ hlt ⟨hz, hTI, ⟨x0, y0, hTO⟩, ⟨h1, p⟩, h2, p2.isList⟩ fun T vals h' tk hP hT hTv hM hk => ⟨_, rfl, ?_⟩
    refine W.go elts kk tpos i T { s with heap := h', toks := tk } _ _ hM fun h'' hS hk2 => ?_
    obtain ⟨v1, v2, hv1, hv2, rfl⟩ := hP
    have e1 : v1 = u := by
      have z : its[i]? = some v1 := by simpa using hv1
      rw [hu] at z
      exact (Option.some.inj z).symm
    have e2 : v2 = u2 := by
      have z : its2[i]? = some v2 := by simpa using hv2
      rw [hu2] at z
      exact (Option.some.inj z).symm
    subst e1 e2
    have hTn : T ∉ [z, TO, i1, i2] := W.apart i T h' hM
    have sub5 : ∀ c, c ∈ [z, TO, i1, i2] → c ∈ [z, TI, TO, i1, i2] := fun c hc => by
      simp only [List.mem_cons] at hc ⊢
      rcases hc with h | h | h | h | h
      · exact .inl h
      · exact .inr (.inr (.inl h))
      · exact .inr (.inr (.inr (.inl h)))
      · exact .inr (.inr (.inr (.inr (.inl h))))
      · cases h
    obtain ⟨oT, g1, g2, nT, g3⟩ := hTv
    have hT2 : h''.get? T = some oT := hk2 T oT hTn g1
    have new : ObjOk X.prog X.w (upd H T (.tup [x, y])) h'' T (.tup [x, y]) :=
      ⟨by show 2 ≤ sizeLine; decide, [v1, v2], .cons ru (.cons ru2 .nil), ⟨oT, hT2, g2, nT, g3⟩⟩
    have I1 : Inv X pins σ (upd H T (.tup [x, y])) { s with heap := h'', toks := tk } :=
      I.turnedNew (t' := tk) (ch := [z, TO, i1, i2]) (fun c ob hc q => hk2 c ob hc (hk c ob hc q)) (fun c hc => hf c (sub5 c hc)) hT new
    obtain ⟨z1, z2, z3, ⟨z4, _⟩, z5, _⟩ := hS
    have lt5 : ∀ c, c ∈ [z, TI, TO, i1, i2] → c < s.heap.objs.size := fun c hc => by
      have e' : c = z ∨ c = TI ∨ c = TO ∨ c = i1 ∨ c = i2 := by simpa using hc
      obtain ⟨o1, w1, _⟩ := h1
      obtain ⟨o2, w2, _⟩ := h2
      rcases e' with q | q | q | q | q
      · rw [q]; exact Heap.lt_size hz
      · rw [q]; exact Heap.lt_size hTI
      · rw [q]; exact Heap.lt_size hTO
      · rw [q]; exact Heap.lt_size w1
      · rw [q]; exact Heap.lt_size w2
    refine ⟨.ref T, _, I1, rfl, ⟨T, x, y, rfl, I.hok.fresh hT, rfl, fun l hl => by rw [I.tuple_inj hl hqx]; exact hx, fun l hl => by rw [I.list_inj hl hqy]; exact hy⟩, ⟨z1, z2, z3, z4, z5⟩, fun c hc => ?_⟩
    rw [upd_ne (Nat.ne_of_lt (Nat.lt_of_lt_of_le (lt5 c hc) hT))]
    exact (hf c hc).1
  done := by
    intro X hP hw hK hc i pins s σ H E I hf st hg
    subst hP hw hK
    obtain ⟨hz, hTI, ⟨x0, y0, hTO⟩, h1, h2⟩ := st
    obtain ⟨xs, ys, hqx, hqy, hend⟩ := hg
    obtain ⟨its, rv, p, _⟩ := I.tuple hqx
    obtain ⟨its2, rv2, p2, _⟩ := I.list hqy
    have D1 := Draws.tuple (prog := X.prog) (w := X.w) (A := X.A.in1) (I.ok.hd hc) i1 a ha1 its.toArray
    have D2 := Draws.list (prog := X.prog) (w := X.w) (A := X.A.in1) (I.ok.hd hc) i2 b hb2 its2.toArray
    have W := WalksT.zipD2 S D1 D2
    have l1 := rv.length
    have l2 := rv2.length
    have ei : i = min its.toArray.size its2.toArray.size := by
      simp only [List.size_toArray]
      omega
    subst ei
    refine W.done s _ E ⟨hz, hTI, ⟨x0, y0, hTO⟩, ⟨h1, p⟩, h2, p2.isList⟩ fun h' tk hk => ⟨rfl, I.turnedL (t' := tk) (ch := [z, TI, TO, i1, i2]) (fun c o hcn q => hk c o (fun hm => hcn ?_) q) hf⟩
    simp only [List.mem_cons] at hm ⊢
    rcases hm with h | h | h | h | h
    · exact .inl h
    · exact .inr (.inr (.inl h))
    · exact .inr (.inr (.inr (.inl h)))
    · exact .inr (.inr (.inr (.inr (.inl h))))
    · cases h
  self := fun A i s Q E st h => wpAny_pyIter_zip st.1 h
def iZm (K : PySem.W.Frag) (ta : TA) : TI := fun σ H R => ta σ H fun vs H1 => ∃ a b xs ys, vs = [.ref a, .ref b] ∧ SqT K H1 a xs ∧ SqL K H1 b ys ∧ R (ItZm K a b) H1
theorem pi_zm {X : Cx} {e e2 : Expr} {ta : TA} {p pos tpos : Pos} {elts : List Expr} {kk : Nat} (hg : Gl X "zip") (hm : X.mg "zip" = none) (ha : PA X [e, e2] ta)
    (hs : starEach [e, e2] X.env = (false, eval e X.env) :: starEach [e2] X.env := by rfl) (hpl : (backTo pos (starEach [e2] X.env)).any (·.1) = false := by rfl) : PI X (.Tuple elts kk tpos) (.Call (.Name "zip" p) [e, e2] [] pos) (iZm X.K ta) := by
  refine ⟨fun pins s σ H R I h => Call_ (ld_blt I hg hm PyProof.Rows.boot_zip (PyProof.Rows.callWith_type1 (thn (ha.run pos pins s σ H _ I h) fun us s1 ⟨vs, H1, I1, r1, q1⟩ => ?_) hs hpl))⟩
  obtain ⟨a, b, xs, ys, ex, hqx, hqy, q⟩ := q1
  subst ex
  obtain ⟨u1, u2, rfl, q1, q2⟩ := vals2 r1
  cases (show u1 = Value.ref a from q1)
  cases (show u2 = Value.ref b from q2)
  obtain ⟨its, rv, p1, _⟩ := I1.tuple hqx
  obtain ⟨its2, rv2, p2, _⟩ := I1.list hqy
  have pT : s1.heap.IsTuple a its.toArray := p1
  have la : a < s1.heap.objs.size := by obtain ⟨_, g, _⟩ := pT; exact Heap.lt_size g
  have lb : b < s1.heap.objs.size := p2.lt
  refine zip_begins2 (begins_tuple a its.toArray) (begins_list b its2.toArray) pT p2.isList fun h' hz hTI hTO h1 h2 hsz hk => wpAny_pyIter_zip hz ?_
  have I2 : Inv X pins σ H1 { s1 with heap := h' } := I1.kept (t' := s1.toks) hk
  have S := zip_sep2 (N := s1.heap.objs.size) (fp1 := [a]) (fp2 := [b]) (fun c hc => by rw [List.mem_singleton.mp hc]; exact la) (fun c hc => by rw [List.mem_singleton.mp hc]; exact lb)
  refine ⟨s1.heap.objs.size + 4, [s1.heap.objs.size + 4, s1.heap.objs.size + 2, s1.heap.objs.size + 3, s1.heap.objs.size, s1.heap.objs.size + 1], _, _, H1, rfl, I2, turnZm S (Nat.ne_of_lt la) (Nat.ne_of_lt (Nat.lt_succ_of_lt lb)), ⟨hz, hTI, ⟨_, _, hTO⟩, ⟨_, h1, rfl, rfl⟩, ⟨_, h2, rfl, rfl⟩⟩, fun c hcm => ?_, q⟩
  have e' : c = s1.heap.objs.size + 4 ∨ c = s1.heap.objs.size + 2 ∨ c = s1.heap.objs.size + 3 ∨ c = s1.heap.objs.size ∨ c = s1.heap.objs.size + 1 := by simpa using hcm
  have hle : s1.heap.objs.size ≤ c := by
    rcases e' with z | z | z | z | z <;> rw [z]
    · exact Nat.le_add_right _ _
    · exact Nat.le_add_right _ _
    · exact Nat.le_add_right _ _
    · exact Nat.le_refl _
    · exact Nat.le_add_right _ _
  exact I1.fpOk hle (I1.hok.fresh hle)

/-! ### any of ints -/
theorem plain_ints : ∀ xs : List Int, PyData.plainAll (xs.map PyData.int) = true
  | [] => rfl
  | x :: xs => by
    rw [List.map_cons, PyData.plainAll, plain_ints xs]
    rfl
section
variable {X : Cx} {pins : List (Addr × Obj)} {σ : L2.St} {H : Hp} {s : Shared}
def rAnyI (K : PySem.W.Frag) : List V → Hp → VK → Prop := fun vs H Q => ∃ (a : Addr) (ns : List Int), vs = [V.ref a] ∧ (SqL K H a (ns.map V.int) ∨ SqT K H a (ns.map V.int)) ∧ Q (.bl (ns.any fun n => n != 0)) H
theorem any_tru (ns : List Int) : (ns.map PyData.int).any PyData.truthy = ns.any fun n => n != 0 := by
  rw [List.any_map]
  rfl
theorem cr_anyI (hc : X.calm = true) : CallR X (.builtin "any") (rAnyI X.K) := by
  intro pins s σ H vs us Q I r h
  obtain ⟨a, ns, rfl, hs, q⟩ := h
  rw [Vals.ref1 r]
  have fit : ∀ x ∈ ns.map PyData.int, x.fits63 := fun x hx => by
    obtain ⟨n, _, rfl⟩ := List.mem_map.mp hx
    trivial
  rcases hs with hs | hs
  · obtain ⟨its, rv, hl, _⟩ := I.list hs
    obtain ⟨as, hr⟩ := Dp.readsAll I (ns.map PyData.int) _ its (dp_ints (K := X.K) (F := H) RepL.of_ints) rv
    refine PySem.W.any_list_data (I.ok.hd hc) hl.isList (by simpa using hr) (plain_ints ns) fit fun h' tk hk => ⟨.bl _, H, I.kept (t' := tk) hk, ?_, q⟩
    rw [any_tru] <;> rfl
  · obtain ⟨its, rv, hl, _⟩ := I.tuple hs
    obtain ⟨as, hr⟩ := Dp.readsAll I (ns.map PyData.int) _ its (dp_ints (K := X.K) (F := H) RepL.of_ints) rv
    refine PySem.W.any_tuple_data (I.ok.hd hc) hl (by simpa using hr) (plain_ints ns) fit fun h' tk hk => ⟨.bl _, H, I.kept (t' := tk) hk, ?_, q⟩
    rw [any_tru] <;> rfl

/-! ### t.index(n) of a tuple of ints -/
def rIndexT (K : PySem.W.Frag) : V → List V → Hp → VK → Prop := fun x xs H Q => ∃ (p : Addr) (ys : List Int) (z : Int) (j : Nat), x = .ref p ∧ xs = [.int z] ∧ SqT K H p (ys.map V.int) ∧ ys[j]? = some z ∧ (∀ m, m < j → ys[m]? ≠ some z) ∧ Q (.int (j : Nat)) H
theorem mt_indexT : MtR X "tuple.index" (rIndexT X.K) := by
  intro pins s σ H x xs v us Q I rx rs h
  obtain ⟨p, ys, z, j, rfl, rfl, hq, hy, hno, q⟩ := h
  cases rx
  obtain ⟨u, rfl, t, rfl⟩ := vals1 rs
  obtain ⟨its, r, pl, hz⟩ := I.tuple hq
  obtain ⟨⟨cls, dd, dt, sl⟩, ho, hc, n, hd⟩ := pl
  simp only at hc hd
  subst hc hd
  have hl : its.toArray.size = ys.length := by rw [List.size_toArray, ← r.length, List.length_map]
  have hj : j < its.toArray.size := by rw [hl]; exact (List.getElem?_eq_some_iff.mp hy).1
  have el : ∀ (m : Nat) (hm : m < its.toArray.size), ∃ y t', ys[m]? = some y ∧ its.toArray[m] = Value.int y t' := fun m hm => by
    have hm' : m < ys.length := by rw [← hl]; exact hm
    obtain ⟨w, hw, t', hw'⟩ := r.get (i := m) (x := .int ys[m]) (by simp [hm'])
    refine ⟨ys[m], t', List.getElem?_eq_getElem hm', ?_⟩
    have e := (List.getElem?_eq_some_iff.mp hw).2
    rw [← hw', ← e]
    simp
  refine call_meets PySem.F.slot_tuple_index ⟨_, ho, rfl⟩ PySem.F.entry_tuple_index (PySem.F.args_tuple_index_2 _ _) (TI.tuple_indexAt p its.toArray n dd sl (.int z t) (eqU (.int z)) j hj ?_ ?_)
    ⟨ho, fun w hw => mem_eqAt (x := .int z) ⟨t, rfl⟩ rfl r (flat_ints ys) w (by simpa using hw), ⟨.int (j : Nat), H, I.tok _, ⟨_, rfl⟩, q⟩⟩
  · obtain ⟨y, t', h1, h2⟩ := el j hj
    rw [hy] at h1
    cases h1
    rw [h2]
    show (z == z) = true
    simp
  · intro m hm hmj
    obtain ⟨y, t', h1, h2⟩ := el m hm
    rw [h2]
    show (y == z) = false
    rw [beq_eq_false_iff_ne]
    intro e
    rw [e] at h1
    exact hno m hmj h1
end
/-- a plain tuple: of the written part, or known -/
def tyN (K : PySem.W.Frag) (x : V) (H : Hp) : Prop := match x with
  | .ref p => (∃ o, K.lookup p = some o ∧ o.cls = .type "tuple" ∧ o.dict = none) ∨ ∃ o u, H p = some (.frz o u) ∧ o.cls = .type "tuple" ∧ o.dict = none
  | _ => False
def tBT (K : PySem.W.Frag) (r : V → List V → Hp → VK → Prop) (to : TE) (t : TA) : TE := fun σ H Q => to σ H fun x H1 => tyN K x H1 ∧ t σ H1 fun xs H2 => r x xs H2 Q
section
variable {X : Cx} {o e : Expr} {es : List Expr} {to : TE} {t : TA} {name : Str} {apos cpos : Pos} {id : String} {r : V → List V → Hp → VK → Prop}
theorem pe_bt (slot : Slot "tuple" name id) (hty : typeOf (.builtin id) = pure (.type "method_descriptor")) (hm : MtR X id r) (ho : PE X o to) (ha : PA X (e :: es) t)
    (hbase : attributeBase o name X.env (eval o X.env) = eval o X.env := by rfl)
    (hfew : ((backTo cpos (starEach (e :: es) X.env)).all (fun x => !x.1) && (backToKw cpos (keywordEach [] X.env)).all (fun x => x.1.isSome)
      && decide ((e :: es).length + ([] : List Keyword).length + (if ([] : List Keyword).isEmpty then 0 else 1) < 30)) = true := by rfl)
    (hline : (apos.endLine == cpos.line) = true := by rfl) (hs : starEach (e :: es) X.env = (false, eval e X.env) :: starEach es X.env := by rfl) (hplain : (backTo cpos (starEach es X.env)).any (·.1) = false := by rfl) :
    PE X (.Call (.Attribute o name apos) (e :: es) [] cpos) (tBT X.K r to t) := by
  refine ⟨fun pins s σ H Q I h => ?_⟩
  refine wpAny_Call_method_late hbase hfew hline rfl (thn (ho.run pins s σ H _ I h) fun v s1 ⟨x, H1, I1, r1, ty, q1⟩ => ?_)
  have z : s1.TypeIs v "tuple" ∧ ∀ a, v = .ref a → ∃ ob, s1.heap.get? a = some ob ∧ ob.dict = none := by
    cases x with
    | ref p =>
      cases r1
      rcases ty with ⟨ob, h1, h2, h3⟩ | ⟨ob, u, h1, h2, h3⟩
      · refine ⟨⟨ob, I1.kIn p ob h1, h2⟩, fun a ea => ?_⟩
        cases ea
        exact ⟨ob, I1.kIn _ ob h1, h3⟩
      · obtain ⟨hg, _⟩ := (show ObjOk X.prog X.w H1 s1.heap p (.frz ob u) from I1.hok p _ h1)
        refine ⟨⟨ob, hg, h2⟩, fun a ea => ?_⟩
        cases ea
        exact ⟨ob, hg, h3⟩
    | _ => exact False.elim ty
  refine ⟨"tuple", id, PySem.F.plainAttrs_tuple, slot, hty, z.1, z.2, ?_⟩
  have hA := ha.run cpos pins s1 σ H1 _ I1 q1
  rw [hs] at hA ⊢
  refine Calls.callWith_builtin (by show (false || (backTo cpos (starEach es X.env)).any (·.1)) = false; rw [hplain] <;> rfl) (Calls.evalArgs_plain ?_)
  exact thn hA fun us s2 ⟨vs, H2, I2, r2, q2⟩ => hm pins s2 σ H2 x vs v us Q I2 r1 r2 q2
end
def rTupN (K : PySem.W.Frag) : List V → Hp → VK → Prop := fun xs H Q => ∃ p ys, xs = [V.ref p] ∧ SqL K H p ys ∧ ∀ (l : Addr) (o : Obj), H l = none → o.cls = .type "tuple" → o.dict = none → Q (.ref l) (upd H l (.frz o (.tup ys)))
theorem call_tupN {X : Cx} : CallR X (.type "tuple") (rTupN X.K) := by
  intro pins s σ H xs us Q I r h
  obtain ⟨p, ys, rfl, hq, q⟩ := h
  obtain ⟨u, rfl, rx⟩ := vals1 r
  cases rx
  obtain ⟨its, r', pl, hz⟩ := I.list hq
  have hlen := r'.length
  refine call_tuple_list pl.isList (fun h' kp => ?_) (by simp only [List.size_toArray] <;> omega)
  have I1 : Inv X pins σ H { s with heap := h' } := I.kept (t' := s.toks) kp
  have I2 : Inv X pins σ (upd H h'.objs.size (.frz { cls := .type "tuple", data := .seq its.toArray } (.tup ys))) { s with heap := h'.push { cls := .type "tuple", data := .seq its.toArray } } :=
    I1.laid (t' := s.toks) (fun b o e => Heap.get?_push_of_some _ e) (Nat.le_refl _) (show ObjOk X.prog X.w _ _ _ (.frz _ (.tup ys)) from ⟨Heap.get?_push_size _ rfl, hz, its, r', IsTup.new _ _⟩)
  exact ⟨.ref h'.objs.size, _, I2, rfl, q _ _ (I1.hok.fresh (Nat.le_refl _)) rfl rfl⟩
/-! ### tuple(range(n)) -/
section
variable {K : PySem.W.Frag} {r : En} {ta tb tc te : TE} {f g : D → Prop} {d x y : D} {ds es : List D} {i : Nat} {a b : Bool} {tr : TA} {m n : Int} {xs ys : List Int}
theorem rj_enT (w : RunV K te r (.tup ds)) : RunJ K (iEnT K (tCons te tNil)) r (zipD (rng 0 ds.length) ds) := fun S s F H e Q q => w S s F H e _ fun dd v F1 H1 hd r1 g1 => by
  subst hd
  obtain ⟨a, vs, rfl, h1, h2⟩ := r1.tup
  have hl := h2.length
  have zl : (zipD (rng 0 ds.length) ds).length = ds.length := by
    rw [zip_len]
    unfold rng
    rw [List.length_map, List.length_range]
    omega
  refine ⟨a, vs, rfl, g1.sub.seqT h1, q _ F1 H1 g1 ⟨fun i F2 H2 hi x1 x2 _ => ?_, fun F2 H2 x1 x2 => ⟨vs, x2.seqT (x1.seqT h1), by rw [zl, hl]; exact Nat.le_refl _⟩, fun i d F2 H2 v H3 hd x1 x2 so2 hy => ?_⟩⟩
  · have hv : i < vs.length := by rw [hl]; rw [zl] at hi; exact hi
    exact ⟨vs, vs[i], x2.seqT (x1.seqT h1), by simp [hv]⟩
  · obtain ⟨T, x, rfl, hT, rfl, hy⟩ := hy
    obtain ⟨dx, dy, q1, q2, rfl⟩ := zip_at hd
    obtain ⟨vy, p3, p4⟩ := (h2.mono x1).get q2
    have z2 := hy vs (x2.seqT (x1.seqT h1))
    rw [p3] at z2; cases z2
    have e1 : dx = .int (i : Nat) := by
      unfold rng at q1
      rw [List.getElem?_map] at q1
      cases hq : (List.range ds.length)[i]? with
      | none => rw [hq] at q1; cases q1
      | some k =>
        rw [hq] at q1
        obtain ⟨k1, k2⟩ := List.getElem?_eq_some_iff.mp hq
        rw [List.getElem_range] at k2
        subst k2
        cases q1
        simp
    subst e1
    exact yl_pair x2 so2 hT Rep.mk_int p4
theorem rj_zipM (wa : RunV K ta r (.tup ds)) (wb : RunV K tb r (.lst es)) : RunJ K (iZm K (tCons ta (tCons tb tNil))) r (zipD ds es) := fun S s F H e Q q =>
  wa S s F H e _ fun d1 v1 F1 H1 hd1 r1 g1 => wb S s F1 H1 (e.gr g1) _ fun d2 v2 F2 H2 hd2 r2 g2 => by
    subst hd1 hd2
    have g := g1.trans g2
    obtain ⟨a1, us, rfl, h1, h2⟩ := (r1.mono g2.ex).tup
    obtain ⟨a2, ws, rfl, h3, h4⟩ := r2.lst
    have l1 := h2.length
    have l2 := h4.length
    refine ⟨a1, a2, us, ws, rfl, g.sub.seqT h1, g.sub.seqL h3, q _ F2 H2 g ⟨fun i F3 H3 hi x1 x2 _ => ?_, fun F3 H3 x1 x2 => ?_, fun i d F3 H3 v H4 hd x1 x2 so2 hy => ?_⟩⟩
    · rw [zip_len] at hi
      have hx : i < us.length := by omega
      have hy : i < ws.length := by omega
      exact ⟨us, ws, us[i], ws[i], x2.seqT (x1.seqT h1), x2.seqL (x1.seqL h3), by simp [hx], by simp [hy]⟩
    · rw [zip_len]
      exact ⟨us, ws, x2.seqT (x1.seqT h1), x2.seqL (x1.seqL h3), by rw [l1, l2]⟩
    · obtain ⟨T, x, y, rfl, hT, rfl, f1, f2⟩ := hy
      obtain ⟨dx, dy, q1, q2, rfl⟩ := zip_at hd
      obtain ⟨vx, p1, p2⟩ := (h2.mono x1).get q1
      obtain ⟨vy, p3, p4⟩ := (h4.mono x1).get q2
      have z1 := f1 us (x2.seqT (x1.seqT h1))
      have z2 := f2 ws (x2.seqL (x1.seqL h3))
      rw [p1] at z1; cases z1
      rw [p3] at z2; cases z2
      exact yl_pair x2 so2 hT p2 p4
theorem rv_anyT (wa : RunV K ta r (irow xs)) : RunV K (tCB (rAnyI K) (tCons ta tNil)) r (.bl (xs.any fun n => n != 0)) := fun S s F H e Q q =>
  wa S s F H e _ fun d v F1 H1 hd r1 g1 => by
    subst hd
    obtain ⟨a, vs, rfl, h1, h2⟩ := r1.tup
    have z := h2.ints
    subst z
    exact ⟨a, xs, rfl, .inr (g1.sub.seqT h1), q _ _ F1 H1 rfl Rep.mk_bl g1⟩
theorem rv_anyL (wa : RunL K ta r (xs.map D.int)) : RunV K (tCB (rAnyI K) (tCons ta tNil)) r (.bl (xs.any fun n => n != 0)) := fun S s F H e Q q =>
  wa S s F H e _ fun a vs F1 H1 g1 h1 r1 => by
    have z := r1.ints
    subst z
    exact ⟨a, xs, rfl, .inl (h1 F1 H1 (Gr.refl g1.sub (g1.sok e.sok))), q _ _ F1 H1 rfl Rep.mk_bl g1⟩
theorem rv_idxN {j : Nat} (wa : RunV K ta r (.nrw xs)) (wb : RunV K tb r (.int n)) (hy : xs[j]? = some n) (hno : ∀ m, m < j → xs[m]? ≠ some n) : RunV K (tBT K (rIndexT K) ta (tCons tb tNil)) r (.int (j : Nat)) := fun S s F H e Q q =>
  wa S s F H e _ fun d v F1 H1 hd r1 g1 => by
    subst hd
    obtain ⟨a, o, rfl, h1, h2, h3⟩ := r1.nrw
    refine ⟨.inr ⟨o, _, g1.sub _ _ h1, h2, h3⟩, wb S s F1 H1 (e.gr g1) _ fun d2 v2 F2 H2 hd2 r2 g2 => ?_⟩
    subst hd2
    exact ⟨a, xs, n, j, rfl, by rw [r2.int], .inl (.inr ⟨o, g2.sub _ _ (g2.ex _ _ h1)⟩), hy, hno, q _ _ F2 H2 rfl Rep.mk_int (g1.trans g2)⟩
theorem rv_idxK {j : Nat} {p : Addr} {o : Obj} (hk : K.lookup p = some o) (hc : o.cls = .type "tuple") (hn : o.dict = none) (hs : ∀ H, SqT K H p (xs.map V.int)) (wb : RunV K tb r (.int n)) (hy : xs[j]? = some n) (hno : ∀ m, m < j → xs[m]? ≠ some n) : RunV K (tBT K (rIndexT K) (tC (.ref p)) (tCons tb tNil)) r (.int (j : Nat)) := fun S s F H e Q q => by
  refine ⟨.inl ⟨o, hk, hc, hn⟩, wb S s F H e _ fun d2 v2 F2 H2 hd2 r2 g2 => ?_⟩
  subst hd2
  exact ⟨p, xs, n, j, rfl, by rw [r2.int], hs H2, hy, hno, q _ _ F2 H2 rfl Rep.mk_int g2⟩
theorem re_row (w : RunV K te r (.nrw xs)) : RunV K te r (irow xs) := fun S s F H e Q q => w S s F H e Q fun d v F' H' hd r1 g => by
  subst hd
  exact q _ _ F' H' rfl r1.row g
theorem re_rows {xss : List (List Int)} (w : RunV K te r (.tup (xss.map D.nrw))) : RunV K te r (itab xss) := fun S s F H e Q q => w S s F H e Q fun d v F' H' hd r1 g => by
  subst hd
  obtain ⟨a, vs, rfl, h1, h2⟩ := r1.tup
  exact q _ _ F' H' rfl (Rep.mk_tup h1 h2.rows) g
theorem re_lrows {xss : List (List Int)} (w : RunV K te r (.lst (xss.map D.nrw))) : RunV K te r (ilst xss) := fun S s F H e Q q => w S s F H e Q fun d v F' H' hd r1 g => by
  subst hd
  obtain ⟨a, vs, rfl, h1, h2⟩ := r1.lst'
  exact q _ _ F' H' rfl (Rep.mk_lst h1 h2.rows) g
/-- tuple(list): the new object is known -/
theorem rv_tupN {xs : List Int} (wa : RunL K ta r (xs.map D.int)) : RunV K (tCB (rTupN K) (tCons ta tNil)) r (.nrw xs) := fun S s F H e Q q =>
  wa S s F H e _ fun a vs F1 H1 g1 h1 r1 => by
    have z := r1.ints
    subst z
    refine ⟨a, _, rfl, h1 F1 H1 (Gr.refl g1.sub (g1.sok e.sok)), fun p o hp hc hd => ?_⟩
    exact q _ _ _ _ rfl (Rep.mk_nrw upd_same hc hd) (g1.trans (Gr.new g1.sub (g1.sok e.sok) hp))

/-! ### isinstance -/
/-- the built-in type of a datum -/
def tyD : D → Option String
  | .bl _ => some "bool"
  | .int _ => some "int"
  | .str _ => some "str"
  | .tup _ => some "tuple"
  | .nrw _ => some "tuple"
  | _ => none
theorem ty_of {F H : Hp} {v : V} {T : String} (e : Ext F H) (h : tyD d = some T) (q : Rep K F d v) : TyX K H v (.type T) := by
  cases d with
  | bl b => cases h; rw [q.bl]; exact .base (.bl b)
  | int b => cases h; rw [q.int]; exact .base (.int b)
  | str b => cases h; rw [q.str]; exact .base (.str b)
  | tup b =>
    cases h
    obtain ⟨a, vs, rfl, h1, _⟩ := q.tup
    rcases h1 with (h1 | ⟨o, h1⟩) | ⟨o, its, n, h1, h2, _⟩
    · exact .base (.tup (e _ _ h1))
    · exact .fTuple (e _ _ h1)
    · exact .kTuple h1 h2
  | nrw b =>
    cases h
    obtain ⟨a, o, rfl, h1, _⟩ := q.nrw
    exact .fTuple (e _ _ h1)
  | _ => cases h
theorem rv_isi {T U : String} {b : Bool} (wa : RunV K ta r d) (h : tyD d = some T) (hb : kitB T U = some b) : RunV K (tCB (rIsi K) (tCons ta (tCons (tC (.ty U)) tNil))) r (.bl b) := fun S s F H e Q q =>
  wa S s F H e _ fun d1 v F1 H1 hd r1 g1 => by
    subst hd
    exact ⟨v, .ty U, _, _, b, rfl, .ty U, ty_of g1.sub h r1, kit_ty hb, q _ _ F1 H1 rfl Rep.mk_bl g1⟩
/-- isinstance(x, (list, tuple)) of a tuple -/
theorem rv_isiLT (wa : RunV K ta r d) (h : tyD d = some "tuple") : RunV K (tCB (rIsiT K) (tCons ta (tCons (tTup (tCons (tC (.ty "list")) (tCons (tC (.ty "tuple")) tNil))) tNil))) r (.bl true) := fun S s F H e Q q =>
  wa S s F H e _ fun d1 v F1 H1 hd r1 g1 => ⟨by show 2 ≤ sizeLine; decide, fun p hp => by
    subst hd
    refine ⟨v, p, [.ty "list", .ty "tuple"], .type "tuple", [.type "list", .type "tuple"], true, rfl, upd_same, .cons (.ty _) (.cons (.ty _) .nil), ty_of (g1.sub.trans (Ext.new hp)) h r1, ?_, ?_⟩
    · exact kitAny_cons (b := false) (kit_ty (by decide +kernel)) (fun _ => kitAny_cons (b := true) (kit_ty (by decide +kernel)) (fun z => by cases z) (fun _ => rfl)) (fun z => by cases z)
    · exact q _ _ F1 _ rfl Rep.mk_bl (g1.trans (Gr.track g1.sub (g1.sok e.sok) hp))⟩
/-- an instance of its own class -/
theorem rv_isiO {c : Str} {fs : List (Str × D)} (wa : RunV K ta r (.ins c fs)) (cl : Cls K (He.ga K c)) (ha : PySem.W.findIn K (.ref (He.ga K c)) "__class__" = some (some (.builtin "object.__class__")))
    (hn : PySem.W.specialIn K (.builtin "object.__class__") "__get__" = some (some (.builtin "getset_descriptor.__get__"))) (htk : PySem.W.takesIn K (.builtin "object.__class__") = some true)
    (hm : PySem.W.mroIn K (He.ga K c) (.type "object") = some true) (hk : PySem.W.kitOne K (.ref (He.ga K c)) (.ref (He.ga K c)) = some true) : RunV K (tCB (rIsi K) (tCons ta (tCons (tC (.ref (He.ga K c))) tNil))) r (.bl true) := fun S s F H e Q q =>
  wa S s F H e _ fun d1 v F1 H1 hd r1 g1 => by
    subst hd
    obtain ⟨p, dx, ws, rfl, h1, h2⟩ := r1.ins
    exact ⟨.ref p, .ref (He.ga K c), _, _, true, rfl, .own _, .base (.ins (g1.sub _ _ h1) cl ha hn htk hm), hk, q _ _ F1 H1 rfl Rep.mk_bl g1⟩
theorem ty_lst2 {H : Hp} {p : Addr} {vs : List V} (h : SqL K H p vs) : tyV K "list" (.ref p) H := .inl ⟨rfl, _, h⟩
theorem rv_idxL {j : Nat} (wa : RunL K ta r (xs.map D.int)) (wb : RunV K tb r (.int n)) (hy : xs[j]? = some n) (hno : ∀ m, m < j → xs[m]? ≠ some n) : RunV K (tBM K "list" (rIndex K) ta (tCons tb tNil)) r (.int (j : Nat)) := fun S s F H e Q q =>
  wa S s F H e _ fun a vs F1 H1 g1 h1 r1 => by
    have z := r1.ints
    subst z
    refine ⟨ty_lst2 (h1 F1 H1 (Gr.refl g1.sub (g1.sok e.sok))), wb S s F1 H1 (e.gr g1) _ fun d2 v2 F2 H2 hd2 r2 g2 => ?_⟩
    subst hd2
    have z2 := r2.int
    subst z2
    refine ⟨a, _, .int n, j, .int n, rfl, rfl, h1 F2 H2 g2, rfl, flat_ints _, ?_, ?_, ?_, q _ _ F2 H2 rfl Rep.mk_int (g1.trans g2)⟩
    · rw [List.getElem?_map, hy]
      rfl
    · show (n == n) = true
      simp
    · intro m z' hm hz
      rw [List.getElem?_map] at hz
      cases hq : xs[m]? with
      | none => rw [hq] at hz; cases hz
      | some k =>
        rw [hq] at hz
        cases hz
        show (k == n) = false
        rw [beq_eq_false_iff_ne]
        intro z
        rw [z] at hq
        exact hno m hm hq
end
end Wk
/-! # WkTx -/
set_option Elab.async false
set_option linter.all false
set_option maxRecDepth 100000
set_option maxHeartbeats 4000000
/-! The facts of the top under short names; a def's promise bundled (Cal, Met, Mak). -/
namespace Wk
open PySem PySem.Spec PyProof.Rows L2
structure Tx (K : PySem.W.Frag) (mg : Str → Option Value) (base : Heap) : Prop where
  X : K.In base
  G : base.Ns mainGlobals mg
  c : Says K
/-- a def that may be called by its name -/
structure Cal (P : Program) (w : World) (K : PySem.W.Frag) (mg : Str → Option Value) (base : Heap) (k : Nat) (x : Str) (sp : Sp) : Prop where
  ex : ∃ (f : Addr) (fd : FuncData) (ps : List Str), FnOk P w K mg base CX0 k f fd ps sp ∧ mg x = some (.ref f) ∧ PySem.W.keepIn K (.ref f) = true ∧ Binds K fd ps []
structure Met (P : Program) (w : World) (K : PySem.W.Frag) (mg : Str → Option Value) (base : Heap) (k : Nat) (C : Addr) (m : Str) (sp : Sp) : Prop where
  ex : ∃ (f : Addr) (fd : FuncData) (ps : List Str), Cls K C ∧ Meth K C m f ∧ FnOk P w K mg base CX0 k f fd ps sp ∧ Binds K fd ps []
structure Mak (P : Program) (w : World) (K : PySem.W.Frag) (mg : Str → Option Value) (base : Heap) (k : Nat) (x : Str) (C : Addr) (sp : Sp) : Prop where
  ex : ∃ (f : Addr) (fd : FuncData) (ps : List Str), Mk K C f ∧ FnOk P w K mg base CX0 k f fd ps sp ∧ mg x = some (.ref C) ∧ Binds K fd ps []
section
variable {X : Cx} {k j : Nat} {C : Addr} {x m : Str} {sp : Sp} {p pos apos : Pos} {e o : Expr} {es : List Expr} {ta : TE} {t : TA}
theorem pe_c (c : Cal X.prog X.w X.K X.mg X.base k x sp) (hr : Room j X.A) (hk : k ≤ j) (hg : Gl X x) (ha : PA X (e :: es) t)
    (hdb : (x == ("__debug__" : Str)) = false := by decide) (he : starEach (e :: es) X.env = (false, eval e X.env) :: starEach es X.env := by rfl) (hpl : (backTo pos (starEach es X.env)).any (·.1) = false := by rfl) :
    PE X (.Call (.Name x p) (e :: es) [] pos) (tCall sp [] E0 t) := by
  obtain ⟨f, fd, ps, F, hm, kp, b⟩ := c.ex
  exact pe_call F (hr.mono hk) hg hm kp b .nil pass0 ha hdb he hpl
theorem pe_mk (c : Mak X.prog X.w X.K X.mg X.base k x C sp) (hr : Room j X.A) (hk : k + 1 ≤ j) (hg : Gl X x) (ha : PA X (e :: es) t)
    (hdb : (x == ("__debug__" : Str)) = false := by decide) (he : starEach (e :: es) X.env = (false, eval e X.env) :: starEach es X.env := by rfl) (hpl : (backTo pos (starEach es X.env)).any (·.1) = false := by rfl) :
    PE X (.Call (.Name x p) (e :: es) [] pos) (tMake C sp [] E0 t) := by
  obtain ⟨f, fd, ps, M, F, hm, b⟩ := c.ex
  exact pe_make M F (hr.mono hk) hg hm b .nil pass0 ha hdb he hpl
theorem pe_mt {pl : Sem Bool} (c : Met X.prog X.w X.K X.mg X.base k C m sp) (hr : Room j X.A) (hk : k ≤ j) (he : PE X o ta) (ha : PA X (e :: es) t)
    (hst : starEach (e :: es) X.env = (false, eval e X.env) :: starEach es X.env := by rfl) (hpl : (backTo pos (starEach es X.env)).any (·.1) = false := by rfl)
    (ht : eval (.Call (.Attribute o m apos) (e :: es) [] pos) X.env = (do
      let ov ← eval o X.env
      standAt apos.atName
      let (f, first) ← holding [ov] (getMethod ov m pl)
      callWith pos f first (backTo pos (starEach (e :: es) X.env)) (backToKw pos (keywordEach [] X.env))) := by rfl) :
    PE X (.Call (.Attribute o m apos) (e :: es) [] pos) (tMeth C m sp [] E0 ta t) := by
  obtain ⟨f, fd, ps, hc, hm, F, b⟩ := c.ex
  exact pe_meth (pl := pl) he hc hm F (hr.mono hk) b .nil pass0 ha hst hpl ht
theorem pe_mt0 {pl : Sem Bool} (c : Met X.prog X.w X.K X.mg X.base k C m sp) (hr : Room j X.A) (hk : k ≤ j) (he : PE X o ta)
    (ht : eval (.Call (.Attribute o m apos) [] [] pos) X.env = (do
      let ov ← eval o X.env
      standAt apos.atName
      let (f, first) ← holding [ov] (getMethod ov m pl)
      callWith pos f first (backTo pos (starEach [] X.env)) (backToKw pos (keywordEach [] X.env))) := by rfl) :
    PE X (.Call (.Attribute o m apos) [] [] pos) (tMeth C m sp [] E0 ta tNil) := by
  obtain ⟨f, fd, ps, hc, hm, F, b⟩ := c.ex
  exact pe_meth0 (pl := pl) he hc hm F (hr.mono hk) b .nil pass0 ht
/-- one of two readings -/
def orE (t u : TE) : TE := fun σ H Q => t σ H Q ∨ u σ H Q
theorem pe_or2 {t u : TE} (h1 : PE X e t) (h2 : PE X e u) : PE X e (orE t u) := ⟨fun pins s σ H Q I h => h.elim (h1.run pins s σ H Q I) (h2.run pins s σ H Q I)⟩
def orI (t u : TI) : TI := fun σ H R => t σ H R ∨ u σ H R
theorem pi_or2 {tg : Expr} {t u : TI} (h1 : PI X tg e t) (h2 : PI X tg e u) : PI X tg e (orI t u) := ⟨fun pins s σ H R I h => h.elim (h1.run pins s σ H R I) (h2.run pins s σ H R I)⟩
theorem room65 {A : Around} {k : Nat} (hr : Room k A) : A.units + 65 < cLine := by have := hr.un; omega
end
section
variable {P : Program} {w : World} {K : PySem.W.Frag} {mg : Str → Option Value} {base : Heap} {k : Nat} {x qual m : Str} {params : Arguments} {body : List Stmt} {scope : Scope} {f C : Addr} {N ps : List Str} {sp : Sp}
abbrev BodyOk (P : Program) (w : World) (K : PySem.W.Frag) (mg : Str → Option Value) (base : Heap) (k : Nat) (N : List Str) (qual : Str) (scope : Scope) (f : Addr) (body : List Stmt) (sp : Sp) : Prop :=
  ∀ (cdv : Value) (A : Around) (outer : List Env) (s : Shared) (H : Hp) (vs : List V) (Q : VK) (E : XK), Room k (A.deeper (envOfC qual scope s.heap.objs.size f cdv)) → sp vs H Q E →
      ∃ t, PSs (cxOf CX0 P w K mg base N qual scope f cdv A outer s H E).nox body t ∧ t { nx := fun _ H' => Q .non H', rt := Q } (L2.start N vs) H
abbrev BindOk (x qual : Str) (params : Arguments) (body : List Stmt) (scope : Scope) (ps : List Str) : Prop := ∀ (kV doc pm : Value) (an : Option Addr) (cdv ct : Value) (us : List Value), us.length = ps.length → bindArgs (PySem.W.fnOf x qual params body scope .none kV doc pm an cdv ct) ⟨us, []⟩ = pure (ps.zip us)
theorem cal_of (F : ∃ fd, FunD K x qual params body scope [] [] f fd) (hm : mg x = some (.ref f)) (hb : BindOk x qual params body scope ps) (S : C8.scC N ps scope = true) (len : ∀ vs H Q E, sp vs H Q E → vs.length = ps.length)
    (h : BodyOk P w K mg base k N qual scope f body sp) : Cal P w K mg base (k + 1) x sp := by
  obtain ⟨fd, F⟩ := F
  exact ⟨f, fd, ps, F.ok (C8.fnScope_by S) len (fun cdv A outer s H vs Q E hr hs => let ⟨t, a, b⟩ := h cdv A outer s H vs Q E hr hs; ⟨t, a.nox, b⟩), hm, F.kp, F.bindsN hb⟩
theorem met_of (F : ∃ fd, FunD K m qual params body scope [] [] f fd) (hc : Cls K C) (hm : Meth K C m f) (hb : BindOk m qual params body scope ps) (S : C8.scC N ps scope = true) (len : ∀ vs H Q E, sp vs H Q E → vs.length = ps.length)
    (h : BodyOk P w K mg base k N qual scope f body sp) : Met P w K mg base (k + 1) C m sp := by
  obtain ⟨fd, F⟩ := F
  exact ⟨f, fd, ps, hc, hm, F.ok (C8.fnScope_by S) len (fun cdv A outer s H vs Q E hr hs => let ⟨t, a, b⟩ := h cdv A outer s H vs Q E hr hs; ⟨t, a.nox, b⟩), F.bindsN hb⟩
theorem mak_of (F : ∃ fd, FunD K m qual params body scope [] [] f fd) (hM : Mk K C f) (hg : mg x = some (.ref C)) (hb : BindOk m qual params body scope ps) (S : C8.scC N ps scope = true) (len : ∀ vs H Q E, sp vs H Q E → vs.length = ps.length)
    (h : BodyOk P w K mg base k N qual scope f body sp) : Mak P w K mg base (k + 1) x C sp := by
  obtain ⟨fd, F⟩ := F
  exact ⟨f, fd, ps, hM, F.ok (C8.fnScope_by S) len (fun cdv A outer s H vs Q E hr hs => let ⟨t, a, b⟩ := h cdv A outer s H vs Q E hr hs; ⟨t, a.nox, b⟩), hg, F.bindsN hb⟩
end
theorem psp_len {K : PySem.W.Frag} {R : List D → (D → Prop) → Prop} {n : Nat} (h : ∀ ds f, R ds f → ds.length = n) : ∀ vs H Q E, psp K R vs H Q E → vs.length = n := fun vs H Q E ⟨F, ds, f, _, rd, hR, _⟩ => by rw [rd.length]; exact h ds f hR
theorem fsp_len {K : PySem.W.Frag} {R : List D → (List D → Prop) → Prop} {n : Nat} (h : ∀ ds f, R ds f → ds.length = n) : ∀ vs H Q E, fsp K R vs H Q E → vs.length = n := fun vs H Q E ⟨F, ds, f, _, rd, hR, _⟩ => by rw [rd.length]; exact h ds f hR
theorem ssp_len {K : PySem.W.Frag} {R : List D → (D → Prop) → Prop} {n : Nat} (h : ∀ ds f, R ds f → ds.length + 1 = n) : ∀ vs H Q E, ssp K R vs H Q E → vs.length = n := fun vs H Q E ⟨F, a, us, ds, f, e, _, _, rd, hR, _⟩ => by rw [e, List.length_cons, rd.length]; exact h ds f hR
theorem isp_len {K : PySem.W.Frag} {c : Str} {R : List D → (List (Str × D) → Prop) → Prop} {n : Nat} (h : ∀ ds f, R ds f → ds.length + 1 = n) : ∀ vs H Q E, isp K c R vs H Q E → vs.length = n := fun vs H Q E ⟨F, a, dx, us, ds, f, e, _, _, _, rd, hR, _⟩ => by rw [e, List.length_cons, rd.length]; exact h ds f hR
section
variable {K : PySem.W.Frag} {mg : Str → Option Value} {base : Heap} (T : Tx K mg base)
include T
theorem g_Fault : mg "Fault" = some (.ref (He.ga K "Fault")) := He.glo_ok T.X T.G (T.c.d.fact 0 (f := .glo "Fault"))
theorem g_Malformed : mg "Malformed" = some (.ref (He.ga K "Malformed")) := He.glo_ok T.X T.G (T.c.d.fact 1 (f := .glo "Malformed"))
theorem g_Refused : mg "Refused" = some (.ref (He.ga K "Refused")) := He.glo_ok T.X T.G (T.c.d.fact 2 (f := .glo "Refused"))
theorem g_is_row : mg "is_row" = some (.ref (He.ga K "is_row")) := He.glo_ok T.X T.G (T.c.d.fact 3 (f := .glo "is_row"))
theorem g_is_row_linear : mg "is_row_linear" = some (.ref (He.ga K "is_row_linear")) := He.glo_ok T.X T.G (T.c.d.fact 4 (f := .glo "is_row_linear"))
theorem g_unit_row : mg "unit_row" = some (.ref (He.ga K "unit_row")) := He.glo_ok T.X T.G (T.c.d.fact 5 (f := .glo "unit_row"))
theorem g_add : mg "add" = some (.ref (He.ga K "add")) := He.glo_ok T.X T.G (T.c.d.fact 6 (f := .glo "add"))
theorem g_scaled : mg "scaled" = some (.ref (He.ga K "scaled")) := He.glo_ok T.X T.G (T.c.d.fact 7 (f := .glo "scaled"))
theorem g_dot : mg "dot" = some (.ref (He.ga K "dot")) := He.glo_ok T.X T.G (T.c.d.fact 8 (f := .glo "dot"))
theorem g_combine : mg "combine" = some (.ref (He.ga K "combine")) := He.glo_ok T.X T.G (T.c.d.fact 9 (f := .glo "combine"))
theorem g_cleared : mg "cleared" = some (.ref (He.ga K "cleared")) := He.glo_ok T.X T.G (T.c.d.fact 10 (f := .glo "cleared"))
theorem g_reduced : mg "reduced" = some (.ref (He.ga K "reduced")) := He.glo_ok T.X T.G (T.c.d.fact 11 (f := .glo "reduced"))
theorem g_span : mg "span" = some (.ref (He.ga K "span")) := He.glo_ok T.X T.G (T.c.d.fact 12 (f := .glo "span"))
theorem g_pivots_of : mg "pivots_of" = some (.ref (He.ga K "pivots_of")) := He.glo_ok T.X T.G (T.c.d.fact 13 (f := .glo "pivots_of"))
theorem g_kernel : mg "kernel" = some (.ref (He.ga K "kernel")) := He.glo_ok T.X T.G (T.c.d.fact 14 (f := .glo "kernel"))
theorem g_transposed : mg "transposed" = some (.ref (He.ga K "transposed")) := He.glo_ok T.X T.G (T.c.d.fact 15 (f := .glo "transposed"))
theorem g_relations : mg "relations" = some (.ref (He.ga K "relations")) := He.glo_ok T.X T.G (T.c.d.fact 16 (f := .glo "relations"))
theorem g_solve : mg "solve" = some (.ref (He.ga K "solve")) := He.glo_ok T.X T.G (T.c.d.fact 17 (f := .glo "solve"))
theorem g_rest : mg "rest" = some (.ref (He.ga K "rest")) := He.glo_ok T.X T.G (T.c.d.fact 18 (f := .glo "rest"))
theorem g_holds : mg "holds" = some (.ref (He.ga K "holds")) := He.glo_ok T.X T.G (T.c.d.fact 19 (f := .glo "holds"))
theorem g_complement_rows : mg "complement_rows" = some (.ref (He.ga K "complement_rows")) := He.glo_ok T.X T.G (T.c.d.fact 20 (f := .glo "complement_rows"))
theorem g_moved : mg "moved" = some (.ref (He.ga K "moved")) := He.glo_ok T.X T.G (T.c.d.fact 21 (f := .glo "moved"))
theorem g_times : mg "times" = some (.ref (He.ga K "times")) := He.glo_ok T.X T.G (T.c.d.fact 22 (f := .glo "times"))
theorem g_identity : mg "identity" = some (.ref (He.ga K "identity")) := He.glo_ok T.X T.G (T.c.d.fact 23 (f := .glo "identity"))
theorem g_is_matrix : mg "is_matrix" = some (.ref (He.ga K "is_matrix")) := He.glo_ok T.X T.G (T.c.d.fact 24 (f := .glo "is_matrix"))
theorem g_determinant : mg "determinant" = some (.ref (He.ga K "determinant")) := He.glo_ok T.X T.G (T.c.d.fact 25 (f := .glo "determinant"))
theorem g_matrix_inverse : mg "matrix_inverse" = some (.ref (He.ga K "matrix_inverse")) := He.glo_ok T.X T.G (T.c.d.fact 26 (f := .glo "matrix_inverse"))
theorem g_is_integer : mg "is_integer" = some (.ref (He.ga K "is_integer")) := He.glo_ok T.X T.G (T.c.d.fact 27 (f := .glo "is_integer"))
theorem g_Field : mg "Field" = some (.ref (He.ga K "Field")) := He.glo_ok T.X T.G (T.c.d.fact 28 (f := .glo "Field"))
theorem g_check_kind : mg "check_kind" = some (.ref (He.ga K "check_kind")) := He.glo_ok T.X T.G (T.c.d.fact 29 (f := .glo "check_kind"))
theorem g_taken : mg "taken" = some (.ref (He.ga K "taken")) := He.glo_ok T.X T.G (T.c.d.fact 30 (f := .glo "taken"))
theorem g_has_form : mg "has_form" = some (.ref (He.ga K "has_form")) := He.glo_ok T.X T.G (T.c.d.fact 31 (f := .glo "has_form"))
theorem g_gram_of : mg "gram_of" = some (.ref (He.ga K "gram_of")) := He.glo_ok T.X T.G (T.c.d.fact 32 (f := .glo "gram_of"))
theorem g_Space : mg "Space" = some (.ref (He.ga K "Space")) := He.glo_ok T.X T.G (T.c.d.fact 33 (f := .glo "Space"))
theorem g_keeps : mg "keeps" = some (.ref (He.ga K "keeps")) := He.glo_ok T.X T.G (T.c.d.fact 34 (f := .glo "keeps"))
theorem g_is_isometry : mg "is_isometry" = some (.ref (He.ga K "is_isometry")) := He.glo_ok T.X T.G (T.c.d.fact 35 (f := .glo "is_isometry"))
theorem g_Isometry : mg "Isometry" = some (.ref (He.ga K "Isometry")) := He.glo_ok T.X T.G (T.c.d.fact 36 (f := .glo "Isometry"))
theorem g_is_rows : mg "is_rows" = some (.ref (He.ga K "is_rows")) := He.glo_ok T.X T.G (T.c.d.fact 37 (f := .glo "is_rows"))
theorem g_is_free : mg "is_free" = some (.ref (He.ga K "is_free")) := He.glo_ok T.X T.G (T.c.d.fact 38 (f := .glo "is_free"))
theorem g_is_kept : mg "is_kept" = some (.ref (He.ga K "is_kept")) := He.glo_ok T.X T.G (T.c.d.fact 39 (f := .glo "is_kept"))
theorem g_check : mg "check" = some (.ref (He.ga K "check")) := He.glo_ok T.X T.G (T.c.d.fact 40 (f := .glo "check"))
theorem g_weights_in_radical : mg "weights_in_radical" = some (.ref (He.ga K "weights_in_radical")) := He.glo_ok T.X T.G (T.c.d.fact 41 (f := .glo "weights_in_radical"))
theorem g_extends : mg "extends" = some (.ref (He.ga K "extends")) := He.glo_ok T.X T.G (T.c.d.fact 42 (f := .glo "extends"))
theorem g_barrier : mg "barrier" = some (.ref (He.ga K "barrier")) := He.glo_ok T.X T.G (T.c.d.fact 43 (f := .glo "barrier"))
theorem g_difference : mg "difference" = some (.ref (He.ga K "difference")) := He.glo_ok T.X T.G (T.c.d.fact 44 (f := .glo "difference"))
theorem g_of_images : mg "of_images" = some (.ref (He.ga K "of_images")) := He.glo_ok T.X T.G (T.c.d.fact 45 (f := .glo "of_images"))
theorem g_shifted : mg "shifted" = some (.ref (He.ga K "shifted")) := He.glo_ok T.X T.G (T.c.d.fact 46 (f := .glo "shifted"))
theorem g_step : mg "step" = some (.ref (He.ga K "step")) := He.glo_ok T.X T.G (T.c.d.fact 47 (f := .glo "step"))
theorem g_beyond : mg "beyond" = some (.ref (He.ga K "beyond")) := He.glo_ok T.X T.G (T.c.d.fact 48 (f := .glo "beyond"))
theorem g_gone_on : mg "gone_on" = some (.ref (He.ga K "gone_on")) := He.glo_ok T.X T.G (T.c.d.fact 49 (f := .glo "gone_on"))
theorem g_in_radical : mg "in_radical" = some (.ref (He.ga K "in_radical")) := He.glo_ok T.X T.G (T.c.d.fact 50 (f := .glo "in_radical"))
theorem g_extension : mg "extension" = some (.ref (He.ga K "extension")) := He.glo_ok T.X T.G (T.c.d.fact 51 (f := .glo "extension"))
theorem g__law_state : mg "_law_state" = some (.ref (He.ga K "_law_state")) := He.glo_ok T.X T.G (T.c.d.fact 52 (f := .glo "_law_state"))
theorem g__law_take : mg "_law_take" = some (.ref (He.ga K "_law_take")) := He.glo_ok T.X T.G (T.c.d.fact 53 (f := .glo "_law_take"))
theorem g__law_prime : mg "_law_prime" = some (.ref (He.ga K "_law_prime")) := He.glo_ok T.X T.G (T.c.d.fact 54 (f := .glo "_law_prime"))
theorem g__law_joined : mg "_law_joined" = some (.ref (He.ga K "_law_joined")) := He.glo_ok T.X T.G (T.c.d.fact 55 (f := .glo "_law_joined"))
theorem g__law_field : mg "_law_field" = some (.ref (He.ga K "_law_field")) := He.glo_ok T.X T.G (T.c.d.fact 56 (f := .glo "_law_field"))
theorem g__law_negative : mg "_law_negative" = some (.ref (He.ga K "_law_negative")) := He.glo_ok T.X T.G (T.c.d.fact 57 (f := .glo "_law_negative"))
theorem g__law_bar : mg "_law_bar" = some (.ref (He.ga K "_law_bar")) := He.glo_ok T.X T.G (T.c.d.fact 58 (f := .glo "_law_bar"))
theorem g__law_sum : mg "_law_sum" = some (.ref (He.ga K "_law_sum")) := He.glo_ok T.X T.G (T.c.d.fact 59 (f := .glo "_law_sum"))
theorem g__law_times : mg "_law_times" = some (.ref (He.ga K "_law_times")) := He.glo_ok T.X T.G (T.c.d.fact 60 (f := .glo "_law_times"))
theorem g__law_combined : mg "_law_combined" = some (.ref (He.ga K "_law_combined")) := He.glo_ok T.X T.G (T.c.d.fact 61 (f := .glo "_law_combined"))
theorem g__law_unit : mg "_law_unit" = some (.ref (He.ga K "_law_unit")) := He.glo_ok T.X T.G (T.c.d.fact 62 (f := .glo "_law_unit"))
theorem g__law_rows : mg "_law_rows" = some (.ref (He.ga K "_law_rows")) := He.glo_ok T.X T.G (T.c.d.fact 63 (f := .glo "_law_rows"))
theorem g__law_product : mg "_law_product" = some (.ref (He.ga K "_law_product")) := He.glo_ok T.X T.G (T.c.d.fact 64 (f := .glo "_law_product"))
theorem g__law_value : mg "_law_value" = some (.ref (He.ga K "_law_value")) := He.glo_ok T.X T.G (T.c.d.fact 65 (f := .glo "_law_value"))
theorem g__law_restricted : mg "_law_restricted" = some (.ref (He.ga K "_law_restricted")) := He.glo_ok T.X T.G (T.c.d.fact 66 (f := .glo "_law_restricted"))
theorem g__law_fixed : mg "_law_fixed" = some (.ref (He.ga K "_law_fixed")) := He.glo_ok T.X T.G (T.c.d.fact 67 (f := .glo "_law_fixed"))
theorem g__law_plane : mg "_law_plane" = some (.ref (He.ga K "_law_plane")) := He.glo_ok T.X T.G (T.c.d.fact 68 (f := .glo "_law_plane"))
theorem g__law_pieces : mg "_law_pieces" = some (.ref (He.ga K "_law_pieces")) := He.glo_ok T.X T.G (T.c.d.fact 69 (f := .glo "_law_pieces"))
theorem g__law_basis : mg "_law_basis" = some (.ref (He.ga K "_law_basis")) := He.glo_ok T.X T.G (T.c.d.fact 70 (f := .glo "_law_basis"))
theorem g__law_radical : mg "_law_radical" = some (.ref (He.ga K "_law_radical")) := He.glo_ok T.X T.G (T.c.d.fact 71 (f := .glo "_law_radical"))
theorem g__law_spanned : mg "_law_spanned" = some (.ref (He.ga K "_law_spanned")) := He.glo_ok T.X T.G (T.c.d.fact 72 (f := .glo "_law_spanned"))
theorem g__law_is_free : mg "_law_is_free" = some (.ref (He.ga K "_law_is_free")) := He.glo_ok T.X T.G (T.c.d.fact 73 (f := .glo "_law_is_free"))
theorem g__law_image : mg "_law_image" = some (.ref (He.ga K "_law_image")) := He.glo_ok T.X T.G (T.c.d.fact 74 (f := .glo "_law_image"))
theorem g__law_is_isometry : mg "_law_is_isometry" = some (.ref (He.ga K "_law_is_isometry")) := He.glo_ok T.X T.G (T.c.d.fact 75 (f := .glo "_law_is_isometry"))
theorem g__law_is_matrix : mg "_law_is_matrix" = some (.ref (He.ga K "_law_is_matrix")) := He.glo_ok T.X T.G (T.c.d.fact 76 (f := .glo "_law_is_matrix"))
theorem g__law_space : mg "_law_space" = some (.ref (He.ga K "_law_space")) := He.glo_ok T.X T.G (T.c.d.fact 77 (f := .glo "_law_space"))
theorem g__law_matrices : mg "_law_matrices" = some (.ref (He.ga K "_law_matrices")) := He.glo_ok T.X T.G (T.c.d.fact 78 (f := .glo "_law_matrices"))
theorem g__law_small : mg "_law_small" = some (.ref (He.ga K "_law_small")) := He.glo_ok T.X T.G (T.c.d.fact 79 (f := .glo "_law_small"))
theorem g__law_pairs : mg "_law_pairs" = some (.ref (He.ga K "_law_pairs")) := He.glo_ok T.X T.G (T.c.d.fact 80 (f := .glo "_law_pairs"))
theorem g__law_is_near : mg "_law_is_near" = some (.ref (He.ga K "_law_is_near")) := He.glo_ok T.X T.G (T.c.d.fact 81 (f := .glo "_law_is_near"))
theorem g__law_is_extension : mg "_law_is_extension" = some (.ref (He.ga K "_law_is_extension")) := He.glo_ok T.X T.G (T.c.d.fact 82 (f := .glo "_law_is_extension"))
theorem g__law_bent : mg "_law_bent" = some (.ref (He.ga K "_law_bent")) := He.glo_ok T.X T.G (T.c.d.fact 83 (f := .glo "_law_bent"))
theorem g__law_any_good : mg "_law_any_good" = some (.ref (He.ga K "_law_any_good")) := He.glo_ok T.X T.G (T.c.d.fact 84 (f := .glo "_law_any_good"))
theorem g_law : mg "law" = some (.ref (He.ga K "law")) := He.glo_ok T.X T.G (T.c.d.fact 85 (f := .glo "law"))
theorem b_len : mg "len" = none := He.free_ok T.X T.G (T.c.d.fact 86 (f := .free "len"))
theorem b_tuple : mg "tuple" = none := He.free_ok T.X T.G (T.c.d.fact 87 (f := .free "tuple"))
theorem b_list : mg "list" = none := He.free_ok T.X T.G (T.c.d.fact 88 (f := .free "list"))
theorem b_range : mg "range" = none := He.free_ok T.X T.G (T.c.d.fact 89 (f := .free "range"))
theorem b_zip : mg "zip" = none := He.free_ok T.X T.G (T.c.d.fact 90 (f := .free "zip"))
theorem b_enumerate : mg "enumerate" = none := He.free_ok T.X T.G (T.c.d.fact 91 (f := .free "enumerate"))
theorem b_isinstance : mg "isinstance" = none := He.free_ok T.X T.G (T.c.d.fact 92 (f := .free "isinstance"))
theorem b_int : mg "int" = none := He.free_ok T.X T.G (T.c.d.fact 93 (f := .free "int"))
theorem b_bool : mg "bool" = none := He.free_ok T.X T.G (T.c.d.fact 94 (f := .free "bool"))
theorem b_str : mg "str" = none := He.free_ok T.X T.G (T.c.d.fact 95 (f := .free "str"))
theorem b_any : mg "any" = none := He.free_ok T.X T.G (T.c.d.fact 96 (f := .free "any"))
theorem b_all : mg "all" = none := He.free_ok T.X T.G (T.c.d.fact 97 (f := .free "all"))
theorem b_abs : mg "abs" = none := He.free_ok T.X T.G (T.c.d.fact 98 (f := .free "abs"))
theorem c_Field : Cls K (He.ga K "Field") := He.cls_ok (T.c.d.fact 99 (f := .cls "Field"))
theorem mk_Field : Mk K (He.ga K "Field") (He.ma K (He.ga K "Field") "__init__") := He.mkr_ok (T.c.d.fact 100 (f := .mkr "Field"))
theorem n_Field_q : NoAttr K (He.ga K "Field") "q" := He.noat_ok (T.c.d.fact 101 (f := .noat "Field" "q"))
theorem n_Field_p : NoAttr K (He.ga K "Field") "p" := He.noat_ok (T.c.d.fact 102 (f := .noat "Field" "p"))
theorem m_Field_is_number : Meth K (He.ga K "Field") "is_number" (He.ma K (He.ga K "Field") "is_number") := He.meth_ok (T.c.d.fact 103 (f := .meth "Field" "is_number"))
theorem m_Field_numbers : Meth K (He.ga K "Field") "numbers" (He.ma K (He.ga K "Field") "numbers") := He.meth_ok (T.c.d.fact 104 (f := .meth "Field" "numbers"))
theorem m_Field_joined : Meth K (He.ga K "Field") "joined" (He.ma K (He.ga K "Field") "joined") := He.meth_ok (T.c.d.fact 105 (f := .meth "Field" "joined"))
theorem m_Field_add : Meth K (He.ga K "Field") "add" (He.ma K (He.ga K "Field") "add") := He.meth_ok (T.c.d.fact 106 (f := .meth "Field" "add"))
theorem m_Field_negative : Meth K (He.ga K "Field") "negative" (He.ma K (He.ga K "Field") "negative") := He.meth_ok (T.c.d.fact 107 (f := .meth "Field" "negative"))
theorem m_Field_multiply : Meth K (He.ga K "Field") "multiply" (He.ma K (He.ga K "Field") "multiply") := He.meth_ok (T.c.d.fact 108 (f := .meth "Field" "multiply"))
theorem m_Field_power : Meth K (He.ga K "Field") "power" (He.ma K (He.ga K "Field") "power") := He.meth_ok (T.c.d.fact 109 (f := .meth "Field" "power"))
theorem m_Field_inverse : Meth K (He.ga K "Field") "inverse" (He.ma K (He.ga K "Field") "inverse") := He.meth_ok (T.c.d.fact 110 (f := .meth "Field" "inverse"))
theorem m_Field_mirrored : Meth K (He.ga K "Field") "mirrored" (He.ma K (He.ga K "Field") "mirrored") := He.meth_ok (T.c.d.fact 111 (f := .meth "Field" "mirrored"))
theorem m_Field_squares : Meth K (He.ga K "Field") "squares" (He.ma K (He.ga K "Field") "squares") := He.meth_ok (T.c.d.fact 112 (f := .meth "Field" "squares"))
theorem m_Field_root : Meth K (He.ga K "Field") "root" (He.ma K (He.ga K "Field") "root") := He.meth_ok (T.c.d.fact 113 (f := .meth "Field" "root"))
theorem c_Space : Cls K (He.ga K "Space") := He.cls_ok (T.c.d.fact 114 (f := .cls "Space"))
theorem mk_Space : Mk K (He.ga K "Space") (He.ma K (He.ga K "Space") "__init__") := He.mkr_ok (T.c.d.fact 115 (f := .mkr "Space"))
theorem n_Space_kind : NoAttr K (He.ga K "Space") "kind" := He.noat_ok (T.c.d.fact 116 (f := .noat "Space" "kind"))
theorem n_Space_q : NoAttr K (He.ga K "Space") "q" := He.noat_ok (T.c.d.fact 117 (f := .noat "Space" "q"))
theorem n_Space_n : NoAttr K (He.ga K "Space") "n" := He.noat_ok (T.c.d.fact 118 (f := .noat "Space" "n"))
theorem n_Space_matrix : NoAttr K (He.ga K "Space") "matrix" := He.noat_ok (T.c.d.fact 119 (f := .noat "Space" "matrix"))
theorem n_Space_field : NoAttr K (He.ga K "Space") "field" := He.noat_ok (T.c.d.fact 120 (f := .noat "Space" "field"))
theorem n_Space__gram : NoAttr K (He.ga K "Space") "_gram" := He.noat_ok (T.c.d.fact 121 (f := .noat "Space" "_gram"))
theorem m_Space_is_row : Meth K (He.ga K "Space") "is_row" (He.ma K (He.ga K "Space") "is_row") := He.meth_ok (T.c.d.fact 122 (f := .meth "Space" "is_row"))
theorem m_Space_unit : Meth K (He.ga K "Space") "unit" (He.ma K (He.ga K "Space") "unit") := He.meth_ok (T.c.d.fact 123 (f := .meth "Space" "unit"))
theorem m_Space_facing : Meth K (He.ga K "Space") "facing" (He.ma K (He.ga K "Space") "facing") := He.meth_ok (T.c.d.fact 124 (f := .meth "Space" "facing"))
theorem m_Space_product : Meth K (He.ga K "Space") "product" (He.ma K (He.ga K "Space") "product") := He.meth_ok (T.c.d.fact 125 (f := .meth "Space" "product"))
theorem m_Space_value : Meth K (He.ga K "Space") "value" (He.ma K (He.ga K "Space") "value") := He.meth_ok (T.c.d.fact 126 (f := .meth "Space" "value"))
theorem m_Space_radical : Meth K (He.ga K "Space") "radical" (He.ma K (He.ga K "Space") "radical") := He.meth_ok (T.c.d.fact 127 (f := .meth "Space" "radical"))
theorem m_Space_singular_radical : Meth K (He.ga K "Space") "singular_radical" (He.ma K (He.ga K "Space") "singular_radical") := He.meth_ok (T.c.d.fact 128 (f := .meth "Space" "singular_radical"))
theorem m_Space_perp : Meth K (He.ga K "Space") "perp" (He.ma K (He.ga K "Space") "perp") := He.meth_ok (T.c.d.fact 129 (f := .meth "Space" "perp"))
theorem c_Isometry : Cls K (He.ga K "Isometry") := He.cls_ok (T.c.d.fact 130 (f := .cls "Isometry"))
theorem mk_Isometry : Mk K (He.ga K "Isometry") (He.ma K (He.ga K "Isometry") "__init__") := He.mkr_ok (T.c.d.fact 131 (f := .mkr "Isometry"))
theorem n_Isometry_space : NoAttr K (He.ga K "Isometry") "space" := He.noat_ok (T.c.d.fact 132 (f := .noat "Isometry" "space"))
theorem n_Isometry_matrix : NoAttr K (He.ga K "Isometry") "matrix" := He.noat_ok (T.c.d.fact 133 (f := .noat "Isometry" "matrix"))
theorem i_MOST_space : ∃ t, mg "MOST_space" = some (.int 6 t) := He.int_ok T.X T.G (T.c.d.fact 134 (f := .int "MOST_space" 6))
theorem g_SIZES_field : mg "SIZES_field" = some (.ref (He.ga K "SIZES_field")) := He.glo_ok T.X T.G (T.c.d.fact 135 (f := .glo "SIZES_field"))
theorem g_CHARACTERISTICS : mg "CHARACTERISTICS" = some (.ref (He.ga K "CHARACTERISTICS")) := He.glo_ok T.X T.G (T.c.d.fact 136 (f := .glo "CHARACTERISTICS"))
theorem g_SIZES_space : mg "SIZES_space" = some (.ref (He.ga K "SIZES_space")) := He.glo_ok T.X T.G (T.c.d.fact 137 (f := .glo "SIZES_space"))
theorem g_KINDS : mg "KINDS" = some (.ref (He.ga K "KINDS")) := He.glo_ok T.X T.G (T.c.d.fact 138 (f := .glo "KINDS"))
theorem d_is_row : ∃ fd, FunD K "is_row" "is_row" (defArgs (top 6)) (defBody (top 6)) (defScope (top 6)) [] [] (He.ga K "is_row") fd := T.c.d.def_ 0 (d := mkD "is_row" 6)
theorem d_unit_row : ∃ fd, FunD K "unit_row" "unit_row" (defArgs (top 8)) (defBody (top 8)) (defScope (top 8)) [] [] (He.ga K "unit_row") fd := T.c.d.def_ 1 (d := mkD "unit_row" 8)
theorem d_add : ∃ fd, FunD K "add" "add" (defArgs (top 9)) (defBody (top 9)) (defScope (top 9)) [] [] (He.ga K "add") fd := T.c.d.def_ 2 (d := mkD "add" 9)
theorem d_scaled : ∃ fd, FunD K "scaled" "scaled" (defArgs (top 10)) (defBody (top 10)) (defScope (top 10)) [] [] (He.ga K "scaled") fd := T.c.d.def_ 3 (d := mkD "scaled" 10)
theorem d_dot : ∃ fd, FunD K "dot" "dot" (defArgs (top 11)) (defBody (top 11)) (defScope (top 11)) [] [] (He.ga K "dot") fd := T.c.d.def_ 4 (d := mkD "dot" 11)
theorem d_combine : ∃ fd, FunD K "combine" "combine" (defArgs (top 12)) (defBody (top 12)) (defScope (top 12)) [] [] (He.ga K "combine") fd := T.c.d.def_ 5 (d := mkD "combine" 12)
theorem d_cleared : ∃ fd, FunD K "cleared" "cleared" (defArgs (top 13)) (defBody (top 13)) (defScope (top 13)) [] [] (He.ga K "cleared") fd := T.c.d.def_ 6 (d := mkD "cleared" 13)
theorem d_reduced : ∃ fd, FunD K "reduced" "reduced" (defArgs (top 14)) (defBody (top 14)) (defScope (top 14)) [] [] (He.ga K "reduced") fd := T.c.d.def_ 7 (d := mkD "reduced" 14)
theorem d_span : ∃ fd, FunD K "span" "span" (defArgs (top 15)) (defBody (top 15)) (defScope (top 15)) [] [] (He.ga K "span") fd := T.c.d.def_ 8 (d := mkD "span" 15)
theorem d_pivots_of : ∃ fd, FunD K "pivots_of" "pivots_of" (defArgs (top 16)) (defBody (top 16)) (defScope (top 16)) [] [] (He.ga K "pivots_of") fd := T.c.d.def_ 9 (d := mkD "pivots_of" 16)
theorem d_kernel : ∃ fd, FunD K "kernel" "kernel" (defArgs (top 17)) (defBody (top 17)) (defScope (top 17)) [] [] (He.ga K "kernel") fd := T.c.d.def_ 10 (d := mkD "kernel" 17)
theorem d_transposed : ∃ fd, FunD K "transposed" "transposed" (defArgs (top 18)) (defBody (top 18)) (defScope (top 18)) [] [] (He.ga K "transposed") fd := T.c.d.def_ 11 (d := mkD "transposed" 18)
theorem d_relations : ∃ fd, FunD K "relations" "relations" (defArgs (top 19)) (defBody (top 19)) (defScope (top 19)) [] [] (He.ga K "relations") fd := T.c.d.def_ 12 (d := mkD "relations" 19)
theorem d_solve : ∃ fd, FunD K "solve" "solve" (defArgs (top 20)) (defBody (top 20)) (defScope (top 20)) [] [] (He.ga K "solve") fd := T.c.d.def_ 13 (d := mkD "solve" 20)
theorem d_rest : ∃ fd, FunD K "rest" "rest" (defArgs (top 21)) (defBody (top 21)) (defScope (top 21)) [] [] (He.ga K "rest") fd := T.c.d.def_ 14 (d := mkD "rest" 21)
theorem d_holds : ∃ fd, FunD K "holds" "holds" (defArgs (top 22)) (defBody (top 22)) (defScope (top 22)) [] [] (He.ga K "holds") fd := T.c.d.def_ 15 (d := mkD "holds" 22)
theorem d_complement_rows : ∃ fd, FunD K "complement_rows" "complement_rows" (defArgs (top 23)) (defBody (top 23)) (defScope (top 23)) [] [] (He.ga K "complement_rows") fd := T.c.d.def_ 16 (d := mkD "complement_rows" 23)
theorem d_moved : ∃ fd, FunD K "moved" "moved" (defArgs (top 25)) (defBody (top 25)) (defScope (top 25)) [] [] (He.ga K "moved") fd := T.c.d.def_ 17 (d := mkD "moved" 25)
theorem d_times : ∃ fd, FunD K "times" "times" (defArgs (top 26)) (defBody (top 26)) (defScope (top 26)) [] [] (He.ga K "times") fd := T.c.d.def_ 18 (d := mkD "times" 26)
theorem d_identity : ∃ fd, FunD K "identity" "identity" (defArgs (top 27)) (defBody (top 27)) (defScope (top 27)) [] [] (He.ga K "identity") fd := T.c.d.def_ 19 (d := mkD "identity" 27)
theorem d_is_matrix : ∃ fd, FunD K "is_matrix" "is_matrix" (defArgs (top 28)) (defBody (top 28)) (defScope (top 28)) [] [] (He.ga K "is_matrix") fd := T.c.d.def_ 20 (d := mkD "is_matrix" 28)
theorem d_determinant : ∃ fd, FunD K "determinant" "determinant" (defArgs (top 29)) (defBody (top 29)) (defScope (top 29)) [] [] (He.ga K "determinant") fd := T.c.d.def_ 21 (d := mkD "determinant" 29)
theorem d_matrix_inverse : ∃ fd, FunD K "matrix_inverse" "matrix_inverse" (defArgs (top 30)) (defBody (top 30)) (defScope (top 30)) [] [] (He.ga K "matrix_inverse") fd := T.c.d.def_ 22 (d := mkD "matrix_inverse" 30)
theorem d_is_integer : ∃ fd, FunD K "is_integer" "is_integer" (defArgs (top 32)) (defBody (top 32)) (defScope (top 32)) [] [] (He.ga K "is_integer") fd := T.c.d.def_ 23 (d := mkD "is_integer" 32)
theorem d_check_kind : ∃ fd, FunD K "check_kind" "check_kind" (defArgs (top 41)) (defBody (top 41)) (defScope (top 41)) [] [] (He.ga K "check_kind") fd := T.c.d.def_ 24 (d := mkD "check_kind" 41)
theorem d_taken : ∃ fd, FunD K "taken" "taken" (defArgs (top 42)) (defBody (top 42)) (defScope (top 42)) [] [] (He.ga K "taken") fd := T.c.d.def_ 25 (d := mkD "taken" 42)
theorem d_has_form : ∃ fd, FunD K "has_form" "has_form" (defArgs (top 43)) (defBody (top 43)) (defScope (top 43)) [] [] (He.ga K "has_form") fd := T.c.d.def_ 26 (d := mkD "has_form" 43)
theorem d_gram_of : ∃ fd, FunD K "gram_of" "gram_of" (defArgs (top 44)) (defBody (top 44)) (defScope (top 44)) [] [] (He.ga K "gram_of") fd := T.c.d.def_ 27 (d := mkD "gram_of" 44)
theorem d_keeps : ∃ fd, FunD K "keeps" "keeps" (defArgs (top 48)) (defBody (top 48)) (defScope (top 48)) [] [] (He.ga K "keeps") fd := T.c.d.def_ 28 (d := mkD "keeps" 48)
theorem d_is_isometry : ∃ fd, FunD K "is_isometry" "is_isometry" (defArgs (top 49)) (defBody (top 49)) (defScope (top 49)) [] [] (He.ga K "is_isometry") fd := T.c.d.def_ 29 (d := mkD "is_isometry" 49)
theorem d_is_rows : ∃ fd, FunD K "is_rows" "is_rows" (defArgs (top 52)) (defBody (top 52)) (defScope (top 52)) [] [] (He.ga K "is_rows") fd := T.c.d.def_ 30 (d := mkD "is_rows" 52)
theorem d_is_free : ∃ fd, FunD K "is_free" "is_free" (defArgs (top 53)) (defBody (top 53)) (defScope (top 53)) [] [] (He.ga K "is_free") fd := T.c.d.def_ 31 (d := mkD "is_free" 53)
theorem d_is_kept : ∃ fd, FunD K "is_kept" "is_kept" (defArgs (top 54)) (defBody (top 54)) (defScope (top 54)) [] [] (He.ga K "is_kept") fd := T.c.d.def_ 32 (d := mkD "is_kept" 54)
theorem d_check : ∃ fd, FunD K "check" "check" (defArgs (top 55)) (defBody (top 55)) (defScope (top 55)) [] [] (He.ga K "check") fd := T.c.d.def_ 33 (d := mkD "check" 55)
theorem d_weights_in_radical : ∃ fd, FunD K "weights_in_radical" "weights_in_radical" (defArgs (top 56)) (defBody (top 56)) (defScope (top 56)) [] [] (He.ga K "weights_in_radical") fd := T.c.d.def_ 34 (d := mkD "weights_in_radical" 56)
theorem d_extends : ∃ fd, FunD K "extends" "extends" (defArgs (top 57)) (defBody (top 57)) (defScope (top 57)) [] [] (He.ga K "extends") fd := T.c.d.def_ 35 (d := mkD "extends" 57)
theorem d_barrier : ∃ fd, FunD K "barrier" "barrier" (defArgs (top 58)) (defBody (top 58)) (defScope (top 58)) [] [] (He.ga K "barrier") fd := T.c.d.def_ 36 (d := mkD "barrier" 58)
theorem d_difference : ∃ fd, FunD K "difference" "difference" (defArgs (top 59)) (defBody (top 59)) (defScope (top 59)) [] [] (He.ga K "difference") fd := T.c.d.def_ 37 (d := mkD "difference" 59)
theorem d_of_images : ∃ fd, FunD K "of_images" "of_images" (defArgs (top 60)) (defBody (top 60)) (defScope (top 60)) [] [] (He.ga K "of_images") fd := T.c.d.def_ 38 (d := mkD "of_images" 60)
theorem d_shifted : ∃ fd, FunD K "shifted" "shifted" (defArgs (top 61)) (defBody (top 61)) (defScope (top 61)) [] [] (He.ga K "shifted") fd := T.c.d.def_ 39 (d := mkD "shifted" 61)
theorem d_step : ∃ fd, FunD K "step" "step" (defArgs (top 62)) (defBody (top 62)) (defScope (top 62)) [] [] (He.ga K "step") fd := T.c.d.def_ 40 (d := mkD "step" 62)
theorem d_beyond : ∃ fd, FunD K "beyond" "beyond" (defArgs (top 63)) (defBody (top 63)) (defScope (top 63)) [] [] (He.ga K "beyond") fd := T.c.d.def_ 41 (d := mkD "beyond" 63)
theorem d_gone_on : ∃ fd, FunD K "gone_on" "gone_on" (defArgs (top 64)) (defBody (top 64)) (defScope (top 64)) [] [] (He.ga K "gone_on") fd := T.c.d.def_ 42 (d := mkD "gone_on" 64)
theorem d_in_radical : ∃ fd, FunD K "in_radical" "in_radical" (defArgs (top 65)) (defBody (top 65)) (defScope (top 65)) [] [] (He.ga K "in_radical") fd := T.c.d.def_ 43 (d := mkD "in_radical" 65)
theorem d_extension : ∃ fd, FunD K "extension" "extension" (defArgs (top 66)) (defBody (top 66)) (defScope (top 66)) [] [] (He.ga K "extension") fd := T.c.d.def_ 44 (d := mkD "extension" 66)
theorem d__law_state : ∃ fd, FunD K "_law_state" "_law_state" (defArgs (top 68)) (defBody (top 68)) (defScope (top 68)) [] [] (He.ga K "_law_state") fd := T.c.d.def_ 45 (d := mkD "_law_state" 68)
theorem d__law_take : ∃ fd, FunD K "_law_take" "_law_take" (defArgs (top 69)) (defBody (top 69)) (defScope (top 69)) [] [] (He.ga K "_law_take") fd := T.c.d.def_ 46 (d := mkD "_law_take" 69)
theorem d__law_prime : ∃ fd, FunD K "_law_prime" "_law_prime" (defArgs (top 70)) (defBody (top 70)) (defScope (top 70)) [] [] (He.ga K "_law_prime") fd := T.c.d.def_ 47 (d := mkD "_law_prime" 70)
theorem d__law_joined : ∃ fd, FunD K "_law_joined" "_law_joined" (defArgs (top 71)) (defBody (top 71)) (defScope (top 71)) [] [] (He.ga K "_law_joined") fd := T.c.d.def_ 48 (d := mkD "_law_joined" 71)
theorem d__law_field : ∃ fd, FunD K "_law_field" "_law_field" (defArgs (top 72)) (defBody (top 72)) (defScope (top 72)) [] [] (He.ga K "_law_field") fd := T.c.d.def_ 49 (d := mkD "_law_field" 72)
theorem d__law_negative : ∃ fd, FunD K "_law_negative" "_law_negative" (defArgs (top 73)) (defBody (top 73)) (defScope (top 73)) [] [] (He.ga K "_law_negative") fd := T.c.d.def_ 50 (d := mkD "_law_negative" 73)
theorem d__law_bar : ∃ fd, FunD K "_law_bar" "_law_bar" (defArgs (top 74)) (defBody (top 74)) (defScope (top 74)) [] [] (He.ga K "_law_bar") fd := T.c.d.def_ 51 (d := mkD "_law_bar" 74)
theorem d__law_sum : ∃ fd, FunD K "_law_sum" "_law_sum" (defArgs (top 75)) (defBody (top 75)) (defScope (top 75)) [] [] (He.ga K "_law_sum") fd := T.c.d.def_ 52 (d := mkD "_law_sum" 75)
theorem d__law_times : ∃ fd, FunD K "_law_times" "_law_times" (defArgs (top 76)) (defBody (top 76)) (defScope (top 76)) [] [] (He.ga K "_law_times") fd := T.c.d.def_ 53 (d := mkD "_law_times" 76)
theorem d__law_combined : ∃ fd, FunD K "_law_combined" "_law_combined" (defArgs (top 77)) (defBody (top 77)) (defScope (top 77)) [] [] (He.ga K "_law_combined") fd := T.c.d.def_ 54 (d := mkD "_law_combined" 77)
theorem d__law_unit : ∃ fd, FunD K "_law_unit" "_law_unit" (defArgs (top 78)) (defBody (top 78)) (defScope (top 78)) [] [] (He.ga K "_law_unit") fd := T.c.d.def_ 55 (d := mkD "_law_unit" 78)
theorem d__law_rows : ∃ fd, FunD K "_law_rows" "_law_rows" (defArgs (top 79)) (defBody (top 79)) (defScope (top 79)) [] [] (He.ga K "_law_rows") fd := T.c.d.def_ 56 (d := mkD "_law_rows" 79)
theorem d__law_product : ∃ fd, FunD K "_law_product" "_law_product" (defArgs (top 80)) (defBody (top 80)) (defScope (top 80)) [] [] (He.ga K "_law_product") fd := T.c.d.def_ 57 (d := mkD "_law_product" 80)
theorem d__law_value : ∃ fd, FunD K "_law_value" "_law_value" (defArgs (top 81)) (defBody (top 81)) (defScope (top 81)) [] [] (He.ga K "_law_value") fd := T.c.d.def_ 58 (d := mkD "_law_value" 81)
theorem d__law_restricted : ∃ fd, FunD K "_law_restricted" "_law_restricted" (defArgs (top 82)) (defBody (top 82)) (defScope (top 82)) [] [] (He.ga K "_law_restricted") fd := T.c.d.def_ 59 (d := mkD "_law_restricted" 82)
theorem d__law_fixed : ∃ fd, FunD K "_law_fixed" "_law_fixed" (defArgs (top 83)) (defBody (top 83)) (defScope (top 83)) [] [] (He.ga K "_law_fixed") fd := T.c.d.def_ 60 (d := mkD "_law_fixed" 83)
theorem d__law_plane : ∃ fd, FunD K "_law_plane" "_law_plane" (defArgs (top 84)) (defBody (top 84)) (defScope (top 84)) [] [] (He.ga K "_law_plane") fd := T.c.d.def_ 61 (d := mkD "_law_plane" 84)
theorem d__law_pieces : ∃ fd, FunD K "_law_pieces" "_law_pieces" (defArgs (top 85)) (defBody (top 85)) (defScope (top 85)) [] [] (He.ga K "_law_pieces") fd := T.c.d.def_ 62 (d := mkD "_law_pieces" 85)
theorem d__law_basis : ∃ fd, FunD K "_law_basis" "_law_basis" (defArgs (top 86)) (defBody (top 86)) (defScope (top 86)) [] [] (He.ga K "_law_basis") fd := T.c.d.def_ 63 (d := mkD "_law_basis" 86)
theorem d__law_radical : ∃ fd, FunD K "_law_radical" "_law_radical" (defArgs (top 87)) (defBody (top 87)) (defScope (top 87)) [] [] (He.ga K "_law_radical") fd := T.c.d.def_ 64 (d := mkD "_law_radical" 87)
theorem d__law_spanned : ∃ fd, FunD K "_law_spanned" "_law_spanned" (defArgs (top 88)) (defBody (top 88)) (defScope (top 88)) [] [] (He.ga K "_law_spanned") fd := T.c.d.def_ 65 (d := mkD "_law_spanned" 88)
theorem d__law_is_free : ∃ fd, FunD K "_law_is_free" "_law_is_free" (defArgs (top 89)) (defBody (top 89)) (defScope (top 89)) [] [] (He.ga K "_law_is_free") fd := T.c.d.def_ 66 (d := mkD "_law_is_free" 89)
theorem d__law_image : ∃ fd, FunD K "_law_image" "_law_image" (defArgs (top 90)) (defBody (top 90)) (defScope (top 90)) [] [] (He.ga K "_law_image") fd := T.c.d.def_ 67 (d := mkD "_law_image" 90)
theorem d__law_is_isometry : ∃ fd, FunD K "_law_is_isometry" "_law_is_isometry" (defArgs (top 91)) (defBody (top 91)) (defScope (top 91)) [] [] (He.ga K "_law_is_isometry") fd := T.c.d.def_ 68 (d := mkD "_law_is_isometry" 91)
theorem d__law_is_matrix : ∃ fd, FunD K "_law_is_matrix" "_law_is_matrix" (defArgs (top 92)) (defBody (top 92)) (defScope (top 92)) [] [] (He.ga K "_law_is_matrix") fd := T.c.d.def_ 69 (d := mkD "_law_is_matrix" 92)
theorem d__law_space : ∃ fd, FunD K "_law_space" "_law_space" (defArgs (top 93)) (defBody (top 93)) (defScope (top 93)) [] [] (He.ga K "_law_space") fd := T.c.d.def_ 70 (d := mkD "_law_space" 93)
theorem d__law_matrices : ∃ fd, FunD K "_law_matrices" "_law_matrices" (defArgs (top 94)) (defBody (top 94)) (defScope (top 94)) [] [] (He.ga K "_law_matrices") fd := T.c.d.def_ 71 (d := mkD "_law_matrices" 94)
theorem d__law_small : ∃ fd, FunD K "_law_small" "_law_small" (defArgs (top 95)) (defBody (top 95)) (defScope (top 95)) [] [] (He.ga K "_law_small") fd := T.c.d.def_ 72 (d := mkD "_law_small" 95)
theorem d__law_pairs : ∃ fd, FunD K "_law_pairs" "_law_pairs" (defArgs (top 96)) (defBody (top 96)) (defScope (top 96)) [] [] (He.ga K "_law_pairs") fd := T.c.d.def_ 73 (d := mkD "_law_pairs" 96)
theorem d__law_is_near : ∃ fd, FunD K "_law_is_near" "_law_is_near" (defArgs (top 97)) (defBody (top 97)) (defScope (top 97)) [] [] (He.ga K "_law_is_near") fd := T.c.d.def_ 74 (d := mkD "_law_is_near" 97)
theorem d__law_is_extension : ∃ fd, FunD K "_law_is_extension" "_law_is_extension" (defArgs (top 98)) (defBody (top 98)) (defScope (top 98)) [] [] (He.ga K "_law_is_extension") fd := T.c.d.def_ 75 (d := mkD "_law_is_extension" 98)
theorem d__law_bent : ∃ fd, FunD K "_law_bent" "_law_bent" (defArgs (top 99)) (defBody (top 99)) (defScope (top 99)) [] [] (He.ga K "_law_bent") fd := T.c.d.def_ 76 (d := mkD "_law_bent" 99)
theorem d__law_any_good : ∃ fd, FunD K "_law_any_good" "_law_any_good" (defArgs (top 100)) (defBody (top 100)) (defScope (top 100)) [] [] (He.ga K "_law_any_good") fd := T.c.d.def_ 77 (d := mkD "_law_any_good" 100)
theorem d_law : ∃ fd, FunD K "law" "law" (defArgs (top 101)) (defBody (top 101)) (defScope (top 101)) [] [] (He.ga K "law") fd := T.c.d.def_ 78 (d := mkD "law" 101)
theorem d_Field___init__ : ∃ fd, FunD K "__init__" "Field.__init__" (defArgs (inClass (top 36) 0)) (defBody (inClass (top 36) 0)) (defScope (inClass (top 36) 0)) [] [] (He.ma K (He.ga K "Field") "__init__") fd := T.c.d.def_ 79 (d := mkM "Field" "__init__" "Field.__init__" 36 0)
theorem d_Field_is_number : ∃ fd, FunD K "is_number" "Field.is_number" (defArgs (inClass (top 36) 2)) (defBody (inClass (top 36) 2)) (defScope (inClass (top 36) 2)) [] [] (He.ma K (He.ga K "Field") "is_number") fd := T.c.d.def_ 80 (d := mkM "Field" "is_number" "Field.is_number" 36 2)
theorem d_Field_numbers : ∃ fd, FunD K "numbers" "Field.numbers" (defArgs (inClass (top 36) 3)) (defBody (inClass (top 36) 3)) (defScope (inClass (top 36) 3)) [] [] (He.ma K (He.ga K "Field") "numbers") fd := T.c.d.def_ 81 (d := mkM "Field" "numbers" "Field.numbers" 36 3)
theorem d_Field_joined : ∃ fd, FunD K "joined" "Field.joined" (defArgs (inClass (top 36) 4)) (defBody (inClass (top 36) 4)) (defScope (inClass (top 36) 4)) [] [] (He.ma K (He.ga K "Field") "joined") fd := T.c.d.def_ 82 (d := mkM "Field" "joined" "Field.joined" 36 4)
theorem d_Field_add : ∃ fd, FunD K "add" "Field.add" (defArgs (inClass (top 36) 5)) (defBody (inClass (top 36) 5)) (defScope (inClass (top 36) 5)) [] [] (He.ma K (He.ga K "Field") "add") fd := T.c.d.def_ 83 (d := mkM "Field" "add" "Field.add" 36 5)
theorem d_Field_negative : ∃ fd, FunD K "negative" "Field.negative" (defArgs (inClass (top 36) 6)) (defBody (inClass (top 36) 6)) (defScope (inClass (top 36) 6)) [] [] (He.ma K (He.ga K "Field") "negative") fd := T.c.d.def_ 84 (d := mkM "Field" "negative" "Field.negative" 36 6)
theorem d_Field_multiply : ∃ fd, FunD K "multiply" "Field.multiply" (defArgs (inClass (top 36) 8)) (defBody (inClass (top 36) 8)) (defScope (inClass (top 36) 8)) [] [] (He.ma K (He.ga K "Field") "multiply") fd := T.c.d.def_ 85 (d := mkM "Field" "multiply" "Field.multiply" 36 8)
theorem d_Field_power : ∃ fd, FunD K "power" "Field.power" (defArgs (inClass (top 36) 9)) (defBody (inClass (top 36) 9)) (defScope (inClass (top 36) 9)) [] [] (He.ma K (He.ga K "Field") "power") fd := T.c.d.def_ 86 (d := mkM "Field" "power" "Field.power" 36 9)
theorem d_Field_inverse : ∃ fd, FunD K "inverse" "Field.inverse" (defArgs (inClass (top 36) 10)) (defBody (inClass (top 36) 10)) (defScope (inClass (top 36) 10)) [] [] (He.ma K (He.ga K "Field") "inverse") fd := T.c.d.def_ 87 (d := mkM "Field" "inverse" "Field.inverse" 36 10)
theorem d_Field_mirrored : ∃ fd, FunD K "mirrored" "Field.mirrored" (defArgs (inClass (top 36) 11)) (defBody (inClass (top 36) 11)) (defScope (inClass (top 36) 11)) [] [] (He.ma K (He.ga K "Field") "mirrored") fd := T.c.d.def_ 88 (d := mkM "Field" "mirrored" "Field.mirrored" 36 11)
theorem d_Field_squares : ∃ fd, FunD K "squares" "Field.squares" (defArgs (inClass (top 36) 15)) (defBody (inClass (top 36) 15)) (defScope (inClass (top 36) 15)) [] [] (He.ma K (He.ga K "Field") "squares") fd := T.c.d.def_ 89 (d := mkM "Field" "squares" "Field.squares" 36 15)
theorem d_Field_root : ∃ fd, FunD K "root" "Field.root" (defArgs (inClass (top 36) 17)) (defBody (inClass (top 36) 17)) (defScope (inClass (top 36) 17)) [] [] (He.ma K (He.ga K "Field") "root") fd := T.c.d.def_ 90 (d := mkM "Field" "root" "Field.root" 36 17)
theorem d_Space___init__ : ∃ fd, FunD K "__init__" "Space.__init__" (defArgs (inClass (top 45) 0)) (defBody (inClass (top 45) 0)) (defScope (inClass (top 45) 0)) [] [] (He.ma K (He.ga K "Space") "__init__") fd := T.c.d.def_ 91 (d := mkM "Space" "__init__" "Space.__init__" 45 0)
theorem d_Space_is_row : ∃ fd, FunD K "is_row" "Space.is_row" (defArgs (inClass (top 45) 3)) (defBody (inClass (top 45) 3)) (defScope (inClass (top 45) 3)) [] [] (He.ma K (He.ga K "Space") "is_row") fd := T.c.d.def_ 92 (d := mkM "Space" "is_row" "Space.is_row" 45 3)
theorem d_Space_unit : ∃ fd, FunD K "unit" "Space.unit" (defArgs (inClass (top 45) 5)) (defBody (inClass (top 45) 5)) (defScope (inClass (top 45) 5)) [] [] (He.ma K (He.ga K "Space") "unit") fd := T.c.d.def_ 93 (d := mkM "Space" "unit" "Space.unit" 45 5)
theorem d_Space_facing : ∃ fd, FunD K "facing" "Space.facing" (defArgs (inClass (top 45) 8)) (defBody (inClass (top 45) 8)) (defScope (inClass (top 45) 8)) [] [] (He.ma K (He.ga K "Space") "facing") fd := T.c.d.def_ 94 (d := mkM "Space" "facing" "Space.facing" 45 8)
theorem d_Space_product : ∃ fd, FunD K "product" "Space.product" (defArgs (inClass (top 45) 9)) (defBody (inClass (top 45) 9)) (defScope (inClass (top 45) 9)) [] [] (He.ma K (He.ga K "Space") "product") fd := T.c.d.def_ 95 (d := mkM "Space" "product" "Space.product" 45 9)
theorem d_Space_value : ∃ fd, FunD K "value" "Space.value" (defArgs (inClass (top 45) 10)) (defBody (inClass (top 45) 10)) (defScope (inClass (top 45) 10)) [] [] (He.ma K (He.ga K "Space") "value") fd := T.c.d.def_ 96 (d := mkM "Space" "value" "Space.value" 45 10)
theorem d_Space_radical : ∃ fd, FunD K "radical" "Space.radical" (defArgs (inClass (top 45) 11)) (defBody (inClass (top 45) 11)) (defScope (inClass (top 45) 11)) [] [] (He.ma K (He.ga K "Space") "radical") fd := T.c.d.def_ 97 (d := mkM "Space" "radical" "Space.radical" 45 11)
theorem d_Space_singular_radical : ∃ fd, FunD K "singular_radical" "Space.singular_radical" (defArgs (inClass (top 45) 12)) (defBody (inClass (top 45) 12)) (defScope (inClass (top 45) 12)) [] [] (He.ma K (He.ga K "Space") "singular_radical") fd := T.c.d.def_ 98 (d := mkM "Space" "singular_radical" "Space.singular_radical" 45 12)
theorem d_Space_perp : ∃ fd, FunD K "perp" "Space.perp" (defArgs (inClass (top 45) 13)) (defBody (inClass (top 45) 13)) (defScope (inClass (top 45) 13)) [] [] (He.ma K (He.ga K "Space") "perp") fd := T.c.d.def_ 99 (d := mkM "Space" "perp" "Space.perp" 45 13)
theorem d_Isometry___init__ : ∃ fd, FunD K "__init__" "Isometry.__init__" (defArgs (inClass (top 50) 0)) (defBody (inClass (top 50) 0)) (defScope (inClass (top 50) 0)) [] [] (He.ma K (He.ga K "Isometry") "__init__") fd := T.c.d.def_ 100 (d := mkM "Isometry" "__init__" "Isometry.__init__" 50 0)
theorem ex_all : exB K = true := T.c.ex
end
end Wk
/-! # WkTy -/
set_option Elab.async false
set_option linter.all false
set_option maxRecDepth 100000
set_option maxHeartbeats 4000000
/-! Rows, tables, fields and spaces as data; loops that fold; rules for them. -/
namespace Wk
open PySem PySem.Spec PyProof.Rows L2
section
variable {F : Fd} {n : Nat}
abbrev nD (k : Nat) : D := .int (k : Int)
abbrev elD (a : El F) : D := .int (a.v : Int)
def rowI (v : Row F n) : List Int := (List.finRange n).map fun i => ((v i).v : Int)
abbrev rowD (v : Row F n) : D := irow (rowI v)
abbrev nrwD (v : Row F n) : D := .nrw (rowI v)
abbrev tabD (l : List (Row F n)) : D := .tup (l.map rowD)
abbrev tabN (l : List (Row F n)) : D := .tup (l.map nrwD)
abbrev lstD (l : List (Row F n)) : D := .lst (l.map rowD)
abbrev lstN (l : List (Row F n)) : D := .lst (l.map nrwD)
/-- a list or a tuple -/
def seqD (b : Bool) (ds : List D) : D := if b then .tup ds else .lst ds
abbrev fldD (F : Fd) : D := .ins "Field" [("q", nD F.q), ("p", nD F.p)]
def Kd.str : Kd → Str
  | .alt => "alternating"
  | .quad => "quadratic"
  | .herm => "hermitian"
def matL (m : Fin n → Row F n) : List (Row F n) := (List.finRange n).map m
abbrev spcD (S : Spc) : D := .ins "Space" [("kind", .str S.kind.str), ("q", nD S.F.q), ("n", nD S.n), ("matrix", tabD (matL S.mat)), ("field", fldD S.F), ("_gram", tabD (matL S.gram))]
theorem rowI_len (v : Row F n) : (rowI v).length = n := by unfold rowI; simp
theorem rowI_at (v : Row F n) (i : Fin n) : (rowI v)[i.val]? = some ((v i).v : Int) := by
  unfold rowI
  rw [List.getElem?_map, List.getElem?_eq_getElem (by simp)]
  simp
theorem row_at (v : Row F n) (i : Fin n) : ((rowI v).map D.int)[i.val]? = some (elD (v i)) := by
  rw [List.getElem?_map, rowI_at]
  rfl
theorem row_map (v : Row F n) : (rowI v).map D.int = (List.finRange n).map fun i => elD (v i) := by
  unfold rowI
  rw [List.map_map]
  rfl
theorem rowI_inj {v w : Row F n} (h : rowI v = rowI w) : v = w := by
  funext i
  have h1 := rowI_at v i
  rw [h, rowI_at w i] at h1
  have h2 := Option.some.inj h1
  exact El.ext (by omega)
theorem rowI_eq {v w : Row F n} : decide (rowI v = rowI w) = decide (v = w) := by
  by_cases h : v = w
  · subst h; simp
  · rw [decide_eq_false h, decide_eq_false fun z => h (rowI_inj z)]
theorem rowsI_mem {v : Row F n} {l : List (Row F n)} : decide (rowI v ∈ l.map rowI) = decide (v ∈ l) := by
  by_cases h : v ∈ l
  · rw [decide_eq_true h, decide_eq_true (List.mem_map.mpr ⟨v, h, rfl⟩)]
  · rw [decide_eq_false h, decide_eq_false]
    rintro z
    obtain ⟨w, hw, e⟩ := List.mem_map.mp z
    rw [rowI_inj e] at hw
    exact h hw
theorem tab_map (l : List (Row F n)) : l.map rowD = (l.map rowI).map fun xs => irow xs := by rw [List.map_map]; rfl
theorem tabN_map (l : List (Row F n)) : l.map nrwD = (l.map rowI).map D.nrw := by rw [List.map_map]; rfl
theorem tab_at {l : List (Row F n)} {k : Nat} {v : Row F n} (h : l[k]? = some v) : (l.map rowD)[k]? = some (rowD v) := by rw [List.getElem?_map, h]; rfl
theorem mat_at (m : Fin n → Row F n) (i : Fin n) : (matL m)[i.val]? = some (m i) := by
  unfold matL
  rw [List.getElem?_map, List.getElem?_eq_getElem (by simp)]
  simp
theorem mat_len (m : Fin n → Row F n) : (matL m).length = n := by unfold matL; simp
theorem el_eq {a b : El F} : decide ((a.v : Int) = (b.v : Int)) = decide (a = b) := by
  by_cases h : a = b
  · subst h; simp
  · rw [decide_eq_false h, decide_eq_false]
    intro z
    exact h (El.ext (by omega))
theorem el0 : ((0 : El F).v : Int) = 0 := rfl
theorem el1 : ((1 : El F).v : Int) = 1 := rfl
theorem el_is0 {a : El F} : decide ((a.v : Int) = 0) = decide (a = 0) := el_eq (b := 0)
theorem el_is1 {a : El F} : decide ((a.v : Int) = 1) = decide (a = 1) := el_eq (b := 1)
theorem rng_fin (n : Nat) : rng 0 n = (List.finRange n).map fun i => nD i.val := by
  unfold rng
  apply List.ext_getElem
  · simp
  · intro i h1 h2
    simp
theorem nrows_tab {K : PySem.W.Frag} {r : En} {te : TE} {l : List (Row F n)} (w : RunV K te r (tabN l)) : RunV K te r (tabD l) := by
  have h := re_rows (xss := l.map rowI) (w.is (congrArg D.tup (tabN_map l)))
  exact h.is (congrArg D.tup (tab_map l).symm)
theorem nrow_row {K : PySem.W.Frag} {r : En} {te : TE} {v : Row F n} (w : RunV K te r (nrwD v)) : RunV K te r (rowD v) := re_row w
theorem nrows_lst {K : PySem.W.Frag} {r : En} {te : TE} {l : List (Row F n)} (w : RunV K te r (lstN l)) : RunV K te r (lstD l) := by
  have h := re_lrows (xss := l.map rowI) (w.is (congrArg D.lst (tabN_map l)))
  exact h.is (congrArg D.lst (tab_map l).symm)
end
/-! ### weaker slots -/
def LeE : En → En → Prop
  | [], [] => True
  | x :: r, y :: e => (y = x ∨ y = .un) ∧ LeE r e
  | _, _ => False
theorem LeE.refl : ∀ r : En, LeE r r
  | [] => trivial
  | _ :: r => ⟨.inl rfl, LeE.refl r⟩
theorem LeE.at : ∀ {r e : En} {i : Nat} {x : Sl}, LeE r e → e[i]? = some x → r[i]? = some x ∨ (x = .un ∧ ∃ y, r[i]? = some y)
  | [], [], _, _, _, h => by simp at h
  | y :: r, z :: e, 0, x, ⟨h, _⟩, g => by
    have g : z = x := by simpa using g
    subst g
    rcases h with h | h
    · exact .inl (by rw [h]; rfl)
    · exact .inr ⟨h, y, rfl⟩
  | y :: r, z :: e, i + 1, x, ⟨_, h⟩, g => LeE.at (i := i) h (by simpa using g)
theorem LeE.len : ∀ {r e : En}, LeE r e → e.length = r.length
  | [], [], _ => rfl
  | _ :: _, _ :: _, ⟨_, h⟩ => congrArg Nat.succ (LeE.len h)
theorem LeE.own : ∀ {r e : En}, LeE r e → ∀ a, a ∈ owns e → a ∈ owns r
  | [], [], _, a, h => h
  | x :: r, y :: e, ⟨g, t⟩, a, h => by
    unfold owns at h ⊢
    rw [List.flatMap_cons] at h ⊢
    rcases List.mem_append.mp h with h | h
    · rcases g with g | g
      · exact List.mem_append_left _ (by rw [← g]; exact h)
      · rw [g] at h; cases h
    · exact List.mem_append_right _ (LeE.own t a h)
theorem LeE.nd : ∀ {r e : En}, LeE r e → (owns r).Nodup → (owns e).Nodup
  | [], [], _, h => h
  | x :: r, y :: e, ⟨g, t⟩, h => by
    unfold owns at h ⊢
    rw [List.flatMap_cons] at h ⊢
    obtain ⟨h1, h2, h3⟩ := List.nodup_append.mp h
    rcases g with g | g
    · exact List.nodup_append.mpr ⟨by rw [g]; exact h1, LeE.nd t h2, fun a ha b hb => h3 a (by rw [← g]; exact ha) b (LeE.own t b hb)⟩
    · rw [g]
      exact LeE.nd t h2
section
variable {K : PySem.W.Frag} {S : Option Addr} {r e : En} {s : L2.St} {F H : Hp}
theorem EnOk.weak (o : EnOk K S r s F H) (h : LeE r e) : EnOk K S e s F H := by
  refine ⟨o.ext, h.len.trans o.len, fun i x hi => ?_, h.nd o.nd, fun a ha => ?_⟩
  · rcases h.at hi with z | ⟨z, y, hy⟩
    · exact o.sl i x z
    · obtain ⟨v, hv, _⟩ := o.sl i y hy
      subst z
      exact ⟨v, hv, trivial⟩
  · obtain ⟨h1, h2, h3⟩ := o.st a ha
    exact ⟨h1, fun z => h2 (h.own a z), h3⟩
theorem EnC.weak {C : Cn} (o : EnC K C r s F H) (h : LeE r e) : EnC K C e s F H := ⟨o.en.weak h, o.gr, fun a ha => o.new a (h.own a ha)⟩
theorem rs_weak {t : TS} {P : Po} (h : LeE r e) (w : RunS K t e P) : RunS K t r P := fun C s F H Dn o q => w C s F H Dn (o.weak h) q
end
/-! ### loops that fold -/
section
variable {K : PySem.W.Frag} {r : En} {t tz : TS} {P : Po} {wi : TI} {gt : TG} {js : List Nat}
theorem rs_forF {A St : Type} {l : List A} {sx : A → D} (f : St → A → St) (p : A → Prop) (e : St → En) (s0 : St) (hw : RunJ K wi r (l.map sx)) (h0 : LeE r (e s0))
    (step : ∀ pre a post, l = pre ++ a :: post → (∀ b ∈ pre, p b) → ∃ r1, RunG K gt (e (pre.foldl f s0)) (sx a) js r1 ∧ (∀ x, x ∈ owns r1 → x ∈ owns (e (pre.foldl f s0))) ∧
      RunS K t r1 { P with nx := fun r2 => p a ∧ LeE r2 (e (f (pre.foldl f s0) a)), ct := fun r2 => p a ∧ LeE r2 (e (f (pre.foldl f s0) a)), bk := fun _ => False })
    (hd : (∀ a ∈ l, p a) → RunS K tz (e (l.foldl f s0)) P) : RunS K (tSeq (tFor wi gt t) tz) r P :=
  rs_seq (fun r' => (∀ a ∈ l, p a) ∧ LeE r' (e (l.foldl f s0)))
    (rs_for hw (fun i r' => (∀ a ∈ l.take i, p a) ∧ LeE r' (e ((l.take i).foldl f s0))) ⟨fun a ha => by simp at ha, by simpa using h0⟩ (fun i r' d hd' ⟨hp, hle⟩ => by
      rw [List.getElem?_map] at hd'
      cases hq : l[i]? with
      | none => rw [hq] at hd'; cases hd'
      | some a =>
        rw [hq] at hd'
        cases hd'
        obtain ⟨hi, ha⟩ := List.getElem?_eq_some_iff.mp hq
        have el : l = l.take i ++ a :: l.drop (i + 1) := by
          rw [← ha, ← List.drop_eq_getElem_cons hi, List.take_append_drop]
        have et : l.take (i + 1) = l.take i ++ [a] := by rw [List.take_add_one, hq]; rfl
        obtain ⟨r1, h1, h2, h3⟩ := step _ a _ el hp
        refine ⟨r1, fun S s F H v en rd Q q => h1 S s F H v (en.weak hle) rd Q q, fun x hx => hle.own x (h2 x hx), h3.imp (fun r2 ⟨z1, z2⟩ => ?_) (fun _ h => h) (fun _ h => h) (fun _ h => h.elim) (fun r2 ⟨z1, z2⟩ => ?_)⟩
        · refine ⟨fun b hb => ?_, by rw [et, List.foldl_append]; exact z2⟩
          rw [et] at hb
          rcases List.mem_append.mp hb with hb | hb
          · exact hp b hb
          · rw [List.mem_singleton.mp hb]; exact z1
        · refine ⟨fun b hb => ?_, by rw [et, List.foldl_append]; exact z2⟩
          rw [et] at hb
          rcases List.mem_append.mp hb with hb | hb
          · exact hp b hb
          · rw [List.mem_singleton.mp hb]; exact z1)
      (fun r' ⟨hp, hle⟩ => by rw [List.length_map, List.take_length] at hp hle; exact ⟨hp, hle⟩))
    fun r' ⟨hp, hle⟩ => rs_weak hle (hd hp)
/-- the same at the end of a block -/
theorem rs_forF1 {A St : Type} {l : List A} {sx : A → D} (f : St → A → St) (p : A → Prop) (e : St → En) (s0 : St) (hw : RunJ K wi r (l.map sx)) (h0 : LeE r (e s0))
    (step : ∀ pre a post, l = pre ++ a :: post → (∀ b ∈ pre, p b) → ∃ r1, RunG K gt (e (pre.foldl f s0)) (sx a) js r1 ∧ (∀ x, x ∈ owns r1 → x ∈ owns (e (pre.foldl f s0))) ∧
      RunS K t r1 { P with nx := fun r2 => p a ∧ LeE r2 (e (f (pre.foldl f s0) a)), ct := fun r2 => p a ∧ LeE r2 (e (f (pre.foldl f s0) a)), bk := fun _ => False })
    (hd : (∀ a ∈ l, p a) → P.nx (e (l.foldl f s0))) : RunS K (tFor wi gt t) r P := fun C s F H Dn o q =>
  rs_forF (tz := tNext) f p e s0 hw h0 step (fun h => rs_next (hd h)) C s F H Dn o q
end
/-! ### rows walked, made, read -/
section
variable {K : PySem.W.Frag} {r : En} {ta tb te : TE} {F : Fd} {n : Nat} {v w : Row F n} {l : List (Row F n)}
theorem rj_row (h : RunV K te r (rowD v)) : RunJ K (iTup K te) r ((List.finRange n).map fun i => elD (v i)) := by
  rw [← row_map]
  exact rj_tup h
theorem rj_rng {k : Int} (h : RunV K te r (.int k)) (hk : k = (n : Int)) (hn : n ≤ 1000000) : RunJ K (iRng1 (tCons te tNil)) r ((List.finRange n).map fun i => nD i.val) := by
  rw [← rng_fin]
  exact rj_rng1 h hk hn
theorem zipD_map {A : Type} (l : List A) (f g : A → D) : zipD (l.map f) (l.map g) = l.map fun a => .tup [f a, g a] := by
  unfold zipD
  induction l with
  | nil => rfl
  | cons a l ih => simp only [List.map_cons, List.zip_cons_cons, ih]
theorem rj_zipR (h1 : RunV K ta r (rowD v)) (h2 : RunV K tb r (rowD w)) : RunJ K (RZ.iZipA K (tCons ta (tCons tb tNil))) r ((List.finRange n).map fun i => .tup [elD (v i), elD (w i)]) := by
  have h := rj_zipT h1 h2
  rw [row_map, row_map, zipD_map] at h
  exact h
theorem rj_zipTab {k : Nat} {c : Row F k} (h1 : RunV K ta r (tabD l)) (h2 : RunV K tb r (rowD c)) : RunJ K (RZ.iZipA K (tCons ta (tCons tb tNil))) r ((l.zip (List.ofFn c)).map fun p => .tup [rowD p.1, elD p.2]) := by
  have h := rj_zipT h1 h2
  have e : zipD (l.map rowD) ((rowI c).map D.int) = (l.zip (List.ofFn c)).map fun p => .tup [rowD p.1, elD p.2] := by
    have e2 : (rowI c).map D.int = (List.ofFn c).map elD := by
      rw [row_map]
      apply List.ext_getElem
      · simp
      · intro i h1 h2; simp
    rw [e2]
    unfold zipD
    rw [List.zip_map, List.map_map]
    rfl
  rw [e] at h
  exact h
/-- tuple([.. for ..]) of a row -/
theorem rv_rowT {f : Fin n → El F} (h : RunOV K te r ((List.finRange n).map fun i => elD (f i))) : RunV K (tCB (rTupS K) (tCons te tNil)) r (rowD (F := F) (n := n) f) := by
  rw [← row_map (F := F) (n := n) f] at h
  exact rv_tupL h.l
theorem rv_rowN {f : Fin n → El F} (h : RunOV K te r ((List.finRange n).map fun i => elD (f i))) : RunV K (tCB (rTupN K) (tCons te tNil)) r (nrwD (F := F) (n := n) f) := by
  rw [← row_map (F := F) (n := n) f] at h
  exact rv_tupN h.l
theorem rv_tabT (h : RunOV K te r (l.map rowD)) : RunV K (tCB (rTupS K) (tCons te tNil)) r (tabD l) := rv_tupL h.l
theorem rv_rowIx {z : Int} {i : Fin n} (h1 : RunV K ta r (rowD v)) (h2 : RunV K tb r (.int z)) (hz : z = (i.val : Int)) : RunV K (tOp (rIxT K) ta tb) r (elD (v i)) := rv_ixT h1 h2 hz (row_at v i)
theorem rv_tabIx {z : Int} {k : Nat} (h1 : RunV K ta r (tabD l)) (h2 : RunV K tb r (.int z)) (hz : z = (k : Int)) (hk : l[k]? = some v) : RunV K (tOp (rIxT K) ta tb) r (rowD v) := rv_ixT h1 h2 hz (tab_at hk)
theorem rv_lstIx {z : Int} {k : Nat} (h1 : RunL K ta r (l.map rowD)) (h2 : RunV K tb r (.int z)) (hz : z = (k : Int)) (hk : l[k]? = some v) : RunV K (tOp (rIxL K) ta tb) r (rowD v) := rv_ixL h1 h2 hz (tab_at hk)
theorem rj_seq {b : Bool} {ds : List D} (h : RunV K te r (seqD b ds)) : RunJ K (orI (iList K te) (iTup K te)) r ds := fun S s F H e Q q => by
  cases b with
  | true => exact .inr (rj_tup h S s F H e Q q)
  | false => exact .inl (rj_list h S s F H e Q q)
theorem rv_lenQ {b : Bool} {ds : List D} {k : Int} (h : RunV K te r (seqD b ds)) (hk : (ds.length : Int) = k) : RunV K (tCB (rLenS K) (tCons te tNil)) r (.int k) := by
  cases b with
  | true => exact rv_lenT h hk
  | false => exact rv_lenL h.l hk
theorem ro_lstQ {b : Bool} {ds : List D} (h : RunV K te r (seqD b ds)) : RunOV K (tCB (rLstS K) (tCons te tNil)) r ds := by
  cases b with
  | true => exact ro_lstT h
  | false => exact ro_lstL h.l
theorem rv_ixQ {b : Bool} {ds : List D} {d : D} {k : Nat} {z : Int} (h1 : RunV K ta r (seqD b ds)) (h2 : RunV K tb r (.int z)) (hz : z = (k : Int)) (hd : ds[k]? = some d) : RunV K (orE (tOp (rIxL K) ta tb) (tOp (rIxT K) ta tb)) r d := fun S s F H e Q q => by
  cases b with
  | true => exact .inr (rv_ixT h1 h2 hz hd S s F H e Q q)
  | false => exact .inl (rv_ixL h1.l h2 hz hd S s F H e Q q)
end
end Wk
/-! # WkW1 -/
set_option Elab.async false
set_option linter.all false
set_option maxRecDepth 100000
set_option maxHeartbeats 4000000
namespace Wk
open PySem PySem.Spec PyProof.Rows L2
section
variable {K : PySem.W.Frag} {r : En} {te tb : TE} {t tz : TS} {P : Po} {ct : TT} {b : Bool} {d : D}
/-- if c: return .. -/
theorem re_meth0 {f : D → Prop} {R : List D → (D → Prop) → Prop} {c m : Str} {fs : List (Str × D)} (wa : RunV K te r (.ins c fs)) (hm : fs.lookup m = none) (h : R [.ins c fs] f) : RunE K (tMeth (He.ga K c) m (psp K R) [] E0 te tNil) r f := re_meth wa hm ra_nil h
theorem rs_ifr (w : RunT K ct r b) (h1 : b = true → RunS K t r { P with nx := fun _ => False }) (h2 : b = false → RunS K tz r P) : RunS K (tSeq (tIfS ct t tNext) tz) r P :=
  rs_ifq w (fun h => rs_seq (fun _ => False) (h1 h) fun _ z => z.elim) fun h => rs_nextq (h2 h)
variable {mg : Str → Option Value} {base : Heap} (T : Tx K mg base) {F : Fd} {S : Spc}
include T
theorem fq (h : RunV K te r (fldD F)) : RunV K (tFld K te "q") r (nD F.q) := rv_fld h (c_Field T) (n_Field_q T) rfl
theorem fp (h : RunV K te r (fldD F)) : RunV K (tFld K te "p") r (nD F.p) := rv_fld h (c_Field T) (n_Field_p T) rfl
theorem skind (h : RunV K te r (spcD S)) : RunV K (tFld K te "kind") r (.str S.kind.str) := rv_fld h (c_Space T) (n_Space_kind T) rfl
theorem sq (h : RunV K te r (spcD S)) : RunV K (tFld K te "q") r (nD S.F.q) := rv_fld h (c_Space T) (n_Space_q T) rfl
theorem sn (h : RunV K te r (spcD S)) : RunV K (tFld K te "n") r (nD S.n) := rv_fld h (c_Space T) (n_Space_n T) rfl
theorem smat (h : RunV K te r (spcD S)) : RunV K (tFld K te "matrix") r (tabD (matL S.mat)) := rv_fld h (c_Space T) (n_Space_matrix T) rfl
theorem sfield (h : RunV K te r (spcD S)) : RunV K (tFld K te "field") r (fldD S.F) := rv_fld h (c_Space T) (n_Space_field T) rfl
theorem sgram (h : RunV K te r (spcD S)) : RunV K (tFld K te "_gram") r (tabD (matL S.gram)) := rv_fld h (c_Space T) (n_Space__gram T) rfl
theorem rowlin : He.ga K "is_row_linear" = He.ga K "is_row" := by
  have h := ex_all T
  unfold exB at h
  simp only [Bool.and_eq_true, decide_eq_true_eq] at h
  exact h.2.2.2.2.2.1
end

def R_Field_joined : List D → (D → Prop) → Prop := fun ds f => ∃ (F : Fd) (low high : Int), ds = [fldD F, .int low, .int high] ∧ f = fun d => d = .int (fj F.q low high)
abbrev sp_Field_joined (K : PySem.W.Frag) : Sp := psp K R_Field_joined
theorem f_Field_joined {P : Program} {w : World} {K : PySem.W.Frag} {mg : Str → Option Value} {base : Heap} (T : Tx K mg base) : Met P w K mg base 1 (He.ga K "Field") "joined" (sp_Field_joined K) := by
  refine met_of (d_Field_joined T) (c_Field T) (m_Field_joined T) (N := ["self", "low", "high"]) (ps := ["self", "low", "high"]) (fun _ _ _ _ _ _ us hl => match us, hl with | [_, _, _], _ => rfl) (by decide +kernel) (psp_len (by rintro ds f ⟨_, _, _, rfl, _⟩; rfl)) ?_
  intro cdv A outer sh H vs Q E hr hs
  let NN : List Str := ["self", "low", "high"]
  have nd : List.Nodup (α := Str) ["self", "low", "high"] := by decide +kernel
  refine ⟨_, (pss_cons (ps_if (pt_cmpR op_eq (pe_fld (pv 0) rfl) (pe_fld (pv 0) rfl) (by first | exact nomark _ | rfl | with_unfolding_all rfl)) (pss_one (ps_ret (pe_op op_mod (pv 1) (pe_fld (pv 0) rfl)))) pss_nil)
 (pss_one (ps_ret (pe_op op_add (pe_op op_mod (pv 1) (pe_fld (pv 0) rfl)) (pe_op op_mul (pe_fld (pv 0) rfl) (pe_op op_mod (pv 2) (pe_fld (pv 0) rfl))))))), ?_⟩
  clear hr nd NN
  refine body_psp (n := 3) hs rfl ?_
  clear hs
  rintro ds f ⟨F, low, high, rfl, rfl⟩
  have hp := F.p_pos
  have hp2 := F.p_le
  refine rs_ifr (rt_test (rv_eqI (fq T (rv_var rfl)) (fp T (rv_var rfl)))) (fun h => rs_retV (rv_mod (rv_var rfl) (fp T (rv_var rfl)) (by omega)) ?_) fun h => rs_retV (rv_add (rv_mod (rv_var rfl) (fp T (rv_var rfl)) (by omega)) (rv_mul (fp T (rv_var rfl)) (rv_mod (rv_var rfl) (fp T (rv_var rfl)) (by omega)) (.inl (by omega)))) ?_
  · have h := of_decide_eq_true h
    show D.int _ = D.int _
    unfold fj
    rw [if_pos (show F.q = chr F.q by have : F.p = chr F.q := rfl; omega)] <;> rfl
  · have h := of_decide_eq_false h
    show D.int _ = D.int _
    unfold fj
    rw [if_neg (show ¬ F.q = chr F.q by have : F.p = chr F.q := rfl; omega)] <;> rfl
def R_Field_add : List D → (D → Prop) → Prop := fun ds f => ∃ (F : Fd) (a b : El F), ds = [fldD F, elD a, elD b] ∧ f = fun d => d = elD (a + b)
abbrev sp_Field_add (K : PySem.W.Frag) : Sp := psp K R_Field_add
theorem f_Field_add {P : Program} {w : World} {K : PySem.W.Frag} {mg : Str → Option Value} {base : Heap} (T : Tx K mg base) : Met P w K mg base 2 (He.ga K "Field") "add" (sp_Field_add K) := by
  refine met_of (d_Field_add T) (c_Field T) (m_Field_add T) (N := ["self", "a", "b"]) (ps := ["self", "a", "b"]) (fun _ _ _ _ _ _ us hl => match us, hl with | [_, _, _], _ => rfl) (by decide +kernel) (psp_len (by rintro ds f ⟨_, _, _, rfl, _⟩; rfl)) ?_
  intro cdv A outer sh H vs Q E hr hs
  let NN : List Str := ["self", "a", "b"]
  have nd : List.Nodup (α := Str) ["self", "a", "b"] := by decide +kernel
  refine ⟨_, (pss_one (ps_ret (pe_mt (f_Field_joined T) hr (by decide) (pv 0) (pa_cons (pe_op op_add (pe_op op_mod (pv 1) (pe_fld (pv 0) rfl)) (pe_op op_mod (pv 2) (pe_fld (pv 0) rfl))) (pa_cons (pe_op op_add (pe_op op_fdiv (pv 1) (pe_fld (pv 0) rfl)) (pe_op op_fdiv (pv 2) (pe_fld (pv 0) rfl))) pa_nil))))), ?_⟩
  clear hr nd NN
  refine body_psp (n := 3) hs rfl ?_
  clear hs
  rintro ds f ⟨F, a, b, rfl, rfl⟩
  have hp := F.p_pos
  have hp2 := F.p_le
  refine rs_ret (re_meth (rv_var rfl) rfl (ra_cons (rv_add (rv_mod (rv_var rfl) (fp T (rv_var rfl)) (by omega)) (rv_mod (rv_var rfl) (fp T (rv_var rfl)) (by omega))) (ra_cons (rv_add (rv_div (rv_var rfl) (fp T (rv_var rfl)) (by omega) (by omega)) (rv_div (rv_var rfl) (fp T (rv_var rfl)) (by omega) (by omega))) ra_nil)) ⟨F, _, _, rfl, rfl⟩) ?_
  rintro d rfl
  exact congrArg D.int (joinE_v F _ _).symm
def R_Field_negative : List D → (D → Prop) → Prop := fun ds f => ∃ (F : Fd) (a : El F), ds = [fldD F, elD a] ∧ f = fun d => d = elD (-a)
abbrev sp_Field_negative (K : PySem.W.Frag) : Sp := psp K R_Field_negative
theorem f_Field_negative {P : Program} {w : World} {K : PySem.W.Frag} {mg : Str → Option Value} {base : Heap} (T : Tx K mg base) : Met P w K mg base 2 (He.ga K "Field") "negative" (sp_Field_negative K) := by
  refine met_of (d_Field_negative T) (c_Field T) (m_Field_negative T) (N := ["self", "a"]) (ps := ["self", "a"]) (fun _ _ _ _ _ _ us hl => match us, hl with | [_, _], _ => rfl) (by decide +kernel) (psp_len (by rintro ds f ⟨_, _, rfl, _⟩; rfl)) ?_
  intro cdv A outer sh H vs Q E hr hs
  let NN : List Str := ["self", "a"]
  have nd : List.Nodup (α := Str) ["self", "a"] := by decide +kernel
  refine ⟨_, (pss_one (ps_ret (pe_mt (f_Field_joined T) hr (by decide) (pv 0) (pa_cons (pe_un un_neg (pe_op op_mod (pv 1) (pe_fld (pv 0) rfl))) (pa_cons (pe_un un_neg (pe_op op_fdiv (pv 1) (pe_fld (pv 0) rfl))) pa_nil))))), ?_⟩
  clear hr nd NN
  refine body_psp (n := 2) hs rfl ?_
  clear hs
  rintro ds f ⟨F, a, rfl, rfl⟩
  have hp := F.p_pos
  have hp2 := F.p_le
  refine rs_ret (re_meth (rv_var rfl) rfl (ra_cons (rv_neg (rv_mod (rv_var rfl) (fp T (rv_var rfl)) (by omega))) (ra_cons (rv_neg (rv_div (rv_var rfl) (fp T (rv_var rfl)) (by omega) (by omega))) ra_nil)) ⟨F, _, _, rfl, rfl⟩) ?_
  rintro d rfl
  exact congrArg D.int (joinE_v F _ _).symm
theorem elb {F : Fd} (a : El F) : 0 ≤ (a.v : Int) % F.p ∧ (a.v : Int) % F.p < 9 ∧ 0 ≤ (a.v : Int) / F.p ∧ (a.v : Int) / F.p ≤ 9 := by
  have hp := F.p_pos
  have hp2 := F.p_le
  have ha := a.lt
  have hq := F.le
  have h1 := Int.emod_nonneg (a.v : Int) (show (F.p : Int) ≠ 0 by omega)
  have h2 := Int.emod_lt_of_pos (a.v : Int) (show (0 : Int) < F.p by omega)
  have h3 := Int.ediv_nonneg (show (0 : Int) ≤ (a.v : Int) by omega) (show (0 : Int) ≤ (F.p : Int) by omega)
  have h4 := Int.ediv_le_self (F.p : Int) (show (0 : Int) ≤ (a.v : Int) by omega)
  omega
theorem pow_sq {F : Fd} (x : El F) : ∀ j : Nat, (x * x) ^ j = x ^ (2 * j)
  | 0 => rfl
  | j + 1 => by
    have h := pow_sq x j
    show (x * x) ^ (j + 1) = x ^ (2 * j + 1 + 1)
    rw [Lean.Grind.Semiring.pow_succ, Lean.Grind.Semiring.pow_succ, Lean.Grind.Semiring.pow_succ, h]
    grind
theorem els_nD (F : Fd) : (List.range F.q).map nD = (els F).map elD := by
  apply List.ext_getElem?
  intro i
  rw [List.getElem?_map, List.getElem?_map]
  by_cases h : i < F.q
  · rw [els_at F i h, List.getElem?_range h]
    rfl
  · rw [List.getElem?_eq_none (by simpa using h), List.getElem?_eq_none (by rw [els_len]; omega)]
    rfl
section
variable {K : PySem.W.Frag} {r : En} {te : TE}
theorem rv_tupRg {n : Nat} {k : Int} (h : RunV K te r (.int k)) (hk : k = (n : Int)) (hn : n ≤ 1000000) : RunV K (tTupRg (tRg1 te)) r (.tup ((List.range n).map nD)) := fun S s F H e Q q =>
  h S s F H e _ fun d v F1 H1 hd r1 g1 => by
    subst hd hk
    refine ⟨n, r1.int, RgOk.of_le (by omega) (by omega) (by omega) (by omega), fun p hp => ?_⟩
    refine q _ _ _ _ rfl (Rep.mk_tup (SqT.of upd_same) ?_) (g1.trans (Gr.new g1.sub (g1.sok e.sok) hp))
    unfold rgV
    have e1 : ((n : Int) - 0).toNat = n := by omega
    rw [e1]
    have e2 : (List.range n).map (fun i => V.int (0 + (i : Nat))) = ((List.range n).map fun (i : Nat) => (i : Int)).map V.int := by rw [List.map_map]; apply List.map_congr_left; intro a _; simp
    have e3 : (List.range n).map nD = ((List.range n).map fun (i : Nat) => (i : Int)).map D.int := by rw [List.map_map]; rfl
    rw [e2, e3]
    exact RepL.of_ints
variable {mg : Str → Option Value} {base : Heap} (T : Tx K mg base)
include T
theorem tabF : RunV K (tC (.ref (He.ga K "SIZES_field"))) r (irow [2, 3, 4, 5, 7, 9]) := by
  have h := ex_all T
  unfold exB at h
  simp only [Bool.and_eq_true] at h
  have h1 := He.tupB_ok h.1
  exact rv_tab (vs := [2, 3, 4, 5, 7, 9].map V.int) h1 fun F => RepL.of_ints
theorem tabS : RunV K (tC (.ref (He.ga K "SIZES_space"))) r (irow [2, 3, 4, 5, 7, 9]) := by
  have h := ex_all T
  unfold exB at h
  simp only [Bool.and_eq_true] at h
  have h1 := He.tupB_ok h.2.2.1
  exact rv_tab (vs := [2, 3, 4, 5, 7, 9].map V.int) h1 fun F => RepL.of_ints
theorem tabC : RunV K (tC (.ref (He.ga K "CHARACTERISTICS"))) r (irow [2, 3, 2, 5, 7, 3]) := by
  have h := ex_all T
  unfold exB at h
  simp only [Bool.and_eq_true] at h
  have h1 := He.tupB_ok h.2.1
  exact rv_tab (vs := [2, 3, 2, 5, 7, 3].map V.int) h1 fun F => RepL.of_ints
theorem idxF {z : Int} {j : Nat} {tb : TE} (wb : RunV K tb r (.int z)) (hy : [2, 3, 4, 5, 7, 9][j]? = some z) (hno : ∀ m, m < j → [2, 3, 4, 5, 7, 9][m]? ≠ some z) : RunV K (tBT K (rIndexT K) (tC (.ref (He.ga K "SIZES_field"))) (tCons tb tNil)) r (.int (j : Nat)) := by
  have h := ex_all T
  unfold exB at h
  simp only [Bool.and_eq_true] at h
  have h1 := He.tupB_ok h.1
  have h2 := h.2.2.2.2.2.2
  unfold nodB at h2
  cases q : K.lookup (He.ga K "SIZES_field") with
  | none => rw [q] at h2; cases h2
  | some o =>
    obtain ⟨oc, od, dt, sl⟩ := o
    rw [q] at h2
    cases oc with
    | type c =>
      cases od with
      | none => exact rv_idxK (xs := [2, 3, 4, 5, 7, 9]) q (congrArg Value.type (of_decide_eq_true h2)) rfl h1 wb hy hno
      | some a => cases h2
    | _ => cases h2
theorem tabK : RunV K (tC (.ref (He.ga K "KINDS"))) r (.tup ((["alternating", "quadratic", "hermitian"] : List Str).map D.str)) := by
  have h := ex_all T
  unfold exB at h
  simp only [Bool.and_eq_true] at h
  have h1 := He.tupB_ok h.2.2.2.1
  refine rv_tab (vs := (["alternating", "quadratic", "hermitian"] : List Str).map V.str) h1 fun F => ?_
  exact .cons Rep.mk_str (.cons Rep.mk_str (.cons Rep.mk_str .nil))
end

def R_is_integer : List D → (D → Prop) → Prop := fun ds f => ∃ (z : Int), ds = [.int z] ∧ f = fun d => d = .bl true
abbrev sp_is_integer (K : PySem.W.Frag) : Sp := psp K R_is_integer
theorem f_is_integer {P : Program} {w : World} {K : PySem.W.Frag} {mg : Str → Option Value} {base : Heap} (T : Tx K mg base) : Cal P w K mg base 1 "is_integer" (sp_is_integer K) := by
  refine cal_of (d_is_integer T) (g_is_integer T) (N := ["value"]) (ps := ["value"]) (fun _ _ _ _ _ _ us hl => match us, hl with | [_], _ => rfl) (by decide +kernel) (psp_len (by rintro ds f ⟨_, rfl, _⟩; rfl)) ?_
  intro cdv A outer sh H vs Q E hr hs
  let NN : List Str := ["value"]
  have nd : List.Nodup (α := Str) ["value"] := by decide +kernel
  refine ⟨_, (pss_one (ps_ret (pe_and (pe_callB call_isi (by rfl) (b_isinstance T) (by rfl) (pa_cons (pv 0) (pa_cons (pe_bltn (v := .ty "int") (by rfl) (b_int T) (by rfl) rfl) pa_nil))) (pe_one (pe_not (pe_callB call_isi (by rfl) (b_isinstance T) (by rfl) (pa_cons (pv 0) (pa_cons (pe_bltn (v := .ty "bool") (by rfl) (b_bool T) (by rfl) rfl) pa_nil)))))))), ?_⟩
  clear hr nd NN
  refine body_psp (n := 1) hs rfl ?_
  clear hs
  rintro ds f ⟨z, rfl, rfl⟩
  exact rs_retV (rv_andV (rv_isi (b := true) (rv_var rfl) rfl (by decide +kernel)) fun _ => rv_notV (rv_isi (b := false) (rv_var rfl) rfl (by decide +kernel))) rfl
def R_Field_is_number : List D → (D → Prop) → Prop := fun ds f => ∃ (F : Fd) (a : El F), ds = [fldD F, elD a] ∧ f = fun d => d = .bl true
abbrev sp_Field_is_number (K : PySem.W.Frag) : Sp := psp K R_Field_is_number
theorem f_Field_is_number {P : Program} {w : World} {K : PySem.W.Frag} {mg : Str → Option Value} {base : Heap} (T : Tx K mg base) : Met P w K mg base 2 (He.ga K "Field") "is_number" (sp_Field_is_number K) := by
  refine met_of (d_Field_is_number T) (c_Field T) (m_Field_is_number T) (N := ["self", "value"]) (ps := ["self", "value"]) (fun _ _ _ _ _ _ us hl => match us, hl with | [_, _], _ => rfl) (by decide +kernel) (psp_len (by rintro ds f ⟨_, _, rfl, _⟩; rfl)) ?_
  intro cdv A outer sh H vs Q E hr hs
  let NN : List Str := ["self", "value"]
  have nd : List.Nodup (α := Str) ["self", "value"] := by decide +kernel
  refine ⟨_, (pss_one (ps_ret (pe_and (pe_c (f_is_integer T) hr (by decide) (by rfl) (pa_cons (pv 1) pa_nil)) (pe_one (pe_chain op_le op_lt pe_int (pv 1) (pe_fld (pv 0) rfl)))))), ?_⟩
  clear hr nd NN
  refine body_psp (n := 2) hs rfl ?_
  clear hs
  rintro ds f ⟨F, a, rfl, rfl⟩
  have ha := a.lt
  refine rs_retV (rv_andV (re_call (ra_cons (rv_var rfl) ra_nil) ⟨_, rfl, rfl⟩) fun _ => rv_chain rv_int (rv_var rfl) (fq T (rv_var rfl))) ?_
  show D.bl _ = D.bl _
  rw [decide_eq_true (show (0 : Int) ≤ (a.v : Int) by omega), decide_eq_true (show (a.v : Int) < F.q by omega)] <;> rfl
def R_Field___init__ : List D → (List (Str × D) → Prop) → Prop := fun ds f => ∃ (F : Fd), ds = [nD F.q] ∧ f = fun d => d = [(("q" : Str), nD F.q), (("p" : Str), nD F.p)]
abbrev sp_Field___init__ (K : PySem.W.Frag) : Sp := isp K "Field" R_Field___init__
theorem f_Field___init__ {P : Program} {w : World} {K : PySem.W.Frag} {mg : Str → Option Value} {base : Heap} (T : Tx K mg base) : Mak P w K mg base 2 "Field" (He.ga K "Field") (sp_Field___init__ K) := by
  refine mak_of (d_Field___init__ T) (mk_Field T) (g_Field T) (N := ["self", "q"]) (ps := ["self", "q"]) (fun _ _ _ _ _ _ us hl => match us, hl with | [_, _], _ => rfl) (by decide +kernel) (isp_len (by rintro ds f ⟨_, rfl, _⟩; rfl)) ?_
  intro cdv A outer sh H vs Q E hr hs
  let NN : List Str := ["self", "q"]
  have nd : List.Nodup (α := Str) ["self", "q"] := by decide +kernel
  refine ⟨_, (pss_cons (ps_if (PW.pt (pw_or (pt_not (pt_val (pe_c (f_is_integer T) hr (by decide) (by rfl) (pa_cons (pv 1) pa_nil)))) (pw_or1 (pt_cmpR op_notIn_seq (pv 1) (pe_glob (v := .ref (He.ga K "SIZES_field")) (by rfl) (g_SIZES_field T) rfl) (by first | exact nomark _ | rfl | with_unfolding_all rfl))))) (pss_one ps_never) pss_nil)
 (pss_cons (ps_fld (pv 0) (pv 1) rfl)
 (pss_one (ps_fld (pv 0) (pe_ix ix_tup (pe_glob (v := .ref (He.ga K "CHARACTERISTICS")) (by rfl) (g_CHARACTERISTICS T) rfl) (pe_bt PySem.F.slot_tuple_index PySem.F.type_tuple_index mt_indexT (pe_glob (v := .ref (He.ga K "SIZES_field")) (by rfl) (g_SIZES_field T) rfl) (pa_cons (pv 1) pa_nil)) (fun _ _ => rfl)) rfl)))), ?_⟩
  clear hr nd NN
  refine body_isp (n := 2) hs rfl ?_ (by decide)
  clear hs
  rintro ds f p0 ⟨F, rfl, rfl⟩
  have key : ∃ j : Nat, [2, 3, 4, 5, 7, 9][j]? = some (F.q : Int) ∧ (∀ m, m < j → [(2 : Int), 3, 4, 5, 7, 9][m]? ≠ some (F.q : Int)) ∧ ([2, 3, 2, 5, 7, 3].map D.int)[j]? = some (nD F.p) ∧ ((F.q : Int) ∈ [(2 : Int), 3, 4, 5, 7, 9]) := by
    obtain ⟨q, ok⟩ := F
    rcases ok with rfl | rfl | rfl | rfl | rfl | rfl
    · exact ⟨0, rfl, by decide, rfl, by decide⟩
    · exact ⟨1, rfl, by decide, rfl, by decide⟩
    · exact ⟨2, rfl, by decide, rfl, by decide⟩
    · exact ⟨3, rfl, by decide, rfl, by decide⟩
    · exact ⟨4, rfl, by decide, rfl, by decide⟩
    · exact ⟨5, rfl, by decide, rfl, by decide⟩
  obtain ⟨j, k1, k2, k3, k4⟩ := key
  refine rs_guard ((rt_or (rt_not (rt_B (re_call (ra_cons (rv_var rfl) ra_nil) ⟨_, rfl, rfl⟩))) fun _ => rt_test (rv_niT (rv_var rfl) (tabF T))).is ?_) ?_
  · rw [decide_eq_true k4] <;> rfl
  · refine rs_fldq (p := p0) (c := "Field") (fs := []) rfl (rv_var rfl) (c_Field T) (n_Field_q T) (by decide) ?_
    refine rs_fld (p := p0) (c := "Field") (fs := [("q", nD F.q)]) rfl (rv_ixT (tabC T) (idxF T (rv_var rfl) k1 k2) rfl k3) (c_Field T) (n_Field_p T) (by show 1 < 1000; decide) ?_
    rintro d rfl
    exact ⟨_, rfl, rfl⟩
def R_Field_numbers : List D → (D → Prop) → Prop := fun ds f => ∃ (F : Fd), ds = [fldD F] ∧ f = fun d => d = .tup ((els F).map elD)
abbrev sp_Field_numbers (K : PySem.W.Frag) : Sp := psp K R_Field_numbers
theorem f_Field_numbers {P : Program} {w : World} {K : PySem.W.Frag} {mg : Str → Option Value} {base : Heap} (T : Tx K mg base) : Met P w K mg base 1 (He.ga K "Field") "numbers" (sp_Field_numbers K) := by
  refine met_of (d_Field_numbers T) (c_Field T) (m_Field_numbers T) (N := ["self"]) (ps := ["self"]) (fun _ _ _ _ _ _ us hl => match us, hl with | [_], _ => rfl) (by decide +kernel) (psp_len (by rintro ds f ⟨_, rfl, _⟩; rfl)) ?_
  intro cdv A outer sh H vs Q E hr hs
  let NN : List Str := ["self"]
  have nd : List.Nodup (α := Str) ["self"] := by decide +kernel
  refine ⟨_, (pss_one (ps_ret (pe_tupRg rfl (by rfl) (b_tuple T) (prg_1 (by rfl) (b_range T) (pe_fld (pv 0) rfl))))), ?_⟩
  clear hr nd NN
  refine body_psp (n := 1) hs rfl ?_
  clear hs
  rintro ds f ⟨F, rfl, rfl⟩
  have hq := F.le
  refine rs_retV (rv_tupRg (fq T (rv_var rfl)) rfl (by omega)) ?_
  show D.tup _ = D.tup _
  congr 1
  exact els_nD F
def R_Field_multiply : List D → (D → Prop) → Prop := fun ds f => ∃ (F : Fd) (a b : El F), ds = [fldD F, elD a, elD b] ∧ f = fun d => d = elD (a * b)
abbrev sp_Field_multiply (K : PySem.W.Frag) : Sp := psp K R_Field_multiply
theorem f_Field_multiply {P : Program} {w : World} {K : PySem.W.Frag} {mg : Str → Option Value} {base : Heap} (T : Tx K mg base) : Met P w K mg base 2 (He.ga K "Field") "multiply" (sp_Field_multiply K) := by
  refine met_of (d_Field_multiply T) (c_Field T) (m_Field_multiply T) (N := ["self", "a", "b", "low", "high", "own", "top", "middle"]) (ps := ["self", "a", "b"]) (fun _ _ _ _ _ _ us hl => match us, hl with | [_, _, _], _ => rfl) (by decide +kernel) (psp_len (by rintro ds f ⟨_, _, _, rfl, _⟩; rfl)) ?_
  intro cdv A outer sh H vs Q E hr hs
  let NN : List Str := ["self", "a", "b", "low", "high", "own", "top", "middle"]
  have nd : List.Nodup (α := Str) ["self", "a", "b", "low", "high", "own", "top", "middle"] := by decide +kernel
  refine ⟨_, (pss_cons (ps_if (pt_cmpR op_eq (pe_fld (pv 0) rfl) (pe_fld (pv 0) rfl) (by first | exact nomark _ | rfl | with_unfolding_all rfl)) (pss_one (ps_ret (pe_op op_mod (pe_op op_mul (pv 1) (pv 2)) (pe_fld (pv 0) rfl)))) pss_nil)
 (pss_cons (ps_par (i := 3) (j := 4) rfl nd rfl rfl (by decide) rfl rfl (pa_cons (pe_op op_mod (pv 1) (pe_fld (pv 0) rfl)) (pa_cons (pe_op op_fdiv (pv 1) (pe_fld (pv 0) rfl)) pa_nil)) (by rfl))
 (pss_cons (ps_par (i := 5) (j := 6) rfl nd rfl rfl (by decide) rfl rfl (pa_cons (pe_op op_mod (pv 2) (pe_fld (pv 0) rfl)) (pa_cons (pe_op op_fdiv (pv 2) (pe_fld (pv 0) rfl)) pa_nil)) (by rfl))
 (pss_cons (ps_set (i := 7) nd rfl (by first | exact Or.inl rfl | exact Or.inr rfl) (pe_op op_add (pe_op op_mul (pv 3) (pv 6)) (pe_op op_mul (pv 4) (pv 5))))
 (pss_cons (ps_if (pt_cmpR op_eq (pe_fld (pv 0) rfl) pe_int (by first | exact nomark _ | rfl | with_unfolding_all rfl)) (pss_one (ps_ret (pe_mt (f_Field_joined T) hr (by decide) (pv 0) (pa_cons (pe_op op_add (pe_op op_mul (pv 3) (pv 5)) (pe_op op_mul (pv 4) (pv 6))) (pa_cons (pe_op op_add (pv 7) (pe_op op_mul (pv 4) (pv 6))) pa_nil))))) pss_nil)
 (pss_one (ps_ret (pe_mt (f_Field_joined T) hr (by decide) (pv 0) (pa_cons (pe_op op_sub (pe_op op_mul (pv 3) (pv 5)) (pe_op op_mul (pv 4) (pv 6))) (pa_cons (pv 7) pa_nil)))))))))), ?_⟩
  clear hr nd NN
  refine body_psp (n := 8) hs rfl ?_
  clear hs
  rintro ds f ⟨F, a, b, rfl, rfl⟩
  have hp := F.p_pos
  have hp2 := F.p_le
  obtain ⟨a1, a2, a3, a4⟩ := elb a
  obtain ⟨b1, b2, b3, b4⟩ := elb b
  have ha := a.lt
  have hb := b.lt
  have hq := F.le
  refine rs_ifr (rt_test (rv_eqI (fq T (rv_var rfl)) (fp T (rv_var rfl)))) (fun h => rs_retV (rv_mod (rv_mul (rv_var rfl) (rv_var rfl) (.inl (by omega))) (fp T (rv_var rfl)) (by omega)) ?_) fun h => ?_
  · have h := of_decide_eq_true h
    refine congrArg D.int ?_
    show _ = ((emul a b).v : Int)
    rw [emul_v]
    unfold fmul
    rw [if_pos (show F.q = chr F.q by have : F.p = chr F.q := rfl; omega)]
    rfl
  · have h := of_decide_eq_false h
    have hne : ¬ F.q = chr F.q := by have : F.p = chr F.q := rfl; omega
    refine rs_par (ra_cons (rv_mod (rv_var rfl) (fp T (rv_var rfl)) (by omega)) (ra_cons (rv_div (rv_var rfl) (fp T (rv_var rfl)) (by omega) (by omega)) ra_nil)) ?_
    refine rs_par (ra_cons (rv_mod (rv_var rfl) (fp T (rv_var rfl)) (by omega)) (ra_cons (rv_div (rv_var rfl) (fp T (rv_var rfl)) (by omega) (by omega)) ra_nil)) ?_
    refine rs_setV (rv_add (rv_mul (rv_var rfl) (rv_var rfl) (.inl (by omega))) (rv_mul (rv_var rfl) (rv_var rfl) (.inl (by omega)))) ?_
    refine rs_ifr (rt_test (rv_eqI (fp T (rv_var rfl)) rv_int)) (fun h2 => rs_ret (re_meth (rv_var rfl) rfl (ra_cons (rv_add (rv_mul (rv_var rfl) (rv_var rfl) (.inl (by omega))) (rv_mul (rv_var rfl) (rv_var rfl) (.inl (by omega)))) (ra_cons (rv_add (rv_var rfl) (rv_mul (rv_var rfl) (rv_var rfl) (.inl (by omega)))) ra_nil)) ⟨F, _, _, rfl, rfl⟩) ?_)
      fun h2 => rs_ret (re_meth (rv_var rfl) rfl (ra_cons (rv_sub (rv_mul (rv_var rfl) (rv_var rfl) (.inl (by omega))) (rv_mul (rv_var rfl) (rv_var rfl) (.inl (by omega)))) (ra_cons (rv_var rfl) ra_nil)) ⟨F, _, _, rfl, rfl⟩) ?_
    · rintro d rfl
      have h2 := of_decide_eq_true h2
      refine congrArg D.int ?_
      show _ = ((emul a b).v : Int)
      rw [emul_v]
      unfold fmul
      rw [if_neg hne, if_pos (show chr F.q = 2 by have : F.p = chr F.q := rfl; omega)]
      rfl
    · rintro d rfl
      have h2 := of_decide_eq_false h2
      refine congrArg D.int ?_
      show _ = ((emul a b).v : Int)
      rw [emul_v]
      unfold fmul
      rw [if_neg hne, if_neg (show ¬ chr F.q = 2 by have : F.p = chr F.q := rfl; omega)]
      rfl
def R_Field_power : List D → (D → Prop) → Prop := fun ds f => ∃ (F : Fd) (a : El F) (k : Nat), ds = [fldD F, elD a, nD k] ∧ f = fun d => d = elD (a ^ k)
abbrev sp_Field_power (K : PySem.W.Frag) : Sp := psp K R_Field_power
theorem f_Field_power {P : Program} {w : World} {K : PySem.W.Frag} {mg : Str → Option Value} {base : Heap} (T : Tx K mg base) : Met P w K mg base 3 (He.ga K "Field") "power" (sp_Field_power K) := by
  refine met_of (d_Field_power T) (c_Field T) (m_Field_power T) (N := ["self", "a", "k", "found", "left"]) (ps := ["self", "a", "k"]) (fun _ _ _ _ _ _ us hl => match us, hl with | [_, _, _], _ => rfl) (by decide +kernel) (psp_len (by rintro ds f ⟨_, _, _, rfl, _⟩; rfl)) ?_
  intro cdv A outer sh H vs Q E hr hs
  let NN : List Str := ["self", "a", "k", "found", "left"]
  have nd : List.Nodup (α := Str) ["self", "a", "k", "found", "left"] := by decide +kernel
  refine ⟨_, (pss_cons (ps_set (i := 3) nd rfl (by first | exact Or.inl rfl | exact Or.inr rfl) pe_int)
 (pss_cons (ps_set (i := 4) nd rfl (by first | exact Or.inl rfl | exact Or.inr rfl) (pv 2))
 (pss_cons (ps_while PassesOwn.never (pt_cmpR op_gt (pv 4) pe_int (by first | exact nomark _ | rfl | with_unfolding_all rfl)) (pss_cons (ps_if (pt_cmpR op_eq (pe_op op_mod (pv 4) pe_int) pe_int (by first | exact nomark _ | rfl | with_unfolding_all rfl)) (pss_one (ps_set (i := 3) nd rfl (by first | exact Or.inl rfl | exact Or.inr rfl) (pe_mt (f_Field_multiply T) hr (by decide) (pv 0) (pa_cons (pv 3) (pa_cons (pv 1) pa_nil))))) pss_nil)
 (pss_cons (ps_set (i := 1) nd rfl (by first | exact Or.inl rfl | exact Or.inr rfl) (pe_mt (f_Field_multiply T) hr (by decide) (pv 0) (pa_cons (pv 1) (pa_cons (pv 1) pa_nil))))
 (pss_one (ps_set (i := 4) nd rfl (by first | exact Or.inl rfl | exact Or.inr rfl) (pe_op op_fdiv (pv 4) pe_int))))))
 (pss_one (ps_ret (pv 3)))))), ?_⟩
  clear hr nd NN
  refine body_psp (n := 5) hs rfl ?_
  clear hs
  rintro ds f ⟨F, a, k, rfl, rfl⟩
  refine rs_setV (d := elD (1 : El F)) rv_int ?_
  refine rs_setV (rv_var rfl) ?_
  refine rs_seq (fun r' => ∃ x : El F, ∃ y : D, ∃ z : D, r' = [.im (fldD F), .im y, .im (nD k), .im (elD x), .im z] ∧ x = a ^ k) (rs_while (fun m r' => ∃ x f : El F, f * x ^ m = a ^ k ∧ r' = [.im (fldD F), .im (elD x), .im (nD k), .im (elD f), .im (nD m)]) k ⟨a, 1, by grind, rfl⟩ ?_) ?_
  · rintro m r' ⟨x, f, hf, rfl⟩
    refine ⟨_, rt_test (rv_gt (rv_var rfl) rv_int), fun h => ?_, fun h => ?_⟩
    · have h := of_decide_eq_true h
      refine rs_ifq (rt_test (rv_eqI (rv_mod (rv_var rfl) rv_int (by decide)) rv_int)) (fun h2 => ?_) fun h2 => ?_
      · have h2 := of_decide_eq_true h2
        refine rs_setq (re_meth (rv_var rfl) rfl (ra_cons (rv_var rfl) (ra_cons (rv_var rfl) ra_nil)) ⟨F, f, x, rfl, rfl⟩) ?_
        rintro d rfl
        refine rs_setq (re_meth (rv_var rfl) rfl (ra_cons (rv_var rfl) (ra_cons (rv_var rfl) ra_nil)) ⟨F, x, x, rfl, rfl⟩) ?_
        rintro d rfl
        refine rs_set (rv_div (rv_var rfl) rv_int (by decide) (by decide)) ?_
        rintro d rfl
        refine ⟨m / 2, by omega, x * x, f * x, ?_, rfl⟩
        rw [pow_sq, ← hf]
        have e : m = 2 * (m / 2) + 1 := by omega
        have e2 : x ^ m = x ^ (2 * (m / 2)) * x := by rw [← Lean.Grind.Semiring.pow_succ, ← e]
        rw [e2]
        grind
      · have h2 := of_decide_eq_false h2
        refine rs_nextq ?_
        refine rs_setq (re_meth (rv_var rfl) rfl (ra_cons (rv_var rfl) (ra_cons (rv_var rfl) ra_nil)) ⟨F, x, x, rfl, rfl⟩) ?_
        rintro d rfl
        refine rs_set (rv_div (rv_var rfl) rv_int (by decide) (by decide)) ?_
        rintro d rfl
        refine ⟨m / 2, by omega, x * x, f, ?_, rfl⟩
        rw [pow_sq, ← hf]
        have e : m = 2 * (m / 2) := by omega
        rw [← e]
    · have h := of_decide_eq_false h
      have : m = 0 := by omega
      subst this
      refine ⟨f, _, _, rfl, ?_⟩
      rw [← hf, Lean.Grind.Semiring.pow_zero]
      grind
  · rintro r' ⟨x, y, z, rfl, rfl⟩
    exact rs_retV (rv_var rfl) rfl
def R_Field_inverse : List D → (D → Prop) → Prop := fun ds f => ∃ (F : Fd) (a : El F), ∃ (ha : a ≠ 0), ds = [fldD F, elD a] ∧ f = fun d => d = elD a⁻¹
abbrev sp_Field_inverse (K : PySem.W.Frag) : Sp := psp K R_Field_inverse
theorem f_Field_inverse {P : Program} {w : World} {K : PySem.W.Frag} {mg : Str → Option Value} {base : Heap} (T : Tx K mg base) : Met P w K mg base 4 (He.ga K "Field") "inverse" (sp_Field_inverse K) := by
  refine met_of (d_Field_inverse T) (c_Field T) (m_Field_inverse T) (N := ["self", "a"]) (ps := ["self", "a"]) (fun _ _ _ _ _ _ us hl => match us, hl with | [_, _], _ => rfl) (by decide +kernel) (psp_len (by rintro ds f ⟨_, _, _, rfl, _⟩; rfl)) ?_
  intro cdv A outer sh H vs Q E hr hs
  let NN : List Str := ["self", "a"]
  have nd : List.Nodup (α := Str) ["self", "a"] := by decide +kernel
  refine ⟨_, (pss_cons (ps_if (pt_cmpR op_eq (pv 1) pe_int (by first | exact nomark _ | rfl | with_unfolding_all rfl)) (pss_one ps_never) pss_nil)
 (pss_one (ps_ret (pe_mt (f_Field_power T) hr (by decide) (pv 0) (pa_cons (pv 1) (pa_cons (pe_op op_sub (pe_fld (pv 0) rfl) pe_int) pa_nil)))))), ?_⟩
  clear hr nd NN
  refine body_psp (n := 2) hs rfl ?_
  clear hs
  rintro ds f ⟨F, a, ha, rfl, rfl⟩
  have h0 : ¬ a.v = 0 := fun z => ha (El.ext z)
  have h2 := F.two
  refine rs_guard ((rt_test (rv_eqI (rv_var rfl) rv_int)).is (decide_eq_false (by omega))) ?_
  refine rs_ret (re_meth (rv_var rfl) rfl (ra_cons (rv_var rfl) (ra_cons (rv_sub (fq T (rv_var rfl)) rv_int) ra_nil)) ⟨F, a, F.q - 2, ?_, rfl⟩) ?_
  · have e : ((F.q : Nat) : Int) - 2 = ((F.q - 2 : Nat) : Int) := by omega
    rw [e]
  · rintro d rfl
    have e : a⁻¹ = einv a := rfl
    rw [e]
    unfold einv
    rw [if_neg h0]
    rfl
def R_Field_mirrored : List D → (D → Prop) → Prop := fun ds f => ∃ (F : Fd) (a : El F), ds = [fldD F, elD a] ∧ f = fun d => d = elD (ebar a)
abbrev sp_Field_mirrored (K : PySem.W.Frag) : Sp := psp K R_Field_mirrored
theorem f_Field_mirrored {P : Program} {w : World} {K : PySem.W.Frag} {mg : Str → Option Value} {base : Heap} (T : Tx K mg base) : Met P w K mg base 4 (He.ga K "Field") "mirrored" (sp_Field_mirrored K) := by
  refine met_of (d_Field_mirrored T) (c_Field T) (m_Field_mirrored T) (N := ["self", "a"]) (ps := ["self", "a"]) (fun _ _ _ _ _ _ us hl => match us, hl with | [_, _], _ => rfl) (by decide +kernel) (psp_len (by rintro ds f ⟨_, _, rfl, _⟩; rfl)) ?_
  intro cdv A outer sh H vs Q E hr hs
  let NN : List Str := ["self", "a"]
  have nd : List.Nodup (α := Str) ["self", "a"] := by decide +kernel
  refine ⟨_, (pss_cons (ps_if (pt_cmpR op_eq (pe_fld (pv 0) rfl) (pe_fld (pv 0) rfl) (by first | exact nomark _ | rfl | with_unfolding_all rfl)) (pss_one (ps_ret (pv 1))) pss_nil)
 (pss_one (ps_ret (pe_mt (f_Field_power T) hr (by decide) (pv 0) (pa_cons (pv 1) (pa_cons (pe_fld (pv 0) rfl) pa_nil)))))), ?_⟩
  clear hr nd NN
  refine body_psp (n := 2) hs rfl ?_
  clear hs
  rintro ds f ⟨F, a, rfl, rfl⟩
  refine rs_ifr (rt_test (rv_eqI (fq T (rv_var rfl)) (fp T (rv_var rfl)))) (fun h => rs_retV (rv_var rfl) ?_) fun h => rs_ret (re_meth (rv_var rfl) rfl (ra_cons (rv_var rfl) (ra_cons (fp T (rv_var rfl)) ra_nil)) ⟨F, a, F.p, rfl, rfl⟩) ?_
  · have h := of_decide_eq_true h
    unfold ebar
    rw [if_pos (by omega)]
  · have h := of_decide_eq_false h
    rintro d rfl
    unfold ebar
    rw [if_neg (by omega)]
section
variable {K : PySem.W.Frag} {r : En} {te : TE}
theorem rj_els {F : Fd} {k : Int} (h : RunV K te r (.int k)) (hk : k = (F.q : Int)) : RunJ K (iRng1 (tCons te tNil)) r ((els F).map elD) := by
  have e : rng 0 F.q = (els F).map elD := by
    rw [← els_nD]
    unfold rng
    apply List.map_congr_left
    intro a _
    simp
  rw [← e]
  have := F.le
  exact rj_rng1 h hk (by omega)
theorem root_at {F : Fd} {a : El F} (h : ∃ b : El F, b * b = a) : ∃ k : Nat, (nD k = elD (rootE a)) ∧ ((els F).map fun b => ((b * b).v : Int))[k]? = some (a.v : Int) ∧ ∀ m, m < k → ((els F).map fun b => ((b * b).v : Int))[m]? ≠ some (a.v : Int) := by
  unfold rootE
  cases hq : (els F).find? fun b => decide (b * b = a) with
  | none =>
    obtain ⟨b, hb⟩ := h
    have := List.find?_eq_none.mp hq b (els_mem b)
    exact absurd hb (by simpa using this)
  | some b =>
    obtain ⟨h1, as, bs, h2, h3⟩ := List.find?_eq_some_iff_append.mp hq
    have h1 : b * b = a := by simpa using h1
    have hl : as.length < F.q := by
      have := congrArg List.length h2
      rw [els_len, List.length_append, List.length_cons] at this
      omega
    have hk : (els F)[as.length]? = some b := by rw [h2]; simp
    refine ⟨as.length, ?_, ?_, ?_⟩
    · rw [els_at F _ hl] at hk
      have := Option.some.inj hk
      show nD as.length = elD b
      rw [← this]
      rfl
    · rw [List.getElem?_map, hk, Option.map_some, h1]
    · intro m hm e
      rw [List.getElem?_map] at e
      have hm2 : (els F)[m]? = some as[m] := by rw [h2, List.getElem?_append_left hm, List.getElem?_eq_getElem hm]
      rw [hm2] at e
      have h4 := h3 as[m] (List.getElem_mem hm)
      have h5 : ¬ as[m] * as[m] = a := by simpa using h4
      have e2 : (((as[m]) * as[m]).v : Int) = a.v := Option.some.inj e
      exact h5 (El.ext (by omega))
end

def R_Field_squares : List D → (D → Prop) → Prop := fun ds f => ∃ (F : Fd), ds = [fldD F] ∧ f = fun d => d = .lst ((els F).map fun a => elD (a * a))
abbrev sp_Field_squares (K : PySem.W.Frag) : Sp := psp K R_Field_squares
theorem f_Field_squares {P : Program} {w : World} {K : PySem.W.Frag} {mg : Str → Option Value} {base : Heap} (T : Tx K mg base) : Met P w K mg base 3 (He.ga K "Field") "squares" (sp_Field_squares K) := by
  refine met_of (d_Field_squares T) (c_Field T) (m_Field_squares T) (N := ["self", "a"]) (ps := ["self"]) (fun _ _ _ _ _ _ us hl => match us, hl with | [_], _ => rfl) (by decide +kernel) (psp_len (by rintro ds f ⟨_, rfl, _⟩; rfl)) ?_
  intro cdv A outer sh H vs Q E hr hs
  let NN : List Str := ["self", "a"]
  have nd : List.Nodup (α := Str) ["self", "a"] := by decide +kernel
  refine ⟨_, (pss_one (ps_ret (pe_lc (own := [("a", 1)]) (g := (gName 1)) (tt := tYes) (te := (tMeth (He.ga K "Field") "multiply" (sp_Field_multiply K) [] E0 (tVar 0) (tCons (tVar 1) (tCons (tVar 1) tNil)))) rfl nd (pi_range1 (by rfl) (b_range T) (pa_cons (pe_fld (pv 0) rfl) pa_nil)) (blkOk_by (N := NN) (by kernel_rfl)) (fun _ _ _ _ _ => (pg_name (i := 1) nd rfl (by first | exact Or.inl rfl | exact Or.inr rfl))) (fun _ _ _ _ _ => pts_nil) (fun _ _ _ _ _ => (pe_mt (f_Field_multiply T) hr (by decide) (pv 0) (pa_cons (pv 1) (pa_cons (pv 1) pa_nil))))))), ?_⟩
  clear hr nd NN
  refine body_psp (n := 2) hs rfl ?_
  clear hs
  rintro ds f ⟨F, rfl, rfl⟩
  exact rs_retV (ro_map (l := els F) (sx := elD) (ex := fun a => elD (a * a)) (js := [1]) (rj_i (rj_els (fq T (rv_var rfl)) rfl)) (by rw [els_len]; have := F.le; omega) (by decide) fun a _ => ⟨_, rg_name, re_meth (rv_var rfl) rfl (ra_cons ((rv_var rfl)) (ra_cons ((rv_var rfl)) ra_nil)) ⟨_, _, _, rfl, rfl⟩⟩).v rfl
def R_Field_root : List D → (D → Prop) → Prop := fun ds f => ∃ (F : Fd) (a : El F), ∃ (hb : ∃ b : El F, b * b = a), ds = [fldD F, elD a] ∧ f = fun d => d = elD (rootE a)
abbrev sp_Field_root (K : PySem.W.Frag) : Sp := psp K R_Field_root
theorem f_Field_root {P : Program} {w : World} {K : PySem.W.Frag} {mg : Str → Option Value} {base : Heap} (T : Tx K mg base) : Met P w K mg base 4 (He.ga K "Field") "root" (sp_Field_root K) := by
  refine met_of (d_Field_root T) (c_Field T) (m_Field_root T) (N := ["self", "a", "found"]) (ps := ["self", "a"]) (fun _ _ _ _ _ _ us hl => match us, hl with | [_, _], _ => rfl) (by decide +kernel) (psp_len (by rintro ds f ⟨_, _, _, rfl, _⟩; rfl)) ?_
  intro cdv A outer sh H vs Q E hr hs
  let NN : List Str := ["self", "a", "found"]
  have nd : List.Nodup (α := Str) ["self", "a", "found"] := by decide +kernel
  refine ⟨_, (pss_cons (ps_set (i := 2) nd rfl (by first | exact Or.inl rfl | exact Or.inr rfl) (pe_mt0 (f_Field_squares T) hr (by decide) (pv 0)))
 (pss_cons (ps_if (pt_cmpR op_notIn_seq (pv 1) (pv 2) (by first | exact nomark _ | rfl | with_unfolding_all rfl)) (pss_one ps_never) pss_nil)
 (pss_one (ps_ret (pe_bm PySem.F.plainAttrs_list PySem.F.slot_list_index PySem.F.type_list_index mt_index (pv 2) (pa_cons (pv 1) pa_nil)))))), ?_⟩
  clear hr nd NN
  refine body_psp (n := 3) hs rfl ?_
  clear hs
  rintro ds f ⟨F, a, hb, rfl, rfl⟩
  obtain ⟨k, k1, k2, k3⟩ := root_at hb
  have em : (els F).map (fun a => elD (a * a)) = ((els F).map fun b => ((b * b).v : Int)).map D.int := by rw [List.map_map]; rfl
  refine rs_setq (re_meth0 (rv_var rfl) rfl ⟨_, rfl, rfl⟩) ?_
  rintro d rfl
  rw [em]
  refine rs_guard ((rt_test (rv_niL (rv_var rfl) (RunE.l (rv_var rfl)))).is ?_) (rs_retV (rv_idxL (RunE.l (rv_var rfl)) (rv_var rfl) k2 k3) k1)
  rw [decide_eq_true (List.mem_of_getElem? k2)]
  rfl
end Wk
/-! # WkW2 -/
set_option Elab.async false
set_option linter.all false
set_option maxRecDepth 100000
set_option maxHeartbeats 4000000
namespace Wk
open PySem PySem.Spec PyProof.Rows L2
def R_unit_row : List D → (D → Prop) → Prop := fun ds f => ∃ (F : Fd) (n : Nat) (i : Fin n), ∃ (hn : n ≤ 1000), ds = [nD n, nD i.val] ∧ f = fun d => d = rowD (runit i : Row F n)
abbrev sp_unit_row (K : PySem.W.Frag) : Sp := psp K R_unit_row
theorem f_unit_row {P : Program} {w : World} {K : PySem.W.Frag} {mg : Str → Option Value} {base : Heap} (T : Tx K mg base) : Cal P w K mg base 1 "unit_row" (sp_unit_row K) := by
  refine cal_of (d_unit_row T) (g_unit_row T) (N := ["n", "i", "k"]) (ps := ["n", "i"]) (fun _ _ _ _ _ _ us hl => match us, hl with | [_, _], _ => rfl) (by decide +kernel) (psp_len (by rintro ds f ⟨_, _, _, _, rfl, _⟩; rfl)) ?_
  intro cdv A outer sh H vs Q E hr hs
  let NN : List Str := ["n", "i", "k"]
  have nd : List.Nodup (α := Str) ["n", "i", "k"] := by decide +kernel
  refine ⟨_, (pss_one (ps_ret (pe_callTy call_tuple_of (by rfl) (b_tuple T) (by rfl) (pa_cons (pe_lc (own := [("k", 2)]) (g := (gName 2)) (tt := tYes) (te := (tCB rInt1 (tCons (tOp rEq (tVar 2) (tVar 1)) tNil))) rfl nd (pi_range1 (by rfl) (b_range T) (pa_cons (pv 0) pa_nil)) (blkOk_by (N := NN) (by kernel_rfl)) (fun _ _ _ _ _ => (pg_name (i := 2) nd rfl (by first | exact Or.inl rfl | exact Or.inr rfl))) (fun _ _ _ _ _ => pts_nil) (fun _ _ _ _ _ => (pe_callTy call_int1 (by rfl) (b_int T) (by rfl) (pa_cons (pe_cmpR op_eq (pv 2) (pv 1) (by first | exact nomark _ | rfl | with_unfolding_all rfl)) pa_nil)))) pa_nil)))), ?_⟩
  clear hr nd NN
  refine body_psp (n := 3) hs rfl ?_
  clear hs
  rintro ds f ⟨F, n, i, hn, rfl, rfl⟩
  refine rs_retV (rv_rowT (ro_map (l := List.finRange n) (sx := fun k => nD k.val) (ex := fun k => elD ((runit i : Row F n) k)) (js := [2]) (rj_i (rj_rng (rv_var rfl) rfl (by omega))) (by rw [List.length_finRange]; omega) (by decide) fun k _ => ⟨_, rg_name, (rv_intB (rv_eqI (rv_var rfl) (rv_var rfl))).is ?_⟩)) rfl
  unfold runit
  by_cases h : k = i
  · subst h
    rw [if_pos rfl, if_pos (by simp)]
    rfl
  · rw [if_neg h, if_neg (by
      have : ¬ k.val = i.val := fun z => h (Fin.ext z)
      simp
      omega)]
    rfl
def R_add : List D → (D → Prop) → Prop := fun ds f => ∃ (F : Fd) (n : Nat) (v w : Row F n), ∃ (hn : n ≤ 1000), ds = [fldD F, rowD v, rowD w] ∧ f = fun d => d = nrwD (radd v w)
abbrev sp_add (K : PySem.W.Frag) : Sp := psp K R_add
theorem f_add {P : Program} {w : World} {K : PySem.W.Frag} {mg : Str → Option Value} {base : Heap} (T : Tx K mg base) : Cal P w K mg base 3 "add" (sp_add K) := by
  refine cal_of (d_add T) (g_add T) (N := ["field", "v", "w", "a", "b"]) (ps := ["field", "v", "w"]) (fun _ _ _ _ _ _ us hl => match us, hl with | [_, _, _], _ => rfl) (by decide +kernel) (psp_len (by rintro ds f ⟨_, _, _, _, _, rfl, _⟩; rfl)) ?_
  intro cdv A outer sh H vs Q E hr hs
  let NN : List Str := ["field", "v", "w", "a", "b"]
  have nd : List.Nodup (α := Str) ["field", "v", "w", "a", "b"] := by decide +kernel
  refine ⟨_, (pss_one (ps_ret (pe_callTy call_tupN (by rfl) (b_tuple T) (by rfl) (pa_cons (pe_lc (own := [("a", 3), ("b", 4)]) (g := (gTup K 2 (gCons (gName 3) (gCons (gName 4) gNil)))) (tt := tYes) (te := (tMeth (He.ga K "Field") "add" (sp_Field_add K) [] E0 (tVar 0) (tCons (tVar 3) (tCons (tVar 4) tNil)))) rfl nd (RZ.pi_zipA (by rfl) (b_zip T) (pa_cons (pv 1) (pa_cons (pv 2) pa_nil))) (blkOk_by (N := NN) (by kernel_rfl)) (fun _ _ _ _ _ => (pg_tup rfl (pgs_cons (pg_name (i := 3) nd rfl (by first | exact Or.inl rfl | exact Or.inr rfl)) (pgs_cons (pg_name (i := 4) nd rfl (by first | exact Or.inl rfl | exact Or.inr rfl)) pgs_nil)))) (fun _ _ _ _ _ => pts_nil) (fun _ _ _ _ _ => (pe_mt (f_Field_add T) hr (by decide) (pv 0) (pa_cons (pv 3) (pa_cons (pv 4) pa_nil))))) pa_nil)))), ?_⟩
  clear hr nd NN
  refine body_psp (n := 5) hs rfl ?_
  clear hs
  rintro ds f ⟨F, n, v, w, hn, rfl, rfl⟩
  exact rs_retV (rv_rowN (ro_map (l := List.finRange n) (sx := fun i => .tup [elD (v i), elD (w i)]) (ex := fun i => elD (radd v w i)) (js := [3, 4]) (rj_i (rj_zipR (rv_var rfl) (rv_var rfl))) (by rw [List.length_finRange]; omega) (by decide) fun i _ => ⟨_, rg_tup2, re_meth (rv_var rfl) rfl (ra_cons ((rv_var rfl)) (ra_cons ((rv_var rfl)) ra_nil)) ⟨_, _, _, rfl, rfl⟩⟩)) rfl
def R_scaled : List D → (D → Prop) → Prop := fun ds f => ∃ (F : Fd) (n : Nat) (v : Row F n) (c : El F), ∃ (hn : n ≤ 1000), ds = [fldD F, rowD v, elD c] ∧ f = fun d => d = nrwD (rscl v c)
abbrev sp_scaled (K : PySem.W.Frag) : Sp := psp K R_scaled
theorem f_scaled {P : Program} {w : World} {K : PySem.W.Frag} {mg : Str → Option Value} {base : Heap} (T : Tx K mg base) : Cal P w K mg base 3 "scaled" (sp_scaled K) := by
  refine cal_of (d_scaled T) (g_scaled T) (N := ["field", "v", "c", "a"]) (ps := ["field", "v", "c"]) (fun _ _ _ _ _ _ us hl => match us, hl with | [_, _, _], _ => rfl) (by decide +kernel) (psp_len (by rintro ds f ⟨_, _, _, _, _, rfl, _⟩; rfl)) ?_
  intro cdv A outer sh H vs Q E hr hs
  let NN : List Str := ["field", "v", "c", "a"]
  have nd : List.Nodup (α := Str) ["field", "v", "c", "a"] := by decide +kernel
  refine ⟨_, (pss_one (ps_ret (pe_callTy call_tupN (by rfl) (b_tuple T) (by rfl) (pa_cons (pe_lc (own := [("a", 3)]) (g := (gName 3)) (tt := tYes) (te := (tMeth (He.ga K "Field") "multiply" (sp_Field_multiply K) [] E0 (tVar 0) (tCons (tVar 3) (tCons (tVar 2) tNil)))) rfl nd (pi_tup (pv 1)) (blkOk_by (N := NN) (by kernel_rfl)) (fun _ _ _ _ _ => (pg_name (i := 3) nd rfl (by first | exact Or.inl rfl | exact Or.inr rfl))) (fun _ _ _ _ _ => pts_nil) (fun _ _ _ _ _ => (pe_mt (f_Field_multiply T) hr (by decide) (pv 0) (pa_cons (pv 3) (pa_cons (pv 2) pa_nil))))) pa_nil)))), ?_⟩
  clear hr nd NN
  refine body_psp (n := 4) hs rfl ?_
  clear hs
  rintro ds f ⟨F, n, v, c, hn, rfl, rfl⟩
  exact rs_retV (rv_rowN (ro_map (l := List.finRange n) (sx := fun i => elD (v i)) (ex := fun i => elD (rscl v c i)) (js := [3]) (rj_i (rj_row (rv_var rfl))) (by rw [List.length_finRange]; omega) (by decide) fun i _ => ⟨_, rg_name, re_meth (rv_var rfl) rfl (ra_cons ((rv_var rfl)) (ra_cons ((rv_var rfl)) ra_nil)) ⟨_, _, _, rfl, rfl⟩⟩)) rfl
def R_dot : List D → (D → Prop) → Prop := fun ds f => ∃ (F : Fd) (n : Nat) (v w : Row F n), ds = [fldD F, rowD v, rowD w] ∧ f = fun d => d = elD (dot v w)
abbrev sp_dot (K : PySem.W.Frag) : Sp := psp K R_dot
theorem f_dot {P : Program} {w : World} {K : PySem.W.Frag} {mg : Str → Option Value} {base : Heap} (T : Tx K mg base) : Cal P w K mg base 3 "dot" (sp_dot K) := by
  refine cal_of (d_dot T) (g_dot T) (N := ["field", "v", "w", "found", "a", "b"]) (ps := ["field", "v", "w"]) (fun _ _ _ _ _ _ us hl => match us, hl with | [_, _, _], _ => rfl) (by decide +kernel) (psp_len (by rintro ds f ⟨_, _, _, _, rfl, _⟩; rfl)) ?_
  intro cdv A outer sh H vs Q E hr hs
  let NN : List Str := ["field", "v", "w", "found", "a", "b"]
  have nd : List.Nodup (α := Str) ["field", "v", "w", "found", "a", "b"] := by decide +kernel
  refine ⟨_, (pss_cons (ps_set (i := 3) nd rfl (by first | exact Or.inl rfl | exact Or.inr rfl) pe_int)
 (pss_cons (ps_for PassesOwn.never rfl (RZ.pi_zipA (by rfl) (b_zip T) (pa_cons (pv 1) (pa_cons (pv 2) pa_nil))) (pg_tup rfl (pgs_cons (pg_name (i := 4) nd rfl (by first | exact Or.inl rfl | exact Or.inr rfl)) (pgs_cons (pg_name (i := 5) nd rfl (by first | exact Or.inl rfl | exact Or.inr rfl)) pgs_nil))) (pss_one (ps_set (i := 3) nd rfl (by first | exact Or.inl rfl | exact Or.inr rfl) (pe_mt (f_Field_add T) hr (by decide) (pv 0) (pa_cons (pv 3) (pa_cons (pe_mt (f_Field_multiply T) hr (by decide) (pv 0) (pa_cons (pv 4) (pa_cons (pv 5) pa_nil))) pa_nil))))))
 (pss_one (ps_ret (pv 3))))), ?_⟩
  clear hr nd NN
  refine body_psp (n := 6) hs rfl ?_
  clear hs
  rintro ds f ⟨F, n, v, w, rfl, rfl⟩
  refine rs_setV (d := elD (0 : El F)) rv_int ?_
  refine rs_forF (l := List.finRange n) (sx := fun i => .tup [elD (v i), elD (w i)]) (js := [4, 5]) (fun s i => s + v i * w i) (fun _ => True) (fun s => [.im (fldD F), .im (rowD v), .im (rowD w), .im (elD s), .un, .un]) 0 (rj_zipR (rv_var rfl) (rv_var rfl)) (by repeat' (first | exact True.intro | refine And.intro ?_ ?_ | exact Or.inl rfl | exact Or.inr rfl)) (fun pre i post _ _ => ⟨_, rg_tup2, (fun _ h => h), ?_⟩) fun _ => rs_retV (rv_var rfl) rfl
  refine rs_set (re_meth (rv_var rfl) rfl (ra_cons ((rv_var rfl)) (ra_cons (re_meth (rv_var rfl) rfl (ra_cons ((rv_var rfl)) (ra_cons ((rv_var rfl)) ra_nil)) ⟨_, _, _, rfl, rfl⟩) ra_nil)) ⟨_, _, _, rfl, rfl⟩) ?_
  rintro d rfl
  exact ⟨trivial, (by repeat' (first | exact True.intro | refine And.intro ?_ ?_ | exact Or.inl rfl | exact Or.inr rfl))⟩
def R_combine : List D → (D → Prop) → Prop := fun ds f => ∃ (F : Fd) (n k : Nat) (l : List (Row F n)) (c : Row F k), ∃ (hn : n ≤ 1000), ds = [fldD F, tabD l, rowD c, nD n] ∧ f = fun d => d = rowD (comb l (List.ofFn c))
abbrev sp_combine (K : PySem.W.Frag) : Sp := psp K R_combine
theorem f_combine {P : Program} {w : World} {K : PySem.W.Frag} {mg : Str → Option Value} {base : Heap} (T : Tx K mg base) : Cal P w K mg base 4 "combine" (sp_combine K) := by
  refine cal_of (d_combine T) (g_combine T) (N := ["field", "rows", "weights", "width", "found", "row", "c"]) (ps := ["field", "rows", "weights", "width"]) (fun _ _ _ _ _ _ us hl => match us, hl with | [_, _, _, _], _ => rfl) (by decide +kernel) (psp_len (by rintro ds f ⟨_, _, _, _, _, _, rfl, _⟩; rfl)) ?_
  intro cdv A outer sh H vs Q E hr hs
  let NN : List Str := ["field", "rows", "weights", "width", "found", "row", "c"]
  have nd : List.Nodup (α := Str) ["field", "rows", "weights", "width", "found", "row", "c"] := by decide +kernel
  refine ⟨_, (pss_cons (ps_set (i := 4) nd rfl (by first | exact Or.inl rfl | exact Or.inr rfl) (pe_callTy call_tuple_of (by rfl) (b_tuple T) (by rfl) (pa_cons (pe_op op_rep (pe_lst (pa_cons pe_int pa_nil)) (pv 3)) pa_nil)))
 (pss_cons (ps_for PassesOwn.never rfl (RZ.pi_zipA (by rfl) (b_zip T) (pa_cons (pv 1) (pa_cons (pv 2) pa_nil))) (pg_tup rfl (pgs_cons (pg_name (i := 5) nd rfl (by first | exact Or.inl rfl | exact Or.inr rfl)) (pgs_cons (pg_name (i := 6) nd rfl (by first | exact Or.inl rfl | exact Or.inr rfl)) pgs_nil))) (pss_one (ps_set (i := 4) nd rfl (by first | exact Or.inl rfl | exact Or.inr rfl) (pe_c (f_add T) hr (by decide) (by rfl) (pa_cons (pv 0) (pa_cons (pv 4) (pa_cons (pe_c (f_scaled T) hr (by decide) (by rfl) (pa_cons (pv 0) (pa_cons (pv 5) (pa_cons (pv 6) pa_nil)))) pa_nil)))))))
 (pss_one (ps_ret (pv 4))))), ?_⟩
  clear hr nd NN
  refine body_psp (n := 7) hs rfl ?_
  clear hs
  rintro ds f ⟨F, n, k, l, c, hn, rfl, rfl⟩
  refine rs_setV (d := rowD (rzero : Row F n)) ?_ ?_
  · have h : List.replicate n (nD 0) = (List.finRange n).map fun i => elD ((rzero : Row F n) i) := by
      apply List.ext_getElem
      · simp
      · intro i h1 h2; simp; rfl
    have h2 := ro_rep (K := K) (r := ent 7 [fldD F, tabD l, rowD c, nD n]) (ta := tLst (tCons (tC (.int 0)) tNil)) (tb := tVar 3) (k := n) (d := nD 0) (ro_m (rov_lst (ra_cons (rv_int) ra_nil))) (rv_var rfl) (by omega)
    rw [h] at h2
    exact rv_rowT h2
  refine rs_forF (l := l.zip (List.ofFn c)) (sx := fun p => .tup [rowD p.1, elD p.2]) (js := [5, 6]) (fun s p => radd s (rscl p.1 p.2)) (fun _ => True) (fun s => [.im (fldD F), .im (tabD l), .im (rowD c), .im (nD n), .im (rowD s), .un, .un]) rzero (rj_zipTab (rv_var rfl) (rv_var rfl)) (by repeat' (first | exact True.intro | refine And.intro ?_ ?_ | exact Or.inl rfl | exact Or.inr rfl)) (fun pre i post _ _ => ⟨_, rg_tup2, (fun _ h => h), ?_⟩) fun _ => rs_retV (rv_var rfl) rfl
  refine rs_set (nrow_row (re_call (ra_cons ((rv_var rfl)) (ra_cons ((rv_var rfl)) (ra_cons (nrow_row (re_call (ra_cons ((rv_var rfl)) (ra_cons ((rv_var rfl)) (ra_cons ((rv_var rfl)) ra_nil))) ⟨_, _, _, _, hn, rfl, rfl⟩)) ra_nil))) ⟨_, _, _, _, hn, rfl, rfl⟩)) ?_
  rintro d rfl
  exact ⟨trivial, (by repeat' (first | exact True.intro | refine And.intro ?_ ?_ | exact Or.inl rfl | exact Or.inr rfl))⟩
def R_cleared : List D → (D → Prop) → Prop := fun ds f => ∃ (F : Fd) (n : Nat) (row lead : Row F n) (a : Fin n), ∃ (hn : n ≤ 1000), ds = [fldD F, rowD row, rowD lead, nD a.val] ∧ f = fun d => d = nrwD (cleared row lead a)
abbrev sp_cleared (K : PySem.W.Frag) : Sp := psp K R_cleared
theorem f_cleared {P : Program} {w : World} {K : PySem.W.Frag} {mg : Str → Option Value} {base : Heap} (T : Tx K mg base) : Cal P w K mg base 4 "cleared" (sp_cleared K) := by
  refine cal_of (d_cleared T) (g_cleared T) (N := ["field", "row", "lead", "at"]) (ps := ["field", "row", "lead", "at"]) (fun _ _ _ _ _ _ us hl => match us, hl with | [_, _, _, _], _ => rfl) (by decide +kernel) (psp_len (by rintro ds f ⟨_, _, _, _, _, _, rfl, _⟩; rfl)) ?_
  intro cdv A outer sh H vs Q E hr hs
  let NN : List Str := ["field", "row", "lead", "at"]
  have nd : List.Nodup (α := Str) ["field", "row", "lead", "at"] := by decide +kernel
  refine ⟨_, (pss_one (ps_ret (pe_c (f_add T) hr (by decide) (by rfl) (pa_cons (pv 0) (pa_cons (pv 1) (pa_cons (pe_c (f_scaled T) hr (by decide) (by rfl) (pa_cons (pv 0) (pa_cons (pv 2) (pa_cons (pe_mt (f_Field_negative T) hr (by decide) (pv 0) (pa_cons (pe_ix ix_tup (pv 1) (pv 3) (fun _ _ => rfl)) pa_nil)) pa_nil)))) pa_nil)))))), ?_⟩
  clear hr nd NN
  refine body_psp (n := 4) hs rfl ?_
  clear hs
  rintro ds f ⟨F, n, row, lead, a, hn, rfl, rfl⟩
  exact rs_retV (re_call (ra_cons ((rv_var rfl)) (ra_cons ((rv_var rfl)) (ra_cons (nrow_row (re_call (ra_cons ((rv_var rfl)) (ra_cons ((rv_var rfl)) (ra_cons (re_meth (rv_var rfl) rfl (ra_cons (rv_rowIx (rv_var rfl) (rv_var rfl) rfl) ra_nil) ⟨_, _, rfl, rfl⟩) ra_nil))) ⟨_, _, _, _, hn, rfl, rfl⟩)) ra_nil))) ⟨_, _, _, _, hn, rfl, rfl⟩) rfl
end Wk
/-! # WkW3 -/
set_option Elab.async false
set_option linter.all false
set_option maxRecDepth 100000
set_option maxHeartbeats 4000000
namespace Wk
open PySem PySem.Spec PyProof.Rows L2
section
variable {F : Fd} {n : Nat}
theorem redStep_len (s : RS F n) (a : Fin n) : (redStep s a).left.length = s.left.length ∧ (redStep s a).table.length ≤ s.table.length + 1 ∧ ((redStep s a).piv.length = (redStep s a).table.length ↔ s.piv.length = s.table.length) := by
  unfold redStep
  split
  · exact ⟨rfl, by omega, Iff.rfl⟩
  · refine ⟨by simp, by simp, ?_⟩
    simp
theorem red_len (pre : List (Fin n)) : ∀ s : RS F n, (pre.foldl redStep s).left.length = s.left.length ∧ (pre.foldl redStep s).table.length ≤ s.table.length + pre.length ∧ ((pre.foldl redStep s).piv.length = (pre.foldl redStep s).table.length ↔ s.piv.length = s.table.length) := by
  induction pre with
  | nil => intro s; exact ⟨rfl, by simp, Iff.rfl⟩
  | cons a pre ih =>
    intro s
    obtain ⟨h1, h2, h3⟩ := redStep_len s a
    obtain ⟨g1, g2, g3⟩ := ih (redStep s a)
    refine ⟨g1.trans h1, ?_, g3.trans h3⟩
    rw [List.length_cons]
    exact Nat.le_trans g2 (by omega)
theorem fin_pre {n : Nat} {pre post : List (Fin n)} {a : Fin n} (h : List.finRange n = pre ++ a :: post) : pre.length < n := by
  have := congrArg List.length h
  rw [List.length_finRange, List.length_append, List.length_cons] at this
  omega
theorem red_tab_len (l : List (Row F n)) : (red l).table.length ≤ n ∧ (red l).piv.length = (red l).table.length := by
  obtain ⟨_, h2, h3⟩ := red_len (List.finRange n) (⟨l, [], []⟩ : RS F n)
  rw [List.length_finRange] at h2
  exact ⟨by simpa [red] using h2, h3.mpr rfl⟩
theorem span_len (l : List (Row F n)) : (span l).length ≤ n := (red_tab_len l).1
theorem kernel_len (l : List (Row F n)) : (kernel l).length ≤ n := span_len _
end
section
variable {K : PySem.W.Frag} {r : En} {te : TE}
theorem map_fin {A B : Type} (l : List A) (f : A → B) : l.map f = (List.finRange l.length).map fun i => f l[i.val] := by
  apply List.ext_getElem?
  intro i
  rw [List.getElem?_map, List.getElem?_map]
  by_cases h : i < l.length
  · rw [List.getElem?_eq_getElem h, List.getElem?_eq_getElem (by rw [List.length_finRange]; exact h)]
    simp
  · rw [List.getElem?_eq_none (by omega), List.getElem?_eq_none (by rw [List.length_finRange]; omega)]
    rfl
theorem rv_allT {A : Type} {l : List A} (h : RunOV K te r (l.map fun _ => D.bl true)) : RunV K (tCB (rAll K) (tCons te tNil)) r (.bl true) := by
  have e : (l.map fun _ => D.bl true) = (l.map fun _ => true).map D.bl := by rw [List.map_map]; rfl
  rw [e] at h
  refine (rv_all h.l).is ?_
  congr 1
  rw [List.all_map]
  simp
end

def R_is_row : List D → (D → Prop) → Prop := fun ds f => ∃ (F : Fd) (n : Nat) (v : Row F n), ∃ (hn : n ≤ 1000), ds = [fldD F, rowD v, nD n] ∧ f = fun d => d = .bl true
abbrev sp_is_row (K : PySem.W.Frag) : Sp := psp K R_is_row
theorem f_is_row {P : Program} {w : World} {K : PySem.W.Frag} {mg : Str → Option Value} {base : Heap} (T : Tx K mg base) : Cal P w K mg base 3 "is_row" (sp_is_row K) := by
  refine cal_of (d_is_row T) (g_is_row T) (N := ["field", "value", "n", "item"]) (ps := ["field", "value", "n"]) (fun _ _ _ _ _ _ us hl => match us, hl with | [_, _, _], _ => rfl) (by decide +kernel) (psp_len (by rintro ds f ⟨_, _, _, _, rfl, _⟩; rfl)) ?_
  intro cdv A outer sh H vs Q E hr hs
  let NN : List Str := ["field", "value", "n", "item"]
  have nd : List.Nodup (α := Str) ["field", "value", "n", "item"] := by decide +kernel
  refine ⟨_, (pss_one (ps_ret (pe_and (pe_callB call_isi (by rfl) (b_isinstance T) (by rfl) (pa_cons (pv 1) (pa_cons (pe_bltn (v := .ty "tuple") (by rfl) (b_tuple T) (by rfl) rfl) pa_nil))) (pe_and (pe_cmpR op_eq (pe_callB call_len_seq (by rfl) (b_len T) PySem.boot_len (pa_cons (pv 1) pa_nil)) (pv 2) (by first | exact nomark _ | rfl | with_unfolding_all rfl)) (pe_one (pe_callB (cr_all rfl) (by rfl) (b_all T) (by rfl) (pa_cons (pe_lc (own := [("item", 3)]) (g := (gName 3)) (tt := tYes) (te := (tMeth (He.ga K "Field") "is_number" (sp_Field_is_number K) [] E0 (tVar 0) (tCons (tVar 3) tNil))) rfl nd (pi_tup (pv 1)) (blkOk_by (N := NN) (by kernel_rfl)) (fun _ _ _ _ _ => (pg_name (i := 3) nd rfl (by first | exact Or.inl rfl | exact Or.inr rfl))) (fun _ _ _ _ _ => pts_nil) (fun _ _ _ _ _ => (pe_mt (f_Field_is_number T) hr (by decide) (pv 0) (pa_cons (pv 3) pa_nil)))) pa_nil))))))), ?_⟩
  clear hr nd NN
  refine body_psp (n := 4) hs rfl ?_
  clear hs
  rintro ds f ⟨F, n, v, hn, rfl, rfl⟩
  refine rs_retV (rv_andV (rv_isi (b := true) (rv_var rfl) rfl (by decide +kernel)) fun _ => rv_andV (rv_eqI (rv_lenT (rv_var rfl) rfl) (rv_var rfl)) fun _ => rv_allT (ro_map (l := List.finRange n) (sx := fun i => elD (v i)) (ex := fun _ => .bl true) (js := [3]) (rj_i (rj_row (rv_var rfl))) (by rw [List.length_finRange]; omega) (by decide) fun i _ => ⟨_, rg_name, re_meth (rv_var rfl) rfl (ra_cons ((rv_var rfl)) ra_nil) ⟨_, _, rfl, rfl⟩⟩)) ?_
  show D.bl _ = D.bl _
  rw [List.length_map, rowI_len]
  simp
theorem f_is_row_linear {P : Program} {w : World} {K : PySem.W.Frag} {mg : Str → Option Value} {base : Heap} (T : Tx K mg base) : Cal P w K mg base 3 "is_row_linear" (sp_is_row K) := by
  obtain ⟨f, fd, ps, h1, h2, h3, h4⟩ := (f_is_row (P := P) (w := w) T).ex
  have e := g_is_row T
  rw [h2] at e
  cases e
  have h := g_is_row_linear T
  rw [rowlin T] at h
  exact ⟨_, fd, ps, h1, h, h3, h4⟩
def R_reduced : List D → (D → Prop) → Prop := fun ds f => ∃ (F : Fd) (n : Nat) (b : Bool) (l : List (Row F n)), ∃ (hn : n ≤ 1000), ∃ (hl : l.length ≤ 1000), ds = [fldD F, seqD b (l.map rowD), nD n] ∧ f = fun d => d = .tup [tabN (red l).table, .tup ((red l).piv.map fun i => nD i.val)]
abbrev sp_reduced (K : PySem.W.Frag) : Sp := psp K R_reduced
theorem f_reduced {P : Program} {w : World} {K : PySem.W.Frag} {mg : Str → Option Value} {base : Heap} (T : Tx K mg base) : Cal P w K mg base 5 "reduced" (sp_reduced K) := by
  refine cal_of (d_reduced T) (g_reduced T) (N := ["field", "rows", "width", "left", "row", "table", "pivots", "at", "heads", "lead"]) (ps := ["field", "rows", "width"]) (fun _ _ _ _ _ _ us hl => match us, hl with | [_, _, _], _ => rfl) (by decide +kernel) (psp_len (by rintro ds f ⟨_, _, _, _, _, _, rfl, _⟩; rfl)) ?_
  intro cdv A outer sh H vs Q E hr hs
  let NN : List Str := ["field", "rows", "width", "left", "row", "table", "pivots", "at", "heads", "lead"]
  have nd : List.Nodup (α := Str) ["field", "rows", "width", "left", "row", "table", "pivots", "at", "heads", "lead"] := by decide +kernel
  refine ⟨_, (pss_cons (ps_setLc (i := 3) (own := [("row", 4)]) (g := (gName 4)) (tt := tYes) (te := (tCB (rTupS K) (tCons (tVar 4) tNil))) rfl nd rfl rfl (sw_true rfl rfl rfl (by decide +kernel)) (pi_or2 (pi_list (pv 1)) (pi_tup (pv 1))) (blkOk_by (N := NN) (by kernel_rfl)) (fun _ _ _ _ _ => (pg_name (i := 4) nd rfl (by first | exact Or.inl rfl | exact Or.inr rfl))) (fun _ _ _ _ _ => pts_nil) (fun _ _ _ _ _ => (pe_callTy call_tuple_of (by rfl) (b_tuple T) (by rfl) (pa_cons (pv 4) pa_nil))))
 (pss_cons (ps_set (i := 5) nd rfl (by first | exact Or.inl rfl | exact Or.inr rfl) (pe_lst pa_nil))
 (pss_cons (ps_set (i := 6) nd rfl (by first | exact Or.inl rfl | exact Or.inr rfl) (pe_lst pa_nil))
 (pss_cons (ps_for PassesOwn.never rfl (pi_range1 (by rfl) (b_range T) (pa_cons (pv 2) pa_nil)) (pg_name (i := 7) nd rfl (by first | exact Or.inl rfl | exact Or.inr rfl)) (pss_cons (ps_setLc (i := 8) (own := [("row", 4)]) (g := (gName 4)) (tt := (tTest (tOp rNe (tOp (rIxT K) (tVar 4) (tVar 7)) (tC (.int 0))))) (te := (tVar 4)) rfl nd rfl rfl (sw_true rfl rfl rfl (by decide +kernel)) (pi_list (pv 3)) (blkOk_by (N := NN) (by kernel_rfl)) (fun _ _ _ _ _ => (pg_name (i := 4) nd rfl (by first | exact Or.inl rfl | exact Or.inr rfl))) (fun _ _ _ _ _ => (pts_one (pt_cmpR op_ne (pe_ix ix_tup (pv 4) (pv 7) (fun _ _ => rfl)) pe_int (by first | exact nomark _ | rfl | with_unfolding_all rfl)))) (fun _ _ _ _ _ => (pv 4)))
 (pss_one (ps_if (pt_cmpR op_gt (pe_callB call_len_seq (by rfl) (b_len T) PySem.boot_len (pa_cons (pv 8) pa_nil)) pe_int (by first | exact nomark _ | rfl | with_unfolding_all rfl)) (pss_cons (ps_set (i := 9) nd rfl (by first | exact Or.inl rfl | exact Or.inr rfl) (pe_c (f_scaled T) hr (by decide) (by rfl) (pa_cons (pv 0) (pa_cons (pe_ix ix_list (pv 8) pe_int (fun _ _ => rfl)) (pa_cons (pe_mt (f_Field_inverse T) hr (by decide) (pv 0) (pa_cons (pe_ix ix_tup (pe_ix ix_list (pv 8) pe_int (fun _ _ => rfl)) (pv 7) (fun _ _ => rfl)) pa_nil)) pa_nil)))))
 (pss_cons (ps_setLc (i := 3) (own := [("row", 4)]) (g := (gName 4)) (tt := tYes) (te := (tCall (sp_cleared K) [] E0 (tCons (tVar 0) (tCons (tVar 4) (tCons (tVar 9) (tCons (tVar 7) tNil)))))) rfl nd rfl rfl (sw_true rfl rfl rfl (by decide +kernel)) (pi_list (pv 3)) (blkOk_by (N := NN) (by kernel_rfl)) (fun _ _ _ _ _ => (pg_name (i := 4) nd rfl (by first | exact Or.inl rfl | exact Or.inr rfl))) (fun _ _ _ _ _ => pts_nil) (fun _ _ _ _ _ => (pe_c (f_cleared T) hr (by decide) (by rfl) (pa_cons (pv 0) (pa_cons (pv 4) (pa_cons (pv 9) (pa_cons (pv 7) pa_nil)))))))
 (pss_cons (ps_set (i := 5) nd rfl (by first | exact Or.inl rfl | exact Or.inr rfl) (pe_op op_cat (pe_lc (own := [("row", 4)]) (g := (gName 4)) (tt := tYes) (te := (tCall (sp_cleared K) [] E0 (tCons (tVar 0) (tCons (tVar 4) (tCons (tVar 9) (tCons (tVar 7) tNil)))))) rfl nd (pi_list (pv 5)) (blkOk_by (N := NN) (by kernel_rfl)) (fun _ _ _ _ _ => (pg_name (i := 4) nd rfl (by first | exact Or.inl rfl | exact Or.inr rfl))) (fun _ _ _ _ _ => pts_nil) (fun _ _ _ _ _ => (pe_c (f_cleared T) hr (by decide) (by rfl) (pa_cons (pv 0) (pa_cons (pv 4) (pa_cons (pv 9) (pa_cons (pv 7) pa_nil))))))) (pe_lst (pa_cons (pv 9) pa_nil))))
 (pss_one (ps_expr (pe_bm PySem.F.plainAttrs_list PySem.F.slot_list_append PySem.F.type_list_append mt_append (pv 6) (pa_cons (pv 7) pa_nil))))))) pss_nil))))
 (pss_one (ps_ret (pe_tup (pa_cons (pe_callTy call_tuple_of (by rfl) (b_tuple T) (by rfl) (pa_cons (pv 5) pa_nil)) (pa_cons (pe_callTy call_tuple_of (by rfl) (b_tuple T) (by rfl) (pa_cons (pv 6) pa_nil)) pa_nil))))))))), ?_⟩
  clear hr nd NN
  refine body_psp (n := 10) hs rfl ?_
  clear hs
  rintro ds f ⟨F, n, b, l, hn, hl, rfl, rfl⟩
  refine rs_lstV (ro_map (l := l) (sx := rowD) (ex := rowD) (js := [4]) (rj_i (rj_seq (rv_var rfl))) (by omega) (by decide) fun v _ => ⟨_, rg_name, rv_tupT (rv_var rfl)⟩) ?_
  refine rs_lstV (rov_lst ra_nil) ?_
  refine rs_ownV (rov_lst ra_nil) fun p => ?_
  refine rs_forF (l := List.finRange n) (sx := fun i => nD i.val) (js := [7]) redStep (fun _ => True) (fun s => [.im (fldD F), .im (seqD b (l.map rowD)), .im (nD n), .im (lstD s.left), .un, .im (lstN s.table), .ow p (s.piv.map fun i => nD i.val), .un, .un, .un]) ⟨l, [], []⟩ (rj_rng (rv_var rfl) rfl (by omega)) (by repeat' (first | exact True.intro | refine And.intro ?_ ?_ | exact Or.inl rfl | exact Or.inr rfl)) (fun pre a post hpre _ => ?_) fun _ => rs_retV (rv_tup (ra_cons (rv_tupL (RunE.l (rv_var rfl))) (ra_cons (rv_tupL (rl_own rfl)) ra_nil))) rfl
  obtain ⟨g1, g2, g3⟩ := red_len pre (⟨l, [], []⟩ : RS F n)
  have hp := fin_pre hpre
  generalize pre.foldl redStep (⟨l, [], []⟩ : RS F n) = s at g1 g2 g3 ⊢
  have g1 : s.left.length = l.length := g1
  have g2 : s.table.length ≤ pre.length := by simpa using g2
  have g3 : s.piv.length = s.table.length := g3.mpr rfl
  refine ⟨_, rg_name, (fun _ h => h), ?_⟩
  refine rs_lstV (ro_lc (l := s.left) (sx := rowD) (ex := rowD) (p := fun r => !decide (r a = 0)) (js := [4]) (rj_i (rj_list (rv_var rfl))) (by omega) (by decide) fun v _ => ⟨_, rg_name, (rt_test (rv_neI (rv_rowIx (rv_var rfl) (rv_var rfl) rfl) rv_int)).is (by rw [el_is0]), fun _ => (rv_var rfl)⟩) ?_
  refine rs_if (rt_test (rv_gt (rv_lenL (RunE.l (rv_var rfl)) rfl) rv_int)) (fun h => ?_) fun h => ?_
  · have h := of_decide_eq_true h
    rw [List.length_map] at h
    cases hq : s.left.filter fun r => !decide (r a = 0) with
    | nil => rw [hq] at h; simp at h
    | cons x xs =>
      have hx : ¬ x a = 0 := by
        have : x ∈ s.left.filter fun r => !decide (r a = 0) := by rw [hq]; exact List.mem_cons_self ..
        simpa using (List.mem_filter.mp this).2
      have e1 : redStep s a = ⟨s.left.map fun r => cleared r (rscl x (x a)⁻¹) a, (s.table.map fun r => cleared r (rscl x (x a)⁻¹) a) ++ [rscl x (x a)⁻¹], s.piv ++ [a]⟩ := by
        unfold redStep
        rw [hq]
      rw [e1]
      refine rs_setV (re_call (ra_cons ((rv_var rfl)) (ra_cons (rv_lstIx (k := 0) (v := x) (RunE.l (rv_var rfl)) rv_int rfl rfl) (ra_cons (re_meth (rv_var rfl) rfl (ra_cons (rv_rowIx (rv_lstIx (k := 0) (v := x) (RunE.l (rv_var rfl)) rv_int rfl rfl) (rv_var rfl) rfl) ra_nil) ⟨_, _, hx, rfl, rfl⟩) ra_nil))) ⟨_, _, _, _, hn, rfl, rfl⟩) ?_
      refine rs_setV (nrows_lst (l := s.left.map fun r => cleared r (rscl x (x a)⁻¹) a) ((ro_map (l := s.left) (sx := rowD) (ex := fun r => nrwD (cleared r (rscl x (x a)⁻¹) a)) (js := [4]) (rj_i (rj_list (rv_var rfl))) (by omega) (by decide) fun v _ => ⟨_, rg_name, re_call (ra_cons ((rv_var rfl)) (ra_cons ((rv_var rfl)) (ra_cons (nrow_row (rv_var rfl)) (ra_cons ((rv_var rfl)) ra_nil)))) ⟨_, _, _, _, _, hn, rfl, rfl⟩⟩).v.is (show _ = D.lst (List.map nrwD _) by rw [List.map_map]; rfl))) ?_
      refine rs_setV (d := lstN ((s.table.map fun r => cleared r (rscl x (x a)⁻¹) a) ++ [rscl x (x a)⁻¹])) ((ro_cat (ro_m (ro_map (l := s.table) (sx := nrwD) (ex := fun r => nrwD (cleared r (rscl x (x a)⁻¹) a)) (js := [4]) (rj_i (rj_list (rv_var rfl))) (by omega) (by decide) fun v _ => ⟨_, rg_name, re_call (ra_cons ((rv_var rfl)) (ra_cons (nrow_row (rv_var rfl)) (ra_cons (nrow_row (rv_var rfl)) (ra_cons ((rv_var rfl)) ra_nil)))) ⟨_, _, _, _, _, hn, rfl, rfl⟩⟩)) (ro_m (rov_lst (ra_cons ((rv_var rfl)) ra_nil))) (by rw [List.length_map]; simp; omega)).v.is (show _ = D.lst (List.map nrwD _) by rw [List.map_append, List.map_map]; rfl)) ?_
      refine rs_app rfl (by rw [List.length_map]; omega) (rv_var rfl) ?_
      rintro d rfl
      refine ⟨trivial, ?_⟩
      rw [List.map_append]
      exact (by repeat' (first | exact True.intro | refine And.intro ?_ ?_ | exact Or.inl rfl | exact Or.inr rfl))
  · have h := of_decide_eq_false h
    rw [List.length_map] at h
    have hq : s.left.filter (fun r => !decide (r a = 0)) = [] := List.eq_nil_of_length_eq_zero (by omega)
    have e1 : redStep s a = s := by
      unfold redStep
      rw [hq]
    rw [e1]
    exact rs_next ⟨trivial, (by repeat' (first | exact True.intro | refine And.intro ?_ ?_ | exact Or.inl rfl | exact Or.inr rfl))⟩
def R_span : List D → (D → Prop) → Prop := fun ds f => ∃ (F : Fd) (n : Nat) (b : Bool) (l : List (Row F n)), ∃ (hn : n ≤ 1000), ∃ (hl : l.length ≤ 1000), ds = [fldD F, seqD b (l.map rowD), nD n] ∧ f = fun d => d = tabN (span l)
abbrev sp_span (K : PySem.W.Frag) : Sp := psp K R_span
theorem f_span {P : Program} {w : World} {K : PySem.W.Frag} {mg : Str → Option Value} {base : Heap} (T : Tx K mg base) : Cal P w K mg base 6 "span" (sp_span K) := by
  refine cal_of (d_span T) (g_span T) (N := ["field", "rows", "width"]) (ps := ["field", "rows", "width"]) (fun _ _ _ _ _ _ us hl => match us, hl with | [_, _, _], _ => rfl) (by decide +kernel) (psp_len (by rintro ds f ⟨_, _, _, _, _, _, rfl, _⟩; rfl)) ?_
  intro cdv A outer sh H vs Q E hr hs
  let NN : List Str := ["field", "rows", "width"]
  have nd : List.Nodup (α := Str) ["field", "rows", "width"] := by decide +kernel
  refine ⟨_, (pss_one (ps_ret (pe_ix ix_tup (pe_c (f_reduced T) hr (by decide) (by rfl) (pa_cons (pv 0) (pa_cons (pv 1) (pa_cons (pv 2) pa_nil)))) pe_int (fun _ _ => rfl)))), ?_⟩
  clear hr nd NN
  refine body_psp (n := 3) hs rfl ?_
  clear hs
  rintro ds f ⟨F, n, b, l, hn, hl, rfl, rfl⟩
  exact rs_retV (rv_ixT (k := 0) (re_call (ra_cons ((rv_var rfl)) (ra_cons ((rv_var rfl)) (ra_cons ((rv_var rfl)) ra_nil))) ⟨_, _, _, _, hn, hl, rfl, rfl⟩) rv_int rfl rfl) rfl
def R_transposed : List D → (D → Prop) → Prop := fun ds f => ∃ (F : Fd) (n k : Nat) (b : Bool) (l : List (Row F n)), ∃ (hn : n ≤ 1000), ∃ (hlk : l.length = k), ∃ (hk2 : k ≤ 1000), ds = [seqD b (l.map rowD), nD n] ∧ f = fun d => d = tabD (transp l k hlk)
abbrev sp_transposed (K : PySem.W.Frag) : Sp := psp K R_transposed
theorem f_transposed {P : Program} {w : World} {K : PySem.W.Frag} {mg : Str → Option Value} {base : Heap} (T : Tx K mg base) : Cal P w K mg base 1 "transposed" (sp_transposed K) := by
  refine cal_of (d_transposed T) (g_transposed T) (N := ["rows", "width", "row", "k"]) (ps := ["rows", "width"]) (fun _ _ _ _ _ _ us hl => match us, hl with | [_, _], _ => rfl) (by decide +kernel) (psp_len (by rintro ds f ⟨_, _, _, _, _, _, _, _, rfl, _⟩; rfl)) ?_
  intro cdv A outer sh H vs Q E hr hs
  let NN : List Str := ["rows", "width", "row", "k"]
  have nd : List.Nodup (α := Str) ["rows", "width", "row", "k"] := by decide +kernel
  refine ⟨_, (pss_one (ps_ret (pe_callTy call_tuple_of (by rfl) (b_tuple T) (by rfl) (pa_cons (pe_lc (own := [("k", 3)]) (g := (gName 3)) (tt := tYes) (te := (tCB (rTupS K) (tCons (tLc (orI (iList K (tVar 0)) (iTup K (tVar 0))) (gName 2) tYes (tOp (rIxT K) (tVar 2) (tVar 3)) [2]) tNil))) rfl nd (pi_range1 (by rfl) (b_range T) (pa_cons (pv 1) pa_nil)) (blkOk_by (N := NN) (by kernel_rfl)) (fun _ _ _ _ _ => (pg_name (i := 3) nd rfl (by first | exact Or.inl rfl | exact Or.inr rfl))) (fun _ _ _ _ _ => pts_nil) (fun _ _ _ _ _ => (pe_callTy call_tuple_of (by rfl) (b_tuple T) (by rfl) (pa_cons (pe_lc (own := [("row", 2)]) (g := (gName 2)) (tt := tYes) (te := (tOp (rIxT K) (tVar 2) (tVar 3))) rfl nd (pi_or2 (pi_list (pv 0)) (pi_tup (pv 0))) (blkOk_by (N := NN) (by kernel_rfl)) (fun _ _ _ _ _ => (pg_name (i := 2) nd rfl (by first | exact Or.inl rfl | exact Or.inr rfl))) (fun _ _ _ _ _ => pts_nil) (fun _ _ _ _ _ => (pe_ix ix_tup (pv 2) (pv 3) (fun _ _ => rfl)))) pa_nil)))) pa_nil)))), ?_⟩
  clear hr nd NN
  refine body_psp (n := 4) hs rfl ?_
  clear hs
  rintro ds f ⟨F, n, k, b, l, hn, hlk, hk2, rfl, rfl⟩
  refine rs_retV (rv_tabT (l := transp l k hlk) (RunO.is2 (ro_map (l := List.finRange n) (sx := fun j => nD j.val) (ex := fun j => rowD (fun (i : Fin k) => (l[i.val]'(by omega)) j)) (js := [3]) (rj_i (rj_rng (rv_var rfl) rfl (by omega))) (by rw [List.length_finRange]; omega) (by decide) fun j _ => ⟨_, rg_name, rv_rowT (f := fun (i : Fin k) => (l[i.val]'(by omega)) j) (RunO.is2 (ro_map (l := l) (sx := rowD) (ex := fun v => elD (v j)) (js := [2]) (rj_i (rj_seq (rv_var rfl))) (by omega) (by decide) fun v _ => ⟨_, rg_name, rv_rowIx (rv_var rfl) (rv_var rfl) rfl⟩) ?_)⟩) ?_)) rfl
  · subst hlk
    exact map_fin l fun v => elD (v j)
  · unfold transp
    rw [List.map_map]
    rfl
def R_kernel : List D → (D → Prop) → Prop := fun ds f => ∃ (F : Fd) (n : Nat) (l : List (Row F n)), ∃ (hn : n ≤ 1000), ∃ (hl : l.length ≤ 1000), ds = [fldD F, tabD l, nD n] ∧ f = fun d => d = tabN (kernel l)
abbrev sp_kernel (K : PySem.W.Frag) : Sp := psp K R_kernel
theorem f_kernel {P : Program} {w : World} {K : PySem.W.Frag} {mg : Str → Option Value} {base : Heap} (T : Tx K mg base) : Cal P w K mg base 7 "kernel" (sp_kernel K) := by
  refine cal_of (d_kernel T) (g_kernel T) (N := ["field", "rows", "width", "table", "pivots", "found", "free", "row", "line", "at"]) (ps := ["field", "rows", "width"]) (fun _ _ _ _ _ _ us hl => match us, hl with | [_, _, _], _ => rfl) (by decide +kernel) (psp_len (by rintro ds f ⟨_, _, _, _, _, rfl, _⟩; rfl)) ?_
  intro cdv A outer sh H vs Q E hr hs
  let NN : List Str := ["field", "rows", "width", "table", "pivots", "found", "free", "row", "line", "at"]
  have nd : List.Nodup (α := Str) ["field", "rows", "width", "table", "pivots", "found", "free", "row", "line", "at"] := by decide +kernel
  refine ⟨_, (pss_cons (ps_asg (pe_c (f_reduced T) hr (by decide) (by rfl) (pa_cons (pv 0) (pa_cons (pv 1) (pa_cons (pv 2) pa_nil)))) (pg_tup rfl (pgs_cons (pg_name (i := 3) nd rfl (by first | exact Or.inl rfl | exact Or.inr rfl)) (pgs_cons (pg_name (i := 4) nd rfl (by first | exact Or.inl rfl | exact Or.inr rfl)) pgs_nil))))
 (pss_cons (ps_set (i := 5) nd rfl (by first | exact Or.inl rfl | exact Or.inr rfl) (pe_lst pa_nil))
 (pss_cons (ps_for PassesOwn.never rfl (pi_range1 (by rfl) (b_range T) (pa_cons (pv 2) pa_nil)) (pg_name (i := 6) nd rfl (by first | exact Or.inl rfl | exact Or.inr rfl)) (pss_one (ps_if (pt_cmpR op_notIn_seq (pv 6) (pv 4) (by first | exact nomark _ | rfl | with_unfolding_all rfl)) (pss_cons (ps_set (i := 7) nd rfl (by first | exact Or.inl rfl | exact Or.inr rfl) (pe_callTy call_list_of (by rfl) (b_list T) (by rfl) (pa_cons (pe_c (f_unit_row T) hr (by decide) (by rfl) (pa_cons (pv 2) (pa_cons (pv 6) pa_nil))) pa_nil)))
 (pss_cons (ps_for PassesOwn.never rfl (RZ.pi_zipA (by rfl) (b_zip T) (pa_cons (pv 3) (pa_cons (pv 4) pa_nil))) (pg_tup rfl (pgs_cons (pg_name (i := 8) nd rfl (by first | exact Or.inl rfl | exact Or.inr rfl)) (pgs_cons (pg_name (i := 9) nd rfl (by first | exact Or.inl rfl | exact Or.inr rfl)) pgs_nil))) (pss_one (ps_asg (pe_mt (f_Field_negative T) hr (by decide) (pv 0) (pa_cons (pe_ix ix_tup (pv 8) (pv 6) (fun _ _ => rfl)) pa_nil)) (pg_sub (pv 7) (pv 9) set_list))))
 (pss_one (ps_expr (pe_bm PySem.F.plainAttrs_list PySem.F.slot_list_append PySem.F.type_list_append mt_append (pv 5) (pa_cons (pe_callTy call_tuple_of (by rfl) (b_tuple T) (by rfl) (pa_cons (pv 7) pa_nil)) pa_nil)))))) pss_nil)))
 (pss_one (ps_ret (pe_c (f_span T) hr (by decide) (by rfl) (pa_cons (pv 0) (pa_cons (pv 5) (pa_cons (pv 2) pa_nil))))))))), ?_⟩
  clear hr nd NN
  refine body_psp (n := 10) hs rfl ?_
  clear hs
  rintro ds f ⟨F, n, l, hn, hl, rfl, rfl⟩
  obtain ⟨t1, t2⟩ := red_tab_len l
  refine rs_tgq (js := [3, 4]) (re_call (ra_cons ((rv_var rfl)) (ra_cons ((rv_var rfl)) (ra_cons ((rv_var rfl)) ra_nil))) ⟨F, n, true, l, hn, hl, rfl, rfl⟩) ?_
  rintro d rfl
  refine ⟨_, rg_tup2, (fun _ h => h), ?_⟩
  refine rs_ownV (rov_lst ra_nil) fun p => ?_
  refine rs_forF (l := List.finRange n) (sx := fun i => nD i.val) (js := [6]) (fun s a => if a ∈ (red l).piv then s else s ++ [kerRow (red l) a]) (fun _ => True) (fun s => [.im (fldD F), .im (tabD l), .im (nD n), .im (tabN (red l).table), .im (.tup ((red l).piv.map fun i => nD i.val)), .ow p (s.map rowD), .un, .un, .un, .un]) [] (rj_rng (rv_var rfl) rfl (by omega)) (by repeat' (first | exact True.intro | refine And.intro ?_ ?_ | exact Or.inl rfl | exact Or.inr rfl)) (fun pre a post hpre _ => ?_) fun _ => ?_
  · have hsl : (pre.foldl (fun s a => if a ∈ (red l).piv then s else s ++ [kerRow (red l) a]) []).length ≤ pre.length := by
      have : ∀ (pre : List (Fin n)) (s : List (Row F n)), (pre.foldl (fun s a => if a ∈ (red l).piv then s else s ++ [kerRow (red l) a]) s).length ≤ s.length + pre.length := by
        intro pre
        induction pre with
        | nil => intro s; simp
        | cons x pre ih =>
          intro s
          have := ih (if x ∈ (red l).piv then s else s ++ [kerRow (red l) x])
          rw [List.foldl_cons]
          refine Nat.le_trans this ?_
          split <;> simp <;> omega
      simpa using this pre []
    have hp := fin_pre hpre
    generalize pre.foldl (fun s a => if a ∈ (red l).piv then s else s ++ [kerRow (red l) a]) [] = s at hsl ⊢
    refine ⟨_, rg_name, (fun _ h => h), ?_⟩
    have emem : decide ((a.val : Int) ∈ (red l).piv.map fun i => ((i.val : Nat) : Int)) = decide (a ∈ (red l).piv) := by
      by_cases h : a ∈ (red l).piv
      · rw [decide_eq_true h, decide_eq_true (List.mem_map.mpr ⟨a, h, rfl⟩)]
      · rw [decide_eq_false h, decide_eq_false]
        intro z
        obtain ⟨b, hb, e⟩ := List.mem_map.mp z
        exact h (by rw [← show b = a from Fin.ext (by omega)]; exact hb)
    have epiv : D.tup ((red l).piv.map fun i => nD i.val) = irow ((red l).piv.map fun i => ((i.val : Nat) : Int)) := by
      show _ = D.tup (List.map D.int _)
      rw [List.map_map]
      rfl
    refine rs_if (rt_test (rv_niT (xs := (red l).piv.map fun i => ((i.val : Nat) : Int)) (rv_var rfl) ((rv_var rfl).is epiv))) (fun h => ?_) fun h => ?_
    · rw [emem] at h
      have h : ¬ a ∈ (red l).piv := by simpa using h
      refine rs_ownV (ro_lstT (re_call (ra_cons ((rv_var rfl)) (ra_cons ((rv_var rfl)) ra_nil)) ⟨F, n, a, hn, rfl, rfl⟩)) fun p2 => ?_
      refine rs_forF (l := (red l).table.zip (red l).piv) (sx := fun q => .tup [nrwD q.1, nD q.2.val]) (js := [8, 9]) (fun row q => rset row q.2 (-(q.1 a))) (fun _ => True) (fun row => [.im (fldD F), .im (tabD l), .im (nD n), .im (tabN (red l).table), .im (.tup ((red l).piv.map fun i => nD i.val)), .ow p (s.map rowD), .im (nD a.val), .ow p2 ((rowI row).map D.int), .un, .un]) (runit a) ?_ (by repeat' (first | exact True.intro | refine And.intro ?_ ?_ | exact Or.inl rfl | exact Or.inr rfl)) (fun pre2 q post2 _ _ => ⟨_, rg_tup2, (fun _ h => h), ?_⟩) fun _ => ?_
      · have h2 := rj_zipT (K := K) (r := [.im (fldD F), .im (tabD l), .im (nD n), .im (tabN (red l).table), .im (.tup ((red l).piv.map fun i => nD i.val)), .ow p (s.map rowD), .im (nD a.val), .ow p2 ((rowI (runit a : Row F n)).map D.int), .un, .un]) (ta := tVar 3) (tb := tVar 4) (rv_var rfl) (rv_var rfl)
        have e : zipD ((red l).table.map nrwD) ((red l).piv.map fun i => nD i.val) = ((red l).table.zip (red l).piv).map fun q => .tup [nrwD q.1, nD q.2.val] := by
          unfold zipD
          rw [List.zip_map, List.map_map]
          rfl
        rw [e] at h2
        exact h2
      · generalize (pre2.foldl (fun row q => rset row q.2 (-(q.1 a))) (runit a) : Row F n) = row
        refine rs_item (k := q.2.val) rfl (re_meth (rv_var rfl) rfl (ra_cons (rv_rowIx (i := a) (nrow_row (rv_var rfl)) (rv_var rfl) rfl) ra_nil) ⟨_, _, rfl, rfl⟩) (rv_var rfl) rfl (by rw [List.length_map, rowI_len]; exact q.2.isLt) ?_
        rintro d rfl
        refine ⟨trivial, ?_⟩
        have e : ((rowI row).map D.int).set q.2.val (elD (-(q.1 a))) = (rowI (rset row q.2 (-(q.1 a)))).map D.int := by
          rw [row_map, row_map]
          apply List.ext_getElem
          · simp
          · intro i h1 h2
            rw [List.getElem_set]
            have hi : i < n := by simpa using h2
            by_cases hq : q.2.val = i
            · subst hq
              simp [rset]
            · rw [if_neg hq]
              simp [rset, Fin.ext_iff, Ne.symm hq]
        rw [← e]
        exact (by repeat' (first | exact True.intro | refine And.intro ?_ ?_ | exact Or.inl rfl | exact Or.inr rfl))
      · refine rs_app rfl (by rw [List.length_map]; omega) (rv_tupL (rl_own rfl)) ?_
        rintro d rfl
        refine ⟨trivial, ?_⟩
        rw [if_neg h, List.map_append]
        exact (by repeat' (first | exact True.intro | refine And.intro ?_ ?_ | exact Or.inl rfl | exact Or.inr rfl))
    · rw [emem] at h
      have h : a ∈ (red l).piv := by simpa using h
      rw [if_pos h]
      exact rs_next ⟨trivial, (by repeat' (first | exact True.intro | refine And.intro ?_ ?_ | exact Or.inl rfl | exact Or.inr rfl))⟩
  · have e : (List.finRange n).foldl (fun s a => if a ∈ (red l).piv then s else s ++ [kerRow (red l) a]) [] = ((List.finRange n).filter fun a => !decide (a ∈ (red l).piv)).map fun a => kerRow (red l) a := by
      have : ∀ (m : List (Fin n)) (s : List (Row F n)), m.foldl (fun s a => if a ∈ (red l).piv then s else s ++ [kerRow (red l) a]) s = s ++ (m.filter fun a => !decide (a ∈ (red l).piv)).map fun a => kerRow (red l) a := by
        intro m
        induction m with
        | nil => intro s; simp
        | cons x m ih =>
          intro s
          rw [List.foldl_cons, ih]
          by_cases h : x ∈ (red l).piv
          · rw [if_pos h, List.filter_cons_of_neg (by simpa using h)]
          · rw [if_neg h, List.filter_cons_of_pos (by simpa using h), List.map_cons, List.append_assoc]
            rfl
      simpa using this (List.finRange n) []
    rw [e]
    refine rs_freeze (i := 5) rfl ?_
    refine rs_retV (re_call (ra_cons ((rv_var rfl)) (ra_cons ((rv_var rfl)) (ra_cons ((rv_var rfl)) ra_nil))) ⟨F, n, false, _, hn, ?_, rfl, rfl⟩) rfl
    rw [List.length_map]
    refine Nat.le_trans (List.length_filter_le _ _) ?_
    rw [List.length_finRange]
    exact hn
end Wk
/-! # WkW4 -/
set_option Elab.async false
set_option linter.all false
set_option maxRecDepth 100000
set_option maxHeartbeats 4000000
namespace Wk
open PySem PySem.Spec PyProof.Rows L2
section
variable {F : Fd} {n : Nat}
theorem lead1_some {r : Row F n} (h : ∃ i, r i = 1) : ∃ i, lead1 r = some i ∧ (rowI r)[i.val]? = some 1 ∧ ∀ m, m < i.val → (rowI r)[m]? ≠ some 1 := by
  unfold lead1
  cases hq : (List.finRange n).find? fun i => decide (r i = 1) with
  | none =>
    obtain ⟨i, hi⟩ := h
    have := List.find?_eq_none.mp hq i (List.mem_finRange i)
    exact absurd hi (by simpa using this)
  | some i =>
    refine ⟨i, rfl, ?_, fun m hm => ?_⟩
    · have h1 : r i = 1 := by simpa using List.find?_some hq
      rw [rowI_at, h1]
      rfl
    · obtain ⟨_, as, bs, h2, h3⟩ := List.find?_eq_some_iff_append.mp hq
      have hl : as.length = i.val := by
        have e : (List.finRange n)[as.length]? = some i := by rw [h2]; simp
        have hlt : as.length < n := by
          have := congrArg List.length h2
          rw [List.length_finRange, List.length_append, List.length_cons] at this
          omega
        rw [List.getElem?_eq_getElem (by rw [List.length_finRange]; exact hlt), List.getElem_finRange] at e
        have := congrArg Fin.val (Option.some.inj e)
        simpa using this
      have hmn : m < n := by omega
      intro e
      rw [rowI_at r ⟨m, hmn⟩] at e
      have h4 : (⟨m, hmn⟩ : Fin n) ∈ as := by
        have e5 : (List.finRange n)[m]? = some ⟨m, hmn⟩ := by
          rw [List.getElem?_eq_getElem (by rw [List.length_finRange]; exact hmn), List.getElem_finRange]
          rfl
        rw [h2, List.getElem?_append_left (by omega)] at e5
        exact List.mem_of_getElem? e5
      have h5 := h3 _ h4
      have h6 : ¬ r ⟨m, hmn⟩ = 1 := by simpa using h5
      have e6 : (((r ⟨m, hmn⟩).v : Nat) : Int) = 1 := Option.some.inj e
      exact h6 (El.ext (by show (r ⟨m, hmn⟩).v = 1; omega))
def pivV (r : Row F n) : D := match lead1 r with | some i => nD i.val | none => nD 0
theorem pivs_map : ∀ {sp : List (Row F n)}, Led sp → sp.map pivV = (pivs sp).map fun i => nD i.val
  | [], _ => rfl
  | r :: sp, h => by
    obtain ⟨i, h1, _⟩ := lead1_some (h r (List.mem_cons_self ..))
    have ih := pivs_map (sp := sp) fun x hx => h x (List.mem_cons_of_mem _ hx)
    unfold pivs at ih ⊢
    rw [List.filterMap_cons_some h1, List.map_cons, List.map_cons, ih]
    unfold pivV
    rw [h1]
theorem holds_any (sp : List (Row F n)) (v : Row F n) : (!(rowI (rest sp v)).any fun n => n != 0) = holds sp v := by
  unfold holds rowI
  rw [List.any_map, Bool.eq_iff_iff, Bool.not_eq_true', List.any_eq_false, List.all_eq_true]
  refine ⟨fun h i hi => ?_, fun h i hi => ?_⟩
  · have := h i hi
    rw [decide_eq_true_eq]
    by_cases z : rest sp v i = 0
    · exact z
    · exfalso
      apply this
      show (((rest sp v i).v : Int) != 0) = true
      rw [bne_iff_ne]
      intro e
      exact z (El.ext (by show _ = 0; omega))
  · have := h i hi
    rw [decide_eq_true_eq] at this
    show ¬ (((rest sp v i).v : Int) != 0) = true
    rw [this]
    show ¬ ((0 : Int) != 0) = true
    decide
theorem piv_mem {a : Fin n} {l : List (Fin n)} : decide ((a.val : Int) ∈ l.map fun i => ((i.val : Nat) : Int)) = decide (a ∈ l) := by
  by_cases h : a ∈ l
  · rw [decide_eq_true h, decide_eq_true (List.mem_map.mpr ⟨a, h, rfl⟩)]
  · rw [decide_eq_false h, decide_eq_false]
    intro z
    obtain ⟨b, hb, e⟩ := List.mem_map.mp z
    exact h (by rw [← show b = a from Fin.ext (by omega)]; exact hb)
theorem piv_lst (l : List (Fin n)) : (l.map fun i => nD i.val) = (l.map fun i => ((i.val : Nat) : Int)).map D.int := by rw [List.map_map]; rfl
theorem row_snoc (v : Row F n) (x : El F) : (rowI v).map D.int ++ [elD x] = (rowI (rsnoc v x)).map D.int := by
  rw [row_map, row_map]
  apply List.ext_getElem
  · simp
  · intro i h1 h2
    by_cases hi : i < n
    · rw [List.getElem_append_left (by simpa using hi)]
      simp [rsnoc, hi]
    · rw [List.getElem_append_right (by simpa using hi)]
      simp [rsnoc, hi]
theorem pivs_len (sp : List (Row F n)) : (pivs sp).length ≤ sp.length := List.length_filterMap_le ..
end
theorem row_set {F : Fd} {n : Nat} (row : Row F n) (a : Fin n) (x : El F) : ((rowI row).map D.int).set a.val (elD x) = (rowI (rset row a x)).map D.int := by
  rw [row_map, row_map]
  apply List.ext_getElem
  · simp
  · intro i h1 h2
    rw [List.getElem_set]
    have hi : i < n := by simpa using h2
    by_cases hq : a.val = i
    · subst hq
      simp [rset]
    · rw [if_neg hq]
      simp [rset, Fin.ext_iff, Ne.symm hq]
theorem rj_zipNP {K : PySem.W.Frag} {r : En} {ta tb : TE} {F : Fd} {n k : Nat} {l : List (Row F n)} {ps : List (Fin k)} (h1 : RunV K ta r (tabN l)) (h2 : RunV K tb r (.tup (ps.map fun i => nD i.val))) : RunJ K (RZ.iZipA K (tCons ta (tCons tb tNil))) r ((l.zip ps).map fun q => .tup [nrwD q.1, nD q.2.val]) := by
  have h := rj_zipT h1 h2
  have e : zipD (l.map nrwD) (ps.map fun i => nD i.val) = (l.zip ps).map fun q => .tup [nrwD q.1, nD q.2.val] := by
    unfold zipD
    rw [List.zip_map, List.map_map]
    rfl
  rw [e] at h
  exact h
def optD {F : Fd} {n : Nat} : Option (Row F n) → D
  | none => .non
  | some x => rowD x

def R_relations : List D → (D → Prop) → Prop := fun ds f => ∃ (F : Fd) (n k : Nat) (l : List (Row F n)), ∃ (hn : n ≤ 1000), ∃ (hlk : l.length = k), ∃ (hk2 : k ≤ 1000), ds = [fldD F, lstD l, nD n] ∧ f = fun d => d = tabN (relations l k hlk)
abbrev sp_relations (K : PySem.W.Frag) : Sp := psp K R_relations
theorem f_relations {P : Program} {w : World} {K : PySem.W.Frag} {mg : Str → Option Value} {base : Heap} (T : Tx K mg base) : Cal P w K mg base 8 "relations" (sp_relations K) := by
  refine cal_of (d_relations T) (g_relations T) (N := ["field", "rows", "width"]) (ps := ["field", "rows", "width"]) (fun _ _ _ _ _ _ us hl => match us, hl with | [_, _, _], _ => rfl) (by decide +kernel) (psp_len (by rintro ds f ⟨_, _, _, _, _, _, _, rfl, _⟩; rfl)) ?_
  intro cdv A outer sh H vs Q E hr hs
  let NN : List Str := ["field", "rows", "width"]
  have nd : List.Nodup (α := Str) ["field", "rows", "width"] := by decide +kernel
  refine ⟨_, (pss_one (ps_ret (pe_c (f_kernel T) hr (by decide) (by rfl) (pa_cons (pv 0) (pa_cons (pe_c (f_transposed T) hr (by decide) (by rfl) (pa_cons (pv 1) (pa_cons (pv 2) pa_nil))) (pa_cons (pe_callB call_len_seq (by rfl) (b_len T) PySem.boot_len (pa_cons (pv 1) pa_nil)) pa_nil)))))), ?_⟩
  clear hr nd NN
  refine body_psp (n := 3) hs rfl ?_
  clear hs
  rintro ds f ⟨F, n, k, l, hn, hlk, hk2, rfl, rfl⟩
  refine rs_retV (re_call (ra_cons ((rv_var rfl)) (ra_cons (re_call (ra_cons ((rv_var rfl)) (ra_cons ((rv_var rfl)) ra_nil)) ⟨F, n, k, false, l, hn, hlk, hk2, rfl, rfl⟩) (ra_cons (rv_lenL (RunE.l (rv_var rfl)) (by rw [List.length_map, hlk])) ra_nil))) ⟨F, k, transp l k hlk, hk2, ?_, rfl, rfl⟩) rfl
  unfold transp
  rw [List.length_map, List.length_finRange]
  exact hn
def R_identity : List D → (D → Prop) → Prop := fun ds f => ∃ (F : Fd) (n : Nat), ∃ (hn : n ≤ 1000), ds = [nD n] ∧ f = fun d => d = tabD (ident F n)
abbrev sp_identity (K : PySem.W.Frag) : Sp := psp K R_identity
theorem f_identity {P : Program} {w : World} {K : PySem.W.Frag} {mg : Str → Option Value} {base : Heap} (T : Tx K mg base) : Cal P w K mg base 2 "identity" (sp_identity K) := by
  refine cal_of (d_identity T) (g_identity T) (N := ["n", "i"]) (ps := ["n"]) (fun _ _ _ _ _ _ us hl => match us, hl with | [_], _ => rfl) (by decide +kernel) (psp_len (by rintro ds f ⟨_, _, _, rfl, _⟩; rfl)) ?_
  intro cdv A outer sh H vs Q E hr hs
  let NN : List Str := ["n", "i"]
  have nd : List.Nodup (α := Str) ["n", "i"] := by decide +kernel
  refine ⟨_, (pss_one (ps_ret (pe_callTy call_tuple_of (by rfl) (b_tuple T) (by rfl) (pa_cons (pe_lc (own := [("i", 1)]) (g := (gName 1)) (tt := tYes) (te := (tCall (sp_unit_row K) [] E0 (tCons (tVar 0) (tCons (tVar 1) tNil)))) rfl nd (pi_range1 (by rfl) (b_range T) (pa_cons (pv 0) pa_nil)) (blkOk_by (N := NN) (by kernel_rfl)) (fun _ _ _ _ _ => (pg_name (i := 1) nd rfl (by first | exact Or.inl rfl | exact Or.inr rfl))) (fun _ _ _ _ _ => pts_nil) (fun _ _ _ _ _ => (pe_c (f_unit_row T) hr (by decide) (by rfl) (pa_cons (pv 0) (pa_cons (pv 1) pa_nil))))) pa_nil)))), ?_⟩
  clear hr nd NN
  refine body_psp (n := 2) hs rfl ?_
  clear hs
  rintro ds f ⟨F, n, hn, rfl, rfl⟩
  exact rs_retV (rv_tabT (l := ident F n) (RunO.is2 (ro_map (l := List.finRange n) (sx := fun i => nD i.val) (ex := fun i => rowD (runit i : Row F n)) (js := [1]) (rj_i (rj_rng (rv_var rfl) rfl (by omega))) (by rw [List.length_finRange]; omega) (by decide) fun i _ => ⟨_, rg_name, re_call (ra_cons ((rv_var rfl)) (ra_cons ((rv_var rfl)) ra_nil)) ⟨_, _, _, hn, rfl, rfl⟩⟩) (by unfold ident; rw [List.map_map]; rfl))) rfl
def R_moved : List D → (D → Prop) → Prop := fun ds f => ∃ (F : Fd) (n k : Nat) (l : List (Row F n)) (c : Row F k), ∃ (hn : n ≤ 1000), ds = [fldD F, rowD c, tabD l, nD n] ∧ f = fun d => d = rowD (moved c l)
abbrev sp_moved (K : PySem.W.Frag) : Sp := psp K R_moved
theorem f_moved {P : Program} {w : World} {K : PySem.W.Frag} {mg : Str → Option Value} {base : Heap} (T : Tx K mg base) : Cal P w K mg base 5 "moved" (sp_moved K) := by
  refine cal_of (d_moved T) (g_moved T) (N := ["field", "v", "rows", "width"]) (ps := ["field", "v", "rows", "width"]) (fun _ _ _ _ _ _ us hl => match us, hl with | [_, _, _, _], _ => rfl) (by decide +kernel) (psp_len (by rintro ds f ⟨_, _, _, _, _, _, rfl, _⟩; rfl)) ?_
  intro cdv A outer sh H vs Q E hr hs
  let NN : List Str := ["field", "v", "rows", "width"]
  have nd : List.Nodup (α := Str) ["field", "v", "rows", "width"] := by decide +kernel
  refine ⟨_, (pss_one (ps_ret (pe_c (f_combine T) hr (by decide) (by rfl) (pa_cons (pv 0) (pa_cons (pv 2) (pa_cons (pv 1) (pa_cons (pv 3) pa_nil))))))), ?_⟩
  clear hr nd NN
  refine body_psp (n := 4) hs rfl ?_
  clear hs
  rintro ds f ⟨F, n, k, l, c, hn, rfl, rfl⟩
  exact rs_retV (re_call (ra_cons ((rv_var rfl)) (ra_cons ((rv_var rfl)) (ra_cons ((rv_var rfl)) (ra_cons ((rv_var rfl)) ra_nil)))) ⟨_, _, _, _, _, hn, rfl, rfl⟩) rfl
def R_times : List D → (D → Prop) → Prop := fun ds f => ∃ (F : Fd) (n k : Nat) (b : Bool) (one : List (Row F k)) (two : List (Row F n)), ∃ (hn : n ≤ 1000), ∃ (h1 : one.length ≤ 1000), ds = [fldD F, seqD b (one.map rowD), tabD two, nD n] ∧ f = fun d => d = tabD (times one two)
abbrev sp_times (K : PySem.W.Frag) : Sp := psp K R_times
theorem f_times {P : Program} {w : World} {K : PySem.W.Frag} {mg : Str → Option Value} {base : Heap} (T : Tx K mg base) : Cal P w K mg base 6 "times" (sp_times K) := by
  refine cal_of (d_times T) (g_times T) (N := ["field", "one", "two", "width", "row"]) (ps := ["field", "one", "two", "width"]) (fun _ _ _ _ _ _ us hl => match us, hl with | [_, _, _, _], _ => rfl) (by decide +kernel) (psp_len (by rintro ds f ⟨_, _, _, _, _, _, _, _, rfl, _⟩; rfl)) ?_
  intro cdv A outer sh H vs Q E hr hs
  let NN : List Str := ["field", "one", "two", "width", "row"]
  have nd : List.Nodup (α := Str) ["field", "one", "two", "width", "row"] := by decide +kernel
  refine ⟨_, (pss_one (ps_ret (pe_callTy call_tuple_of (by rfl) (b_tuple T) (by rfl) (pa_cons (pe_lc (own := [("row", 4)]) (g := (gName 4)) (tt := tYes) (te := (tCall (sp_moved K) [] E0 (tCons (tVar 0) (tCons (tVar 4) (tCons (tVar 2) (tCons (tVar 3) tNil)))))) rfl nd (pi_or2 (pi_list (pv 1)) (pi_tup (pv 1))) (blkOk_by (N := NN) (by kernel_rfl)) (fun _ _ _ _ _ => (pg_name (i := 4) nd rfl (by first | exact Or.inl rfl | exact Or.inr rfl))) (fun _ _ _ _ _ => pts_nil) (fun _ _ _ _ _ => (pe_c (f_moved T) hr (by decide) (by rfl) (pa_cons (pv 0) (pa_cons (pv 4) (pa_cons (pv 2) (pa_cons (pv 3) pa_nil))))))) pa_nil)))), ?_⟩
  clear hr nd NN
  refine body_psp (n := 5) hs rfl ?_
  clear hs
  rintro ds f ⟨F, n, k, b, one, two, hn, h1, rfl, rfl⟩
  exact rs_retV (rv_tabT (l := times one two) (RunO.is2 (ro_map (l := one) (sx := rowD) (ex := fun v => rowD (moved v two)) (js := [4]) (rj_i (rj_seq (rv_var rfl))) (by omega) (by decide) fun v _ => ⟨_, rg_name, re_call (ra_cons ((rv_var rfl)) (ra_cons ((rv_var rfl)) (ra_cons ((rv_var rfl)) (ra_cons ((rv_var rfl)) ra_nil)))) ⟨_, _, _, _, _, hn, rfl, rfl⟩⟩) (by unfold times; rw [List.map_map]; rfl))) rfl
def R_is_matrix : List D → (D → Prop) → Prop := fun ds f => ∃ (F : Fd) (n : Nat) (m : List (Row F n)), ∃ (hn : n ≤ 1000), ∃ (hm : m.length = n), ds = [fldD F, tabD m, nD n] ∧ f = fun d => d = .bl true
abbrev sp_is_matrix (K : PySem.W.Frag) : Sp := psp K R_is_matrix
theorem f_is_matrix {P : Program} {w : World} {K : PySem.W.Frag} {mg : Str → Option Value} {base : Heap} (T : Tx K mg base) : Cal P w K mg base 4 "is_matrix" (sp_is_matrix K) := by
  refine cal_of (d_is_matrix T) (g_is_matrix T) (N := ["field", "value", "n", "row"]) (ps := ["field", "value", "n"]) (fun _ _ _ _ _ _ us hl => match us, hl with | [_, _, _], _ => rfl) (by decide +kernel) (psp_len (by rintro ds f ⟨_, _, _, _, _, rfl, _⟩; rfl)) ?_
  intro cdv A outer sh H vs Q E hr hs
  let NN : List Str := ["field", "value", "n", "row"]
  have nd : List.Nodup (α := Str) ["field", "value", "n", "row"] := by decide +kernel
  refine ⟨_, (pss_one (ps_ret (pe_and (pe_callB call_isi (by rfl) (b_isinstance T) (by rfl) (pa_cons (pv 1) (pa_cons (pe_bltn (v := .ty "tuple") (by rfl) (b_tuple T) (by rfl) rfl) pa_nil))) (pe_and (pe_cmpR op_eq (pe_callB call_len_seq (by rfl) (b_len T) PySem.boot_len (pa_cons (pv 1) pa_nil)) (pv 2) (by first | exact nomark _ | rfl | with_unfolding_all rfl)) (pe_one (pe_callB (cr_all rfl) (by rfl) (b_all T) (by rfl) (pa_cons (pe_lc (own := [("row", 3)]) (g := (gName 3)) (tt := tYes) (te := (tCall (sp_is_row K) [] E0 (tCons (tVar 0) (tCons (tVar 3) (tCons (tVar 2) tNil))))) rfl nd (pi_tup (pv 1)) (blkOk_by (N := NN) (by kernel_rfl)) (fun _ _ _ _ _ => (pg_name (i := 3) nd rfl (by first | exact Or.inl rfl | exact Or.inr rfl))) (fun _ _ _ _ _ => pts_nil) (fun _ _ _ _ _ => (pe_c (f_is_row_linear T) hr (by decide) (by rfl) (pa_cons (pv 0) (pa_cons (pv 3) (pa_cons (pv 2) pa_nil)))))) pa_nil))))))), ?_⟩
  clear hr nd NN
  refine body_psp (n := 4) hs rfl ?_
  clear hs
  rintro ds f ⟨F, n, m, hn, hm, rfl, rfl⟩
  refine rs_retV (rv_andV (rv_isi (b := true) (rv_var rfl) rfl (by decide +kernel)) fun _ => rv_andV (rv_eqI (rv_lenT (rv_var rfl) rfl) (rv_var rfl)) fun _ => rv_allT (ro_map (l := m) (sx := rowD) (ex := fun _ => .bl true) (js := [3]) (rj_i (rj_tup (rv_var rfl))) (by omega) (by decide) fun v _ => ⟨_, rg_name, re_call (ra_cons ((rv_var rfl)) (ra_cons ((rv_var rfl)) (ra_cons ((rv_var rfl)) ra_nil))) ⟨_, _, _, hn, rfl, rfl⟩⟩)) ?_
  show D.bl _ = D.bl _
  rw [List.length_map, hm]
  simp
def R_pivots_of : List D → (D → Prop) → Prop := fun ds f => ∃ (F : Fd) (n : Nat) (sp : List (Row F n)), ∃ (hl : sp.length ≤ 1000), ∃ (hL : Led sp), ds = [tabN sp] ∧ f = fun d => d = .lst ((pivs sp).map fun i => nD i.val)
abbrev sp_pivots_of (K : PySem.W.Frag) : Sp := psp K R_pivots_of
theorem f_pivots_of {P : Program} {w : World} {K : PySem.W.Frag} {mg : Str → Option Value} {base : Heap} (T : Tx K mg base) : Cal P w K mg base 1 "pivots_of" (sp_pivots_of K) := by
  refine cal_of (d_pivots_of T) (g_pivots_of T) (N := ["space", "row"]) (ps := ["space"]) (fun _ _ _ _ _ _ us hl => match us, hl with | [_], _ => rfl) (by decide +kernel) (psp_len (by rintro ds f ⟨_, _, _, _, _, rfl, _⟩; rfl)) ?_
  intro cdv A outer sh H vs Q E hr hs
  let NN : List Str := ["space", "row"]
  have nd : List.Nodup (α := Str) ["space", "row"] := by decide +kernel
  refine ⟨_, (pss_one (ps_ret (pe_lc (own := [("row", 1)]) (g := (gName 1)) (tt := tYes) (te := (tBT K (rIndexT K) (tVar 1) (tCons (tC (.int 1)) tNil))) rfl nd (pi_tup (pv 0)) (blkOk_by (N := NN) (by kernel_rfl)) (fun _ _ _ _ _ => (pg_name (i := 1) nd rfl (by first | exact Or.inl rfl | exact Or.inr rfl))) (fun _ _ _ _ _ => pts_nil) (fun _ _ _ _ _ => (pe_bt PySem.F.slot_tuple_index PySem.F.type_tuple_index mt_indexT (pv 1) (pa_cons pe_int pa_nil)))))), ?_⟩
  clear hr nd NN
  refine body_psp (n := 2) hs rfl ?_
  clear hs
  rintro ds f ⟨F, n, sp, hl, hL, rfl, rfl⟩
  refine rs_retV (RunO.is2 (ro_map (l := sp) (sx := nrwD) (ex := pivV) (js := [1]) (rj_i (rj_tup (rv_var rfl))) (by omega) (by decide) fun v hv => ⟨_, rg_name, ?_⟩) (pivs_map hL)).v rfl
  obtain ⟨i, h1, h2, h3⟩ := lead1_some (hL v hv)
  refine (rv_idxN (rv_var rfl) rv_int h2 h3).is ?_
  unfold pivV
  rw [h1]
def R_rest : List D → (D → Prop) → Prop := fun ds f => ∃ (F : Fd) (n : Nat) (sp : List (Row F n)) (v : Row F n), ∃ (hn : n ≤ 1000), ∃ (hl : sp.length ≤ 1000), ∃ (hL : Led sp), ds = [fldD F, tabN sp, rowD v] ∧ f = fun d => d = rowD (rest sp v)
abbrev sp_rest (K : PySem.W.Frag) : Sp := psp K R_rest
theorem f_rest {P : Program} {w : World} {K : PySem.W.Frag} {mg : Str → Option Value} {base : Heap} (T : Tx K mg base) : Cal P w K mg base 5 "rest" (sp_rest K) := by
  refine cal_of (d_rest T) (g_rest T) (N := ["field", "space", "v", "row", "at"]) (ps := ["field", "space", "v"]) (fun _ _ _ _ _ _ us hl => match us, hl with | [_, _, _], _ => rfl) (by decide +kernel) (psp_len (by rintro ds f ⟨_, _, _, _, _, _, _, rfl, _⟩; rfl)) ?_
  intro cdv A outer sh H vs Q E hr hs
  let NN : List Str := ["field", "space", "v", "row", "at"]
  have nd : List.Nodup (α := Str) ["field", "space", "v", "row", "at"] := by decide +kernel
  refine ⟨_, (pss_cons (ps_for PassesOwn.never rfl (pi_zm (by rfl) (b_zip T) (pa_cons (pv 1) (pa_cons (pe_c (f_pivots_of T) hr (by decide) (by rfl) (pa_cons (pv 1) pa_nil)) pa_nil))) (pg_tup rfl (pgs_cons (pg_name (i := 3) nd rfl (by first | exact Or.inl rfl | exact Or.inr rfl)) (pgs_cons (pg_name (i := 4) nd rfl (by first | exact Or.inl rfl | exact Or.inr rfl)) pgs_nil))) (pss_one (ps_set (i := 2) nd rfl (by first | exact Or.inl rfl | exact Or.inr rfl) (pe_c (f_cleared T) hr (by decide) (by rfl) (pa_cons (pv 0) (pa_cons (pv 2) (pa_cons (pv 3) (pa_cons (pv 4) pa_nil))))))))
 (pss_one (ps_ret (pv 2)))), ?_⟩
  clear hr nd NN
  refine body_psp (n := 5) hs rfl ?_
  clear hs
  rintro ds f ⟨F, n, sp, v, hn, hl, hL, rfl, rfl⟩
  refine rs_forF (l := sp.zip (pivs sp)) (sx := fun q => .tup [nrwD q.1, nD q.2.val]) (js := [3, 4]) (fun v q => cleared v q.1 q.2) (fun _ => True) (fun v => [.im (fldD F), .im (tabN sp), .im (rowD v), .un, .un]) v ?_ (by repeat' (first | exact True.intro | refine And.intro ?_ ?_ | exact Or.inl rfl | exact Or.inr rfl)) (fun pre q post _ _ => ⟨_, rg_tup2, (fun _ h => h), ?_⟩) fun _ => rs_retV (rv_var rfl) rfl
  · have h2 := rj_zipM (K := K) (r := ent 5 [fldD F, tabN sp, rowD v]) (ta := tVar 1) (tb := tCall (sp_pivots_of K) [] E0 (tCons (tVar 1) tNil)) (rv_var rfl) (re_call (ra_cons ((rv_var rfl)) ra_nil) ⟨_, _, _, hl, hL, rfl, rfl⟩)
    have e : zipD (sp.map nrwD) ((pivs sp).map fun i => nD i.val) = (sp.zip (pivs sp)).map fun q => .tup [nrwD q.1, nD q.2.val] := by
      unfold zipD
      rw [List.zip_map, List.map_map]
      rfl
    rw [e] at h2
    exact h2
  · refine rs_set (nrow_row (re_call (ra_cons ((rv_var rfl)) (ra_cons ((rv_var rfl)) (ra_cons (nrow_row (rv_var rfl)) (ra_cons ((rv_var rfl)) ra_nil)))) ⟨_, _, _, _, _, hn, rfl, rfl⟩)) ?_
    rintro d rfl
    exact ⟨trivial, (by repeat' (first | exact True.intro | refine And.intro ?_ ?_ | exact Or.inl rfl | exact Or.inr rfl))⟩
def R_holds : List D → (D → Prop) → Prop := fun ds f => ∃ (F : Fd) (n : Nat) (sp : List (Row F n)) (v : Row F n), ∃ (hn : n ≤ 1000), ∃ (hl : sp.length ≤ 1000), ∃ (hL : Led sp), ds = [fldD F, tabN sp, rowD v] ∧ f = fun d => d = .bl (holds sp v)
abbrev sp_holds (K : PySem.W.Frag) : Sp := psp K R_holds
theorem f_holds {P : Program} {w : World} {K : PySem.W.Frag} {mg : Str → Option Value} {base : Heap} (T : Tx K mg base) : Cal P w K mg base 6 "holds" (sp_holds K) := by
  refine cal_of (d_holds T) (g_holds T) (N := ["field", "space", "v"]) (ps := ["field", "space", "v"]) (fun _ _ _ _ _ _ us hl => match us, hl with | [_, _, _], _ => rfl) (by decide +kernel) (psp_len (by rintro ds f ⟨_, _, _, _, _, _, _, rfl, _⟩; rfl)) ?_
  intro cdv A outer sh H vs Q E hr hs
  let NN : List Str := ["field", "space", "v"]
  have nd : List.Nodup (α := Str) ["field", "space", "v"] := by decide +kernel
  refine ⟨_, (pss_one (ps_ret (pe_not (pe_callB (cr_anyI rfl) (by rfl) (b_any T) (by rfl) (pa_cons (pe_c (f_rest T) hr (by decide) (by rfl) (pa_cons (pv 0) (pa_cons (pv 1) (pa_cons (pv 2) pa_nil)))) pa_nil))))), ?_⟩
  clear hr nd NN
  refine body_psp (n := 3) hs rfl ?_
  clear hs
  rintro ds f ⟨F, n, sp, v, hn, hl, hL, rfl, rfl⟩
  exact rs_retV (rv_notV (rv_anyT (re_call (ra_cons ((rv_var rfl)) (ra_cons ((rv_var rfl)) (ra_cons ((rv_var rfl)) ra_nil))) ⟨_, _, _, _, hn, hl, hL, rfl, rfl⟩))) (congrArg D.bl (holds_any sp v))
def R_complement_rows : List D → (D → Prop) → Prop := fun ds f => ∃ (F : Fd) (n : Nat) (sp : List (Row F n)), ∃ (hn : n ≤ 1000), ∃ (hl : sp.length ≤ 1000), ∃ (hL : Led sp), ds = [tabN sp, nD n] ∧ f = fun d => d = tabD (complRows sp)
abbrev sp_complement_rows (K : PySem.W.Frag) : Sp := psp K R_complement_rows
theorem f_complement_rows {P : Program} {w : World} {K : PySem.W.Frag} {mg : Str → Option Value} {base : Heap} (T : Tx K mg base) : Cal P w K mg base 2 "complement_rows" (sp_complement_rows K) := by
  refine cal_of (d_complement_rows T) (g_complement_rows T) (N := ["space", "width", "pivots", "at"]) (ps := ["space", "width"]) (fun _ _ _ _ _ _ us hl => match us, hl with | [_, _], _ => rfl) (by decide +kernel) (psp_len (by rintro ds f ⟨_, _, _, _, _, _, rfl, _⟩; rfl)) ?_
  intro cdv A outer sh H vs Q E hr hs
  let NN : List Str := ["space", "width", "pivots", "at"]
  have nd : List.Nodup (α := Str) ["space", "width", "pivots", "at"] := by decide +kernel
  refine ⟨_, (pss_cons (ps_set (i := 2) nd rfl (by first | exact Or.inl rfl | exact Or.inr rfl) (pe_c (f_pivots_of T) hr (by decide) (by rfl) (pa_cons (pv 0) pa_nil)))
 (pss_one (ps_ret (pe_callTy call_tuple_of (by rfl) (b_tuple T) (by rfl) (pa_cons (pe_lc (own := [("at", 3)]) (g := (gName 3)) (tt := (tTest (tOp (rIn K true) (tVar 3) (tVar 2)))) (te := (tCall (sp_unit_row K) [] E0 (tCons (tVar 1) (tCons (tVar 3) tNil)))) rfl nd (pi_range1 (by rfl) (b_range T) (pa_cons (pv 1) pa_nil)) (blkOk_by (N := NN) (by kernel_rfl)) (fun _ _ _ _ _ => (pg_name (i := 3) nd rfl (by first | exact Or.inl rfl | exact Or.inr rfl))) (fun _ _ _ _ _ => (pts_one (pt_cmpR op_notIn_seq (pv 3) (pv 2) (by first | exact nomark _ | rfl | with_unfolding_all rfl)))) (fun _ _ _ _ _ => (pe_c (f_unit_row T) hr (by decide) (by rfl) (pa_cons (pv 1) (pa_cons (pv 3) pa_nil))))) pa_nil))))), ?_⟩
  clear hr nd NN
  refine body_psp (n := 4) hs rfl ?_
  clear hs
  rintro ds f ⟨F, n, sp, hn, hl, hL, rfl, rfl⟩
  refine rs_setV (re_call (ra_cons ((rv_var rfl)) ra_nil) ⟨_, _, _, hl, hL, rfl, rfl⟩) ?_
  refine rs_retV (rv_tabT (l := complRows sp) (RunO.is2 (ro_lc (l := List.finRange n) (sx := fun i => nD i.val) (ex := fun i => rowD (runit i : Row F n)) (p := fun a => !decide (a ∈ pivs sp)) (js := [3]) (rj_i (rj_rng (rv_var rfl) rfl (by omega))) (by rw [List.length_finRange]; omega) (by decide) fun a _ => ⟨_, rg_name, (rt_test (rv_niL (xs := (pivs sp).map fun i => ((i.val : Nat) : Int)) (rv_var rfl) (RunE.l ((rv_var rfl).is (congrArg D.lst (piv_lst _)))))).is (by rw [piv_mem]), fun _ => re_call (ra_cons ((rv_var rfl)) (ra_cons ((rv_var rfl)) ra_nil)) ⟨_, _, _, hn, rfl, rfl⟩⟩) ?_)) rfl
  unfold complRows
  rw [List.map_map]
  rfl
def R_solve : List D → (D → Prop) → Prop := fun ds f => ∃ (F : Fd) (n : Nat) (l : List (Row F n)) (c : List (El F)), ∃ (hn : n < 1000), ∃ (hl : l.length ≤ 1000), ds = [fldD F, lstD l, nD n, .lst (c.map elD)] ∧ f = fun d => d = optD (solve l c)
abbrev sp_solve (K : PySem.W.Frag) : Sp := psp K R_solve
theorem f_solve {P : Program} {w : World} {K : PySem.W.Frag} {mg : Str → Option Value} {base : Heap} (T : Tx K mg base) : Cal P w K mg base 6 "solve" (sp_solve K) := by
  refine cal_of (d_solve T) (g_solve T) (N := ["field", "rows", "width", "right", "wide", "row", "item", "table", "pivots", "found", "line", "at"]) (ps := ["field", "rows", "width", "right"]) (fun _ _ _ _ _ _ us hl => match us, hl with | [_, _, _, _], _ => rfl) (by decide +kernel) (psp_len (by rintro ds f ⟨_, _, _, _, _, _, rfl, _⟩; rfl)) ?_
  intro cdv A outer sh H vs Q E hr hs
  let NN : List Str := ["field", "rows", "width", "right", "wide", "row", "item", "table", "pivots", "found", "line", "at"]
  have nd : List.Nodup (α := Str) ["field", "rows", "width", "right", "wide", "row", "item", "table", "pivots", "found", "line", "at"] := by decide +kernel
  refine ⟨_, (pss_cons (ps_setLc (i := 4) (own := [("row", 5), ("item", 6)]) (g := (gTup K 2 (gCons (gName 5) (gCons (gName 6) gNil)))) (tt := tYes) (te := (tOp (rCatA K) (tCB (rTupS K) (tCons (tVar 5) tNil)) (tTup (tCons (tVar 6) tNil)))) rfl nd rfl rfl (sw_true rfl rfl rfl (by decide +kernel)) (RZ.pi_zipA (by rfl) (b_zip T) (pa_cons (pv 1) (pa_cons (pv 3) pa_nil))) (blkOk_by (N := NN) (by kernel_rfl)) (fun _ _ _ _ _ => (pg_tup rfl (pgs_cons (pg_name (i := 5) nd rfl (by first | exact Or.inl rfl | exact Or.inr rfl)) (pgs_cons (pg_name (i := 6) nd rfl (by first | exact Or.inl rfl | exact Or.inr rfl)) pgs_nil)))) (fun _ _ _ _ _ => pts_nil) (fun _ _ _ _ _ => (pe_op op_catA (pe_callTy call_tuple_of (by rfl) (b_tuple T) (by rfl) (pa_cons (pv 5) pa_nil)) (pe_tup (pa_cons (pv 6) pa_nil)))))
 (pss_cons (ps_asg (pe_c (f_reduced T) hr (by decide) (by rfl) (pa_cons (pv 0) (pa_cons (pv 4) (pa_cons (pe_op op_add (pv 2) pe_int) pa_nil)))) (pg_tup rfl (pgs_cons (pg_name (i := 7) nd rfl (by first | exact Or.inl rfl | exact Or.inr rfl)) (pgs_cons (pg_name (i := 8) nd rfl (by first | exact Or.inl rfl | exact Or.inr rfl)) pgs_nil))))
 (pss_cons (ps_if (pt_cmpR op_in_seq (pv 2) (pv 8) (by first | exact nomark _ | rfl | with_unfolding_all rfl)) (pss_one (ps_ret pe_non)) pss_nil)
 (pss_cons (ps_set (i := 9) nd rfl (by first | exact Or.inl rfl | exact Or.inr rfl) (pe_op op_rep (pe_lst (pa_cons pe_int pa_nil)) (pv 2)))
 (pss_cons (ps_for PassesOwn.never rfl (RZ.pi_zipA (by rfl) (b_zip T) (pa_cons (pv 7) (pa_cons (pv 8) pa_nil))) (pg_tup rfl (pgs_cons (pg_name (i := 10) nd rfl (by first | exact Or.inl rfl | exact Or.inr rfl)) (pgs_cons (pg_name (i := 11) nd rfl (by first | exact Or.inl rfl | exact Or.inr rfl)) pgs_nil))) (pss_one (ps_asg (pe_ix ix_tup (pv 10) (pv 2) (fun _ _ => rfl)) (pg_sub (pv 9) (pv 11) set_list))))
 (pss_one (ps_ret (pe_callTy call_tuple_of (by rfl) (b_tuple T) (by rfl) (pa_cons (pv 9) pa_nil))))))))), ?_⟩
  clear hr nd NN
  refine body_psp (n := 12) hs rfl ?_
  clear hs
  rintro ds f ⟨F, n, l, c, hn, hl, rfl, rfl⟩
  refine rs_setV (d := lstD ((l.zip c).map fun p => rsnoc p.1 p.2)) ((ro_map (l := l.zip c) (sx := fun p => .tup [rowD p.1, elD p.2]) (ex := fun p => rowD (rsnoc p.1 p.2)) (js := [5, 6]) ?_ ?_ (by decide) fun p _ => ⟨_, rg_tup2, (rv_catT (rv_tupT (rv_var rfl)) (rv_tup (ra_cons ((rv_var rfl)) ra_nil)) ?_).is ?_⟩).v.is ?_) ?_
  · have h2 := ri_zipL (K := K) (r := ent 12 [fldD F, lstD l, nD n, .lst (c.map elD)]) (ta := tVar 1) (tb := tVar 3) (RunE.l (rv_var rfl)) (RunE.l (rv_var rfl))
    have e : zipD (l.map rowD) (c.map elD) = (l.zip c).map fun p => .tup [rowD p.1, elD p.2] := by
      unfold zipD
      rw [List.zip_map, List.map_map]
      rfl
    rw [e] at h2
    exact h2
  · rw [List.length_zip]; omega
  · rw [List.length_map, rowI_len]; simp; omega
  · exact congrArg D.tup (row_snoc _ _)
  · show _ = D.lst (List.map rowD _)
    rw [List.map_map]
    rfl
  refine rs_tgq (js := [7, 8]) (re_call (ra_cons ((rv_var rfl)) (ra_cons ((rv_var rfl)) (ra_cons (rv_add (rv_var rfl) rv_int) ra_nil))) ⟨F, n + 1, false, (l.zip c).map fun p => rsnoc p.1 p.2, hn, ?_, rfl, rfl⟩) ?_
  · rw [List.length_map, List.length_zip]; omega
  rintro d rfl
  refine ⟨_, rg_tup2, (fun _ h => h), ?_⟩
  have epiv : D.tup ((red ((l.zip c).map fun p => rsnoc p.1 p.2)).piv.map fun i => nD i.val) = irow ((red ((l.zip c).map fun p => rsnoc p.1 p.2)).piv.map fun i => ((i.val : Nat) : Int)) := congrArg D.tup (piv_lst _)
  have es : solve l c = if Fin.last n ∈ (red ((l.zip c).map fun p => rsnoc p.1 p.2)).piv then none else some (((red ((l.zip c).map fun p => rsnoc p.1 p.2)).table.zip (red ((l.zip c).map fun p => rsnoc p.1 p.2)).piv).foldl (fun row p => if h : p.2.val < n then rset row ⟨p.2.val, h⟩ (p.1 (Fin.last n)) else row) rzero) := rfl
  rw [es]
  generalize red ((l.zip c).map fun p => rsnoc p.1 p.2) = s at epiv
  refine rs_ifr (rt_test (rv_inT (xs := s.piv.map fun i => ((i.val : Nat) : Int)) (rv_var rfl) ((rv_var rfl).is epiv))) (fun h => rs_retV rv_non ?_) fun h => ?_
  · have h2 : decide ((((Fin.last n).val : Nat) : Int) ∈ s.piv.map fun i => ((i.val : Nat) : Int)) = true := h
    rw [piv_mem] at h2
    rw [if_pos (of_decide_eq_true h2)]
    rfl
  have h2 : decide ((((Fin.last n).val : Nat) : Int) ∈ s.piv.map fun i => ((i.val : Nat) : Int)) = false := h
  rw [piv_mem] at h2
  have h2 := of_decide_eq_false h2
  rw [if_neg h2]
  refine rs_ownV (RunO.is2 (ro_rep (k := n) (d := nD 0) (ro_m (rov_lst (ra_cons (rv_int) ra_nil))) (rv_var rfl) (by omega)) (es := (rowI (rzero : Row F n)).map D.int) ?_) fun p => ?_
  · rw [row_map]
    apply List.ext_getElem
    · simp
    · intro i h1 h2; simp; rfl
  refine rs_forF (l := s.table.zip s.piv) (sx := fun q => .tup [nrwD q.1, nD q.2.val]) (js := [10, 11]) (fun row q => if h : q.2.val < n then rset row ⟨q.2.val, h⟩ (q.1 (Fin.last n)) else row) (fun _ => True) (fun row => [.im (fldD F), .im (lstD l), .im (nD n), .im (.lst (c.map elD)), .un, .un, .un, .im (tabN s.table), .im (.tup (s.piv.map fun i => nD i.val)), .ow p ((rowI row).map D.int), .un, .un]) rzero (rj_zipNP (rv_var rfl) (rv_var rfl)) (by repeat' (first | exact True.intro | refine And.intro ?_ ?_ | exact Or.inl rfl | exact Or.inr rfl)) (fun pre2 q post2 hq _ => ⟨_, rg_tup2, (fun _ h => h), ?_⟩) fun _ => rs_retV (rv_tupL (rl_own rfl)) rfl
  have hq2 : q.2 ∈ s.piv := by
    have : q ∈ s.table.zip s.piv := by rw [hq]; simp
    exact (List.of_mem_zip (a := q.1) (b := q.2) this).2
  have hlt : q.2.val < n := by
    have h3 : ¬ q.2 = Fin.last n := fun e => h2 (e ▸ hq2)
    have h4 := q.2.isLt
    have h5 : ¬ q.2.val = n := fun e => h3 (Fin.ext e)
    omega
  generalize (pre2.foldl (fun row q => if h : q.2.val < n then rset row ⟨q.2.val, h⟩ (q.1 (Fin.last n)) else row) rzero : Row F n) = row
  refine rs_item (k := q.2.val) rfl (rv_rowIx (i := Fin.last n) (nrow_row (rv_var rfl)) (rv_var rfl) rfl) (rv_var rfl) rfl (by rw [List.length_map, rowI_len]; exact hlt) ?_
  rintro d rfl
  refine ⟨trivial, ?_⟩
  rw [dif_pos hlt, ← row_set]
  exact (by repeat' (first | exact True.intro | refine And.intro ?_ ?_ | exact Or.inl rfl | exact Or.inr rfl))
section
variable {F : Fd} {n : Nat}
theorem find_head {A : Type} (l : List A) (p : A → Bool) : l.find? p = (l.filter p).head? := by
  induction l with
  | nil => rfl
  | cons a l ih =>
    rw [List.find?_cons, List.filter_cons]
    cases p a with
    | true => rfl
    | false => simpa using ih
theorem detStep_nil {s : DS F n} {a : Fin n} (h : (List.range s.left.length).filter (detP s.left a) = []) : detStep s a = none := by
  have e : (List.range s.left.length).find? (detP s.left a) = none := by rw [find_head, h]; rfl
  unfold detStep
  rw [e]
theorem detStep_cons {s : DS F n} {a : Fin n} {k : Nat} {tl : List Nat} (h : (List.range s.left.length).filter (detP s.left a) = k :: tl) : ∃ x, s.left[k]? = some x ∧ ¬ x a = 0 ∧ k < s.left.length ∧
    detStep s a = some ⟨(s.left.eraseIdx k).map fun r => cleared r (rscl x (x a)⁻¹) a, (if k % 2 = 1 then -s.found else s.found) * x a⟩ := by
  have e : (List.range s.left.length).find? (detP s.left a) = some k := by rw [find_head, h]; rfl
  have hk : k < s.left.length := List.mem_range.mp (List.mem_of_find?_eq_some e)
  have hp := List.find?_some e
  refine ⟨s.left[k], List.getElem?_eq_getElem hk, ?_, hk, ?_⟩
  · unfold detP at hp
    rw [List.getElem?_eq_getElem hk] at hp
    simpa using hp
  · unfold detStep
    rw [e]
    simp only [List.getElem?_eq_getElem hk]
end

theorem LeE.trans : ∀ {a b c : En}, LeE a b → LeE b c → LeE a c
  | [], [], [], _, _ => trivial
  | _ :: _, _ :: _, _ :: _, ⟨h1, h2⟩, ⟨g1, g2⟩ => ⟨by
    rcases g1 with g1 | g1
    · rw [g1]; exact h1
    · exact .inr g1, LeE.trans h2 g2⟩
theorem erase_map {A B : Type} : ∀ (l : List A) (f : A → B) (k : Nat), (l.map f).eraseIdx k = (l.eraseIdx k).map f
  | [], _, _ => rfl
  | _ :: _, _, 0 => rfl
  | a :: l, f, k + 1 => by
    rw [List.map_cons, List.eraseIdx_cons_succ, erase_map l f k]
    rfl
theorem enum_map {A : Type} (l : List A) (k : Nat) (h : l.length = k) (f : A → D) : zipD (rng 0 k) (l.map f) = (List.finRange k).map fun i => .tup [nD i.val, f (l[i.val]'(by omega))] := by
  subst h
  rw [rng_fin, map_fin l f, zipD_map]
theorem rl_own2 {K : PySem.W.Frag} {r : En} {p : Addr} {i : Nat} {ds es : List D} (h : r[i]? = some (.ow p ds)) (e : ds = es) : RunL K (tVar i) r es := by subst e; exact rl_own h
theorem ro_rows {K : PySem.W.Frag} {r : En} {te : TE} {F : Fd} {n : Nat} {l : List (Row F n)} (h : RunOV K te r (l.map nrwD)) : RunOV K te r (l.map rowD) := fun S s F H e Q q =>
  h S s F H e Q fun ds p vs F' H' hd g n1 n2 hp rd => q _ p vs F' H' rfl g n1 n2 hp (by
    subst hd
    rw [tabN_map] at rd
    rw [tab_map]
    exact rd.rows)

def R_determinant : List D → (D → Prop) → Prop := fun ds f => ∃ (F : Fd) (n : Nat) (m : List (Row F n)), ∃ (hn : n ≤ 1000), ∃ (hm : m.length = n), ds = [fldD F, tabD m] ∧ f = fun d => d = elD (det m)
abbrev sp_determinant (K : PySem.W.Frag) : Sp := psp K R_determinant
theorem f_determinant {P : Program} {w : World} {K : PySem.W.Frag} {mg : Str → Option Value} {base : Heap} (T : Tx K mg base) : Cal P w K mg base 5 "determinant" (sp_determinant K) := by
  refine cal_of (d_determinant T) (g_determinant T) (N := ["field", "matrix", "left", "found", "at", "heads", "k", "head", "lead", "row"]) (ps := ["field", "matrix"]) (fun _ _ _ _ _ _ us hl => match us, hl with | [_, _], _ => rfl) (by decide +kernel) (psp_len (by rintro ds f ⟨_, _, _, _, _, rfl, _⟩; rfl)) ?_
  intro cdv A outer sh H vs Q E hr hs
  let NN : List Str := ["field", "matrix", "left", "found", "at", "heads", "k", "head", "lead", "row"]
  have nd : List.Nodup (α := Str) ["field", "matrix", "left", "found", "at", "heads", "k", "head", "lead", "row"] := by decide +kernel
  refine ⟨_, (pss_cons (ps_set (i := 2) nd rfl (by first | exact Or.inl rfl | exact Or.inr rfl) (pe_callTy call_list_of (by rfl) (b_list T) (by rfl) (pa_cons (pv 1) pa_nil)))
 (pss_cons (ps_set (i := 3) nd rfl (by first | exact Or.inl rfl | exact Or.inr rfl) pe_int)
 (pss_cons (ps_for PassesOwn.never rfl (pi_range1 (by rfl) (b_range T) (pa_cons (pe_callB call_len_seq (by rfl) (b_len T) PySem.boot_len (pa_cons (pv 1) pa_nil)) pa_nil)) (pg_name (i := 4) nd rfl (by first | exact Or.inl rfl | exact Or.inr rfl)) (pss_cons (ps_setLc (i := 5) (own := [("k", 6)]) (g := (gName 6)) (tt := (tTest (tOp rNe (tOp (rIxT K) (tOp (rIxL K) (tVar 2) (tVar 6)) (tVar 4)) (tC (.int 0))))) (te := (tVar 6)) rfl nd rfl rfl (sw_true rfl rfl rfl (by decide +kernel)) (pi_range1 (by rfl) (b_range T) (pa_cons (pe_callB call_len_seq (by rfl) (b_len T) PySem.boot_len (pa_cons (pv 2) pa_nil)) pa_nil)) (blkOk_by (N := NN) (by kernel_rfl)) (fun _ _ _ _ _ => (pg_name (i := 6) nd rfl (by first | exact Or.inl rfl | exact Or.inr rfl))) (fun _ _ _ _ _ => (pts_one (pt_cmpR op_ne (pe_ix ix_tup (pe_ix ix_list (pv 2) (pv 6) (fun _ _ => rfl)) (pv 4) (fun _ _ => rfl)) pe_int (by first | exact nomark _ | rfl | with_unfolding_all rfl)))) (fun _ _ _ _ _ => (pv 6)))
 (pss_cons (ps_if (pt_cmpR op_eq (pe_callB call_len_seq (by rfl) (b_len T) PySem.boot_len (pa_cons (pv 5) pa_nil)) pe_int (by first | exact nomark _ | rfl | with_unfolding_all rfl)) (pss_one (ps_ret pe_int)) pss_nil)
 (pss_cons (ps_set (i := 7) nd rfl (by first | exact Or.inl rfl | exact Or.inr rfl) (pe_bm PySem.F.plainAttrs_list PySem.F.slot_list_pop PySem.F.type_list_pop mt_popAt (pv 2) (pa_cons (pe_ix ix_list (pv 5) pe_int (fun _ _ => rfl)) pa_nil)))
 (pss_cons (ps_if (pt_cmpR op_eq (pe_op op_mod (pe_ix ix_list (pv 5) pe_int (fun _ _ => rfl)) pe_int) pe_int (by first | exact nomark _ | rfl | with_unfolding_all rfl)) (pss_one (ps_set (i := 3) nd rfl (by first | exact Or.inl rfl | exact Or.inr rfl) (pe_mt (f_Field_negative T) hr (by decide) (pv 0) (pa_cons (pv 3) pa_nil)))) pss_nil)
 (pss_cons (ps_set (i := 3) nd rfl (by first | exact Or.inl rfl | exact Or.inr rfl) (pe_mt (f_Field_multiply T) hr (by decide) (pv 0) (pa_cons (pv 3) (pa_cons (pe_ix ix_tup (pv 7) (pv 4) (fun _ _ => rfl)) pa_nil))))
 (pss_cons (ps_set (i := 8) nd rfl (by first | exact Or.inl rfl | exact Or.inr rfl) (pe_c (f_scaled T) hr (by decide) (by rfl) (pa_cons (pv 0) (pa_cons (pv 7) (pa_cons (pe_mt (f_Field_inverse T) hr (by decide) (pv 0) (pa_cons (pe_ix ix_tup (pv 7) (pv 4) (fun _ _ => rfl)) pa_nil)) pa_nil)))))
 (pss_one (ps_set (i := 2) nd rfl (by first | exact Or.inl rfl | exact Or.inr rfl) (pe_lc (own := [("row", 9)]) (g := (gName 9)) (tt := tYes) (te := (tCall (sp_cleared K) [] E0 (tCons (tVar 0) (tCons (tVar 9) (tCons (tVar 8) (tCons (tVar 4) tNil)))))) rfl nd (pi_list (pv 2)) (blkOk_by (N := NN) (by kernel_rfl)) (fun _ _ _ _ _ => (pg_name (i := 9) nd rfl (by first | exact Or.inl rfl | exact Or.inr rfl))) (fun _ _ _ _ _ => pts_nil) (fun _ _ _ _ _ => (pe_c (f_cleared T) hr (by decide) (by rfl) (pa_cons (pv 0) (pa_cons (pv 9) (pa_cons (pv 8) (pa_cons (pv 4) pa_nil))))))))))))))))
 (pss_one (ps_ret (pv 3)))))), ?_⟩
  clear hr nd NN
  refine body_psp (n := 10) hs rfl ?_
  clear hs
  rintro ds f ⟨F, n, m, hn, hm, rfl, rfl⟩
  refine rs_ownV (ro_lstT (rv_var rfl)) fun p0 => ?_
  refine rs_setV (d := elD (1 : El F)) rv_int ?_
  refine rs_seq (fun r' => LeE r' [.im (fldD F), .im (tabD m), .un, .im (elD (det m)), .un, .un, .un, .un, .un, .un]) ?_ fun r' e => rs_weak e (rs_retV (rv_var rfl) rfl)
  refine rs_for (js := [4]) (xs := (List.finRange n).map fun i => nD i.val) (rj_rng (rv_lenT (rv_var rfl) (by rw [List.length_map])) (by rw [hm]) (by omega)) (fun i r' => ∃ (s : DS F n) (p : Addr), det m = detGo ((List.finRange n).drop i) s ∧ s.left.length ≤ n ∧ LeE r' [.im (fldD F), .im (tabD m), .ow p (s.left.map rowD), .im (elD s.found), .un, .un, .un, .un, .un, .un]) ⟨⟨m, 1⟩, p0, rfl, by show m.length ≤ n; omega, (by repeat' (first | exact True.intro | refine And.intro ?_ ?_ | exact Or.inl rfl | exact Or.inr rfl))⟩ ?_ ?_
  · intro i r' d hd ⟨s, p, h1, h2, h3⟩
    rw [List.getElem?_map] at hd
    cases hq : (List.finRange n)[i]? with
    | none => rw [hq] at hd; cases hd
    | some a =>
      rw [hq] at hd
      cases hd
      have hdr : (List.finRange n).drop i = a :: (List.finRange n).drop (i + 1) := by
        obtain ⟨hi, ha⟩ := List.getElem?_eq_some_iff.mp hq
        rw [← ha]
        exact List.drop_eq_getElem_cons hi
      rw [hdr] at h1
      refine ⟨_, fun S sl F H v en rd Q q => rg_name S sl F H v (en.weak h3) rd Q q, fun x hx => h3.own x hx, ?_⟩
      refine rs_lstV (ro_lc (l := List.range s.left.length) (sx := nD) (ex := nD) (p := detP s.left a) (js := [6]) (rj_i ?_) (by rw [List.length_range]; omega) (by decide) fun k hk => ?_) ?_
      · have h4 := rj_rng1 (K := K) (r := [.im (fldD F), .im (tabD m), .ow p (s.left.map rowD), .im (elD s.found), .im (nD a.val), .un, .un, .un, .un, .un]) (te := tCB (rLenS K) (tCons (tVar 2) tNil)) (n := s.left.length) (rv_lenL (rl_own rfl) rfl) (by rw [List.length_map]) (by omega)
        have e : rng 0 s.left.length = (List.range s.left.length).map nD := by
          unfold rng
          apply List.map_congr_left
          intro x _
          simp
        rw [e] at h4
        exact h4
      · have hk := List.mem_range.mp hk
        refine ⟨_, rg_name, (rt_test (rv_neI (rv_rowIx (v := s.left[k]) (rv_lstIx (k := k) (l := s.left) (rl_own rfl) (rv_var rfl) rfl (List.getElem?_eq_getElem hk)) (rv_var rfl) rfl) rv_int)).is ?_, fun _ => (rv_var rfl)⟩
        unfold detP
        rw [List.getElem?_eq_getElem hk, el_is0]
      cases hf : (List.range s.left.length).filter (detP s.left a) with
      | nil =>
        refine rs_ifr (rt_test (rv_eqI (rv_lenL (RunE.l (rv_var rfl)) rfl) rv_int)) (fun _ => rs_retV (d := elD (det m)) ?_ rfl) fun h => absurd h (by simp)
        have e : elD (det m) = .int 0 := by
          rw [h1]
          unfold detGo
          rw [detStep_nil hf]
          rfl
        rw [e]
        exact rv_int
      | cons k tl =>
        obtain ⟨x, x1, x2, x3, x4⟩ := detStep_cons hf
        refine rs_ifr (rt_test (rv_eqI (rv_lenL (RunE.l (rv_var rfl)) rfl) rv_int)) (fun h => absurd h (by simp; omega)) fun _ => ?_
        refine rs_popq (i := 2) (j := 7) (k := k) (p := p) (d := rowD x) rfl (rv_ixL (k := 0) (d := nD k) (RunE.l (rv_var rfl)) rv_int rfl rfl) rfl (tab_at x1) (by rw [List.length_map]; omega) (by decide) ?_
        refine rs_seq (fun r' => r' = [.im (fldD F), .im (tabD m), .ow p ((s.left.map rowD).eraseIdx k), .im (elD (if k % 2 = 1 then -s.found else s.found)), .im (nD a.val), .im (.lst ((k :: tl).map nD)), .un, .im (rowD x), .un, .un]) (rs_if (rt_test (rv_eqI (rv_mod (rv_ixL (k := 0) (d := nD k) (RunE.l (rv_var rfl)) rv_int rfl rfl) rv_int (by decide)) rv_int)) (fun h => rs_set (re_meth (rv_var rfl) rfl (ra_cons ((rv_var rfl)) ra_nil) ⟨_, _, rfl, rfl⟩) ?_) fun h => rs_next ?_) ?_
        · have h := of_decide_eq_true h
          rintro d rfl
          rw [if_pos (by omega)]
          rfl
        · have h := of_decide_eq_false h
          rw [if_neg (by omega)]
          rfl
        rintro r' rfl
        refine rs_setq (re_meth (rv_var rfl) rfl (ra_cons ((rv_var rfl)) (ra_cons (rv_rowIx (rv_var rfl) (rv_var rfl) rfl) ra_nil)) ⟨_, _, _, rfl, rfl⟩) ?_
        rintro d rfl
        refine rs_setV (re_call (ra_cons ((rv_var rfl)) (ra_cons ((rv_var rfl)) (ra_cons (re_meth (rv_var rfl) rfl (ra_cons (rv_rowIx (rv_var rfl) (rv_var rfl) rfl) ra_nil) ⟨_, _, x2, rfl, rfl⟩) ra_nil))) ⟨_, _, _, _, hn, rfl, rfl⟩) ?_
        refine rs_own (i := 2) (ro_rows (l := (s.left.eraseIdx k).map fun r => cleared r (rscl x (x a)⁻¹) a) (RunO.is2 (ro_map (l := s.left.eraseIdx k) (sx := rowD) (ex := fun r => nrwD (cleared r (rscl x (x a)⁻¹) a)) (js := [9]) (ri_list (rl_own2 (p := p) rfl (erase_map s.left rowD k))) (by have := List.length_eraseIdx_le s.left k; omega) (by decide) fun v _ => ⟨_, rg_name, re_call (ra_cons ((rv_var rfl)) (ra_cons ((rv_var rfl)) (ra_cons (nrow_row (rv_var rfl)) (ra_cons ((rv_var rfl)) ra_nil)))) ⟨_, _, _, _, _, hn, rfl, rfl⟩⟩) (by rw [List.map_map]; rfl))) ?_
        · rintro ds p' rfl
          refine ⟨⟨(s.left.eraseIdx k).map fun r => cleared r (rscl x (x a)⁻¹) a, (if k % 2 = 1 then -s.found else s.found) * x a⟩, p', ?_, ?_, (by repeat' (first | exact True.intro | refine And.intro ?_ ?_ | exact Or.inl rfl | exact Or.inr rfl))⟩
          · have e3 : detGo (a :: (List.finRange n).drop (i + 1)) s = (match detStep s a with | none => 0 | some s' => detGo ((List.finRange n).drop (i + 1)) s') := rfl
            rw [h1, e3, x4]
          · show ((s.left.eraseIdx k).map _).length ≤ n
            rw [List.length_map]
            have := List.length_eraseIdx_le s.left k
            omega
  · intro r' ⟨s, p, h1, h2, h3⟩
    rw [List.length_map, List.length_finRange, List.drop_eq_nil_of_le (by rw [List.length_finRange]; exact Nat.le_refl _)] at h1
    have e : det m = s.found := h1
    rw [e]
    exact h3.trans (by repeat' (first | exact True.intro | refine And.intro ?_ ?_ | exact Or.inl rfl | exact Or.inr rfl))
def R_matrix_inverse : List D → (D → Prop) → Prop := fun ds f => ∃ (F : Fd) (n : Nat) (m inv : List (Row F n)), ∃ (hn : n ≤ 400), ∃ (hi : minv m = some inv), ds = [fldD F, tabD m] ∧ f = fun d => d = tabD inv
abbrev sp_matrix_inverse (K : PySem.W.Frag) : Sp := psp K R_matrix_inverse
theorem f_matrix_inverse {P : Program} {w : World} {K : PySem.W.Frag} {mg : Str → Option Value} {base : Heap} (T : Tx K mg base) : Cal P w K mg base 6 "matrix_inverse" (sp_matrix_inverse K) := by
  refine cal_of (d_matrix_inverse T) (g_matrix_inverse T) (N := ["field", "matrix", "n", "wide", "i", "row", "table", "pivots"]) (ps := ["field", "matrix"]) (fun _ _ _ _ _ _ us hl => match us, hl with | [_, _], _ => rfl) (by decide +kernel) (psp_len (by rintro ds f ⟨_, _, _, _, _, _, rfl, _⟩; rfl)) ?_
  intro cdv A outer sh H vs Q E hr hs
  let NN : List Str := ["field", "matrix", "n", "wide", "i", "row", "table", "pivots"]
  have nd : List.Nodup (α := Str) ["field", "matrix", "n", "wide", "i", "row", "table", "pivots"] := by decide +kernel
  refine ⟨_, (pss_cons (ps_set (i := 2) nd rfl (by first | exact Or.inl rfl | exact Or.inr rfl) (pe_callB call_len_seq (by rfl) (b_len T) PySem.boot_len (pa_cons (pv 1) pa_nil)))
 (pss_cons (ps_setLc (i := 3) (own := [("i", 4), ("row", 5)]) (g := (gTup K 2 (gCons (gName 4) (gCons (gName 5) gNil)))) (tt := tYes) (te := (tOp (rCatA K) (tCB (rTupS K) (tCons (tVar 5) tNil)) (tCall (sp_unit_row K) [] E0 (tCons (tVar 2) (tCons (tVar 4) tNil))))) rfl nd rfl rfl (sw_true rfl rfl rfl (by decide +kernel)) (pi_enT (by rfl) (b_enumerate T) (pa_cons (pv 1) pa_nil)) (blkOk_by (N := NN) (by kernel_rfl)) (fun _ _ _ _ _ => (pg_tup rfl (pgs_cons (pg_name (i := 4) nd rfl (by first | exact Or.inl rfl | exact Or.inr rfl)) (pgs_cons (pg_name (i := 5) nd rfl (by first | exact Or.inl rfl | exact Or.inr rfl)) pgs_nil)))) (fun _ _ _ _ _ => pts_nil) (fun _ _ _ _ _ => (pe_op op_catA (pe_callTy call_tuple_of (by rfl) (b_tuple T) (by rfl) (pa_cons (pv 5) pa_nil)) (pe_c (f_unit_row T) hr (by decide) (by rfl) (pa_cons (pv 2) (pa_cons (pv 4) pa_nil))))))
 (pss_cons (ps_asg (pe_c (f_reduced T) hr (by decide) (by rfl) (pa_cons (pv 0) (pa_cons (pv 3) (pa_cons (pe_op op_mul pe_int (pv 2)) pa_nil)))) (pg_tup rfl (pgs_cons (pg_name (i := 6) nd rfl (by first | exact Or.inl rfl | exact Or.inr rfl)) (pgs_cons (pg_name (i := 7) nd rfl (by first | exact Or.inl rfl | exact Or.inr rfl)) pgs_nil))))
 (pss_cons (ps_if (pt_cmpR (op_neD hr.units) (pv 7) (pe_tupRg rfl (by rfl) (b_tuple T) (prg_1 (by rfl) (b_range T) (pv 2))) (by first | exact nomark _ | rfl | with_unfolding_all rfl)) (pss_one ps_never) pss_nil)
 (pss_one (ps_ret (pe_callTy call_tuple_of (by rfl) (b_tuple T) (by rfl) (pa_cons (pe_lc (own := [("row", 5)]) (g := (gName 5)) (tt := tYes) (te := (tSl (rSlA K) (tVar 5) (tPart (tVar 2)) tNoPart)) rfl nd (pi_tup (pv 6)) (blkOk_by (N := NN) (by kernel_rfl)) (fun _ _ _ _ _ => (pg_name (i := 5) nd rfl (by first | exact Or.inl rfl | exact Or.inr rfl))) (fun _ _ _ _ _ => pts_nil) (fun _ _ _ _ _ => (pe_slice sl_tupA (pv 5) (po_some (pv 2)) po_none))) pa_nil)))))))), ?_⟩
  clear hr nd NN
  refine body_psp (n := 8) hs rfl ?_
  clear hs
  rintro ds f ⟨F, n, m, inv, hn, hi, rfl, rfl⟩
  have hm : m.length = n := by
    unfold minv at hi
    split at hi
    · assumption
    · cases hi
  unfold minv at hi
  rw [dif_pos hm] at hi
  have hpv : (red (wide m hm)).piv = (List.finRange n).map (fun i => (⟨i.val, by omega⟩ : Fin (2 * n))) := by
    by_cases h : (red (wide m hm)).piv = (List.finRange n).map (fun i => (⟨i.val, by omega⟩ : Fin (2 * n)))
    · exact h
    · rw [if_neg h] at hi; cases hi
  rw [if_pos hpv] at hi
  cases hi
  refine rs_setV (rv_lenT (rv_var rfl) (k := (n : Int)) (by rw [List.length_map, hm])) ?_
  refine rs_setV (d := lstD (wide m hm)) ((ro_map (l := List.finRange n) (sx := fun i => .tup [nD i.val, rowD (m[i.val]'(by omega))]) (ex := fun i => rowD (rapp (m[i.val]'(by omega)) (runit i))) (js := [4, 5]) (rj_i ?_) (by rw [List.length_finRange]; omega) (by decide) fun i _ => ⟨_, rg_tup2, (rv_catT (rv_tupT (rv_var rfl)) (re_call (ra_cons ((rv_var rfl)) (ra_cons ((rv_var rfl)) ra_nil)) ⟨F, n, i, by omega, rfl, rfl⟩) ?_).is ?_⟩).v.is ?_) ?_
  · have h := rj_enT (K := K) (r := [.im (fldD F), .im (tabD m), .im (nD n), .un, .un, .un, .un, .un]) (te := tVar 1) (ds := m.map rowD) (rv_var rfl)
    have e : zipD (rng 0 (m.map rowD).length) (m.map rowD) = (List.finRange n).map fun i => .tup [nD i.val, rowD (m[i.val]'(by omega))] := by
      rw [List.length_map]
      have := enum_map m n hm rowD
      rw [← this, hm]
    rw [e] at h
    exact h
  · rw [List.length_map, List.length_map, rowI_len, rowI_len]; omega
  · refine congrArg D.tup ?_
    rw [row_map, row_map, row_map]
    apply List.ext_getElem
    · simp; omega
    · intro k h1 h2
      by_cases hk : k < n
      · rw [List.getElem_append_left (by simpa using hk)]
        simp [rapp, hk]
      · rw [List.getElem_append_right (by simpa using hk)]
        simp [rapp, hk]
  · show _ = D.lst (List.map rowD _)
    unfold wide
    rw [List.map_map]
    rfl
  refine rs_tgq (js := [6, 7]) (re_call (ra_cons ((rv_var rfl)) (ra_cons ((rv_var rfl)) (ra_cons (rv_mul rv_int (rv_var rfl) (.inl (by omega))) ra_nil))) ⟨F, 2 * n, false, wide m hm, by omega, ?_, ?_, rfl⟩) ?_
  · unfold wide
    rw [List.length_map, List.length_finRange]
    omega
  · show [_, _, D.int _] = [_, _, D.int _]
    congr 4
  rintro d rfl
  refine ⟨_, rg_tup2, (fun _ h => h), ?_⟩
  refine rs_guard ((rt_test (rv_neRow (xs := (red (wide m hm)).piv.map fun i => ((i.val : Nat) : Int)) (ys := (List.range n).map fun (i : Nat) => (i : Int)) ((rv_var rfl).is (congrArg D.tup (piv_lst _))) ((rv_tupRg (rv_var rfl) rfl (by omega)).is ?_))).is ?_) ?_
  · show _ = D.tup (List.map D.int _)
    rw [List.map_map]
    rfl
  · rw [hpv, decide_eq_true]
    · rfl
    · rw [List.map_map]
      apply List.ext_getElem
      · simp
      · intro i h1 h2
        simp
  · refine rs_retV (rv_tabT (l := (red (wide m hm)).table.map rback) (RunO.is2 (ro_map (l := (red (wide m hm)).table) (sx := nrwD) (ex := fun v => rowD (rback v)) (js := [5]) (rj_i (rj_tup (rv_var rfl))) (by have := (red_tab_len (wide m hm)).1; omega) (by decide) fun v _ => ⟨_, rg_name, (rv_sliceFrom (to := tNoPart) (nrow_row (rv_var rfl)) (rv_var rfl) (by rw [List.length_map, rowI_len]; omega)).is ?_⟩) (by rw [List.map_map]; rfl))) rfl
    refine congrArg D.tup ?_
    rw [row_map, row_map]
    apply List.ext_getElem
    · simp; omega
    · intro k h1 h2
      simp [rback]
end Wk
/-! # WkW5 -/
set_option Elab.async false
set_option linter.all false
set_option maxRecDepth 100000
set_option maxHeartbeats 4000000
namespace Wk
open PySem PySem.Spec PyProof.Rows L2
theorem kA (k : Kd) : decide (k.str = ("alternating" : Str)) = decide (k = .alt) := by cases k <;> rfl
theorem kQ (k : Kd) : decide (k.str = ("quadratic" : Str)) = decide (k = .quad) := by cases k <;> rfl
theorem kH (k : Kd) : decide (k.str = ("hermitian" : Str)) = decide (k = .herm) := by cases k <;> rfl
section
variable {K : PySem.W.Frag} {r : En} {ta tb te : TE} {t tz : TS} {P : Po} {f : D → Prop}
theorem rs_doq (w : RunE K te r f) (h : RunS K tz r P) : RunS K (tSeq (tDrop te) tz) r P := rs_seq (fun r' => r' = r) (rs_drop w rfl) fun r' e => by subst e; exact h
theorem rj_rngN {k : Nat} {z : Int} (h : RunV K te r (.int z)) (hz : z = (k : Int)) (hk : k ≤ 1000000) : RunJ K (iRng1 (tCons te tNil)) r ((List.range k).map nD) := by
  have e : rng 0 k = (List.range k).map nD := by
    unfold rng
    apply List.map_congr_left
    intro x _
    simp
  rw [← e]
  exact rj_rng1 h hz hk
theorem rj_rngB {m n : Nat} {i j : Int} (wa : RunV K ta r (.int i)) (wb : RunV K tb r (.int j)) (hi : i = (m : Int)) (hj : j = (n : Int)) (hm : m ≤ 1000000) (hn : n ≤ 1000000) : RunJ K (iRng2 (tCons ta (tCons tb tNil))) r ((List.range (n - m)).map fun t => nD (m + t)) := by
  have e : rng m (n - m) = (List.range (n - m)).map fun t => nD (m + t) := by
    unfold rng
    apply List.map_congr_left
    intro x _
    simp
  rw [← e]
  exact rj_rng2 wa wb hi hj hm hn
theorem rv_matIx {F : Fd} {n : Nat} {m : Fin n → Row F n} {z : Int} {i : Fin n} (h1 : RunV K ta r (tabD (matL m))) (h2 : RunV K tb r (.int z)) (hz : z = (i.val : Int)) : RunV K (tOp (rIxT K) ta tb) r (rowD (m i)) := rv_tabIx h1 h2 hz (mat_at m i)
theorem rv_neE {F : Fd} {a b : El F} (h1 : RunV K ta r (elD a)) (h2 : RunV K tb r (elD b)) : RunV K (tOp rNe ta tb) r (.bl (!decide (a = b))) := (rv_neI h1 h2).is (by rw [el_eq])
theorem rv_eqE {F : Fd} {a b : El F} (h1 : RunV K ta r (elD a)) (h2 : RunV K tb r (elD b)) : RunV K (tOp rEq ta tb) r (.bl (decide (a = b))) := (rv_eqI h1 h2).is (by rw [el_eq])
theorem rv_e0 {F : Fd} : RunV K (tC (.int 0)) r (elD (0 : El F)) := rv_int
theorem range_pre {k x : Nat} {pre post : List Nat} (h : List.range k = pre ++ x :: post) : x < k := List.mem_range.mp (by rw [h]; simp)
end
theorem isoS {K : PySem.W.Frag} {r : En} {te : TE} {mg : Str → Option Value} {base : Heap} (T : Tx K mg base) {S : Spc} (h : RunV K te r (spcD S)) : RunV K (tCB (rIsi K) (tCons te (tCons (tC (.ref (He.ga K "Space"))) tNil))) r (.bl true) := by
  have e := ex_all T
  unfold exB at e
  simp only [Bool.and_eq_true] at e
  have e1 := e.2.2.2.2.1
  unfold isiB at e1
  simp only [Bool.and_eq_true, decide_eq_true_eq] at e1
  exact rv_isiO h (c_Space T) (He.eqO_ok e1.1) (He.eqO_ok e1.2.1) e1.2.2.1 e1.2.2.2.1 e1.2.2.2.2
theorem sq_root {F : Fd} (h : F.p = 2) (a : El F) : ∃ b : El F, b * b = a := by
  obtain ⟨q, ok⟩ := F
  rcases ok with rfl | rfl | rfl | rfl | rfl | rfl
  · have : ∀ a : Fin 2, ∃ b : Fin 2, (show El ⟨2, .inl rfl⟩ from b) * (show El ⟨2, .inl rfl⟩ from b) = (show El ⟨2, .inl rfl⟩ from a) := by decide +kernel
    exact this a
  · cases h
  · have : ∀ a : Fin 4, ∃ b : Fin 4, (show El ⟨4, .inr (.inr (.inl rfl))⟩ from b) * (show El ⟨4, .inr (.inr (.inl rfl))⟩ from b) = (show El ⟨4, .inr (.inr (.inl rfl))⟩ from a) := by decide +kernel
    exact this a
  · cases h
  · cases h
  · cases h

def R_check_kind : List D → (D → Prop) → Prop := fun ds f => ∃ (F : Fd) (k : Kd), ∃ (hk : k = .herm → F.q = 4 ∨ F.q = 9), ds = [.str k.str, nD F.q] ∧ f = fun d => d = .non
abbrev sp_check_kind (K : PySem.W.Frag) : Sp := psp K R_check_kind
theorem f_check_kind {P : Program} {w : World} {K : PySem.W.Frag} {mg : Str → Option Value} {base : Heap} (T : Tx K mg base) : Cal P w K mg base 2 "check_kind" (sp_check_kind K) := by
  refine cal_of (d_check_kind T) (g_check_kind T) (N := ["kind", "q"]) (ps := ["kind", "q"]) (fun _ _ _ _ _ _ us hl => match us, hl with | [_, _], _ => rfl) (by decide +kernel) (psp_len (by rintro ds f ⟨_, _, _, rfl, _⟩; rfl)) ?_
  intro cdv A outer sh H vs Q E hr hs
  let NN : List Str := ["kind", "q"]
  have nd : List.Nodup (α := Str) ["kind", "q"] := by decide +kernel
  refine ⟨_, (pss_cons (ps_if (PW.pt (pw_or (pt_not (pt_val (pe_callB call_isi (by rfl) (b_isinstance T) (by rfl) (pa_cons (pv 0) (pa_cons (pe_bltn (v := .ty "str") (by rfl) (b_str T) (by rfl) rfl) pa_nil))))) (pw_or1 (pt_cmpR op_notIn_seq (pv 0) (pe_glob (v := .ref (He.ga K "KINDS")) (by rfl) (g_KINDS T) rfl) (by first | exact nomark _ | rfl | with_unfolding_all rfl))))) (pss_one ps_never) pss_nil)
 (pss_cons (ps_if (PW.pt (pw_or (pt_not (pt_val (pe_c (f_is_integer T) hr (by decide) (by rfl) (pa_cons (pv 1) pa_nil)))) (pw_or1 (pt_cmpR op_notIn_seq (pv 1) (pe_glob (v := .ref (He.ga K "SIZES_space")) (by rfl) (g_SIZES_space T) rfl) (by first | exact nomark _ | rfl | with_unfolding_all rfl))))) (pss_one ps_never) pss_nil)
 (pss_one (ps_if (PW.pt (pw_and (pt_cmpR op_eq (pv 0) pe_str (by first | exact nomark _ | rfl | with_unfolding_all rfl)) (pw_and1 (pt_cmpR op_notIn_seq (pv 1) (pe_tup (pa_cons pe_int (pa_cons pe_int pa_nil))) (by first | exact nomark _ | rfl | with_unfolding_all rfl))))) (pss_one ps_never) pss_nil)))), ?_⟩
  clear hr nd NN
  refine body_psp (n := 2) hs rfl ?_
  clear hs
  rintro ds f ⟨F, k, hk, rfl, rfl⟩
  refine rs_guard ((rt_or (rt_not (rt_B (rv_isi (b := true) (rv_var rfl) rfl (by decide +kernel)))) fun _ => rt_test (rv_niS (rv_var rfl) (tabK T))).is ?_) ?_
  · cases k <;> rfl
  refine rs_guard ((rt_or (rt_not (rt_B (re_call (ra_cons ((rv_var rfl)) ra_nil) ⟨_, rfl, rfl⟩))) fun _ => rt_test (rv_niT (rv_var rfl) (tabS T))).is ?_) ?_
  · obtain ⟨q, ok⟩ := F
    rcases ok with rfl | rfl | rfl | rfl | rfl | rfl <;> rfl
  refine rs_if ((rt_and (rt_test (rv_eqS (rv_var rfl) rv_str)) fun _ => rt_test (rv_niT (xs := [4, 9]) (rv_var rfl) (rv_tup (ra_cons (rv_int) (ra_cons (rv_int) ra_nil))))).is (b := false) ?_) (fun h => nomatch h) fun _ => rs_next rfl
  rw [kH]
  by_cases h : k = .herm
  · rw [decide_eq_true h]
    rcases hk h with e | e
    · rw [decide_eq_true (by rw [e]; decide)]; rfl
    · rw [decide_eq_true (by rw [e]; decide)]; rfl
  · rw [decide_eq_false h]; rfl
def R_taken : List D → (D → Prop) → Prop := fun ds f => ∃ (F : Fd) (n : Nat) (m : List (Row F n)), ∃ (hn : n ≤ 1000), ∃ (hm : m.length = n), ds = [fldD F, tabD m] ∧ f = fun d => d = tabD m
abbrev sp_taken (K : PySem.W.Frag) : Sp := psp K R_taken
theorem f_taken {P : Program} {w : World} {K : PySem.W.Frag} {mg : Str → Option Value} {base : Heap} (T : Tx K mg base) : Cal P w K mg base 3 "taken" (sp_taken K) := by
  refine cal_of (d_taken T) (g_taken T) (N := ["field", "matrix", "size", "row", "item"]) (ps := ["field", "matrix"]) (fun _ _ _ _ _ _ us hl => match us, hl with | [_, _], _ => rfl) (by decide +kernel) (psp_len (by rintro ds f ⟨_, _, _, _, _, rfl, _⟩; rfl)) ?_
  intro cdv A outer sh H vs Q E hr hs
  let NN : List Str := ["field", "matrix", "size", "row", "item"]
  have nd : List.Nodup (α := Str) ["field", "matrix", "size", "row", "item"] := by decide +kernel
  refine ⟨_, (pss_cons (ps_if (pt_not (pt_val (pe_callB call_isiT (by rfl) (b_isinstance T) (by rfl) (pa_cons (pv 1) (pa_cons (pe_tup (pa_cons (pe_bltn (v := .ty "list") (by rfl) (b_list T) (by rfl) rfl) (pa_cons (pe_bltn (v := .ty "tuple") (by rfl) (b_tuple T) (by rfl) rfl) pa_nil))) pa_nil))))) (pss_one ps_never) pss_nil)
 (pss_cons (ps_set (i := 2) nd rfl (by first | exact Or.inl rfl | exact Or.inr rfl) (pe_callB call_len_seq (by rfl) (b_len T) PySem.boot_len (pa_cons (pv 1) pa_nil)))
 (pss_cons (ps_for PassesOwn.never rfl (pi_tup (pv 1)) (pg_name (i := 3) nd rfl (by first | exact Or.inl rfl | exact Or.inr rfl)) (pss_cons (ps_if (PW.pt (pw_or (pt_not (pt_val (pe_callB call_isiT (by rfl) (b_isinstance T) (by rfl) (pa_cons (pv 3) (pa_cons (pe_tup (pa_cons (pe_bltn (v := .ty "list") (by rfl) (b_list T) (by rfl) rfl) (pa_cons (pe_bltn (v := .ty "tuple") (by rfl) (b_tuple T) (by rfl) rfl) pa_nil))) pa_nil))))) (pw_or1 (pt_cmpR op_ne (pe_callB call_len_seq (by rfl) (b_len T) PySem.boot_len (pa_cons (pv 3) pa_nil)) (pv 2) (by first | exact nomark _ | rfl | with_unfolding_all rfl))))) (pss_one ps_never) pss_nil)
 (pss_one (ps_if (pt_not (pt_val (pe_callB (cr_all rfl) (by rfl) (b_all T) (by rfl) (pa_cons (pe_lc (own := [("item", 4)]) (g := (gName 4)) (tt := tYes) (te := (tMeth (He.ga K "Field") "is_number" (sp_Field_is_number K) [] E0 (tVar 0) (tCons (tVar 4) tNil))) rfl nd (pi_tup (pv 3)) (blkOk_by (N := NN) (by kernel_rfl)) (fun _ _ _ _ _ => (pg_name (i := 4) nd rfl (by first | exact Or.inl rfl | exact Or.inr rfl))) (fun _ _ _ _ _ => pts_nil) (fun _ _ _ _ _ => (pe_mt (f_Field_is_number T) hr (by decide) (pv 0) (pa_cons (pv 4) pa_nil)))) pa_nil)))) (pss_one ps_never) pss_nil))))
 (pss_one (ps_ret (pe_callTy call_tuple_of (by rfl) (b_tuple T) (by rfl) (pa_cons (pe_lc (own := [("row", 3)]) (g := (gName 3)) (tt := tYes) (te := (tCB (rTupS K) (tCons (tVar 3) tNil))) rfl nd (pi_tup (pv 1)) (blkOk_by (N := NN) (by kernel_rfl)) (fun _ _ _ _ _ => (pg_name (i := 3) nd rfl (by first | exact Or.inl rfl | exact Or.inr rfl))) (fun _ _ _ _ _ => pts_nil) (fun _ _ _ _ _ => (pe_callTy call_tuple_of (by rfl) (b_tuple T) (by rfl) (pa_cons (pv 3) pa_nil)))) pa_nil))))))), ?_⟩
  clear hr nd NN
  refine body_psp (n := 5) hs rfl ?_
  clear hs
  rintro ds f ⟨F, n, m, hn, hm, rfl, rfl⟩
  refine rs_guard (rt_not (rt_B (rv_isiLT (rv_var rfl) rfl))) ?_
  refine rs_setV (rv_lenT (rv_var rfl) (k := (n : Int)) (by rw [List.length_map, hm])) ?_
  refine rs_forF (l := m) (sx := rowD) (js := [3]) (fun (u : Unit) _ => u) (fun _ => True) (fun _ => [.im (fldD F), .im (tabD m), .im (nD n), .un, .un]) () (rj_tup (rv_var rfl)) (by repeat' (first | exact True.intro | refine And.intro ?_ ?_ | exact Or.inl rfl | exact Or.inr rfl)) (fun pre v post _ _ => ⟨_, rg_name, (fun _ h => h), ?_⟩) fun _ => ?_
  · refine rs_guard ((rt_or (rt_not (rt_B (rv_isiLT (rv_var rfl) rfl))) fun _ => rt_test (rv_neI (rv_lenT (rv_var rfl) rfl) (rv_var rfl))).is ?_) ?_
    · rw [List.length_map, rowI_len]
      simp
    refine rs_if (rt_not (rt_B (rv_allT (ro_map (l := List.finRange n) (sx := fun i => elD (v i)) (ex := fun _ => .bl true) (js := [4]) (rj_i (rj_row (rv_var rfl))) (by rw [List.length_finRange]; omega) (by decide) fun i _ => ⟨_, rg_name, re_meth (rv_var rfl) rfl (ra_cons ((rv_var rfl)) ra_nil) ⟨_, _, rfl, rfl⟩⟩)))) (fun h => nomatch h) fun _ => rs_next ⟨trivial, (by repeat' (first | exact True.intro | refine And.intro ?_ ?_ | exact Or.inl rfl | exact Or.inr rfl))⟩
  · exact rs_retV (rv_tabT (ro_map (l := m) (sx := rowD) (ex := rowD) (js := [3]) (rj_i (rj_tup (rv_var rfl))) (by omega) (by decide) fun v _ => ⟨_, rg_name, rv_tupT (rv_var rfl)⟩)) rfl
def R_has_form : List D → (D → Prop) → Prop := fun ds f => ∃ (S : Spc), ∃ (hS : S.ok), ds = [fldD S.F, .str S.kind.str, tabD (matL S.mat)] ∧ f = fun d => d = .bl true
abbrev sp_has_form (K : PySem.W.Frag) : Sp := psp K R_has_form
theorem f_has_form {P : Program} {w : World} {K : PySem.W.Frag} {mg : Str → Option Value} {base : Heap} (T : Tx K mg base) : Cal P w K mg base 5 "has_form" (sp_has_form K) := by
  refine cal_of (d_has_form T) (g_has_form T) (N := ["field", "kind", "rows", "i", "j", "one", "two"]) (ps := ["field", "kind", "rows"]) (fun _ _ _ _ _ _ us hl => match us, hl with | [_, _, _], _ => rfl) (by decide +kernel) (psp_len (by rintro ds f ⟨_, _, rfl, _⟩; rfl)) ?_
  intro cdv A outer sh H vs Q E hr hs
  let NN : List Str := ["field", "kind", "rows", "i", "j", "one", "two"]
  have nd : List.Nodup (α := Str) ["field", "kind", "rows", "i", "j", "one", "two"] := by decide +kernel
  refine ⟨_, (pss_cons (ps_for PassesOwn.never rfl (pi_range1 (by rfl) (b_range T) (pa_cons (pe_callB call_len_seq (by rfl) (b_len T) PySem.boot_len (pa_cons (pv 2) pa_nil)) pa_nil)) (pg_name (i := 3) nd rfl (by first | exact Or.inl rfl | exact Or.inr rfl)) (pss_cons (ps_if (PW.pt (pw_and (pt_cmpR op_eq (pv 1) pe_str (by first | exact nomark _ | rfl | with_unfolding_all rfl)) (pw_and1 (pt_cmpR op_ne (pe_ix ix_tup (pe_ix ix_tup (pv 2) (pv 3) (fun _ _ => rfl)) (pv 3) (fun _ _ => rfl)) pe_int (by first | exact nomark _ | rfl | with_unfolding_all rfl))))) (pss_one (ps_ret pe_bl)) pss_nil)
 (pss_one (ps_for PassesOwn.never rfl (pi_range1 (by rfl) (b_range T) (pa_cons (pe_op op_add (pv 3) pe_int) pa_nil)) (pg_name (i := 4) nd rfl (by first | exact Or.inl rfl | exact Or.inr rfl)) (pss_cons (ps_par (i := 5) (j := 6) rfl nd rfl rfl (by decide) rfl rfl (pa_cons (pe_ix ix_tup (pe_ix ix_tup (pv 2) (pv 4) (fun _ _ => rfl)) (pv 3) (fun _ _ => rfl)) (pa_cons (pe_ix ix_tup (pe_ix ix_tup (pv 2) (pv 3) (fun _ _ => rfl)) (pv 4) (fun _ _ => rfl)) pa_nil)) (by rfl))
 (pss_cons (ps_if (PW.pt (pw_and (pt_cmpR op_eq (pv 1) pe_str (by first | exact nomark _ | rfl | with_unfolding_all rfl)) (pw_and1 (pt_cmpR op_ne (pv 6) (pe_mt (f_Field_negative T) hr (by decide) (pv 0) (pa_cons (pv 5) pa_nil)) (by first | exact nomark _ | rfl | with_unfolding_all rfl))))) (pss_one (ps_ret pe_bl)) pss_nil)
 (pss_cons (ps_if (PW.pt (pw_and (pt_cmpR op_eq (pv 1) pe_str (by first | exact nomark _ | rfl | with_unfolding_all rfl)) (pw_and1 (pt_cmpR op_ne (pv 6) (pe_mt (f_Field_mirrored T) hr (by decide) (pv 0) (pa_cons (pv 5) pa_nil)) (by first | exact nomark _ | rfl | with_unfolding_all rfl))))) (pss_one (ps_ret pe_bl)) pss_nil)
 (pss_one (ps_if (PW.pt (pw_and (pt_cmpR op_eq (pv 1) pe_str (by first | exact nomark _ | rfl | with_unfolding_all rfl)) (pw_and (pt_cmpR op_lt (pv 4) (pv 3) (by first | exact nomark _ | rfl | with_unfolding_all rfl)) (pw_and1 (pt_cmpR op_ne (pv 6) pe_int (by first | exact nomark _ | rfl | with_unfolding_all rfl)))))) (pss_one (ps_ret pe_bl)) pss_nil)))))))))
 (pss_one (ps_ret pe_bl))), ?_⟩
  clear hr nd NN
  refine body_psp (n := 7) hs rfl ?_
  clear hs
  rintro ds f ⟨S, hS, rfl, rfl⟩
  have hn := hS.small
  refine rs_forF (l := List.finRange S.n) (sx := fun i => nD i.val) (js := [3]) (fun (u : Unit) _ => u) (fun _ => True) (fun _ => [.im (fldD S.F), .im (.str S.kind.str), .im (tabD (matL S.mat)), .un, .un, .un, .un]) () (rj_rng (rv_lenT (rv_var rfl) rfl) (by rw [List.length_map, mat_len]) (by omega)) (by repeat' (first | exact True.intro | refine And.intro ?_ ?_ | exact Or.inl rfl | exact Or.inr rfl)) (fun pre i post _ _ => ⟨_, rg_name, (fun _ h => h), ?_⟩) fun _ => rs_retV rv_bl rfl
  refine rs_guard ((rt_and (rt_test (rv_eqS (rv_var rfl) rv_str)) fun _ => rt_test (rv_neE (rv_rowIx (rv_matIx (rv_var rfl) (rv_var rfl) rfl) (rv_var rfl) rfl) rv_e0)).is ?_) ?_
  · rw [kA]
    cases hk : S.kind with
    | alt =>
      have := hS.form
      unfold Spc.formOk at this
      rw [hk] at this
      rw [this.1 i]
      simp
    | _ => rfl
  refine rs_forF1 (l := List.range (i.val + 1)) (sx := nD) (js := [4]) (fun (u : Unit) _ => u) (fun _ => True) (fun _ => [.im (fldD S.F), .im (.str S.kind.str), .im (tabD (matL S.mat)), .im (nD i.val), .un, .un, .un]) () (rj_rngN (rv_add (rv_var rfl) rv_int) (by omega) (by have := i.isLt; omega)) (by repeat' (first | exact True.intro | refine And.intro ?_ ?_ | exact Or.inl rfl | exact Or.inr rfl)) (fun pre j post hpre _ => ⟨_, rg_name, (fun _ h => h), ?_⟩) fun _ => ⟨trivial, (by repeat' (first | exact True.intro | refine And.intro ?_ ?_ | exact Or.inl rfl | exact Or.inr rfl))⟩
  have hj := range_pre hpre
  have hjn : j < S.n := by have := i.isLt; omega
  refine rs_par (ra_cons (rv_rowIx (i := i) (rv_matIx (i := ⟨j, hjn⟩) (rv_var rfl) (rv_var rfl) rfl) (rv_var rfl) rfl) (ra_cons (rv_rowIx (i := ⟨j, hjn⟩) (rv_matIx (i := i) (rv_var rfl) (rv_var rfl) rfl) (rv_var rfl) rfl) ra_nil)) ?_
  refine rs_guard ((rt_and (rt_test (rv_eqS (rv_var rfl) rv_str)) fun _ => rt_test (rv_neE (rv_var rfl) (re_meth (rv_var rfl) rfl (ra_cons ((rv_var rfl)) ra_nil) ⟨_, _, rfl, rfl⟩))).is ?_) ?_
  · rw [kA]
    cases hk : S.kind with
    | alt =>
      have := hS.form
      unfold Spc.formOk at this
      rw [hk] at this
      rw [this.2 i ⟨j, hjn⟩]
      simp
    | _ => rfl
  refine rs_guard ((rt_and (rt_test (rv_eqS (rv_var rfl) rv_str)) fun _ => rt_test (rv_neE (rv_var rfl) (re_meth (rv_var rfl) rfl (ra_cons ((rv_var rfl)) ra_nil) ⟨_, _, rfl, rfl⟩))).is ?_) ?_
  · rw [kH]
    cases hk : S.kind with
    | herm =>
      have := hS.form
      unfold Spc.formOk at this
      rw [hk] at this
      have h := this i ⟨j, hjn⟩
      rw [decide_eq_true h]
      rfl
    | _ => rfl
  refine rs_if ((rt_and (rt_test (rv_eqS (rv_var rfl) rv_str)) fun _ => rt_and (rt_test (rv_lt (rv_var rfl) (rv_var rfl))) fun _ => rt_test (rv_neE (rv_var rfl) rv_e0)).is (b := false) ?_) (fun h => nomatch h) fun _ => rs_next ⟨trivial, (by repeat' (first | exact True.intro | refine And.intro ?_ ?_ | exact Or.inl rfl | exact Or.inr rfl))⟩
  rw [kQ]
  cases hk : S.kind with
  | quad =>
    by_cases hji : j < i.val
    · have := hS.form
      unfold Spc.formOk at this
      rw [hk] at this
      rw [this i ⟨j, hjn⟩ hji]
      simp
    · rw [decide_eq_false (show ¬ (j : Int) < (i.val : Int) by omega)]
      rfl
  | _ => rfl
def R_gram_of : List D → (D → Prop) → Prop := fun ds f => ∃ (S : Spc), ∃ (hn : S.n ≤ 1000), ds = [fldD S.F, .str S.kind.str, tabD (matL S.mat)] ∧ f = fun d => d = tabD (matL S.gram)
abbrev sp_gram_of (K : PySem.W.Frag) : Sp := psp K R_gram_of
theorem f_gram_of {P : Program} {w : World} {K : PySem.W.Frag} {mg : Str → Option Value} {base : Heap} (T : Tx K mg base) : Cal P w K mg base 3 "gram_of" (sp_gram_of K) := by
  refine cal_of (d_gram_of T) (g_gram_of T) (N := ["field", "kind", "rows", "size", "j", "i"]) (ps := ["field", "kind", "rows"]) (fun _ _ _ _ _ _ us hl => match us, hl with | [_, _, _], _ => rfl) (by decide +kernel) (psp_len (by rintro ds f ⟨_, _, rfl, _⟩; rfl)) ?_
  intro cdv A outer sh H vs Q E hr hs
  let NN : List Str := ["field", "kind", "rows", "size", "j", "i"]
  have nd : List.Nodup (α := Str) ["field", "kind", "rows", "size", "j", "i"] := by decide +kernel
  refine ⟨_, (pss_cons (ps_if (pt_cmpR op_ne (pv 1) pe_str (by first | exact nomark _ | rfl | with_unfolding_all rfl)) (pss_one (ps_ret (pv 2))) pss_nil)
 (pss_cons (ps_set (i := 3) nd rfl (by first | exact Or.inl rfl | exact Or.inr rfl) (pe_callB call_len_seq (by rfl) (b_len T) PySem.boot_len (pa_cons (pv 2) pa_nil)))
 (pss_one (ps_ret (pe_callTy call_tuple_of (by rfl) (b_tuple T) (by rfl) (pa_cons (pe_lc (own := [("i", 5)]) (g := (gName 5)) (tt := tYes) (te := (tCB (rTupS K) (tCons (tLc (iRng1 (tCons (tVar 3) tNil)) (gName 4) tYes (tMeth (He.ga K "Field") "add" (sp_Field_add K) [] E0 (tVar 0) (tCons (tOp (rIxT K) (tOp (rIxT K) (tVar 2) (tVar 5)) (tVar 4)) (tCons (tOp (rIxT K) (tOp (rIxT K) (tVar 2) (tVar 4)) (tVar 5)) tNil))) [4]) tNil))) rfl nd (pi_range1 (by rfl) (b_range T) (pa_cons (pv 3) pa_nil)) (blkOk_by (N := NN) (by kernel_rfl)) (fun _ _ _ _ _ => (pg_name (i := 5) nd rfl (by first | exact Or.inl rfl | exact Or.inr rfl))) (fun _ _ _ _ _ => pts_nil) (fun _ _ _ _ _ => (pe_callTy call_tuple_of (by rfl) (b_tuple T) (by rfl) (pa_cons (pe_lc (own := [("j", 4)]) (g := (gName 4)) (tt := tYes) (te := (tMeth (He.ga K "Field") "add" (sp_Field_add K) [] E0 (tVar 0) (tCons (tOp (rIxT K) (tOp (rIxT K) (tVar 2) (tVar 5)) (tVar 4)) (tCons (tOp (rIxT K) (tOp (rIxT K) (tVar 2) (tVar 4)) (tVar 5)) tNil)))) rfl nd (pi_range1 (by rfl) (b_range T) (pa_cons (pv 3) pa_nil)) (blkOk_by (N := NN) (by kernel_rfl)) (fun _ _ _ _ _ => (pg_name (i := 4) nd rfl (by first | exact Or.inl rfl | exact Or.inr rfl))) (fun _ _ _ _ _ => pts_nil) (fun _ _ _ _ _ => (pe_mt (f_Field_add T) hr (by decide) (pv 0) (pa_cons (pe_ix ix_tup (pe_ix ix_tup (pv 2) (pv 5) (fun _ _ => rfl)) (pv 4) (fun _ _ => rfl)) (pa_cons (pe_ix ix_tup (pe_ix ix_tup (pv 2) (pv 4) (fun _ _ => rfl)) (pv 5) (fun _ _ => rfl)) pa_nil))))) pa_nil)))) pa_nil)))))), ?_⟩
  clear hr nd NN
  refine body_psp (n := 6) hs rfl ?_
  clear hs
  rintro ds f ⟨S, hn, rfl, rfl⟩
  refine rs_ifr (rt_test (rv_neS (rv_var rfl) rv_str)) (fun h => rs_retV (rv_var rfl) ?_) fun h => ?_
  · rw [kQ] at h
    have h : ¬ S.kind = .quad := by simpa using h
    have e : S.gram = S.mat := by
      funext i j
      unfold Spc.gram
      rw [if_neg h]
    rw [e]
  · rw [kQ] at h
    have h : S.kind = .quad := by simpa using h
    refine rs_setV (rv_lenT (rv_var rfl) (k := (S.n : Int)) (by rw [List.length_map, mat_len])) ?_
    refine rs_retV (rv_tabT (l := matL S.gram) (RunO.is2 (ro_map (l := List.finRange S.n) (sx := fun i => nD i.val) (ex := fun i => rowD (S.gram i)) (js := [5]) (rj_i (rj_rng (rv_var rfl) rfl (by omega))) (by rw [List.length_finRange]; omega) (by decide) fun i _ => ⟨_, rg_name, rv_rowT (ro_map (l := List.finRange S.n) (sx := fun j => nD j.val) (ex := fun j => elD (S.gram i j)) (js := [4]) (rj_i (rj_rng (rv_var rfl) rfl (by omega))) (by rw [List.length_finRange]; omega) (by decide) fun j _ => ⟨_, rg_name, (re_meth (rv_var rfl) rfl (ra_cons (rv_rowIx (i := j) (rv_matIx (i := i) (rv_var rfl) (rv_var rfl) rfl) (rv_var rfl) rfl) (ra_cons (rv_rowIx (i := i) (rv_matIx (i := j) (rv_var rfl) (rv_var rfl) rfl) (rv_var rfl) rfl) ra_nil)) ⟨_, _, _, rfl, rfl⟩ : RunV K _ _ _).is ?_⟩)⟩) (by unfold matL; rw [List.map_map]; rfl))) rfl
    unfold Spc.gram
    rw [if_pos h]
def R_Space___init__ : List D → (List (Str × D) → Prop) → Prop := fun ds f => ∃ (S : Spc), ∃ (hS : S.ok), ds = [.str S.kind.str, nD S.F.q, tabD (matL S.mat)] ∧ f = fun d => d = [(("kind" : Str), .str S.kind.str), (("q" : Str), nD S.F.q), (("n" : Str), nD S.n), (("matrix" : Str), tabD (matL S.mat)), (("field" : Str), fldD S.F), (("_gram" : Str), tabD (matL S.gram))]
abbrev sp_Space___init__ (K : PySem.W.Frag) : Sp := isp K "Space" R_Space___init__
theorem f_Space___init__ {P : Program} {w : World} {K : PySem.W.Frag} {mg : Str → Option Value} {base : Heap} (T : Tx K mg base) : Mak P w K mg base 6 "Space" (He.ga K "Space") (sp_Space___init__ K) := by
  obtain ⟨tM, hMost⟩ := i_MOST_space T
  refine mak_of (d_Space___init__ T) (mk_Space T) (g_Space T) (N := ["self", "kind", "q", "matrix", "field", "rows"]) (ps := ["self", "kind", "q", "matrix"]) (fun _ _ _ _ _ _ us hl => match us, hl with | [_, _, _, _], _ => rfl) (by decide +kernel) (isp_len (by rintro ds f ⟨_, _, rfl, _⟩; rfl)) ?_
  intro cdv A outer sh H vs Q E hr hs
  let NN : List Str := ["self", "kind", "q", "matrix", "field", "rows"]
  have nd : List.Nodup (α := Str) ["self", "kind", "q", "matrix", "field", "rows"] := by decide +kernel
  refine ⟨_, (pss_cons (ps_expr (pe_c (f_check_kind T) hr (by decide) (by rfl) (pa_cons (pv 1) (pa_cons (pv 2) pa_nil))))
 (pss_cons (ps_set (i := 4) nd rfl (by first | exact Or.inl rfl | exact Or.inr rfl) (pe_mk (f_Field___init__ T) hr (by decide) (by rfl) (pa_cons (pv 2) pa_nil)))
 (pss_cons (ps_set (i := 5) nd rfl (by first | exact Or.inl rfl | exact Or.inr rfl) (pe_c (f_taken T) hr (by decide) (by rfl) (pa_cons (pv 4) (pa_cons (pv 3) pa_nil))))
 (pss_cons (ps_if (pt_not (pt_val (pe_c (f_has_form T) hr (by decide) (by rfl) (pa_cons (pv 4) (pa_cons (pv 1) (pa_cons (pv 5) pa_nil)))))) (pss_one ps_never) pss_nil)
 (pss_cons (ps_if (pt_cmpR op_gt (pe_callB call_len_seq (by rfl) (b_len T) PySem.boot_len (pa_cons (pv 5) pa_nil)) (pe_glob (v := .int 6) (by rfl) hMost ⟨_, rfl⟩) (by first | exact nomark _ | rfl | with_unfolding_all rfl)) (pss_one ps_never) pss_nil)
 (pss_cons (ps_fld (pv 0) (pv 1) rfl)
 (pss_cons (ps_fld (pv 0) (pv 2) rfl)
 (pss_cons (ps_fld (pv 0) (pe_callB call_len_seq (by rfl) (b_len T) PySem.boot_len (pa_cons (pv 5) pa_nil)) rfl)
 (pss_cons (ps_fld (pv 0) (pv 5) rfl)
 (pss_cons (ps_fld (pv 0) (pv 4) rfl)
 (pss_one (ps_fld (pv 0) (pe_c (f_gram_of T) hr (by decide) (by rfl) (pa_cons (pv 4) (pa_cons (pv 1) (pa_cons (pv 5) pa_nil)))) rfl)))))))))))), ?_⟩
  clear hr nd NN
  refine body_isp (n := 6) hs rfl ?_ (by decide)
  clear hs
  rintro ds f p0 ⟨S, hS, rfl, rfl⟩
  have hn := hS.small
  refine rs_doq (re_call (ra_cons ((rv_var rfl)) (ra_cons ((rv_var rfl)) ra_nil)) ⟨_, _, hS.herm, rfl, rfl⟩) ?_
  refine rs_setq (re_make (ra_cons ((rv_var rfl)) ra_nil) ⟨_, rfl, rfl⟩) ?_
  rintro d ⟨fs, rfl, rfl⟩
  refine rs_setV (re_call (ra_cons ((rv_var rfl)) (ra_cons ((rv_var rfl)) ra_nil)) ⟨S.F, S.n, matL S.mat, by omega, mat_len _, rfl, rfl⟩) ?_
  refine rs_guard (rt_not (a := true) (rt_B (re_call (ra_cons ((rv_var rfl)) (ra_cons ((rv_var rfl)) (ra_cons ((rv_var rfl)) ra_nil))) ⟨_, hS, rfl, rfl⟩))) ?_
  refine rs_guard ((rt_test (rv_gt (rv_lenT (rv_var rfl) rfl) rv_int)).is (decide_eq_false (by rw [List.length_map, mat_len]; omega))) ?_
  refine rs_fldq (p := p0) (c := "Space") (fs := []) rfl (rv_var rfl) (c_Space T) (n_Space_kind T) (by decide) ?_
  refine rs_fldq (p := p0) (c := "Space") (fs := [("kind", .str S.kind.str)]) rfl (rv_var rfl) (c_Space T) (n_Space_q T) (by show 1 < 1000; decide) ?_
  refine rs_fldq (p := p0) (c := "Space") (fs := [("kind", .str S.kind.str), ("q", nD S.F.q)]) rfl (rv_lenT (rv_var rfl) (k := (S.n : Int)) (by rw [List.length_map, mat_len])) (c_Space T) (n_Space_n T) (by show 2 < 1000; decide) ?_
  refine rs_fldq (p := p0) (c := "Space") (fs := [("kind", .str S.kind.str), ("q", nD S.F.q), ("n", nD S.n)]) rfl (rv_var rfl) (c_Space T) (n_Space_matrix T) (by show 3 < 1000; decide) ?_
  refine rs_fldq (p := p0) (c := "Space") (fs := [("kind", .str S.kind.str), ("q", nD S.F.q), ("n", nD S.n), ("matrix", tabD (matL S.mat))]) rfl (rv_var rfl) (c_Space T) (n_Space_field T) (by show 4 < 1000; decide) ?_
  refine rs_fld (p := p0) (c := "Space") (fs := [("kind", .str S.kind.str), ("q", nD S.F.q), ("n", nD S.n), ("matrix", tabD (matL S.mat)), ("field", fldD S.F)]) rfl (re_call (ra_cons ((rv_var rfl)) (ra_cons ((rv_var rfl)) (ra_cons ((rv_var rfl)) ra_nil))) ⟨_, by omega, rfl, rfl⟩) (c_Space T) (n_Space__gram T) (by show 5 < 1000; decide) ?_
  rintro d rfl
  exact ⟨_, rfl, rfl⟩
def R_Space_is_row : List D → (D → Prop) → Prop := fun ds f => ∃ (S : Spc) (v : Row S.F S.n), ∃ (hn : S.n ≤ 6), ds = [spcD S, rowD v] ∧ f = fun d => d = .bl true
abbrev sp_Space_is_row (K : PySem.W.Frag) : Sp := psp K R_Space_is_row
theorem f_Space_is_row {P : Program} {w : World} {K : PySem.W.Frag} {mg : Str → Option Value} {base : Heap} (T : Tx K mg base) : Met P w K mg base 4 (He.ga K "Space") "is_row" (sp_Space_is_row K) := by
  refine met_of (d_Space_is_row T) (c_Space T) (m_Space_is_row T) (N := ["self", "value"]) (ps := ["self", "value"]) (fun _ _ _ _ _ _ us hl => match us, hl with | [_, _], _ => rfl) (by decide +kernel) (psp_len (by rintro ds f ⟨_, _, _, rfl, _⟩; rfl)) ?_
  intro cdv A outer sh H vs Q E hr hs
  let NN : List Str := ["self", "value"]
  have nd : List.Nodup (α := Str) ["self", "value"] := by decide +kernel
  refine ⟨_, (pss_one (ps_ret (pe_c (f_is_row_linear T) hr (by decide) (by rfl) (pa_cons (pe_fld (pv 0) rfl) (pa_cons (pv 1) (pa_cons (pe_fld (pv 0) rfl) pa_nil)))))), ?_⟩
  clear hr nd NN
  refine body_psp (n := 2) hs rfl ?_
  clear hs
  rintro ds f ⟨S, v, hn, rfl, rfl⟩
  exact rs_retV (re_call (ra_cons (sfield T (rv_var rfl)) (ra_cons ((rv_var rfl)) (ra_cons (sn T (rv_var rfl)) ra_nil))) ⟨_, _, _, by omega, rfl, rfl⟩) rfl
def R_Space_unit : List D → (D → Prop) → Prop := fun ds f => ∃ (S : Spc) (i : Fin S.n), ∃ (hn : S.n ≤ 6), ds = [spcD S, nD i.val] ∧ f = fun d => d = rowD (runit i : Row S.F S.n)
abbrev sp_Space_unit (K : PySem.W.Frag) : Sp := psp K R_Space_unit
theorem f_Space_unit {P : Program} {w : World} {K : PySem.W.Frag} {mg : Str → Option Value} {base : Heap} (T : Tx K mg base) : Met P w K mg base 2 (He.ga K "Space") "unit" (sp_Space_unit K) := by
  refine met_of (d_Space_unit T) (c_Space T) (m_Space_unit T) (N := ["self", "i"]) (ps := ["self", "i"]) (fun _ _ _ _ _ _ us hl => match us, hl with | [_, _], _ => rfl) (by decide +kernel) (psp_len (by rintro ds f ⟨_, _, _, rfl, _⟩; rfl)) ?_
  intro cdv A outer sh H vs Q E hr hs
  let NN : List Str := ["self", "i"]
  have nd : List.Nodup (α := Str) ["self", "i"] := by decide +kernel
  refine ⟨_, (pss_one (ps_ret (pe_c (f_unit_row T) hr (by decide) (by rfl) (pa_cons (pe_fld (pv 0) rfl) (pa_cons (pv 1) pa_nil))))), ?_⟩
  clear hr nd NN
  refine body_psp (n := 2) hs rfl ?_
  clear hs
  rintro ds f ⟨S, i, hn, rfl, rfl⟩
  exact rs_retV (re_call (ra_cons (sn T (rv_var rfl)) (ra_cons ((rv_var rfl)) ra_nil)) ⟨S.F, S.n, i, by omega, rfl, rfl⟩) rfl
def R_Space_facing : List D → (D → Prop) → Prop := fun ds f => ∃ (S : Spc) (y : Row S.F S.n), ∃ (hn : S.n ≤ 6), ds = [spcD S, rowD y] ∧ f = fun d => d = rowD (S.facing y)
abbrev sp_Space_facing (K : PySem.W.Frag) : Sp := psp K R_Space_facing
theorem f_Space_facing {P : Program} {w : World} {K : PySem.W.Frag} {mg : Str → Option Value} {base : Heap} (T : Tx K mg base) : Met P w K mg base 5 (He.ga K "Space") "facing" (sp_Space_facing K) := by
  refine met_of (d_Space_facing T) (c_Space T) (m_Space_facing T) (N := ["self", "y", "item", "row"]) (ps := ["self", "y"]) (fun _ _ _ _ _ _ us hl => match us, hl with | [_, _], _ => rfl) (by decide +kernel) (psp_len (by rintro ds f ⟨_, _, _, rfl, _⟩; rfl)) ?_
  intro cdv A outer sh H vs Q E hr hs
  let NN : List Str := ["self", "y", "item", "row"]
  have nd : List.Nodup (α := Str) ["self", "y", "item", "row"] := by decide +kernel
  refine ⟨_, (pss_cons (ps_if (pt_cmpR op_eq (pe_fld (pv 0) rfl) pe_str (by first | exact nomark _ | rfl | with_unfolding_all rfl)) (pss_one (ps_set (i := 1) nd rfl (by first | exact Or.inl rfl | exact Or.inr rfl) (pe_callTy call_tuple_of (by rfl) (b_tuple T) (by rfl) (pa_cons (pe_lc (own := [("item", 2)]) (g := (gName 2)) (tt := tYes) (te := (tMeth (He.ga K "Field") "mirrored" (sp_Field_mirrored K) [] E0 (tFld K (tVar 0) "field") (tCons (tVar 2) tNil))) rfl nd (pi_tup (pv 1)) (blkOk_by (N := NN) (by kernel_rfl)) (fun _ _ _ _ _ => (pg_name (i := 2) nd rfl (by first | exact Or.inl rfl | exact Or.inr rfl))) (fun _ _ _ _ _ => pts_nil) (fun _ _ _ _ _ => (pe_mt (f_Field_mirrored T) hr (by decide) (pe_fld (pv 0) rfl) (pa_cons (pv 2) pa_nil)))) pa_nil)))) pss_nil)
 (pss_one (ps_ret (pe_callTy call_tuple_of (by rfl) (b_tuple T) (by rfl) (pa_cons (pe_lc (own := [("row", 3)]) (g := (gName 3)) (tt := tYes) (te := (tCall (sp_dot K) [] E0 (tCons (tFld K (tVar 0) "field") (tCons (tVar 3) (tCons (tVar 1) tNil))))) rfl nd (pi_tup (pe_fld (pv 0) rfl)) (blkOk_by (N := NN) (by kernel_rfl)) (fun _ _ _ _ _ => (pg_name (i := 3) nd rfl (by first | exact Or.inl rfl | exact Or.inr rfl))) (fun _ _ _ _ _ => pts_nil) (fun _ _ _ _ _ => (pe_c (f_dot T) hr (by decide) (by rfl) (pa_cons (pe_fld (pv 0) rfl) (pa_cons (pv 3) (pa_cons (pv 1) pa_nil)))))) pa_nil))))), ?_⟩
  clear hr nd NN
  refine body_psp (n := 4) hs rfl ?_
  clear hs
  rintro ds f ⟨S, y, hn, rfl, rfl⟩
  refine rs_seq (fun r' => LeE r' [.im (spcD S), .im (rowD (fun k => if S.kind = .herm then ebar (y k) else y k : Row S.F S.n)), .un, .un]) (rs_if (rt_test (rv_eqS (skind T (rv_var rfl)) rv_str)) (fun h => rs_set (rv_rowT (f := fun k => ebar (y k)) (ro_map (l := List.finRange S.n) (sx := fun i => elD (y i)) (ex := fun i => elD (ebar (y i))) (js := [2]) (rj_i (rj_row (rv_var rfl))) (by rw [List.length_finRange]; omega) (by decide) fun i _ => ⟨_, rg_name, re_meth (sfield T (rv_var rfl)) rfl (ra_cons ((rv_var rfl)) ra_nil) ⟨_, _, rfl, rfl⟩⟩)) ?_) fun h => rs_next ?_) fun r' e => rs_weak e ?_
  · rw [kH] at h
    have h : S.kind = .herm := by simpa using h
    rintro d rfl
    simp only [h, if_true]
    exact (by repeat' (first | exact True.intro | refine And.intro ?_ ?_ | exact Or.inl rfl | exact Or.inr rfl))
  · rw [kH] at h
    have h : ¬ S.kind = .herm := by simpa using h
    simp only [h, if_false]
    exact (by repeat' (first | exact True.intro | refine And.intro ?_ ?_ | exact Or.inl rfl | exact Or.inr rfl))
  · refine rs_retV (rv_rowT (f := S.facing y) (RunO.is2 (ro_map (l := matL S.gram) (sx := rowD) (ex := fun v => elD (dot v (fun k => if S.kind = .herm then ebar (y k) else y k : Row S.F S.n))) (js := [3]) (rj_i (rj_tup (sgram T (rv_var rfl)))) (by rw [mat_len]; omega) (by decide) fun v _ => ⟨_, rg_name, re_call (ra_cons (sfield T (rv_var rfl)) (ra_cons ((rv_var rfl)) (ra_cons ((rv_var rfl)) ra_nil))) ⟨_, _, _, _, rfl, rfl⟩⟩) ?_)) rfl
    unfold matL
    rw [List.map_map]
    rfl
def R_Space_product : List D → (D → Prop) → Prop := fun ds f => ∃ (S : Spc) (x y : Row S.F S.n), ∃ (hn : S.n ≤ 6), ds = [spcD S, rowD x, rowD y] ∧ f = fun d => d = elD (S.prod x y)
abbrev sp_Space_product (K : PySem.W.Frag) : Sp := psp K R_Space_product
theorem f_Space_product {P : Program} {w : World} {K : PySem.W.Frag} {mg : Str → Option Value} {base : Heap} (T : Tx K mg base) : Met P w K mg base 6 (He.ga K "Space") "product" (sp_Space_product K) := by
  refine met_of (d_Space_product T) (c_Space T) (m_Space_product T) (N := ["self", "x", "y"]) (ps := ["self", "x", "y"]) (fun _ _ _ _ _ _ us hl => match us, hl with | [_, _, _], _ => rfl) (by decide +kernel) (psp_len (by rintro ds f ⟨_, _, _, _, rfl, _⟩; rfl)) ?_
  intro cdv A outer sh H vs Q E hr hs
  let NN : List Str := ["self", "x", "y"]
  have nd : List.Nodup (α := Str) ["self", "x", "y"] := by decide +kernel
  refine ⟨_, (pss_one (ps_ret (pe_c (f_dot T) hr (by decide) (by rfl) (pa_cons (pe_fld (pv 0) rfl) (pa_cons (pv 1) (pa_cons (pe_mt (f_Space_facing T) hr (by decide) (pv 0) (pa_cons (pv 2) pa_nil)) pa_nil)))))), ?_⟩
  clear hr nd NN
  refine body_psp (n := 3) hs rfl ?_
  clear hs
  rintro ds f ⟨S, x, y, hn, rfl, rfl⟩
  exact rs_retV (re_call (ra_cons (sfield T (rv_var rfl)) (ra_cons ((rv_var rfl)) (ra_cons (re_meth (rv_var rfl) rfl (ra_cons ((rv_var rfl)) ra_nil) ⟨_, _, hn, rfl, rfl⟩) ra_nil))) ⟨_, _, _, _, rfl, rfl⟩) rfl
def R_Space_value : List D → (D → Prop) → Prop := fun ds f => ∃ (S : Spc) (x : Row S.F S.n), ∃ (hn : S.n ≤ 6), ds = [spcD S, rowD x] ∧ f = fun d => d = elD (S.value x)
abbrev sp_Space_value (K : PySem.W.Frag) : Sp := psp K R_Space_value
theorem f_Space_value {P : Program} {w : World} {K : PySem.W.Frag} {mg : Str → Option Value} {base : Heap} (T : Tx K mg base) : Met P w K mg base 7 (He.ga K "Space") "value" (sp_Space_value K) := by
  refine met_of (d_Space_value T) (c_Space T) (m_Space_value T) (N := ["self", "x", "total", "i"]) (ps := ["self", "x"]) (fun _ _ _ _ _ _ us hl => match us, hl with | [_, _], _ => rfl) (by decide +kernel) (psp_len (by rintro ds f ⟨_, _, _, rfl, _⟩; rfl)) ?_
  intro cdv A outer sh H vs Q E hr hs
  let NN : List Str := ["self", "x", "total", "i"]
  have nd : List.Nodup (α := Str) ["self", "x", "total", "i"] := by decide +kernel
  refine ⟨_, (pss_cons (ps_if (pt_cmpR op_eq (pe_fld (pv 0) rfl) pe_str (by first | exact nomark _ | rfl | with_unfolding_all rfl)) (pss_one (ps_ret pe_int)) pss_nil)
 (pss_cons (ps_if (pt_cmpR op_eq (pe_fld (pv 0) rfl) pe_str (by first | exact nomark _ | rfl | with_unfolding_all rfl)) (pss_one (ps_ret (pe_mt (f_Space_product T) hr (by decide) (pv 0) (pa_cons (pv 1) (pa_cons (pv 1) pa_nil))))) pss_nil)
 (pss_cons (ps_set (i := 2) nd rfl (by first | exact Or.inl rfl | exact Or.inr rfl) pe_int)
 (pss_cons (ps_for PassesOwn.never rfl (pi_range1 (by rfl) (b_range T) (pa_cons (pe_fld (pv 0) rfl) pa_nil)) (pg_name (i := 3) nd rfl (by first | exact Or.inl rfl | exact Or.inr rfl)) (pss_one (ps_set (i := 2) nd rfl (by first | exact Or.inl rfl | exact Or.inr rfl) (pe_mt (f_Field_add T) hr (by decide) (pe_fld (pv 0) rfl) (pa_cons (pv 2) (pa_cons (pe_mt (f_Field_multiply T) hr (by decide) (pe_fld (pv 0) rfl) (pa_cons (pe_ix ix_tup (pv 1) (pv 3) (fun _ _ => rfl)) (pa_cons (pe_c (f_dot T) hr (by decide) (by rfl) (pa_cons (pe_fld (pv 0) rfl) (pa_cons (pe_ix ix_tup (pe_fld (pv 0) rfl) (pv 3) (fun _ _ => rfl)) (pa_cons (pv 1) pa_nil)))) pa_nil))) pa_nil))))))
 (pss_one (ps_ret (pv 2))))))), ?_⟩
  clear hr nd NN
  refine body_psp (n := 4) hs rfl ?_
  clear hs
  rintro ds f ⟨S, x, hn, rfl, rfl⟩
  unfold Spc.value
  refine rs_ifr (rt_test (rv_eqS (skind T (rv_var rfl)) rv_str)) (fun h => ?_) fun h => ?_
  · rw [kA] at h
    have h : S.kind = .alt := by simpa using h
    rw [h]
    exact rs_retV rv_e0 rfl
  rw [kA] at h
  have h : ¬ S.kind = .alt := by simpa using h
  refine rs_ifr (rt_test (rv_eqS (skind T (rv_var rfl)) rv_str)) (fun h => ?_) fun h2 => ?_
  · rw [kH] at h
    have h : S.kind = .herm := by simpa using h
    rw [h]
    exact rs_retV (re_meth (rv_var rfl) rfl (ra_cons ((rv_var rfl)) (ra_cons ((rv_var rfl)) ra_nil)) ⟨_, _, _, hn, rfl, rfl⟩) rfl
  rw [kH] at h2
  have h2 : ¬ S.kind = .herm := by simpa using h2
  have h3 : S.kind = .quad := by
    cases hk : S.kind with
    | alt => exact absurd hk h
    | quad => rfl
    | herm => exact absurd hk h2
  rw [h3]
  refine rs_setV (rv_e0 (F := S.F)) ?_
  refine rs_forF (l := List.finRange S.n) (sx := fun i => nD i.val) (js := [3]) (fun t i => t + x i * dot (S.mat i) x) (fun _ => True) (fun t => [.im (spcD S), .im (rowD x), .im (elD t), .un]) 0 (rj_rng (sn T (rv_var rfl)) rfl (by omega)) (by repeat' (first | exact True.intro | refine And.intro ?_ ?_ | exact Or.inl rfl | exact Or.inr rfl)) (fun pre i post _ _ => ⟨_, rg_name, (fun _ h => h), ?_⟩) fun _ => rs_retV (rv_var rfl) rfl
  refine rs_set (re_meth (sfield T (rv_var rfl)) rfl (ra_cons ((rv_var rfl)) (ra_cons (re_meth (sfield T (rv_var rfl)) rfl (ra_cons (rv_rowIx (rv_var rfl) (rv_var rfl) rfl) (ra_cons (re_call (ra_cons (sfield T (rv_var rfl)) (ra_cons (rv_matIx (smat T (rv_var rfl)) (rv_var rfl) rfl) (ra_cons ((rv_var rfl)) ra_nil))) ⟨_, _, _, _, rfl, rfl⟩) ra_nil)) ⟨_, _, _, rfl, rfl⟩) ra_nil)) ⟨_, _, _, rfl, rfl⟩) ?_
  rintro d rfl
  exact ⟨trivial, (by repeat' (first | exact True.intro | refine And.intro ?_ ?_ | exact Or.inl rfl | exact Or.inr rfl))⟩
def R_Space_radical : List D → (D → Prop) → Prop := fun ds f => ∃ (S : Spc), ∃ (hn : S.n ≤ 6), ds = [spcD S] ∧ f = fun d => d = tabN S.radical
abbrev sp_Space_radical (K : PySem.W.Frag) : Sp := psp K R_Space_radical
theorem f_Space_radical {P : Program} {w : World} {K : PySem.W.Frag} {mg : Str → Option Value} {base : Heap} (T : Tx K mg base) : Met P w K mg base 8 (He.ga K "Space") "radical" (sp_Space_radical K) := by
  refine met_of (d_Space_radical T) (c_Space T) (m_Space_radical T) (N := ["self"]) (ps := ["self"]) (fun _ _ _ _ _ _ us hl => match us, hl with | [_], _ => rfl) (by decide +kernel) (psp_len (by rintro ds f ⟨_, _, rfl, _⟩; rfl)) ?_
  intro cdv A outer sh H vs Q E hr hs
  let NN : List Str := ["self"]
  have nd : List.Nodup (α := Str) ["self"] := by decide +kernel
  refine ⟨_, (pss_one (ps_ret (pe_c (f_kernel T) hr (by decide) (by rfl) (pa_cons (pe_fld (pv 0) rfl) (pa_cons (pe_c (f_transposed T) hr (by decide) (by rfl) (pa_cons (pe_fld (pv 0) rfl) (pa_cons (pe_fld (pv 0) rfl) pa_nil))) (pa_cons (pe_fld (pv 0) rfl) pa_nil)))))), ?_⟩
  clear hr nd NN
  refine body_psp (n := 1) hs rfl ?_
  clear hs
  rintro ds f ⟨S, hn, rfl, rfl⟩
  refine rs_retV (re_call (ra_cons (sfield T (rv_var rfl)) (ra_cons (re_call (ra_cons (sgram T (rv_var rfl)) (ra_cons (sn T (rv_var rfl)) ra_nil)) ⟨S.F, S.n, S.n, true, matL S.gram, by omega, mat_len _, by omega, rfl, rfl⟩) (ra_cons (sn T (rv_var rfl)) ra_nil))) ⟨_, _, _, by omega, ?_, rfl, rfl⟩) rfl
  unfold transp
  rw [List.length_map, List.length_finRange]
  omega
def R_Space_perp : List D → (D → Prop) → Prop := fun ds f => ∃ (S : Spc) (rows : List (Row S.F S.n)), ∃ (hn : S.n ≤ 6), ∃ (hl : rows.length ≤ 1000), ds = [spcD S, lstD rows] ∧ f = fun d => d = tabN (S.perp rows)
abbrev sp_Space_perp (K : PySem.W.Frag) : Sp := psp K R_Space_perp
theorem f_Space_perp {P : Program} {w : World} {K : PySem.W.Frag} {mg : Str → Option Value} {base : Heap} (T : Tx K mg base) : Met P w K mg base 8 (He.ga K "Space") "perp" (sp_Space_perp K) := by
  refine met_of (d_Space_perp T) (c_Space T) (m_Space_perp T) (N := ["self", "rows", "y"]) (ps := ["self", "rows"]) (fun _ _ _ _ _ _ us hl => match us, hl with | [_, _], _ => rfl) (by decide +kernel) (psp_len (by rintro ds f ⟨_, _, _, _, rfl, _⟩; rfl)) ?_
  intro cdv A outer sh H vs Q E hr hs
  let NN : List Str := ["self", "rows", "y"]
  have nd : List.Nodup (α := Str) ["self", "rows", "y"] := by decide +kernel
  refine ⟨_, (pss_one (ps_ret (pe_c (f_kernel T) hr (by decide) (by rfl) (pa_cons (pe_fld (pv 0) rfl) (pa_cons (pe_callTy call_tuple_of (by rfl) (b_tuple T) (by rfl) (pa_cons (pe_lc (own := [("y", 2)]) (g := (gName 2)) (tt := tYes) (te := (tMeth (He.ga K "Space") "facing" (sp_Space_facing K) [] E0 (tVar 0) (tCons (tVar 2) tNil))) rfl nd (pi_list (pv 1)) (blkOk_by (N := NN) (by kernel_rfl)) (fun _ _ _ _ _ => (pg_name (i := 2) nd rfl (by first | exact Or.inl rfl | exact Or.inr rfl))) (fun _ _ _ _ _ => pts_nil) (fun _ _ _ _ _ => (pe_mt (f_Space_facing T) hr (by decide) (pv 0) (pa_cons (pv 2) pa_nil)))) pa_nil)) (pa_cons (pe_fld (pv 0) rfl) pa_nil)))))), ?_⟩
  clear hr nd NN
  refine body_psp (n := 3) hs rfl ?_
  clear hs
  rintro ds f ⟨S, rows, hn, hl, rfl, rfl⟩
  refine rs_retV (re_call (ra_cons (sfield T (rv_var rfl)) (ra_cons (rv_tabT (l := rows.map S.facing) (RunO.is2 (ro_map (l := rows) (sx := rowD) (ex := fun y => rowD (S.facing y)) (js := [2]) (rj_i (rj_list (rv_var rfl))) (by omega) (by decide) fun y _ => ⟨_, rg_name, re_meth (rv_var rfl) rfl (ra_cons ((rv_var rfl)) ra_nil) ⟨_, _, hn, rfl, rfl⟩⟩) (by rw [List.map_map]; rfl))) (ra_cons (sn T (rv_var rfl)) ra_nil))) ⟨_, _, _, by omega, ?_, rfl, rfl⟩) rfl
  rw [List.length_map]
  exact hl
def R_Space_singular_radical : List D → (D → Prop) → Prop := fun ds f => ∃ (S : Spc), ∃ (hn : S.n ≤ 6), ds = [spcD S] ∧ f = fun d => d = tabN S.singRadical
abbrev sp_Space_singular_radical (K : PySem.W.Frag) : Sp := psp K R_Space_singular_radical
theorem f_Space_singular_radical {P : Program} {w : World} {K : PySem.W.Frag} {mg : Str → Option Value} {base : Heap} (T : Tx K mg base) : Met P w K mg base 9 (He.ga K "Space") "singular_radical" (sp_Space_singular_radical K) := by
  refine met_of (d_Space_singular_radical T) (c_Space T) (m_Space_singular_radical T) (N := ["self", "table", "roots", "row", "weights"]) (ps := ["self"]) (fun _ _ _ _ _ _ us hl => match us, hl with | [_], _ => rfl) (by decide +kernel) (psp_len (by rintro ds f ⟨_, _, rfl, _⟩; rfl)) ?_
  intro cdv A outer sh H vs Q E hr hs
  let NN : List Str := ["self", "table", "roots", "row", "weights"]
  have nd : List.Nodup (α := Str) ["self", "table", "roots", "row", "weights"] := by decide +kernel
  refine ⟨_, (pss_cons (ps_set (i := 1) nd rfl (by first | exact Or.inl rfl | exact Or.inr rfl) (pe_mt0 (f_Space_radical T) hr (by decide) (pv 0)))
 (pss_cons (ps_if (PW.pt (pw_or (pt_cmpR op_ne (pe_fld (pv 0) rfl) pe_str (by first | exact nomark _ | rfl | with_unfolding_all rfl)) (pw_or (pt_cmpR op_ne (pe_fld (pe_fld (pv 0) rfl) rfl) pe_int (by first | exact nomark _ | rfl | with_unfolding_all rfl)) (pw_or1 (pt_cmpR op_eq (pe_callB call_len_seq (by rfl) (b_len T) PySem.boot_len (pa_cons (pv 1) pa_nil)) pe_int (by first | exact nomark _ | rfl | with_unfolding_all rfl)))))) (pss_one (ps_ret (pv 1))) pss_nil)
 (pss_cons (ps_set (i := 2) nd rfl (by first | exact Or.inl rfl | exact Or.inr rfl) (pe_callTy call_tuple_of (by rfl) (b_tuple T) (by rfl) (pa_cons (pe_lc (own := [("row", 3)]) (g := (gName 3)) (tt := tYes) (te := (tMeth (He.ga K "Field") "root" (sp_Field_root K) [] E0 (tFld K (tVar 0) "field") (tCons (tMeth (He.ga K "Space") "value" (sp_Space_value K) [] E0 (tVar 0) (tCons (tVar 3) tNil)) tNil))) rfl nd (pi_tup (pv 1)) (blkOk_by (N := NN) (by kernel_rfl)) (fun _ _ _ _ _ => (pg_name (i := 3) nd rfl (by first | exact Or.inl rfl | exact Or.inr rfl))) (fun _ _ _ _ _ => pts_nil) (fun _ _ _ _ _ => (pe_mt (f_Field_root T) hr (by decide) (pe_fld (pv 0) rfl) (pa_cons (pe_mt (f_Space_value T) hr (by decide) (pv 0) (pa_cons (pv 3) pa_nil)) pa_nil)))) pa_nil)))
 (pss_cons (ps_set (i := 4) nd rfl (by first | exact Or.inl rfl | exact Or.inr rfl) (pe_c (f_kernel T) hr (by decide) (by rfl) (pa_cons (pe_fld (pv 0) rfl) (pa_cons (pe_tup (pa_cons (pv 2) pa_nil)) (pa_cons (pe_callB call_len_seq (by rfl) (b_len T) PySem.boot_len (pa_cons (pv 1) pa_nil)) pa_nil)))))
 (pss_one (ps_ret (pe_c (f_span T) hr (by decide) (by rfl) (pa_cons (pe_fld (pv 0) rfl) (pa_cons (pe_lc (own := [("row", 3)]) (g := (gName 3)) (tt := tYes) (te := (tCall (sp_combine K) [] E0 (tCons (tFld K (tVar 0) "field") (tCons (tVar 1) (tCons (tVar 3) (tCons (tFld K (tVar 0) "n") tNil)))))) rfl nd (pi_tup (pv 4)) (blkOk_by (N := NN) (by kernel_rfl)) (fun _ _ _ _ _ => (pg_name (i := 3) nd rfl (by first | exact Or.inl rfl | exact Or.inr rfl))) (fun _ _ _ _ _ => pts_nil) (fun _ _ _ _ _ => (pe_c (f_combine T) hr (by decide) (by rfl) (pa_cons (pe_fld (pv 0) rfl) (pa_cons (pv 1) (pa_cons (pv 3) (pa_cons (pe_fld (pv 0) rfl) pa_nil))))))) (pa_cons (pe_fld (pv 0) rfl) pa_nil)))))))))), ?_⟩
  clear hr nd NN
  refine body_psp (n := 5) hs rfl ?_
  clear hs
  rintro ds f ⟨S, hn, rfl, rfl⟩
  have hr : S.radical.length ≤ S.n := kernel_len _
  refine rs_setq (re_meth0 (rv_var rfl) rfl ⟨_, hn, rfl, rfl⟩) ?_
  rintro d rfl
  refine rs_ifr (rt_or (rt_test (rv_neS (skind T (rv_var rfl)) rv_str)) fun _ => rt_or (rt_test (rv_neI (fp T (sfield T (rv_var rfl))) rv_int)) fun _ => rt_test (rv_eqI (rv_lenT (rv_var rfl) rfl) rv_int)) (fun h => rs_retV (rv_var rfl) ?_) fun h => ?_
  · rw [kQ, List.length_map] at h
    unfold Spc.singRadical
    rw [if_pos]
    by_cases h1 : S.kind = .quad
    · by_cases h2 : S.F.p = 2
      · refine .inr (.inr ?_)
        rw [decide_eq_true h1, decide_eq_true (show ((S.F.p : Nat) : Int) = 2 by omega)] at h
        have h : decide ((S.radical.length : Int) = 0) = true := h
        have h := of_decide_eq_true h
        exact List.eq_nil_of_length_eq_zero (by omega)
      · exact .inr (.inl h2)
    · exact .inl h1
  rw [kQ, List.length_map, Bool.or_eq_false_iff, Bool.or_eq_false_iff, Bool.not_eq_false', Bool.not_eq_false', decide_eq_true_eq, decide_eq_true_eq, decide_eq_false_iff_not] at h
  obtain ⟨h1, h2, h3⟩ := h
  have h2 : S.F.p = 2 := by omega
  have hne : ¬ (S.kind ≠ .quad ∨ S.F.p ≠ 2 ∨ S.radical = []) := by
    rintro (z | z | z)
    · exact z h1
    · exact z h2
    · rw [z] at h3; exact h3 rfl
  unfold Spc.singRadical
  rw [if_neg hne]
  refine rs_setV (rv_rowT (F := S.F) (f := S.roots S.radical) (RunO.is2 (ro_map (l := S.radical) (sx := nrwD) (ex := fun v => elD (rootE (S.value v))) (js := [3]) (rj_i (rj_tup (rv_var rfl))) (by omega) (by decide) fun v _ => ⟨_, rg_name, re_meth (sfield T (rv_var rfl)) rfl (ra_cons (re_meth (rv_var rfl) rfl (ra_cons (nrow_row (rv_var rfl)) ra_nil) ⟨_, _, hn, rfl, rfl⟩) ra_nil) ⟨_, _, sq_root h2 _, rfl, rfl⟩⟩) (map_fin S.radical fun v => elD (rootE (S.value v))))) ?_
  have hw : (kernel [S.roots S.radical]).length ≤ S.radical.length := kernel_len _
  refine rs_setV (re_call (ra_cons (sfield T (rv_var rfl)) (ra_cons (rv_tup (ra_cons ((rv_var rfl)) ra_nil)) (ra_cons (rv_lenT (rv_var rfl) (k := (S.radical.length : Int)) (by rw [List.length_map])) ra_nil))) ⟨S.F, S.radical.length, [S.roots S.radical], by omega, by simp, rfl, rfl⟩) ?_
  refine rs_retV (re_call (ra_cons (sfield T (rv_var rfl)) (ra_cons ((ro_map (l := kernel [S.roots S.radical]) (sx := nrwD) (ex := fun w => rowD (comb S.radical (List.ofFn w))) (js := [3]) (rj_i (rj_tup (rv_var rfl))) (by omega) (by decide) fun w _ => ⟨_, rg_name, re_call (ra_cons (sfield T (rv_var rfl)) (ra_cons (nrows_tab (rv_var rfl)) (ra_cons (nrow_row (rv_var rfl)) (ra_cons (sn T (rv_var rfl)) ra_nil)))) ⟨_, _, _, _, _, by omega, rfl, rfl⟩⟩).v) (ra_cons (sn T (rv_var rfl)) ra_nil))) ⟨S.F, S.n, false, (kernel [S.roots S.radical]).map fun w => comb S.radical (List.ofFn w), by omega, ?_, ?_, rfl⟩) rfl
  · rw [List.length_map]; omega
  · show [_, D.lst _, _] = [_, D.lst _, _]
    rw [List.map_map]
    rfl
def R_keeps : List D → (D → Prop) → Prop := fun ds f => ∃ (S : Spc) (m : List (Row S.F S.n)), ∃ (hn : S.n ≤ 6), ∃ (hm : m.length = S.n), ∃ (hk : S.keeps m), ds = [spcD S, tabD m] ∧ f = fun d => d = .bl true
abbrev sp_keeps (K : PySem.W.Frag) : Sp := psp K R_keeps
theorem f_keeps {P : Program} {w : World} {K : PySem.W.Frag} {mg : Str → Option Value} {base : Heap} (T : Tx K mg base) : Cal P w K mg base 8 "keeps" (sp_keeps K) := by
  refine cal_of (d_keeps T) (g_keeps T) (N := ["space", "rows", "i", "j"]) (ps := ["space", "rows"]) (fun _ _ _ _ _ _ us hl => match us, hl with | [_, _], _ => rfl) (by decide +kernel) (psp_len (by rintro ds f ⟨_, _, _, _, _, rfl, _⟩; rfl)) ?_
  intro cdv A outer sh H vs Q E hr hs
  let NN : List Str := ["space", "rows", "i", "j"]
  have nd : List.Nodup (α := Str) ["space", "rows", "i", "j"] := by decide +kernel
  refine ⟨_, (pss_cons (ps_for PassesOwn.never rfl (pi_range1 (by rfl) (b_range T) (pa_cons (pe_fld (pv 0) rfl) pa_nil)) (pg_name (i := 2) nd rfl (by first | exact Or.inl rfl | exact Or.inr rfl)) (pss_cons (ps_if (pt_cmpR op_ne (pe_mt (f_Space_value T) hr (by decide) (pv 0) (pa_cons (pe_ix ix_tup (pv 1) (pv 2) (fun _ _ => rfl)) pa_nil)) (pe_mt (f_Space_value T) hr (by decide) (pv 0) (pa_cons (pe_mt (f_Space_unit T) hr (by decide) (pv 0) (pa_cons (pv 2) pa_nil)) pa_nil)) (by first | exact nomark _ | rfl | with_unfolding_all rfl)) (pss_one (ps_ret pe_bl)) pss_nil)
 (pss_one (ps_for PassesOwn.never rfl (pi_range2 (by rfl) (b_range T) (pa_cons (pe_op op_add (pv 2) pe_int) (pa_cons (pe_fld (pv 0) rfl) pa_nil))) (pg_name (i := 3) nd rfl (by first | exact Or.inl rfl | exact Or.inr rfl)) (pss_one (ps_if (pt_cmpR op_ne (pe_mt (f_Space_product T) hr (by decide) (pv 0) (pa_cons (pe_ix ix_tup (pv 1) (pv 2) (fun _ _ => rfl)) (pa_cons (pe_ix ix_tup (pv 1) (pv 3) (fun _ _ => rfl)) pa_nil))) (pe_mt (f_Space_product T) hr (by decide) (pv 0) (pa_cons (pe_mt (f_Space_unit T) hr (by decide) (pv 0) (pa_cons (pv 2) pa_nil)) (pa_cons (pe_mt (f_Space_unit T) hr (by decide) (pv 0) (pa_cons (pv 3) pa_nil)) pa_nil))) (by first | exact nomark _ | rfl | with_unfolding_all rfl)) (pss_one (ps_ret pe_bl)) pss_nil))))))
 (pss_one (ps_ret pe_bl))), ?_⟩
  clear hr nd NN
  refine body_psp (n := 4) hs rfl ?_
  clear hs
  rintro ds f ⟨S, m, hn, hm, hk, rfl, rfl⟩
  refine rs_forF (l := List.finRange S.n) (sx := fun i => nD i.val) (js := [2]) (fun (u : Unit) _ => u) (fun _ => True) (fun _ => [.im (spcD S), .im (tabD m), .un, .un]) () (rj_rng (sn T (rv_var rfl)) rfl (by omega)) (by repeat' (first | exact True.intro | refine And.intro ?_ ?_ | exact Or.inl rfl | exact Or.inr rfl)) (fun pre i post _ _ => ⟨_, rg_name, (fun _ h => h), ?_⟩) fun _ => rs_retV rv_bl rfl
  have hi : m[i.val]? = some (m[i.val]'(by omega)) := List.getElem?_eq_getElem (by omega)
  refine rs_guard ((rt_test (rv_neE (re_meth (rv_var rfl) rfl (ra_cons (rv_tabIx (rv_var rfl) (rv_var rfl) rfl hi) ra_nil) ⟨_, _, hn, rfl, rfl⟩) (re_meth (rv_var rfl) rfl (ra_cons (re_meth (rv_var rfl) rfl (ra_cons ((rv_var rfl)) ra_nil) ⟨S, i, hn, rfl, rfl⟩) ra_nil) ⟨_, _, hn, rfl, rfl⟩))).is ?_) ?_
  · rw [(hk i i _ _ hi hi).1]
    simp
  refine rs_forF1 (l := List.range (S.n - (i.val + 1))) (sx := fun t => nD (i.val + 1 + t)) (js := [3]) (fun (u : Unit) _ => u) (fun _ => True) (fun _ => [.im (spcD S), .im (tabD m), .im (nD i.val), .un]) () (rj_rngB (rv_add (rv_var rfl) rv_int) (sn T (rv_var rfl)) (by omega) rfl (by have := i.isLt; omega) (by omega)) (by repeat' (first | exact True.intro | refine And.intro ?_ ?_ | exact Or.inl rfl | exact Or.inr rfl)) (fun pre t post hpre _ => ⟨_, rg_name, (fun _ h => h), ?_⟩) fun _ => ⟨trivial, (by repeat' (first | exact True.intro | refine And.intro ?_ ?_ | exact Or.inl rfl | exact Or.inr rfl))⟩
  have ht := range_pre hpre
  have hjn : i.val + 1 + t < S.n := by omega
  have hj : m[i.val + 1 + t]? = some (m[i.val + 1 + t]'(by omega)) := List.getElem?_eq_getElem (by omega)
  refine rs_if ((rt_test (rv_neE (re_meth (rv_var rfl) rfl (ra_cons (rv_tabIx (rv_var rfl) (rv_var rfl) rfl hi) (ra_cons (rv_tabIx (rv_var rfl) (rv_var rfl) rfl hj) ra_nil)) ⟨_, _, _, hn, rfl, rfl⟩) (re_meth (rv_var rfl) rfl (ra_cons (re_meth (rv_var rfl) rfl (ra_cons ((rv_var rfl)) ra_nil) ⟨S, i, hn, rfl, rfl⟩) (ra_cons (re_meth (rv_var rfl) rfl (ra_cons ((rv_var rfl)) ra_nil) ⟨S, ⟨i.val + 1 + t, hjn⟩, hn, rfl, rfl⟩) ra_nil)) ⟨_, _, _, hn, rfl, rfl⟩))).is (b := false) ?_) (fun h => nomatch h) fun _ => rs_next ⟨trivial, (by repeat' (first | exact True.intro | refine And.intro ?_ ?_ | exact Or.inl rfl | exact Or.inr rfl))⟩
  rw [(hk i ⟨i.val + 1 + t, hjn⟩ _ _ hi hj).2 (by show i.val < i.val + 1 + t; omega)]
  simp
def R_is_isometry : List D → (D → Prop) → Prop := fun ds f => ∃ (S : Spc) (m : List (Row S.F S.n)), ∃ (hn : S.n ≤ 6), ∃ (hm : S.isIso m), ds = [spcD S, tabD m] ∧ f = fun d => d = .bl true
abbrev sp_is_isometry (K : PySem.W.Frag) : Sp := psp K R_is_isometry
theorem f_is_isometry {P : Program} {w : World} {K : PySem.W.Frag} {mg : Str → Option Value} {base : Heap} (T : Tx K mg base) : Cal P w K mg base 9 "is_isometry" (sp_is_isometry K) := by
  refine cal_of (d_is_isometry T) (g_is_isometry T) (N := ["space", "value"]) (ps := ["space", "value"]) (fun _ _ _ _ _ _ us hl => match us, hl with | [_, _], _ => rfl) (by decide +kernel) (psp_len (by rintro ds f ⟨_, _, _, _, rfl, _⟩; rfl)) ?_
  intro cdv A outer sh H vs Q E hr hs
  let NN : List Str := ["space", "value"]
  have nd : List.Nodup (α := Str) ["space", "value"] := by decide +kernel
  refine ⟨_, (pss_cons (ps_if (pt_not (pt_val (pe_c (f_is_matrix T) hr (by decide) (by rfl) (pa_cons (pe_fld (pv 0) rfl) (pa_cons (pv 1) (pa_cons (pe_fld (pv 0) rfl) pa_nil)))))) (pss_one (ps_ret pe_bl)) pss_nil)
 (pss_one (ps_ret (pe_and (pe_cmpR op_ne (pe_c (f_determinant T) hr (by decide) (by rfl) (pa_cons (pe_fld (pv 0) rfl) (pa_cons (pv 1) pa_nil))) pe_int (by first | exact nomark _ | rfl | with_unfolding_all rfl)) (pe_one (pe_c (f_keeps T) hr (by decide) (by rfl) (pa_cons (pv 0) (pa_cons (pv 1) pa_nil)))))))), ?_⟩
  clear hr nd NN
  refine body_psp (n := 2) hs rfl ?_
  clear hs
  rintro ds f ⟨S, m, hn, hm, rfl, rfl⟩
  obtain ⟨h1, h2, h3⟩ := hm
  refine rs_guard (rt_not (a := true) (rt_B (re_call (ra_cons (sfield T (rv_var rfl)) (ra_cons ((rv_var rfl)) (ra_cons (sn T (rv_var rfl)) ra_nil))) ⟨_, _, _, by omega, h1, rfl, rfl⟩))) ?_
  refine rs_retV (rv_andV (rv_neE (re_call (ra_cons (sfield T (rv_var rfl)) (ra_cons ((rv_var rfl)) ra_nil)) ⟨_, _, _, by omega, h1, rfl, rfl⟩) rv_e0) fun _ => re_call (ra_cons ((rv_var rfl)) (ra_cons ((rv_var rfl)) ra_nil)) ⟨_, _, hn, h1, h3, rfl, rfl⟩) ?_
  rw [decide_eq_false h2]
  rfl
def R_Isometry___init__ : List D → (List (Str × D) → Prop) → Prop := fun ds f => ∃ (S : Spc) (m : List (Row S.F S.n)), ∃ (hn : S.n ≤ 6), ∃ (hm : S.isIso m), ds = [spcD S, tabD m] ∧ f = fun d => d = [(("space" : Str), spcD S), (("matrix" : Str), tabD m)]
abbrev sp_Isometry___init__ (K : PySem.W.Frag) : Sp := isp K "Isometry" R_Isometry___init__
theorem f_Isometry___init__ {P : Program} {w : World} {K : PySem.W.Frag} {mg : Str → Option Value} {base : Heap} (T : Tx K mg base) : Mak P w K mg base 10 "Isometry" (He.ga K "Isometry") (sp_Isometry___init__ K) := by
  refine mak_of (d_Isometry___init__ T) (mk_Isometry T) (g_Isometry T) (N := ["self", "space", "matrix"]) (ps := ["self", "space", "matrix"]) (fun _ _ _ _ _ _ us hl => match us, hl with | [_, _, _], _ => rfl) (by decide +kernel) (isp_len (by rintro ds f ⟨_, _, _, _, rfl, _⟩; rfl)) ?_
  intro cdv A outer sh H vs Q E hr hs
  let NN : List Str := ["self", "space", "matrix"]
  have nd : List.Nodup (α := Str) ["self", "space", "matrix"] := by decide +kernel
  refine ⟨_, (pss_cons (ps_if (PW.pt (pw_or (pt_not (pt_val (pe_callB call_isi (by rfl) (b_isinstance T) (by rfl) (pa_cons (pv 1) (pa_cons (pe_glob (v := .ref (He.ga K "Space")) (by rfl) (g_Space T) rfl) pa_nil))))) (pw_or1 (pt_not (pt_val (pe_c (f_is_matrix T) hr (by decide) (by rfl) (pa_cons (pe_fld (pv 1) rfl) (pa_cons (pv 2) (pa_cons (pe_fld (pv 1) rfl) pa_nil))))))))) (pss_one ps_never) pss_nil)
 (pss_cons (ps_if (pt_not (pt_val (pe_c (f_is_isometry T) hr (by decide) (by rfl) (pa_cons (pv 1) (pa_cons (pv 2) pa_nil))))) (pss_one ps_never) pss_nil)
 (pss_cons (ps_fld (pv 0) (pv 1) rfl)
 (pss_one (ps_fld (pv 0) (pv 2) rfl))))), ?_⟩
  clear hr nd NN
  refine body_isp (n := 3) hs rfl ?_ (by decide)
  clear hs
  rintro ds f p0 ⟨S, m, hn, hm, rfl, rfl⟩
  refine rs_guard ((rt_or (rt_not (rt_B (isoS T (rv_var rfl)))) fun _ => rt_not (rt_B (re_call (ra_cons (sfield T (rv_var rfl)) (ra_cons ((rv_var rfl)) (ra_cons (sn T (rv_var rfl)) ra_nil))) ⟨_, _, _, by omega, hm.1, rfl, rfl⟩))).is rfl) ?_
  refine rs_guard (rt_not (a := true) (rt_B (re_call (ra_cons ((rv_var rfl)) (ra_cons ((rv_var rfl)) ra_nil)) ⟨_, _, hn, hm, rfl, rfl⟩))) ?_
  refine rs_fldq (p := p0) (c := "Isometry") (fs := []) rfl (rv_var rfl) (c_Isometry T) (n_Isometry_space T) (by decide) ?_
  refine rs_fld (p := p0) (c := "Isometry") (fs := [("space", spcD S)]) rfl (rv_var rfl) (c_Isometry T) (n_Isometry_matrix T) (by show 1 < 1000; decide) ?_
  rintro d rfl
  exact ⟨_, rfl, rfl⟩
end Wk
/-! # WkW6 -/
set_option Elab.async false
set_option linter.all false
set_option maxRecDepth 100000
set_option maxHeartbeats 4000000
namespace Wk
open PySem PySem.Spec PyProof.Rows L2
section
variable {K : PySem.W.Frag} {r : En} {ta tb te : TE} {F : Fd} {n : Nat} {l m : List (Row F n)}
theorem rv_eqT (h1 : RunV K ta r (tabD l)) (h2 : RunV K tb r (tabD m)) : RunV K (tOp (rEqD K) ta tb) r (.bl (decide (l = m))) := by
  refine (rv_eqTab (xss := l.map rowI) (yss := m.map rowI) (h1.is (congrArg D.tup (tab_map l))) (h2.is (congrArg D.tup (tab_map m)))).is ?_
  congr 1
  by_cases h : l = m
  · subst h; simp
  · rw [decide_eq_false h, decide_eq_false]
    intro z
    exact h ((List.map_inj_right (fun _ _ e => rowI_inj e)).mp z)
theorem rv_anyR {v : Row F n} (h : RunV K te r (rowD v)) : RunV K (tCB (rAnyI K) (tCons te tNil)) r (.bl (!decide (v = rzero))) := by
  refine (rv_anyT h).is ?_
  congr 1
  by_cases hv : v = rzero
  · subst hv
    rw [decide_eq_true rfl]
    show _ = false
    rw [List.any_eq_false]
    intro x hx
    unfold rowI at hx
    obtain ⟨i, _, e⟩ := List.mem_map.mp hx
    rw [← e]
    show ¬ ((0 : Int) != 0) = true
    decide
  · rw [decide_eq_false hv]
    show _ = true
    rw [List.any_eq_true]
    have : ∃ i, v i ≠ 0 := by
      apply Classical.byContradiction
      intro h
      exact hv (funext fun i => Classical.byContradiction fun z => h ⟨i, z⟩)
    obtain ⟨i, hi⟩ := this
    refine ⟨((v i).v : Int), List.mem_of_getElem? (rowI_at v i), ?_⟩
    rw [bne_iff_ne]
    intro e
    exact hi (El.ext (by show (v i).v = 0; omega))
theorem seq_lst {ds : List D} : seqD false ds = .lst ds := rfl
theorem seq_tup {ds : List D} : seqD true ds = .tup ds := rfl
end

def R_is_rows : List D → (D → Prop) → Prop := fun ds f => ∃ (S : Spc) (l : List (Row S.F S.n)), ∃ (hn : S.n ≤ 6), ∃ (hl : l.length ≤ 1000), ds = [spcD S, tabD l] ∧ f = fun d => d = .bl true
abbrev sp_is_rows (K : PySem.W.Frag) : Sp := psp K R_is_rows
theorem f_is_rows {P : Program} {w : World} {K : PySem.W.Frag} {mg : Str → Option Value} {base : Heap} (T : Tx K mg base) : Cal P w K mg base 5 "is_rows" (sp_is_rows K) := by
  refine cal_of (d_is_rows T) (g_is_rows T) (N := ["space", "value", "row"]) (ps := ["space", "value"]) (fun _ _ _ _ _ _ us hl => match us, hl with | [_, _], _ => rfl) (by decide +kernel) (psp_len (by rintro ds f ⟨_, _, _, _, rfl, _⟩; rfl)) ?_
  intro cdv A outer sh H vs Q E hr hs
  let NN : List Str := ["space", "value", "row"]
  have nd : List.Nodup (α := Str) ["space", "value", "row"] := by decide +kernel
  refine ⟨_, (pss_one (ps_ret (pe_and (pe_callB call_isiT (by rfl) (b_isinstance T) (by rfl) (pa_cons (pv 1) (pa_cons (pe_tup (pa_cons (pe_bltn (v := .ty "list") (by rfl) (b_list T) (by rfl) rfl) (pa_cons (pe_bltn (v := .ty "tuple") (by rfl) (b_tuple T) (by rfl) rfl) pa_nil))) pa_nil))) (pe_one (pe_callB (cr_all rfl) (by rfl) (b_all T) (by rfl) (pa_cons (pe_lc (own := [("row", 2)]) (g := (gName 2)) (tt := tYes) (te := (tMeth (He.ga K "Space") "is_row" (sp_Space_is_row K) [] E0 (tVar 0) (tCons (tVar 2) tNil))) rfl nd (pi_tup (pv 1)) (blkOk_by (N := NN) (by kernel_rfl)) (fun _ _ _ _ _ => (pg_name (i := 2) nd rfl (by first | exact Or.inl rfl | exact Or.inr rfl))) (fun _ _ _ _ _ => pts_nil) (fun _ _ _ _ _ => (pe_mt (f_Space_is_row T) hr (by decide) (pv 0) (pa_cons (pv 2) pa_nil)))) pa_nil)))))), ?_⟩
  clear hr nd NN
  refine body_psp (n := 3) hs rfl ?_
  clear hs
  rintro ds f ⟨S, l, hn, hl, rfl, rfl⟩
  exact rs_retV (rv_andV (rv_isiLT (rv_var rfl) rfl) fun _ => rv_allT (ro_map (l := l) (sx := rowD) (ex := fun _ => .bl true) (js := [2]) (rj_i (rj_tup (rv_var rfl))) (by omega) (by decide) fun v _ => ⟨_, rg_name, re_meth (rv_var rfl) rfl (ra_cons ((rv_var rfl)) ra_nil) ⟨_, _, hn, rfl, rfl⟩⟩)) rfl
def R_is_free : List D → (D → Prop) → Prop := fun ds f => ∃ (S : Spc) (l : List (Row S.F S.n)), ∃ (hn : S.n ≤ 6), ∃ (hl : l.length ≤ 1000), ds = [spcD S, tabD l] ∧ f = fun d => d = .bl (decide ((span l).length = l.length))
abbrev sp_is_free (K : PySem.W.Frag) : Sp := psp K R_is_free
theorem f_is_free {P : Program} {w : World} {K : PySem.W.Frag} {mg : Str → Option Value} {base : Heap} (T : Tx K mg base) : Cal P w K mg base 7 "is_free" (sp_is_free K) := by
  refine cal_of (d_is_free T) (g_is_free T) (N := ["space", "rows"]) (ps := ["space", "rows"]) (fun _ _ _ _ _ _ us hl => match us, hl with | [_, _], _ => rfl) (by decide +kernel) (psp_len (by rintro ds f ⟨_, _, _, _, rfl, _⟩; rfl)) ?_
  intro cdv A outer sh H vs Q E hr hs
  let NN : List Str := ["space", "rows"]
  have nd : List.Nodup (α := Str) ["space", "rows"] := by decide +kernel
  refine ⟨_, (pss_one (ps_ret (pe_cmpR op_eq (pe_callB call_len_seq (by rfl) (b_len T) PySem.boot_len (pa_cons (pe_c (f_span T) hr (by decide) (by rfl) (pa_cons (pe_fld (pv 0) rfl) (pa_cons (pv 1) (pa_cons (pe_fld (pv 0) rfl) pa_nil)))) pa_nil)) (pe_callB call_len_seq (by rfl) (b_len T) PySem.boot_len (pa_cons (pv 1) pa_nil)) (by first | exact nomark _ | rfl | with_unfolding_all rfl)))), ?_⟩
  clear hr nd NN
  refine body_psp (n := 2) hs rfl ?_
  clear hs
  rintro ds f ⟨S, l, hn, hl, rfl, rfl⟩
  refine rs_retV (rv_eqI (rv_lenT (re_call (ra_cons (sfield T (rv_var rfl)) (ra_cons ((rv_var rfl)) (ra_cons (sn T (rv_var rfl)) ra_nil))) ⟨S.F, S.n, true, l, by omega, hl, rfl, rfl⟩) rfl) (rv_lenT (rv_var rfl) rfl)) ?_
  rw [List.length_map, List.length_map]
  congr 1
  by_cases h : (span l).length = l.length
  · rw [decide_eq_true h, decide_eq_true (by omega)]
  · rw [decide_eq_false h, decide_eq_false (by omega)]
def R_is_kept : List D → (D → Prop) → Prop := fun ds f => ∃ (S : Spc) (us vs : List (Row S.F S.n)), ∃ (hn : S.n ≤ 6), ∃ (hl : us.length ≤ 1000), ∃ (hk : S.isKept us vs), ds = [spcD S, tabD us, tabD vs] ∧ f = fun d => d = .bl true
abbrev sp_is_kept (K : PySem.W.Frag) : Sp := psp K R_is_kept
theorem f_is_kept {P : Program} {w : World} {K : PySem.W.Frag} {mg : Str → Option Value} {base : Heap} (T : Tx K mg base) : Cal P w K mg base 8 "is_kept" (sp_is_kept K) := by
  refine cal_of (d_is_kept T) (g_is_kept T) (N := ["space", "us", "vs", "i", "j"]) (ps := ["space", "us", "vs"]) (fun _ _ _ _ _ _ us hl => match us, hl with | [_, _, _], _ => rfl) (by decide +kernel) (psp_len (by rintro ds f ⟨_, _, _, _, _, _, rfl, _⟩; rfl)) ?_
  intro cdv A outer sh H vs Q E hr hs
  let NN : List Str := ["space", "us", "vs", "i", "j"]
  have nd : List.Nodup (α := Str) ["space", "us", "vs", "i", "j"] := by decide +kernel
  refine ⟨_, (pss_cons (ps_for PassesOwn.never rfl (pi_range1 (by rfl) (b_range T) (pa_cons (pe_callB call_len_seq (by rfl) (b_len T) PySem.boot_len (pa_cons (pv 1) pa_nil)) pa_nil)) (pg_name (i := 3) nd rfl (by first | exact Or.inl rfl | exact Or.inr rfl)) (pss_cons (ps_if (pt_cmpR op_ne (pe_mt (f_Space_value T) hr (by decide) (pv 0) (pa_cons (pe_ix ix_tup (pv 1) (pv 3) (fun _ _ => rfl)) pa_nil)) (pe_mt (f_Space_value T) hr (by decide) (pv 0) (pa_cons (pe_ix ix_tup (pv 2) (pv 3) (fun _ _ => rfl)) pa_nil)) (by first | exact nomark _ | rfl | with_unfolding_all rfl)) (pss_one (ps_ret pe_bl)) pss_nil)
 (pss_one (ps_for PassesOwn.never rfl (pi_range2 (by rfl) (b_range T) (pa_cons (pe_op op_add (pv 3) pe_int) (pa_cons (pe_callB call_len_seq (by rfl) (b_len T) PySem.boot_len (pa_cons (pv 1) pa_nil)) pa_nil))) (pg_name (i := 4) nd rfl (by first | exact Or.inl rfl | exact Or.inr rfl)) (pss_one (ps_if (pt_cmpR op_ne (pe_mt (f_Space_product T) hr (by decide) (pv 0) (pa_cons (pe_ix ix_tup (pv 1) (pv 3) (fun _ _ => rfl)) (pa_cons (pe_ix ix_tup (pv 1) (pv 4) (fun _ _ => rfl)) pa_nil))) (pe_mt (f_Space_product T) hr (by decide) (pv 0) (pa_cons (pe_ix ix_tup (pv 2) (pv 3) (fun _ _ => rfl)) (pa_cons (pe_ix ix_tup (pv 2) (pv 4) (fun _ _ => rfl)) pa_nil))) (by first | exact nomark _ | rfl | with_unfolding_all rfl)) (pss_one (ps_ret pe_bl)) pss_nil))))))
 (pss_one (ps_ret pe_bl))), ?_⟩
  clear hr nd NN
  refine body_psp (n := 5) hs rfl ?_
  clear hs
  rintro ds f ⟨S, us, vs, hn, hl, hk, rfl, rfl⟩
  obtain ⟨hl2, hk⟩ := hk
  refine rs_forF (l := List.range us.length) (sx := nD) (js := [3]) (fun (u : Unit) _ => u) (fun _ => True) (fun _ => [.im (spcD S), .im (tabD us), .im (tabD vs), .un, .un]) () (rj_rngN (rv_lenT (rv_var rfl) rfl) (by rw [List.length_map]) (by omega)) (by repeat' (first | exact True.intro | refine And.intro ?_ ?_ | exact Or.inl rfl | exact Or.inr rfl)) (fun pre i post hpre _ => ⟨_, rg_name, (fun _ h => h), ?_⟩) fun _ => rs_retV rv_bl rfl
  have hi := range_pre hpre
  have hu : us[i]? = some us[i] := List.getElem?_eq_getElem hi
  have hv : vs[i]? = some (vs[i]'(by omega)) := List.getElem?_eq_getElem (by omega)
  refine rs_guard ((rt_test (rv_neE (re_meth (rv_var rfl) rfl (ra_cons (rv_tabIx (rv_var rfl) (rv_var rfl) rfl hu) ra_nil) ⟨_, _, hn, rfl, rfl⟩) (re_meth (rv_var rfl) rfl (ra_cons (rv_tabIx (rv_var rfl) (rv_var rfl) rfl hv) ra_nil) ⟨_, _, hn, rfl, rfl⟩))).is ?_) ?_
  · rw [(hk i i _ _ _ _ hu hv hu hv).1]
    simp
  refine rs_forF1 (l := List.range (us.length - (i + 1))) (sx := fun t => nD (i + 1 + t)) (js := [4]) (fun (u : Unit) _ => u) (fun _ => True) (fun _ => [.im (spcD S), .im (tabD us), .im (tabD vs), .im (nD i), .un]) () (rj_rngB (rv_add (rv_var rfl) rv_int) (rv_lenT (rv_var rfl) rfl) (by omega) (by rw [List.length_map]) (by omega) (by omega)) (by repeat' (first | exact True.intro | refine And.intro ?_ ?_ | exact Or.inl rfl | exact Or.inr rfl)) (fun pre t post hpre _ => ⟨_, rg_name, (fun _ h => h), ?_⟩) fun _ => ⟨trivial, (by repeat' (first | exact True.intro | refine And.intro ?_ ?_ | exact Or.inl rfl | exact Or.inr rfl))⟩
  have ht := range_pre hpre
  have hu2 : us[i + 1 + t]? = some (us[i + 1 + t]'(by omega)) := List.getElem?_eq_getElem (by omega)
  have hv2 : vs[i + 1 + t]? = some (vs[i + 1 + t]'(by omega)) := List.getElem?_eq_getElem (by omega)
  refine rs_if ((rt_test (rv_neE (re_meth (rv_var rfl) rfl (ra_cons (rv_tabIx (rv_var rfl) (rv_var rfl) rfl hu) (ra_cons (rv_tabIx (rv_var rfl) (rv_var rfl) rfl hu2) ra_nil)) ⟨_, _, _, hn, rfl, rfl⟩) (re_meth (rv_var rfl) rfl (ra_cons (rv_tabIx (rv_var rfl) (rv_var rfl) rfl hv) (ra_cons (rv_tabIx (rv_var rfl) (rv_var rfl) rfl hv2) ra_nil)) ⟨_, _, _, hn, rfl, rfl⟩))).is (b := false) ?_) (fun h => nomatch h) fun _ => rs_next ⟨trivial, (by repeat' (first | exact True.intro | refine And.intro ?_ ?_ | exact Or.inl rfl | exact Or.inr rfl))⟩
  rw [(hk i (i + 1 + t) _ _ _ _ hu hv hu2 hv2).2 (by omega)]
  simp
def R_check : List D → (D → Prop) → Prop := fun ds f => ∃ (S : Spc) (us vs : List (Row S.F S.n)), ∃ (hn : S.n ≤ 6), ∃ (hl : us.length ≤ 1000), ∃ (hc : S.checked us vs), ds = [spcD S, tabD us, tabD vs] ∧ f = fun d => d = .non
abbrev sp_check (K : PySem.W.Frag) : Sp := psp K R_check
theorem f_check {P : Program} {w : World} {K : PySem.W.Frag} {mg : Str → Option Value} {base : Heap} (T : Tx K mg base) : Cal P w K mg base 9 "check" (sp_check K) := by
  refine cal_of (d_check T) (g_check T) (N := ["space", "us", "vs"]) (ps := ["space", "us", "vs"]) (fun _ _ _ _ _ _ us hl => match us, hl with | [_, _, _], _ => rfl) (by decide +kernel) (psp_len (by rintro ds f ⟨_, _, _, _, _, _, rfl, _⟩; rfl)) ?_
  intro cdv A outer sh H vs Q E hr hs
  let NN : List Str := ["space", "us", "vs"]
  have nd : List.Nodup (α := Str) ["space", "us", "vs"] := by decide +kernel
  refine ⟨_, (pss_cons (ps_if (PW.pt (pw_or (pt_not (pt_val (pe_c (f_is_rows T) hr (by decide) (by rfl) (pa_cons (pv 0) (pa_cons (pv 1) pa_nil))))) (pw_or (pt_not (pt_val (pe_c (f_is_rows T) hr (by decide) (by rfl) (pa_cons (pv 0) (pa_cons (pv 2) pa_nil))))) (pw_or1 (pt_cmpR op_ne (pe_callB call_len_seq (by rfl) (b_len T) PySem.boot_len (pa_cons (pv 1) pa_nil)) (pe_callB call_len_seq (by rfl) (b_len T) PySem.boot_len (pa_cons (pv 2) pa_nil)) (by first | exact nomark _ | rfl | with_unfolding_all rfl)))))) (pss_one ps_never) pss_nil)
 (pss_cons (ps_if (PW.pt (pw_or (pt_not (pt_val (pe_c (f_is_free T) hr (by decide) (by rfl) (pa_cons (pv 0) (pa_cons (pv 1) pa_nil))))) (pw_or1 (pt_not (pt_val (pe_c (f_is_free T) hr (by decide) (by rfl) (pa_cons (pv 0) (pa_cons (pv 2) pa_nil)))))))) (pss_one ps_never) pss_nil)
 (pss_one (ps_if (pt_not (pt_val (pe_c (f_is_kept T) hr (by decide) (by rfl) (pa_cons (pv 0) (pa_cons (pv 1) (pa_cons (pv 2) pa_nil)))))) (pss_one ps_never) pss_nil)))), ?_⟩
  clear hr nd NN
  refine body_psp (n := 3) hs rfl ?_
  clear hs
  rintro ds f ⟨S, us, vs, hn, hl, hc, rfl, rfl⟩
  obtain ⟨h1, h2, h3⟩ := hc
  have hl2 : us.length = vs.length := h3.1
  refine rs_guard ((rt_or (rt_not (rt_B (re_call (ra_cons ((rv_var rfl)) (ra_cons ((rv_var rfl)) ra_nil)) ⟨_, _, hn, hl, rfl, rfl⟩))) fun _ => rt_or (rt_not (rt_B (re_call (ra_cons ((rv_var rfl)) (ra_cons ((rv_var rfl)) ra_nil)) ⟨_, _, hn, by omega, rfl, rfl⟩))) fun _ => rt_test (rv_neI (rv_lenT (rv_var rfl) rfl) (rv_lenT (rv_var rfl) rfl))).is ?_) ?_
  · rw [List.length_map, List.length_map, hl2]
    simp
  refine rs_guard ((rt_or (rt_not (rt_B (re_call (ra_cons ((rv_var rfl)) (ra_cons ((rv_var rfl)) ra_nil)) ⟨_, _, hn, hl, rfl, rfl⟩))) fun _ => rt_not (rt_B (re_call (ra_cons ((rv_var rfl)) (ra_cons ((rv_var rfl)) ra_nil)) ⟨_, _, hn, by omega, rfl, rfl⟩))).is ?_) ?_
  · rw [decide_eq_true (show (span us).length = us.length from h1), decide_eq_true (show (span vs).length = vs.length from h2)]
    rfl
  refine rs_if (rt_not (a := true) (rt_B (re_call (ra_cons ((rv_var rfl)) (ra_cons ((rv_var rfl)) (ra_cons ((rv_var rfl)) ra_nil))) ⟨_, _, _, hn, hl, h3, rfl, rfl⟩))) (fun h => nomatch h) fun _ => rs_next rfl
def R_weights_in_radical : List D → (D → Prop) → Prop := fun ds f => ∃ (S : Spc) (k : Nat) (l : List (Row S.F S.n)), ∃ (hn : S.n ≤ 6), ∃ (hlk : l.length = k), ∃ (hk2 : k ≤ 1000), ds = [spcD S, tabD l] ∧ f = fun d => d = tabN (S.wir l k hlk)
abbrev sp_weights_in_radical (K : PySem.W.Frag) : Sp := psp K R_weights_in_radical
theorem f_weights_in_radical {P : Program} {w : World} {K : PySem.W.Frag} {mg : Str → Option Value} {base : Heap} (T : Tx K mg base) : Cal P w K mg base 9 "weights_in_radical" (sp_weights_in_radical K) := by
  refine cal_of (d_weights_in_radical T) (g_weights_in_radical T) (N := ["space", "rows", "radical", "row"]) (ps := ["space", "rows"]) (fun _ _ _ _ _ _ us hl => match us, hl with | [_, _], _ => rfl) (by decide +kernel) (psp_len (by rintro ds f ⟨_, _, _, _, _, _, rfl, _⟩; rfl)) ?_
  intro cdv A outer sh H vs Q E hr hs
  let NN : List Str := ["space", "rows", "radical", "row"]
  have nd : List.Nodup (α := Str) ["space", "rows", "radical", "row"] := by decide +kernel
  refine ⟨_, (pss_cons (ps_set (i := 2) nd rfl (by first | exact Or.inl rfl | exact Or.inr rfl) (pe_mt0 (f_Space_radical T) hr (by decide) (pv 0)))
 (pss_one (ps_ret (pe_c (f_relations T) hr (by decide) (by rfl) (pa_cons (pe_fld (pv 0) rfl) (pa_cons (pe_lc (own := [("row", 3)]) (g := (gName 3)) (tt := tYes) (te := (tCall (sp_rest K) [] E0 (tCons (tFld K (tVar 0) "field") (tCons (tVar 2) (tCons (tVar 3) tNil))))) rfl nd (pi_tup (pv 1)) (blkOk_by (N := NN) (by kernel_rfl)) (fun _ _ _ _ _ => (pg_name (i := 3) nd rfl (by first | exact Or.inl rfl | exact Or.inr rfl))) (fun _ _ _ _ _ => pts_nil) (fun _ _ _ _ _ => (pe_c (f_rest T) hr (by decide) (by rfl) (pa_cons (pe_fld (pv 0) rfl) (pa_cons (pv 2) (pa_cons (pv 3) pa_nil)))))) (pa_cons (pe_fld (pv 0) rfl) pa_nil))))))), ?_⟩
  clear hr nd NN
  refine body_psp (n := 4) hs rfl ?_
  clear hs
  rintro ds f ⟨S, k, l, hn, hlk, hk2, rfl, rfl⟩
  have hr : S.radical.length ≤ S.n := kernel_len _
  refine rs_setq (re_meth0 (rv_var rfl) rfl ⟨_, hn, rfl, rfl⟩) ?_
  rintro d rfl
  refine rs_retV (re_call (ra_cons (sfield T (rv_var rfl)) (ra_cons ((ro_map (l := l) (sx := rowD) (ex := fun v => rowD (rest S.radical v)) (js := [3]) (rj_i (rj_tup (rv_var rfl))) (by omega) (by decide) fun v _ => ⟨_, rg_name, re_call (ra_cons (sfield T (rv_var rfl)) (ra_cons ((rv_var rfl)) (ra_cons ((rv_var rfl)) ra_nil))) ⟨S.F, S.n, S.radical, v, by omega, by omega, led_kernel _, rfl, rfl⟩⟩).v) (ra_cons (sn T (rv_var rfl)) ra_nil))) ⟨S.F, S.n, k, l.map (rest S.radical), by omega, by rw [List.length_map]; exact hlk, hk2, ?_, rfl⟩) rfl
  show [_, D.lst _, _] = [_, D.lst _, _]
  rw [List.map_map]
  rfl
def R_extends : List D → (D → Prop) → Prop := fun ds f => ∃ (S : Spc) (k : Nat) (us vs : List (Row S.F S.n)), ∃ (hn : S.n ≤ 6), ∃ (hu : us.length = k), ∃ (hv : vs.length = k), ∃ (hk2 : k ≤ 1000), ∃ (hc : S.checked us vs), ds = [spcD S, tabD us, tabD vs] ∧ f = fun d => d = .bl (decide (S.wir us k hu = S.wir vs k hv))
abbrev sp_extends (K : PySem.W.Frag) : Sp := psp K R_extends
theorem f_extends {P : Program} {w : World} {K : PySem.W.Frag} {mg : Str → Option Value} {base : Heap} (T : Tx K mg base) : Cal P w K mg base 10 "extends" (sp_extends K) := by
  refine cal_of (d_extends T) (g_extends T) (N := ["space", "us", "vs"]) (ps := ["space", "us", "vs"]) (fun _ _ _ _ _ _ us hl => match us, hl with | [_, _, _], _ => rfl) (by decide +kernel) (psp_len (by rintro ds f ⟨_, _, _, _, _, _, _, _, _, rfl, _⟩; rfl)) ?_
  intro cdv A outer sh H vs Q E hr hs
  let NN : List Str := ["space", "us", "vs"]
  have nd : List.Nodup (α := Str) ["space", "us", "vs"] := by decide +kernel
  refine ⟨_, (pss_cons (ps_expr (pe_c (f_check T) hr (by decide) (by rfl) (pa_cons (pv 0) (pa_cons (pv 1) (pa_cons (pv 2) pa_nil)))))
 (pss_one (ps_ret (pe_cmpR (op_eqD hr.units) (pe_c (f_weights_in_radical T) hr (by decide) (by rfl) (pa_cons (pv 0) (pa_cons (pv 1) pa_nil))) (pe_c (f_weights_in_radical T) hr (by decide) (by rfl) (pa_cons (pv 0) (pa_cons (pv 2) pa_nil))) (by first | exact nomark _ | rfl | with_unfolding_all rfl))))), ?_⟩
  clear hr nd NN
  refine body_psp (n := 3) hs rfl ?_
  clear hs
  rintro ds f ⟨S, k, us, vs, hn, hu, hv, hk2, hc, rfl, rfl⟩
  refine rs_doq (re_call (ra_cons ((rv_var rfl)) (ra_cons ((rv_var rfl)) (ra_cons ((rv_var rfl)) ra_nil))) ⟨_, _, _, hn, by omega, hc, rfl, rfl⟩) ?_
  exact rs_retV (rv_eqT (nrows_tab (re_call (ra_cons ((rv_var rfl)) (ra_cons ((rv_var rfl)) ra_nil)) ⟨_, _, _, hn, hu, hk2, rfl, rfl⟩)) (nrows_tab (re_call (ra_cons ((rv_var rfl)) (ra_cons ((rv_var rfl)) ra_nil)) ⟨_, _, _, hn, hv, hk2, rfl, rfl⟩))) rfl
def R_difference : List D → (D → Prop) → Prop := fun ds f => ∃ (S : Spc) (v w : Row S.F S.n), ∃ (hn : S.n ≤ 6), ds = [spcD S, rowD v, rowD w] ∧ f = fun d => d = nrwD (rsub v w)
abbrev sp_difference (K : PySem.W.Frag) : Sp := psp K R_difference
theorem f_difference {P : Program} {w : World} {K : PySem.W.Frag} {mg : Str → Option Value} {base : Heap} (T : Tx K mg base) : Cal P w K mg base 4 "difference" (sp_difference K) := by
  refine cal_of (d_difference T) (g_difference T) (N := ["space", "v", "w"]) (ps := ["space", "v", "w"]) (fun _ _ _ _ _ _ us hl => match us, hl with | [_, _, _], _ => rfl) (by decide +kernel) (psp_len (by rintro ds f ⟨_, _, _, _, rfl, _⟩; rfl)) ?_
  intro cdv A outer sh H vs Q E hr hs
  let NN : List Str := ["space", "v", "w"]
  have nd : List.Nodup (α := Str) ["space", "v", "w"] := by decide +kernel
  refine ⟨_, (pss_one (ps_ret (pe_c (f_add T) hr (by decide) (by rfl) (pa_cons (pe_fld (pv 0) rfl) (pa_cons (pv 1) (pa_cons (pe_c (f_scaled T) hr (by decide) (by rfl) (pa_cons (pe_fld (pv 0) rfl) (pa_cons (pv 2) (pa_cons (pe_mt (f_Field_negative T) hr (by decide) (pe_fld (pv 0) rfl) (pa_cons pe_int pa_nil)) pa_nil)))) pa_nil)))))), ?_⟩
  clear hr nd NN
  refine body_psp (n := 3) hs rfl ?_
  clear hs
  rintro ds f ⟨S, v, w, hn, rfl, rfl⟩
  exact rs_retV (re_call (ra_cons (sfield T (rv_var rfl)) (ra_cons ((rv_var rfl)) (ra_cons (nrow_row (re_call (ra_cons (sfield T (rv_var rfl)) (ra_cons ((rv_var rfl)) (ra_cons (re_meth (sfield T (rv_var rfl)) rfl (ra_cons (rv_int) ra_nil) ⟨S.F, 1, rfl, rfl⟩) ra_nil))) ⟨_, _, _, _, by omega, rfl, rfl⟩)) ra_nil))) ⟨_, _, _, _, by omega, rfl, rfl⟩) rfl
def R_of_images : List D → (D → Prop) → Prop := fun ds f => ∃ (S : Spc) (rows images m : List (Row S.F S.n)), ∃ (hn : S.n ≤ 6), ∃ (hm : ofImages rows images = some m), ds = [spcD S, tabD rows, tabD images] ∧ f = fun d => d = tabD m
abbrev sp_of_images (K : PySem.W.Frag) : Sp := psp K R_of_images
theorem f_of_images {P : Program} {w : World} {K : PySem.W.Frag} {mg : Str → Option Value} {base : Heap} (T : Tx K mg base) : Cal P w K mg base 7 "of_images" (sp_of_images K) := by
  refine cal_of (d_of_images T) (g_of_images T) (N := ["space", "rows", "images"]) (ps := ["space", "rows", "images"]) (fun _ _ _ _ _ _ us hl => match us, hl with | [_, _, _], _ => rfl) (by decide +kernel) (psp_len (by rintro ds f ⟨_, _, _, _, _, _, rfl, _⟩; rfl)) ?_
  intro cdv A outer sh H vs Q E hr hs
  let NN : List Str := ["space", "rows", "images"]
  have nd : List.Nodup (α := Str) ["space", "rows", "images"] := by decide +kernel
  refine ⟨_, (pss_one (ps_ret (pe_c (f_times T) hr (by decide) (by rfl) (pa_cons (pe_fld (pv 0) rfl) (pa_cons (pe_c (f_matrix_inverse T) hr (by decide) (by rfl) (pa_cons (pe_fld (pv 0) rfl) (pa_cons (pv 1) pa_nil))) (pa_cons (pv 2) (pa_cons (pe_fld (pv 0) rfl) pa_nil))))))), ?_⟩
  clear hr nd NN
  refine body_psp (n := 3) hs rfl ?_
  clear hs
  rintro ds f ⟨S, rows, images, m, hn, hm, rfl, rfl⟩
  unfold ofImages at hm
  cases hi : minv rows with
  | none => rw [hi] at hm; cases hm
  | some inv =>
    rw [hi] at hm
    cases hm
    have hl : inv.length ≤ 1000 := by
      unfold minv at hi
      split at hi
      · split at hi
        · cases hi
          rw [List.length_map]
          have := (red_tab_len (wide rows (by assumption))).1
          omega
        · cases hi
      · cases hi
    exact rs_retV (re_call (ra_cons (sfield T (rv_var rfl)) (ra_cons (re_call (ra_cons (sfield T (rv_var rfl)) (ra_cons ((rv_var rfl)) ra_nil)) ⟨_, _, _, _, by omega, hi, rfl, rfl⟩) (ra_cons ((rv_var rfl)) (ra_cons (sn T (rv_var rfl)) ra_nil)))) ⟨S.F, S.n, S.n, true, inv, images, by omega, hl, rfl, rfl⟩) rfl
def R_shifted : List D → (D → Prop) → Prop := fun ds f => ∃ (S : Spc) (b : Bool) (g d0 : Row S.F S.n), ∃ (hn : S.n ≤ 6), ds = [spcD S, seqD b ((rowI g).map D.int), rowD d0] ∧ f = fun d => d = tabD (shift g d0)
abbrev sp_shifted (K : PySem.W.Frag) : Sp := psp K R_shifted
theorem f_shifted {P : Program} {w : World} {K : PySem.W.Frag} {mg : Str → Option Value} {base : Heap} (T : Tx K mg base) : Cal P w K mg base 4 "shifted" (sp_shifted K) := by
  refine cal_of (d_shifted T) (g_shifted T) (N := ["space", "f", "d", "i"]) (ps := ["space", "f", "d"]) (fun _ _ _ _ _ _ us hl => match us, hl with | [_, _, _], _ => rfl) (by decide +kernel) (psp_len (by rintro ds f ⟨_, _, _, _, _, rfl, _⟩; rfl)) ?_
  intro cdv A outer sh H vs Q E hr hs
  let NN : List Str := ["space", "f", "d", "i"]
  have nd : List.Nodup (α := Str) ["space", "f", "d", "i"] := by decide +kernel
  refine ⟨_, (pss_one (ps_ret (pe_callTy call_tuple_of (by rfl) (b_tuple T) (by rfl) (pa_cons (pe_lc (own := [("i", 3)]) (g := (gName 3)) (tt := tYes) (te := (tCall (sp_add K) [] E0 (tCons (tFld K (tVar 0) "field") (tCons (tMeth (He.ga K "Space") "unit" (sp_Space_unit K) [] E0 (tVar 0) (tCons (tVar 3) tNil)) (tCons (tCall (sp_scaled K) [] E0 (tCons (tFld K (tVar 0) "field") (tCons (tVar 2) (tCons (orE (tOp (rIxL K) (tVar 1) (tVar 3)) (tOp (rIxT K) (tVar 1) (tVar 3))) tNil)))) tNil))))) rfl nd (pi_range1 (by rfl) (b_range T) (pa_cons (pe_fld (pv 0) rfl) pa_nil)) (blkOk_by (N := NN) (by kernel_rfl)) (fun _ _ _ _ _ => (pg_name (i := 3) nd rfl (by first | exact Or.inl rfl | exact Or.inr rfl))) (fun _ _ _ _ _ => pts_nil) (fun _ _ _ _ _ => (pe_c (f_add T) hr (by decide) (by rfl) (pa_cons (pe_fld (pv 0) rfl) (pa_cons (pe_mt (f_Space_unit T) hr (by decide) (pv 0) (pa_cons (pv 3) pa_nil)) (pa_cons (pe_c (f_scaled T) hr (by decide) (by rfl) (pa_cons (pe_fld (pv 0) rfl) (pa_cons (pv 2) (pa_cons (pe_or2 (pe_ix ix_list (pv 1) (pv 3) (fun _ _ => rfl)) (pe_ix ix_tup (pv 1) (pv 3) (fun _ _ => rfl))) pa_nil)))) pa_nil)))))) pa_nil)))), ?_⟩
  clear hr nd NN
  refine body_psp (n := 4) hs rfl ?_
  clear hs
  rintro ds f ⟨S, b, g, d0, hn, rfl, rfl⟩
  exact rs_retV (rv_tabT (l := shift g d0) (RunO.is2 (ro_map (l := List.finRange S.n) (sx := fun i => nD i.val) (ex := fun i => rowD (radd (runit i) (rscl d0 (g i)))) (js := [3]) (rj_i (rj_rng (sn T (rv_var rfl)) rfl (by omega))) (by rw [List.length_finRange]; omega) (by decide) fun i _ => ⟨_, rg_name, nrow_row (re_call (ra_cons (sfield T (rv_var rfl)) (ra_cons (re_meth (rv_var rfl) rfl (ra_cons ((rv_var rfl)) ra_nil) ⟨_, _, hn, rfl, rfl⟩) (ra_cons (nrow_row (re_call (ra_cons (sfield T (rv_var rfl)) (ra_cons ((rv_var rfl)) (ra_cons (rv_ixQ (rv_var rfl) (rv_var rfl) rfl (row_at g i)) ra_nil))) ⟨_, _, _, _, by omega, rfl, rfl⟩)) ra_nil))) ⟨_, _, _, _, by omega, rfl, rfl⟩)⟩) (by unfold shift; rw [List.map_map]; rfl))) rfl
def R_beyond : List D → (D → Prop) → Prop := fun ds f => ∃ (S : Spc) (images m : List (Row S.F S.n)) (d0 : Row S.F S.n), ∃ (hn : S.n ≤ 6), ∃ (hm : S.beyond images d0 = some m), ds = [spcD S, tabD images, rowD d0] ∧ f = fun d => d = tabD m
abbrev sp_beyond (K : PySem.W.Frag) : Sp := psp K R_beyond
theorem f_beyond {P : Program} {w : World} {K : PySem.W.Frag} {mg : Str → Option Value} {base : Heap} (T : Tx K mg base) : Cal P w K mg base 9 "beyond" (sp_beyond K) := by
  refine cal_of (d_beyond T) (g_beyond T) (N := ["space", "images", "d", "field", "own", "moved", "z", "i", "lines", "row", "y", "k", "found"]) (ps := ["space", "images", "d"]) (fun _ _ _ _ _ _ us hl => match us, hl with | [_, _, _], _ => rfl) (by decide +kernel) (psp_len (by rintro ds f ⟨_, _, _, _, _, _, rfl, _⟩; rfl)) ?_
  intro cdv A outer sh H vs Q E hr hs
  let NN : List Str := ["space", "images", "d", "field", "own", "moved", "z", "i", "lines", "row", "y", "k", "found"]
  have nd : List.Nodup (α := Str) ["space", "images", "d", "field", "own", "moved", "z", "i", "lines", "row", "y", "k", "found"] := by decide +kernel
  refine ⟨_, (pss_cons (ps_set (i := 3) nd rfl (by first | exact Or.inl rfl | exact Or.inr rfl) (pe_fld (pv 0) rfl))
 (pss_cons (ps_set (i := 4) nd rfl (by first | exact Or.inl rfl | exact Or.inr rfl) (pe_mt (f_Space_perp T) hr (by decide) (pv 0) (pa_cons (pe_lst (pa_cons (pv 2) pa_nil)) pa_nil)))
 (pss_cons (ps_set (i := 5) nd rfl (by first | exact Or.inl rfl | exact Or.inr rfl) (pe_c (f_times T) hr (by decide) (by rfl) (pa_cons (pv 3) (pa_cons (pv 4) (pa_cons (pv 1) (pa_cons (pe_fld (pv 0) rfl) pa_nil))))))
 (pss_cons (ps_set (i := 6) nd rfl (by first | exact Or.inl rfl | exact Or.inr rfl) (pe_ix ix_list (pe_lc (own := [("i", 7)]) (g := (gName 7)) (tt := (tTest (tOp rNe (tMeth (He.ga K "Space") "product" (sp_Space_product K) [] E0 (tVar 0) (tCons (tMeth (He.ga K "Space") "unit" (sp_Space_unit K) [] E0 (tVar 0) (tCons (tVar 7) tNil)) (tCons (tVar 2) tNil))) (tC (.int 0))))) (te := (tMeth (He.ga K "Space") "unit" (sp_Space_unit K) [] E0 (tVar 0) (tCons (tVar 7) tNil))) rfl nd (pi_range1 (by rfl) (b_range T) (pa_cons (pe_fld (pv 0) rfl) pa_nil)) (blkOk_by (N := NN) (by kernel_rfl)) (fun _ _ _ _ _ => (pg_name (i := 7) nd rfl (by first | exact Or.inl rfl | exact Or.inr rfl))) (fun _ _ _ _ _ => (pts_one (pt_cmpR op_ne (pe_mt (f_Space_product T) hr (by decide) (pv 0) (pa_cons (pe_mt (f_Space_unit T) hr (by decide) (pv 0) (pa_cons (pv 7) pa_nil)) (pa_cons (pv 2) pa_nil))) pe_int (by first | exact nomark _ | rfl | with_unfolding_all rfl)))) (fun _ _ _ _ _ => (pe_mt (f_Space_unit T) hr (by decide) (pv 0) (pa_cons (pv 7) pa_nil)))) pe_int (fun _ _ => rfl)))
 (pss_cons (ps_setLc (i := 8) (own := [("row", 9)]) (g := (gName 9)) (tt := tYes) (te := (tCB (rTupS K) (tCons (tLc (iRng1 (tCons (tFld K (tVar 0) "n") tNil)) (gName 7) tYes (tMeth (He.ga K "Space") "product" (sp_Space_product K) [] E0 (tVar 0) (tCons (tMeth (He.ga K "Space") "unit" (sp_Space_unit K) [] E0 (tVar 0) (tCons (tVar 7) tNil)) (tCons (tVar 9) tNil))) [7]) tNil))) rfl nd rfl rfl (sw_true rfl rfl rfl (by decide +kernel)) (pi_tup (pv 5)) (blkOk_by (N := NN) (by kernel_rfl)) (fun _ _ _ _ _ => (pg_name (i := 9) nd rfl (by first | exact Or.inl rfl | exact Or.inr rfl))) (fun _ _ _ _ _ => pts_nil) (fun _ _ _ _ _ => (pe_callTy call_tuple_of (by rfl) (b_tuple T) (by rfl) (pa_cons (pe_lc (own := [("i", 7)]) (g := (gName 7)) (tt := tYes) (te := (tMeth (He.ga K "Space") "product" (sp_Space_product K) [] E0 (tVar 0) (tCons (tMeth (He.ga K "Space") "unit" (sp_Space_unit K) [] E0 (tVar 0) (tCons (tVar 7) tNil)) (tCons (tVar 9) tNil)))) rfl nd (pi_range1 (by rfl) (b_range T) (pa_cons (pe_fld (pv 0) rfl) pa_nil)) (blkOk_by (N := NN) (by kernel_rfl)) (fun _ _ _ _ _ => (pg_name (i := 7) nd rfl (by first | exact Or.inl rfl | exact Or.inr rfl))) (fun _ _ _ _ _ => pts_nil) (fun _ _ _ _ _ => (pe_mt (f_Space_product T) hr (by decide) (pv 0) (pa_cons (pe_mt (f_Space_unit T) hr (by decide) (pv 0) (pa_cons (pv 7) pa_nil)) (pa_cons (pv 9) pa_nil))))) pa_nil))))
 (pss_cons (ps_set (i := 10) nd rfl (by first | exact Or.inl rfl | exact Or.inr rfl) (pe_c (f_solve T) hr (by decide) (by rfl) (pa_cons (pv 3) (pa_cons (pv 8) (pa_cons (pe_fld (pv 0) rfl) (pa_cons (pe_lc (own := [("row", 9)]) (g := (gName 9)) (tt := tYes) (te := (tMeth (He.ga K "Space") "product" (sp_Space_product K) [] E0 (tVar 0) (tCons (tVar 6) (tCons (tVar 9) tNil)))) rfl nd (pi_tup (pv 4)) (blkOk_by (N := NN) (by kernel_rfl)) (fun _ _ _ _ _ => (pg_name (i := 9) nd rfl (by first | exact Or.inl rfl | exact Or.inr rfl))) (fun _ _ _ _ _ => pts_nil) (fun _ _ _ _ _ => (pe_mt (f_Space_product T) hr (by decide) (pv 0) (pa_cons (pv 6) (pa_cons (pv 9) pa_nil))))) pa_nil))))))
 (pss_cons (ps_for PassesOwn.never rfl (pi_tup (pe_mt0 (f_Field_numbers T) hr (by decide) (pv 3))) (pg_name (i := 11) nd rfl (by first | exact Or.inl rfl | exact Or.inr rfl)) (pss_cons (ps_set (i := 12) nd rfl (by first | exact Or.inl rfl | exact Or.inr rfl) (pe_c (f_add T) hr (by decide) (by rfl) (pa_cons (pv 3) (pa_cons (pv 10) (pa_cons (pe_c (f_scaled T) hr (by decide) (by rfl) (pa_cons (pv 3) (pa_cons (pv 2) (pa_cons (pv 11) pa_nil)))) pa_nil)))))
 (pss_one (ps_if (pt_cmpR op_eq (pe_mt (f_Space_value T) hr (by decide) (pv 0) (pa_cons (pv 12) pa_nil)) (pe_mt (f_Space_value T) hr (by decide) (pv 0) (pa_cons (pv 6) pa_nil)) (by first | exact nomark _ | rfl | with_unfolding_all rfl)) (pss_one (ps_ret (pe_c (f_of_images T) hr (by decide) (by rfl) (pa_cons (pv 0) (pa_cons (pe_op op_catA (pv 4) (pe_tup (pa_cons (pv 6) pa_nil))) (pa_cons (pe_op op_catA (pv 5) (pe_tup (pa_cons (pv 12) pa_nil))) pa_nil)))))) pss_nil))))
 (pss_one (ps_ret (pe_tup pa_nil)))))))))), ?_⟩
  clear hr nd NN
  refine body_psp (n := 13) hs rfl ?_
  clear hs
  rintro ds f ⟨S, images, m, d0, hn, hm, rfl, rfl⟩
  have hp : (S.perp [d0]).length ≤ S.n := kernel_len _
  unfold Spc.beyond at hm
  cases hi : (List.finRange S.n).find? fun i => !decide (S.prod (runit i) d0 = 0) with
  | none => rw [hi] at hm; cases hm
  | some i =>
  rw [hi] at hm
  cases hs : solve ((times (S.perp [d0]) images).map S.funs) ((S.perp [d0]).map fun row => S.prod (runit i) row) with
  | none => simp only [hs] at hm; cases hm
  | some y =>
  simp only [hs] at hm
  cases hk : (els S.F).find? fun k => decide (S.value (radd y (rscl d0 k)) = S.value (runit i)) with
  | none => rw [hk] at hm; cases hm
  | some k =>
  rw [hk] at hm
  have hm : ofImages (S.perp [d0] ++ [runit i]) (times (S.perp [d0]) images ++ [radd y (rscl d0 k)]) = some m := hm
  have hfil : ((List.finRange S.n).filter fun i => !decide (S.prod (runit i) d0 = 0))[0]? = some i := by
    rw [← List.head?_eq_getElem?, ← find_head]
    exact hi
  have hml : (times (S.perp [d0]) images).length = (S.perp [d0]).length := by unfold times; rw [List.length_map]
  refine rs_setV (sfield T (rv_var rfl)) ?_
  refine rs_setV (nrows_tab (re_meth (rv_var rfl) rfl (ra_cons ((rov_lst (ra_cons ((rv_var rfl)) ra_nil)).v) ra_nil) ⟨S, [d0], hn, by simp, rfl, rfl⟩)) ?_
  refine rs_setV (re_call (ra_cons ((rv_var rfl)) (ra_cons ((rv_var rfl)) (ra_cons ((rv_var rfl)) (ra_cons (sn T (rv_var rfl)) ra_nil)))) ⟨S.F, S.n, S.n, true, S.perp [d0], images, by omega, by omega, rfl, rfl⟩) ?_
  refine rs_setV (d := rowD (runit i : Row S.F S.n)) (rv_ixL (k := 0) (RunO.l (ro_lc (l := List.finRange S.n) (sx := fun i => nD i.val) (ex := fun i => rowD (runit i : Row S.F S.n)) (p := fun i => !decide (S.prod (runit i) d0 = 0)) (js := [7]) (rj_i (rj_rng (sn T (rv_var rfl)) rfl (by omega))) (by rw [List.length_finRange]; omega) (by decide) fun i _ => ⟨_, rg_name, rt_test (rv_neE (re_meth (rv_var rfl) rfl (ra_cons (re_meth (rv_var rfl) rfl (ra_cons ((rv_var rfl)) ra_nil) ⟨S, i, hn, rfl, rfl⟩) (ra_cons ((rv_var rfl)) ra_nil)) ⟨_, _, _, hn, rfl, rfl⟩) rv_e0), fun _ => re_meth (rv_var rfl) rfl (ra_cons ((rv_var rfl)) ra_nil) ⟨S, i, hn, rfl, rfl⟩⟩)) rv_int rfl (by rw [List.getElem?_map, hfil]; rfl)) ?_
  refine rs_setV (d := lstD ((times (S.perp [d0]) images).map S.funs)) ((ro_map (l := times (S.perp [d0]) images) (sx := rowD) (ex := fun v => rowD (S.funs v)) (js := [9]) (rj_i (rj_tup (rv_var rfl))) (by omega) (by decide) fun v _ => ⟨_, rg_name, rv_rowT (f := S.funs v) (ro_map (l := List.finRange S.n) (sx := fun i => nD i.val) (ex := fun i => elD (S.funs v i)) (js := [7]) (rj_i (rj_rng (sn T (rv_var rfl)) rfl (by omega))) (by rw [List.length_finRange]; omega) (by decide) fun i _ => ⟨_, rg_name, re_meth (rv_var rfl) rfl (ra_cons (re_meth (rv_var rfl) rfl (ra_cons ((rv_var rfl)) ra_nil) ⟨S, i, hn, rfl, rfl⟩) (ra_cons ((rv_var rfl)) ra_nil)) ⟨_, _, _, hn, rfl, rfl⟩⟩)⟩).v.is (show _ = D.lst (List.map rowD _) by rw [List.map_map]; rfl)) ?_
  refine rs_setq (re_call (ra_cons ((rv_var rfl)) (ra_cons ((rv_var rfl)) (ra_cons (sn T (rv_var rfl)) (ra_cons ((ro_map (l := S.perp [d0]) (sx := rowD) (ex := fun v => elD (S.prod (runit i) v)) (js := [9]) (rj_i (rj_tup (rv_var rfl))) (by omega) (by decide) fun v _ => ⟨_, rg_name, re_meth (rv_var rfl) rfl (ra_cons ((rv_var rfl)) (ra_cons ((rv_var rfl)) ra_nil)) ⟨_, _, _, hn, rfl, rfl⟩⟩).v) ra_nil)))) ⟨S.F, S.n, (times (S.perp [d0]) images).map S.funs, (S.perp [d0]).map fun row => S.prod (runit i) row, by omega, by rw [List.length_map]; omega, ?_, rfl⟩) ?_
  · show [_, _, _, D.lst _] = [_, _, _, D.lst _]
    rw [List.map_map]
    rfl
  rintro d rfl
  rw [hs]
  obtain ⟨h1, as, bs, h2, h3⟩ := List.find?_eq_some_iff_append.mp hk
  refine rs_forF (l := els S.F) (sx := elD) (js := [11]) (fun (u : Unit) _ => u) (fun a => ¬ S.value (radd y (rscl d0 a)) = S.value (runit i)) (fun _ => [.im (spcD S), .im (tabD images), .im (rowD d0), .im (fldD S.F), .im (tabD (S.perp [d0])), .im (tabD (times (S.perp [d0]) images)), .im (rowD (runit i : Row S.F S.n)), .un, .un, .un, .im (rowD y), .un, .un]) () (rj_tup (re_meth0 (rv_var rfl) rfl ⟨_, rfl, rfl⟩)) (by repeat' (first | exact True.intro | refine And.intro ?_ ?_ | exact Or.inl rfl | exact Or.inr rfl)) (fun pre a post hpre hall => ⟨_, rg_name, (fun _ h => h), ?_⟩) fun hall => ?_
  · refine rs_setV (nrow_row (re_call (ra_cons ((rv_var rfl)) (ra_cons ((rv_var rfl)) (ra_cons (nrow_row (re_call (ra_cons ((rv_var rfl)) (ra_cons ((rv_var rfl)) (ra_cons ((rv_var rfl)) ra_nil))) ⟨_, _, _, _, by omega, rfl, rfl⟩)) ra_nil))) ⟨_, _, _, _, by omega, rfl, rfl⟩)) ?_
    refine rs_if (rt_test (rv_eqE (re_meth (rv_var rfl) rfl (ra_cons ((rv_var rfl)) ra_nil) ⟨_, _, hn, rfl, rfl⟩) (re_meth (rv_var rfl) rfl (ra_cons ((rv_var rfl)) ra_nil) ⟨_, _, hn, rfl, rfl⟩))) (fun h => ?_) fun h => rs_next ⟨of_decide_eq_false h, (by repeat' (first | exact True.intro | refine And.intro ?_ ?_ | exact Or.inl rfl | exact Or.inr rfl))⟩
    have h := of_decide_eq_true h
    have hak : a = k := by
      have e : (els S.F).find? (fun k => decide (S.value (radd y (rscl d0 k)) = S.value (runit i))) = some a := by
        rw [List.find?_eq_some_iff_append]
        refine ⟨by simpa using h, pre, post, hpre, fun b hb => ?_⟩
        simpa using hall b hb
      rw [hk] at e
      exact (Option.some.inj e).symm
    subst hak
    refine rs_retV (re_call (ra_cons ((rv_var rfl)) (ra_cons ((rv_catT (rv_var rfl) (rv_tup (ra_cons ((rv_var rfl)) ra_nil)) (by rw [List.length_map]; simp; omega)).is ?_) (ra_cons ((rv_catT (rv_var rfl) (rv_tup (ra_cons ((rv_var rfl)) ra_nil)) (by rw [List.length_map]; simp; omega)).is ?_) ra_nil))) ⟨S, _, _, m, hn, hm, rfl, rfl⟩) rfl
    · show _ = D.tup (List.map rowD _)
      rw [List.map_append]
      rfl
    · show _ = D.tup (List.map rowD _)
      rw [List.map_append]
      rfl
  · exact absurd (by simpa using h1) (hall k (els_mem k))
end Wk
/-! # WkW7 -/
set_option Elab.async false
set_option linter.all false
set_option maxRecDepth 100000
set_option maxHeartbeats 4000000
namespace Wk
open PySem PySem.Spec PyProof.Rows L2
def isoD (S : Spc) (m : List (Row S.F S.n)) : D := .ins "Isometry" [("space", spcD S), ("matrix", tabD m)]
def optI (S : Spc) : Option (List (Row S.F S.n)) → D
  | none => .non
  | some m => isoD S m
theorem goneStep_len {F : Fd} {n : Nat} (rows : List (Row F n)) : ∀ (pre found : List (Row F n)), (pre.foldl (goneStep rows) found).length ≤ found.length + pre.length
  | [], found => by simp
  | x :: pre, found => by
    rw [List.foldl_cons, List.length_cons]
    refine Nat.le_trans (goneStep_len rows pre _) ?_
    unfold goneStep
    split <;> simp <;> omega
theorem goneOn_len {F : Fd} {n : Nat} (rows more : List (Row F n)) : (goneOn rows more).length ≤ more.length := by
  have := goneStep_len rows more []
  simpa [goneOn] using this
theorem pre_len {A : Type} {l pre post : List A} {a : A} (h : l = pre ++ a :: post) : pre.length < l.length := by
  rw [h, List.length_append, List.length_cons]; omega
theorem sing_len (S : Spc) : S.singRadical.length ≤ S.n := by
  unfold Spc.singRadical
  split
  · exact kernel_len _
  · exact span_len _
theorem compl_len {F : Fd} {n : Nat} (sp : List (Row F n)) : (complRows sp).length ≤ n := by
  unfold complRows
  rw [List.length_map]
  refine Nat.le_trans (List.length_filter_le _ _) ?_
  rw [List.length_finRange]
  exact Nat.le_refl _
theorem led_sing (S : Spc) : Led S.singRadical := by
  unfold Spc.singRadical
  split
  · exact led_kernel _
  · exact led_span _

def R_gone_on : List D → (D → Prop) → Prop := fun ds f => ∃ (S : Spc) (b : Bool) (rows more : List (Row S.F S.n)), ∃ (hn : S.n ≤ 6), ∃ (h1 : rows.length ≤ 400), ∃ (h2 : more.length ≤ 400), ds = [spcD S, seqD b (rows.map rowD), tabN more] ∧ f = fun d => d = lstD (goneOn rows more)
abbrev sp_gone_on (K : PySem.W.Frag) : Sp := psp K R_gone_on
theorem f_gone_on {P : Program} {w : World} {K : PySem.W.Frag} {mg : Str → Option Value} {base : Heap} (T : Tx K mg base) : Cal P w K mg base 7 "gone_on" (sp_gone_on K) := by
  refine cal_of (d_gone_on T) (g_gone_on T) (N := ["space", "rows", "more", "found", "row"]) (ps := ["space", "rows", "more"]) (fun _ _ _ _ _ _ us hl => match us, hl with | [_, _, _], _ => rfl) (by decide +kernel) (psp_len (by rintro ds f ⟨_, _, _, _, _, _, _, rfl, _⟩; rfl)) ?_
  intro cdv A outer sh H vs Q E hr hs
  let NN : List Str := ["space", "rows", "more", "found", "row"]
  have nd : List.Nodup (α := Str) ["space", "rows", "more", "found", "row"] := by decide +kernel
  refine ⟨_, (pss_cons (ps_set (i := 3) nd rfl (by first | exact Or.inl rfl | exact Or.inr rfl) (pe_lst pa_nil))
 (pss_cons (ps_for PassesOwn.never rfl (pi_tup (pv 2)) (pg_name (i := 4) nd rfl (by first | exact Or.inl rfl | exact Or.inr rfl)) (pss_one (ps_if (pt_not (pt_val (pe_c (f_holds T) hr (by decide) (by rfl) (pa_cons (pe_fld (pv 0) rfl) (pa_cons (pe_c (f_span T) hr (by decide) (by rfl) (pa_cons (pe_fld (pv 0) rfl) (pa_cons (pe_op op_cat (pe_callTy call_list_of (by rfl) (b_list T) (by rfl) (pa_cons (pv 1) pa_nil)) (pv 3)) (pa_cons (pe_fld (pv 0) rfl) pa_nil)))) (pa_cons (pv 4) pa_nil)))))) (pss_one (ps_expr (pe_bm PySem.F.plainAttrs_list PySem.F.slot_list_append PySem.F.type_list_append mt_append (pv 3) (pa_cons (pv 4) pa_nil)))) pss_nil)))
 (pss_one (ps_ret (pv 3))))), ?_⟩
  clear hr nd NN
  refine body_psp (n := 5) hs rfl ?_
  clear hs
  rintro ds f ⟨S, b, rows, more, hn, h1, h2, rfl, rfl⟩
  refine rs_ownV (rov_lst ra_nil) fun p => ?_
  refine rs_forF (l := more) (sx := nrwD) (js := [4]) (goneStep rows) (fun _ => True) (fun s => [.im (spcD S), .im (seqD b (rows.map rowD)), .im (tabN more), .ow p (s.map rowD), .un]) [] (rj_tup (rv_var rfl)) (by repeat' (first | exact True.intro | refine And.intro ?_ ?_ | exact Or.inl rfl | exact Or.inr rfl)) (fun pre v post hpre _ => ?_) fun _ => rs_retOwnV (i := 3) rfl rfl
  have hs := goneStep_len rows pre []
  have hp := pre_len hpre
  generalize pre.foldl (goneStep rows) [] = s at hs ⊢
  have hs : s.length ≤ pre.length := by simpa using hs
  refine ⟨_, rg_name, (fun _ h => h), ?_⟩
  refine rs_if (rt_not (rt_B (re_call (ra_cons (sfield T (rv_var rfl)) (ra_cons (re_call (ra_cons (sfield T (rv_var rfl)) (ra_cons ((ro_cat (ro_m (ro_lstQ (rv_var rfl))) (rm_own rfl) (by rw [List.length_map, List.length_map]; omega)).v) (ra_cons (sn T (rv_var rfl)) ra_nil))) ⟨S.F, S.n, false, rows ++ s, by omega, by rw [List.length_append]; omega, ?_, rfl⟩) (ra_cons (nrow_row (rv_var rfl)) ra_nil))) ⟨S.F, S.n, span (rows ++ s), v, by omega, by have := span_len (rows ++ s); omega, led_span _, rfl, rfl⟩))) (fun h => ?_) fun h => ?_
  · show [_, D.lst _, _] = [_, D.lst _, _]
    rw [List.map_append]
  · refine rs_app rfl (by rw [List.length_map]; omega) (nrow_row (rv_var rfl)) ?_
    rintro d rfl
    refine ⟨trivial, ?_⟩
    have h : holds (span (rows ++ s)) v = false := by simpa using h
    unfold goneStep
    rw [h, if_neg Bool.false_ne_true, List.map_append]
    exact (by repeat' (first | exact True.intro | refine And.intro ?_ ?_ | exact Or.inl rfl | exact Or.inr rfl))
  · refine rs_next ⟨trivial, ?_⟩
    have h : holds (span (rows ++ s)) v = true := by simpa using h
    unfold goneStep
    rw [h, if_pos rfl]
    exact (by repeat' (first | exact True.intro | refine And.intro ?_ ?_ | exact Or.inl rfl | exact Or.inr rfl))
def R_in_radical : List D → (D → Prop) → Prop := fun ds f => ∃ (S : Spc) (us vs stay m : List (Row S.F S.n)), ∃ (hn : S.n ≤ 6), ∃ (h1 : us.length ≤ 100), ∃ (h2 : vs.length ≤ 100), ∃ (h3 : stay.length ≤ 100), ∃ (hm : S.inRadical us vs stay = some m), ds = [spcD S, tabD us, lstD vs, lstD stay] ∧ f = fun d => d = tabD m
abbrev sp_in_radical (K : PySem.W.Frag) : Sp := psp K R_in_radical
theorem f_in_radical {P : Program} {w : World} {K : PySem.W.Frag} {mg : Str → Option Value} {base : Heap} (T : Tx K mg base) : Cal P w K mg base 10 "in_radical" (sp_in_radical K) := by
  refine cal_of (d_in_radical T) (g_in_radical T) (N := ["space", "us", "vs", "stay", "singular", "one", "two", "last", "own", "left"]) (ps := ["space", "us", "vs", "stay"]) (fun _ _ _ _ _ _ us hl => match us, hl with | [_, _, _, _], _ => rfl) (by decide +kernel) (psp_len (by rintro ds f ⟨_, _, _, _, _, _, _, _, _, _, rfl, _⟩; rfl)) ?_
  intro cdv A outer sh H vs Q E hr hs
  let NN : List Str := ["space", "us", "vs", "stay", "singular", "one", "two", "last", "own", "left"]
  have nd : List.Nodup (α := Str) ["space", "us", "vs", "stay", "singular", "one", "two", "last", "own", "left"] := by decide +kernel
  refine ⟨_, (pss_cons (ps_set (i := 4) nd rfl (by first | exact Or.inl rfl | exact Or.inr rfl) (pe_mt0 (f_Space_singular_radical T) hr (by decide) (pv 0)))
 (pss_cons (ps_set (i := 5) nd rfl (by first | exact Or.inl rfl | exact Or.inr rfl) (pe_op op_cat (pe_callTy call_list_of (by rfl) (b_list T) (by rfl) (pa_cons (pv 1) pa_nil)) (pe_c (f_gone_on T) hr (by decide) (by rfl) (pa_cons (pv 0) (pa_cons (pv 1) (pa_cons (pv 4) pa_nil))))))
 (pss_cons (ps_set (i := 6) nd rfl (by first | exact Or.inl rfl | exact Or.inr rfl) (pe_op op_cat (pe_callTy call_list_of (by rfl) (b_list T) (by rfl) (pa_cons (pv 2) pa_nil)) (pe_c (f_gone_on T) hr (by decide) (by rfl) (pa_cons (pv 0) (pa_cons (pv 2) (pa_cons (pv 4) pa_nil))))))
 (pss_cons (ps_set (i := 7) nd rfl (by first | exact Or.inl rfl | exact Or.inr rfl) (pe_c (f_gone_on T) hr (by decide) (by rfl) (pa_cons (pv 0) (pa_cons (pv 5) (pa_cons (pe_mt0 (f_Space_radical T) hr (by decide) (pv 0)) pa_nil)))))
 (pss_cons (ps_set (i := 8) nd rfl (by first | exact Or.inl rfl | exact Or.inr rfl) (pe_op op_cat (pe_op op_cat (pv 5) (pv 7)) (pe_callTy call_list_of (by rfl) (b_list T) (by rfl) (pa_cons (pv 3) pa_nil))))
 (pss_cons (ps_set (i := 9) nd rfl (by first | exact Or.inl rfl | exact Or.inr rfl) (pe_c (f_complement_rows T) hr (by decide) (by rfl) (pa_cons (pe_c (f_span T) hr (by decide) (by rfl) (pa_cons (pe_fld (pv 0) rfl) (pa_cons (pv 8) (pa_cons (pe_fld (pv 0) rfl) pa_nil)))) (pa_cons (pe_fld (pv 0) rfl) pa_nil))))
 (pss_one (ps_ret (pe_c (f_of_images T) hr (by decide) (by rfl) (pa_cons (pv 0) (pa_cons (pe_op op_catA (pe_callTy call_tuple_of (by rfl) (b_tuple T) (by rfl) (pa_cons (pv 8) pa_nil)) (pv 9)) (pa_cons (pe_op op_catA (pe_callTy call_tuple_of (by rfl) (b_tuple T) (by rfl) (pa_cons (pe_op op_cat (pe_op op_cat (pv 6) (pv 7)) (pe_callTy call_list_of (by rfl) (b_list T) (by rfl) (pa_cons (pv 3) pa_nil))) pa_nil)) (pv 9)) pa_nil)))))))))))), ?_⟩
  clear hr nd NN
  refine body_psp (n := 10) hs rfl ?_
  clear hs
  rintro ds f ⟨S, us, vs, stay, m, hn, h1, h2, h3, hm, rfl, rfl⟩
  have l0 := sing_len S
  have l1 := goneOn_len us S.singRadical
  have l2 := goneOn_len vs S.singRadical
  have l3 : (S.irOne us).length ≤ 100 + S.n := by unfold Spc.irOne; rw [List.length_append]; omega
  have l4 : (S.irOne vs).length ≤ 100 + S.n := by unfold Spc.irOne; rw [List.length_append]; omega
  have lr : S.radical.length ≤ S.n := kernel_len _
  have l5 : (S.irLast us).length ≤ S.n := by have := goneOn_len (S.irOne us) S.radical; unfold Spc.irLast; omega
  have l6 : (S.irOwn us stay).length ≤ 200 + 2 * S.n := by unfold Spc.irOwn; rw [List.length_append, List.length_append]; omega
  have l7 := span_len (S.irOwn us stay)
  have l8 := compl_len (span (S.irOwn us stay))
  refine rs_setq (re_meth0 (rv_var rfl) rfl ⟨_, hn, rfl, rfl⟩) ?_
  rintro d rfl
  refine rs_setV (d := lstD (S.irOne us)) ((ro_cat (ro_m (ro_lstT (rv_var rfl))) (rm_lst (re_call (ra_cons ((rv_var rfl)) (ra_cons ((rv_var rfl)) (ra_cons ((rv_var rfl)) ra_nil))) ⟨S, true, us, S.singRadical, hn, by omega, by omega, rfl, rfl⟩)) (by rw [List.length_map, List.length_map]; omega)).v.is ?_) ?_
  · show D.lst _ = D.lst (List.map rowD _)
    unfold Spc.irOne
    rw [List.map_append]
  refine rs_setV (d := lstD (S.irOne vs)) ((ro_cat (ro_m (ro_lstL (RunE.l (rv_var rfl)))) (rm_lst (re_call (ra_cons ((rv_var rfl)) (ra_cons ((rv_var rfl)) (ra_cons ((rv_var rfl)) ra_nil))) ⟨S, false, vs, S.singRadical, hn, by omega, by omega, rfl, rfl⟩)) (by rw [List.length_map, List.length_map]; omega)).v.is ?_) ?_
  · show D.lst _ = D.lst (List.map rowD _)
    unfold Spc.irOne
    rw [List.map_append]
  refine rs_setV (d := lstD (S.irLast us)) (re_call (ra_cons ((rv_var rfl)) (ra_cons ((rv_var rfl)) (ra_cons (re_meth0 (rv_var rfl) rfl ⟨_, hn, rfl, rfl⟩) ra_nil))) ⟨S, false, S.irOne us, S.radical, hn, by omega, by omega, rfl, rfl⟩) ?_
  refine rs_setV (d := lstD (S.irOwn us stay)) ((ro_cat (ro_m (ro_cat (rm_lst (rv_var rfl)) (rm_lst (rv_var rfl)) (by rw [List.length_map, List.length_map]; omega))) (ro_m (ro_lstL (RunE.l (rv_var rfl)))) (by rw [List.length_append, List.length_map, List.length_map, List.length_map]; omega)).v.is ?_) ?_
  · show D.lst _ = D.lst (List.map rowD _)
    unfold Spc.irOwn
    rw [List.map_append, List.map_append]
  refine rs_setV (d := tabD (complRows (span (S.irOwn us stay)))) (re_call (ra_cons (re_call (ra_cons (sfield T (rv_var rfl)) (ra_cons ((rv_var rfl)) (ra_cons (sn T (rv_var rfl)) ra_nil))) ⟨S.F, S.n, false, S.irOwn us stay, by omega, by omega, rfl, rfl⟩) (ra_cons (sn T (rv_var rfl)) ra_nil)) ⟨S.F, S.n, span (S.irOwn us stay), by omega, by omega, led_span _, rfl, rfl⟩) ?_
  refine rs_retV (re_call (ra_cons ((rv_var rfl)) (ra_cons ((rv_catT (rv_tupL (RunE.l (rv_var rfl))) (rv_var rfl) (by rw [List.length_map, List.length_map]; omega)).is ?_) (ra_cons ((rv_catT (rv_tupL (RunO.l (ro_cat (ro_m (ro_cat (rm_lst (rv_var rfl)) (rm_lst (rv_var rfl)) (by rw [List.length_map, List.length_map]; omega))) (ro_m (ro_lstL (RunE.l (rv_var rfl)))) (by rw [List.length_append, List.length_map, List.length_map, List.length_map]; omega)))) (rv_var rfl) (by rw [List.length_append, List.length_append, List.length_map, List.length_map, List.length_map, List.length_map]; omega)).is ?_) ra_nil))) ⟨S, _, _, m, hn, hm, rfl, rfl⟩) rfl
  · show D.tup _ = D.tup (List.map rowD _)
    rw [List.map_append]
  · show D.tup _ = D.tup (List.map rowD _)
    rw [List.map_append, List.map_append, List.map_append]
def R_step : List D → (D → Prop) → Prop := fun ds f => ∃ (S : Spc) (head m : List (Row S.F S.n)) (w0 y : Row S.F S.n), ∃ (hn : S.n ≤ 6), ∃ (hh : head.length ≤ 400), ∃ (hm : S.step head w0 y = some m), ds = [spcD S, lstD head, rowD w0, rowD y] ∧ f = fun d => d = tabD m
abbrev sp_step (K : PySem.W.Frag) : Sp := psp K R_step
theorem f_step {P : Program} {w : World} {K : PySem.W.Frag} {mg : Str → Option Value} {base : Heap} (T : Tx K mg base) : Cal P w K mg base 10 "step" (sp_step K) := by
  refine cal_of (d_step T) (g_step T) (N := ["space", "head", "w", "y", "field", "d", "c", "f", "i", "radical", "zeros", "images"]) (ps := ["space", "head", "w", "y"]) (fun _ _ _ _ _ _ us hl => match us, hl with | [_, _, _, _], _ => rfl) (by decide +kernel) (psp_len (by rintro ds f ⟨_, _, _, _, _, _, _, _, rfl, _⟩; rfl)) ?_
  intro cdv A outer sh H vs Q E hr hs
  let NN : List Str := ["space", "head", "w", "y", "field", "d", "c", "f", "i", "radical", "zeros", "images"]
  have nd : List.Nodup (α := Str) ["space", "head", "w", "y", "field", "d", "c", "f", "i", "radical", "zeros", "images"] := by decide +kernel
  refine ⟨_, (pss_cons (ps_set (i := 4) nd rfl (by first | exact Or.inl rfl | exact Or.inr rfl) (pe_fld (pv 0) rfl))
 (pss_cons (ps_set (i := 5) nd rfl (by first | exact Or.inl rfl | exact Or.inr rfl) (pe_c (f_difference T) hr (by decide) (by rfl) (pa_cons (pv 0) (pa_cons (pv 3) (pa_cons (pv 2) pa_nil)))))
 (pss_cons (ps_set (i := 6) nd rfl (by first | exact Or.inl rfl | exact Or.inr rfl) (pe_mt (f_Space_product T) hr (by decide) (pv 0) (pa_cons (pv 2) (pa_cons (pv 5) pa_nil))))
 (pss_cons (ps_if (pt_not (pt_val (pe_callB (cr_anyI rfl) (by rfl) (b_any T) (by rfl) (pa_cons (pv 5) pa_nil)))) (pss_one (ps_ret (pe_c (f_identity T) hr (by decide) (by rfl) (pa_cons (pe_fld (pv 0) rfl) pa_nil)))) pss_nil)
 (pss_cons (ps_if (pt_cmpR op_ne (pv 6) pe_int (by first | exact nomark _ | rfl | with_unfolding_all rfl)) (pss_cons (ps_setLc (i := 7) (own := [("i", 8)]) (g := (gName 8)) (tt := tYes) (te := (tMeth (He.ga K "Field") "multiply" (sp_Field_multiply K) [] E0 (tVar 4) (tCons (tMeth (He.ga K "Space") "product" (sp_Space_product K) [] E0 (tVar 0) (tCons (tMeth (He.ga K "Space") "unit" (sp_Space_unit K) [] E0 (tVar 0) (tCons (tVar 8) tNil)) (tCons (tVar 5) tNil))) (tCons (tMeth (He.ga K "Field") "inverse" (sp_Field_inverse K) [] E0 (tVar 4) (tCons (tVar 6) tNil)) tNil)))) rfl nd rfl rfl (sw_true rfl rfl rfl (by decide +kernel)) (pi_range1 (by rfl) (b_range T) (pa_cons (pe_fld (pv 0) rfl) pa_nil)) (blkOk_by (N := NN) (by kernel_rfl)) (fun _ _ _ _ _ => (pg_name (i := 8) nd rfl (by first | exact Or.inl rfl | exact Or.inr rfl))) (fun _ _ _ _ _ => pts_nil) (fun _ _ _ _ _ => (pe_mt (f_Field_multiply T) hr (by decide) (pv 4) (pa_cons (pe_mt (f_Space_product T) hr (by decide) (pv 0) (pa_cons (pe_mt (f_Space_unit T) hr (by decide) (pv 0) (pa_cons (pv 8) pa_nil)) (pa_cons (pv 5) pa_nil))) (pa_cons (pe_mt (f_Field_inverse T) hr (by decide) (pv 4) (pa_cons (pv 6) pa_nil)) pa_nil)))))
 (pss_one (ps_ret (pe_c (f_shifted T) hr (by decide) (by rfl) (pa_cons (pv 0) (pa_cons (pv 7) (pa_cons (pv 5) pa_nil))))))) pss_nil)
 (pss_cons (ps_set (i := 9) nd rfl (by first | exact Or.inl rfl | exact Or.inr rfl) (pe_mt0 (f_Space_radical T) hr (by decide) (pv 0)))
 (pss_cons (ps_set (i := 10) nd rfl (by first | exact Or.inl rfl | exact Or.inr rfl) (pe_callTy call_list_of (by rfl) (b_list T) (by rfl) (pa_cons (pv 1) pa_nil)))
 (pss_cons (ps_if (pt_not (pt_val (pe_c (f_holds T) hr (by decide) (by rfl) (pa_cons (pv 4) (pa_cons (pv 9) (pa_cons (pv 5) pa_nil)))))) (pss_one (ps_set (i := 10) nd rfl (by first | exact Or.inl rfl | exact Or.inr rfl) (pe_op op_cat (pv 10) (pe_callTy call_list_of (by rfl) (b_list T) (by rfl) (pa_cons (pv 9) pa_nil))))) pss_nil)
 (pss_cons (ps_if (pt_not (pt_val (pe_c (f_holds T) hr (by decide) (by rfl) (pa_cons (pv 4) (pa_cons (pe_c (f_span T) hr (by decide) (by rfl) (pa_cons (pv 4) (pa_cons (pe_op op_cat (pv 10) (pe_lst (pa_cons (pv 2) pa_nil))) (pa_cons (pe_fld (pv 0) rfl) pa_nil)))) (pa_cons (pv 5) pa_nil)))))) (pss_one (ps_set (i := 10) nd rfl (by first | exact Or.inl rfl | exact Or.inr rfl) (pe_op op_cat (pv 10) (pe_lst (pa_cons (pv 5) pa_nil))))) pss_nil)
 (pss_cons (ps_set (i := 7) nd rfl (by first | exact Or.inl rfl | exact Or.inr rfl) (pe_c (f_solve T) hr (by decide) (by rfl) (pa_cons (pv 4) (pa_cons (pe_op op_cat (pv 10) (pe_lst (pa_cons (pv 2) pa_nil))) (pa_cons (pe_fld (pv 0) rfl) (pa_cons (pe_op op_cat (pe_op op_rep (pe_lst (pa_cons pe_int pa_nil)) (pe_callB call_len_seq (by rfl) (b_len T) PySem.boot_len (pa_cons (pv 10) pa_nil))) (pe_lst (pa_cons pe_int pa_nil))) pa_nil))))))
 (pss_cons (ps_set (i := 11) nd rfl (by first | exact Or.inl rfl | exact Or.inr rfl) (pe_c (f_shifted T) hr (by decide) (by rfl) (pa_cons (pv 0) (pa_cons (pv 7) (pa_cons (pv 5) pa_nil)))))
 (pss_cons (ps_if (pt_val (pe_c (f_holds T) hr (by decide) (by rfl) (pa_cons (pv 4) (pa_cons (pv 9) (pa_cons (pv 5) pa_nil))))) (pss_one (ps_ret (pv 11))) pss_nil)
 (pss_one (ps_ret (pe_c (f_beyond T) hr (by decide) (by rfl) (pa_cons (pv 0) (pa_cons (pv 11) (pa_cons (pv 5) pa_nil)))))))))))))))))), ?_⟩
  clear hr nd NN
  refine body_psp (n := 12) hs rfl ?_
  clear hs
  rintro ds f ⟨S, head, m, w0, y, hn, hh, hm, rfl, rfl⟩
  have lr : S.radical.length ≤ S.n := kernel_len _
  unfold Spc.step at hm
  refine rs_setV (sfield T (rv_var rfl)) ?_
  refine rs_setV (nrow_row (re_call (ra_cons ((rv_var rfl)) (ra_cons ((rv_var rfl)) (ra_cons ((rv_var rfl)) ra_nil))) ⟨_, _, _, hn, rfl, rfl⟩)) ?_
  refine rs_setV (re_meth (rv_var rfl) rfl (ra_cons ((rv_var rfl)) (ra_cons ((rv_var rfl)) ra_nil)) ⟨_, _, _, hn, rfl, rfl⟩) ?_
  generalize hd : rsub y w0 = d0 at hm ⊢
  refine rs_ifr (rt_not (rt_B (rv_anyR (rv_var rfl)))) (fun h => ?_) fun h => ?_
  · have h : d0 = rzero := by simpa using h
    rw [if_pos h] at hm
    cases hm
    exact rs_retV (re_call (ra_cons (sn T (rv_var rfl)) ra_nil) ⟨_, _, by omega, rfl, rfl⟩) rfl
  have h : ¬ d0 = rzero := by simpa using h
  rw [if_neg h] at hm
  refine rs_ifr (rt_test (rv_neE (rv_var rfl) rv_e0)) (fun hc => ?_) fun hc => ?_
  · have hc : S.prod w0 d0 ≠ 0 := by simpa using hc
    rw [if_pos hc] at hm
    cases hm
    refine rs_setV (d := .lst ((rowI (fun i => S.prod (runit i) d0 * (S.prod w0 d0)⁻¹ : Row S.F S.n)).map D.int)) ((ro_map (l := List.finRange S.n) (sx := fun i => nD i.val) (ex := fun i => elD (S.prod (runit i) d0 * (S.prod w0 d0)⁻¹)) (js := [8]) (rj_i (rj_rng (sn T (rv_var rfl)) rfl (by omega))) (by rw [List.length_finRange]; omega) (by decide) fun i _ => ⟨_, rg_name, re_meth (rv_var rfl) rfl (ra_cons (re_meth (rv_var rfl) rfl (ra_cons (re_meth (rv_var rfl) rfl (ra_cons ((rv_var rfl)) ra_nil) ⟨S, i, hn, rfl, rfl⟩) (ra_cons ((rv_var rfl)) ra_nil)) ⟨_, _, _, hn, rfl, rfl⟩) (ra_cons (re_meth (rv_var rfl) rfl (ra_cons ((rv_var rfl)) ra_nil) ⟨_, _, hc, rfl, rfl⟩) ra_nil)) ⟨_, _, _, rfl, rfl⟩⟩).v.is (by rw [row_map])) ?_
    exact rs_retV (re_call (ra_cons ((rv_var rfl)) (ra_cons ((rv_var rfl)) (ra_cons ((rv_var rfl)) ra_nil))) ⟨S, false, (fun i => S.prod (runit i) d0 * (S.prod w0 d0)⁻¹), d0, hn, rfl, rfl⟩) rfl
  have hc : ¬ S.prod w0 d0 ≠ 0 := by simpa using hc
  rw [if_neg hc] at hm
  refine rs_setq (re_meth0 (rv_var rfl) rfl ⟨_, hn, rfl, rfl⟩) ?_
  rintro d rfl
  refine rs_setV (ro_lstL (RunE.l (rv_var rfl))).v ?_
  have lz1 : (S.zeros1 head d0).length ≤ 400 + S.n := by
    unfold Spc.zeros1
    split
    · omega
    · rw [List.length_append]; omega
  have lz : (S.zeros head w0 d0).length ≤ 401 + S.n := by
    unfold Spc.zeros
    split
    · omega
    · rw [List.length_append]; simp; omega
  refine rs_seq (fun r' => LeE r' [.im (spcD S), .im (lstD head), .im (rowD w0), .im (rowD y), .im (fldD S.F), .im (rowD d0), .un, .un, .un, .im (tabN S.radical), .im (lstD (S.zeros1 head d0)), .un]) (rs_if (rt_not (rt_B (re_call (ra_cons ((rv_var rfl)) (ra_cons ((rv_var rfl)) (ra_cons ((rv_var rfl)) ra_nil))) ⟨S.F, S.n, S.radical, d0, by omega, by omega, led_kernel _, rfl, rfl⟩))) (fun h => rs_set (f := fun x => x = lstD (S.zeros1 head d0)) ((ro_cat (rm_lst (rv_var rfl)) (ro_m (ro_lstT (nrows_tab (rv_var rfl)))) (by rw [List.length_map, List.length_map]; omega)).v.is ?_) ?_) fun h => rs_next ?_) ?_
  · have h : holds S.radical d0 = false := by simpa using h
    show D.lst _ = D.lst (List.map rowD _)
    unfold Spc.zeros1
    rw [h, if_neg Bool.false_ne_true, List.map_append]
  · rintro d rfl
    exact (by repeat' (first | exact True.intro | refine And.intro ?_ ?_ | exact Or.inl rfl | exact Or.inr rfl))
  · have h : holds S.radical d0 = true := by simpa using h
    unfold Spc.zeros1
    rw [h, if_pos rfl]
    exact (by repeat' (first | exact True.intro | refine And.intro ?_ ?_ | exact Or.inl rfl | exact Or.inr rfl))
  refine fun r' e => rs_weak e ?_
  clear e r'
  refine rs_seq (fun r' => LeE r' [.im (spcD S), .im (lstD head), .im (rowD w0), .im (rowD y), .im (fldD S.F), .im (rowD d0), .un, .un, .un, .im (tabN S.radical), .im (lstD (S.zeros head w0 d0)), .un]) (rs_if (rt_not (rt_B (re_call (ra_cons ((rv_var rfl)) (ra_cons (re_call (ra_cons ((rv_var rfl)) (ra_cons ((ro_cat (rm_lst (rv_var rfl)) (ro_m (rov_lst (ra_cons ((rv_var rfl)) ra_nil))) (by rw [List.length_map]; simp; omega)).v) (ra_cons (sn T (rv_var rfl)) ra_nil))) ⟨S.F, S.n, false, S.zeros1 head d0 ++ [w0], by omega, by rw [List.length_append]; simp; omega, ?_, rfl⟩) (ra_cons ((rv_var rfl)) ra_nil))) ⟨S.F, S.n, span (S.zeros1 head d0 ++ [w0]), d0, by omega, by have := span_len (S.zeros1 head d0 ++ [w0]); omega, led_span _, rfl, rfl⟩))) (fun h => rs_set (f := fun x => x = lstD (S.zeros head w0 d0)) ((ro_cat (rm_lst (rv_var rfl)) (ro_m (rov_lst (ra_cons ((rv_var rfl)) ra_nil))) (by rw [List.length_map]; simp; omega)).v.is ?_) ?_) fun h => rs_next ?_) ?_
  · show [_, D.lst _, _] = [_, D.lst _, _]
    rw [List.map_append]
    rfl
  · have h : holds (span (S.zeros1 head d0 ++ [w0])) d0 = false := by simpa using h
    show D.lst _ = D.lst (List.map rowD _)
    unfold Spc.zeros
    rw [h, if_neg Bool.false_ne_true, List.map_append]
    rfl
  · rintro d rfl
    exact (by repeat' (first | exact True.intro | refine And.intro ?_ ?_ | exact Or.inl rfl | exact Or.inr rfl))
  · have h : holds (span (S.zeros1 head d0 ++ [w0])) d0 = true := by simpa using h
    unfold Spc.zeros
    rw [h, if_pos rfl]
    exact (by repeat' (first | exact True.intro | refine And.intro ?_ ?_ | exact Or.inl rfl | exact Or.inr rfl))
  refine fun r' e => rs_weak e ?_
  clear e r'
  cases hs : solve (S.zeros head w0 d0 ++ [w0]) (List.replicate (S.zeros head w0 d0).length 0 ++ [1]) with
  | none => rw [hs] at hm; cases hm
  | some f =>
  rw [hs] at hm
  have hm : (if holds S.radical d0 then some (shift f d0) else S.beyond (shift f d0) d0) = some m := hm
  refine rs_setq (re_call (ra_cons ((rv_var rfl)) (ra_cons ((ro_cat (rm_lst (rv_var rfl)) (ro_m (rov_lst (ra_cons ((rv_var rfl)) ra_nil))) (by rw [List.length_map]; simp; omega)).v) (ra_cons (sn T (rv_var rfl)) (ra_cons ((ro_cat (ro_m (ro_rep (k := (S.zeros head w0 d0).length) (d := nD 0) (ro_m (rov_lst (ra_cons (rv_int) ra_nil))) (rv_lenL (RunE.l (rv_var rfl)) (by rw [List.length_map])) (by omega))) (ro_m (rov_lst (ra_cons (rv_int) ra_nil))) (by simp; omega)).v) ra_nil)))) ⟨S.F, S.n, S.zeros head w0 d0 ++ [w0], List.replicate (S.zeros head w0 d0).length 0 ++ [1], by omega, by rw [List.length_append]; simp; omega, ?_, rfl⟩) ?_
  · show [_, D.lst _, _, D.lst _] = [_, D.lst _, _, D.lst _]
    rw [List.map_append, List.map_append, List.map_replicate]
    rfl
  rintro d rfl
  rw [hs]
  refine rs_setV (re_call (ra_cons ((rv_var rfl)) (ra_cons ((rv_var rfl)) (ra_cons ((rv_var rfl)) ra_nil))) ⟨S, true, f, d0, hn, rfl, rfl⟩) ?_
  refine rs_ifr (rt_B (re_call (ra_cons ((rv_var rfl)) (ra_cons ((rv_var rfl)) (ra_cons ((rv_var rfl)) ra_nil))) ⟨S.F, S.n, S.radical, d0, by omega, by omega, led_kernel _, rfl, rfl⟩)) (fun h => ?_) fun h => ?_
  · rw [h, if_pos rfl] at hm
    cases hm
    exact rs_retV (rv_var rfl) rfl
  · rw [h, if_neg Bool.false_ne_true] at hm
    exact rs_retV (re_call (ra_cons ((rv_var rfl)) (ra_cons ((rv_var rfl)) (ra_cons ((rv_var rfl)) ra_nil))) ⟨S, _, m, d0, hn, hm, rfl, rfl⟩) rfl
end Wk
/-! # WkW8 -/
set_option Elab.async false
set_option linter.all false
set_option maxRecDepth 100000
set_option maxHeartbeats 4000000
namespace Wk
open PySem PySem.Spec PyProof.Rows L2
def R_barrier : List D → (D → Prop) → Prop := fun ds f => ∃ (S : Spc) (k : Nat) (us vs : List (Row S.F S.n)) (o : Option (Row S.F k)), ∃ (hn : S.n ≤ 6), ∃ (hu : us.length = k), ∃ (hv : vs.length = k), ∃ (hk2 : k ≤ 1000), ∃ (hc : S.checked us vs), ∃ (hb : (S.wir us k hu = S.wir vs k hv ∧ o = none) ∨ (S.wir us k hu ≠ S.wir vs k hv ∧ ∃ x, o = some x ∧ barW (S.wir us k hu) (S.wir vs k hv) = some x)), ds = [spcD S, tabD us, tabD vs] ∧ f = fun d => d = optD o
abbrev sp_barrier (K : PySem.W.Frag) : Sp := psp K R_barrier
theorem f_barrier {P : Program} {w : World} {K : PySem.W.Frag} {mg : Str → Option Value} {base : Heap} (T : Tx K mg base) : Cal P w K mg base 11 "barrier" (sp_barrier K) := by
  refine cal_of (d_barrier T) (g_barrier T) (N := ["space", "us", "vs", "one", "two", "weights"]) (ps := ["space", "us", "vs"]) (fun _ _ _ _ _ _ us hl => match us, hl with | [_, _, _], _ => rfl) (by decide +kernel) (psp_len (by rintro ds f ⟨_, _, _, _, _, _, _, _, _, _, _, rfl, _⟩; rfl)) ?_
  intro cdv A outer sh H vs Q E hr hs
  let NN : List Str := ["space", "us", "vs", "one", "two", "weights"]
  have nd : List.Nodup (α := Str) ["space", "us", "vs", "one", "two", "weights"] := by decide +kernel
  refine ⟨_, (pss_cons (ps_if (pt_val (pe_c (f_extends T) hr (by decide) (by rfl) (pa_cons (pv 0) (pa_cons (pv 1) (pa_cons (pv 2) pa_nil))))) (pss_one (ps_ret pe_non)) pss_nil)
 (pss_cons (ps_set (i := 3) nd rfl (by first | exact Or.inl rfl | exact Or.inr rfl) (pe_c (f_weights_in_radical T) hr (by decide) (by rfl) (pa_cons (pv 0) (pa_cons (pv 1) pa_nil))))
 (pss_cons (ps_set (i := 4) nd rfl (by first | exact Or.inl rfl | exact Or.inr rfl) (pe_c (f_weights_in_radical T) hr (by decide) (by rfl) (pa_cons (pv 0) (pa_cons (pv 2) pa_nil))))
 (pss_cons (ps_for PassesOwn.never rfl (pi_tup (pv 3)) (pg_name (i := 5) nd rfl (by first | exact Or.inl rfl | exact Or.inr rfl)) (pss_one (ps_if (pt_not (pt_val (pe_c (f_holds T) hr (by decide) (by rfl) (pa_cons (pe_fld (pv 0) rfl) (pa_cons (pv 4) (pa_cons (pv 5) pa_nil)))))) (pss_one (ps_ret (pv 5))) pss_nil)))
 (pss_one (ps_ret (pe_ix ix_list (pe_lc (own := [("weights", 5)]) (g := (gName 5)) (tt := (tNot (tB (tCall (sp_holds K) [] E0 (tCons (tFld K (tVar 0) "field") (tCons (tVar 3) (tCons (tVar 5) tNil))))))) (te := (tVar 5)) rfl nd (pi_tup (pv 4)) (blkOk_by (N := NN) (by kernel_rfl)) (fun _ _ _ _ _ => (pg_name (i := 5) nd rfl (by first | exact Or.inl rfl | exact Or.inr rfl))) (fun _ _ _ _ _ => (pts_one (pt_not (pt_val (pe_c (f_holds T) hr (by decide) (by rfl) (pa_cons (pe_fld (pv 0) rfl) (pa_cons (pv 3) (pa_cons (pv 5) pa_nil)))))))) (fun _ _ _ _ _ => (pv 5))) pe_int (fun _ _ => rfl)))))))), ?_⟩
  clear hr nd NN
  refine body_psp (n := 6) hs rfl ?_
  clear hs
  rintro ds f ⟨S, k, us, vs, o, hn, hu, hv, hk2, hc, hb, rfl, rfl⟩
  refine rs_ifr (rt_B (re_call (ra_cons ((rv_var rfl)) (ra_cons ((rv_var rfl)) (ra_cons ((rv_var rfl)) ra_nil))) ⟨S, k, us, vs, hn, hu, hv, hk2, hc, rfl, rfl⟩)) (fun h => rs_retV rv_non ?_) fun h => ?_
  · have h := of_decide_eq_true h
    rcases hb with ⟨_, ho⟩ | ⟨z, _⟩
    · rw [ho]; rfl
    · exact absurd h z
  have h := of_decide_eq_false h
  rcases hb with ⟨z, _⟩ | ⟨_, x, ho, hx⟩
  · exact absurd z h
  subst ho
  have l1 : (S.wir us k hu).length ≤ k := kernel_len _
  have l2 : (S.wir vs k hv).length ≤ k := kernel_len _
  have d1 : Led (S.wir us k hu) := led_kernel _
  have d2 : Led (S.wir vs k hv) := led_kernel _
  refine rs_setV (re_call (ra_cons ((rv_var rfl)) (ra_cons ((rv_var rfl)) ra_nil)) ⟨S, k, us, hn, hu, hk2, rfl, rfl⟩) ?_
  refine rs_setV (re_call (ra_cons ((rv_var rfl)) (ra_cons ((rv_var rfl)) ra_nil)) ⟨S, k, vs, hn, hv, hk2, rfl, rfl⟩) ?_
  generalize S.wir us k hu = one at *
  generalize S.wir vs k hv = two at *
  unfold barW at hx
  refine rs_forF (l := one) (sx := nrwD) (js := [5]) (fun (u : Unit) _ => u) (fun a => holds two a = true) (fun _ => [.im (spcD S), .im (tabD us), .im (tabD vs), .im (tabN one), .im (tabN two), .un]) () (rj_tup (rv_var rfl)) (by repeat' (first | exact True.intro | refine And.intro ?_ ?_ | exact Or.inl rfl | exact Or.inr rfl)) (fun pre a post hpre hall => ⟨_, rg_name, (fun _ h => h), ?_⟩) fun hall => ?_
  · refine rs_if (rt_not (rt_B (re_call (ra_cons (sfield T (rv_var rfl)) (ra_cons ((rv_var rfl)) (ra_cons (nrow_row (rv_var rfl)) ra_nil))) ⟨S.F, k, two, a, hk2, by omega, d2, rfl, rfl⟩))) (fun h => ?_) fun h => rs_next ⟨by simpa using h, (by repeat' (first | exact True.intro | refine And.intro ?_ ?_ | exact Or.inl rfl | exact Or.inr rfl))⟩
    have e : one.find? (fun w => !holds two w) = some a := by
      rw [List.find?_eq_some_iff_append]
      refine ⟨h, pre, post, hpre, fun b hb => ?_⟩
      rw [hall b hb]
      rfl
    rw [e] at hx
    cases hx
    exact rs_retV (nrow_row (rv_var rfl)) rfl
  · have e : one.find? (fun w => !holds two w) = none := by
      rw [List.find?_eq_none]
      intro a ha
      rw [hall a ha]
      simp
    rw [e] at hx
    have hx : two.find? (fun w => !holds one w) = some x := hx
    rw [find_head, List.head?_eq_getElem?] at hx
    refine rs_retV (nrow_row (v := x) (rv_ixL (k := 0) (d := nrwD x) (RunO.l (ro_lc (l := two) (sx := nrwD) (ex := nrwD) (p := fun w => !holds one w) (js := [5]) (rj_i (rj_tup (rv_var rfl))) (by omega) (by decide) fun w _ => ⟨_, rg_name, rt_not (rt_B (re_call (ra_cons (sfield T (rv_var rfl)) (ra_cons ((rv_var rfl)) (ra_cons (nrow_row (rv_var rfl)) ra_nil))) ⟨S.F, k, one, w, hk2, by omega, d1, rfl, rfl⟩)), fun _ => (rv_var rfl)⟩)) rv_int rfl ?_)) rfl
    rw [List.getElem?_map, hx]
    rfl
def R_extension : List D → (D → Prop) → Prop := fun ds f => ∃ (S : Spc) (k : Nat) (us vs : List (Row S.F S.n)) (o : Option (List (Row S.F S.n))), ∃ (hn : S.n ≤ 6), ∃ (hu : us.length = k), ∃ (hv : vs.length = k), ∃ (hk2 : k ≤ 100), ∃ (hc : S.checked us vs), ∃ (hb : (S.wir us k hu ≠ S.wir vs k hv ∧ o = none) ∨ (S.wir us k hu = S.wir vs k hv ∧ ∃ m, o = some m ∧ S.extM us vs k hu = some m ∧ S.isIso m)), ds = [spcD S, tabD us, tabD vs] ∧ f = fun d => d = optI S o
abbrev sp_extension (K : PySem.W.Frag) : Sp := psp K R_extension
theorem f_extension {P : Program} {w : World} {K : PySem.W.Frag} {mg : Str → Option Value} {base : Heap} (T : Tx K mg base) : Cal P w K mg base 12 "extension" (sp_extension K) := by
  refine cal_of (d_extension T) (g_extension T) (N := ["space", "us", "vs", "field", "inner", "outer", "found", "images", "weights", "at", "w", "one", "two"]) (ps := ["space", "us", "vs"]) (fun _ _ _ _ _ _ us hl => match us, hl with | [_, _, _], _ => rfl) (by decide +kernel) (psp_len (by rintro ds f ⟨_, _, _, _, _, _, _, _, _, _, _, rfl, _⟩; rfl)) ?_
  intro cdv A outer sh H vs Q E hr hs
  let NN : List Str := ["space", "us", "vs", "field", "inner", "outer", "found", "images", "weights", "at", "w", "one", "two"]
  have nd : List.Nodup (α := Str) ["space", "us", "vs", "field", "inner", "outer", "found", "images", "weights", "at", "w", "one", "two"] := by decide +kernel
  refine ⟨_, (pss_cons (ps_if (pt_not (pt_val (pe_c (f_extends T) hr (by decide) (by rfl) (pa_cons (pv 0) (pa_cons (pv 1) (pa_cons (pv 2) pa_nil)))))) (pss_one (ps_ret pe_non)) pss_nil)
 (pss_cons (ps_set (i := 3) nd rfl (by first | exact Or.inl rfl | exact Or.inr rfl) (pe_fld (pv 0) rfl))
 (pss_cons (ps_set (i := 4) nd rfl (by first | exact Or.inl rfl | exact Or.inr rfl) (pe_c (f_weights_in_radical T) hr (by decide) (by rfl) (pa_cons (pv 0) (pa_cons (pv 1) pa_nil))))
 (pss_cons (ps_set (i := 5) nd rfl (by first | exact Or.inl rfl | exact Or.inr rfl) (pe_c (f_complement_rows T) hr (by decide) (by rfl) (pa_cons (pv 4) (pa_cons (pe_callB call_len_seq (by rfl) (b_len T) PySem.boot_len (pa_cons (pv 1) pa_nil)) pa_nil))))
 (pss_cons (ps_set (i := 6) nd rfl (by first | exact Or.inl rfl | exact Or.inr rfl) (pe_c (f_identity T) hr (by decide) (by rfl) (pa_cons (pe_fld (pv 0) rfl) pa_nil)))
 (pss_cons (ps_setLc (i := 7) (own := [("weights", 8)]) (g := (gName 8)) (tt := tYes) (te := (tCall (sp_combine K) [] E0 (tCons (tVar 3) (tCons (tVar 2) (tCons (tVar 8) (tCons (tFld K (tVar 0) "n") tNil)))))) rfl nd rfl rfl (sw_true rfl rfl rfl (by decide +kernel)) (pi_tup (pv 5)) (blkOk_by (N := NN) (by kernel_rfl)) (fun _ _ _ _ _ => (pg_name (i := 8) nd rfl (by first | exact Or.inl rfl | exact Or.inr rfl))) (fun _ _ _ _ _ => pts_nil) (fun _ _ _ _ _ => (pe_c (f_combine T) hr (by decide) (by rfl) (pa_cons (pv 3) (pa_cons (pv 2) (pa_cons (pv 8) (pa_cons (pe_fld (pv 0) rfl) pa_nil)))))))
 (pss_cons (ps_for PassesOwn.never rfl (pi_enT (by rfl) (b_enumerate T) (pa_cons (pv 5) pa_nil)) (pg_tup rfl (pgs_cons (pg_name (i := 9) nd rfl (by first | exact Or.inl rfl | exact Or.inr rfl)) (pgs_cons (pg_name (i := 8) nd rfl (by first | exact Or.inl rfl | exact Or.inr rfl)) pgs_nil))) (pss_cons (ps_set (i := 10) nd rfl (by first | exact Or.inl rfl | exact Or.inr rfl) (pe_ix ix_tup (pe_c (f_times T) hr (by decide) (by rfl) (pa_cons (pv 3) (pa_cons (pe_lst (pa_cons (pe_c (f_combine T) hr (by decide) (by rfl) (pa_cons (pv 3) (pa_cons (pv 1) (pa_cons (pv 8) (pa_cons (pe_fld (pv 0) rfl) pa_nil))))) pa_nil)) (pa_cons (pv 6) (pa_cons (pe_fld (pv 0) rfl) pa_nil))))) pe_int (fun _ _ => rfl)))
 (pss_one (ps_set (i := 6) nd rfl (by first | exact Or.inl rfl | exact Or.inr rfl) (pe_c (f_times T) hr (by decide) (by rfl) (pa_cons (pv 3) (pa_cons (pv 6) (pa_cons (pe_c (f_step T) hr (by decide) (by rfl) (pa_cons (pv 0) (pa_cons (pe_slice sl_list (pv 7) po_none (po_some (pv 9))) (pa_cons (pv 10) (pa_cons (pe_ix ix_list (pv 7) (pv 9) (fun _ _ => rfl)) pa_nil))))) (pa_cons (pe_fld (pv 0) rfl) pa_nil)))))))))
 (pss_cons (ps_set (i := 11) nd rfl (by first | exact Or.inl rfl | exact Or.inr rfl) (pe_c (f_times T) hr (by decide) (by rfl) (pa_cons (pv 3) (pa_cons (pe_lc (own := [("weights", 8)]) (g := (gName 8)) (tt := tYes) (te := (tCall (sp_combine K) [] E0 (tCons (tVar 3) (tCons (tVar 1) (tCons (tVar 8) (tCons (tFld K (tVar 0) "n") tNil)))))) rfl nd (pi_tup (pv 4)) (blkOk_by (N := NN) (by kernel_rfl)) (fun _ _ _ _ _ => (pg_name (i := 8) nd rfl (by first | exact Or.inl rfl | exact Or.inr rfl))) (fun _ _ _ _ _ => pts_nil) (fun _ _ _ _ _ => (pe_c (f_combine T) hr (by decide) (by rfl) (pa_cons (pv 3) (pa_cons (pv 1) (pa_cons (pv 8) (pa_cons (pe_fld (pv 0) rfl) pa_nil))))))) (pa_cons (pv 6) (pa_cons (pe_fld (pv 0) rfl) pa_nil))))))
 (pss_cons (ps_setLc (i := 12) (own := [("weights", 8)]) (g := (gName 8)) (tt := tYes) (te := (tCall (sp_combine K) [] E0 (tCons (tVar 3) (tCons (tVar 2) (tCons (tVar 8) (tCons (tFld K (tVar 0) "n") tNil)))))) rfl nd rfl rfl (sw_true rfl rfl rfl (by decide +kernel)) (pi_tup (pv 4)) (blkOk_by (N := NN) (by kernel_rfl)) (fun _ _ _ _ _ => (pg_name (i := 8) nd rfl (by first | exact Or.inl rfl | exact Or.inr rfl))) (fun _ _ _ _ _ => pts_nil) (fun _ _ _ _ _ => (pe_c (f_combine T) hr (by decide) (by rfl) (pa_cons (pv 3) (pa_cons (pv 2) (pa_cons (pv 8) (pa_cons (pe_fld (pv 0) rfl) pa_nil)))))))
 (pss_one (ps_ret (pe_mk (f_Isometry___init__ T) hr (by decide) (by rfl) (pa_cons (pv 0) (pa_cons (pe_c (f_times T) hr (by decide) (by rfl) (pa_cons (pv 3) (pa_cons (pv 6) (pa_cons (pe_c (f_in_radical T) hr (by decide) (by rfl) (pa_cons (pv 0) (pa_cons (pv 11) (pa_cons (pv 12) (pa_cons (pv 7) pa_nil))))) (pa_cons (pe_fld (pv 0) rfl) pa_nil))))) pa_nil)))))))))))))), ?_⟩
  clear hr nd NN
  refine body_psp (n := 13) hs rfl ?_
  clear hs
  rintro ds f ⟨S, k, us, vs, o, hn, hu, hv, hk2, hc, hb, rfl, rfl⟩
  refine rs_ifr (rt_not (rt_B (re_call (ra_cons ((rv_var rfl)) (ra_cons ((rv_var rfl)) (ra_cons ((rv_var rfl)) ra_nil))) ⟨S, k, us, vs, hn, hu, hv, by omega, hc, rfl, rfl⟩))) (fun h => rs_retV rv_non ?_) fun h => ?_
  · have h : ¬ S.wir us k hu = S.wir vs k hv := by simpa using h
    rcases hb with ⟨_, ho⟩ | ⟨z, _⟩
    · rw [ho]; rfl
    · exact absurd z h
  have h : S.wir us k hu = S.wir vs k hv := by simpa using h
  rcases hb with ⟨z, _⟩ | ⟨_, m, ho, hm, hiso⟩
  · exact absurd h z
  subst ho
  have l1 : (S.wir us k hu).length ≤ k := kernel_len _
  have d1 : Led (S.wir us k hu) := led_kernel _
  have l2 := compl_len (S.wir us k hu)
  unfold Spc.extM at hm
  refine rs_setV (sfield T (rv_var rfl)) ?_
  refine rs_setV (re_call (ra_cons ((rv_var rfl)) (ra_cons ((rv_var rfl)) ra_nil)) ⟨S, k, us, hn, hu, by omega, rfl, rfl⟩) ?_
  refine rs_setV (re_call (ra_cons ((rv_var rfl)) (ra_cons (rv_lenT (rv_var rfl) (k := (k : Int)) (by rw [List.length_map, hu])) ra_nil)) ⟨S.F, k, S.wir us k hu, by omega, by omega, d1, rfl, rfl⟩) ?_
  refine rs_setV (re_call (ra_cons (sn T (rv_var rfl)) ra_nil) ⟨S.F, S.n, by omega, rfl, rfl⟩) ?_
  generalize S.wir us k hu = inner at *
  generalize complRows inner = outer at *
  refine rs_setV (d := lstD (combs vs outer)) ((ro_map (l := outer) (sx := rowD) (ex := fun w => rowD (comb vs (List.ofFn w))) (js := [8]) (rj_i (rj_tup (rv_var rfl))) (by omega) (by decide) fun w _ => ⟨_, rg_name, re_call (ra_cons ((rv_var rfl)) (ra_cons ((rv_var rfl)) (ra_cons ((rv_var rfl)) (ra_cons (sn T (rv_var rfl)) ra_nil)))) ⟨S.F, S.n, k, vs, w, by omega, rfl, rfl⟩⟩).v.is (show _ = D.lst (List.map rowD _) by unfold combs; rw [List.map_map]; rfl)) ?_
  have limg : (combs vs outer).length = outer.length := by unfold combs; rw [List.length_map]
  generalize combs vs outer = images at *
  cases hg : S.extGo us images 0 outer (ident S.F S.n) with
  | none => rw [hg] at hm; cases hm
  | some fin =>
  rw [hg] at hm
  have hm : (S.inRadical (times (combs us inner) fin) (combs vs inner) images).map (fun m => times fin m) = some m := hm
  refine rs_seq (fun r' => LeE r' [.im (spcD S), .im (tabD us), .im (tabD vs), .im (fldD S.F), .im (tabN inner), .im (tabD outer), .im (tabD fin), .im (lstD images), .un, .un, .un, .un, .un] ∧ fin.length = S.n) (rs_for (js := [9, 8]) (xs := zipD (rng 0 (outer.map rowD).length) (outer.map rowD)) (rj_enT (rv_var rfl)) (fun i r' => ∃ found, S.extGo us images i (outer.drop i) found = some fin ∧ found.length = S.n ∧ LeE r' [.im (spcD S), .im (tabD us), .im (tabD vs), .im (fldD S.F), .im (tabN inner), .im (tabD outer), .im (tabD found), .im (lstD images), .un, .un, .un, .un, .un]) ⟨ident S.F S.n, hg, by unfold ident; rw [List.length_map, List.length_finRange], (by repeat' (first | exact True.intro | refine And.intro ?_ ?_ | exact Or.inl rfl | exact Or.inr rfl))⟩ ?_ ?_) ?_
  · intro i r' d hd ⟨found, h1, h2, h3⟩
    rw [List.length_map, enum_map outer outer.length rfl rowD, List.getElem?_map] at hd
    cases hq : (List.finRange outer.length)[i]? with
    | none => rw [hq] at hd; cases hd
    | some a =>
    rw [hq] at hd
    cases hd
    obtain ⟨hi, ha⟩ := List.getElem?_eq_some_iff.mp hq
    rw [List.getElem_finRange] at ha
    have hia : a.val = i := by rw [← ha]; rfl
    subst hia
    have hdr : outer.drop a.val = outer[a.val] :: outer.drop (a.val + 1) := List.drop_eq_getElem_cons a.isLt
    rw [hdr] at h1
    unfold Spc.extGo at h1
    have him : images[a.val]? = some (images[a.val]'(by have := a.isLt; omega)) := List.getElem?_eq_getElem (by have := a.isLt; omega)
    rw [him] at h1
    cases hst : S.step (images.take a.val) (moved (comb us (List.ofFn outer[a.val])) found) (images[a.val]'(by have := a.isLt; omega)) with
    | none => simp only [hst] at h1; cases h1
    | some st =>
    simp only [hst] at h1
    refine ⟨_, fun S sl F H v en rd Q q => rg_tup2 S sl F H v (en.weak h3) rd Q q, fun x hx => h3.own x hx, ?_⟩
    refine rs_setV (rv_tabIx (k := 0) (v := moved (comb us (List.ofFn outer[a.val])) found) (re_call (ra_cons ((rv_var rfl)) (ra_cons ((rov_lst (ra_cons (re_call (ra_cons ((rv_var rfl)) (ra_cons ((rv_var rfl)) (ra_cons ((rv_var rfl)) (ra_cons (sn T (rv_var rfl)) ra_nil)))) ⟨S.F, S.n, k, us, outer[a.val], by omega, rfl, rfl⟩) ra_nil)).v) (ra_cons ((rv_var rfl)) (ra_cons (sn T (rv_var rfl)) ra_nil)))) ⟨S.F, S.n, S.n, false, [comb us (List.ofFn outer[a.val])], found, by omega, by simp, rfl, rfl⟩) rv_int rfl rfl) ?_
    refine rs_set (re_call (ra_cons ((rv_var rfl)) (ra_cons ((rv_var rfl)) (ra_cons (re_call (ra_cons ((rv_var rfl)) (ra_cons ((ro_sliceTo (k := a.val) (RunE.l (rv_var rfl)) (rv_var rfl) (by rw [List.length_map]; have := a.isLt; omega)).v) (ra_cons ((rv_var rfl)) (ra_cons (rv_lstIx (RunE.l (rv_var rfl)) (rv_var rfl) rfl him) ra_nil)))) ⟨S, images.take a.val, st, _, _, hn, by rw [List.length_take]; omega, hst, ?_, rfl⟩) (ra_cons (sn T (rv_var rfl)) ra_nil)))) ⟨S.F, S.n, S.n, true, found, st, by omega, by omega, rfl, rfl⟩) ?_
    · show [_, D.lst _, _, _] = [_, D.lst _, _, _]
      rw [List.map_take]
    · rintro d rfl
      exact ⟨times found st, h1, by unfold times; rw [List.length_map]; exact h2, (by repeat' (first | exact True.intro | refine And.intro ?_ ?_ | exact Or.inl rfl | exact Or.inr rfl))⟩
  · intro r' ⟨found, h1, h2, h3⟩
    rw [zip_len, List.length_map] at h1
    have e : min (rng 0 outer.length).length outer.length = outer.length := by
      unfold rng
      rw [List.length_map, List.length_range]
      omega
    rw [e, List.drop_eq_nil_of_le (Nat.le_refl _)] at h1
    unfold Spc.extGo at h1
    cases h1
    exact ⟨h3, h2⟩
  rintro r' ⟨e, lf⟩
  refine rs_weak e ?_
  clear e r'
  cases hr : S.inRadical (times (combs us inner) fin) (combs vs inner) images with
  | none => rw [hr] at hm; cases hm
  | some ir =>
  rw [hr] at hm
  have hm : some (times fin ir) = some m := hm
  cases hm
  have lt1 : (times (combs us inner) fin).length = inner.length := by unfold times combs; rw [List.length_map, List.length_map]
  have lt2 : (combs vs inner).length = inner.length := by unfold combs; rw [List.length_map]
  refine rs_setV (d := tabD (times (combs us inner) fin)) (re_call (ra_cons ((rv_var rfl)) (ra_cons ((ro_map (l := inner) (sx := nrwD) (ex := fun w => rowD (comb us (List.ofFn w))) (js := [8]) (rj_i (rj_tup (rv_var rfl))) (by omega) (by decide) fun w _ => ⟨_, rg_name, re_call (ra_cons ((rv_var rfl)) (ra_cons ((rv_var rfl)) (ra_cons (nrow_row (rv_var rfl)) (ra_cons (sn T (rv_var rfl)) ra_nil)))) ⟨S.F, S.n, k, us, w, by omega, rfl, rfl⟩⟩).v) (ra_cons ((rv_var rfl)) (ra_cons (sn T (rv_var rfl)) ra_nil)))) ⟨S.F, S.n, S.n, false, combs us inner, fin, by omega, by unfold combs; rw [List.length_map]; omega, ?_, rfl⟩) ?_
  · show [_, D.lst _, _, _] = [_, D.lst _, _, _]
    unfold combs
    rw [List.map_map]
    rfl
  refine rs_setV (d := lstD (combs vs inner)) ((ro_map (l := inner) (sx := nrwD) (ex := fun w => rowD (comb vs (List.ofFn w))) (js := [8]) (rj_i (rj_tup (rv_var rfl))) (by omega) (by decide) fun w _ => ⟨_, rg_name, re_call (ra_cons ((rv_var rfl)) (ra_cons ((rv_var rfl)) (ra_cons (nrow_row (rv_var rfl)) (ra_cons (sn T (rv_var rfl)) ra_nil)))) ⟨S.F, S.n, k, vs, w, by omega, rfl, rfl⟩⟩).v.is (show _ = D.lst (List.map rowD _) by unfold combs; rw [List.map_map]; rfl)) ?_
  refine rs_ret (re_make (ra_cons ((rv_var rfl)) (ra_cons (re_call (ra_cons ((rv_var rfl)) (ra_cons ((rv_var rfl)) (ra_cons (re_call (ra_cons ((rv_var rfl)) (ra_cons ((rv_var rfl)) (ra_cons ((rv_var rfl)) (ra_cons ((rv_var rfl)) ra_nil)))) ⟨S, _, _, _, ir, hn, by omega, by omega, by omega, hr, rfl, rfl⟩) (ra_cons (sn T (rv_var rfl)) ra_nil)))) ⟨S.F, S.n, S.n, true, fin, ir, by omega, by omega, rfl, rfl⟩) ra_nil)) ⟨S, times fin ir, hn, hiso, rfl, rfl⟩) ?_
  rintro d ⟨fs, rfl, rfl⟩
  rfl
end Wk
/-! # WkW9 -/
set_option Elab.async false
set_option linter.all false
set_option maxRecDepth 100000
set_option maxHeartbeats 4000000
namespace Wk
open PySem PySem.Spec PyProof.Rows L2
def sumsD (F : Fd) : D := .lst ((els F).map fun a => .lst ((els F).map fun b => elD (a + b)))
def prodsD (F : Fd) : D := .lst ((els F).map fun a => .lst ((els F).map fun b => elD (a * b)))
def fD (F : Fd) : D := .tup [nD F.q, sumsD F, prodsD F]
def sD (S : Spc) : D := .tup [.str S.kind.str, fD S.F, tabD (matL S.mat)]
theorem els_v {F : Fd} (a : El F) : (els F)[a.v]? = some a := els_at F a.v a.lt
section
variable {K : PySem.W.Frag} {r : En} {ta tb te : TE} {F : Fd} {S : Spc} {a b : El F} {ds : List D}
theorem lf0 (h : RunV K te r (fD F)) : RunV K (tOp (rIxT K) te (tC (.int 0))) r (nD F.q) := rv_ixT (k := 0) h rv_int rfl rfl
theorem lf1 (h : RunV K te r (fD F)) : RunV K (tOp (rIxT K) te (tC (.int 1))) r (sumsD F) := rv_ixT (k := 1) h rv_int rfl rfl
theorem lf2 (h : RunV K te r (fD F)) : RunV K (tOp (rIxT K) te (tC (.int 2))) r (prodsD F) := rv_ixT (k := 2) h rv_int rfl rfl
theorem lsum (h : RunV K te r (fD F)) (ha : RunV K ta r (elD a)) (hb : RunV K tb r (elD b)) : RunV K (tOp (rIxL K) (tOp (rIxL K) (tOp (rIxT K) te (tC (.int 1))) ta) tb) r (elD (a + b)) :=
  rv_ixL (k := b.v) (RunE.l (ds := (els F).map fun b => elD (a + b)) (rv_ixL (k := a.v) (RunE.l (lf1 h)) ha rfl (by rw [List.getElem?_map, els_v]; rfl))) hb rfl (by rw [List.getElem?_map, els_v]; rfl)
theorem lmul (h : RunV K te r (fD F)) (ha : RunV K ta r (elD a)) (hb : RunV K tb r (elD b)) : RunV K (tOp (rIxL K) (tOp (rIxL K) (tOp (rIxT K) te (tC (.int 2))) ta) tb) r (elD (a * b)) :=
  rv_ixL (k := b.v) (RunE.l (ds := (els F).map fun b => elD (a * b)) (rv_ixL (k := a.v) (RunE.l (lf2 h)) ha rfl (by rw [List.getElem?_map, els_v]; rfl))) hb rfl (by rw [List.getElem?_map, els_v]; rfl)
theorem ls0 (h : RunV K te r (sD S)) : RunV K (tOp (rIxT K) te (tC (.int 0))) r (.str S.kind.str) := rv_ixT (k := 0) h rv_int rfl rfl
theorem ls1 (h : RunV K te r (sD S)) : RunV K (tOp (rIxT K) te (tC (.int 1))) r (fD S.F) := rv_ixT (k := 1) h rv_int rfl rfl
theorem ls2 (h : RunV K te r (sD S)) : RunV K (tOp (rIxT K) te (tC (.int 2))) r (tabD (matL S.mat)) := rv_ixT (k := 2) h rv_int rfl rfl
theorem rl_seqT {l : List D} (h : RunV K te r (seqD true l)) : RunV K te r (.tup l) := h
end
theorem neg_index {F : Fd} (a : El F) : ((els F).map fun b => ((a + b : El F).v : Int))[(-a).v]? = some 0 ∧ ∀ m, m < (-a).v → ((els F).map fun b => ((a + b : El F).v : Int))[m]? ≠ some 0 := by
  refine ⟨?_, fun m hm => ?_⟩
  · rw [List.getElem?_map, els_v]
    have : a + -a = 0 := by grind
    rw [Option.map_some, this]
    rfl
  · have hq : m < F.q := by have := (-a).lt; omega
    rw [List.getElem?_map, els_at F m hq]
    intro e
    have e : ((a + El.mk m hq : El F).v : Int) = 0 := Option.some.inj e
    have e2 : a + El.mk m hq = 0 := El.ext (by show _ = 0; omega)
    have e3 : El.mk m hq = -a := by grind
    have := congrArg El.v e3
    rw [El.mk_v] at this
    omega
theorem bar4 {F : Fd} (h : F.q = 4) (a : El F) : a * a = ebar a := by
  have hp : F.p = 2 := by unfold Fd.p chr; rw [h]; rfl
  unfold ebar
  rw [if_neg (by omega), hp]
  grind
theorem bar9 {F : Fd} (h : F.q = 9) (a : El F) : a * (a * a) = ebar a := by
  have hp : F.p = 3 := by unfold Fd.p chr; rw [h]; rfl
  unfold ebar
  rw [if_neg (by omega), hp]
  grind
theorem barO {F : Fd} (h4 : ¬ F.q = 4) (h9 : ¬ F.q = 9) (a : El F) : a = ebar a := by
  have hp : F.p = F.q := by unfold Fd.p chr; rw [if_neg h4, if_neg h9]
  unfold ebar
  rw [if_pos hp.symm]
theorem primeP (F : Fd) : ∃ j : Nat, [2, 3, 4, 5, 7, 9][j]? = some (F.q : Int) ∧ (∀ m, m < j → [(2 : Int), 3, 4, 5, 7, 9][m]? ≠ some (F.q : Int)) ∧ ([2, 3, 2, 5, 7, 3].map D.int)[j]? = some (nD F.p) := by
  obtain ⟨q, ok⟩ := F
  rcases ok with rfl | rfl | rfl | rfl | rfl | rfl
  · exact ⟨0, rfl, by decide, rfl⟩
  · exact ⟨1, rfl, by decide, rfl⟩
  · exact ⟨2, rfl, by decide, rfl⟩
  · exact ⟨3, rfl, by decide, rfl⟩
  · exact ⟨4, rfl, by decide, rfl⟩
  · exact ⟨5, rfl, by decide, rfl⟩

def R__law_prime : List D → (D → Prop) → Prop := fun ds f => ∃ (F : Fd), ds = [nD F.q] ∧ f = fun d => d = nD F.p
abbrev sp__law_prime (K : PySem.W.Frag) : Sp := psp K R__law_prime
theorem f__law_prime {P : Program} {w : World} {K : PySem.W.Frag} {mg : Str → Option Value} {base : Heap} (T : Tx K mg base) : Cal P w K mg base 1 "_law_prime" (sp__law_prime K) := by
  refine cal_of (d__law_prime T) (g__law_prime T) (N := ["_law_q"]) (ps := ["_law_q"]) (fun _ _ _ _ _ _ us hl => match us, hl with | [_], _ => rfl) (by decide +kernel) (psp_len (by rintro ds f ⟨_, rfl, _⟩; rfl)) ?_
  intro cdv A outer sh H vs Q E hr hs
  let NN : List Str := ["_law_q"]
  have nd : List.Nodup (α := Str) ["_law_q"] := by decide +kernel
  refine ⟨_, (pss_one (ps_ret (pe_ix ix_list (pe_lst (pa_cons pe_int (pa_cons pe_int (pa_cons pe_int (pa_cons pe_int (pa_cons pe_int (pa_cons pe_int pa_nil))))))) (pe_bm PySem.F.plainAttrs_list PySem.F.slot_list_index PySem.F.type_list_index mt_index (pe_lst (pa_cons pe_int (pa_cons pe_int (pa_cons pe_int (pa_cons pe_int (pa_cons pe_int (pa_cons pe_int pa_nil))))))) (pa_cons (pv 0) pa_nil)) (fun _ _ => rfl)))), ?_⟩
  clear hr nd NN
  refine body_psp (n := 1) hs rfl ?_
  clear hs
  rintro ds f ⟨F, rfl, rfl⟩
  obtain ⟨j, k1, k2, k3⟩ := primeP F
  exact rs_retV (rv_ixL (k := j) (ds := [2, 3, 2, 5, 7, 3].map D.int) (RunO.l (rov_lst (ra_cons (rv_int) (ra_cons (rv_int) (ra_cons (rv_int) (ra_cons (rv_int) (ra_cons (rv_int) (ra_cons (rv_int) ra_nil)))))))) (rv_idxL (xs := [2, 3, 4, 5, 7, 9]) (RunO.l (rov_lst (ra_cons (rv_int) (ra_cons (rv_int) (ra_cons (rv_int) (ra_cons (rv_int) (ra_cons (rv_int) (ra_cons (rv_int) ra_nil)))))))) (rv_var rfl) k1 k2) rfl k3) rfl
def R__law_joined : List D → (D → Prop) → Prop := fun ds f => ∃ (F : Fd) (low high : Int), ds = [nD F.q, .int low, .int high] ∧ f = fun d => d = .int (fj F.q low high)
abbrev sp__law_joined (K : PySem.W.Frag) : Sp := psp K R__law_joined
theorem f__law_joined {P : Program} {w : World} {K : PySem.W.Frag} {mg : Str → Option Value} {base : Heap} (T : Tx K mg base) : Cal P w K mg base 2 "_law_joined" (sp__law_joined K) := by
  refine cal_of (d__law_joined T) (g__law_joined T) (N := ["_law_q", "_law_low", "_law_high", "_law_p"]) (ps := ["_law_q", "_law_low", "_law_high"]) (fun _ _ _ _ _ _ us hl => match us, hl with | [_, _, _], _ => rfl) (by decide +kernel) (psp_len (by rintro ds f ⟨_, _, _, rfl, _⟩; rfl)) ?_
  intro cdv A outer sh H vs Q E hr hs
  let NN : List Str := ["_law_q", "_law_low", "_law_high", "_law_p"]
  have nd : List.Nodup (α := Str) ["_law_q", "_law_low", "_law_high", "_law_p"] := by decide +kernel
  refine ⟨_, (pss_cons (ps_set (i := 3) nd rfl (by first | exact Or.inl rfl | exact Or.inr rfl) (pe_c (f__law_prime T) hr (by decide) (by rfl) (pa_cons (pv 0) pa_nil)))
 (pss_cons (ps_if (pt_cmpR op_eq (pv 3) (pv 0) (by first | exact nomark _ | rfl | with_unfolding_all rfl)) (pss_one (ps_ret (pe_op op_mod (pe_callTy call_int1 (by rfl) (b_int T) (by rfl) (pa_cons (pv 1) pa_nil)) (pv 3)))) pss_nil)
 (pss_one (ps_ret (pe_op op_add (pe_op op_mod (pe_callTy call_int1 (by rfl) (b_int T) (by rfl) (pa_cons (pv 1) pa_nil)) (pv 3)) (pe_op op_mul (pv 3) (pe_op op_mod (pe_callTy call_int1 (by rfl) (b_int T) (by rfl) (pa_cons (pv 2) pa_nil)) (pv 3)))))))), ?_⟩
  clear hr nd NN
  refine body_psp (n := 4) hs rfl ?_
  clear hs
  rintro ds f ⟨F, low, high, rfl, rfl⟩
  have hp := F.p_pos
  have hp2 := F.p_le
  refine rs_setV (re_call (ra_cons ((rv_var rfl)) ra_nil) ⟨_, rfl, rfl⟩) ?_
  refine rs_ifr (rt_test (rv_eqI (rv_var rfl) (rv_var rfl))) (fun h => rs_retV (rv_mod (rv_intI (rv_var rfl)) (rv_var rfl) (by omega)) ?_) fun h => rs_retV (rv_add (rv_mod (rv_intI (rv_var rfl)) (rv_var rfl) (by omega)) (rv_mul (rv_var rfl) (rv_mod (rv_intI (rv_var rfl)) (rv_var rfl) (by omega)) (.inl (by omega)))) ?_
  · have h := of_decide_eq_true h
    show D.int _ = D.int _
    unfold fj
    rw [if_pos (show F.q = chr F.q by have : F.p = chr F.q := rfl; omega)] <;> rfl
  · have h := of_decide_eq_false h
    show D.int _ = D.int _
    unfold fj
    rw [if_neg (show ¬ F.q = chr F.q by have : F.p = chr F.q := rfl; omega)] <;> rfl
def R__law_negative : List D → (D → Prop) → Prop := fun ds f => ∃ (F : Fd) (a : El F), ds = [fD F, elD a] ∧ f = fun d => d = elD (-a)
abbrev sp__law_negative (K : PySem.W.Frag) : Sp := psp K R__law_negative
theorem f__law_negative {P : Program} {w : World} {K : PySem.W.Frag} {mg : Str → Option Value} {base : Heap} (T : Tx K mg base) : Cal P w K mg base 1 "_law_negative" (sp__law_negative K) := by
  refine cal_of (d__law_negative T) (g__law_negative T) (N := ["_law_f", "_law_a"]) (ps := ["_law_f", "_law_a"]) (fun _ _ _ _ _ _ us hl => match us, hl with | [_, _], _ => rfl) (by decide +kernel) (psp_len (by rintro ds f ⟨_, _, rfl, _⟩; rfl)) ?_
  intro cdv A outer sh H vs Q E hr hs
  let NN : List Str := ["_law_f", "_law_a"]
  have nd : List.Nodup (α := Str) ["_law_f", "_law_a"] := by decide +kernel
  refine ⟨_, (pss_one (ps_ret (pe_bm PySem.F.plainAttrs_list PySem.F.slot_list_index PySem.F.type_list_index mt_index (pe_ix ix_list (pe_ix ix_tup (pv 0) pe_int (fun _ _ => rfl)) (pv 1) (fun _ _ => rfl)) (pa_cons pe_int pa_nil)))), ?_⟩
  clear hr nd NN
  refine body_psp (n := 2) hs rfl ?_
  clear hs
  rintro ds f ⟨F, a, rfl, rfl⟩
  obtain ⟨h1, h2⟩ := neg_index a
  refine rs_retV (rv_idxL (xs := (els F).map fun b => ((a + b : El F).v : Int)) (RunE.l ((rv_ixL (k := a.v) (d := .lst ((els F).map fun b => elD (a + b))) (RunE.l (lf1 (rv_var rfl))) (rv_var rfl) rfl (by rw [List.getElem?_map, els_v]; rfl)).is ?_)) rv_int h1 h2) rfl
  rw [List.map_map]
  rfl
def R__law_bar : List D → (D → Prop) → Prop := fun ds f => ∃ (F : Fd) (a : El F), ds = [fD F, elD a] ∧ f = fun d => d = elD (ebar a)
abbrev sp__law_bar (K : PySem.W.Frag) : Sp := psp K R__law_bar
theorem f__law_bar {P : Program} {w : World} {K : PySem.W.Frag} {mg : Str → Option Value} {base : Heap} (T : Tx K mg base) : Cal P w K mg base 1 "_law_bar" (sp__law_bar K) := by
  refine cal_of (d__law_bar T) (g__law_bar T) (N := ["_law_f", "_law_a"]) (ps := ["_law_f", "_law_a"]) (fun _ _ _ _ _ _ us hl => match us, hl with | [_, _], _ => rfl) (by decide +kernel) (psp_len (by rintro ds f ⟨_, _, rfl, _⟩; rfl)) ?_
  intro cdv A outer sh H vs Q E hr hs
  let NN : List Str := ["_law_f", "_law_a"]
  have nd : List.Nodup (α := Str) ["_law_f", "_law_a"] := by decide +kernel
  refine ⟨_, (pss_cons (ps_if (pt_cmpR op_eq (pe_ix ix_tup (pv 0) pe_int (fun _ _ => rfl)) pe_int (by first | exact nomark _ | rfl | with_unfolding_all rfl)) (pss_one (ps_ret (pe_ix ix_list (pe_ix ix_list (pe_ix ix_tup (pv 0) pe_int (fun _ _ => rfl)) (pv 1) (fun _ _ => rfl)) (pv 1) (fun _ _ => rfl)))) pss_nil)
 (pss_cons (ps_if (pt_cmpR op_eq (pe_ix ix_tup (pv 0) pe_int (fun _ _ => rfl)) pe_int (by first | exact nomark _ | rfl | with_unfolding_all rfl)) (pss_one (ps_ret (pe_ix ix_list (pe_ix ix_list (pe_ix ix_tup (pv 0) pe_int (fun _ _ => rfl)) (pv 1) (fun _ _ => rfl)) (pe_ix ix_list (pe_ix ix_list (pe_ix ix_tup (pv 0) pe_int (fun _ _ => rfl)) (pv 1) (fun _ _ => rfl)) (pv 1) (fun _ _ => rfl)) (fun _ _ => rfl)))) pss_nil)
 (pss_one (ps_ret (pv 1))))), ?_⟩
  clear hr nd NN
  refine body_psp (n := 2) hs rfl ?_
  clear hs
  rintro ds f ⟨F, a, rfl, rfl⟩
  refine rs_ifr (rt_test (rv_eqI (lf0 (rv_var rfl)) rv_int)) (fun h => rs_retV (lmul (rv_var rfl) (rv_var rfl) (rv_var rfl)) ?_) fun h4 => rs_ifr (rt_test (rv_eqI (lf0 (rv_var rfl)) rv_int)) (fun h => rs_retV (lmul (rv_var rfl) (rv_var rfl) (lmul (rv_var rfl) (rv_var rfl) (rv_var rfl))) ?_) fun h9 => rs_retV (rv_var rfl) ?_
  · have h := of_decide_eq_true h
    rw [bar4 (by omega)]
  · have h := of_decide_eq_true h
    rw [bar9 (by omega)]
  · have h4 := of_decide_eq_false h4
    have h9 := of_decide_eq_false h9
    rw [← barO (by omega) (by omega)]
def R__law_sum : List D → (D → Prop) → Prop := fun ds f => ∃ (F : Fd) (n : Nat) (v0 w0 : Row F n), ∃ (hn : n ≤ 1000), ds = [fD F, rowD v0, rowD w0] ∧ f = fun d => d = rowD (radd v0 w0)
abbrev sp__law_sum (K : PySem.W.Frag) : Sp := psp K R__law_sum
theorem f__law_sum {P : Program} {w : World} {K : PySem.W.Frag} {mg : Str → Option Value} {base : Heap} (T : Tx K mg base) : Cal P w K mg base 1 "_law_sum" (sp__law_sum K) := by
  refine cal_of (d__law_sum T) (g__law_sum T) (N := ["_law_f", "_law_v", "_law_w", "_law_k"]) (ps := ["_law_f", "_law_v", "_law_w"]) (fun _ _ _ _ _ _ us hl => match us, hl with | [_, _, _], _ => rfl) (by decide +kernel) (psp_len (by rintro ds f ⟨_, _, _, _, _, rfl, _⟩; rfl)) ?_
  intro cdv A outer sh H vs Q E hr hs
  let NN : List Str := ["_law_f", "_law_v", "_law_w", "_law_k"]
  have nd : List.Nodup (α := Str) ["_law_f", "_law_v", "_law_w", "_law_k"] := by decide +kernel
  refine ⟨_, (pss_one (ps_ret (pe_callTy call_tuple_of (by rfl) (b_tuple T) (by rfl) (pa_cons (pe_lc (own := [("_law_k", 3)]) (g := (gName 3)) (tt := tYes) (te := (tOp (rIxL K) (tOp (rIxL K) (tOp (rIxT K) (tVar 0) (tC (.int 1))) (tOp (rIxT K) (tVar 1) (tVar 3))) (tOp (rIxT K) (tVar 2) (tVar 3)))) rfl nd (pi_range1 (by rfl) (b_range T) (pa_cons (pe_callB call_len_seq (by rfl) (b_len T) PySem.boot_len (pa_cons (pv 1) pa_nil)) pa_nil)) (blkOk_by (N := NN) (by kernel_rfl)) (fun _ _ _ _ _ => (pg_name (i := 3) nd rfl (by first | exact Or.inl rfl | exact Or.inr rfl))) (fun _ _ _ _ _ => pts_nil) (fun _ _ _ _ _ => (pe_ix ix_list (pe_ix ix_list (pe_ix ix_tup (pv 0) pe_int (fun _ _ => rfl)) (pe_ix ix_tup (pv 1) (pv 3) (fun _ _ => rfl)) (fun _ _ => rfl)) (pe_ix ix_tup (pv 2) (pv 3) (fun _ _ => rfl)) (fun _ _ => rfl)))) pa_nil)))), ?_⟩
  clear hr nd NN
  refine body_psp (n := 4) hs rfl ?_
  clear hs
  rintro ds f ⟨F, n, v0, w0, hn, rfl, rfl⟩
  exact rs_retV (rv_rowT (ro_map (l := List.finRange n) (sx := fun i => nD i.val) (ex := fun i => elD (radd v0 w0 i)) (js := [3]) (rj_i (rj_rng (rv_lenT (rv_var rfl) rfl) (by rw [List.length_map, rowI_len]) (by omega))) (by rw [List.length_finRange]; omega) (by decide) fun i _ => ⟨_, rg_name, lsum (rv_var rfl) (rv_rowIx (rv_var rfl) (rv_var rfl) rfl) (rv_rowIx (rv_var rfl) (rv_var rfl) rfl)⟩)) rfl
def R__law_times : List D → (D → Prop) → Prop := fun ds f => ∃ (F : Fd) (n : Nat) (v0 : Row F n) (c : El F), ∃ (hn : n ≤ 1000), ds = [fD F, rowD v0, elD c] ∧ f = fun d => d = rowD (rscl v0 c)
abbrev sp__law_times (K : PySem.W.Frag) : Sp := psp K R__law_times
theorem f__law_times {P : Program} {w : World} {K : PySem.W.Frag} {mg : Str → Option Value} {base : Heap} (T : Tx K mg base) : Cal P w K mg base 1 "_law_times" (sp__law_times K) := by
  refine cal_of (d__law_times T) (g__law_times T) (N := ["_law_f", "_law_v", "_law_c", "_law_x"]) (ps := ["_law_f", "_law_v", "_law_c"]) (fun _ _ _ _ _ _ us hl => match us, hl with | [_, _, _], _ => rfl) (by decide +kernel) (psp_len (by rintro ds f ⟨_, _, _, _, _, rfl, _⟩; rfl)) ?_
  intro cdv A outer sh H vs Q E hr hs
  let NN : List Str := ["_law_f", "_law_v", "_law_c", "_law_x"]
  have nd : List.Nodup (α := Str) ["_law_f", "_law_v", "_law_c", "_law_x"] := by decide +kernel
  refine ⟨_, (pss_one (ps_ret (pe_callTy call_tuple_of (by rfl) (b_tuple T) (by rfl) (pa_cons (pe_lc (own := [("_law_x", 3)]) (g := (gName 3)) (tt := tYes) (te := (tOp (rIxL K) (tOp (rIxL K) (tOp (rIxT K) (tVar 0) (tC (.int 2))) (tVar 3)) (tVar 2))) rfl nd (pi_tup (pv 1)) (blkOk_by (N := NN) (by kernel_rfl)) (fun _ _ _ _ _ => (pg_name (i := 3) nd rfl (by first | exact Or.inl rfl | exact Or.inr rfl))) (fun _ _ _ _ _ => pts_nil) (fun _ _ _ _ _ => (pe_ix ix_list (pe_ix ix_list (pe_ix ix_tup (pv 0) pe_int (fun _ _ => rfl)) (pv 3) (fun _ _ => rfl)) (pv 2) (fun _ _ => rfl)))) pa_nil)))), ?_⟩
  clear hr nd NN
  refine body_psp (n := 4) hs rfl ?_
  clear hs
  rintro ds f ⟨F, n, v0, c, hn, rfl, rfl⟩
  exact rs_retV (rv_rowT (ro_map (l := List.finRange n) (sx := fun i => elD (v0 i)) (ex := fun i => elD (rscl v0 c i)) (js := [3]) (rj_i (rj_row (rv_var rfl))) (by rw [List.length_finRange]; omega) (by decide) fun i _ => ⟨_, rg_name, lmul (rv_var rfl) (rv_var rfl) (rv_var rfl)⟩)) rfl
def R__law_unit : List D → (D → Prop) → Prop := fun ds f => ∃ (F : Fd) (n : Nat) (i : Fin n), ∃ (hn : n ≤ 1000), ds = [nD n, nD i.val] ∧ f = fun d => d = rowD (runit i : Row F n)
abbrev sp__law_unit (K : PySem.W.Frag) : Sp := psp K R__law_unit
theorem f__law_unit {P : Program} {w : World} {K : PySem.W.Frag} {mg : Str → Option Value} {base : Heap} (T : Tx K mg base) : Cal P w K mg base 1 "_law_unit" (sp__law_unit K) := by
  refine cal_of (d__law_unit T) (g__law_unit T) (N := ["_law_n", "_law_i", "_law_k"]) (ps := ["_law_n", "_law_i"]) (fun _ _ _ _ _ _ us hl => match us, hl with | [_, _], _ => rfl) (by decide +kernel) (psp_len (by rintro ds f ⟨_, _, _, _, rfl, _⟩; rfl)) ?_
  intro cdv A outer sh H vs Q E hr hs
  let NN : List Str := ["_law_n", "_law_i", "_law_k"]
  have nd : List.Nodup (α := Str) ["_law_n", "_law_i", "_law_k"] := by decide +kernel
  refine ⟨_, (pss_one (ps_ret (pe_callTy call_tuple_of (by rfl) (b_tuple T) (by rfl) (pa_cons (pe_lc (own := [("_law_k", 2)]) (g := (gName 2)) (tt := tYes) (te := (tCB rInt1 (tCons (tOp rEq (tVar 2) (tVar 1)) tNil))) rfl nd (pi_range1 (by rfl) (b_range T) (pa_cons (pv 0) pa_nil)) (blkOk_by (N := NN) (by kernel_rfl)) (fun _ _ _ _ _ => (pg_name (i := 2) nd rfl (by first | exact Or.inl rfl | exact Or.inr rfl))) (fun _ _ _ _ _ => pts_nil) (fun _ _ _ _ _ => (pe_callTy call_int1 (by rfl) (b_int T) (by rfl) (pa_cons (pe_cmpR op_eq (pv 2) (pv 1) (by first | exact nomark _ | rfl | with_unfolding_all rfl)) pa_nil)))) pa_nil)))), ?_⟩
  clear hr nd NN
  refine body_psp (n := 3) hs rfl ?_
  clear hs
  rintro ds f ⟨F, n, i, hn, rfl, rfl⟩
  refine rs_retV (rv_rowT (ro_map (l := List.finRange n) (sx := fun k => nD k.val) (ex := fun k => elD ((runit i : Row F n) k)) (js := [2]) (rj_i (rj_rng (rv_var rfl) rfl (by omega))) (by rw [List.length_finRange]; omega) (by decide) fun k _ => ⟨_, rg_name, (rv_intB (rv_eqI (rv_var rfl) (rv_var rfl))).is ?_⟩)) rfl
  unfold runit
  by_cases h : k = i
  · subst h
    rw [if_pos rfl, if_pos (by simp)]
    rfl
  · rw [if_neg h, if_neg (by
      have : ¬ k.val = i.val := fun z => h (Fin.ext z)
      simp
      omega)]
    rfl
def R__law_combined : List D → (D → Prop) → Prop := fun ds f => ∃ (F : Fd) (n k : Nat) (b : Bool) (l : List (Row F n)) (c : Row F k), ∃ (hn : n ≤ 1000), ∃ (hk : k ≤ 1000), ∃ (hl : l.length = k), ds = [fD F, seqD b (l.map rowD), rowD c, nD n] ∧ f = fun d => d = rowD (comb l (List.ofFn c))
abbrev sp__law_combined (K : PySem.W.Frag) : Sp := psp K R__law_combined
theorem f__law_combined {P : Program} {w : World} {K : PySem.W.Frag} {mg : Str → Option Value} {base : Heap} (T : Tx K mg base) : Cal P w K mg base 2 "_law_combined" (sp__law_combined K) := by
  refine cal_of (d__law_combined T) (g__law_combined T) (N := ["_law_f", "_law_rows_here", "_law_weights", "_law_n", "_law_total", "_law_k"]) (ps := ["_law_f", "_law_rows_here", "_law_weights", "_law_n"]) (fun _ _ _ _ _ _ us hl => match us, hl with | [_, _, _, _], _ => rfl) (by decide +kernel) (psp_len (by rintro ds f ⟨_, _, _, _, _, _, _, _, _, rfl, _⟩; rfl)) ?_
  intro cdv A outer sh H vs Q E hr hs
  let NN : List Str := ["_law_f", "_law_rows_here", "_law_weights", "_law_n", "_law_total", "_law_k"]
  have nd : List.Nodup (α := Str) ["_law_f", "_law_rows_here", "_law_weights", "_law_n", "_law_total", "_law_k"] := by decide +kernel
  refine ⟨_, (pss_cons (ps_set (i := 4) nd rfl (by first | exact Or.inl rfl | exact Or.inr rfl) (pe_callTy call_tuple_of (by rfl) (b_tuple T) (by rfl) (pa_cons (pe_lc (own := [("_law_k", 5)]) (g := (gName 5)) (tt := tYes) (te := (tC (.int 0))) rfl nd (pi_range1 (by rfl) (b_range T) (pa_cons (pv 3) pa_nil)) (blkOk_by (N := NN) (by kernel_rfl)) (fun _ _ _ _ _ => (pg_name (i := 5) nd rfl (by first | exact Or.inl rfl | exact Or.inr rfl))) (fun _ _ _ _ _ => pts_nil) (fun _ _ _ _ _ => pe_int)) pa_nil)))
 (pss_cons (ps_for PassesOwn.never rfl (pi_range1 (by rfl) (b_range T) (pa_cons (pe_callB call_len_seq (by rfl) (b_len T) PySem.boot_len (pa_cons (pv 2) pa_nil)) pa_nil)) (pg_name (i := 5) nd rfl (by first | exact Or.inl rfl | exact Or.inr rfl)) (pss_one (ps_set (i := 4) nd rfl (by first | exact Or.inl rfl | exact Or.inr rfl) (pe_c (f__law_sum T) hr (by decide) (by rfl) (pa_cons (pv 0) (pa_cons (pv 4) (pa_cons (pe_c (f__law_times T) hr (by decide) (by rfl) (pa_cons (pv 0) (pa_cons (pe_or2 (pe_ix ix_list (pv 1) (pv 5) (fun _ _ => rfl)) (pe_ix ix_tup (pv 1) (pv 5) (fun _ _ => rfl))) (pa_cons (pe_ix ix_tup (pv 2) (pv 5) (fun _ _ => rfl)) pa_nil)))) pa_nil)))))))
 (pss_one (ps_ret (pv 4))))), ?_⟩
  clear hr nd NN
  refine body_psp (n := 6) hs rfl ?_
  clear hs
  rintro ds f ⟨F, n, k, b, l, c, hn, hk, hl, rfl, rfl⟩
  have e : (List.finRange k).foldl (fun s (i : Fin k) => radd s (rscl (l[i.val]'(by omega)) (c i))) rzero = comb l (List.ofFn c) := by
    have e2 : l.zip (List.ofFn c) = (List.finRange k).map fun (i : Fin k) => (l[i.val]'(by omega), c i) := by
      apply List.ext_getElem
      · simp [hl]
      · intro i h1 h2; simp
    unfold comb
    rw [e2, List.foldl_map]
  refine rs_setV (rv_rowT (f := (rzero : Row F n)) (ro_map (l := List.finRange n) (sx := fun k => nD k.val) (ex := fun k => elD ((rzero : Row F n) k)) (js := [5]) (rj_i (rj_rng (rv_var rfl) rfl (by omega))) (by rw [List.length_finRange]; omega) (by decide) fun k _ => ⟨_, rg_name, rv_e0⟩)) ?_
  refine rs_forF (l := List.finRange k) (sx := fun i => nD i.val) (js := [5]) (fun s (i : Fin k) => radd s (rscl (l[i.val]'(by omega)) (c i))) (fun _ => True) (fun s => [.im (fD F), .im (seqD b (l.map rowD)), .im (rowD c), .im (nD n), .im (rowD s), .un]) rzero (rj_rng (rv_lenT (rv_var rfl) rfl) (by rw [List.length_map, rowI_len]) (by omega)) (by repeat' (first | exact True.intro | refine And.intro ?_ ?_ | exact Or.inl rfl | exact Or.inr rfl)) (fun pre i post _ _ => ⟨_, rg_name, (fun _ h => h), ?_⟩) fun _ => ?_
  · refine rs_set (re_call (ra_cons ((rv_var rfl)) (ra_cons ((rv_var rfl)) (ra_cons (re_call (ra_cons ((rv_var rfl)) (ra_cons (rv_ixQ (rv_var rfl) (rv_var rfl) rfl (tab_at (List.getElem?_eq_getElem (by omega)))) (ra_cons (rv_rowIx (rv_var rfl) (rv_var rfl) rfl) ra_nil))) ⟨_, _, _, _, hn, rfl, rfl⟩) ra_nil))) ⟨_, _, _, _, hn, rfl, rfl⟩) ?_
    rintro d rfl
    exact ⟨trivial, (by repeat' (first | exact True.intro | refine And.intro ?_ ?_ | exact Or.inl rfl | exact Or.inr rfl))⟩
  · rw [e]
    exact rs_retV (rv_var rfl) rfl
def R__law_image : List D → (D → Prop) → Prop := fun ds f => ∃ (F : Fd) (n : Nat) (x : Row F n) (m : List (Row F n)), ∃ (hn : n ≤ 1000), ∃ (hm : m.length = n), ds = [fD F, rowD x, tabD m] ∧ f = fun d => d = rowD (moved x m)
abbrev sp__law_image (K : PySem.W.Frag) : Sp := psp K R__law_image
theorem f__law_image {P : Program} {w : World} {K : PySem.W.Frag} {mg : Str → Option Value} {base : Heap} (T : Tx K mg base) : Cal P w K mg base 3 "_law_image" (sp__law_image K) := by
  refine cal_of (d__law_image T) (g__law_image T) (N := ["_law_f", "_law_x", "_law_matrix"]) (ps := ["_law_f", "_law_x", "_law_matrix"]) (fun _ _ _ _ _ _ us hl => match us, hl with | [_, _, _], _ => rfl) (by decide +kernel) (psp_len (by rintro ds f ⟨_, _, _, _, _, _, rfl, _⟩; rfl)) ?_
  intro cdv A outer sh H vs Q E hr hs
  let NN : List Str := ["_law_f", "_law_x", "_law_matrix"]
  have nd : List.Nodup (α := Str) ["_law_f", "_law_x", "_law_matrix"] := by decide +kernel
  refine ⟨_, (pss_one (ps_ret (pe_c (f__law_combined T) hr (by decide) (by rfl) (pa_cons (pv 0) (pa_cons (pv 2) (pa_cons (pv 1) (pa_cons (pe_callB call_len_seq (by rfl) (b_len T) PySem.boot_len (pa_cons (pv 1) pa_nil)) pa_nil))))))), ?_⟩
  clear hr nd NN
  refine body_psp (n := 3) hs rfl ?_
  clear hs
  rintro ds f ⟨F, n, x, m, hn, hm, rfl, rfl⟩
  exact rs_retV (re_call (ra_cons ((rv_var rfl)) (ra_cons ((rv_var rfl)) (ra_cons ((rv_var rfl)) (ra_cons (rv_lenT (rv_var rfl) (k := (n : Int)) (by rw [List.length_map, rowI_len])) ra_nil)))) ⟨F, n, n, true, m, x, hn, hn, hm, rfl, rfl⟩) rfl
def R__law_space : List D → (D → Prop) → Prop := fun ds f => ∃ (S : Spc), ∃ (hS : S.ok), ds = [sD S] ∧ f = fun d => d = spcD S
abbrev sp__law_space (K : PySem.W.Frag) : Sp := psp K R__law_space
theorem f__law_space {P : Program} {w : World} {K : PySem.W.Frag} {mg : Str → Option Value} {base : Heap} (T : Tx K mg base) : Cal P w K mg base 8 "_law_space" (sp__law_space K) := by
  refine cal_of (d__law_space T) (g__law_space T) (N := ["_law_s"]) (ps := ["_law_s"]) (fun _ _ _ _ _ _ us hl => match us, hl with | [_], _ => rfl) (by decide +kernel) (psp_len (by rintro ds f ⟨_, _, rfl, _⟩; rfl)) ?_
  intro cdv A outer sh H vs Q E hr hs
  let NN : List Str := ["_law_s"]
  have nd : List.Nodup (α := Str) ["_law_s"] := by decide +kernel
  refine ⟨_, (pss_one (ps_ret (pe_mk (f_Space___init__ T) hr (by decide) (by rfl) (pa_cons (pe_ix ix_tup (pv 0) pe_int (fun _ _ => rfl)) (pa_cons (pe_ix ix_tup (pe_ix ix_tup (pv 0) pe_int (fun _ _ => rfl)) pe_int (fun _ _ => rfl)) (pa_cons (pe_ix ix_tup (pv 0) pe_int (fun _ _ => rfl)) pa_nil)))))), ?_⟩
  clear hr nd NN
  refine body_psp (n := 1) hs rfl ?_
  clear hs
  rintro ds f ⟨S, hS, rfl, rfl⟩
  refine rs_ret (re_make (ra_cons (ls0 (rv_var rfl)) (ra_cons (lf0 (ls1 (rv_var rfl))) (ra_cons (ls2 (rv_var rfl)) ra_nil))) ⟨S, hS, rfl, rfl⟩) ?_
  rintro d ⟨fs, rfl, rfl⟩
  rfl
def R__law_is_matrix : List D → (D → Prop) → Prop := fun ds f => ∃ (F : Fd) (n : Nat) (m : List (Row F n)), ∃ (hm : m.length = n), ds = [fD F, tabD m, nD n] ∧ f = fun d => d = .bl true
abbrev sp__law_is_matrix (K : PySem.W.Frag) : Sp := psp K R__law_is_matrix
theorem f__law_is_matrix {P : Program} {w : World} {K : PySem.W.Frag} {mg : Str → Option Value} {base : Heap} (T : Tx K mg base) : Cal P w K mg base 1 "_law_is_matrix" (sp__law_is_matrix K) := by
  refine cal_of (d__law_is_matrix T) (g__law_is_matrix T) (N := ["_law_f", "_law_value_here", "_law_n", "_law_row", "_law_item"]) (ps := ["_law_f", "_law_value_here", "_law_n"]) (fun _ _ _ _ _ _ us hl => match us, hl with | [_, _, _], _ => rfl) (by decide +kernel) (psp_len (by rintro ds f ⟨_, _, _, _, rfl, _⟩; rfl)) ?_
  intro cdv A outer sh H vs Q E hr hs
  let NN : List Str := ["_law_f", "_law_value_here", "_law_n", "_law_row", "_law_item"]
  have nd : List.Nodup (α := Str) ["_law_f", "_law_value_here", "_law_n", "_law_row", "_law_item"] := by decide +kernel
  refine ⟨_, (pss_cons (ps_if (PW.pt (pw_or (pt_not (pt_val (pe_callB call_isi (by rfl) (b_isinstance T) (by rfl) (pa_cons (pv 1) (pa_cons (pe_bltn (v := .ty "tuple") (by rfl) (b_tuple T) (by rfl) rfl) pa_nil))))) (pw_or1 (pt_cmpR op_ne (pe_callB call_len_seq (by rfl) (b_len T) PySem.boot_len (pa_cons (pv 1) pa_nil)) (pv 2) (by first | exact nomark _ | rfl | with_unfolding_all rfl))))) (pss_one (ps_ret pe_bl)) pss_nil)
 (pss_cons (ps_for PassesOwn.never rfl (pi_tup (pv 1)) (pg_name (i := 3) nd rfl (by first | exact Or.inl rfl | exact Or.inr rfl)) (pss_cons (ps_if (PW.pt (pw_or (pt_not (pt_val (pe_callB call_isi (by rfl) (b_isinstance T) (by rfl) (pa_cons (pv 3) (pa_cons (pe_bltn (v := .ty "tuple") (by rfl) (b_tuple T) (by rfl) rfl) pa_nil))))) (pw_or1 (pt_cmpR op_ne (pe_callB call_len_seq (by rfl) (b_len T) PySem.boot_len (pa_cons (pv 3) pa_nil)) (pv 2) (by first | exact nomark _ | rfl | with_unfolding_all rfl))))) (pss_one (ps_ret pe_bl)) pss_nil)
 (pss_one (ps_for PassesOwn.never rfl (pi_tup (pv 3)) (pg_name (i := 4) nd rfl (by first | exact Or.inl rfl | exact Or.inr rfl)) (pss_one (ps_if (PW.pt (pw_or (pt_not (pt_val (pe_callB call_isi (by rfl) (b_isinstance T) (by rfl) (pa_cons (pv 4) (pa_cons (pe_bltn (v := .ty "int") (by rfl) (b_int T) (by rfl) rfl) pa_nil))))) (pw_or (pt_val (pe_callB call_isi (by rfl) (b_isinstance T) (by rfl) (pa_cons (pv 4) (pa_cons (pe_bltn (v := .ty "bool") (by rfl) (b_bool T) (by rfl) rfl) pa_nil)))) (pw_or1 (pt_not (pt_chain op_le op_lt pe_int (pv 4) (pe_ix ix_tup (pv 0) pe_int (fun _ _ => rfl)))))))) (pss_one (ps_ret pe_bl)) pss_nil))))))
 (pss_one (ps_ret pe_bl)))), ?_⟩
  clear hr nd NN
  refine body_psp (n := 5) hs rfl ?_
  clear hs
  rintro ds f ⟨F, n, m, hm, rfl, rfl⟩
  refine rs_guard ((rt_or (rt_not (rt_B (rv_isi (b := true) (rv_var rfl) rfl (by decide +kernel)))) fun _ => rt_test (rv_neI (rv_lenT (rv_var rfl) rfl) (rv_var rfl))).is ?_) ?_
  · rw [List.length_map, hm]
    simp
  refine rs_forF (l := m) (sx := rowD) (js := [3]) (fun (u : Unit) _ => u) (fun _ => True) (fun _ => [.im (fD F), .im (tabD m), .im (nD n), .un, .un]) () (rj_tup (rv_var rfl)) (by repeat' (first | exact True.intro | refine And.intro ?_ ?_ | exact Or.inl rfl | exact Or.inr rfl)) (fun pre v post _ _ => ⟨_, rg_name, (fun _ h => h), ?_⟩) fun _ => rs_retV rv_bl rfl
  refine rs_guard ((rt_or (rt_not (rt_B (rv_isi (b := true) (rv_var rfl) rfl (by decide +kernel)))) fun _ => rt_test (rv_neI (rv_lenT (rv_var rfl) rfl) (rv_var rfl))).is ?_) ?_
  · rw [List.length_map, rowI_len]
    simp
  refine rs_forF1 (l := List.finRange n) (sx := fun i => elD (v i)) (js := [4]) (fun (u : Unit) _ => u) (fun _ => True) (fun _ => [.im (fD F), .im (tabD m), .im (nD n), .im (rowD v), .un]) () (rj_row (rv_var rfl)) (by repeat' (first | exact True.intro | refine And.intro ?_ ?_ | exact Or.inl rfl | exact Or.inr rfl)) (fun pre i post _ _ => ⟨_, rg_name, (fun _ h => h), ?_⟩) fun _ => ⟨trivial, (by repeat' (first | exact True.intro | refine And.intro ?_ ?_ | exact Or.inl rfl | exact Or.inr rfl))⟩
  have hv := (v i).lt
  refine rs_if ((rt_or (rt_not (rt_B (rv_isi (b := true) (rv_var rfl) rfl (by decide +kernel)))) fun _ => rt_or (rt_B (rv_isi (b := false) (rv_var rfl) rfl (by decide +kernel))) fun _ => rt_not (rt_test (rv_chain rv_int (rv_var rfl) (lf0 (rv_var rfl))))).is (b := false) ?_) (fun h => nomatch h) fun _ => rs_next ⟨trivial, (by repeat' (first | exact True.intro | refine And.intro ?_ ?_ | exact Or.inl rfl | exact Or.inr rfl))⟩
  rw [decide_eq_true (show (0 : Int) ≤ ((v i).v : Int) by omega), decide_eq_true (show ((v i).v : Int) < (F.q : Int) by omega)]
  rfl
def R__law_product : List D → (D → Prop) → Prop := fun ds f => ∃ (S : Spc) (x y : Row S.F S.n), ∃ (hn : S.n ≤ 6), ds = [sD S, rowD x, rowD y] ∧ f = fun d => d = elD (S.lprod x y)
abbrev sp__law_product (K : PySem.W.Frag) : Sp := psp K R__law_product
theorem f__law_product {P : Program} {w : World} {K : PySem.W.Frag} {mg : Str → Option Value} {base : Heap} (T : Tx K mg base) : Cal P w K mg base 2 "_law_product" (sp__law_product K) := by
  refine cal_of (d__law_product T) (g__law_product T) (N := ["_law_s", "_law_x", "_law_y", "_law_kind", "_law_f", "_law_matrix", "_law_total", "_law_i", "_law_j", "_law_c", "_law_one", "_law_two", "_law_last"]) (ps := ["_law_s", "_law_x", "_law_y"]) (fun _ _ _ _ _ _ us hl => match us, hl with | [_, _, _], _ => rfl) (by decide +kernel) (psp_len (by rintro ds f ⟨_, _, _, _, rfl, _⟩; rfl)) ?_
  intro cdv A outer sh H vs Q E hr hs
  let NN : List Str := ["_law_s", "_law_x", "_law_y", "_law_kind", "_law_f", "_law_matrix", "_law_total", "_law_i", "_law_j", "_law_c", "_law_one", "_law_two", "_law_last"]
  have nd : List.Nodup (α := Str) ["_law_s", "_law_x", "_law_y", "_law_kind", "_law_f", "_law_matrix", "_law_total", "_law_i", "_law_j", "_law_c", "_law_one", "_law_two", "_law_last"] := by decide +kernel
  refine ⟨_, (pss_cons (ps_asg (pv 0) (pg_tup rfl (pgs_cons (pg_name (i := 3) nd rfl (by first | exact Or.inl rfl | exact Or.inr rfl)) (pgs_cons (pg_name (i := 4) nd rfl (by first | exact Or.inl rfl | exact Or.inr rfl)) (pgs_cons (pg_name (i := 5) nd rfl (by first | exact Or.inl rfl | exact Or.inr rfl)) pgs_nil)))))
 (pss_cons (ps_set (i := 6) nd rfl (by first | exact Or.inl rfl | exact Or.inr rfl) pe_int)
 (pss_cons (ps_for PassesOwn.never rfl (pi_range1 (by rfl) (b_range T) (pa_cons (pe_callB call_len_seq (by rfl) (b_len T) PySem.boot_len (pa_cons (pv 1) pa_nil)) pa_nil)) (pg_name (i := 7) nd rfl (by first | exact Or.inl rfl | exact Or.inr rfl)) (pss_one (ps_for PassesOwn.never rfl (pi_range1 (by rfl) (b_range T) (pa_cons (pe_callB call_len_seq (by rfl) (b_len T) PySem.boot_len (pa_cons (pv 1) pa_nil)) pa_nil)) (pg_name (i := 8) nd rfl (by first | exact Or.inl rfl | exact Or.inr rfl)) (pss_cons (ps_set (i := 9) nd rfl (by first | exact Or.inl rfl | exact Or.inr rfl) (pe_ix ix_tup (pe_ix ix_tup (pv 5) (pv 7) (fun _ _ => rfl)) (pv 8) (fun _ _ => rfl)))
 (pss_one (ps_if (PW.pt (pw_and (pt_cmpR op_ne (pv 9) pe_int (by first | exact nomark _ | rfl | with_unfolding_all rfl)) (pw_and1 (pt_cmpR op_eq (pv 3) pe_str (by first | exact nomark _ | rfl | with_unfolding_all rfl))))) (pss_cons (ps_set (i := 10) nd rfl (by first | exact Or.inl rfl | exact Or.inr rfl) (pe_ix ix_list (pe_ix ix_list (pe_ix ix_tup (pv 4) pe_int (fun _ _ => rfl)) (pe_ix ix_tup (pv 1) (pv 7) (fun _ _ => rfl)) (fun _ _ => rfl)) (pe_ix ix_tup (pv 2) (pv 8) (fun _ _ => rfl)) (fun _ _ => rfl)))
 (pss_cons (ps_set (i := 11) nd rfl (by first | exact Or.inl rfl | exact Or.inr rfl) (pe_ix ix_list (pe_ix ix_list (pe_ix ix_tup (pv 4) pe_int (fun _ _ => rfl)) (pe_ix ix_tup (pv 1) (pv 8) (fun _ _ => rfl)) (fun _ _ => rfl)) (pe_ix ix_tup (pv 2) (pv 7) (fun _ _ => rfl)) (fun _ _ => rfl)))
 (pss_one (ps_set (i := 6) nd rfl (by first | exact Or.inl rfl | exact Or.inr rfl) (pe_ix ix_list (pe_ix ix_list (pe_ix ix_tup (pv 4) pe_int (fun _ _ => rfl)) (pv 6) (fun _ _ => rfl)) (pe_ix ix_list (pe_ix ix_list (pe_ix ix_tup (pv 4) pe_int (fun _ _ => rfl)) (pv 9) (fun _ _ => rfl)) (pe_ix ix_list (pe_ix ix_list (pe_ix ix_tup (pv 4) pe_int (fun _ _ => rfl)) (pv 10) (fun _ _ => rfl)) (pv 11) (fun _ _ => rfl)) (fun _ _ => rfl)) (fun _ _ => rfl)))))) (pss_one (ps_if (pt_cmpR op_ne (pv 9) pe_int (by first | exact nomark _ | rfl | with_unfolding_all rfl)) (pss_cons (ps_set (i := 12) nd rfl (by first | exact Or.inl rfl | exact Or.inr rfl) (pe_ix ix_tup (pv 2) (pv 8) (fun _ _ => rfl)))
 (pss_cons (ps_if (pt_cmpR op_eq (pv 3) pe_str (by first | exact nomark _ | rfl | with_unfolding_all rfl)) (pss_one (ps_set (i := 12) nd rfl (by first | exact Or.inl rfl | exact Or.inr rfl) (pe_c (f__law_bar T) hr (by decide) (by rfl) (pa_cons (pv 4) (pa_cons (pe_ix ix_tup (pv 2) (pv 8) (fun _ _ => rfl)) pa_nil))))) pss_nil)
 (pss_one (ps_set (i := 6) nd rfl (by first | exact Or.inl rfl | exact Or.inr rfl) (pe_ix ix_list (pe_ix ix_list (pe_ix ix_tup (pv 4) pe_int (fun _ _ => rfl)) (pv 6) (fun _ _ => rfl)) (pe_ix ix_list (pe_ix ix_list (pe_ix ix_tup (pv 4) pe_int (fun _ _ => rfl)) (pv 9) (fun _ _ => rfl)) (pe_ix ix_list (pe_ix ix_list (pe_ix ix_tup (pv 4) pe_int (fun _ _ => rfl)) (pe_ix ix_tup (pv 1) (pv 7) (fun _ _ => rfl)) (fun _ _ => rfl)) (pv 12) (fun _ _ => rfl)) (fun _ _ => rfl)) (fun _ _ => rfl)))))) pss_nil))))))))
 (pss_one (ps_ret (pv 6)))))), ?_⟩
  clear hr nd NN
  refine body_psp (n := 13) hs rfl ?_
  clear hs
  rintro ds f ⟨S, x, y, hn, rfl, rfl⟩
  refine rs_tgq (js := [3, 4, 5]) (rv_var rfl) ?_
  rintro d rfl
  refine ⟨_, rg_tup3, (fun _ h => h), ?_⟩
  refine rs_setV (rv_e0 (F := S.F)) ?_
  refine rs_forF (l := List.finRange S.n) (sx := fun i => nD i.val) (js := [7]) (fun t i => (List.finRange S.n).foldl (fun t j => S.lstep x y t i j) t) (fun _ => True) (fun t => [.im (sD S), .im (rowD x), .im (rowD y), .im (.str S.kind.str), .im (fD S.F), .im (tabD (matL S.mat)), .im (elD t), .un, .un, .un, .un, .un, .un]) 0 (rj_rng (rv_lenT (rv_var rfl) rfl) (by rw [List.length_map, rowI_len]) (by omega)) (by repeat' (first | exact True.intro | refine And.intro ?_ ?_ | exact Or.inl rfl | exact Or.inr rfl)) (fun pre i post _ _ => ⟨_, rg_name, (fun _ h => h), ?_⟩) fun _ => rs_retV (rv_var rfl) rfl
  generalize pre.foldl (fun t i => (List.finRange S.n).foldl (fun t j => S.lstep x y t i j) t) 0 = t0
  refine rs_forF1 (l := List.finRange S.n) (sx := fun i => nD i.val) (js := [8]) (fun t j => S.lstep x y t i j) (fun _ => True) (fun t => [.im (sD S), .im (rowD x), .im (rowD y), .im (.str S.kind.str), .im (fD S.F), .im (tabD (matL S.mat)), .im (elD t), .im (nD i.val), .un, .un, .un, .un, .un]) t0 (rj_rng (rv_lenT (rv_var rfl) rfl) (by rw [List.length_map, rowI_len]) (by omega)) (by repeat' (first | exact True.intro | refine And.intro ?_ ?_ | exact Or.inl rfl | exact Or.inr rfl)) (fun pre j post _ _ => ⟨_, rg_name, (fun _ h => h), ?_⟩) fun _ => ⟨trivial, (by repeat' (first | exact True.intro | refine And.intro ?_ ?_ | exact Or.inl rfl | exact Or.inr rfl))⟩
  generalize pre.foldl (fun t j => S.lstep x y t i j) t0 = t
  refine rs_setV (rv_rowIx (i := j) (rv_matIx (i := i) (rv_var rfl) (rv_var rfl) rfl) (rv_var rfl) rfl) ?_
  refine rs_if (rt_and (rt_test (rv_neE (rv_var rfl) rv_e0)) fun _ => rt_test (rv_eqS (rv_var rfl) rv_str)) (fun h => ?_) fun h => ?_
  · rw [kQ, Bool.and_eq_true] at h
    obtain ⟨h1, h2⟩ := h
    have h1 : ¬ S.mat i j = 0 := by simpa using h1
    have h2 : S.kind = .quad := by simpa using h2
    refine rs_setV (lmul (rv_var rfl) (rv_rowIx (i := i) (rv_var rfl) (rv_var rfl) rfl) (rv_rowIx (i := j) (rv_var rfl) (rv_var rfl) rfl)) ?_
    refine rs_setV (lmul (rv_var rfl) (rv_rowIx (i := j) (rv_var rfl) (rv_var rfl) rfl) (rv_rowIx (i := i) (rv_var rfl) (rv_var rfl) rfl)) ?_
    refine rs_set (lsum (rv_var rfl) (rv_var rfl) (lmul (rv_var rfl) (rv_var rfl) (lsum (rv_var rfl) (rv_var rfl) (rv_var rfl)))) ?_
    rintro d rfl
    refine ⟨trivial, ?_⟩
    unfold Spc.lstep
    rw [if_neg h1, if_pos h2]
    exact (by repeat' (first | exact True.intro | refine And.intro ?_ ?_ | exact Or.inl rfl | exact Or.inr rfl))
  refine rs_if (rt_test (rv_neE (rv_var rfl) rv_e0)) (fun h1 => ?_) fun h1 => ?_
  · have h1 : ¬ S.mat i j = 0 := by simpa using h1
    have h2 : ¬ S.kind = .quad := by
      rw [kQ, decide_eq_false h1] at h
      simpa using h
    refine rs_setV (rv_rowIx (i := j) (rv_var rfl) (rv_var rfl) rfl) ?_
    refine rs_seq (fun r' => LeE r' [.im (sD S), .im (rowD x), .im (rowD y), .im (.str S.kind.str), .im (fD S.F), .im (tabD (matL S.mat)), .im (elD t), .im (nD i.val), .im (nD j.val), .im (elD (S.mat i j)), .un, .un, .im (elD (if S.kind = .herm then ebar (y j) else y j))]) (rs_if (rt_test (rv_eqS (rv_var rfl) rv_str)) (fun h => rs_set (re_call (ra_cons ((rv_var rfl)) (ra_cons (rv_rowIx (i := j) (rv_var rfl) (rv_var rfl) rfl) ra_nil)) ⟨_, _, rfl, rfl⟩) ?_) fun h => rs_next ?_) fun r' e => rs_weak e ?_
    · rw [kH] at h
      have h : S.kind = .herm := by simpa using h
      rintro d rfl
      rw [if_pos h]
      exact (by repeat' (first | exact True.intro | refine And.intro ?_ ?_ | exact Or.inl rfl | exact Or.inr rfl))
    · rw [kH] at h
      have h : ¬ S.kind = .herm := by simpa using h
      rw [if_neg h]
      exact (by repeat' (first | exact True.intro | refine And.intro ?_ ?_ | exact Or.inl rfl | exact Or.inr rfl))
    refine rs_set (lsum (rv_var rfl) (rv_var rfl) (lmul (rv_var rfl) (rv_var rfl) (lmul (rv_var rfl) (rv_rowIx (i := i) (rv_var rfl) (rv_var rfl) rfl) (rv_var rfl)))) ?_
    rintro d rfl
    refine ⟨trivial, ?_⟩
    unfold Spc.lstep
    rw [if_neg h1, if_neg h2]
    exact (by repeat' (first | exact True.intro | refine And.intro ?_ ?_ | exact Or.inl rfl | exact Or.inr rfl))
  · have h1 : S.mat i j = 0 := by simpa using h1
    refine rs_next ⟨trivial, ?_⟩
    unfold Spc.lstep
    rw [if_pos h1]
    exact (by repeat' (first | exact True.intro | refine And.intro ?_ ?_ | exact Or.inl rfl | exact Or.inr rfl))
end Wk
/-! # WkW10 -/
set_option Elab.async false
set_option linter.all false
set_option maxRecDepth 100000
set_option maxHeartbeats 4000000
namespace Wk
open PySem PySem.Spec PyProof.Rows L2
theorem fin_val (n : Nat) : (List.finRange n).map (fun j => j.val) = List.range n := by
  apply List.ext_getElem
  · simp
  · intro i h1 h2; simp
theorem range_from {i n : Nat} (h : i ≤ n) : (List.range n).filter (fun k => decide (i ≤ k)) = (List.range (n - i)).map fun t => i + t := by
  obtain ⟨m, rfl⟩ := Nat.le.dest h
  rw [show i + m - i = m by omega, List.range_add, List.filter_append]
  have h1 : (List.range i).filter (fun k => decide (i ≤ k)) = [] := by
    rw [List.filter_eq_nil_iff]
    intro a ha
    have := List.mem_range.mp ha
    simp
    omega
  have h2 : ((List.range m).map fun x => i + x).filter (fun k => decide (i ≤ k)) = (List.range m).map fun x => i + x := by
    rw [List.filter_eq_self]
    intro a ha
    obtain ⟨x, _, rfl⟩ := List.mem_map.mp ha
    simp
  rw [h1, h2, List.nil_append]
theorem fin_from {n : Nat} (i : Fin n) : ((List.finRange n).filter fun j => decide (i ≤ j)).map (fun j => nD j.val) = (List.range (n - i.val)).map fun t => nD (i.val + t) := by
  have e1 : ((List.finRange n).filter fun j => decide (i ≤ j)).map (fun j => j.val) = (List.range n).filter fun k => decide (i.val ≤ k) := by
    rw [← fin_val, List.filter_map]
    rfl
  have e2 := range_from (i := i.val) (n := n) (by have := i.isLt; omega)
  have e3 := congrArg (List.map nD) (e1.trans e2)
  rw [List.map_map, List.map_map] at e3
  exact e3
theorem foldl_app {A B : Type} (g : A → List B) : ∀ (l : List A) (s : List B), l.foldl (fun s a => s ++ g a) s = s ++ l.flatMap g
  | [], s => by simp
  | a :: l, s => by rw [List.foldl_cons, foldl_app g l, List.flatMap_cons, List.append_assoc]
theorem flat_one {A B : Type} (f : A → B) : ∀ l : List A, l.flatMap (fun a => [f a]) = l.map f
  | [] => rfl
  | a :: l => by rw [List.flatMap_cons, flat_one f l]; rfl
theorem foldl_count {A : Type} : ∀ (l : List A) (k : Nat), l.foldl (fun k _ => k + 1) k = k + l.length
  | [], k => rfl
  | a :: l, k => by rw [List.foldl_cons, foldl_count l, List.length_cons]; omega
theorem allMats_mem {F : Fd} {n : Nat} : ∀ {k : Nat} {m : List (Row F n)}, m ∈ allMats F n k → m.length = k
  | 0, m, h => by
    have : m = [] := by simpa [allMats] using h
    rw [this]; rfl
  | k + 1, m, h => by
    unfold allMats at h
    obtain ⟨a, ha, hm⟩ := List.mem_flatMap.mp h
    obtain ⟨r, _, e⟩ := List.mem_map.mp hm
    rw [← e, List.length_append, allMats_mem ha]
    rfl
theorem lstD_ilst {F : Fd} {n : Nat} (l : List (Row F n)) : lstD l = ilst (l.map rowI) := congrArg D.lst (tab_map l)
theorem flat_len {A B : Type} {g : A → List B} {q : Nat} (h : ∀ a, (g a).length = q) : ∀ l : List A, (l.flatMap g).length = l.length * q
  | [] => by simp
  | a :: l => by rw [List.flatMap_cons, List.length_append, h a, flat_len h l, List.length_cons, Nat.succ_mul]; omega
theorem lspan_len {F : Fd} {n : Nat} : ∀ (rows found : List (Row F n)), (rows.foldl lspanStep found).length ≤ found.length * 9 ^ rows.length
  | [], found => by simp
  | r :: rows, found => by
    rw [List.foldl_cons]
    refine Nat.le_trans (lspan_len rows _) ?_
    have : (lspanStep found r).length ≤ found.length * 9 := by
      unfold lspanStep
      split
      · omega
      · rw [flat_len (q := F.q) (fun a => by rw [List.length_map, els_len])]
        exact Nat.mul_le_mul_left _ F.le
    rw [List.length_cons, Nat.pow_succ]
    calc _ ≤ found.length * 9 * 9 ^ rows.length := Nat.mul_le_mul_right _ this
      _ = _ := by rw [Nat.mul_assoc, Nat.mul_comm 9]

def R__law_value : List D → (D → Prop) → Prop := fun ds f => ∃ (S : Spc) (x : Row S.F S.n), ∃ (hn : S.n ≤ 6), ds = [sD S, rowD x] ∧ f = fun d => d = elD (S.lvalue x)
abbrev sp__law_value (K : PySem.W.Frag) : Sp := psp K R__law_value
theorem f__law_value {P : Program} {w : World} {K : PySem.W.Frag} {mg : Str → Option Value} {base : Heap} (T : Tx K mg base) : Cal P w K mg base 3 "_law_value" (sp__law_value K) := by
  refine cal_of (d__law_value T) (g__law_value T) (N := ["_law_s", "_law_x", "_law_kind", "_law_f", "_law_matrix", "_law_total", "_law_i", "_law_j"]) (ps := ["_law_s", "_law_x"]) (fun _ _ _ _ _ _ us hl => match us, hl with | [_, _], _ => rfl) (by decide +kernel) (psp_len (by rintro ds f ⟨_, _, _, rfl, _⟩; rfl)) ?_
  intro cdv A outer sh H vs Q E hr hs
  let NN : List Str := ["_law_s", "_law_x", "_law_kind", "_law_f", "_law_matrix", "_law_total", "_law_i", "_law_j"]
  have nd : List.Nodup (α := Str) ["_law_s", "_law_x", "_law_kind", "_law_f", "_law_matrix", "_law_total", "_law_i", "_law_j"] := by decide +kernel
  refine ⟨_, (pss_cons (ps_asg (pv 0) (pg_tup rfl (pgs_cons (pg_name (i := 2) nd rfl (by first | exact Or.inl rfl | exact Or.inr rfl)) (pgs_cons (pg_name (i := 3) nd rfl (by first | exact Or.inl rfl | exact Or.inr rfl)) (pgs_cons (pg_name (i := 4) nd rfl (by first | exact Or.inl rfl | exact Or.inr rfl)) pgs_nil)))))
 (pss_cons (ps_if (pt_cmpR op_eq (pv 2) pe_str (by first | exact nomark _ | rfl | with_unfolding_all rfl)) (pss_one (ps_ret pe_int)) pss_nil)
 (pss_cons (ps_if (pt_cmpR op_eq (pv 2) pe_str (by first | exact nomark _ | rfl | with_unfolding_all rfl)) (pss_one (ps_ret (pe_c (f__law_product T) hr (by decide) (by rfl) (pa_cons (pv 0) (pa_cons (pv 1) (pa_cons (pv 1) pa_nil)))))) pss_nil)
 (pss_cons (ps_set (i := 5) nd rfl (by first | exact Or.inl rfl | exact Or.inr rfl) pe_int)
 (pss_cons (ps_for PassesOwn.never rfl (pi_range1 (by rfl) (b_range T) (pa_cons (pe_callB call_len_seq (by rfl) (b_len T) PySem.boot_len (pa_cons (pv 1) pa_nil)) pa_nil)) (pg_name (i := 6) nd rfl (by first | exact Or.inl rfl | exact Or.inr rfl)) (pss_one (ps_for PassesOwn.never rfl (pi_range2 (by rfl) (b_range T) (pa_cons (pv 6) (pa_cons (pe_callB call_len_seq (by rfl) (b_len T) PySem.boot_len (pa_cons (pv 1) pa_nil)) pa_nil))) (pg_name (i := 7) nd rfl (by first | exact Or.inl rfl | exact Or.inr rfl)) (pss_one (ps_set (i := 5) nd rfl (by first | exact Or.inl rfl | exact Or.inr rfl) (pe_ix ix_list (pe_ix ix_list (pe_ix ix_tup (pv 3) pe_int (fun _ _ => rfl)) (pv 5) (fun _ _ => rfl)) (pe_ix ix_list (pe_ix ix_list (pe_ix ix_tup (pv 3) pe_int (fun _ _ => rfl)) (pe_ix ix_tup (pe_ix ix_tup (pv 4) (pv 6) (fun _ _ => rfl)) (pv 7) (fun _ _ => rfl)) (fun _ _ => rfl)) (pe_ix ix_list (pe_ix ix_list (pe_ix ix_tup (pv 3) pe_int (fun _ _ => rfl)) (pe_ix ix_tup (pv 1) (pv 6) (fun _ _ => rfl)) (fun _ _ => rfl)) (pe_ix ix_tup (pv 1) (pv 7) (fun _ _ => rfl)) (fun _ _ => rfl)) (fun _ _ => rfl)) (fun _ _ => rfl)))))))
 (pss_one (ps_ret (pv 5)))))))), ?_⟩
  clear hr nd NN
  refine body_psp (n := 8) hs rfl ?_
  clear hs
  rintro ds f ⟨S, x, hn, rfl, rfl⟩
  refine rs_tgq (js := [2, 3, 4]) (rv_var rfl) ?_
  rintro d rfl
  refine ⟨_, rg_tup3, (fun _ h => h), ?_⟩
  unfold Spc.lvalue
  refine rs_ifr (rt_test (rv_eqS (rv_var rfl) rv_str)) (fun h => ?_) fun h => ?_
  · rw [kA] at h
    have h : S.kind = .alt := by simpa using h
    rw [h]
    exact rs_retV rv_e0 rfl
  rw [kA] at h
  have h : ¬ S.kind = .alt := by simpa using h
  refine rs_ifr (rt_test (rv_eqS (rv_var rfl) rv_str)) (fun h => ?_) fun h2 => ?_
  · rw [kH] at h
    have h : S.kind = .herm := by simpa using h
    rw [h]
    exact rs_retV (re_call (ra_cons ((rv_var rfl)) (ra_cons ((rv_var rfl)) (ra_cons ((rv_var rfl)) ra_nil))) ⟨_, _, _, hn, rfl, rfl⟩) rfl
  rw [kH] at h2
  have h2 : ¬ S.kind = .herm := by simpa using h2
  have h3 : S.kind = .quad := by
    cases hk : S.kind with
    | alt => exact absurd hk h
    | quad => rfl
    | herm => exact absurd hk h2
  rw [h3]
  refine rs_setV (rv_e0 (F := S.F)) ?_
  refine rs_forF (l := List.finRange S.n) (sx := fun i => nD i.val) (js := [6]) (fun t i => ((List.finRange S.n).filter fun j => decide (i ≤ j)).foldl (fun t j => t + S.mat i j * (x i * x j)) t) (fun _ => True) (fun t => [.im (sD S), .im (rowD x), .im (.str S.kind.str), .im (fD S.F), .im (tabD (matL S.mat)), .im (elD t), .un, .un]) 0 (rj_rng (rv_lenT (rv_var rfl) rfl) (by rw [List.length_map, rowI_len]) (by omega)) (by rw [h3]; exact (by repeat' (first | exact True.intro | refine And.intro ?_ ?_ | exact Or.inl rfl | exact Or.inr rfl))) (fun pre i post _ _ => ⟨_, rg_name, (fun _ h => h), ?_⟩) fun _ => rs_retV (rv_var rfl) rfl
  generalize pre.foldl (fun t i => ((List.finRange S.n).filter fun j => decide (i ≤ j)).foldl (fun t j => t + S.mat i j * (x i * x j)) t) 0 = t0
  refine rs_forF1 (l := (List.finRange S.n).filter fun j => decide (i ≤ j)) (sx := fun i => nD i.val) (js := [7]) (fun t j => t + S.mat i j * (x i * x j)) (fun _ => True) (fun t => [.im (sD S), .im (rowD x), .im (.str S.kind.str), .im (fD S.F), .im (tabD (matL S.mat)), .im (elD t), .im (nD i.val), .un]) t0 ?_ (by repeat' (first | exact True.intro | refine And.intro ?_ ?_ | exact Or.inl rfl | exact Or.inr rfl)) (fun pre j post _ _ => ⟨_, rg_name, (fun _ h => h), ?_⟩) fun _ => ⟨trivial, (by repeat' (first | exact True.intro | refine And.intro ?_ ?_ | exact Or.inl rfl | exact Or.inr rfl))⟩
  · rw [fin_from]
    exact rj_rngB (rv_var rfl) (rv_lenT (rv_var rfl) rfl) rfl (by rw [List.length_map, rowI_len]) (by have := i.isLt; omega) (by omega)
  · refine rs_set (lsum (rv_var rfl) (rv_var rfl) (lmul (rv_var rfl) (rv_rowIx (i := j) (rv_matIx (i := i) (rv_var rfl) (rv_var rfl) rfl) (rv_var rfl) rfl) (lmul (rv_var rfl) (rv_rowIx (i := i) (rv_var rfl) (rv_var rfl) rfl) (rv_rowIx (i := j) (rv_var rfl) (rv_var rfl) rfl)))) ?_
    rintro d rfl
    exact ⟨trivial, (by repeat' (first | exact True.intro | refine And.intro ?_ ?_ | exact Or.inl rfl | exact Or.inr rfl))⟩
def R__law_rows : List D → (D → Prop) → Prop := fun ds f => ∃ (F : Fd) (n : Nat), ∃ (hn : n ≤ 6), ∃ (hq : F.q ^ n ≤ 1000), ds = [fD F, nD n] ∧ f = fun d => d = lstD (allRows F n)
abbrev sp__law_rows (K : PySem.W.Frag) : Sp := psp K R__law_rows
theorem f__law_rows {P : Program} {w : World} {K : PySem.W.Frag} {mg : Str → Option Value} {base : Heap} (T : Tx K mg base) : Cal P w K mg base 1 "_law_rows" (sp__law_rows K) := by
  refine cal_of (d__law_rows T) (g__law_rows T) (N := ["_law_f", "_law_n", "_law_found", "_law_k", "_law_longer", "_law_head", "_law_c"]) (ps := ["_law_f", "_law_n"]) (fun _ _ _ _ _ _ us hl => match us, hl with | [_, _], _ => rfl) (by decide +kernel) (psp_len (by rintro ds f ⟨_, _, _, _, rfl, _⟩; rfl)) ?_
  intro cdv A outer sh H vs Q E hr hs
  let NN : List Str := ["_law_f", "_law_n", "_law_found", "_law_k", "_law_longer", "_law_head", "_law_c"]
  have nd : List.Nodup (α := Str) ["_law_f", "_law_n", "_law_found", "_law_k", "_law_longer", "_law_head", "_law_c"] := by decide +kernel
  refine ⟨_, (pss_cons (ps_set (i := 2) nd rfl (by first | exact Or.inl rfl | exact Or.inr rfl) (pe_lst (pa_cons (pe_tup pa_nil) pa_nil)))
 (pss_cons (ps_for PassesOwn.never rfl (pi_range1 (by rfl) (b_range T) (pa_cons (pv 1) pa_nil)) (pg_name (i := 3) nd rfl (by first | exact Or.inl rfl | exact Or.inr rfl)) (pss_cons (ps_set (i := 4) nd rfl (by first | exact Or.inl rfl | exact Or.inr rfl) (pe_lst pa_nil))
 (pss_cons (ps_for PassesOwn.never rfl (pi_list (pv 2)) (pg_name (i := 5) nd rfl (by first | exact Or.inl rfl | exact Or.inr rfl)) (pss_one (ps_set (i := 4) nd rfl (by first | exact Or.inl rfl | exact Or.inr rfl) (pe_op op_cat (pv 4) (pe_lc (own := [("_law_c", 6)]) (g := (gName 6)) (tt := tYes) (te := (tOp (rCatA K) (tVar 5) (tTup (tCons (tVar 6) tNil)))) rfl nd (pi_range1 (by rfl) (b_range T) (pa_cons (pe_ix ix_tup (pv 0) pe_int (fun _ _ => rfl)) pa_nil)) (blkOk_by (N := NN) (by kernel_rfl)) (fun _ _ _ _ _ => (pg_name (i := 6) nd rfl (by first | exact Or.inl rfl | exact Or.inr rfl))) (fun _ _ _ _ _ => pts_nil) (fun _ _ _ _ _ => (pe_op op_catA (pv 5) (pe_tup (pa_cons (pv 6) pa_nil)))))))))
 (pss_one (ps_set (i := 2) nd rfl (by first | exact Or.inl rfl | exact Or.inr rfl) (pe_callTy call_list_of (by rfl) (b_list T) (by rfl) (pa_cons (pv 4) pa_nil)))))))
 (pss_one (ps_ret (pv 2))))), ?_⟩
  clear hr nd NN
  refine body_psp (n := 7) hs rfl ?_
  clear hs
  rintro ds f ⟨F, n, hn, hq, rfl, rfl⟩
  have hF := F.le
  refine rs_setV (d := lstD (allRows F 0)) ((rov_lst (ra_cons (rv_tup ra_nil) ra_nil)).v) ?_
  refine rs_forF (l := List.finRange n) (sx := fun i => nD i.val) (js := [3]) (fun k (_ : Fin n) => k + 1) (fun _ => True) (fun k => [.im (fD F), .im (nD n), .im (lstD (allRows F k)), .un, .un, .un, .un]) 0 (rj_rng (rv_var rfl) rfl (by omega)) (by repeat' (first | exact True.intro | refine And.intro ?_ ?_ | exact Or.inl rfl | exact Or.inr rfl)) (fun pre i post hpre _ => ?_) fun _ => ?_
  · have hp := fin_pre hpre
    rw [foldl_count, Nat.zero_add]
    generalize pre.length = k at hp
    have hk : F.q ^ (k + 1) ≤ 1000 := Nat.le_trans (Nat.pow_le_pow_right F.pos hp) hq
    refine ⟨_, rg_name, (fun _ h => h), ?_⟩
    refine rs_setV (d := lstD ([] : List (Row F (k + 1)))) (rov_lst ra_nil).v ?_
    refine rs_forF (l := allRows F k) (sx := rowD) (js := [5]) (fun s h => s ++ (els F).map fun c => rsnoc h c) (fun _ => True) (fun s => [.im (fD F), .im (nD n), .im (lstD (allRows F k)), .un, .im (lstD s), .un, .un]) [] (rj_list (rv_var rfl)) (by repeat' (first | exact True.intro | refine And.intro ?_ ?_ | exact Or.inl rfl | exact Or.inr rfl)) (fun pre h post hpre _ => ?_) fun _ => ?_
    · have hl : (pre.foldl (fun s h => s ++ (els F).map fun c => rsnoc h c) []).length + F.q ≤ 1000 := by
        rw [foldl_app, List.nil_append, flat_len (q := F.q) (fun a => by rw [List.length_map, els_len])]
        have h1 := pre_len hpre
        rw [allRows_len] at h1
        have h2 : (pre.length + 1) * F.q ≤ F.q ^ k * F.q := Nat.mul_le_mul_right _ h1
        rw [Nat.pow_succ] at hk
        rw [Nat.succ_mul] at h2
        omega
      generalize pre.foldl (fun s h => s ++ (els F).map fun c => rsnoc h c) [] = s at hl ⊢
      refine ⟨_, rg_name, (fun _ h => h), ?_⟩
      refine rs_set (f := fun x => x = lstD (s ++ (els F).map fun c => rsnoc h c)) ((ro_cat (rm_lst (rv_var rfl)) (ro_m (ro_map (l := els F) (sx := elD) (ex := fun c => rowD (rsnoc h c)) (js := [6]) (rj_i (rj_els (lf0 (rv_var rfl)) rfl)) (by rw [els_len]; omega) (by decide) fun c _ => ⟨_, rg_name, (rv_catT (rv_var rfl) (rv_tup (ra_cons ((rv_var rfl)) ra_nil)) (by rw [List.length_map, rowI_len]; simp; omega)).is (congrArg D.tup (row_snoc _ _))⟩)) (by rw [List.length_map, List.length_map, els_len]; omega)).v.is ?_) ?_
      · show D.lst _ = D.lst (List.map rowD _)
        rw [List.map_append, List.map_map]
        rfl
      · rintro d rfl
        exact ⟨trivial, (by repeat' (first | exact True.intro | refine And.intro ?_ ?_ | exact Or.inl rfl | exact Or.inr rfl))⟩
    · rw [foldl_app, List.nil_append]
      refine rs_set (ro_lstL (RunE.l (rv_var rfl))).v ?_
      rintro d rfl
      exact ⟨trivial, (by repeat' (first | exact True.intro | refine And.intro ?_ ?_ | exact Or.inl rfl | exact Or.inr rfl))⟩
  · rw [foldl_count, List.length_finRange, Nat.zero_add]
    exact rs_retV (rv_var rfl) rfl
def R__law_matrices : List D → (D → Prop) → Prop := fun ds f => ∃ (F : Fd) (n : Nat), ∃ (hn : n ≤ 6), ∃ (hq : F.q ^ n ≤ 1000), ∃ (hm : (F.q ^ n) ^ n ≤ 10000), ds = [fD F, nD n] ∧ f = fun d => d = .lst ((allMats F n n).map tabD)
abbrev sp__law_matrices (K : PySem.W.Frag) : Sp := psp K R__law_matrices
theorem f__law_matrices {P : Program} {w : World} {K : PySem.W.Frag} {mg : Str → Option Value} {base : Heap} (T : Tx K mg base) : Cal P w K mg base 2 "_law_matrices" (sp__law_matrices K) := by
  refine cal_of (d__law_matrices T) (g__law_matrices T) (N := ["_law_f", "_law_n", "_law_found", "_law_rows_here", "_law_k", "_law_longer", "_law_head", "_law_row"]) (ps := ["_law_f", "_law_n"]) (fun _ _ _ _ _ _ us hl => match us, hl with | [_, _], _ => rfl) (by decide +kernel) (psp_len (by rintro ds f ⟨_, _, _, _, _, rfl, _⟩; rfl)) ?_
  intro cdv A outer sh H vs Q E hr hs
  let NN : List Str := ["_law_f", "_law_n", "_law_found", "_law_rows_here", "_law_k", "_law_longer", "_law_head", "_law_row"]
  have nd : List.Nodup (α := Str) ["_law_f", "_law_n", "_law_found", "_law_rows_here", "_law_k", "_law_longer", "_law_head", "_law_row"] := by decide +kernel
  refine ⟨_, (pss_cons (ps_set (i := 2) nd rfl (by first | exact Or.inl rfl | exact Or.inr rfl) (pe_lst (pa_cons (pe_tup pa_nil) pa_nil)))
 (pss_cons (ps_set (i := 3) nd rfl (by first | exact Or.inl rfl | exact Or.inr rfl) (pe_c (f__law_rows T) hr (by decide) (by rfl) (pa_cons (pv 0) (pa_cons (pv 1) pa_nil))))
 (pss_cons (ps_for PassesOwn.never rfl (pi_range1 (by rfl) (b_range T) (pa_cons (pv 1) pa_nil)) (pg_name (i := 4) nd rfl (by first | exact Or.inl rfl | exact Or.inr rfl)) (pss_cons (ps_set (i := 5) nd rfl (by first | exact Or.inl rfl | exact Or.inr rfl) (pe_lst pa_nil))
 (pss_cons (ps_for PassesOwn.never rfl (pi_list (pv 2)) (pg_name (i := 6) nd rfl (by first | exact Or.inl rfl | exact Or.inr rfl)) (pss_one (ps_set (i := 5) nd rfl (by first | exact Or.inl rfl | exact Or.inr rfl) (pe_op op_cat (pv 5) (pe_lc (own := [("_law_row", 7)]) (g := (gName 7)) (tt := tYes) (te := (tOp (rCatA K) (tVar 6) (tTup (tCons (tVar 7) tNil)))) rfl nd (pi_list (pv 3)) (blkOk_by (N := NN) (by kernel_rfl)) (fun _ _ _ _ _ => (pg_name (i := 7) nd rfl (by first | exact Or.inl rfl | exact Or.inr rfl))) (fun _ _ _ _ _ => pts_nil) (fun _ _ _ _ _ => (pe_op op_catA (pv 6) (pe_tup (pa_cons (pv 7) pa_nil)))))))))
 (pss_one (ps_set (i := 2) nd rfl (by first | exact Or.inl rfl | exact Or.inr rfl) (pe_callTy call_list_of (by rfl) (b_list T) (by rfl) (pa_cons (pv 5) pa_nil)))))))
 (pss_one (ps_ret (pv 2)))))), ?_⟩
  clear hr nd NN
  refine body_psp (n := 8) hs rfl ?_
  clear hs
  rintro ds f ⟨F, n, hn, hq, hm, rfl, rfl⟩
  have hF := F.le
  have hqp : 0 < F.q ^ n := Nat.pow_pos F.pos
  refine rs_setV (d := .lst ((allMats F n 0).map tabD)) ((rov_lst (ra_cons (rv_tup ra_nil) ra_nil)).v) ?_
  refine rs_setV (re_call (ra_cons ((rv_var rfl)) (ra_cons ((rv_var rfl)) ra_nil)) ⟨F, n, hn, hq, rfl, rfl⟩) ?_
  refine rs_forF (l := List.finRange n) (sx := fun i => nD i.val) (js := [4]) (fun k (_ : Fin n) => k + 1) (fun _ => True) (fun k => [.im (fD F), .im (nD n), .im (.lst ((allMats F n k).map tabD)), .im (lstD (allRows F n)), .un, .un, .un, .un]) 0 (rj_rng (rv_var rfl) rfl (by omega)) (by repeat' (first | exact True.intro | refine And.intro ?_ ?_ | exact Or.inl rfl | exact Or.inr rfl)) (fun pre i post hpre _ => ?_) fun _ => ?_
  · have hp := fin_pre hpre
    rw [foldl_count, Nat.zero_add]
    generalize pre.length = k at hp
    have hk : (F.q ^ n) ^ (k + 1) ≤ 10000 := Nat.le_trans (Nat.pow_le_pow_right hqp hp) hm
    refine ⟨_, rg_name, (fun _ h => h), ?_⟩
    refine rs_setV (d := .lst (([] : List (List (Row F n))).map tabD)) (rov_lst ra_nil).v ?_
    refine rs_forF (l := allMats F n k) (sx := tabD) (js := [6]) (fun s h => s ++ (allRows F n).map fun r => h ++ [r]) (fun _ => True) (fun s => [.im (fD F), .im (nD n), .im (.lst ((allMats F n k).map tabD)), .im (lstD (allRows F n)), .un, .im (.lst (s.map tabD)), .un, .un]) [] (rj_list (rv_var rfl)) (by repeat' (first | exact True.intro | refine And.intro ?_ ?_ | exact Or.inl rfl | exact Or.inr rfl)) (fun pre h post hpre _ => ?_) fun _ => ?_
    · have hl : (pre.foldl (fun s h => s ++ (allRows F n).map fun r => h ++ [r]) []).length + F.q ^ n ≤ 10000 := by
        rw [foldl_app, List.nil_append, flat_len (q := F.q ^ n) (fun a => by rw [List.length_map, allRows_len])]
        have h1 := pre_len hpre
        rw [allMats_len] at h1
        have h2 : (pre.length + 1) * F.q ^ n ≤ (F.q ^ n) ^ k * F.q ^ n := Nat.mul_le_mul_right _ h1
        rw [Nat.pow_succ] at hk
        rw [Nat.succ_mul] at h2
        omega
      have hh : h.length = k := allMats_mem (by rw [hpre]; simp)
      generalize pre.foldl (fun s h => s ++ (allRows F n).map fun r => h ++ [r]) [] = s at hl ⊢
      refine ⟨_, rg_name, (fun _ h => h), ?_⟩
      refine rs_set (f := fun x => x = .lst ((s ++ (allRows F n).map fun r => h ++ [r]).map tabD)) ((ro_cat (rm_lst (rv_var rfl)) (ro_m (ro_map (l := allRows F n) (sx := rowD) (ex := fun r => tabD (h ++ [r])) (js := [7]) (rj_i (rj_list (rv_var rfl))) (by rw [allRows_len]; omega) (by decide) fun c _ => ⟨_, rg_name, (rv_catT (rv_var rfl) (rv_tup (ra_cons ((rv_var rfl)) ra_nil)) (by rw [List.length_map, hh]; simp; omega)).is (show _ = D.tup (List.map rowD _) by rw [List.map_append]; rfl)⟩)) (by rw [List.length_map, List.length_map, allRows_len]; omega)).v.is ?_) ?_
      · rw [List.map_append, List.map_map]
        rfl
      · rintro d rfl
        exact ⟨trivial, (by repeat' (first | exact True.intro | refine And.intro ?_ ?_ | exact Or.inl rfl | exact Or.inr rfl))⟩
    · rw [foldl_app, List.nil_append]
      refine rs_set (ro_lstL (RunE.l (rv_var rfl))).v ?_
      rintro d rfl
      exact ⟨trivial, (by repeat' (first | exact True.intro | refine And.intro ?_ ?_ | exact Or.inl rfl | exact Or.inr rfl))⟩
  · rw [foldl_count, List.length_finRange, Nat.zero_add]
    exact rs_retV (rv_var rfl) rfl
def R__law_restricted : List D → (D → Prop) → Prop := fun ds f => ∃ (S : Spc) (b : Bool) (rows : Fin S.n → Row S.F S.n), ∃ (hn : S.n ≤ 6), ds = [sD S, seqD b ((matL rows).map rowD)] ∧ f = fun d => d = sD ⟨S.F, S.n, S.kind, S.lmat rows⟩
abbrev sp__law_restricted (K : PySem.W.Frag) : Sp := psp K R__law_restricted
theorem f__law_restricted {P : Program} {w : World} {K : PySem.W.Frag} {mg : Str → Option Value} {base : Heap} (T : Tx K mg base) : Cal P w K mg base 4 "_law_restricted" (sp__law_restricted K) := by
  refine cal_of (d__law_restricted T) (g__law_restricted T) (N := ["_law_s", "_law_rows_here", "_law_kind", "_law_f", "_law_matrix", "_law_out", "_law_i", "_law_line", "_law_j", "_law_c"]) (ps := ["_law_s", "_law_rows_here"]) (fun _ _ _ _ _ _ us hl => match us, hl with | [_, _], _ => rfl) (by decide +kernel) (psp_len (by rintro ds f ⟨_, _, _, _, rfl, _⟩; rfl)) ?_
  intro cdv A outer sh H vs Q E hr hs
  let NN : List Str := ["_law_s", "_law_rows_here", "_law_kind", "_law_f", "_law_matrix", "_law_out", "_law_i", "_law_line", "_law_j", "_law_c"]
  have nd : List.Nodup (α := Str) ["_law_s", "_law_rows_here", "_law_kind", "_law_f", "_law_matrix", "_law_out", "_law_i", "_law_line", "_law_j", "_law_c"] := by decide +kernel
  refine ⟨_, (pss_cons (ps_asg (pv 0) (pg_tup rfl (pgs_cons (pg_name (i := 2) nd rfl (by first | exact Or.inl rfl | exact Or.inr rfl)) (pgs_cons (pg_name (i := 3) nd rfl (by first | exact Or.inl rfl | exact Or.inr rfl)) (pgs_cons (pg_name (i := 4) nd rfl (by first | exact Or.inl rfl | exact Or.inr rfl)) pgs_nil)))))
 (pss_cons (ps_set (i := 5) nd rfl (by first | exact Or.inl rfl | exact Or.inr rfl) (pe_lst pa_nil))
 (pss_cons (ps_for PassesOwn.never rfl (pi_range1 (by rfl) (b_range T) (pa_cons (pe_callB call_len_seq (by rfl) (b_len T) PySem.boot_len (pa_cons (pv 1) pa_nil)) pa_nil)) (pg_name (i := 6) nd rfl (by first | exact Or.inl rfl | exact Or.inr rfl)) (pss_cons (ps_set (i := 7) nd rfl (by first | exact Or.inl rfl | exact Or.inr rfl) (pe_lst pa_nil))
 (pss_cons (ps_for PassesOwn.never rfl (pi_range1 (by rfl) (b_range T) (pa_cons (pe_callB call_len_seq (by rfl) (b_len T) PySem.boot_len (pa_cons (pv 1) pa_nil)) pa_nil)) (pg_name (i := 8) nd rfl (by first | exact Or.inl rfl | exact Or.inr rfl)) (pss_cons (ps_set (i := 9) nd rfl (by first | exact Or.inl rfl | exact Or.inr rfl) pe_int)
 (pss_cons (ps_if (PW.pt (pw_or (pt_cmpR op_ne (pv 2) pe_str (by first | exact nomark _ | rfl | with_unfolding_all rfl)) (pw_or1 (pt_cmpR op_lt (pv 6) (pv 8) (by first | exact nomark _ | rfl | with_unfolding_all rfl))))) (pss_one (ps_set (i := 9) nd rfl (by first | exact Or.inl rfl | exact Or.inr rfl) (pe_c (f__law_product T) hr (by decide) (by rfl) (pa_cons (pv 0) (pa_cons (pe_or2 (pe_ix ix_list (pv 1) (pv 6) (fun _ _ => rfl)) (pe_ix ix_tup (pv 1) (pv 6) (fun _ _ => rfl))) (pa_cons (pe_or2 (pe_ix ix_list (pv 1) (pv 8) (fun _ _ => rfl)) (pe_ix ix_tup (pv 1) (pv 8) (fun _ _ => rfl))) pa_nil)))))) (pss_one (ps_if (pt_cmpR op_eq (pv 6) (pv 8) (by first | exact nomark _ | rfl | with_unfolding_all rfl)) (pss_one (ps_set (i := 9) nd rfl (by first | exact Or.inl rfl | exact Or.inr rfl) (pe_c (f__law_value T) hr (by decide) (by rfl) (pa_cons (pv 0) (pa_cons (pe_or2 (pe_ix ix_list (pv 1) (pv 6) (fun _ _ => rfl)) (pe_ix ix_tup (pv 1) (pv 6) (fun _ _ => rfl))) pa_nil))))) pss_nil)))
 (pss_one (ps_expr (pe_bm PySem.F.plainAttrs_list PySem.F.slot_list_append PySem.F.type_list_append mt_append (pv 7) (pa_cons (pv 9) pa_nil)))))))
 (pss_one (ps_expr (pe_bm PySem.F.plainAttrs_list PySem.F.slot_list_append PySem.F.type_list_append mt_append (pv 5) (pa_cons (pe_callTy call_tuple_of (by rfl) (b_tuple T) (by rfl) (pa_cons (pv 7) pa_nil)) pa_nil)))))))
 (pss_one (ps_ret (pe_tup (pa_cons (pv 2) (pa_cons (pv 3) (pa_cons (pe_callTy call_tuple_of (by rfl) (b_tuple T) (by rfl) (pa_cons (pv 5) pa_nil)) pa_nil))))))))), ?_⟩
  clear hr nd NN
  refine body_psp (n := 10) hs rfl ?_
  clear hs
  rintro ds f ⟨S, b, rows, hn, rfl, rfl⟩
  have hlen : ((matL rows).map rowD).length = S.n := by rw [List.length_map, mat_len]
  refine rs_tgq (js := [2, 3, 4]) (rv_var rfl) ?_
  rintro d rfl
  refine ⟨_, rg_tup3, (fun _ h => h), ?_⟩
  refine rs_ownV (rov_lst ra_nil) fun p => ?_
  refine rs_forF (l := List.finRange S.n) (sx := fun i => nD i.val) (js := [6]) (fun s i => s ++ [S.lmat rows i]) (fun _ => True) (fun s => [.im (sD S), .im (seqD b ((matL rows).map rowD)), .im (.str S.kind.str), .im (fD S.F), .im (tabD (matL S.mat)), .ow p (s.map rowD), .un, .un, .un, .un]) [] (rj_rng (rv_lenQ (rv_var rfl) rfl) (by rw [hlen]) (by omega)) (by repeat' (first | exact True.intro | refine And.intro ?_ ?_ | exact Or.inl rfl | exact Or.inr rfl)) (fun pre i post hpre _ => ?_) fun _ => ?_
  · have hp := fin_pre hpre
    rw [foldl_app (fun i => [S.lmat rows i]), List.nil_append]
    have hl : (pre.flatMap fun i => [S.lmat rows i]).length = pre.length := by rw [flat_len (q := 1) (fun _ => rfl), Nat.mul_one]
    generalize pre.flatMap (fun i => [S.lmat rows i]) = s at hl ⊢
    refine ⟨_, rg_name, (fun _ h => h), ?_⟩
    refine rs_ownV (rov_lst ra_nil) fun p2 => ?_
    refine rs_forF (l := List.finRange S.n) (sx := fun i => nD i.val) (js := [8]) (fun t j => t ++ [S.lmat rows i j]) (fun _ => True) (fun t => [.im (sD S), .im (seqD b ((matL rows).map rowD)), .im (.str S.kind.str), .im (fD S.F), .im (tabD (matL S.mat)), .ow p (s.map rowD), .im (nD i.val), .ow p2 (t.map elD), .un, .un]) [] (rj_rng (rv_lenQ (rv_var rfl) rfl) (by rw [hlen]) (by omega)) (by repeat' (first | exact True.intro | refine And.intro ?_ ?_ | exact Or.inl rfl | exact Or.inr rfl)) (fun pre j post hpre _ => ?_) fun _ => ?_
    · have hp := fin_pre hpre
      rw [foldl_app (fun j => [S.lmat rows i j]), List.nil_append]
      have hl : (pre.flatMap fun j => [S.lmat rows i j]).length = pre.length := by rw [flat_len (q := 1) (fun _ => rfl), Nat.mul_one]
      generalize pre.flatMap (fun j => [S.lmat rows i j]) = t at hl ⊢
      refine ⟨_, rg_name, (fun _ h => h), ?_⟩
      refine rs_setV rv_int ?_
      have hri : ((matL rows).map rowD)[i.val]? = some (rowD (rows i)) := tab_at (mat_at rows i)
      have hrj : ((matL rows).map rowD)[j.val]? = some (rowD (rows j)) := tab_at (mat_at rows j)
      refine rs_seq (fun r' => LeE r' [.im (sD S), .im (seqD b ((matL rows).map rowD)), .im (.str S.kind.str), .im (fD S.F), .im (tabD (matL S.mat)), .ow p (s.map rowD), .im (nD i.val), .ow p2 (t.map elD), .im (nD j.val), .im (elD (S.lmat rows i j))]) (rs_if (rt_or (rt_test (rv_neS (rv_var rfl) rv_str)) fun _ => rt_test (rv_lt (rv_var rfl) (rv_var rfl))) (fun h => rs_set (re_call (ra_cons ((rv_var rfl)) (ra_cons (rv_ixQ (rv_var rfl) (rv_var rfl) rfl hri) (ra_cons (rv_ixQ (rv_var rfl) (rv_var rfl) rfl hrj) ra_nil))) ⟨S, _, _, hn, rfl, rfl⟩) ?_) fun h => rs_if (rt_test (rv_eqI (rv_var rfl) (rv_var rfl))) (fun h2 => rs_set (re_call (ra_cons ((rv_var rfl)) (ra_cons (rv_ixQ (rv_var rfl) (rv_var rfl) rfl hri) ra_nil)) ⟨S, _, hn, rfl, rfl⟩) ?_) fun h2 => rs_next ?_) ?_
      · rintro d rfl
        rw [kQ, Bool.or_eq_true] at h
        have : S.kind ≠ .quad ∨ i < j := by
          rcases h with h | h
          · exact .inl (by simpa using h)
          · refine .inr ?_
            have := of_decide_eq_true h
            show i.val < j.val
            omega
        unfold Spc.lmat
        rw [if_pos this]
        exact (by repeat' (first | exact True.intro | refine And.intro ?_ ?_ | exact Or.inl rfl | exact Or.inr rfl))
      · rintro d rfl
        rw [kQ, Bool.or_eq_false_iff] at h
        have h1 : S.kind = .quad := by simpa using h.1
        have h3 := of_decide_eq_false h.2
        have h2 := of_decide_eq_true h2
        have e : i = j := Fin.ext (by omega)
        subst e
        unfold Spc.lmat
        rw [if_neg (by rintro (z | z); exact z h1; exact absurd z (Nat.lt_irrefl _)), if_pos rfl]
        exact (by repeat' (first | exact True.intro | refine And.intro ?_ ?_ | exact Or.inl rfl | exact Or.inr rfl))
      · rw [kQ, Bool.or_eq_false_iff] at h
        have h1 : S.kind = .quad := by simpa using h.1
        have h3 := of_decide_eq_false h.2
        have h2 := of_decide_eq_false h2
        unfold Spc.lmat
        rw [if_neg (by
          rintro (z | z)
          · exact z h1
          · have : i.val < j.val := z
            omega), if_neg (fun e => h2 (by rw [e]))]
        exact (by repeat' (first | exact True.intro | refine And.intro ?_ ?_ | exact Or.inl rfl | exact Or.inr rfl))
      · refine fun r' e => rs_weak e ?_
        refine rs_app rfl (by rw [List.length_map]; omega) (rv_var rfl) ?_
        rintro d rfl
        refine ⟨trivial, ?_⟩
        rw [List.map_append]
        exact (by repeat' (first | exact True.intro | refine And.intro ?_ ?_ | exact Or.inl rfl | exact Or.inr rfl))
    · rw [foldl_app (fun j => [S.lmat rows i j]), List.nil_append]
      have e : (List.finRange S.n).flatMap (fun j => [S.lmat rows i j]) = (List.finRange S.n).map fun j => S.lmat rows i j := by exact flat_one _ _
      rw [e, List.map_map]
      refine rs_app rfl (by rw [List.length_map]; omega) (rv_tupL (rl_own rfl)) ?_
      rintro d rfl
      refine ⟨trivial, ?_⟩
      rw [List.map_append]
      have e2 : D.tup (List.map (elD ∘ fun j => S.lmat rows i j) (List.finRange S.n)) = rowD (S.lmat rows i) := congrArg D.tup (row_map _).symm
      rw [e2]
      exact (by repeat' (first | exact True.intro | refine And.intro ?_ ?_ | exact Or.inl rfl | exact Or.inr rfl))
  · rw [foldl_app (fun i => [S.lmat rows i]), List.nil_append]
    have e : (List.finRange S.n).flatMap (fun j => [S.lmat rows j]) = matL (S.lmat rows) := by exact flat_one _ _
    rw [e]
    exact rs_retV (rv_tup (ra_cons ((rv_var rfl)) (ra_cons ((rv_var rfl)) (ra_cons (rv_tupL (rl_own rfl)) ra_nil)))) rfl
end Wk
/-! # WkW11 -/
set_option Elab.async false
set_option linter.all false
set_option maxRecDepth 100000
set_option maxHeartbeats 4000000
namespace Wk
open PySem PySem.Spec PyProof.Rows L2
def R__law_radical : List D → (D → Prop) → Prop := fun ds f => ∃ (S : Spc), ∃ (hn : S.n ≤ 6), ∃ (hq : S.F.q ^ S.n ≤ 1000), ds = [sD S] ∧ f = fun d => d = lstD S.lrad
abbrev sp__law_radical (K : PySem.W.Frag) : Sp := psp K R__law_radical
theorem f__law_radical {P : Program} {w : World} {K : PySem.W.Frag} {mg : Str → Option Value} {base : Heap} (T : Tx K mg base) : Cal P w K mg base 3 "_law_radical" (sp__law_radical K) := by
  refine cal_of (d__law_radical T) (g__law_radical T) (N := ["_law_s", "_law_n", "_law_units", "_law_i", "_law_x", "_law_y"]) (ps := ["_law_s"]) (fun _ _ _ _ _ _ us hl => match us, hl with | [_], _ => rfl) (by decide +kernel) (psp_len (by rintro ds f ⟨_, _, _, rfl, _⟩; rfl)) ?_
  intro cdv A outer sh H vs Q E hr hs
  let NN : List Str := ["_law_s", "_law_n", "_law_units", "_law_i", "_law_x", "_law_y"]
  have nd : List.Nodup (α := Str) ["_law_s", "_law_n", "_law_units", "_law_i", "_law_x", "_law_y"] := by decide +kernel
  refine ⟨_, (pss_cons (ps_set (i := 1) nd rfl (by first | exact Or.inl rfl | exact Or.inr rfl) (pe_callB call_len_seq (by rfl) (b_len T) PySem.boot_len (pa_cons (pe_ix ix_tup (pv 0) pe_int (fun _ _ => rfl)) pa_nil)))
 (pss_cons (ps_set (i := 2) nd rfl (by first | exact Or.inl rfl | exact Or.inr rfl) (pe_lc (own := [("_law_i", 3)]) (g := (gName 3)) (tt := tYes) (te := (tCall (sp__law_unit K) [] E0 (tCons (tVar 1) (tCons (tVar 3) tNil)))) rfl nd (pi_range1 (by rfl) (b_range T) (pa_cons (pv 1) pa_nil)) (blkOk_by (N := NN) (by kernel_rfl)) (fun _ _ _ _ _ => (pg_name (i := 3) nd rfl (by first | exact Or.inl rfl | exact Or.inr rfl))) (fun _ _ _ _ _ => pts_nil) (fun _ _ _ _ _ => (pe_c (f__law_unit T) hr (by decide) (by rfl) (pa_cons (pv 1) (pa_cons (pv 3) pa_nil))))))
 (pss_one (ps_ret (pe_lc (own := [("_law_x", 4)]) (g := (gName 4)) (tt := (tNot (tB (tCB (rAnyI K) (tCons (tLc (iList K (tVar 2)) (gName 5) tYes (tCall (sp__law_product K) [] E0 (tCons (tVar 0) (tCons (tVar 4) (tCons (tVar 5) tNil)))) [5]) tNil))))) (te := (tVar 4)) rfl nd (pi_list (pe_c (f__law_rows T) hr (by decide) (by rfl) (pa_cons (pe_ix ix_tup (pv 0) pe_int (fun _ _ => rfl)) (pa_cons (pv 1) pa_nil)))) (blkOk_by (N := NN) (by kernel_rfl)) (fun _ _ _ _ _ => (pg_name (i := 4) nd rfl (by first | exact Or.inl rfl | exact Or.inr rfl))) (fun _ _ _ _ _ => (pts_one (pt_not (pt_val (pe_callB (cr_anyI rfl) (by rfl) (b_any T) (by rfl) (pa_cons (pe_lc (own := [("_law_y", 5)]) (g := (gName 5)) (tt := tYes) (te := (tCall (sp__law_product K) [] E0 (tCons (tVar 0) (tCons (tVar 4) (tCons (tVar 5) tNil))))) rfl nd (pi_list (pv 2)) (blkOk_by (N := NN) (by kernel_rfl)) (fun _ _ _ _ _ => (pg_name (i := 5) nd rfl (by first | exact Or.inl rfl | exact Or.inr rfl))) (fun _ _ _ _ _ => pts_nil) (fun _ _ _ _ _ => (pe_c (f__law_product T) hr (by decide) (by rfl) (pa_cons (pv 0) (pa_cons (pv 4) (pa_cons (pv 5) pa_nil)))))) pa_nil)))))) (fun _ _ _ _ _ => (pv 4))))))), ?_⟩
  clear hr nd NN
  refine body_psp (n := 6) hs rfl ?_
  clear hs
  rintro ds f ⟨S, hn, hq, rfl, rfl⟩
  refine rs_setV (rv_lenT (ls2 (rv_var rfl)) (k := (S.n : Int)) (by rw [List.length_map, mat_len])) ?_
  refine rs_setV (d := lstD (ident S.F S.n)) ((ro_map (l := List.finRange S.n) (sx := fun i => nD i.val) (ex := fun i => rowD (runit i : Row S.F S.n)) (js := [3]) (rj_i (rj_rng (rv_var rfl) rfl (by omega))) (by rw [List.length_finRange]; omega) (by decide) fun i _ => ⟨_, rg_name, re_call (ra_cons ((rv_var rfl)) (ra_cons ((rv_var rfl)) ra_nil)) ⟨S.F, S.n, i, by omega, rfl, rfl⟩⟩).v.is (show _ = D.lst (List.map rowD _) by unfold ident; rw [List.map_map]; rfl)) ?_
  refine rs_retV (ro_lc (l := allRows S.F S.n) (sx := rowD) (ex := rowD) (p := fun x => (List.finRange S.n).all fun i => decide (S.lprod x (runit i) = 0)) (js := [4]) (rj_i (rj_list (re_call (ra_cons (ls1 (rv_var rfl)) (ra_cons ((rv_var rfl)) ra_nil)) ⟨S.F, S.n, hn, hq, rfl, rfl⟩))) (by rw [allRows_len]; omega) (by decide) fun x _ => ⟨_, rg_name, (rt_not (rt_B (rv_anyL (xs := (ident S.F S.n).map fun u => ((S.lprod x u).v : Int)) (RunO.l (RunO.is2 (ro_map (l := ident S.F S.n) (sx := rowD) (ex := fun u => elD (S.lprod x u)) (js := [5]) (rj_i (rj_list (rv_var rfl))) (by unfold ident; rw [List.length_map, List.length_finRange]; omega) (by decide) fun u _ => ⟨_, rg_name, re_call (ra_cons ((rv_var rfl)) (ra_cons ((rv_var rfl)) (ra_cons ((rv_var rfl)) ra_nil))) ⟨_, _, _, hn, rfl, rfl⟩⟩) (by rw [List.map_map]; rfl)))))).is ?_, fun _ => (rv_var rfl)⟩).v rfl
  unfold ident
  rw [List.map_map, List.any_map, Bool.eq_iff_iff, Bool.not_eq_true', List.any_eq_false, List.all_eq_true]
  refine ⟨fun h i hi => ?_, fun h i hi => ?_⟩
  · have := h i hi
    rw [decide_eq_true_eq]
    by_cases z : S.lprod x (runit i) = 0
    · exact z
    · exfalso
      apply this
      show (((S.lprod x (runit i)).v : Int) != 0) = true
      rw [bne_iff_ne]
      intro e
      exact z (El.ext (by show _ = 0; omega))
  · have := h i hi
    rw [decide_eq_true_eq] at this
    show ¬ (((S.lprod x (runit i)).v : Int) != 0) = true
    rw [this]
    show ¬ ((0 : Int) != 0) = true
    decide
theorem rv_niRowsL {K : PySem.W.Frag} {r : En} {ta tb : TE} {xs : List Int} {xss : List (List Int)} (wa : RunV K ta r (irow xs)) (wb : RunL K tb r (xss.map fun xs => irow xs)) : RunV K (tOp (rNotInD K) ta tb) r (.bl (!decide (xs ∈ xss))) := fun S s F H e Q q =>
  wa S s F H e _ fun d1 v1 F1 H1 hd1 r1 g1 => wb S s F1 H1 (e.gr g1) _ fun a vs F2 H2 g2 h2 r2 => by
    subst hd1
    have g := g1.trans g2
    refine ⟨_, _, dp_row g2.sub (r1.mono g2.ex), .lst (h2 F2 H2 (Gr.refl g2.sub (g.sok e.sok))) (dp_rows g2.sub r2), sh_row _, sh_lst _, ?_⟩
    rw [any_rows]
    exact q _ _ F2 H2 rfl Rep.mk_bl g

def R__law_spanned : List D → (List D → Prop) → Prop := fun ds f => ∃ (F : Fd) (n : Nat) (b : Bool) (l : List (Row F n)), ∃ (hn : n ≤ 6), ∃ (hl : l.length ≤ 4), ds = [fD F, seqD b (l.map rowD), nD n] ∧ f = fun d => d = (lspan l).map rowD
abbrev sp__law_spanned (K : PySem.W.Frag) : Sp := fsp K R__law_spanned
theorem f__law_spanned {P : Program} {w : World} {K : PySem.W.Frag} {mg : Str → Option Value} {base : Heap} (T : Tx K mg base) : Cal P w K mg base 2 "_law_spanned" (sp__law_spanned K) := by
  refine cal_of (d__law_spanned T) (g__law_spanned T) (N := ["_law_f", "_law_rows_here", "_law_n", "_law_found", "_law_k", "_law_row", "_law_longer", "_law_x", "_law_c"]) (ps := ["_law_f", "_law_rows_here", "_law_n"]) (fun _ _ _ _ _ _ us hl => match us, hl with | [_, _, _], _ => rfl) (by decide +kernel) (fsp_len (by rintro ds f ⟨_, _, _, _, _, _, rfl, _⟩; rfl)) ?_
  intro cdv A outer sh H vs Q E hr hs
  let NN : List Str := ["_law_f", "_law_rows_here", "_law_n", "_law_found", "_law_k", "_law_row", "_law_longer", "_law_x", "_law_c"]
  have nd : List.Nodup (α := Str) ["_law_f", "_law_rows_here", "_law_n", "_law_found", "_law_k", "_law_row", "_law_longer", "_law_x", "_law_c"] := by decide +kernel
  refine ⟨_, (pss_cons (ps_set (i := 3) nd rfl (by first | exact Or.inl rfl | exact Or.inr rfl) (pe_lst (pa_cons (pe_callTy call_tuple_of (by rfl) (b_tuple T) (by rfl) (pa_cons (pe_lc (own := [("_law_k", 4)]) (g := (gName 4)) (tt := tYes) (te := (tC (.int 0))) rfl nd (pi_range1 (by rfl) (b_range T) (pa_cons (pv 2) pa_nil)) (blkOk_by (N := NN) (by kernel_rfl)) (fun _ _ _ _ _ => (pg_name (i := 4) nd rfl (by first | exact Or.inl rfl | exact Or.inr rfl))) (fun _ _ _ _ _ => pts_nil) (fun _ _ _ _ _ => pe_int)) pa_nil)) pa_nil)))
 (pss_cons (ps_for PassesOwn.never rfl (pi_or2 (pi_list (pv 1)) (pi_tup (pv 1))) (pg_name (i := 5) nd rfl (by first | exact Or.inl rfl | exact Or.inr rfl)) (pss_one (ps_if (pt_cmpR (op_notInD (room65 hr)) (pv 5) (pv 3) (by first | exact nomark _ | rfl | with_unfolding_all rfl)) (pss_cons (ps_set (i := 6) nd rfl (by first | exact Or.inl rfl | exact Or.inr rfl) (pe_lst pa_nil))
 (pss_cons (ps_for PassesOwn.never rfl (pi_list (pv 3)) (pg_name (i := 7) nd rfl (by first | exact Or.inl rfl | exact Or.inr rfl)) (pss_one (ps_set (i := 6) nd rfl (by first | exact Or.inl rfl | exact Or.inr rfl) (pe_op op_cat (pv 6) (pe_lc (own := [("_law_c", 8)]) (g := (gName 8)) (tt := tYes) (te := (tCall (sp__law_sum K) [] E0 (tCons (tVar 0) (tCons (tVar 7) (tCons (tCall (sp__law_times K) [] E0 (tCons (tVar 0) (tCons (tVar 5) (tCons (tVar 8) tNil)))) tNil))))) rfl nd (pi_range1 (by rfl) (b_range T) (pa_cons (pe_ix ix_tup (pv 0) pe_int (fun _ _ => rfl)) pa_nil)) (blkOk_by (N := NN) (by kernel_rfl)) (fun _ _ _ _ _ => (pg_name (i := 8) nd rfl (by first | exact Or.inl rfl | exact Or.inr rfl))) (fun _ _ _ _ _ => pts_nil) (fun _ _ _ _ _ => (pe_c (f__law_sum T) hr (by decide) (by rfl) (pa_cons (pv 0) (pa_cons (pv 7) (pa_cons (pe_c (f__law_times T) hr (by decide) (by rfl) (pa_cons (pv 0) (pa_cons (pv 5) (pa_cons (pv 8) pa_nil)))) pa_nil))))))))))
 (pss_one (ps_set (i := 3) nd rfl (by first | exact Or.inl rfl | exact Or.inr rfl) (pe_callTy call_list_of (by rfl) (b_list T) (by rfl) (pa_cons (pv 6) pa_nil)))))) pss_nil)))
 (pss_one (ps_ret (pv 3))))), ?_⟩
  clear hr nd NN
  refine body_fsp (n := 9) hs rfl ?_
  clear hs
  rintro ds f ⟨F, n, b, l, hn, hl, rfl, rfl⟩
  have hF := F.le
  refine rs_ownV (rov_lst (ra_cons (rv_rowT (f := (rzero : Row F n)) (ro_map (l := List.finRange n) (sx := fun i => nD i.val) (ex := fun i => elD ((rzero : Row F n) i)) (js := [4]) (rj_i (rj_rng (rv_var rfl) rfl (by omega))) (by rw [List.length_finRange]; omega) (by decide) fun i _ => ⟨_, rg_name, rv_e0⟩)) ra_nil)) fun p0 => ?_
  refine rs_seq (fun r' => ∃ p, LeE r' [.im (fD F), .im (seqD b (l.map rowD)), .im (nD n), .ow p ((lspan l).map rowD), .un, .un, .un, .un, .un]) (rs_for (js := [5]) (xs := l.map rowD) (rj_seq (rv_var rfl)) (fun i r' => ∃ p, LeE r' [.im (fD F), .im (seqD b (l.map rowD)), .im (nD n), .ow p (((l.take i).foldl lspanStep [rzero]).map rowD), .un, .un, .un, .un, .un]) ⟨p0, (by repeat' (first | exact True.intro | refine And.intro ?_ ?_ | exact Or.inl rfl | exact Or.inr rfl))⟩ ?_ ?_) ?_
  · rintro i r' d hd ⟨p, hle⟩
    rw [List.getElem?_map] at hd
    cases hq : l[i]? with
    | none => rw [hq] at hd; cases hd
    | some v =>
    rw [hq] at hd
    cases hd
    have et : l.take (i + 1) = l.take i ++ [v] := by rw [List.take_add_one, hq]; rfl
    have hi := (List.getElem?_eq_some_iff.mp hq).1
    rw [et]
    rw [List.foldl_append]
    have h1 := lspan_len (l.take i) [(rzero : Row F n)]
    have h3 : (9 : Nat) ^ (l.take i).length ≤ 9 ^ 3 := Nat.pow_le_pow_right (by decide) (by rw [List.length_take]; omega)
    generalize (l.take i).foldl lspanStep [(rzero : Row F n)] = s at h1 hle ⊢
    have h4 : s.length ≤ 729 := by
      rw [List.length_singleton, Nat.one_mul] at h1
      exact Nat.le_trans h1 h3
    refine ⟨_, fun S sl F H v en rd Q q => rg_name S sl F H v (en.weak hle) rd Q q, fun x hx => hle.own x hx, ?_⟩
    refine rs_if (rt_test (rv_niRowsL (xs := rowI v) (xss := s.map rowI) (rv_var rfl) (rl_own2 (p := p) rfl (tab_map s)))) (fun h => ?_) fun h => ?_
    · rw [rowsI_mem] at h
      have h : ¬ v ∈ s := by simpa using h
      refine rs_freeze (i := 3) rfl ?_
      refine rs_setV (d := lstD ([] : List (Row F n))) (rov_lst ra_nil).v ?_
      refine rs_forF (l := s) (sx := rowD) (js := [7]) (fun t x => t ++ (els F).map fun c => radd x (rscl v c)) (fun _ => True) (fun t => [.im (fD F), .im (seqD b (l.map rowD)), .im (nD n), .im (lstD s), .un, .im (rowD v), .im (lstD t), .un, .un]) [] (rj_list (rv_var rfl)) (by repeat' (first | exact True.intro | refine And.intro ?_ ?_ | exact Or.inl rfl | exact Or.inr rfl)) (fun pre x post hpre _ => ?_) fun _ => ?_
      · have hl : (pre.foldl (fun t x => t ++ (els F).map fun c => radd x (rscl v c)) []).length ≤ 729 * 9 := by
          rw [foldl_app, List.nil_append, flat_len (q := F.q) (fun a => by rw [List.length_map, els_len])]
          have := pre_len hpre
          exact Nat.mul_le_mul (by omega) hF
        generalize pre.foldl (fun t x => t ++ (els F).map fun c => radd x (rscl v c)) [] = t at hl ⊢
        refine ⟨_, rg_name, (fun _ h => h), ?_⟩
        refine rs_set (f := fun z => z = lstD (t ++ (els F).map fun c => radd x (rscl v c))) ((ro_cat (rm_lst (rv_var rfl)) (ro_m (ro_map (l := els F) (sx := elD) (ex := fun c => rowD (radd x (rscl v c))) (js := [8]) (rj_i (rj_els (lf0 (rv_var rfl)) rfl)) (by rw [els_len]; omega) (by decide) fun c _ => ⟨_, rg_name, re_call (ra_cons ((rv_var rfl)) (ra_cons ((rv_var rfl)) (ra_cons (re_call (ra_cons ((rv_var rfl)) (ra_cons ((rv_var rfl)) (ra_cons ((rv_var rfl)) ra_nil))) ⟨_, _, _, _, by omega, rfl, rfl⟩) ra_nil))) ⟨_, _, _, _, by omega, rfl, rfl⟩⟩)) (by rw [List.length_map, List.length_map, els_len]; omega)).v.is ?_) ?_
        · show D.lst _ = D.lst (List.map rowD _)
          rw [List.map_append, List.map_map]
          rfl
        · rintro d rfl
          exact ⟨trivial, (by repeat' (first | exact True.intro | refine And.intro ?_ ?_ | exact Or.inl rfl | exact Or.inr rfl))⟩
      · rw [foldl_app, List.nil_append]
        refine rs_own (ro_lstL (RunE.l (rv_var rfl))) ?_
        rintro ds p' rfl
        refine ⟨p', ?_⟩
        show LeE _ [_, _, _, .ow p' ((lspanStep s v).map rowD), _, _, _, _, _]
        unfold lspanStep
        rw [if_neg h]
        exact (by repeat' (first | exact True.intro | refine And.intro ?_ ?_ | exact Or.inl rfl | exact Or.inr rfl))
    · rw [rowsI_mem] at h
      have h : v ∈ s := by simpa using h
      refine rs_next ⟨p, ?_⟩
      show LeE _ [_, _, _, .ow p ((lspanStep s v).map rowD), _, _, _, _, _]
      unfold lspanStep
      rw [if_pos h]
      exact (by repeat' (first | exact True.intro | refine And.intro ?_ ?_ | exact Or.inl rfl | exact Or.inr rfl))
  · rintro r' ⟨p, hle⟩
    rw [List.length_map, List.take_length] at hle
    exact ⟨p, hle⟩
  · rintro r' ⟨p, hle⟩
    exact rs_weak hle (rs_retOwn (i := 3) rfl rfl)
def R__law_is_free : List D → (D → Prop) → Prop := fun ds f => ∃ (F : Fd) (n : Nat) (b : Bool) (l : List (Row F n)), ∃ (hn : n ≤ 6), ∃ (hl : l.length ≤ 4), ds = [fD F, seqD b (l.map rowD), nD n] ∧ f = fun d => d = .bl (bp (lfree l))
abbrev sp__law_is_free (K : PySem.W.Frag) : Sp := psp K R__law_is_free
theorem f__law_is_free {P : Program} {w : World} {K : PySem.W.Frag} {mg : Str → Option Value} {base : Heap} (T : Tx K mg base) : Cal P w K mg base 3 "_law_is_free" (sp__law_is_free K) := by
  refine cal_of (d__law_is_free T) (g__law_is_free T) (N := ["_law_f", "_law_rows_here", "_law_n", "_law_size", "_law_row"]) (ps := ["_law_f", "_law_rows_here", "_law_n"]) (fun _ _ _ _ _ _ us hl => match us, hl with | [_, _, _], _ => rfl) (by decide +kernel) (psp_len (by rintro ds f ⟨_, _, _, _, _, _, rfl, _⟩; rfl)) ?_
  intro cdv A outer sh H vs Q E hr hs
  let NN : List Str := ["_law_f", "_law_rows_here", "_law_n", "_law_size", "_law_row"]
  have nd : List.Nodup (α := Str) ["_law_f", "_law_rows_here", "_law_n", "_law_size", "_law_row"] := by decide +kernel
  refine ⟨_, (pss_cons (ps_set (i := 3) nd rfl (by first | exact Or.inl rfl | exact Or.inr rfl) pe_int)
 (pss_cons (ps_for PassesOwn.never rfl (pi_or2 (pi_list (pv 1)) (pi_tup (pv 1))) (pg_name (i := 4) nd rfl (by first | exact Or.inl rfl | exact Or.inr rfl)) (pss_one (ps_set (i := 3) nd rfl (by first | exact Or.inl rfl | exact Or.inr rfl) (pe_op op_mul (pv 3) (pe_ix ix_tup (pv 0) pe_int (fun _ _ => rfl))))))
 (pss_one (ps_ret (pe_cmpR op_eq (pe_callB call_len_seq (by rfl) (b_len T) PySem.boot_len (pa_cons (pe_c (f__law_spanned T) hr (by decide) (by rfl) (pa_cons (pv 0) (pa_cons (pv 1) (pa_cons (pv 2) pa_nil)))) pa_nil)) (pv 3) (by first | exact nomark _ | rfl | with_unfolding_all rfl)))))), ?_⟩
  clear hr nd NN
  refine body_psp (n := 5) hs rfl ?_
  clear hs
  rintro ds f ⟨F, n, b, l, hn, hl, rfl, rfl⟩
  have hF := F.le
  refine rs_setV (d := nD (F.q ^ 0)) rv_int ?_
  refine rs_forF (l := l) (sx := rowD) (js := [4]) (fun k _ => k + 1) (fun _ => True) (fun k => [.im (fD F), .im (seqD b (l.map rowD)), .im (nD n), .im (nD (F.q ^ k)), .un]) 0 (rj_seq (rv_var rfl)) (by repeat' (first | exact True.intro | refine And.intro ?_ ?_ | exact Or.inl rfl | exact Or.inr rfl)) (fun pre v post hpre _ => ⟨_, rg_name, (fun _ h => h), ?_⟩) fun _ => ?_
  · generalize pre.foldl (fun k _ => k + 1) 0 = k
    refine rs_set (f := fun x => x = nD (F.q ^ (k + 1))) ((rv_mul (rv_var rfl) (lf0 (rv_var rfl)) (.inr (by omega))).is ?_) ?_
    · show D.int _ = D.int _
      rw [Nat.pow_succ]
      simp
    · rintro d rfl
      exact ⟨trivial, (by repeat' (first | exact True.intro | refine And.intro ?_ ?_ | exact Or.inl rfl | exact Or.inr rfl))⟩
  · rw [foldl_count, Nat.zero_add]
    refine rs_retV (rv_eqI (rv_lenL (RunO.l (ro_call (ra_cons ((rv_var rfl)) (ra_cons ((rv_var rfl)) (ra_cons ((rv_var rfl)) ra_nil))) ⟨F, n, b, l, hn, hl, rfl, rfl⟩)) rfl) (rv_var rfl)) ?_
    rw [List.length_map]
    show D.bl _ = D.bl _
    by_cases h : lfree l
    · rw [bp_t h]
      unfold lfree at h
      rw [decide_eq_true (by rw [h])]
    · rw [bp_f h]
      unfold lfree at h
      rw [decide_eq_false (by omega)]
def R__law_is_isometry : List D → (D → Prop) → Prop := fun ds f => ∃ (S : Spc) (m : List (Row S.F S.n)), ∃ (hn : S.n ≤ 4), ∃ (hm : m.length = S.n), ds = [sD S, tabD m] ∧ f = fun d => d = .bl (bp (S.lIso m))
abbrev sp__law_is_isometry (K : PySem.W.Frag) : Sp := psp K R__law_is_isometry
theorem f__law_is_isometry {P : Program} {w : World} {K : PySem.W.Frag} {mg : Str → Option Value} {base : Heap} (T : Tx K mg base) : Cal P w K mg base 4 "_law_is_isometry" (sp__law_is_isometry K) := by
  refine cal_of (d__law_is_isometry T) (g__law_is_isometry T) (N := ["_law_s", "_law_matrix", "_law_n", "_law_units", "_law_i", "_law_j"]) (ps := ["_law_s", "_law_matrix"]) (fun _ _ _ _ _ _ us hl => match us, hl with | [_, _], _ => rfl) (by decide +kernel) (psp_len (by rintro ds f ⟨_, _, _, _, rfl, _⟩; rfl)) ?_
  intro cdv A outer sh H vs Q E hr hs
  let NN : List Str := ["_law_s", "_law_matrix", "_law_n", "_law_units", "_law_i", "_law_j"]
  have nd : List.Nodup (α := Str) ["_law_s", "_law_matrix", "_law_n", "_law_units", "_law_i", "_law_j"] := by decide +kernel
  refine ⟨_, (pss_cons (ps_set (i := 2) nd rfl (by first | exact Or.inl rfl | exact Or.inr rfl) (pe_callB call_len_seq (by rfl) (b_len T) PySem.boot_len (pa_cons (pe_ix ix_tup (pv 0) pe_int (fun _ _ => rfl)) pa_nil)))
 (pss_cons (ps_setLc (i := 3) (own := [("_law_i", 4)]) (g := (gName 4)) (tt := tYes) (te := (tCall (sp__law_unit K) [] E0 (tCons (tVar 2) (tCons (tVar 4) tNil)))) rfl nd rfl rfl (sw_true rfl rfl rfl (by decide +kernel)) (pi_range1 (by rfl) (b_range T) (pa_cons (pv 2) pa_nil)) (blkOk_by (N := NN) (by kernel_rfl)) (fun _ _ _ _ _ => (pg_name (i := 4) nd rfl (by first | exact Or.inl rfl | exact Or.inr rfl))) (fun _ _ _ _ _ => pts_nil) (fun _ _ _ _ _ => (pe_c (f__law_unit T) hr (by decide) (by rfl) (pa_cons (pv 2) (pa_cons (pv 4) pa_nil)))))
 (pss_cons (ps_for PassesOwn.never rfl (pi_range1 (by rfl) (b_range T) (pa_cons (pv 2) pa_nil)) (pg_name (i := 4) nd rfl (by first | exact Or.inl rfl | exact Or.inr rfl)) (pss_cons (ps_if (pt_cmpR op_ne (pe_c (f__law_value T) hr (by decide) (by rfl) (pa_cons (pv 0) (pa_cons (pe_ix ix_tup (pv 1) (pv 4) (fun _ _ => rfl)) pa_nil))) (pe_c (f__law_value T) hr (by decide) (by rfl) (pa_cons (pv 0) (pa_cons (pe_ix ix_list (pv 3) (pv 4) (fun _ _ => rfl)) pa_nil))) (by first | exact nomark _ | rfl | with_unfolding_all rfl)) (pss_one (ps_ret pe_bl)) pss_nil)
 (pss_one (ps_for PassesOwn.never rfl (pi_range1 (by rfl) (b_range T) (pa_cons (pv 4) pa_nil)) (pg_name (i := 5) nd rfl (by first | exact Or.inl rfl | exact Or.inr rfl)) (pss_one (ps_if (pt_cmpR op_ne (pe_c (f__law_product T) hr (by decide) (by rfl) (pa_cons (pv 0) (pa_cons (pe_ix ix_tup (pv 1) (pv 5) (fun _ _ => rfl)) (pa_cons (pe_ix ix_tup (pv 1) (pv 4) (fun _ _ => rfl)) pa_nil)))) (pe_c (f__law_product T) hr (by decide) (by rfl) (pa_cons (pv 0) (pa_cons (pe_ix ix_list (pv 3) (pv 5) (fun _ _ => rfl)) (pa_cons (pe_ix ix_list (pv 3) (pv 4) (fun _ _ => rfl)) pa_nil)))) (by first | exact nomark _ | rfl | with_unfolding_all rfl)) (pss_one (ps_ret pe_bl)) pss_nil))))))
 (pss_one (ps_ret (pe_c (f__law_is_free T) hr (by decide) (by rfl) (pa_cons (pe_ix ix_tup (pv 0) pe_int (fun _ _ => rfl)) (pa_cons (pv 1) (pa_cons (pv 2) pa_nil))))))))), ?_⟩
  clear hr nd NN
  refine body_psp (n := 6) hs rfl ?_
  clear hs
  rintro ds f ⟨S, m, hn, hm, rfl, rfl⟩
  refine rs_setV (rv_lenT (ls2 (rv_var rfl)) (k := (S.n : Int)) (by rw [List.length_map, mat_len])) ?_
  refine rs_setV (d := lstD (ident S.F S.n)) ((ro_map (l := List.finRange S.n) (sx := fun i => nD i.val) (ex := fun i => rowD (runit i : Row S.F S.n)) (js := [4]) (rj_i (rj_rng (rv_var rfl) rfl (by omega))) (by rw [List.length_finRange]; omega) (by decide) fun i _ => ⟨_, rg_name, re_call (ra_cons ((rv_var rfl)) (ra_cons ((rv_var rfl)) ra_nil)) ⟨S.F, S.n, i, by omega, rfl, rfl⟩⟩).v.is (show _ = D.lst (List.map rowD _) by unfold ident; rw [List.map_map]; rfl)) ?_
  have hid : ∀ i : Fin S.n, (ident S.F S.n)[i.val]? = some (runit i) := fun i => mat_at runit i
  have hmi : ∀ i : Fin S.n, m[i.val]? = some (m[i.val]'(by omega)) := fun i => List.getElem?_eq_getElem (by omega)
  refine rs_forF (l := List.finRange S.n) (sx := fun i => nD i.val) (js := [4]) (fun (u : Unit) _ => u) (fun i => ∀ r, m[i.val]? = some r → S.lvalue r = S.lvalue (runit i) ∧ ∀ j : Fin S.n, j < i → ∀ r', m[j.val]? = some r' → S.lprod r' r = S.lprod (runit j) (runit i)) (fun _ => [.im (sD S), .im (tabD m), .im (nD S.n), .im (lstD (ident S.F S.n)), .un, .un]) () (rj_rng (rv_var rfl) rfl (by omega)) (by repeat' (first | exact True.intro | refine And.intro ?_ ?_ | exact Or.inl rfl | exact Or.inr rfl)) (fun pre i post _ _ => ⟨_, rg_name, (fun _ h => h), ?_⟩) fun hall => ?_
  · refine rs_ifr (rt_test (rv_neE (re_call (ra_cons ((rv_var rfl)) (ra_cons (rv_tabIx (rv_var rfl) (rv_var rfl) rfl (hmi i)) ra_nil)) ⟨S, _, by omega, rfl, rfl⟩) (re_call (ra_cons ((rv_var rfl)) (ra_cons (rv_lstIx (RunE.l (rv_var rfl)) (rv_var rfl) rfl (hid i)) ra_nil)) ⟨S, _, by omega, rfl, rfl⟩))) (fun h => rs_retV (d := .bl false) rv_bl ?_) fun h => ?_
    · have h : ¬ S.lvalue (m[i.val]'(by omega)) = S.lvalue (runit i) := by simpa using h
      rw [bp_f]
      intro z
      exact h (z.1 i _ (hmi i)).1
    have h : S.lvalue (m[i.val]'(by omega)) = S.lvalue (runit i) := by simpa using h
    refine rs_forF1 (l := List.range i.val) (sx := nD) (js := [5]) (fun (u : Unit) _ => u) (fun j => ∀ hj : j < S.n, S.lprod (m[j]'(by omega)) (m[i.val]'(by omega)) = S.lprod (runit ⟨j, hj⟩) (runit i)) (fun _ => [.im (sD S), .im (tabD m), .im (nD S.n), .im (lstD (ident S.F S.n)), .im (nD i.val), .un]) () (rj_rngN (rv_var rfl) rfl (by have := i.isLt; omega)) (by repeat' (first | exact True.intro | refine And.intro ?_ ?_ | exact Or.inl rfl | exact Or.inr rfl)) (fun pre j post hpre _ => ⟨_, rg_name, (fun _ h => h), ?_⟩) fun hall => ⟨?_, (by repeat' (first | exact True.intro | refine And.intro ?_ ?_ | exact Or.inl rfl | exact Or.inr rfl))⟩
    · have hj := range_pre hpre
      have hjn : j < S.n := by have := i.isLt; omega
      refine rs_if (rt_test (rv_neE (re_call (ra_cons ((rv_var rfl)) (ra_cons (rv_tabIx (rv_var rfl) (rv_var rfl) rfl (hmi ⟨j, hjn⟩)) (ra_cons (rv_tabIx (rv_var rfl) (rv_var rfl) rfl (hmi i)) ra_nil))) ⟨S, _, _, by omega, rfl, rfl⟩) (re_call (ra_cons ((rv_var rfl)) (ra_cons (rv_lstIx (RunE.l (rv_var rfl)) (rv_var rfl) rfl (hid ⟨j, hjn⟩)) (ra_cons (rv_lstIx (RunE.l (rv_var rfl)) (rv_var rfl) rfl (hid i)) ra_nil))) ⟨S, _, _, by omega, rfl, rfl⟩))) (fun h2 => rs_retV (d := .bl false) rv_bl ?_) fun h2 => rs_next ⟨fun _ => by simpa using h2, (by repeat' (first | exact True.intro | refine And.intro ?_ ?_ | exact Or.inl rfl | exact Or.inr rfl))⟩
      have h2 : ¬ S.lprod (m[j]'(by omega)) (m[i.val]'(by omega)) = S.lprod (runit ⟨j, hjn⟩) (runit i) := by simpa using h2
      rw [bp_f]
      intro z
      exact h2 ((z.1 i _ (hmi i)).2 ⟨j, hjn⟩ hj _ (hmi ⟨j, hjn⟩))
    · intro r hr
      rw [hmi i] at hr
      cases hr
      refine ⟨h, fun j hj r' hr' => ?_⟩
      rw [hmi j] at hr'
      cases hr'
      exact hall j.val (List.mem_range.mpr hj) j.isLt
  · refine rs_retV (re_call (ra_cons (ls1 (rv_var rfl)) (ra_cons ((rv_var rfl)) (ra_cons ((rv_var rfl)) ra_nil))) ⟨S.F, S.n, true, m, by omega, by omega, rfl, rfl⟩) ?_
    have hk : S.lkeeps m := fun i r hr => hall i (List.mem_finRange i) r hr
    congr 1
    by_cases h : lfree m
    · rw [bp_t h, bp_t (show S.lIso m from ⟨hk, h⟩)]
    · rw [bp_f h, bp_f (show ¬ S.lIso m from fun z => h z.2)]
def R__law_is_near : List D → (D → Prop) → Prop := fun ds f => ∃ (S : Spc) (us vs : List (Row S.F S.n)) (u v : Row S.F S.n), ∃ (hn : S.n ≤ 6), ∃ (hl : us.length ≤ 1000), ∃ (he : vs.length = us.length), ds = [sD S, lstD us, lstD vs, rowD u, rowD v] ∧ f = fun d => d = .bl (bp (S.lnear us vs u v))
abbrev sp__law_is_near (K : PySem.W.Frag) : Sp := psp K R__law_is_near
theorem f__law_is_near {P : Program} {w : World} {K : PySem.W.Frag} {mg : Str → Option Value} {base : Heap} (T : Tx K mg base) : Cal P w K mg base 3 "_law_is_near" (sp__law_is_near K) := by
  refine cal_of (d__law_is_near T) (g__law_is_near T) (N := ["_law_s", "_law_us", "_law_vs", "_law_u", "_law_v", "_law_k"]) (ps := ["_law_s", "_law_us", "_law_vs", "_law_u", "_law_v"]) (fun _ _ _ _ _ _ us hl => match us, hl with | [_, _, _, _, _], _ => rfl) (by decide +kernel) (psp_len (by rintro ds f ⟨_, _, _, _, _, _, _, _, rfl, _⟩; rfl)) ?_
  intro cdv A outer sh H vs Q E hr hs
  let NN : List Str := ["_law_s", "_law_us", "_law_vs", "_law_u", "_law_v", "_law_k"]
  have nd : List.Nodup (α := Str) ["_law_s", "_law_us", "_law_vs", "_law_u", "_law_v", "_law_k"] := by decide +kernel
  refine ⟨_, (pss_cons (ps_for PassesOwn.never rfl (pi_range1 (by rfl) (b_range T) (pa_cons (pe_callB call_len_seq (by rfl) (b_len T) PySem.boot_len (pa_cons (pv 1) pa_nil)) pa_nil)) (pg_name (i := 5) nd rfl (by first | exact Or.inl rfl | exact Or.inr rfl)) (pss_one (ps_if (pt_cmpR op_ne (pe_c (f__law_product T) hr (by decide) (by rfl) (pa_cons (pv 0) (pa_cons (pe_ix ix_list (pv 1) (pv 5) (fun _ _ => rfl)) (pa_cons (pv 3) pa_nil)))) (pe_c (f__law_product T) hr (by decide) (by rfl) (pa_cons (pv 0) (pa_cons (pe_ix ix_list (pv 2) (pv 5) (fun _ _ => rfl)) (pa_cons (pv 4) pa_nil)))) (by first | exact nomark _ | rfl | with_unfolding_all rfl)) (pss_one (ps_ret pe_bl)) pss_nil)))
 (pss_one (ps_ret pe_bl))), ?_⟩
  clear hr nd NN
  refine body_psp (n := 6) hs rfl ?_
  clear hs
  rintro ds f ⟨S, us, vs, u, v, hn, hl, he, rfl, rfl⟩
  refine rs_forF (l := List.range us.length) (sx := nD) (js := [5]) (fun (x : Unit) _ => x) (fun k => ∀ a b : Row S.F S.n, us[k]? = some a → vs[k]? = some b → S.lprod a u = S.lprod b v) (fun _ => [.im (sD S), .im (lstD us), .im (lstD vs), .im (rowD u), .im (rowD v), .un]) () (rj_rngN (rv_lenL (RunE.l (rv_var rfl)) rfl) (by rw [List.length_map]) (by omega)) (by repeat' (first | exact True.intro | refine And.intro ?_ ?_ | exact Or.inl rfl | exact Or.inr rfl)) (fun pre k post hpre _ => ⟨_, rg_name, (fun _ h => h), ?_⟩) fun hall => ?_
  · have hk := range_pre hpre
    have h1 : us[k]? = some us[k] := List.getElem?_eq_getElem hk
    have h2 : vs[k]? = some (vs[k]'(by omega)) := List.getElem?_eq_getElem (by omega)
    refine rs_if (rt_test (rv_neE (re_call (ra_cons ((rv_var rfl)) (ra_cons (rv_lstIx (RunE.l (rv_var rfl)) (rv_var rfl) rfl h1) (ra_cons ((rv_var rfl)) ra_nil))) ⟨S, _, _, hn, rfl, rfl⟩) (re_call (ra_cons ((rv_var rfl)) (ra_cons (rv_lstIx (RunE.l (rv_var rfl)) (rv_var rfl) rfl h2) (ra_cons ((rv_var rfl)) ra_nil))) ⟨S, _, _, hn, rfl, rfl⟩))) (fun h => rs_retV (d := .bl false) rv_bl ?_) fun h => rs_next ⟨fun a b ha hb => ?_, (by repeat' (first | exact True.intro | refine And.intro ?_ ?_ | exact Or.inl rfl | exact Or.inr rfl))⟩
    · have h : ¬ S.lprod us[k] u = S.lprod (vs[k]'(by omega)) v := by simpa using h
      rw [bp_f]
      intro z
      exact h (z k _ _ h1 h2)
    · rw [h1] at ha
      rw [h2] at hb
      cases ha
      cases hb
      simpa using h
  · refine rs_retV (d := .bl true) rv_bl ?_
    rw [bp_t]
    intro k a b ha hb
    exact hall k (List.mem_range.mpr (List.getElem?_eq_some_iff.mp ha).1) a b ha hb
def R__law_is_extension : List D → (D → Prop) → Prop := fun ds f => ∃ (S : Spc) (m us vs : List (Row S.F S.n)), ∃ (hn : S.n ≤ 4), ∃ (hm : m.length = S.n), ∃ (hl : us.length ≤ 1000), ∃ (he : vs.length = us.length), ds = [sD S, tabD m, tabD us, tabD vs] ∧ f = fun d => d = .bl (bp (S.lIso m ∧ S.ltakes us vs m))
abbrev sp__law_is_extension (K : PySem.W.Frag) : Sp := psp K R__law_is_extension
theorem f__law_is_extension {P : Program} {w : World} {K : PySem.W.Frag} {mg : Str → Option Value} {base : Heap} (T : Tx K mg base) : Cal P w K mg base 5 "_law_is_extension" (sp__law_is_extension K) := by
  refine cal_of (d__law_is_extension T) (g__law_is_extension T) (N := ["_law_s", "_law_found", "_law_us", "_law_vs", "_law_f", "_law_k"]) (ps := ["_law_s", "_law_found", "_law_us", "_law_vs"]) (fun _ _ _ _ _ _ us hl => match us, hl with | [_, _, _, _], _ => rfl) (by decide +kernel) (psp_len (by rintro ds f ⟨_, _, _, _, _, _, _, _, rfl, _⟩; rfl)) ?_
  intro cdv A outer sh H vs Q E hr hs
  let NN : List Str := ["_law_s", "_law_found", "_law_us", "_law_vs", "_law_f", "_law_k"]
  have nd : List.Nodup (α := Str) ["_law_s", "_law_found", "_law_us", "_law_vs", "_law_f", "_law_k"] := by decide +kernel
  refine ⟨_, (pss_cons (ps_set (i := 4) nd rfl (by first | exact Or.inl rfl | exact Or.inr rfl) (pe_ix ix_tup (pv 0) pe_int (fun _ _ => rfl)))
 (pss_cons (ps_if (PW.pt (pw_or (pt_not (pt_val (pe_c (f__law_is_matrix T) hr (by decide) (by rfl) (pa_cons (pv 4) (pa_cons (pv 1) (pa_cons (pe_callB call_len_seq (by rfl) (b_len T) PySem.boot_len (pa_cons (pe_ix ix_tup (pv 0) pe_int (fun _ _ => rfl)) pa_nil)) pa_nil)))))) (pw_or1 (pt_not (pt_val (pe_c (f__law_is_isometry T) hr (by decide) (by rfl) (pa_cons (pv 0) (pa_cons (pv 1) pa_nil)))))))) (pss_one (ps_ret pe_bl)) pss_nil)
 (pss_cons (ps_for PassesOwn.never rfl (pi_range1 (by rfl) (b_range T) (pa_cons (pe_callB call_len_seq (by rfl) (b_len T) PySem.boot_len (pa_cons (pv 2) pa_nil)) pa_nil)) (pg_name (i := 5) nd rfl (by first | exact Or.inl rfl | exact Or.inr rfl)) (pss_one (ps_if (pt_cmpR (op_neD hr.units) (pe_c (f__law_image T) hr (by decide) (by rfl) (pa_cons (pv 4) (pa_cons (pe_ix ix_tup (pv 2) (pv 5) (fun _ _ => rfl)) (pa_cons (pv 1) pa_nil)))) (pe_ix ix_tup (pv 3) (pv 5) (fun _ _ => rfl)) (by first | exact nomark _ | rfl | with_unfolding_all rfl)) (pss_one (ps_ret pe_bl)) pss_nil)))
 (pss_one (ps_ret pe_bl))))), ?_⟩
  clear hr nd NN
  refine body_psp (n := 6) hs rfl ?_
  clear hs
  rintro ds f ⟨S, m, us, vs, hn, hm, hl, he, rfl, rfl⟩
  refine rs_setV (ls1 (rv_var rfl)) ?_
  refine rs_ifr (rt_or (rt_not (rt_B (re_call (ra_cons ((rv_var rfl)) (ra_cons ((rv_var rfl)) (ra_cons (rv_lenT (ls2 (rv_var rfl)) (k := (S.n : Int)) (by rw [List.length_map, mat_len])) ra_nil))) ⟨S.F, S.n, m, hm, rfl, rfl⟩))) fun _ => rt_not (rt_B (re_call (ra_cons ((rv_var rfl)) (ra_cons ((rv_var rfl)) ra_nil)) ⟨S, m, hn, hm, rfl, rfl⟩))) (fun h => rs_retV (d := .bl false) rv_bl ?_) fun h => ?_
  · have h : bp (S.lIso m) = false := by simpa using h
    rw [bp_f]
    intro z
    rw [bp_t z.1] at h
    cases h
  have h : S.lIso m := bp_iff.mp (by simpa using h)
  refine rs_forF (l := List.range us.length) (sx := nD) (js := [5]) (fun (x : Unit) _ => x) (fun k => ∀ a b : Row S.F S.n, us[k]? = some a → vs[k]? = some b → moved a m = b) (fun _ => [.im (sD S), .im (tabD m), .im (tabD us), .im (tabD vs), .im (fD S.F), .un]) () (rj_rngN (rv_lenT (rv_var rfl) rfl) (by rw [List.length_map]) (by omega)) (by repeat' (first | exact True.intro | refine And.intro ?_ ?_ | exact Or.inl rfl | exact Or.inr rfl)) (fun pre k post hpre _ => ⟨_, rg_name, (fun _ h => h), ?_⟩) fun hall => ?_
  · have hk := range_pre hpre
    have h1 : us[k]? = some us[k] := List.getElem?_eq_getElem hk
    have h2 : vs[k]? = some (vs[k]'(by omega)) := List.getElem?_eq_getElem (by omega)
    refine rs_if (rt_test (rv_neRow (re_call (ra_cons ((rv_var rfl)) (ra_cons (rv_tabIx (rv_var rfl) (rv_var rfl) rfl h1) (ra_cons ((rv_var rfl)) ra_nil))) ⟨S.F, S.n, _, m, by omega, hm, rfl, rfl⟩) (rv_tabIx (rv_var rfl) (rv_var rfl) rfl h2))) (fun h => rs_retV (d := .bl false) rv_bl ?_) fun h => rs_next ⟨fun a b ha hb => ?_, (by repeat' (first | exact True.intro | refine And.intro ?_ ?_ | exact Or.inl rfl | exact Or.inr rfl))⟩
    · rw [rowI_eq] at h
      have h : ¬ moved us[k] m = vs[k]'(by omega) := by simpa using h
      rw [bp_f]
      intro z
      exact h (z.2 k _ _ h1 h2)
    · rw [h1] at ha
      rw [h2] at hb
      cases ha
      cases hb
      rw [rowI_eq] at h
      simpa using h
  · refine rs_retV (d := .bl true) rv_bl ?_
    rw [bp_t]
    refine ⟨h, fun k a b ha hb => ?_⟩
    exact hall k (List.mem_range.mpr (List.getElem?_eq_some_iff.mp ha).1) a b ha hb
def R__law_bent : List D → (D → Prop) → Prop := fun ds f => ∃ (F : Fd) (n k : Nat) (inner us vs : List (Row F n)) (c : Row F k), ∃ (hn : n ≤ 6), ∃ (hk : k ≤ 1000), ∃ (hu : us.length = k), ∃ (hv : vs.length = k), ds = [fD F, lstD inner, tabD us, tabD vs, rowD c, nD n] ∧ f = fun d => d = .bl (decide (comb us (List.ofFn c) ∈ inner) != decide (comb vs (List.ofFn c) ∈ inner))
abbrev sp__law_bent (K : PySem.W.Frag) : Sp := psp K R__law_bent
theorem f__law_bent {P : Program} {w : World} {K : PySem.W.Frag} {mg : Str → Option Value} {base : Heap} (T : Tx K mg base) : Cal P w K mg base 3 "_law_bent" (sp__law_bent K) := by
  refine cal_of (d__law_bent T) (g__law_bent T) (N := ["_law_f", "_law_inner", "_law_us", "_law_vs", "_law_weights", "_law_n", "_law_c", "_law_u", "_law_v"]) (ps := ["_law_f", "_law_inner", "_law_us", "_law_vs", "_law_weights", "_law_n"]) (fun _ _ _ _ _ _ us hl => match us, hl with | [_, _, _, _, _, _], _ => rfl) (by decide +kernel) (psp_len (by rintro ds f ⟨_, _, _, _, _, _, _, _, _, _, _, rfl, _⟩; rfl)) ?_
  intro cdv A outer sh H vs Q E hr hs
  let NN : List Str := ["_law_f", "_law_inner", "_law_us", "_law_vs", "_law_weights", "_law_n", "_law_c", "_law_u", "_law_v"]
  have nd : List.Nodup (α := Str) ["_law_f", "_law_inner", "_law_us", "_law_vs", "_law_weights", "_law_n", "_law_c", "_law_u", "_law_v"] := by decide +kernel
  refine ⟨_, (pss_cons (ps_if (PW.pt (pw_or (pt_not (pt_val (pe_callB call_isi (by rfl) (b_isinstance T) (by rfl) (pa_cons (pv 4) (pa_cons (pe_bltn (v := .ty "tuple") (by rfl) (b_tuple T) (by rfl) rfl) pa_nil))))) (pw_or1 (pt_cmpR op_ne (pe_callB call_len_seq (by rfl) (b_len T) PySem.boot_len (pa_cons (pv 4) pa_nil)) (pe_callB call_len_seq (by rfl) (b_len T) PySem.boot_len (pa_cons (pv 2) pa_nil)) (by first | exact nomark _ | rfl | with_unfolding_all rfl))))) (pss_one (ps_ret pe_bl)) pss_nil)
 (pss_cons (ps_for PassesOwn.never rfl (pi_tup (pv 4)) (pg_name (i := 6) nd rfl (by first | exact Or.inl rfl | exact Or.inr rfl)) (pss_one (ps_if (PW.pt (pw_or (pt_not (pt_val (pe_callB call_isi (by rfl) (b_isinstance T) (by rfl) (pa_cons (pv 6) (pa_cons (pe_bltn (v := .ty "int") (by rfl) (b_int T) (by rfl) rfl) pa_nil))))) (pw_or (pt_val (pe_callB call_isi (by rfl) (b_isinstance T) (by rfl) (pa_cons (pv 6) (pa_cons (pe_bltn (v := .ty "bool") (by rfl) (b_bool T) (by rfl) rfl) pa_nil)))) (pw_or1 (pt_not (pt_chain op_le op_lt pe_int (pv 6) (pe_ix ix_tup (pv 0) pe_int (fun _ _ => rfl)))))))) (pss_one (ps_ret pe_bl)) pss_nil)))
 (pss_cons (ps_par (i := 7) (j := 8) rfl nd rfl rfl (by decide) rfl rfl (pa_cons (pe_c (f__law_combined T) hr (by decide) (by rfl) (pa_cons (pv 0) (pa_cons (pv 2) (pa_cons (pv 4) (pa_cons (pv 5) pa_nil))))) (pa_cons (pe_c (f__law_combined T) hr (by decide) (by rfl) (pa_cons (pv 0) (pa_cons (pv 3) (pa_cons (pv 4) (pa_cons (pv 5) pa_nil))))) pa_nil)) (by rfl))
 (pss_one (ps_ret (pe_cmpR op_ne (pe_cmpR (op_inD (room65 hr)) (pv 7) (pv 1) (by first | exact nomark _ | rfl | with_unfolding_all rfl)) (pe_cmpR (op_inD (room65 hr)) (pv 8) (pv 1) (by first | exact nomark _ | rfl | with_unfolding_all rfl)) (by first | exact nomark _ | rfl | with_unfolding_all rfl))))))), ?_⟩
  clear hr nd NN
  refine body_psp (n := 9) hs rfl ?_
  clear hs
  rintro ds f ⟨F, n, k, inner, us, vs, c, hn, hk, hu, hv, rfl, rfl⟩
  refine rs_guard ((rt_or (rt_not (rt_B (rv_isi (b := true) (rv_var rfl) rfl (by decide +kernel)))) fun _ => rt_test (rv_neI (rv_lenT (rv_var rfl) rfl) (rv_lenT (rv_var rfl) rfl))).is ?_) ?_
  · rw [List.length_map, rowI_len, List.length_map, hu]
    simp
  refine rs_forF (l := List.finRange k) (sx := fun i => elD (c i)) (js := [6]) (fun (u : Unit) _ => u) (fun _ => True) (fun _ => [.im (fD F), .im (lstD inner), .im (tabD us), .im (tabD vs), .im (rowD c), .im (nD n), .un, .un, .un]) () (rj_row (rv_var rfl)) (by repeat' (first | exact True.intro | refine And.intro ?_ ?_ | exact Or.inl rfl | exact Or.inr rfl)) (fun pre i post _ _ => ⟨_, rg_name, (fun _ h => h), ?_⟩) fun _ => ?_
  · have hv := (c i).lt
    refine rs_if ((rt_or (rt_not (rt_B (rv_isi (b := true) (rv_var rfl) rfl (by decide +kernel)))) fun _ => rt_or (rt_B (rv_isi (b := false) (rv_var rfl) rfl (by decide +kernel))) fun _ => rt_not (rt_test (rv_chain rv_int (rv_var rfl) (lf0 (rv_var rfl))))).is (b := false) ?_) (fun h => nomatch h) fun _ => rs_next ⟨trivial, (by repeat' (first | exact True.intro | refine And.intro ?_ ?_ | exact Or.inl rfl | exact Or.inr rfl))⟩
    rw [decide_eq_true (show (0 : Int) ≤ ((c i).v : Int) by omega), decide_eq_true (show ((c i).v : Int) < (F.q : Int) by omega)]
    rfl
  · refine rs_par (ra_cons (re_call (ra_cons ((rv_var rfl)) (ra_cons ((rv_var rfl)) (ra_cons ((rv_var rfl)) (ra_cons ((rv_var rfl)) ra_nil)))) ⟨F, n, k, true, us, c, by omega, hk, hu, rfl, rfl⟩) (ra_cons (re_call (ra_cons ((rv_var rfl)) (ra_cons ((rv_var rfl)) (ra_cons ((rv_var rfl)) (ra_cons ((rv_var rfl)) ra_nil)))) ⟨F, n, k, true, vs, c, by omega, hk, hv, rfl, rfl⟩) ra_nil)) ?_
    refine rs_retV (rv_neB (rv_inRows (xs := rowI (comb us (List.ofFn c))) (xss := inner.map rowI) (rv_var rfl) ((rv_var rfl).is (lstD_ilst inner))) (rv_inRows (xs := rowI (comb vs (List.ofFn c))) (xss := inner.map rowI) (rv_var rfl) ((rv_var rfl).is (lstD_ilst inner)))) ?_
    rw [rowsI_mem, rowsI_mem]
def R__law_any_good : List D → (D → Prop) → Prop := fun ds f => ∃ (S : Spc) (us vs : List (Row S.F S.n)), ∃ (ht : S.tiny), ∃ (hl : us.length ≤ 1000), ∃ (he : vs.length = us.length), ds = [sD S, tabD us, tabD vs] ∧ f = fun d => d = .bl (bp (S.lgood us vs))
abbrev sp__law_any_good (K : PySem.W.Frag) : Sp := psp K R__law_any_good
theorem f__law_any_good {P : Program} {w : World} {K : PySem.W.Frag} {mg : Str → Option Value} {base : Heap} (T : Tx K mg base) : Cal P w K mg base 5 "_law_any_good" (sp__law_any_good K) := by
  refine cal_of (d__law_any_good T) (g__law_any_good T) (N := ["_law_s", "_law_us", "_law_vs", "_law_f", "_law_n", "_law_matrix", "_law_good", "_law_k"]) (ps := ["_law_s", "_law_us", "_law_vs"]) (fun _ _ _ _ _ _ us hl => match us, hl with | [_, _, _], _ => rfl) (by decide +kernel) (psp_len (by rintro ds f ⟨_, _, _, _, _, _, rfl, _⟩; rfl)) ?_
  intro cdv A outer sh H vs Q E hr hs
  let NN : List Str := ["_law_s", "_law_us", "_law_vs", "_law_f", "_law_n", "_law_matrix", "_law_good", "_law_k"]
  have nd : List.Nodup (α := Str) ["_law_s", "_law_us", "_law_vs", "_law_f", "_law_n", "_law_matrix", "_law_good", "_law_k"] := by decide +kernel
  refine ⟨_, (pss_cons (ps_par (i := 3) (j := 4) rfl nd rfl rfl (by decide) rfl rfl (pa_cons (pe_ix ix_tup (pv 0) pe_int (fun _ _ => rfl)) (pa_cons (pe_callB call_len_seq (by rfl) (b_len T) PySem.boot_len (pa_cons (pe_ix ix_tup (pv 0) pe_int (fun _ _ => rfl)) pa_nil)) pa_nil)) (by rfl))
 (pss_cons (ps_for PassesOwn.never rfl (pi_list (pe_c (f__law_matrices T) hr (by decide) (by rfl) (pa_cons (pv 3) (pa_cons (pv 4) pa_nil)))) (pg_name (i := 5) nd rfl (by first | exact Or.inl rfl | exact Or.inr rfl)) (pss_cons (ps_set (i := 6) nd rfl (by first | exact Or.inl rfl | exact Or.inr rfl) pe_bl)
 (pss_cons (ps_for PassesOwn.never rfl (pi_range1 (by rfl) (b_range T) (pa_cons (pe_callB call_len_seq (by rfl) (b_len T) PySem.boot_len (pa_cons (pv 1) pa_nil)) pa_nil)) (pg_name (i := 7) nd rfl (by first | exact Or.inl rfl | exact Or.inr rfl)) (pss_one (ps_set (i := 6) nd rfl (by first | exact Or.inl rfl | exact Or.inr rfl) (pe_and (pv 6) (pe_one (pe_cmpR (op_eqD hr.units) (pe_c (f__law_image T) hr (by decide) (by rfl) (pa_cons (pv 3) (pa_cons (pe_ix ix_tup (pv 1) (pv 7) (fun _ _ => rfl)) (pa_cons (pv 5) pa_nil)))) (pe_ix ix_tup (pv 2) (pv 7) (fun _ _ => rfl)) (by first | exact nomark _ | rfl | with_unfolding_all rfl)))))))
 (pss_one (ps_if (PW.pt (pw_and (pt_val (pv 6)) (pw_and1 (pt_val (pe_c (f__law_is_isometry T) hr (by decide) (by rfl) (pa_cons (pv 0) (pa_cons (pv 5) pa_nil))))))) (pss_one (ps_ret pe_bl)) pss_nil)))))
 (pss_one (ps_ret pe_bl)))), ?_⟩
  clear hr nd NN
  refine body_psp (n := 8) hs rfl ?_
  clear hs
  rintro ds f ⟨S, us, vs, ht, hl, he, rfl, rfl⟩
  have hn := ht.n3
  refine rs_par (ra_cons (ls1 (rv_var rfl)) (ra_cons (rv_lenT (ls2 (rv_var rfl)) (k := (S.n : Int)) (by rw [List.length_map, mat_len])) ra_nil)) ?_
  refine rs_forF (l := allMats S.F S.n S.n) (sx := tabD) (js := [5]) (fun (x : Unit) _ => x) (fun m => ¬ (S.ltakes us vs m ∧ S.lIso m)) (fun _ => [.im (sD S), .im (tabD us), .im (tabD vs), .im (fD S.F), .im (nD S.n), .un, .un, .un]) () (rj_list (re_call (ra_cons ((rv_var rfl)) (ra_cons ((rv_var rfl)) ra_nil)) ⟨S.F, S.n, by omega, by have := ht.rows; omega, by have := ht.mats; omega, rfl, rfl⟩)) (by repeat' (first | exact True.intro | refine And.intro ?_ ?_ | exact Or.inl rfl | exact Or.inr rfl)) (fun pre m post hpre _ => ⟨_, rg_name, (fun _ h => h), ?_⟩) fun hall => ?_
  · have hmem : m ∈ allMats S.F S.n S.n := by rw [hpre]; simp
    have hml := allMats_mem hmem
    refine rs_setV rv_bl ?_
    refine rs_forF (l := List.range us.length) (sx := nD) (js := [7]) (fun (g : Prop) k => g ∧ ∀ a b : Row S.F S.n, us[k]? = some a → vs[k]? = some b → moved a m = b) (fun _ => True) (fun g => [.im (sD S), .im (tabD us), .im (tabD vs), .im (fD S.F), .im (nD S.n), .im (tabD m), .im (.bl (bp g)), .un]) True (rj_rngN (rv_lenT (rv_var rfl) rfl) (by rw [List.length_map]) (by omega)) (by rw [bp_t trivial]; exact (by repeat' (first | exact True.intro | refine And.intro ?_ ?_ | exact Or.inl rfl | exact Or.inr rfl))) (fun pre k post hpre _ => ⟨_, rg_name, (fun _ h => h), ?_⟩) fun _ => ?_
    · generalize List.foldl (fun (g : Prop) k => g ∧ ∀ a b : Row S.F S.n, us[k]? = some a → vs[k]? = some b → moved a m = b) True pre = g
      have hk := range_pre hpre
      have h1 : us[k]? = some us[k] := List.getElem?_eq_getElem hk
      have h2 : vs[k]? = some (vs[k]'(by omega)) := List.getElem?_eq_getElem (by omega)
      refine rs_set (f := fun x => x = .bl (bp (g ∧ ∀ a b : Row S.F S.n, us[k]? = some a → vs[k]? = some b → moved a m = b))) ((rv_andV (rv_var rfl) fun _ => rv_eqRow (re_call (ra_cons ((rv_var rfl)) (ra_cons (rv_tabIx (rv_var rfl) (rv_var rfl) rfl h1) (ra_cons ((rv_var rfl)) ra_nil))) ⟨S.F, S.n, _, m, by omega, hml, rfl, rfl⟩) (rv_tabIx (rv_var rfl) (rv_var rfl) rfl h2)).is ?_) ?_
      · rw [rowI_eq]
        congr 1
        by_cases hg : g
        · rw [bp_t hg, Bool.true_and]
          by_cases hk2 : moved us[k] m = vs[k]'(by omega)
          · rw [decide_eq_true hk2, bp_t]
            refine ⟨hg, fun a b ha hb => ?_⟩
            rw [h1] at ha; rw [h2] at hb
            cases ha; cases hb
            exact hk2
          · rw [decide_eq_false hk2, bp_f]
            intro z
            exact hk2 (z.2 _ _ h1 h2)
        · rw [bp_f hg, bp_f (fun z => hg z.1)]
          rfl
      · rintro d rfl
        exact ⟨trivial, (by repeat' (first | exact True.intro | refine And.intro ?_ ?_ | exact Or.inl rfl | exact Or.inr rfl))⟩
    · have eg : List.foldl (fun (g : Prop) k => g ∧ ∀ a b : Row S.F S.n, us[k]? = some a → vs[k]? = some b → moved a m = b) True (List.range us.length) ↔ S.ltakes us vs m := by
        have : ∀ (ks : List Nat) (g : Prop), List.foldl (fun (g : Prop) k => g ∧ ∀ a b : Row S.F S.n, us[k]? = some a → vs[k]? = some b → moved a m = b) g ks ↔ g ∧ ∀ k ∈ ks, ∀ a b : Row S.F S.n, us[k]? = some a → vs[k]? = some b → moved a m = b := by
          intro ks
          induction ks with
          | nil => intro g; simp
          | cons x ks ih =>
            intro g
            rw [List.foldl_cons, ih]
            simp only [List.mem_cons, forall_eq_or_imp, and_assoc]
        rw [this]
        refine ⟨fun h k a b ha hb => h.2 k (List.mem_range.mpr (List.getElem?_eq_some_iff.mp ha).1) a b ha hb, fun h => ⟨trivial, fun k _ a b ha hb => h k a b ha hb⟩⟩
      have eb := propext eg
      rw [eb]
      refine rs_if (rt_and (rt_B (rv_var rfl)) fun _ => rt_B (re_call (ra_cons ((rv_var rfl)) (ra_cons ((rv_var rfl)) ra_nil)) ⟨S, m, by omega, hml, rfl, rfl⟩)) (fun h => rs_retV (d := .bl true) rv_bl ?_) fun h => rs_next ⟨?_, (by repeat' (first | exact True.intro | refine And.intro ?_ ?_ | exact Or.inl rfl | exact Or.inr rfl))⟩
      · rw [Bool.and_eq_true, bp_iff, bp_iff] at h
        rw [bp_t]
        exact ⟨m, hmem, h⟩
      · rintro ⟨z1, z2⟩
        rw [bp_t z1, bp_t z2] at h
        cases h
  · refine rs_retV (d := .bl false) rv_bl ?_
    rw [bp_f]
    rintro ⟨m, hm, h1, h2⟩
    exact hall m hm ⟨h1, h2⟩
end Wk
/-! # WkW12 -/
set_option Elab.async false
set_option linter.all false
set_option maxRecDepth 100000
set_option maxHeartbeats 4000000
namespace Wk
open PySem PySem.Spec PyProof.Rows L2
section
variable {K : PySem.W.Frag} {r : En} {ta tb te ti : TE} {t u tz : TS} {P : Po} {f g : D → Prop} {i : Nat} {ds : List D} {tr : TA} {m n : Nat}
theorem rl_scr {ns : List Int} (w : RunV K te r (.scr ns)) : RunL K te r (ns.map D.int) := fun S s F H e Q q => w S s F H e Q fun d v F' H' hd rp gr => by
  subst hd
  obtain ⟨a, rfl, h1⟩ := rp.scr
  exact q a _ F' H' gr (fun F2 H2 g2 => g2.sub.seqL (g2.ex.seqL h1)) RepL.of_ints
theorem ro_sliceUp {k : Nat} (wa : RunL K ta r ds) (wb : RunV K tb r (.int k)) : RunOV K (tSl (rSlL K) ta tNoPart (tPart tb)) r (ds.take k) := fun S s F H e Q q =>
  wa S s F H e _ fun a vs F1 H1 g1 h1 r1 => wb S s F1 H1 (e.gr g1) _ fun d2 v2 F2 H2 hd2 r2 g2 => by
    subst hd2
    have l1 := r1.length
    have s2 : HT.sIx vs.length vs.length (some (k : Int)) = min k vs.length := by rw [HT.sIx_nat]
    have s1 : HT.sIx vs.length 0 none = 0 := HT.sIx_none _ _
    have g := g1.trans g2
    refine ⟨k, r2.int, a, vs, rfl, h1 F2 H2 g2, fun p hp => ?_⟩
    have ec : cutV vs none (some (k : Int)) = vs.take k := by
      unfold cutV
      rw [s1, s2]
      show (vs.drop 0).take (min k vs.length - 0) = _
      rw [List.drop_zero, Nat.sub_zero]
      exact (List.take_eq_take_min ..).symm
    rw [ec]
    exact q _ p _ F2 _ rfl (g.trans (Gr.track g2.sub (g.sok e.sok) hp)) (g2.sub.back hp) (gr_free g hp) upd_same ((r1.mono g2.ex).take k)
/-- an int, whichever -/
abbrev anyI : D → Prop := fun d => ∃ z : Int, d = .int z
abbrev below (m : Nat) : D → Prop := fun d => ∃ k : Nat, k < m ∧ d = nD k
theorem re_st (hi : r[i]? = some .st) {j : Nat} (hj : j < 2) : RunE K (tOp (rIxL K) (tVar i) (tC (.int j))) r anyI := fun S s F H e Q q => by
  obtain ⟨v, hv, p, hS, rfl⟩ := e.sl i _ hi
  obtain ⟨h1, h2, z0, z1, h3⟩ := e.st p hS
  refine ⟨_, hv, p, [.int z0, .int z1], j, (if j = 0 then V.int z0 else V.int z1), rfl, rfl, SqL.of h3, ?_, ?_⟩
  · refine atI_nat ?_
    match j, hj with
    | 0, _ => rfl
    | 1, _ => rfl
  · match j, hj with
    | 0, _ => exact q _ _ F H ⟨z0, rfl⟩ Rep.mk_int e.grr
    | 1, _ => exact q _ _ F H ⟨z1, rfl⟩ Rep.mk_int e.grr
theorem re_modN (wa : RunE K ta r anyI) (wb : RunV K tb r (nD m)) (hm : 0 < m) : RunE K (tOp rModI ta tb) r (below m) := re_op wa wb fun x y ⟨z, hz⟩ hy => by
  subst hz hy
  intro S F H vx vy e so rx ry Q q
  rw [rx.int, ry.int]
  have h0 := Int.emod_nonneg z (show (m : Int) ≠ 0 by omega)
  have h1 := Int.emod_lt_of_pos z (show (0 : Int) < m by omega)
  refine ⟨z, m, rfl, rfl, by omega, q (nD (z % m).toNat) _ F H ⟨_, by omega, rfl⟩ ?_ (Gr.refl e so)⟩
  have : (((z % m).toNat : Nat) : Int) = z % m := by omega
  show Rep K F (.int _) (.int _)
  rw [this]
  exact Rep.mk_int
theorem re_modA (wa : RunE K ta r anyI) (wb : RunV K tb r (.int m)) (hm : 0 < m) : RunE K (tOp rModI ta tb) r anyI := (re_modN wa wb hm).imp fun d ⟨k, _, h⟩ => ⟨k, h⟩
theorem re_divA (wa : RunE K ta r anyI) (wb : RunV K tb r (nD m)) (hm : 0 < m) (hb : m < 1000000) : RunE K (tOp rDivI ta tb) r anyI := re_op wa wb fun x y ⟨z, hz⟩ hy => by
  subst hz hy
  intro S F H vx vy e so rx ry Q q
  rw [rx.int, ry.int]
  exact ⟨z, m, rfl, rfl, ⟨by omega, by omega⟩, q (.int (z / m)) _ F H ⟨_, rfl⟩ Rep.mk_int (Gr.refl e so)⟩
theorem re_addA (wa : RunE K ta r anyI) (wb : RunE K tb r anyI) : RunE K (tOp rAddI ta tb) r anyI := re_op wa wb fun x y ⟨z, hz⟩ ⟨z2, hy⟩ => by
  subst hz hy
  intro S F H vx vy e so rx ry Q q
  rw [rx.int, ry.int]
  exact ⟨z, z2, rfl, rfl, q (.int (z + z2)) _ F H ⟨_, rfl⟩ Rep.mk_int (Gr.refl e so)⟩
theorem re_mulA (wa : RunE K ta r anyI) (wb : RunV K tb r (nD m)) (hm : m < 10000000) : RunE K (tOp rMulI ta tb) r anyI := re_op wa wb fun x y ⟨z, hz⟩ hy => by
  subst hz hy
  intro S F H vx vy e so rx ry Q q
  rw [rx.int, ry.int]
  exact ⟨z, m, rfl, rfl, .inr ⟨by omega, by omega⟩, q (.int (z * m)) _ F H ⟨_, rfl⟩ Rep.mk_int (Gr.refl e so)⟩
theorem re_intA (wa : RunE K ta r anyI) : RunE K (tCB rInt1 (tCons ta tNil)) r anyI := fun S s F H e Q q =>
  wa S s F H e _ fun d v F1 H1 ⟨z, hd⟩ r1 g1 => by
    subst hd
    exact .inl ⟨z, by rw [r1.int], q _ _ F1 H1 ⟨z, rfl⟩ Rep.mk_int g1⟩
theorem re_gtA {k : Int} (wa : RunE K ta r anyI) (wb : RunV K tb r (.int k)) : RunE K (tOp rGtI ta tb) r (fun d => ∃ b, d = .bl b) := re_op wa wb fun x y ⟨z, hz⟩ hy => by
  subst hz hy
  intro S F H vx vy e so rx ry Q q
  rw [rx.int, ry.int]
  exact ⟨z, k, rfl, rfl, q (.bl (decide (k < z))) _ F H ⟨_, rfl⟩ Rep.mk_bl (Gr.refl e so)⟩
theorem re_any {z : Int} (w : RunV K te r (.int z)) : RunE K te r anyI := w.imp fun d hd => ⟨z, hd⟩
theorem re_below {k : Nat} (w : RunE K te r (below k)) : RunE K te r anyI := w.imp fun d ⟨j, _, hd⟩ => ⟨j, hd⟩
/-- an if whose answer is not known, followed by more -/
theorem rs_ifqE (w : RunE K te r (fun d => ∃ b, d = .bl b)) (h1 : RunS K (tSeq t tz) r P) (h2 : RunS K (tSeq u tz) r P) : RunS K (tSeq (tIfS (tTest te) t u) tz) r P := fun C s F H Dn e q =>
  w C.S s F H e.en _ fun d v F' H' ⟨b, hd⟩ r1 g => ⟨b, by subst hd; exact r1.bl, by
    cases b with
    | true => rw [if_pos rfl]; exact h1 C s F' H' Dn (e.go g) (q.mono g.ex)
    | false => rw [if_neg Bool.false_ne_true]; exact h2 C s F' H' Dn (e.go g) (q.mono g.ex)⟩
theorem rs_retq (w : RunE K te r f) (h : ∀ d, f d → P.rt d) : RunS K (tSeq (tRet te) tz) r P := rs_seq (fun _ => False) (rs_ret w h) fun _ z => z.elim
/-- the state's list is written -/
theorem rs_stW (hi : r[i]? = some .st) {j : Nat} (hj : j < 2) (w : RunE K te r anyI) (h : RunS K tz r P) : RunS K (tSeq (tAsg te (gSub (tVar i) (tC (.int j)) rSetL)) tz) r P := fun C s F H Dn e q =>
  w C.S s F H e.en _ fun d v F1 H1 ⟨z, hd⟩ r1 g1 => by
    subst hd
    have e1 := e.go g1
    obtain ⟨v', hv, p, hS, rfl⟩ := e1.en.sl i _ hi
    obtain ⟨h1, h2, z0, z1, h3⟩ := e1.en.st p hS
    rw [r1.int]
    have key : ∀ y0 y1 : Int, EnC K C r s F1 (upd H1 p (.lst [.int y0, .int y1])) := fun y0 y1 => by
      have ext : Ext F1 (upd H1 p (.lst [.int y0, .int y1])) := fun b o hb => by
        rw [upd_ne (fun z => by rw [z, h1] at hb; cases hb)]
        exact e1.en.ext b o hb
      refine ⟨⟨ext, e1.en.len, fun k x hk => ?_, e1.en.nd, fun a ha => ?_⟩, ⟨e1.gr.ex, ext, fun b o hb hh => ?_, e1.gr.fresh, fun a ha => ?_⟩, e1.new⟩
      · obtain ⟨w, hw, ok⟩ := e1.en.sl k x hk
        refine ⟨w, hw, ?_⟩
        cases x with
        | un => trivial
        | im d => exact ok
        | ow a es =>
          obtain ⟨q1, q2, us, q3, q4⟩ := ok
          have na : a ≠ p := fun z => h2 (by rw [← z]; exact mem_owns hk (by simp [own1]))
          exact ⟨q1, q2, us, by rw [upd_ne na]; exact q3, q4⟩
        | st => exact ok
        | sf a c fs =>
          obtain ⟨q1, q2, dx, us, q3, q4⟩ := ok
          have na : a ≠ p := fun z => h2 (by rw [← z]; exact mem_owns hk (by simp [own1]))
          exact ⟨q1, q2, dx, us, by rw [upd_ne na]; exact q3, q4⟩
        | mx a ps dss =>
          obtain ⟨q1, q2, q3, q4⟩ := ok
          have na : ∀ b ∈ a :: ps, b ≠ p := fun b hb z => h2 (by rw [← z]; exact mem_owns hk hb)
          exact ⟨q1, q2, by rw [upd_ne (na a (List.mem_cons_self ..))]; exact q3, q4.map (Ext.refl _) fun b hb hf o ho => ⟨hf, by rw [upd_ne (na b (List.mem_cons_of_mem _ hb))]; exact ho⟩⟩
      · rw [hS] at ha
        cases ha
        exact ⟨h1, h2, y0, y1, upd_same⟩
      · have nb : b ≠ p := fun z => hb (by rw [hS, z])
        rw [upd_ne nb]
        exact e1.gr.keep b o hb hh
      · rw [hS] at ha
        cases ha
        exact ⟨y0, y1, upd_same⟩
    refine ⟨_, hv, p, [.int z0, .int z1], j, j, rfl, rfl, h3, ?_, ?_⟩
    · unfold ixN
      rw [if_pos (by omega), if_pos (by show (j : Int) < 2; omega), Int.toNat_natCast]
    · match j, hj with
      | 0, _ => exact h C s F1 _ Dn (key z z1) (q.mono g1.ex)
      | 1, _ => exact h C s F1 _ Dn (key z0 z) (q.mono g1.ex)
end
theorem lawmul_eq {F : Fd} (a b : El F) : ((a * b : El F).v : Int) = if F.q = 4 then fj F.q ((a.v : Int) % F.p * ((b.v : Int) % F.p) + (a.v : Int) / F.p * ((b.v : Int) / F.p)) ((a.v : Int) % F.p * ((b.v : Int) / F.p) + (a.v : Int) / F.p * ((b.v : Int) % F.p) + (a.v : Int) / F.p * ((b.v : Int) / F.p))
    else if F.q = 9 then fj F.q ((a.v : Int) % F.p * ((b.v : Int) % F.p) + 2 * ((a.v : Int) / F.p) * ((b.v : Int) / F.p)) ((a.v : Int) % F.p * ((b.v : Int) / F.p) + (a.v : Int) / F.p * ((b.v : Int) % F.p))
    else (a.v : Int) * b.v % F.q := by
  have e : ((a * b : El F).v : Int) = fmul F.q a.v b.v := emul_v a b
  rw [e]
  unfold fmul
  by_cases h4 : F.q = 4
  · have hp : chr F.q = 2 := by unfold chr; rw [if_pos h4]
    have hp2 : F.p = 2 := hp
    rw [if_pos h4, if_neg (by omega), if_pos hp, hp, hp2]
  rw [if_neg h4]
  by_cases h9 : F.q = 9
  · have hp : chr F.q = 3 := by unfold chr; rw [if_neg h4, if_pos h9]
    have hp2 : F.p = 3 := hp
    rw [if_pos h9, if_neg (by omega), if_neg (by omega), hp, hp2]
    unfold fj
    rw [if_neg (by omega), if_neg (by omega), hp]
    have key : ∀ x y z w : Int, (x * y - z * w) % 3 = (x * y + 2 * z * w) % 3 := fun x y z w => by
      have : 2 * z * w = 2 * (z * w) := by rw [Int.mul_assoc]
      rw [this]
      omega
    show (((a.v : Int) % 3 * ((b.v : Int) % 3) - (a.v : Int) / 3 * ((b.v : Int) / 3)) % 3 + _) = _
    rw [key]
    rfl
  rw [if_neg h9]
  have hp : chr F.q = F.q := by unfold chr; rw [if_neg h4, if_neg h9]
  rw [if_pos hp.symm, hp]

def R__law_state : List D → (List D → Prop) → Prop := fun ds f => ∃ (ns : List Int), ds = [.scr ns] ∧ f = fun d => ∃ a b : Int, d = [.int a, .int b]
abbrev sp__law_state (K : PySem.W.Frag) : Sp := fsp K R__law_state
theorem f__law_state {P : Program} {w : World} {K : PySem.W.Frag} {mg : Str → Option Value} {base : Heap} (T : Tx K mg base) : Cal P w K mg base 1 "_law_state" (sp__law_state K) := by
  refine cal_of (d__law_state T) (g__law_state T) (N := ["_law_script", "_law_seed", "_law_total", "_law_cell"]) (ps := ["_law_script"]) (fun _ _ _ _ _ _ us hl => match us, hl with | [_], _ => rfl) (by decide +kernel) (fsp_len (by rintro ds f ⟨_, rfl, _⟩; rfl)) ?_
  intro cdv A outer sh H vs Q E hr hs
  let NN : List Str := ["_law_script", "_law_seed", "_law_total", "_law_cell"]
  have nd : List.Nodup (α := Str) ["_law_script", "_law_seed", "_law_total", "_law_cell"] := by decide +kernel
  refine ⟨_, (pss_cons (ps_set (i := 1) nd rfl (by first | exact Or.inl rfl | exact Or.inr rfl) pe_int)
 (pss_cons (ps_set (i := 2) nd rfl (by first | exact Or.inl rfl | exact Or.inr rfl) pe_int)
 (pss_cons (ps_for PassesOwn.never rfl (pi_list (pe_slice sl_list (pv 0) po_none (po_some pe_int))) (pg_name (i := 3) nd rfl (by first | exact Or.inl rfl | exact Or.inr rfl)) (pss_cons (ps_set (i := 1) nd rfl (by first | exact Or.inl rfl | exact Or.inr rfl) (pe_op op_add (pe_op op_mul (pv 1) pe_int) (pe_callB call_abs (by rfl) (b_abs T) (by rfl) (pa_cons (pv 3) pa_nil))))
 (pss_one (ps_set (i := 2) nd rfl (by first | exact Or.inl rfl | exact Or.inr rfl) (pe_op op_mod (pe_callTy call_int1 (by rfl) (b_int T) (by rfl) (pa_cons (pe_op op_add (pe_op op_mul (pv 2) pe_int) (pv 3)) pa_nil)) pe_int)))))
 (pss_one (ps_ret (pe_lst (pa_cons (pv 1) (pa_cons (pv 2) pa_nil)))))))), ?_⟩
  clear hr nd NN
  refine body_fsp (n := 4) hs rfl ?_
  clear hs
  rintro ds f ⟨ns, rfl, rfl⟩
  refine rs_setV rv_int ?_
  refine rs_setV rv_int ?_
  refine rs_forF (l := ns.take 63) (sx := D.int) (js := [3]) (fun (s : Int × Int) c => (s.1 * 1000003 + (if c < 0 then -c else c), (s.2 * 48271 + c) % 2147483647)) (fun _ => True) (fun s => [.im (.scr ns), .im (.int s.1), .im (.int s.2), .un]) (0, 1) ?_ (by repeat' (first | exact True.intro | refine And.intro ?_ ?_ | exact Or.inl rfl | exact Or.inr rfl)) (fun pre c post _ _ => ⟨_, rg_name, (fun _ h => h), ?_⟩) fun _ => rs_retO (ro_lst (ra_cons ((rv_var rfl)) (ra_cons ((rv_var rfl)) ra_nil)) ?_) ?_
  · have h := rj_list (K := K) (RunO.v (ro_sliceUp (k := 63) (tb := tC (.int 63)) (rl_scr (K := K) (r := ((ent 4 [.scr ns]).set 1 (.im (.int 0))).set 2 (.im (.int 1))) (ns := ns) (te := tVar 0) (rv_var rfl)) rv_int))
    rw [← List.map_take] at h
    exact h
  · generalize pre.foldl (fun (s : Int × Int) c => (s.1 * 1000003 + (if c < 0 then -c else c), (s.2 * 48271 + c) % 2147483647)) (0, 1) = s
    refine rs_setV (rv_add (rv_mul (rv_var rfl) rv_int (.inr (by decide))) (rv_abs (rv_var rfl))) ?_
    refine rs_set (rv_mod (rv_intI (rv_add (rv_mul (rv_var rfl) rv_int (.inr (by decide))) (rv_var rfl))) rv_int (by decide)) ?_
    rintro d rfl
    exact ⟨trivial, (by repeat' (first | exact True.intro | refine And.intro ?_ ?_ | exact Or.inl rfl | exact Or.inr rfl))⟩
  · intro ds e
    subst e
    simp
  · rintro ds rfl
    exact ⟨_, _, rfl⟩
def R__law_take : List D → (D → Prop) → Prop := fun ds f => ∃ (m : Nat), ∃ (hm : 0 < m), ∃ (hm2 : m < 1000000), ds = [nD m] ∧ f = fun d => below m d
abbrev sp__law_take (K : PySem.W.Frag) : Sp := ssp K R__law_take
theorem f__law_take {P : Program} {w : World} {K : PySem.W.Frag} {mg : Str → Option Value} {base : Heap} (T : Tx K mg base) : Cal P w K mg base 1 "_law_take" (sp__law_take K) := by
  refine cal_of (d__law_take T) (g__law_take T) (N := ["_law_state_here", "_law_m", "_law_value_here"]) (ps := ["_law_state_here", "_law_m"]) (fun _ _ _ _ _ _ us hl => match us, hl with | [_, _], _ => rfl) (by decide +kernel) (ssp_len (by rintro ds f ⟨_, _, _, rfl, _⟩; rfl)) ?_
  intro cdv A outer sh H vs Q E hr hs
  let NN : List Str := ["_law_state_here", "_law_m", "_law_value_here"]
  have nd : List.Nodup (α := Str) ["_law_state_here", "_law_m", "_law_value_here"] := by decide +kernel
  refine ⟨_, (pss_cons (ps_if (pt_cmpR op_gt (pe_ix ix_list (pv 0) pe_int (fun _ _ => rfl)) pe_int (by first | exact nomark _ | rfl | with_unfolding_all rfl)) (pss_cons (ps_set (i := 2) nd rfl (by first | exact Or.inl rfl | exact Or.inr rfl) (pe_op op_mod (pe_callTy call_int1 (by rfl) (b_int T) (by rfl) (pa_cons (pe_ix ix_list (pv 0) pe_int (fun _ _ => rfl)) pa_nil)) (pv 1)))
 (pss_cons (ps_asg (pe_op op_fdiv (pe_ix ix_list (pv 0) pe_int (fun _ _ => rfl)) (pv 1)) (pg_sub (pv 0) pe_int set_list))
 (pss_one (ps_ret (pv 2))))) pss_nil)
 (pss_cons (ps_asg (pe_op op_mod (pe_callTy call_int1 (by rfl) (b_int T) (by rfl) (pa_cons (pe_op op_add (pe_op op_mul (pe_ix ix_list (pv 0) pe_int (fun _ _ => rfl)) pe_int) pe_int) pa_nil)) pe_int) (pg_sub (pv 0) pe_int set_list))
 (pss_one (ps_ret (pe_op op_mod (pe_callTy call_int1 (by rfl) (b_int T) (by rfl) (pa_cons (pe_op op_fdiv (pe_ix ix_list (pv 0) pe_int (fun _ _ => rfl)) pe_int) pa_nil)) (pv 1)))))), ?_⟩
  clear hr nd NN
  refine body_ssp (n := 3) hs rfl ?_ (by decide)
  clear hs
  rintro ds f ⟨m, hm, hm2, rfl, rfl⟩
  refine rs_ifqE (re_gtA (re_st rfl (j := 0) (by decide)) rv_int) ?_ ?_
  · refine rs_seq (fun _ => False) ?_ fun _ z => z.elim
    refine rs_setq (re_modN (re_intA (re_st rfl (j := 0) (by decide))) (rv_var rfl) hm) ?_
    rintro d ⟨k, hk, rfl⟩
    refine rs_stW (i := 0) (j := 0) rfl (by decide) (re_divA (re_st rfl (j := 0) (by decide)) (rv_var rfl) hm hm2) ?_
    exact rs_retV (rv_var rfl) ⟨k, hk, rfl⟩
  · refine rs_nextq ?_
    refine rs_stW (i := 0) (j := 1) rfl (by decide) (re_modA (m := 2147483647) (re_intA (re_addA (re_mulA (m := 48271) (re_st rfl (j := 1) (by decide)) rv_int (by decide)) (re_any rv_int))) rv_int (by decide)) ?_
    exact rs_ret (re_modN (re_intA (re_divA (m := 7) (re_st rfl (j := 1) (by decide)) rv_int (by decide) (by decide))) (rv_var rfl) hm) fun d h => h
def R__law_field : List D → (D → Prop) → Prop := fun ds f => ∃ (F : Fd), ds = [nD F.q] ∧ f = fun d => d = fD F
abbrev sp__law_field (K : PySem.W.Frag) : Sp := psp K R__law_field
theorem f__law_field {P : Program} {w : World} {K : PySem.W.Frag} {mg : Str → Option Value} {base : Heap} (T : Tx K mg base) : Cal P w K mg base 3 "_law_field" (sp__law_field K) := by
  refine cal_of (d__law_field T) (g__law_field T) (N := ["_law_q", "_law_p", "_law_sums", "_law_products", "_law_a", "_law_line", "_law_own", "_law_b", "_law_low", "_law_high", "_law_one", "_law_two", "_law_mixed"]) (ps := ["_law_q"]) (fun _ _ _ _ _ _ us hl => match us, hl with | [_], _ => rfl) (by decide +kernel) (psp_len (by rintro ds f ⟨_, rfl, _⟩; rfl)) ?_
  intro cdv A outer sh H vs Q E hr hs
  let NN : List Str := ["_law_q", "_law_p", "_law_sums", "_law_products", "_law_a", "_law_line", "_law_own", "_law_b", "_law_low", "_law_high", "_law_one", "_law_two", "_law_mixed"]
  have nd : List.Nodup (α := Str) ["_law_q", "_law_p", "_law_sums", "_law_products", "_law_a", "_law_line", "_law_own", "_law_b", "_law_low", "_law_high", "_law_one", "_law_two", "_law_mixed"] := by decide +kernel
  refine ⟨_, (pss_cons (ps_set (i := 1) nd rfl (by first | exact Or.inl rfl | exact Or.inr rfl) (pe_c (f__law_prime T) hr (by decide) (by rfl) (pa_cons (pv 0) pa_nil)))
 (pss_cons (ps_set (i := 2) nd rfl (by first | exact Or.inl rfl | exact Or.inr rfl) (pe_lst pa_nil))
 (pss_cons (ps_set (i := 3) nd rfl (by first | exact Or.inl rfl | exact Or.inr rfl) (pe_lst pa_nil))
 (pss_cons (ps_for PassesOwn.never rfl (pi_range1 (by rfl) (b_range T) (pa_cons (pv 0) pa_nil)) (pg_name (i := 4) nd rfl (by first | exact Or.inl rfl | exact Or.inr rfl)) (pss_cons (ps_set (i := 5) nd rfl (by first | exact Or.inl rfl | exact Or.inr rfl) (pe_lst pa_nil))
 (pss_cons (ps_set (i := 6) nd rfl (by first | exact Or.inl rfl | exact Or.inr rfl) (pe_lst pa_nil))
 (pss_cons (ps_for PassesOwn.never rfl (pi_range1 (by rfl) (b_range T) (pa_cons (pv 0) pa_nil)) (pg_name (i := 7) nd rfl (by first | exact Or.inl rfl | exact Or.inr rfl)) (pss_cons (ps_asg (pe_tup (pa_cons (pe_op op_mod (pe_callTy call_int1 (by rfl) (b_int T) (by rfl) (pa_cons (pv 4) pa_nil)) (pv 1)) (pa_cons (pe_op op_fdiv (pv 4) (pv 1)) (pa_cons (pe_op op_mod (pe_callTy call_int1 (by rfl) (b_int T) (by rfl) (pa_cons (pv 7) pa_nil)) (pv 1)) (pa_cons (pe_op op_fdiv (pv 7) (pv 1)) pa_nil))))) (pg_tup rfl (pgs_cons (pg_name (i := 8) nd rfl (by first | exact Or.inl rfl | exact Or.inr rfl)) (pgs_cons (pg_name (i := 9) nd rfl (by first | exact Or.inl rfl | exact Or.inr rfl)) (pgs_cons (pg_name (i := 10) nd rfl (by first | exact Or.inl rfl | exact Or.inr rfl)) (pgs_cons (pg_name (i := 11) nd rfl (by first | exact Or.inl rfl | exact Or.inr rfl)) pgs_nil))))))
 (pss_cons (ps_expr (pe_bm PySem.F.plainAttrs_list PySem.F.slot_list_append PySem.F.type_list_append mt_append (pv 5) (pa_cons (pe_c (f__law_joined T) hr (by decide) (by rfl) (pa_cons (pv 0) (pa_cons (pe_op op_add (pv 8) (pv 10)) (pa_cons (pe_op op_add (pv 9) (pv 11)) pa_nil)))) pa_nil)))
 (pss_cons (ps_set (i := 12) nd rfl (by first | exact Or.inl rfl | exact Or.inr rfl) (pe_op op_add (pe_op op_mul (pv 8) (pv 11)) (pe_op op_mul (pv 9) (pv 10))))
 (pss_one (ps_if (pt_cmpR op_eq (pv 0) pe_int (by first | exact nomark _ | rfl | with_unfolding_all rfl)) (pss_one (ps_expr (pe_bm PySem.F.plainAttrs_list PySem.F.slot_list_append PySem.F.type_list_append mt_append (pv 6) (pa_cons (pe_c (f__law_joined T) hr (by decide) (by rfl) (pa_cons (pv 0) (pa_cons (pe_op op_add (pe_op op_mul (pv 8) (pv 10)) (pe_op op_mul (pv 9) (pv 11))) (pa_cons (pe_op op_add (pv 12) (pe_op op_mul (pv 9) (pv 11))) pa_nil)))) pa_nil)))) (pss_one (ps_if (pt_cmpR op_eq (pv 0) pe_int (by first | exact nomark _ | rfl | with_unfolding_all rfl)) (pss_one (ps_expr (pe_bm PySem.F.plainAttrs_list PySem.F.slot_list_append PySem.F.type_list_append mt_append (pv 6) (pa_cons (pe_c (f__law_joined T) hr (by decide) (by rfl) (pa_cons (pv 0) (pa_cons (pe_op op_add (pe_op op_mul (pv 8) (pv 10)) (pe_op op_mul (pe_op op_mul pe_int (pv 9)) (pv 11))) (pa_cons (pv 12) pa_nil)))) pa_nil)))) (pss_one (ps_expr (pe_bm PySem.F.plainAttrs_list PySem.F.slot_list_append PySem.F.type_list_append mt_append (pv 6) (pa_cons (pe_op op_mod (pe_callTy call_int1 (by rfl) (b_int T) (by rfl) (pa_cons (pe_op op_mul (pv 4) (pv 7)) pa_nil)) (pv 0)) pa_nil))))))))))))
 (pss_cons (ps_expr (pe_bm PySem.F.plainAttrs_list PySem.F.slot_list_append PySem.F.type_list_append mt_append (pv 2) (pa_cons (pv 5) pa_nil)))
 (pss_one (ps_expr (pe_bm PySem.F.plainAttrs_list PySem.F.slot_list_append PySem.F.type_list_append mt_append (pv 3) (pa_cons (pv 6) pa_nil)))))))))
 (pss_one (ps_ret (pe_tup (pa_cons (pv 0) (pa_cons (pv 2) (pa_cons (pv 3) pa_nil)))))))))), ?_⟩
  clear hr nd NN
  refine body_psp (n := 13) hs rfl ?_
  clear hs
  rintro ds f ⟨F, rfl, rfl⟩
  have hp := F.p_pos
  have hp2 := F.p_le
  have hF := F.le
  refine rs_setV (re_call (ra_cons ((rv_var rfl)) ra_nil) ⟨_, rfl, rfl⟩) ?_
  refine rs_ownV (rov_lst ra_nil) fun p1 => ?_
  refine rs_ownV (rov_lst ra_nil) fun p2 => ?_
  refine rs_forF (l := els F) (sx := elD) (js := [4]) (fun s a => s ++ [a]) (fun _ => True) (fun s => [.im (nD F.q), .im (nD F.p), .ow p1 (s.map fun a => .lst ((els F).map fun b => elD (a + b))), .ow p2 (s.map fun a => .lst ((els F).map fun b => elD (a * b))), .un, .un, .un, .un, .un, .un, .un, .un, .un]) [] (rj_els (rv_var rfl) rfl) (by repeat' (first | exact True.intro | refine And.intro ?_ ?_ | exact Or.inl rfl | exact Or.inr rfl)) (fun pre a post hpre _ => ?_) fun _ => ?_
  · have hl := pre_len hpre
    rw [els_len] at hl
    have es : pre.foldl (fun s a => s ++ [a]) [] = pre := by rw [foldl_app (fun a => [a]), flat_one, List.map_id', List.nil_append]
    rw [es]
    obtain ⟨a1, a2, a3, a4⟩ := elb a
    have ha := a.lt
    refine ⟨_, rg_name, (fun _ h => h), ?_⟩
    refine rs_ownV (rov_lst ra_nil) fun p3 => ?_
    refine rs_ownV (rov_lst ra_nil) fun p4 => ?_
    refine rs_forF (l := els F) (sx := elD) (js := [7]) (fun s a => s ++ [a]) (fun _ => True) (fun s => [.im (nD F.q), .im (nD F.p), .ow p1 (pre.map fun a => .lst ((els F).map fun b => elD (a + b))), .ow p2 (pre.map fun a => .lst ((els F).map fun b => elD (a * b))), .im (elD a), .ow p3 (s.map fun b => elD (a + b)), .ow p4 (s.map fun b => elD (a * b)), .un, .un, .un, .un, .un, .un]) [] (rj_els (rv_var rfl) rfl) (by repeat' (first | exact True.intro | refine And.intro ?_ ?_ | exact Or.inl rfl | exact Or.inr rfl)) (fun pre2 b post2 hpre2 _ => ?_) fun _ => ?_
    · have hl2 := pre_len hpre2
      rw [els_len] at hl2
      have es2 : pre2.foldl (fun s a => s ++ [a]) [] = pre2 := by rw [foldl_app (fun a => [a]), flat_one, List.map_id', List.nil_append]
      rw [es2]
      obtain ⟨b1, b2, b3, b4⟩ := elb b
      have hb := b.lt
      refine ⟨_, rg_name, (fun _ h => h), ?_⟩
      refine rs_tgq (js := [8, 9, 10, 11]) (rv_tup (ra_cons (rv_mod (rv_intI (rv_var rfl)) (rv_var rfl) (by omega)) (ra_cons (rv_div (rv_var rfl) (rv_var rfl) (by omega) (by omega)) (ra_cons (rv_mod (rv_intI (rv_var rfl)) (rv_var rfl) (by omega)) (ra_cons (rv_div (rv_var rfl) (rv_var rfl) (by omega) (by omega)) ra_nil))))) ?_
      rintro d rfl
      refine ⟨_, rg_tup4, (fun _ h => h), ?_⟩
      refine rs_appV (i := 5) rfl (by rw [List.length_map]; omega) ((re_call (ra_cons ((rv_var rfl)) (ra_cons (rv_add (rv_var rfl) (rv_var rfl)) (ra_cons (rv_add (rv_var rfl) (rv_var rfl)) ra_nil))) ⟨F, _, _, rfl, rfl⟩ : RunV K _ _ (.int (fj F.q ((a.v : Int) % F.p + (b.v : Int) % F.p) ((a.v : Int) / F.p + (b.v : Int) / F.p)))).is (congrArg D.int (joinE_v F _ _).symm)) ?_
      refine rs_setV (rv_add (rv_mul (rv_var rfl) (rv_var rfl) (.inl (by omega))) (rv_mul (rv_var rfl) (rv_var rfl) (.inl (by omega)))) ?_
      have em := lawmul_eq a b
      have fin : ∀ x : Int, x = ((a * b : El F).v : Int) → D.int x = elD (a * b) := fun x h => by rw [h]
      refine rs_if (rt_test (rv_eqI (rv_var rfl) rv_int)) (fun h => ?_) fun h => rs_if (rt_test (rv_eqI (rv_var rfl) rv_int)) (fun h2 => ?_) fun h2 => ?_
      · have h := of_decide_eq_true h
        rw [if_pos (by omega)] at em
        refine rs_app (i := 6) rfl (by rw [List.length_map]; omega) (re_call (ra_cons ((rv_var rfl)) (ra_cons (rv_add (rv_mul (rv_var rfl) (rv_var rfl) (.inl (by omega))) (rv_mul (rv_var rfl) (rv_var rfl) (.inl (by omega)))) (ra_cons (rv_add (rv_var rfl) (rv_mul (rv_var rfl) (rv_var rfl) (.inl (by omega)))) ra_nil))) ⟨F, _, _, rfl, rfl⟩) ?_
        rintro d rfl
        refine ⟨trivial, ?_⟩
        rw [fin _ em.symm, List.map_append, List.map_append]
        exact (by repeat' (first | exact True.intro | refine And.intro ?_ ?_ | exact Or.inl rfl | exact Or.inr rfl))
      · have h := of_decide_eq_false h
        have h2 := of_decide_eq_true h2
        rw [if_neg (by omega), if_pos (by omega)] at em
        refine rs_app (i := 6) rfl (by rw [List.length_map]; omega) (re_call (ra_cons ((rv_var rfl)) (ra_cons (rv_add (rv_mul (rv_var rfl) (rv_var rfl) (.inl (by omega))) (rv_mul (rv_mul rv_int (rv_var rfl) (.inl (by omega))) (rv_var rfl) (.inl (by omega)))) (ra_cons ((rv_var rfl)) ra_nil))) ⟨F, _, _, rfl, rfl⟩) ?_
        rintro d rfl
        refine ⟨trivial, ?_⟩
        rw [fin _ em.symm, List.map_append, List.map_append]
        exact (by repeat' (first | exact True.intro | refine And.intro ?_ ?_ | exact Or.inl rfl | exact Or.inr rfl))
      · have h := of_decide_eq_false h
        have h2 := of_decide_eq_false h2
        rw [if_neg (by omega), if_neg (by omega)] at em
        refine rs_app (i := 6) rfl (by rw [List.length_map]; omega) (rv_mod (rv_intI (rv_mul (rv_var rfl) (rv_var rfl) (.inl (by omega)))) (rv_var rfl) (by omega)) ?_
        rintro d rfl
        refine ⟨trivial, ?_⟩
        rw [fin _ em.symm, List.map_append, List.map_append]
        exact (by repeat' (first | exact True.intro | refine And.intro ?_ ?_ | exact Or.inl rfl | exact Or.inr rfl))
    · have es2 : (els F).foldl (fun s a => s ++ [a]) [] = els F := by rw [foldl_app (fun a => [a]), flat_one, List.map_id', List.nil_append]
      rw [es2]
      refine rs_freeze (i := 5) rfl (rs_freeze (i := 6) rfl ?_)
      refine rs_appV (i := 2) rfl (by rw [List.length_map]; omega) (rv_var rfl) ?_
      refine rs_app (i := 3) rfl (by rw [List.length_map]; omega) (rv_var rfl) ?_
      rintro d rfl
      refine ⟨trivial, ?_⟩
      rw [List.map_append, List.map_append]
      exact (by repeat' (first | exact True.intro | refine And.intro ?_ ?_ | exact Or.inl rfl | exact Or.inr rfl))
  · have es2 : (els F).foldl (fun s a => s ++ [a]) [] = els F := by rw [foldl_app (fun a => [a]), flat_one, List.map_id', List.nil_append]
    rw [es2]
    refine rs_freeze (i := 2) rfl (rs_freeze (i := 3) rfl ?_)
    exact rs_retV (rv_tup (ra_cons ((rv_var rfl)) (ra_cons ((rv_var rfl)) (ra_cons ((rv_var rfl)) ra_nil)))) rfl
end Wk
/-! # WkW13 -/
set_option Elab.async false
set_option linter.all false
set_option maxRecDepth 100000
set_option maxHeartbeats 4000000
namespace Wk
open PySem PySem.Spec PyProof.Rows L2
section
variable {K : PySem.W.Frag} {r : En} {ta tb te ti : TE} {t u tz : TS} {P : Po} {f g : D → Prop} {i : Nat} {ds : List D} {tr : TA} {m n : Nat} {gt : TG} {js : List Nat}
theorem re_callN {R : List D → (D → Prop) → Prop} {Pa : List D → Prop} (w : RunA K tr r Pa) (h : ∀ ds, Pa ds → ∃ f', R ds f' ∧ ∀ d, f' d → f d) : RunE K (tCall (psp K R) [] E0 tr) r f := fun S s F H e Q q =>
  w S s F H e _ fun es vs F1 H1 hes r1 g1 => by
    obtain ⟨f', hR, hf⟩ := h es hes
    exact ⟨F1, es, f', g1.sub, by rw [List.append_nil]; exact r1, hR, fun d v F2 H2 hd rd g2 => q d v F2 H2 (hf d hd) rd (g1.trans (g2.any (g1.sok e.sok)))⟩
theorem re_ixB (wa : RunL K ta r ds) (wb : RunE K tb r (below m)) (hd : ∀ k, k < m → ∃ d : D, ds[k]? = some d ∧ f d) : RunE K (tOp (rIxL K) ta tb) r f :=
  re_ixL (Z := fun z => ∃ k : Nat, k < m ∧ z = k) wa (wb.imp fun d ⟨k, hk, h⟩ => ⟨k, ⟨k, hk, rfl⟩, h⟩) fun z ⟨k, hk, hz⟩ => by
    obtain ⟨d, h1, h2⟩ := hd k hk
    exact ⟨k, d, hz, h1, h2⟩
/-- for over a range whose end is drawn: I stands at every turn -/
theorem rs_forX {Z : Nat → Prop} (w : RunE K te r fun x => ∃ n, Z n ∧ x = .int (n : Nat)) (hn : ∀ n, Z n → n ≤ 1000000) (I : En → Prop) (h0 : I r)
    (ho : ∀ r' k, I r' → ∃ r1, RunG K gt r' (nD k) js r1 ∧ (∀ a, a ∈ owns r1 → a ∈ owns r') ∧ RunS K t r1 { P with nx := I, ct := I, bk := P.nx })
    (hd : ∀ r', I r' → P.nx r') : RunS K (tFor (iRng1 (tCons te tNil)) gt t) r P := fun C s F H Dn e q =>
  rj_rng1E (xs := fun _ => True) w hn C.S s F H e.en _ fun n J F1 H1 hz g1 Y => by
    have e1 := e.go g1
    have hlen : (rng 0 n).length = n := by unfold rng; rw [List.length_map, List.length_range]
    refine ⟨fun i m s' H' => m = n - i ∧ i ≤ n ∧ ∃ r' F', I r' ∧ EnC K C r' s' F' H' ∧ Ext F1 F', ⟨n, by simp, Nat.zero_le _, r, F1, h0, e1, Ext.refl F1⟩, ?_⟩
    rintro i m s' H' ⟨rfl, hi, r', F', hI, e', x'⟩
    by_cases hlt : i < n
    · refine .inr ⟨Y.go i F' H' (by rw [hlen]; exact hlt) x' e'.en.ext e'.en.sok, fun s2 H2 => i + 1 ≤ n ∧ ∃ r' F', I r' ∧ EnC K C r' s2 F' H2 ∧ Ext F1 F', fun s2 H2 h2 => ⟨n - (i + 1), by omega, rfl, h2⟩, fun x H2 hy => ?_⟩
      have hget : (rng 0 n)[i]? = some (nD i) := by
        unfold rng
        rw [List.getElem?_map, List.getElem?_range hlt]
        simp
      obtain ⟨F2, g2, rx⟩ := Y.yld i _ F' H' x H2 hget x' e'.en.ext e'.en.sok hy
      obtain ⟨r1, hg, how, hb⟩ := ho r' i hI
      have e2 := e'.go g2
      refine hg C.S s' F2 H2 x e2.en rx _ fun s1 en1 _ => ?_
      refine hb C s1 F2 H2 _ ⟨en1, e2.gr, fun a ha => e2.new a (how a ha)⟩ ⟨fun r3 s3 F3 H3 h3 e3 x3 => ⟨hlt, r3, F3, h3, e3, x'.trans (g2.ex.trans x3)⟩, fun r3 s3 F3 H3 h3 e3 x3 => ?_, fun r3 s3 F3 H3 h3 e3 x3 => ⟨hlt, r3, F3, h3, e3, x'.trans (g2.ex.trans x3)⟩, q.rt, q.ro⟩
      exact q.nx r3 s3 F3 H3 h3 e3 (g1.ex.trans (x'.trans (g2.ex.trans x3)))
    · have ei : i = n := by omega
      subst ei
      have hs := Y.stop F' H' x' e'.en.ext
      rw [hlen] at hs
      exact .inl ⟨hs, q.nx r' s' F' H' (hd r' hI) e' (g1.ex.trans x')⟩
end
theorem mat_set {F : Fd} {n : Nat} (rows : Fin n → Row F n) (i : Fin n) (w : Row F n) : ((matL rows).map rowD).set i.val (rowD w) = (matL fun k => if k = i then w else rows k).map rowD := by
  unfold matL
  rw [List.map_map, List.map_map]
  apply List.ext_getElem
  · simp
  · intro k h1 h2
    rw [List.getElem_set]
    have hk : k < n := by simpa using h2
    by_cases hq : i.val = k
    · subst hq
      simp
    · rw [if_neg hq]
      have : ¬ (⟨k, hk⟩ : Fin n) = i := fun z => hq (by rw [← z])
      simp [this]
theorem row2 {F : Fd} (v : Row F 2) : rowD v = .tup [elD (v 0), elD (v 1)] := rfl
theorem mat2 {F : Fd} (m : Fin 2 → Row F 2) : tabD (matL m) = .tup [rowD (m 0), rowD (m 1)] := rfl

def R__law_fixed : List D → (D → Prop) → Prop := fun ds f => ∃ (F : Fd), ds = [fD F] ∧ f = fun d => ∃ a : El F, ebar a = a ∧ d = elD a
abbrev sp__law_fixed (K : PySem.W.Frag) : Sp := ssp K R__law_fixed
theorem f__law_fixed {P : Program} {w : World} {K : PySem.W.Frag} {mg : Str → Option Value} {base : Heap} (T : Tx K mg base) : Cal P w K mg base 2 "_law_fixed" (sp__law_fixed K) := by
  refine cal_of (d__law_fixed T) (g__law_fixed T) (N := ["_law_state_here", "_law_f", "_law_found", "_law_c"]) (ps := ["_law_state_here", "_law_f"]) (fun _ _ _ _ _ _ us hl => match us, hl with | [_, _], _ => rfl) (by decide +kernel) (ssp_len (by rintro ds f ⟨_, rfl, _⟩; rfl)) ?_
  intro cdv A outer sh H vs Q E hr hs
  let NN : List Str := ["_law_state_here", "_law_f", "_law_found", "_law_c"]
  have nd : List.Nodup (α := Str) ["_law_state_here", "_law_f", "_law_found", "_law_c"] := by decide +kernel
  refine ⟨_, (pss_cons (ps_setLc (i := 2) (own := [("_law_c", 3)]) (g := (gName 3)) (tt := (tTest (tOp rEq (tCall (sp__law_bar K) [] E0 (tCons (tVar 1) (tCons (tVar 3) tNil))) (tVar 3)))) (te := (tVar 3)) rfl nd rfl rfl (sw_true rfl rfl rfl (by decide +kernel)) (pi_range1 (by rfl) (b_range T) (pa_cons (pe_ix ix_tup (pv 1) pe_int (fun _ _ => rfl)) pa_nil)) (blkOk_by (N := NN) (by kernel_rfl)) (fun _ _ _ _ _ => (pg_name (i := 3) nd rfl (by first | exact Or.inl rfl | exact Or.inr rfl))) (fun _ _ _ _ _ => (pts_one (pt_cmpR op_eq (pe_c (f__law_bar T) hr (by decide) (by rfl) (pa_cons (pv 1) (pa_cons (pv 3) pa_nil))) (pv 3) (by first | exact nomark _ | rfl | with_unfolding_all rfl)))) (fun _ _ _ _ _ => (pv 3)))
 (pss_one (ps_ret (pe_ix ix_list (pv 2) (pe_c (f__law_take T) hr (by decide) (by rfl) (pa_cons (pv 0) (pa_cons (pe_callB call_len_seq (by rfl) (b_len T) PySem.boot_len (pa_cons (pv 2) pa_nil)) pa_nil))) (fun _ _ => rfl))))), ?_⟩
  clear hr nd NN
  refine body_ssp (n := 4) hs rfl ?_ (by decide)
  clear hs
  rintro ds f ⟨F, rfl, rfl⟩
  have hF := F.le
  have h0 : (0 : El F) ∈ (els F).filter fun a => decide (ebar a = a) := by
    refine List.mem_filter.mpr ⟨els_mem 0, ?_⟩
    rw [decide_eq_true_eq]
    unfold ebar
    split
    · rfl
    · have hp := F.p_pos
      have e : F.p = (F.p - 1) + 1 := by omega
      rw [e, Lean.Grind.Semiring.pow_succ]
      grind
  have hlen : ((els F).filter fun a => decide (ebar a = a)).length ≤ F.q := by
    refine Nat.le_trans (List.length_filter_le _ _) ?_
    rw [els_len]
    exact Nat.le_refl _
  have hpos : 0 < ((els F).filter fun a => decide (ebar a = a)).length := List.length_pos_of_mem h0
  refine rs_lstV (ro_lc (l := els F) (sx := elD) (ex := elD) (p := fun a => decide (ebar a = a)) (js := [3]) (rj_i (rj_els (lf0 (rv_var rfl)) rfl)) (by rw [els_len]; omega) (by decide) fun a _ => ⟨_, rg_name, rt_test (rv_eqE (re_call (ra_cons ((rv_var rfl)) (ra_cons ((rv_var rfl)) ra_nil)) ⟨_, _, rfl, rfl⟩) (rv_var rfl)), fun _ => (rv_var rfl)⟩) ?_
  refine rs_ret (re_ixB (m := ((els F).filter fun a => decide (ebar a = a)).length) (RunE.l (rv_var rfl)) (re_scall rfl (ra_cons (rv_lenL (RunE.l (rv_var rfl)) rfl) ra_nil) ⟨((els F).filter fun a => decide (ebar a = a)).length, hpos, by omega, by rw [List.length_map], rfl⟩) fun k hk => ⟨elD (((els F).filter fun a => decide (ebar a = a))[k]), by rw [List.getElem?_map, List.getElem?_eq_getElem hk]; rfl, ⟨_, ?_, rfl⟩⟩) fun d h => h
  have := (List.mem_filter.mp (List.getElem_mem hk)).2
  simpa using this
def R__law_plane : List D → (D → Prop) → Prop := fun ds f => ∃ (F : Fd) (k : Kd), ds = [.str k.str, fD F] ∧ f = fun d => ∃ m : Fin 2 → Row F 2, (Spc.mk F 2 k m).formOk ∧ d = tabD (matL m)
abbrev sp__law_plane (K : PySem.W.Frag) : Sp := ssp K R__law_plane
theorem f__law_plane {P : Program} {w : World} {K : PySem.W.Frag} {mg : Str → Option Value} {base : Heap} (T : Tx K mg base) : Cal P w K mg base 3 "_law_plane" (sp__law_plane K) := by
  refine cal_of (d__law_plane T) (g__law_plane T) (N := ["_law_state_here", "_law_kind", "_law_f", "_law_a", "_law_b", "_law_c"]) (ps := ["_law_state_here", "_law_kind", "_law_f"]) (fun _ _ _ _ _ _ us hl => match us, hl with | [_, _, _], _ => rfl) (by decide +kernel) (ssp_len (by rintro ds f ⟨_, _, rfl, _⟩; rfl)) ?_
  intro cdv A outer sh H vs Q E hr hs
  let NN : List Str := ["_law_state_here", "_law_kind", "_law_f", "_law_a", "_law_b", "_law_c"]
  have nd : List.Nodup (α := Str) ["_law_state_here", "_law_kind", "_law_f", "_law_a", "_law_b", "_law_c"] := by decide +kernel
  refine ⟨_, (pss_cons (ps_par3 (i := 3) (j := 4) (l := 5) rfl nd rfl rfl rfl (by decide) (by decide) (by decide) rfl rfl rfl (pa_cons (pe_c (f__law_fixed T) hr (by decide) (by rfl) (pa_cons (pv 0) (pa_cons (pv 2) pa_nil))) (pa_cons (pe_c (f__law_take T) hr (by decide) (by rfl) (pa_cons (pv 0) (pa_cons (pe_ix ix_tup (pv 2) pe_int (fun _ _ => rfl)) pa_nil))) (pa_cons (pe_c (f__law_fixed T) hr (by decide) (by rfl) (pa_cons (pv 0) (pa_cons (pv 2) pa_nil))) pa_nil))) (by rfl))
 (pss_cons (ps_if (pt_cmpR op_eq (pv 1) pe_str (by first | exact nomark _ | rfl | with_unfolding_all rfl)) (pss_one (ps_ret (pe_tup (pa_cons (pe_tup (pa_cons pe_int (pa_cons (pv 4) pa_nil))) (pa_cons (pe_tup (pa_cons (pe_c (f__law_negative T) hr (by decide) (by rfl) (pa_cons (pv 2) (pa_cons (pv 4) pa_nil))) (pa_cons pe_int pa_nil))) pa_nil))))) pss_nil)
 (pss_cons (ps_if (pt_cmpR op_eq (pv 1) pe_str (by first | exact nomark _ | rfl | with_unfolding_all rfl)) (pss_one (ps_ret (pe_tup (pa_cons (pe_tup (pa_cons (pv 3) (pa_cons (pv 4) pa_nil))) (pa_cons (pe_tup (pa_cons pe_int (pa_cons (pv 5) pa_nil))) pa_nil))))) pss_nil)
 (pss_one (ps_ret (pe_tup (pa_cons (pe_tup (pa_cons (pv 3) (pa_cons (pv 4) pa_nil))) (pa_cons (pe_tup (pa_cons (pe_c (f__law_bar T) hr (by decide) (by rfl) (pa_cons (pv 2) (pa_cons (pv 4) pa_nil))) (pa_cons (pv 5) pa_nil))) pa_nil)))))))), ?_⟩
  clear hr nd NN
  refine body_ssp (n := 6) hs rfl ?_ (by decide)
  clear hs
  rintro ds f ⟨F, k, rfl, rfl⟩
  have hF := F.le
  refine rs_par3 (h := fun ds => ∃ a b c : El F, ebar a = a ∧ ebar c = c ∧ ds = [elD a, elD b, elD c]) (ra_consE (f := fun d => ∃ a : El F, ebar a = a ∧ d = elD a) (g := fun ds => ∃ b c : El F, ebar c = c ∧ ds = [elD b, elD c]) (re_scall rfl (ra_cons ((rv_var rfl)) ra_nil) ⟨_, rfl, rfl⟩) (ra_consE (f := fun d => ∃ b : El F, d = elD b) (g := fun ds => ∃ c : El F, ebar c = c ∧ ds = [elD c]) ((re_scall rfl (ra_cons (lf0 (rv_var rfl)) ra_nil) ⟨F.q, F.pos, by omega, rfl, rfl⟩).imp ?_) (ra_consE (f := fun d => ∃ a : El F, ebar a = a ∧ d = elD a) (g := fun ds => ds = []) (re_scall rfl (ra_cons ((rv_var rfl)) ra_nil) ⟨_, rfl, rfl⟩) ra_nil ?_) ?_) ?_) ?_
  · rintro d ⟨j, hj, rfl⟩
    exact ⟨El.mk j hj, rfl⟩
  · rintro x xs ⟨c, hc, rfl⟩ rfl
    exact ⟨c, hc, rfl⟩
  · rintro x xs ⟨b, rfl⟩ ⟨c, hc, rfl⟩
    exact ⟨b, c, hc, rfl⟩
  · rintro x xs ⟨a, ha, rfl⟩ ⟨b, c, hc, rfl⟩
    exact ⟨a, b, c, ha, hc, rfl⟩
  rintro ds ⟨a, b, c, ha, hc, rfl⟩
  refine ⟨_, _, _, rfl, ?_⟩
  refine rs_ifr (rt_test (rv_eqS (rv_var rfl) rv_str)) (fun h => ?_) fun h1 => rs_ifr (rt_test (rv_eqS (rv_var rfl) rv_str)) (fun h => ?_) fun h2 => ?_
  · rw [kA] at h
    have h : k = .alt := by simpa using h
    subst h
    refine rs_retV (rv_tup (ra_cons (rv_tup (ra_cons (rv_e0 (F := F)) (ra_cons ((rv_var rfl)) ra_nil))) (ra_cons (rv_tup (ra_cons (re_call (ra_cons ((rv_var rfl)) (ra_cons ((rv_var rfl)) ra_nil)) ⟨_, _, rfl, rfl⟩) (ra_cons (rv_e0 (F := F)) ra_nil))) ra_nil))) ⟨fun i j => if i = 0 then (if j = 0 then 0 else b) else (if j = 0 then -b else 0), ⟨?_, ?_⟩, rfl⟩
    · intro i
      show (if i = 0 then (if i = 0 then (0 : El F) else b) else (if i = 0 then -b else 0)) = 0
      rcases fin2 i with rfl | rfl <;> simp
    · intro i j
      show (if i = 0 then (if j = 0 then (0 : El F) else b) else (if j = 0 then -b else 0)) = -(if j = 0 then (if i = 0 then (0 : El F) else b) else (if i = 0 then -b else 0))
      rcases fin2 i with rfl | rfl <;> rcases fin2 j with rfl | rfl <;> simp <;> grind
  · rw [kQ] at h
    have h : k = .quad := by simpa using h
    subst h
    refine rs_retV (rv_tup (ra_cons (rv_tup (ra_cons ((rv_var rfl)) (ra_cons ((rv_var rfl)) ra_nil))) (ra_cons (rv_tup (ra_cons (rv_e0 (F := F)) (ra_cons ((rv_var rfl)) ra_nil))) ra_nil))) ⟨fun i j => if i = 0 then (if j = 0 then a else b) else (if j = 0 then 0 else c), ?_, rfl⟩
    intro i j hij
    show (if i = 0 then (if j = 0 then a else b) else (if j = 0 then (0 : El F) else c)) = 0
    rcases fin2 i with rfl | rfl <;> rcases fin2 j with rfl | rfl
    · exact absurd hij (show ¬ (0 : Nat) < 0 by decide)
    · exact absurd hij (show ¬ (1 : Nat) < 0 by decide)
    · rfl
    · exact absurd hij (show ¬ (1 : Nat) < 1 by decide)
  · rw [kA] at h1
    rw [kQ] at h2
    have h1 : ¬ k = .alt := by simpa using h1
    have h2 : ¬ k = .quad := by simpa using h2
    have h3 : k = .herm := by
      cases k with
      | alt => exact absurd rfl h1
      | quad => exact absurd rfl h2
      | herm => rfl
    subst h3
    refine rs_retV (rv_tup (ra_cons (rv_tup (ra_cons ((rv_var rfl)) (ra_cons ((rv_var rfl)) ra_nil))) (ra_cons (rv_tup (ra_cons (re_call (ra_cons ((rv_var rfl)) (ra_cons ((rv_var rfl)) ra_nil)) ⟨_, _, rfl, rfl⟩) (ra_cons ((rv_var rfl)) ra_nil))) ra_nil))) ⟨fun i j => if i = 0 then (if j = 0 then a else b) else (if j = 0 then ebar b else c), ?_, rfl⟩
    intro i j
    show (if i = 0 then (if j = 0 then a else b) else (if j = 0 then ebar b else c)) = ebar (if j = 0 then (if i = 0 then a else b) else (if i = 0 then ebar b else c))
    rcases fin2 i with rfl | rfl <;> rcases fin2 j with rfl | rfl
    · exact ha.symm
    · exact (bar_bar b).symm
    · rfl
    · exact hc.symm
def R__law_basis : List D → (D → Prop) → Prop := fun ds f => ∃ (F : Fd) (n : Nat), ∃ (hn : n ≤ 6), ds = [fD F, nD n] ∧ f = fun d => ∃ rows : Fin n → Row F n, d = lstD (matL rows)
abbrev sp__law_basis (K : PySem.W.Frag) : Sp := ssp K R__law_basis
theorem f__law_basis {P : Program} {w : World} {K : PySem.W.Frag} {mg : Str → Option Value} {base : Heap} (T : Tx K mg base) : Cal P w K mg base 2 "_law_basis" (sp__law_basis K) := by
  refine cal_of (d__law_basis T) (g__law_basis T) (N := ["_law_state_here", "_law_f", "_law_n", "_law_rows_here", "_law_i", "_law_turn", "_law_j"]) (ps := ["_law_state_here", "_law_f", "_law_n"]) (fun _ _ _ _ _ _ us hl => match us, hl with | [_, _, _], _ => rfl) (by decide +kernel) (ssp_len (by rintro ds f ⟨_, _, _, rfl, _⟩; rfl)) ?_
  intro cdv A outer sh H vs Q E hr hs
  let NN : List Str := ["_law_state_here", "_law_f", "_law_n", "_law_rows_here", "_law_i", "_law_turn", "_law_j"]
  have nd : List.Nodup (α := Str) ["_law_state_here", "_law_f", "_law_n", "_law_rows_here", "_law_i", "_law_turn", "_law_j"] := by decide +kernel
  refine ⟨_, (pss_cons (ps_setLc (i := 3) (own := [("_law_i", 4)]) (g := (gName 4)) (tt := tYes) (te := (tCall (sp__law_unit K) [] E0 (tCons (tVar 2) (tCons (tVar 4) tNil)))) rfl nd rfl rfl (sw_true rfl rfl rfl (by decide +kernel)) (pi_range1 (by rfl) (b_range T) (pa_cons (pv 2) pa_nil)) (blkOk_by (N := NN) (by kernel_rfl)) (fun _ _ _ _ _ => (pg_name (i := 4) nd rfl (by first | exact Or.inl rfl | exact Or.inr rfl))) (fun _ _ _ _ _ => pts_nil) (fun _ _ _ _ _ => (pe_c (f__law_unit T) hr (by decide) (by rfl) (pa_cons (pv 2) (pa_cons (pv 4) pa_nil)))))
 (pss_cons (ps_if (pt_cmpR op_lt (pv 2) pe_int (by first | exact nomark _ | rfl | with_unfolding_all rfl)) (pss_one (ps_ret (pv 3))) pss_nil)
 (pss_cons (ps_for PassesOwn.never rfl (pi_range1 (by rfl) (b_range T) (pa_cons (pe_c (f__law_take T) hr (by decide) (by rfl) (pa_cons (pv 0) (pa_cons pe_int pa_nil))) pa_nil)) (pg_name (i := 5) nd rfl (by first | exact Or.inl rfl | exact Or.inr rfl)) (pss_cons (ps_set (i := 4) nd rfl (by first | exact Or.inl rfl | exact Or.inr rfl) (pe_c (f__law_take T) hr (by decide) (by rfl) (pa_cons (pv 0) (pa_cons (pv 2) pa_nil))))
 (pss_cons (ps_set (i := 6) nd rfl (by first | exact Or.inl rfl | exact Or.inr rfl) (pe_op op_mod (pe_callTy call_int1 (by rfl) (b_int T) (by rfl) (pa_cons (pe_op op_add (pe_op op_add (pv 4) pe_int) (pe_c (f__law_take T) hr (by decide) (by rfl) (pa_cons (pv 0) (pa_cons (pe_op op_sub (pv 2) pe_int) pa_nil)))) pa_nil)) (pv 2)))
 (pss_one (ps_asg (pe_c (f__law_sum T) hr (by decide) (by rfl) (pa_cons (pv 1) (pa_cons (pe_ix ix_list (pv 3) (pv 4) (fun _ _ => rfl)) (pa_cons (pe_c (f__law_times T) hr (by decide) (by rfl) (pa_cons (pv 1) (pa_cons (pe_ix ix_list (pv 3) (pv 6) (fun _ _ => rfl)) (pa_cons (pe_c (f__law_take T) hr (by decide) (by rfl) (pa_cons (pv 0) (pa_cons (pe_ix ix_tup (pv 1) pe_int (fun _ _ => rfl)) pa_nil))) pa_nil)))) pa_nil)))) (pg_sub (pv 3) (pv 4) set_list))))))
 (pss_one (ps_ret (pv 3)))))), ?_⟩
  clear hr nd NN
  refine body_ssp (n := 7) hs rfl ?_ (by decide)
  clear hs
  rintro ds f ⟨F, n, hn, rfl, rfl⟩
  have hF := F.le
  refine rs_ownV (RunO.is2 (ro_map (l := List.finRange n) (sx := fun i => nD i.val) (ex := fun i => rowD (runit i : Row F n)) (js := [4]) (rj_i (rj_rng (rv_var rfl) rfl (by omega))) (by rw [List.length_finRange]; omega) (by decide) fun i _ => ⟨_, rg_name, re_call (ra_cons ((rv_var rfl)) (ra_cons ((rv_var rfl)) ra_nil)) ⟨F, n, i, by omega, rfl, rfl⟩⟩) (es := (matL (runit : Fin n → Row F n)).map rowD) (by unfold matL; rw [List.map_map]; rfl)) fun p => ?_
  refine rs_ifr (rt_test (rv_lt (rv_var rfl) rv_int)) (fun h => rs_retOwnV (i := 3) rfl ⟨_, rfl⟩) fun h => ?_
  have h := of_decide_eq_false h
  have hn2 : 2 ≤ n := by omega
  refine rs_seq (fun r' => ∃ rows : Fin n → Row F n, LeE r' [.st, .im (fD F), .im (nD n), .ow p ((matL rows).map rowD), .un, .un, .un]) (rs_forX (Z := fun k => k < 5) (js := [5]) ((re_scall rfl (ra_cons (rv_int) ra_nil) ⟨5, by decide, by decide, rfl, rfl⟩).imp fun d ⟨k, hk, e⟩ => ⟨k, hk, e⟩) (fun k hk => by omega) (fun r' => ∃ rows : Fin n → Row F n, LeE r' [.st, .im (fD F), .im (nD n), .ow p ((matL rows).map rowD), .un, .un, .un]) ⟨runit, (by repeat' (first | exact True.intro | refine And.intro ?_ ?_ | exact Or.inl rfl | exact Or.inr rfl))⟩ ?_ fun r' h => h) ?_
  · rintro r' k ⟨rows, hle⟩
    refine ⟨_, fun S s F H v en rd Q q => rg_name S s F H v (en.weak hle) rd Q q, fun x hx => hle.own x hx, ?_⟩
    refine rs_setq (re_scall rfl (ra_cons ((rv_var rfl)) ra_nil) ⟨n, by omega, by omega, rfl, rfl⟩) ?_
    rintro d ⟨i, hi, rfl⟩
    refine rs_setq (re_modN (m := n) (re_intA (re_addA (re_any (rv_add (rv_var rfl) rv_int)) (re_below (k := n - 1) (re_scall rfl (ra_cons (rv_sub (rv_var rfl) rv_int) ra_nil) ⟨n - 1, by omega, by omega, ?_, rfl⟩)))) (rv_var rfl) (by omega)) ?_
    · show [D.int _] = [D.int _]
      congr 2
      omega
    rintro d ⟨j, hj, rfl⟩
    have hri : ((matL rows).map rowD)[i]? = some (rowD (rows ⟨i, hi⟩)) := tab_at (mat_at rows ⟨i, hi⟩)
    have hrj : ((matL rows).map rowD)[j]? = some (rowD (rows ⟨j, hj⟩)) := tab_at (mat_at rows ⟨j, hj⟩)
    refine rs_item (i := 3) (k := i) (f := fun d => ∃ w : Row F n, d = rowD w) rfl (re_callN (Pa := fun ds => ∃ w : Row F n, ds = [fD F, rowD (rows ⟨i, hi⟩), rowD w]) (ra_consE (g := fun ds => ∃ w : Row F n, ds = [rowD (rows ⟨i, hi⟩), rowD w]) (rv_var (d := fD F) rfl) (ra_consE (g := fun ds => ∃ w : Row F n, ds = [rowD w]) (rv_ixL (d := rowD (rows ⟨i, hi⟩)) (rl_own rfl) (rv_var rfl) rfl hri) (ra_consE (f := fun d => ∃ w : Row F n, d = rowD w) (g := fun ds => ds = []) (re_callN (Pa := fun ds => ∃ c : El F, ds = [fD F, rowD (rows ⟨j, hj⟩), elD c]) (ra_consE (g := fun ds => ∃ c : El F, ds = [rowD (rows ⟨j, hj⟩), elD c]) (rv_var (d := fD F) rfl) (ra_consE (g := fun ds => ∃ c : El F, ds = [elD c]) (rv_ixL (d := rowD (rows ⟨j, hj⟩)) (rl_own rfl) (rv_var rfl) rfl hrj) (ra_consE (f := fun d => ∃ c : El F, d = elD c) (g := fun ds => ds = []) ((re_scall rfl (ra_cons (lf0 (rv_var rfl)) ra_nil) ⟨F.q, F.pos, by omega, rfl, rfl⟩).imp ?_) ra_nil ?_) ?_) ?_) ?_) ra_nil ?_) ?_) ?_) ?_) (rv_var rfl) rfl (by rw [List.length_map, mat_len]; exact hi) ?_
    · rintro d ⟨c, hc, rfl⟩; exact ⟨El.mk c hc, rfl⟩
    · rintro x xs ⟨c, rfl⟩ rfl; exact ⟨c, rfl⟩
    · rintro x xs rfl ⟨c, rfl⟩; exact ⟨c, rfl⟩
    · rintro x xs rfl ⟨c, rfl⟩; exact ⟨c, rfl⟩
    · rintro ds ⟨c, rfl⟩; exact ⟨_, ⟨F, n, rows ⟨j, hj⟩, c, by omega, rfl, rfl⟩, fun d hd => ⟨_, hd⟩⟩
    · rintro x xs ⟨c, rfl⟩ rfl; exact ⟨c, rfl⟩
    · rintro x xs rfl ⟨c, rfl⟩; exact ⟨c, rfl⟩
    · rintro x xs rfl ⟨c, rfl⟩; exact ⟨c, rfl⟩
    · rintro ds ⟨c, rfl⟩; exact ⟨_, ⟨F, n, rows ⟨i, hi⟩, c, by omega, rfl, rfl⟩, fun d hd => ⟨_, hd⟩⟩
    · rintro d ⟨w, rfl⟩
      refine ⟨fun k => if k = ⟨i, hi⟩ then w else rows k, ?_⟩
      rw [← mat_set]
      exact (by repeat' (first | exact True.intro | refine And.intro ?_ ?_ | exact Or.inl rfl | exact Or.inr rfl))
  · rintro r' ⟨rows, hle⟩
    exact rs_weak hle (rs_retOwnV (i := 3) rfl ⟨rows, rfl⟩)
end Wk
/-! # WkW14 -/
set_option Elab.async false
set_option linter.all false
set_option maxRecDepth 100000
set_option maxHeartbeats 4000000
namespace Wk
open PySem PySem.Spec PyProof.Rows L2
section
variable {K : PySem.W.Frag} {r : En} {ta tb te ti t1 t2 : TE} {t u tz : TS} {P : Po} {f g : D → Prop} {i : Nat} {d : D} {ds : List D} {tr : TA} {m n : Nat} {gt : TG} {js : List Nat} {C : Cn} {s : L2.St} {F H : Hp}
theorem owns_setL {x : Sl} : ∀ (r : En) (j : Nat), ∀ a, a ∈ owns (r.set j x) → a ∈ own1 x ∨ a ∈ owns r
  | [], _, a, h => .inr h
  | y :: r, 0, a, h => by
    unfold owns at h ⊢
    rw [List.set_cons_zero, List.flatMap_cons] at h
    rw [List.flatMap_cons]
    rcases List.mem_append.mp h with h | h
    · exact .inl h
    · exact .inr (List.mem_append_right _ h)
  | y :: r, j + 1, a, h => by
    unfold owns at h ⊢
    rw [List.set_cons_succ, List.flatMap_cons] at h
    rw [List.flatMap_cons]
    rcases List.mem_append.mp h with h | h
    · exact .inr (List.mem_append_left _ h)
    · rcases owns_setL r j a h with h | h
      · exact .inl h
      · exact .inr (List.mem_append_right _ h)
theorem owns_setL_nd {x : Sl} (hx : (own1 x).Nodup) : ∀ (r : En) (j : Nat), (∀ p ∈ own1 x, ∀ k y, r[k]? = some y → k ≠ j → p ∉ own1 y) → (owns r).Nodup → (owns (r.set j x)).Nodup
  | [], _, _, h => h
  | y :: r, 0, hp, h => by
    unfold owns at h ⊢
    rw [List.set_cons_zero, List.flatMap_cons]
    rw [List.flatMap_cons] at h
    refine List.nodup_append.mpr ⟨hx, (List.nodup_append.mp h).2.1, fun a ha b hb e => ?_⟩
    subst e
    obtain ⟨y', hy', hp'⟩ := List.mem_flatMap.mp hb
    obtain ⟨k, hk⟩ := List.mem_iff_getElem?.mp hy'
    exact hp a ha (k + 1) y' (by simpa using hk) (by omega) hp'
  | y :: r, j + 1, hp, h => by
    unfold owns at h ⊢
    rw [List.set_cons_succ, List.flatMap_cons]
    rw [List.flatMap_cons] at h
    obtain ⟨h1, h2, h3⟩ := List.nodup_append.mp h
    refine List.nodup_append.mpr ⟨h1, owns_setL_nd hx r j (fun p hpx k y' hk hne => hp p hpx (k + 1) y' (by simpa using hk) (by omega)) h2, fun a ha b hb => ?_⟩
    rcases owns_setL r j b hb with z | z
    · intro e
      exact hp b z 0 y rfl (by omega) (by rw [← e]; exact ha)
    · exact h3 a ha b z
theorem owns_same {x y : Sl} (e : own1 x = own1 y) : ∀ {r : En} {j : Nat}, r[j]? = some y → owns (r.set j x) = owns r
  | [], _, h => by simp at h
  | z :: r, 0, h => by
    have h : z = y := by simpa using h
    subst h
    unfold owns
    rw [List.set_cons_zero, List.flatMap_cons, List.flatMap_cons, e]
  | z :: r, j + 1, h => by
    have ih := owns_same e (r := r) (j := j) (by simpa using h)
    unfold owns at ih ⊢
    rw [List.set_cons_succ, List.flatMap_cons, List.flatMap_cons, ih]
theorem nd_own1 {x : Sl} : ∀ {r : En} {j : Nat}, r[j]? = some x → (owns r).Nodup → (own1 x).Nodup
  | [], _, h, _ => by simp at h
  | z :: r, 0, h, nd => by
    have h : z = x := by simpa using h
    subst h
    unfold owns at nd
    rw [List.flatMap_cons] at nd
    exact (List.nodup_append.mp nd).1
  | z :: r, j + 1, h, nd => by
    unfold owns at nd
    rw [List.flatMap_cons] at nd
    exact nd_own1 (r := r) (j := j) (by simpa using h) (List.nodup_append.mp nd).2.1
theorem MxOk.len : ∀ {ps : List Addr} {dss : List (List D)}, MxOk K F H ps dss → ps.length = dss.length
  | [], [], _ => rfl
  | _ :: _, _ :: _, ⟨_, h⟩ => congrArg Nat.succ h.len
theorem MxOk.get : ∀ {ps : List Addr} {dss : List (List D)} {k : Nat} {ds : List D}, MxOk K F H ps dss → dss[k]? = some ds → ∃ p, ps[k]? = some p ∧ F p = none ∧ ∃ vs, H p = some (.lst vs) ∧ RepL K F ds vs
  | [], [], _, _, _, h => by simp at h
  | p :: ps, es :: dss, 0, ds, ⟨⟨h1, vs, h2, h3⟩, _⟩, h => by
    have h : es = ds := by simpa using h
    subst h
    exact ⟨p, rfl, h1, vs, h2, h3⟩
  | p :: ps, es :: dss, k + 1, ds, ⟨_, t⟩, h => MxOk.get (k := k) t (by simpa using h)
theorem MxOk.set {p : Addr} {es : List D} {vs : List V} (rd : RepL K F es vs) : ∀ {ps : List Addr} {dss : List (List D)} {k : Nat}, ps.Nodup → ps[k]? = some p → MxOk K F H ps dss → MxOk K F (upd H p (.lst vs)) ps (dss.set k es)
  | [], [], _, _, h, _ => by simp at h
  | q :: ps, ds :: dss, 0, nd, h, ⟨⟨h1, us, h2, h3⟩, t⟩ => by
    have h : q = p := by simpa using h
    subst h
    obtain ⟨n1, n2⟩ := List.nodup_cons.mp nd
    exact ⟨⟨h1, vs, upd_same, rd⟩, t.map (Ext.refl _) fun b hb hf o ho => ⟨hf, by rw [upd_ne (fun z => n1 (by rw [← z]; exact hb))]; exact ho⟩⟩
  | q :: ps, ds :: dss, k + 1, nd, h, ⟨⟨h1, us, h2, h3⟩, t⟩ => by
    obtain ⟨n1, n2⟩ := List.nodup_cons.mp nd
    have hm : ps[k]? = some p := by simpa using h
    have ne : q ≠ p := fun z => n1 (by rw [z]; exact List.mem_of_getElem? hm)
    exact ⟨⟨h1, us, by rw [upd_ne ne]; exact h2, h3⟩, MxOk.set rd n2 hm t⟩
theorem MxOk.app {p : Addr} {es : List D} {vs : List V} (h1 : F p = none) (h2 : H p = some (.lst vs)) (rd : RepL K F es vs) : ∀ {ps : List Addr} {dss : List (List D)}, MxOk K F H ps dss → MxOk K F H (ps ++ [p]) (dss ++ [es])
  | [], [], _ => ⟨⟨h1, vs, h2, rd⟩, trivial⟩
  | _ :: _, _ :: _, ⟨a, t⟩ => ⟨a, MxOk.app h1 h2 rd t⟩
theorem EnC.mxset {a p : Addr} {ps : List Addr} {dss : List (List D)} {k : Nat} {es : List D} {vs : List V} (e : EnC K C r s F H) (hi : r[i]? = some (.mx a ps dss)) (hp : ps[k]? = some p) (rd : RepL K F es vs) : EnC K C (r.set i (.mx a ps (dss.set k es))) s F (upd H p (.lst vs)) := by
  obtain ⟨v, hv, h1, h2, h3, h4⟩ := e.en.sl i _ hi
  subst h1
  have hpm : p ∈ own1 (.mx a ps dss) := List.mem_cons_of_mem _ (List.mem_of_getElem? hp)
  have hm : p ∈ owns r := mem_owns hi hpm
  have nd1 := nd_own1 hi e.en.nd
  obtain ⟨n1, n2⟩ := List.nodup_cons.mp (show (a :: ps).Nodup from nd1)
  have nS : C.S ≠ some p := fun z => (e.en.st p z).2.1 hm
  have li : i < r.length := (List.getElem?_eq_some_iff.mp hi).1
  have hF : F p = none := (e.en.own hm).1
  have oth : ∀ (k : Nat) (y : Sl), r[k]? = some y → k ≠ i → p ∉ own1 y := fun k y hk hne hpy => own_key r i k _ y hi hk hne hpm hpy e.en.nd
  have ext : Ext F (upd H p (.lst vs)) := fun b o hb => by
    rw [upd_ne (fun z => by rw [z, hF] at hb; cases hb)]
    exact e.en.ext b o hb
  have os : owns (r.set i (.mx a ps (dss.set k es))) = owns r := owns_same (x := .mx a ps (dss.set k es)) (y := .mx a ps dss) rfl hi
  refine ⟨⟨ext, by rw [List.length_set]; exact e.en.len, fun j y hk => ?_, by rw [os]; exact e.en.nd, fun b hb => ?_⟩, ⟨e.gr.ex, ext, fun b o hS hb => ?_, e.gr.fresh, fun b hb => ?_⟩, fun b hb => e.new b (by rw [← os]; exact hb)⟩
  · by_cases hki : i = j
    · subst hki
      rw [List.getElem?_set_self li] at hk
      cases hk
      exact ⟨_, hv, rfl, h2, by rw [upd_ne (fun z => n1 (by rw [z]; exact List.mem_of_getElem? hp))]; exact h3, h4.set rd n2 hp⟩
    · rw [List.getElem?_set_ne hki] at hk
      obtain ⟨w, hw, ok⟩ := e.en.sl j y hk
      refine ⟨w, hw, ?_⟩
      have oy := oth j y hk (Ne.symm hki)
      cases y with
      | un => trivial
      | im d => exact ok
      | ow b ds' =>
        obtain ⟨q1, q2, us', q3, q4⟩ := ok
        have na : b ≠ p := fun z => oy (by simp [own1, z])
        exact ⟨q1, q2, us', by rw [upd_ne na]; exact q3, q4⟩
      | st => exact ok
      | sf b c fs =>
        obtain ⟨q1, q2, dx, us', q3, q4⟩ := ok
        have na : b ≠ p := fun z => oy (by simp [own1, z])
        exact ⟨q1, q2, dx, us', by rw [upd_ne na]; exact q3, q4⟩
      | mx b ps' dss' =>
        obtain ⟨q1, q2, q3, q4⟩ := ok
        have na : ∀ c ∈ b :: ps', c ≠ p := fun c hc z => oy (by rw [← z]; exact hc)
        exact ⟨q1, q2, by rw [upd_ne (na b (List.mem_cons_self ..))]; exact q3, q4.map (Ext.refl _) fun c hc hf o ho => ⟨hf, by rw [upd_ne (na c (List.mem_cons_of_mem _ hc))]; exact ho⟩⟩
  · obtain ⟨q1, q2, i', j', q3⟩ := e.en.st b hb
    have na : b ≠ p := fun z => nS (by rw [hb, z])
    exact ⟨q1, by rw [os]; exact q2, i', j', by rw [upd_ne na]; exact q3⟩
  · have nb : b ≠ p := fun z => by rw [z, e.new p hm] at hb; cases hb
    rw [upd_ne nb]
    exact e.gr.keep b o hS hb
  · have na : b ≠ p := fun z => nS (by rw [hb, z])
    rw [upd_ne na]
    exact e.gr.st b hb
/-- m[i][j] = e -/
theorem rs_mxW {a : Addr} {ps : List Addr} {dss : List (List D)} {k1 k2 : Nat} {z1 z2 : Int} (hi : r[i]? = some (.mx a ps dss)) (w : RunV K te r d) (w1 : RunV K t1 r (.int z1)) (w2 : RunV K t2 r (.int z2)) (hz1 : z1 = (k1 : Int)) (hz2 : z2 = (k2 : Int)) (hds : dss[k1]? = some ds) (hk2 : k2 < ds.length)
    (h : P.nx (r.set i (.mx a ps (dss.set k1 (ds.set k2 d))))) : RunS K (tAsg te (gSub (tOp (rIxL K) (tVar i) t1) t2 rSetL)) r P := fun C s F H Dn e q =>
  w C.S s F H e.en _ fun d1 v F1 H1 hd r1 g1 => by
    subst hd hz1 hz2
    have e1 := e.go g1
    obtain ⟨v', hv, h1, _⟩ := e1.en.sl i _ hi
    subst h1
    refine ⟨_, hv, w1 C.S s F1 H1 e1.en _ fun d2 v2 F2 H2 hd2 r2 g2 => ?_⟩
    subst hd2
    have e2 := e1.go g2
    obtain ⟨_, _, _, _, h3, h4⟩ := e2.en.sl i _ hi
    obtain ⟨p, hp, hF, us, hH, rd⟩ := h4.get hds
    refine ⟨a, ps.map V.ref, k1, .ref p, rfl, r2.int, SqL.of h3, atI_nat (by rw [List.getElem?_map, hp]; rfl), w2 C.S s F2 H2 e2.en _ fun d3 v3 F3 H3 hd3 r3 g3 => ?_⟩
    subst hd3
    have e3 := e2.go g3
    have hpm : p ∈ owns r := mem_owns hi (List.mem_cons_of_mem _ (List.mem_of_getElem? hp))
    have nS : C.S ≠ some p := fun z => (e2.en.st p z).2.1 hpm
    have l := rd.length
    refine ⟨p, us, k2, k2, rfl, r3.int, g3.keep _ _ nS hH, ?_, q.nx _ _ F3 _ h (e3.mxset hi hp ((rd.mono g3.ex).set ((r1.mono g2.ex).mono g3.ex) k2)) (g1.ex.trans (g2.ex.trans g3.ex))⟩
    unfold ixN
    rw [if_pos (by omega), if_pos (by omega), Int.toNat_natCast]
theorem rs_mxWq {a : Addr} {ps : List Addr} {dss : List (List D)} {k1 k2 : Nat} {z1 z2 : Int} (hi : r[i]? = some (.mx a ps dss)) (w : RunE K te r f) (w1 : RunV K t1 r (.int z1)) (w2 : RunV K t2 r (.int z2)) (hz1 : z1 = (k1 : Int)) (hz2 : z2 = (k2 : Int)) (hds : dss[k1]? = some ds) (hk2 : k2 < ds.length)
    (h : ∀ d, f d → P.nx (r.set i (.mx a ps (dss.set k1 (ds.set k2 d))))) : RunS K (tAsg te (gSub (tOp (rIxL K) (tVar i) t1) t2 rSetL)) r P := fun C s F H Dn e q =>
  w C.S s F H e.en _ fun d1 v F1 H1 hd r1 g1 => by
    subst hz1 hz2
    have e1 := e.go g1
    obtain ⟨v', hv, h1, _⟩ := e1.en.sl i _ hi
    subst h1
    refine ⟨_, hv, w1 C.S s F1 H1 e1.en _ fun d2 v2 F2 H2 hd2 r2 g2 => ?_⟩
    subst hd2
    have e2 := e1.go g2
    obtain ⟨_, _, _, _, h3, h4⟩ := e2.en.sl i _ hi
    obtain ⟨p, hp, hF, us, hH, rd⟩ := h4.get hds
    refine ⟨a, ps.map V.ref, k1, .ref p, rfl, r2.int, SqL.of h3, atI_nat (by rw [List.getElem?_map, hp]; rfl), w2 C.S s F2 H2 e2.en _ fun d3 v3 F3 H3 hd3 r3 g3 => ?_⟩
    subst hd3
    have e3 := e2.go g3
    have hpm : p ∈ owns r := mem_owns hi (List.mem_cons_of_mem _ (List.mem_of_getElem? hp))
    have nS : C.S ≠ some p := fun z => (e2.en.st p z).2.1 hpm
    have l := rd.length
    refine ⟨p, us, k2, k2, rfl, r3.int, g3.keep _ _ nS hH, ?_, q.nx _ _ F3 _ (h _ hd) (e3.mxset hi hp ((rd.mono g3.ex).set ((r1.mono g2.ex).mono g3.ex) k2)) (g1.ex.trans (g2.ex.trans g3.ex))⟩
    unfold ixN
    rw [if_pos (by omega), if_pos (by omega), Int.toNat_natCast]
/-- a list of own lists is an ordinary one from here on -/
theorem rs_mxF {a : Addr} {ps : List Addr} {dss : List (List D)} (hi : r[i]? = some (.mx a ps dss)) (h : RunS K t (r.set i (.im (.lst (dss.map D.lst)))) P) : RunS K t r P := fun C s F H Dn e q => by
  obtain ⟨v, hv, h1, h2, h3, h4⟩ := e.en.sl i _ hi
  subst h1
  have nd1 := nd_own1 hi e.en.nd
  obtain ⟨n1, n2⟩ := List.nodup_cons.mp (show (a :: ps).Nodup from nd1)
  have inO : ∀ b, b ∈ a :: ps → b ∈ owns r := fun b hb => mem_owns hi hb
  have li : i < r.length := (List.getElem?_eq_some_iff.mp hi).1
  have oth : ∀ b, b ∈ a :: ps → ∀ (k : Nat) (y : Sl), r[k]? = some y → k ≠ i → b ∉ own1 y := fun b hb k y hk hne hpy => own_key r i k _ y hi hk hne hb hpy e.en.nd
  have ex : Ext F (fun b => if b ∈ a :: ps then H b else F b) := fun b o hb => by
    show (if b ∈ a :: ps then H b else F b) = some o
    rw [if_neg (fun z => by rw [(e.en.own (inO b z)).1] at hb; cases hb)]
    exact hb
  have sub : Ext (fun b => if b ∈ a :: ps then H b else F b) H := fun b o hb => by
    have hb : (if b ∈ a :: ps then H b else F b) = some o := hb
    split at hb
    · exact hb
    · exact e.en.ext b o hb
  have off : ∀ b, b ∉ a :: ps → (if b ∈ a :: ps then H b else F b) = F b := fun b hb => if_neg hb
  have rep : ∀ (qs : List Addr) (ess : List (List D)), (∀ b ∈ qs, b ∈ a :: ps) → MxOk K F H qs ess → RepL K (fun b => if b ∈ a :: ps then H b else F b) (ess.map D.lst) (qs.map V.ref) := by
    intro qs
    induction qs with
    | nil =>
      intro ess _ hm
      cases ess with
      | nil => exact RepL.nil
      | cons _ _ => exact hm.elim
    | cons b qs ih =>
      intro ess hq hm
      cases ess with
      | nil => exact hm.elim
      | cons es ess =>
        obtain ⟨⟨_, vs, g2, g3⟩, tt⟩ := hm
        exact .cons (Rep.mk_lst (by show (if b ∈ a :: ps then H b else F b) = _; rw [if_pos (hq b (List.mem_cons_self ..))]; exact g2) (g3.mono ex)) (ih ess (fun c hc => hq c (List.mem_cons_of_mem _ hc)) tt)
  have ow : ∀ b, b ∈ owns (r.set i (.im (.lst (dss.map D.lst)))) → b ∈ owns r ∧ b ∉ a :: ps := fun b hb => by
    refine ⟨owns_set rfl r i b hb, fun z => ?_⟩
    obtain ⟨y, hy, ay⟩ := List.mem_flatMap.mp hb
    obtain ⟨k, hk⟩ := List.mem_iff_getElem?.mp hy
    by_cases hki : i = k
    · subst hki
      rw [List.getElem?_set_self li] at hk
      cases hk
      simp [own1] at ay
    · rw [List.getElem?_set_ne hki] at hk
      exact oth b z k y hk (Ne.symm hki) ay
  refine h C s (fun b => if b ∈ a :: ps then H b else F b) H Dn ⟨⟨sub, by rw [List.length_set]; exact e.en.len, fun k y hk => ?_, owns_set_nd rfl r i e.en.nd, fun b hb => ?_⟩, ⟨e.gr.ex.trans ex, sub, e.gr.keep, fun b o hb n => ?_, e.gr.st⟩, fun b hb => e.new b (ow b hb).1⟩ (q.mono ex)
  · by_cases hki : i = k
    · subst hki
      rw [List.getElem?_set_self li] at hk
      cases hk
      exact ⟨_, hv, _, rfl, Rep.mk_lst (by show (if a ∈ a :: ps then H a else F a) = _; rw [if_pos (List.mem_cons_self ..)]; exact h3) (rep ps dss (fun b hb => List.mem_cons_of_mem _ hb) h4)⟩
    · rw [List.getElem?_set_ne hki] at hk
      obtain ⟨w, hw, ok⟩ := e.en.sl k y hk
      refine ⟨w, hw, ?_⟩
      have oy : ∀ b, b ∈ own1 y → b ∉ a :: ps := fun b hb z => oth b z k y hk (Ne.symm hki) hb
      cases y with
      | un => trivial
      | im d =>
        obtain ⟨z, z1, z2⟩ := ok
        exact ⟨z, z1, z2.mono ex⟩
      | ow b ds' =>
        obtain ⟨q1, q2, us', q3, q4⟩ := ok
        exact ⟨q1, (off b (oy b (by simp [own1]))).trans q2, us', q3, q4.mono ex⟩
      | st => exact ok
      | sf b c fs =>
        obtain ⟨q1, q2, dx, us', q3, q4⟩ := ok
        exact ⟨q1, (off b (oy b (by simp [own1]))).trans q2, dx, us', q3, q4.mono ex⟩
      | mx b ps' dss' =>
        obtain ⟨q1, q2, q3, q4⟩ := ok
        exact ⟨q1, (off b (oy b (List.mem_cons_self ..))).trans q2, q3, q4.map ex fun c hc hf o ho => ⟨(off c (oy c (List.mem_cons_of_mem _ hc))).trans hf, ho⟩⟩
  · obtain ⟨q1, q2, q3⟩ := e.en.st b hb
    have nb : b ∉ a :: ps := fun z => q2 (inO b z)
    exact ⟨(off b nb).trans q1, fun z => q2 (ow b z).1, q3⟩
  · have hb : (if b ∈ a :: ps then H b else F b) = some o := hb
    split at hb
    · rename_i z
      exact e.new b (inO b z)
    · exact e.gr.fresh b o hb n
/-- x = [[..] for ..]: own lists within an own list -/
theorem rs_mx {A : Type} {j0 : Nat} {l : List A} {sx : A → D} {ex : A → List D} {wi : TI} {vs : List Nat} (hw : RunI K wi r (l.map sx)) (hl : l.length ≤ 100000) (hj : ∀ j ∈ js, j ∈ vs)
    (step : ∀ a ∈ l, ∃ r1, RunG K gt (wipeE r vs) (sx a) js r1 ∧ RunOV K te r1 (ex a)) (h : ∀ a ps, RunS K tz (r.set j0 (.mx a ps (l.map ex))) P) : RunS K (tSeq (tAsg (tLc wi gt tYes te vs) (gName j0)) tz) r P := fun C s F H Dn e q => by
  refine hw C.S s F H e.en _ fun J F1 H1 g1 Y D hD => ?_
  have e1 := e.go g1
  have so1 := e1.en.sok
  have nS : C.S ≠ some D := e1.en.ne_new hD
  have hs : sizeLine = 16777216 := sizeLine_eq
  have ln : (l.map sx).length = l.length := List.length_map _
  refine ⟨fun i m H' => m = l.length - i ∧ i ≤ l.length ∧ ∃ F' ps, Gr C.S F1 H1 F' H' ∧ F' D = none ∧ H' D = some (.lst (ps.map V.ref)) ∧ ps.length = i ∧ MxOk K F' H' ps ((l.take i).map ex) ∧ ps.Nodup ∧ ∀ p ∈ ps, H1 p = none ∧ p ≠ D, ⟨l.length, by simp, Nat.zero_le _, F1, [], Gr.track e1.en.ext so1 hD, e1.en.ext.back hD, upd_same, rfl, trivial, List.nodup_nil, fun p hp => by cases hp⟩, ?_⟩
  rintro i m H' ⟨rfl, hi, F', ps, g2, n2, h2, la, ra, nd, fr⟩
  by_cases hlt : i < l.length
  · refine .inr ⟨Y.go i F' H' (by rw [ln]; exact hlt) g2, fun H3 => i + 1 ≤ l.length ∧ ∃ F' ps, Gr C.S F1 H1 F' H3 ∧ F' D = none ∧ H3 D = some (.lst (ps.map V.ref)) ∧ ps.length = i + 1 ∧ MxOk K F' H3 ps ((l.take (i + 1)).map ex) ∧ ps.Nodup ∧ ∀ p ∈ ps, H1 p = none ∧ p ≠ D, fun H3 h3 => ⟨l.length - (i + 1), by omega, rfl, h3⟩, fun x H3 hy => ?_⟩
    have hget : (l.map sx)[i]? = some (sx l[i]) := by rw [List.getElem?_map, List.getElem?_eq_getElem hlt]; rfl
    obtain ⟨F3, g3, rx⟩ := Y.yld i _ F' H' x H3 hget g2 hy
    obtain ⟨r1, hg, he⟩ := step l[i] (List.getElem_mem hlt)
    have g13 := g2.trans g3
    have et : l.take (i + 1) = l.take i ++ [l[i]] := by rw [List.take_add_one, List.getElem?_eq_getElem hlt]; rfl
    refine hg C.S _ F3 H3 x ((e1.en.gr g13).wipe vs) rx _ fun s1 en1 hwp => ⟨(hwp vs hj).trans wipe_wipe, ?_⟩
    refine (show RunT K tYes r1 true from rt_yes) C.S s1 F3 H3 en1 _ fun F4 H4 g4 => ?_
    rw [if_pos rfl]
    refine he C.S s1 F4 H4 (en1.gr g4) _ fun es p vs' F5 H5 hes g5 n5 p5 hp rd => ?_
    subst hes
    have g35 := (g3.trans g4).trans g5
    have hD5 := g35.keep D _ nS h2
    have gA := g2.trans g35
    have nofF : ∀ b o, F' b = none → H' b = some o → F5 b = none := fun b o hf hh => by
      cases z : F5 b with
      | none => rfl
      | some u =>
        have z2 := g35.fresh b u z hf
        rw [hh] at z2
        cases z2
    have hp4 : H' p = none := gr_free (g3.trans g4) p5
    have hp1 : H1 p = none := gr_free g2 hp4
    have hpD : p ≠ D := fun z => by rw [z, h2] at hp4; cases hp4
    have hpn : p ∉ ps := fun z => by
      obtain ⟨_, vs2, hv2⟩ := MxOk.at z ra
      rw [hp4] at hv2
      cases hv2
    have neS : ∀ b ∈ ps, C.S ≠ some b := fun b hb => e1.en.ne_new (fr b hb).1
    refine ⟨ps.map V.ref, hD5, by rw [List.length_map]; omega, hlt, F5, ps ++ [p], ⟨gA.ex, fun b o hb => ?_, fun b o hS hb => ?_, gA.fresh, fun a ha => ?_⟩, nofF D _ n2 h2, by rw [List.map_append]; exact upd_same, by rw [List.length_append, la]; rfl, ?_, ?_, ?_⟩
    · have nb : b ≠ D := fun z => by rw [z, nofF D _ n2 h2] at hb; cases hb
      rw [upd_ne nb]
      exact gA.sub b o hb
    · have nb : b ≠ D := fun z => by rw [z, hD] at hb; cases hb
      rw [upd_ne nb]
      exact gA.keep b o hS hb
    · have nb : a ≠ D := fun z => nS (by rw [ha, z])
      rw [upd_ne nb]
      exact gA.st a ha
    · rw [et, List.map_append]
      refine MxOk.app n5 (by rw [upd_ne hpD]; exact hp) rd (ra.map g35.ex fun b hb hf o ho => ⟨nofF b o hf ho, ?_⟩)
      rw [upd_ne (fr b hb).2]
      exact g35.keep b o (neS b hb) ho
    · refine List.nodup_append.mpr ⟨nd, by simp, fun a ha b hb z => ?_⟩
      have : b = p := by simpa using hb
      subst this
      subst z
      exact hpn ha
    · intro b hb
      rcases List.mem_append.mp hb with hb | hb
      · exact fr b hb
      · have : b = p := by simpa using hb
        rw [this]
        exact ⟨hp1, hpD⟩
  · have ei : i = l.length := by omega
    subst ei
    have hst := Y.stop F' H' g2
    rw [ln] at hst
    rw [List.take_length] at ra
    refine .inl ⟨hst, ?_⟩
    have e2 := e1.go g2
    have hD0 : H D = none := gr_free g1 hD
    have newp : ∀ b ∈ D :: ps, H1 b = none := fun b hb => by
      rcases List.mem_cons.mp hb with z | z
      · rw [z]; exact hD
      · exact (fr b z).1
    have nO : ∀ b ∈ D :: ps, ∀ k y, r[k]? = some y → b ∉ own1 y := fun b hb k y hk => not_own e1.en (newp b hb) k y hk
    have ndD : (D :: ps).Nodup := List.nodup_cons.mpr ⟨fun z => (fr D z).2 rfl, nd⟩
    refine h D ps C _ F' H' Dn ⟨⟨e2.en.ext, by rw [List.length_set, List.length_set]; exact e2.en.len, fun k y hk => ?_, owns_setL_nd (x := .mx D ps (l.map ex)) ndD r _ (fun b hb k y hk _ => nO b hb k y hk) e2.en.nd, fun b hb => ?_⟩, e2.gr, fun b hb => ?_⟩ (q.mono (g1.ex.trans g2.ex))
    · by_cases hki : j0 = k
      · subst hki
        have lj : j0 < r.length := by
          have := (List.getElem?_eq_some_iff.mp hk).1
          rwa [List.length_set] at this
        rw [List.getElem?_set_self lj] at hk
        cases hk
        exact ⟨some (.ref D), List.getElem?_set_self (by rw [← e2.en.len]; exact lj), rfl, n2, h2, ra⟩
      · rw [List.getElem?_set_ne hki] at hk ⊢
        exact e2.en.sl k y hk
    · obtain ⟨q1, q2, q3⟩ := e2.en.st b hb
      refine ⟨q1, fun z => ?_, q3⟩
      rcases owns_setL r _ b z with z | z
      · exact e1.en.ne_new (newp b z) hb
      · exact q2 z
    · rcases owns_setL r _ b hb with z | z
      · exact gr_free e.gr (gr_free g1 (newp b z))
      · exact e.new b z
end

end Wk
/-! # WkW15 -/
set_option Elab.async false
set_option linter.all false
set_option maxRecDepth 100000
set_option maxHeartbeats 4000000
namespace Wk
open PySem PySem.Spec PyProof.Rows L2
def mxD {F : Fd} {n : Nat} (m : Fin n → Row F n) : List (List D) := (List.finRange n).map fun i => (List.finRange n).map fun j => elD (m i j)
theorem mx_at {F : Fd} {n : Nat} (m : Fin n → Row F n) (i : Fin n) : (mxD m)[i.val]? = some ((List.finRange n).map fun j => elD (m i j)) := by
  unfold mxD
  rw [List.getElem?_map, List.getElem?_eq_getElem (by simp)]
  simp
def mxPut {F : Fd} {n : Nat} (m : Fin n → Row F n) (i j : Nat) (c : El F) : Fin n → Row F n := fun x y => if x.val = i ∧ y.val = j then c else m x y
theorem mx_set {F : Fd} {n : Nat} (m : Fin n → Row F n) (i : Fin n) (j : Nat) (c : El F) : (mxD m).set i.val (((List.finRange n).map fun j => elD (m i j)).set j (elD c)) = mxD (mxPut m i.val j c) := by
  unfold mxD
  apply List.ext_getElem
  · simp
  · intro k h1 h2
    rw [List.getElem_set]
    have hk : k < n := by simpa using h2
    by_cases hq : i.val = k
    · subst hq
      rw [if_pos rfl, List.getElem_map]
      apply List.ext_getElem
      · simp
      · intro y h3 h4
        rw [List.getElem_set]
        have hy : y < n := by simpa using h4
        by_cases hyj : j = y
        · subst hyj
          simp [mxPut]
        · rw [if_neg hyj]
          have : ¬ y = j := fun z => hyj z.symm
          simp [mxPut, this]
    · rw [if_neg hq]
      have : ¬ k = i.val := fun z => hq z.symm
      simp [mxPut, this]
def mxBlk {F : Fd} {n : Nat} (m : Fin n → Row F n) (at_ : Nat) (p : Fin 2 → Row F 2) : Fin n → Row F n := fun x y =>
  if h : at_ ≤ x.val ∧ x.val < at_ + 2 ∧ at_ ≤ y.val ∧ y.val < at_ + 2 then p ⟨x.val - at_, by omega⟩ ⟨y.val - at_, by omega⟩ else m x y
theorem mx_blk {F : Fd} {n : Nat} (m : Fin n → Row F n) (at_ : Nat) (p : Fin 2 → Row F 2) : (List.finRange 2).foldl (fun m i => (List.finRange 2).foldl (fun m j => mxPut m (at_ + i.val) (at_ + j.val) (p i j)) m) m = mxBlk m at_ p := by
  show mxPut (mxPut (mxPut (mxPut m (at_ + 0) (at_ + 0) (p 0 0)) (at_ + 0) (at_ + 1) (p 0 1)) (at_ + 1) (at_ + 0) (p 1 0)) (at_ + 1) (at_ + 1) (p 1 1) = _
  funext x y
  unfold mxBlk mxPut
  by_cases hx0 : x.val = at_
  · by_cases hy0 : y.val = at_
    · rw [dif_pos (by omega)]
      simp only [hx0, hy0, Nat.add_zero, Nat.sub_self]
      simp
    · by_cases hy1 : y.val = at_ + 1
      · rw [dif_pos (by omega)]
        simp only [hx0, hy1, Nat.add_zero, Nat.sub_self, Nat.add_sub_cancel_left]
        simp
      · rw [dif_neg (by omega), if_neg (by omega), if_neg (by omega), if_neg (by omega), if_neg (by omega)]
  · by_cases hx1 : x.val = at_ + 1
    · by_cases hy0 : y.val = at_
      · rw [dif_pos (by omega)]
        simp only [hx1, hy0, Nat.add_zero, Nat.sub_self, Nat.add_sub_cancel_left]
        simp
      · by_cases hy1 : y.val = at_ + 1
        · rw [dif_pos (by omega)]
          simp only [hx1, hy1, Nat.add_sub_cancel_left]
          simp
        · rw [dif_neg (by omega), if_neg (by omega), if_neg (by omega), if_neg (by omega), if_neg (by omega)]
    · rw [dif_neg (by omega), if_neg (by omega), if_neg (by omega), if_neg (by omega), if_neg (by omega)]
/-- a form so far, nothing from at_ on -/
def MxGood (F : Fd) (n : Nat) (k : Kd) (m : Fin n → Row F n) (at_ : Nat) : Prop := (Spc.mk F n k m).formOk ∧ ∀ i j : Fin n, (at_ ≤ i.val ∨ at_ ≤ j.val) → m i j = 0
theorem mxGood_0 (F : Fd) (n : Nat) (k : Kd) : MxGood F n k (fun _ _ => 0) 0 := by
  refine ⟨?_, fun _ _ _ => rfl⟩
  cases k with
  | alt => exact ⟨fun _ => rfl, fun _ _ => show (0 : El F) = -0 by grind⟩
  | quad => exact fun _ _ _ => rfl
  | herm => exact fun _ _ => bar_zero.symm
theorem mxGood_1 {F : Fd} {n : Nat} {k : Kd} {m : Fin n → Row F n} {at_ : Nat} (h : MxGood F n k m at_) : MxGood F n k m (at_ + 1) := ⟨h.1, fun i j z => h.2 i j (by omega)⟩
theorem mxGood_c {F : Fd} {n : Nat} {k : Kd} {m : Fin n → Row F n} {at_ : Nat} {c : El F} (h : MxGood F n k m at_) (hk : k ≠ .alt) (hc : ebar c = c) : MxGood F n k (mxPut m at_ at_ c) (at_ + 1) := by
  refine ⟨?_, fun i j z => ?_⟩
  · cases k with
    | alt => exact absurd rfl hk
    | quad =>
      intro i j hij
      show mxPut m at_ at_ c i j = 0
      unfold mxPut
      have : j.val < i.val := hij
      rw [if_neg (by omega)]
      exact h.1 i j hij
    | herm =>
      intro i j
      show mxPut m at_ at_ c i j = ebar (mxPut m at_ at_ c j i)
      unfold mxPut
      by_cases hc1 : i.val = at_ ∧ j.val = at_
      · rw [if_pos hc1, if_pos (by omega), hc]
      · rw [if_neg hc1, if_neg (by omega)]
        exact h.1 i j
  · show mxPut m at_ at_ c i j = 0
    unfold mxPut
    rw [if_neg (by omega)]
    exact h.2 i j (by omega)
theorem mxGood_b {F : Fd} {n : Nat} {k : Kd} {m : Fin n → Row F n} {at_ : Nat} {p : Fin 2 → Row F 2} (h : MxGood F n k m at_) (hp : (Spc.mk F 2 k p).formOk) : MxGood F n k (mxBlk m at_ p) (at_ + 2) := by
  refine ⟨?_, fun i j z => ?_⟩
  · cases k with
    | alt =>
      refine ⟨fun i => ?_, fun i j => ?_⟩
      · show mxBlk m at_ p i i = 0
        unfold mxBlk
        split
        · exact hp.1 _
        · exact h.1.1 i
      · show mxBlk m at_ p i j = -(mxBlk m at_ p j i)
        unfold mxBlk
        by_cases hb : at_ ≤ i.val ∧ i.val < at_ + 2 ∧ at_ ≤ j.val ∧ j.val < at_ + 2
        · rw [dif_pos hb, dif_pos (by omega)]
          exact hp.2 _ _
        · rw [dif_neg hb, dif_neg (by omega)]
          exact h.1.2 i j
    | quad =>
      intro i j hij
      have hij2 : j.val < i.val := hij
      show mxBlk m at_ p i j = 0
      unfold mxBlk
      by_cases hb : at_ ≤ i.val ∧ i.val < at_ + 2 ∧ at_ ≤ j.val ∧ j.val < at_ + 2
      · rw [dif_pos hb]
        have h1 : i.val - at_ < 2 := by omega
        have h2 : j.val - at_ < 2 := by omega
        exact hp ⟨i.val - at_, h1⟩ ⟨j.val - at_, h2⟩ (show j.val - at_ < i.val - at_ by omega)
      · rw [dif_neg hb]
        exact h.1 i j hij
    | herm =>
      intro i j
      show mxBlk m at_ p i j = ebar (mxBlk m at_ p j i)
      unfold mxBlk
      by_cases hb : at_ ≤ i.val ∧ i.val < at_ + 2 ∧ at_ ≤ j.val ∧ j.val < at_ + 2
      · rw [dif_pos hb, dif_pos (by omega)]
        exact hp _ _
      · rw [dif_neg hb, dif_neg (by omega)]
        exact h.1 i j
  · show mxBlk m at_ p i j = 0
    unfold mxBlk
    rw [dif_neg (by omega)]
    exact h.2 i j (by omega)

def R__law_pieces : List D → (D → Prop) → Prop := fun ds f => ∃ (F : Fd) (n : Nat) (k : Kd), ∃ (hn : n ≤ 6), ds = [.str k.str, fD F, nD n] ∧ f = fun d => ∃ m : Fin n → Row F n, (Spc.mk F n k m).formOk ∧ d = sD ⟨F, n, k, m⟩
abbrev sp__law_pieces (K : PySem.W.Frag) : Sp := ssp K R__law_pieces
theorem f__law_pieces {P : Program} {w : World} {K : PySem.W.Frag} {mg : Str → Option Value} {base : Heap} (T : Tx K mg base) : Cal P w K mg base 4 "_law_pieces" (sp__law_pieces K) := by
  refine cal_of (d__law_pieces T) (g__law_pieces T) (N := ["_law_state_here", "_law_kind", "_law_f", "_law_n", "_law_matrix", "_law_j", "_law_i", "_law_at", "_law_pick", "_law_plane_here", "_law_line"]) (ps := ["_law_state_here", "_law_kind", "_law_f", "_law_n"]) (fun _ _ _ _ _ _ us hl => match us, hl with | [_, _, _, _], _ => rfl) (by decide +kernel) (ssp_len (by rintro ds f ⟨_, _, _, _, rfl, _⟩; rfl)) ?_
  intro cdv A outer sh H vs Q E hr hs
  let NN : List Str := ["_law_state_here", "_law_kind", "_law_f", "_law_n", "_law_matrix", "_law_j", "_law_i", "_law_at", "_law_pick", "_law_plane_here", "_law_line"]
  have nd : List.Nodup (α := Str) ["_law_state_here", "_law_kind", "_law_f", "_law_n", "_law_matrix", "_law_j", "_law_i", "_law_at", "_law_pick", "_law_plane_here", "_law_line"] := by decide +kernel
  refine ⟨_, (pss_cons (ps_setLc (i := 4) (own := [("_law_i", 6)]) (g := (gName 6)) (tt := tYes) (te := (tLc (iRng1 (tCons (tVar 3) tNil)) (gName 5) tYes (tC (.int 0)) [5])) rfl nd rfl rfl (sw_true rfl rfl rfl (by decide +kernel)) (pi_range1 (by rfl) (b_range T) (pa_cons (pv 3) pa_nil)) (blkOk_by (N := NN) (by kernel_rfl)) (fun _ _ _ _ _ => (pg_name (i := 6) nd rfl (by first | exact Or.inl rfl | exact Or.inr rfl))) (fun _ _ _ _ _ => pts_nil) (fun _ _ _ _ _ => (pe_lc (own := [("_law_j", 5)]) (g := (gName 5)) (tt := tYes) (te := (tC (.int 0))) rfl nd (pi_range1 (by rfl) (b_range T) (pa_cons (pv 3) pa_nil)) (blkOk_by (N := NN) (by kernel_rfl)) (fun _ _ _ _ _ => (pg_name (i := 5) nd rfl (by first | exact Or.inl rfl | exact Or.inr rfl))) (fun _ _ _ _ _ => pts_nil) (fun _ _ _ _ _ => pe_int))))
 (pss_cons (ps_set (i := 7) nd rfl (by first | exact Or.inl rfl | exact Or.inr rfl) pe_int)
 (pss_cons (ps_while PassesOwn.never (pt_cmpR op_lt (pv 7) (pv 3) (by first | exact nomark _ | rfl | with_unfolding_all rfl)) (pss_cons (ps_set (i := 8) nd rfl (by first | exact Or.inl rfl | exact Or.inr rfl) (pe_c (f__law_take T) hr (by decide) (by rfl) (pa_cons (pv 0) (pa_cons pe_int pa_nil))))
 (pss_one (ps_if (PW.pt (pw_and (pt_cmpR op_gt (pv 8) pe_int (by first | exact nomark _ | rfl | with_unfolding_all rfl)) (pw_and1 (pt_cmpR op_le (pe_op op_add (pv 7) pe_int) (pv 3) (by first | exact nomark _ | rfl | with_unfolding_all rfl))))) (pss_cons (ps_set (i := 9) nd rfl (by first | exact Or.inl rfl | exact Or.inr rfl) (pe_c (f__law_plane T) hr (by decide) (by rfl) (pa_cons (pv 0) (pa_cons (pv 1) (pa_cons (pv 2) pa_nil)))))
 (pss_cons (ps_for PassesOwn.never rfl (pi_range1 (by rfl) (b_range T) (pa_cons pe_int pa_nil)) (pg_name (i := 6) nd rfl (by first | exact Or.inl rfl | exact Or.inr rfl)) (pss_one (ps_for PassesOwn.never rfl (pi_range1 (by rfl) (b_range T) (pa_cons pe_int pa_nil)) (pg_name (i := 5) nd rfl (by first | exact Or.inl rfl | exact Or.inr rfl)) (pss_one (ps_asg (pe_ix ix_tup (pe_ix ix_tup (pv 9) (pv 6) (fun _ _ => rfl)) (pv 5) (fun _ _ => rfl)) (pg_sub (pe_ix ix_list (pv 4) (pe_op op_add (pv 7) (pv 6)) (fun _ _ => rfl)) (pe_op op_add (pv 7) (pv 5)) set_list))))))
 (pss_one (ps_set (i := 7) nd rfl (by first | exact Or.inl rfl | exact Or.inr rfl) (pe_op op_add (pv 7) pe_int))))) (pss_cons (ps_if (PW.pt (pw_and (pt_cmpR op_gt (pv 8) pe_int (by first | exact nomark _ | rfl | with_unfolding_all rfl)) (pw_and1 (pt_cmpR op_ne (pv 1) pe_str (by first | exact nomark _ | rfl | with_unfolding_all rfl))))) (pss_one (ps_asg (pe_c (f__law_fixed T) hr (by decide) (by rfl) (pa_cons (pv 0) (pa_cons (pv 2) pa_nil))) (pg_sub (pe_ix ix_list (pv 4) (pv 7) (fun _ _ => rfl)) (pv 7) set_list))) pss_nil)
 (pss_one (ps_set (i := 7) nd rfl (by first | exact Or.inl rfl | exact Or.inr rfl) (pe_op op_add (pv 7) pe_int))))))))
 (pss_one (ps_ret (pe_tup (pa_cons (pv 1) (pa_cons (pv 2) (pa_cons (pe_callTy call_tuple_of (by rfl) (b_tuple T) (by rfl) (pa_cons (pe_lc (own := [("_law_line", 10)]) (g := (gName 10)) (tt := tYes) (te := (tCB (rTupS K) (tCons (tVar 10) tNil))) rfl nd (pi_list (pv 4)) (blkOk_by (N := NN) (by kernel_rfl)) (fun _ _ _ _ _ => (pg_name (i := 10) nd rfl (by first | exact Or.inl rfl | exact Or.inr rfl))) (fun _ _ _ _ _ => pts_nil) (fun _ _ _ _ _ => (pe_callTy call_tuple_of (by rfl) (b_tuple T) (by rfl) (pa_cons (pv 10) pa_nil)))) pa_nil)) pa_nil))))))))), ?_⟩
  clear hr nd NN
  refine body_ssp (n := 11) hs rfl ?_ (by decide)
  clear hs
  rintro ds f ⟨F, n, k, hn, rfl, rfl⟩
  refine rs_mx (j0 := 4) (l := List.finRange n) (sx := fun i => nD i.val) (ex := fun _ => (List.finRange n).map fun _ => elD (0 : El F)) (js := [6]) (rj_i (rj_rng (rv_var rfl) rfl (by omega))) (by rw [List.length_finRange]; omega) (by decide) (fun i _ => ⟨_, rg_name, ro_map (l := List.finRange n) (sx := fun i => nD i.val) (ex := fun _ => elD (0 : El F)) (js := [5]) (rj_i (rj_rng (rv_var rfl) rfl (by omega))) (by rw [List.length_finRange]; omega) (by decide) fun j _ => ⟨_, rg_name, rv_e0⟩⟩) fun a ps => ?_
  refine rs_setV (d := nD 0) rv_int ?_
  refine rs_seq (fun r' => ∃ m : Fin n → Row F n, (Spc.mk F n k m).formOk ∧ LeE r' [.st, .im (.str k.str), .im (fD F), .im (nD n), .mx a ps (mxD m), .un, .un, .un, .un, .un, .un]) (rs_while (fun mm r' => ∃ (at_ : Nat) (m : Fin n → Row F n), mm = n - at_ ∧ at_ ≤ n ∧ MxGood F n k m at_ ∧ LeE r' [.st, .im (.str k.str), .im (fD F), .im (nD n), .mx a ps (mxD m), .un, .un, .im (nD at_), .un, .un, .un]) n ⟨0, fun _ _ => 0, rfl, Nat.zero_le _, mxGood_0 F n k, (by repeat' (first | exact True.intro | refine And.intro ?_ ?_ | exact Or.inl rfl | exact Or.inr rfl))⟩ ?_) ?_
  · rintro mm r' ⟨at_, m, rfl, hat, hg, hle⟩
    refine ⟨decide ((at_ : Int) < n), fun S0 s0 F0 H0 e Q0 q => (rt_test (rv_lt (rv_var rfl) (rv_var rfl)) : RunT K _ [.st, .im (.str k.str), .im (fD F), .im (nD n), .mx a ps (mxD m), .un, .un, .im (nD at_), .un, .un, .un] _) S0 s0 F0 H0 (e.weak hle) Q0 q, fun h => ?_, fun h => ⟨m, hg.1, hle.trans (by repeat' (first | exact True.intro | refine And.intro ?_ ?_ | exact Or.inl rfl | exact Or.inr rfl))⟩⟩
    have hlt : at_ < n := by have := of_decide_eq_true h; omega
    refine rs_weak hle ?_
    refine rs_setq (re_scall rfl (ra_cons (rv_int) ra_nil) ⟨5, by decide, by decide, rfl, rfl⟩) ?_
    rintro d ⟨pick, hpk, rfl⟩
    refine rs_if (rt_and (rt_test (rv_gt (rv_var rfl) rv_int)) fun _ => rt_test (rv_le (rv_add (rv_var rfl) rv_int) (rv_var rfl))) (fun h => ?_) fun h => ?_
    · rw [Bool.and_eq_true] at h
      have h2 := of_decide_eq_true h.2
      have h2 : at_ + 2 ≤ n := by omega
      refine rs_setq (re_scall rfl (ra_cons ((rv_var rfl)) (ra_cons ((rv_var rfl)) ra_nil)) ⟨_, _, rfl, rfl⟩) ?_
      rintro d ⟨p, hp, rfl⟩
      refine rs_forF (l := List.finRange 2) (sx := fun i => nD i.val) (js := [6]) (fun m i => (List.finRange 2).foldl (fun m j => mxPut m (at_ + i.val) (at_ + j.val) (p i j)) m) (fun _ => True) (fun m => [.st, .im (.str k.str), .im (fD F), .im (nD n), .mx a ps (mxD m), .un, .un, .im (nD at_), .un, .im (tabD (matL p)), .un]) m (rj_rng (n := 2) rv_int rfl (by decide)) (by repeat' (first | exact True.intro | refine And.intro ?_ ?_ | exact Or.inl rfl | exact Or.inr rfl)) (fun pre i post _ _ => ⟨_, rg_name, (fun _ h => h), ?_⟩) fun _ => ?_
      · generalize pre.foldl (fun m i => (List.finRange 2).foldl (fun m j => mxPut m (at_ + i.val) (at_ + j.val) (p i j)) m) m = m1
        refine rs_forF1 (l := List.finRange 2) (sx := fun i => nD i.val) (js := [5]) (fun m j => mxPut m (at_ + i.val) (at_ + j.val) (p i j)) (fun _ => True) (fun m => [.st, .im (.str k.str), .im (fD F), .im (nD n), .mx a ps (mxD m), .un, .im (nD i.val), .im (nD at_), .un, .im (tabD (matL p)), .un]) m1 (rj_rng (n := 2) rv_int rfl (by decide)) (by repeat' (first | exact True.intro | refine And.intro ?_ ?_ | exact Or.inl rfl | exact Or.inr rfl)) (fun pre j post _ _ => ⟨_, rg_name, (fun _ h => h), ?_⟩) fun _ => ⟨trivial, (by repeat' (first | exact True.intro | refine And.intro ?_ ?_ | exact Or.inl rfl | exact Or.inr rfl))⟩
        generalize pre.foldl (fun m j => mxPut m (at_ + i.val) (at_ + j.val) (p i j)) m1 = m2
        have hi := i.isLt
        have hj := j.isLt
        refine rs_mxW (i := 4) (k1 := at_ + i.val) (k2 := at_ + j.val) rfl (rv_rowIx (i := j) (rv_matIx (i := i) (rv_var rfl) (rv_var rfl) rfl) (rv_var rfl) rfl) (rv_add (rv_var rfl) (rv_var rfl)) (rv_add (rv_var rfl) (rv_var rfl)) (by omega) (by omega) (mx_at m2 ⟨at_ + i.val, by omega⟩) (by rw [List.length_map, List.length_finRange]; omega) ⟨trivial, ?_⟩
        have e := mx_set m2 ⟨at_ + i.val, by omega⟩ (at_ + j.val) (p i j)
        rw [e]
        exact (by repeat' (first | exact True.intro | refine And.intro ?_ ?_ | exact Or.inl rfl | exact Or.inr rfl))
      · rw [mx_blk]
        refine rs_set (f := fun x => x = nD (at_ + 2)) ((rv_add (rv_var rfl) rv_int).is (congrArg D.int (by omega))) ?_
        rintro d rfl
        exact ⟨n - (at_ + 2), by omega, at_ + 2, mxBlk m at_ p, rfl, h2, mxGood_b hg hp, (by repeat' (first | exact True.intro | refine And.intro ?_ ?_ | exact Or.inl rfl | exact Or.inr rfl))⟩
    · refine rs_seq (fun r' => ∃ m : Fin n → Row F n, MxGood F n k m (at_ + 1) ∧ LeE r' [.st, .im (.str k.str), .im (fD F), .im (nD n), .mx a ps (mxD m), .un, .un, .im (nD at_), .un, .un, .un]) (rs_if (rt_and (rt_test (rv_gt (rv_var rfl) rv_int)) fun _ => rt_test (rv_neS (rv_var rfl) rv_str)) (fun h2 => ?_) fun h2 => rs_next ⟨m, mxGood_1 hg, (by repeat' (first | exact True.intro | refine And.intro ?_ ?_ | exact Or.inl rfl | exact Or.inr rfl))⟩) ?_
      · rw [Bool.and_eq_true, kA] at h2
        have hk : k ≠ .alt := by simpa using h2.2
        refine rs_mxWq (i := 4) (k1 := at_) (k2 := at_) (f := fun d => ∃ c : El F, ebar c = c ∧ d = elD c) rfl (re_scall rfl (ra_cons ((rv_var rfl)) ra_nil) ⟨_, rfl, rfl⟩) (rv_var rfl) (rv_var rfl) rfl rfl (mx_at m ⟨at_, hlt⟩) (by rw [List.length_map, List.length_finRange]; exact hlt) ?_
        rintro d ⟨c, hc, rfl⟩
        refine ⟨mxPut m at_ at_ c, mxGood_c hg hk hc, ?_⟩
        have e := mx_set m ⟨at_, hlt⟩ at_ c
        rw [e]
        exact (by repeat' (first | exact True.intro | refine And.intro ?_ ?_ | exact Or.inl rfl | exact Or.inr rfl))
      · rintro r' ⟨m', hg', hle'⟩
        refine rs_weak hle' ?_
        refine rs_set (f := fun x => x = nD (at_ + 1)) ((rv_add (rv_var rfl) rv_int).is (congrArg D.int (by omega))) ?_
        rintro d rfl
        exact ⟨n - (at_ + 1), by omega, at_ + 1, m', rfl, hlt, hg', (by repeat' (first | exact True.intro | refine And.intro ?_ ?_ | exact Or.inl rfl | exact Or.inr rfl))⟩
  · rintro r' ⟨m, hm, hle⟩
    refine rs_weak hle (rs_mxF (i := 4) rfl ?_)
    refine rs_retV (rv_tup (ra_cons ((rv_var rfl)) (ra_cons ((rv_var rfl)) (ra_cons (rv_tabT (l := matL m) (RunO.is2 (ro_map (l := List.finRange n) (sx := fun i => .lst ((List.finRange n).map fun j => elD (m i j))) (ex := fun i => rowD (m i)) (js := [10]) (rj_i (rj_list ((rv_var rfl).is ?_))) (by rw [List.length_finRange]; omega) (by decide) fun i _ => ⟨_, rg_name, (rv_tupL (RunE.l (rv_var rfl))).is (congrArg D.tup (row_map _).symm)⟩) (by unfold matL; rw [List.map_map]; rfl))) ra_nil)))) ⟨m, hm, rfl⟩
    unfold mxD
    rw [List.map_map]
    rfl
end Wk
/-! # WkBw -/
set_option Elab.async false
set_option linter.all false
set_option maxRecDepth 100000
set_option maxHeartbeats 4000000
/-! Own lists lent to a call; the state's list taken up. -/
namespace Wk
open PySem PySem.Spec PyProof.Rows L2
section
variable {K : PySem.W.Frag} {r : En} {F H : Hp} {S : Option Addr} {s : L2.St} {t tz : TS} {P : Po} {i : Nat}
def tArgs : List Nat → TA
  | [] => tNil
  | i :: is => tCons (tVar i) (tArgs is)
/-- what may be lent: slot by slot -/
def Lent (r : En) : List Nat → List D → Prop
  | [], [] => True
  | i :: is, d :: ds => (r[i]? = some (.im d) ∨ ∃ p es, r[i]? = some (.ow p es) ∧ d = .lst es) ∧ Lent r is ds
  | _, _ => False
def lendF (r : En) (F H : Hp) : Hp := fun b => if b ∈ owns r then H b else F b
theorem lend_ex (e : EnOk K S r s F H) : Ext F (lendF r F H) := fun b o hb => by
  show (if b ∈ owns r then H b else F b) = some o
  rw [if_neg (fun z => by rw [(e.own z).1] at hb; cases hb)]
  exact hb
theorem lend_sub (e : EnOk K S r s F H) : Ext (lendF r F H) H := fun b o hb => by
  have hb : (if b ∈ owns r then H b else F b) = some o := hb
  split at hb
  · exact hb
  · exact e.ext b o hb
theorem lend_args (e : EnOk K S r s F H) : ∀ {is : List Nat} {ds : List D}, Lent r is ds → ∀ Q : List V → Hp → Prop, (∀ vs, RepL K (lendF r F H) ds vs → Q vs H) → tArgs is s H Q
  | [], [], _, Q, q => q [] RepL.nil
  | i :: is, d :: ds, ⟨h, t⟩, Q, q => by
    have hx : ∃ v, s[i]? = some (some v) ∧ Rep K (lendF r F H) d v := by
      rcases h with h | ⟨p, es, h, rfl⟩
      · obtain ⟨v, hv, z, rfl, h2⟩ := e.sl i _ h
        exact ⟨z, hv, h2.mono (lend_ex e)⟩
      · obtain ⟨v, hv, rfl, h2, vs, h3, h4⟩ := e.sl i _ h
        refine ⟨_, hv, Rep.mk_lst (vs := vs) ?_ (h4.mono (lend_ex e))⟩
        show (if p ∈ owns r then H p else F p) = _
        rw [if_pos (mem_owns h (by simp [own1]))]
        exact h3
    obtain ⟨v, hv, rv⟩ := hx
    exact ⟨v, hv, lend_args e t _ fun vs rs => q _ (.cons rv rs)⟩
  | [], _ :: _, h, _, _ => h.elim
  | _ :: _, [], h, _, _ => h.elim
/-- given back -/
def backF (r : En) (F : Hp) : Hp := fun b => if b ∈ owns r then none else F b
theorem lend_gr {F' H' : Hp} (e : EnOk K S r s F H) (g : Gr none (lendF r F H) H F' H') : Gr S F H (backF r F') H' := by
  refine ⟨fun b o hb => ?_, fun b o hb => ?_, fun b o _ hb => g.keep b o (by simp) hb, fun b o hb n => ?_, fun a ha => ?_⟩
  · have nb : b ∉ owns r := fun z => by rw [(e.own z).1] at hb; cases hb
    show (if b ∈ owns r then none else F' b) = some o
    rw [if_neg nb]
    exact g.ex b o (lend_ex e b o hb)
  · have hb : (if b ∈ owns r then none else F' b) = some o := hb
    split at hb
    · cases hb
    · exact g.sub b o hb
  · have hb : (if b ∈ owns r then none else F' b) = some o := hb
    split at hb
    · cases hb
    · rename_i nb
      refine g.fresh b o hb ?_
      show (if b ∈ owns r then H b else F b) = none
      rw [if_neg nb]
      exact n
  · obtain ⟨_, _, i, j, h⟩ := e.st a ha
    exact ⟨i, j, g.keep a _ (by simp) h⟩
/-- what is owned is no tuple -/
theorem own_kind (e : EnOk K S r s F H) {b : Addr} (hb : b ∈ owns r) : (∃ vs, H b = some (.lst vs)) ∨ ∃ C dx fs, H b = some (.ins C dx fs) := by
  obtain ⟨x, hx, ha⟩ := List.mem_flatMap.mp hb
  obtain ⟨i, hi⟩ := List.mem_iff_getElem?.mp hx
  obtain ⟨v, _, ok⟩ := e.sl i x hi
  cases x with
  | ow p ds =>
    have q : b = p := by simpa [own1] using ha
    subst q
    obtain ⟨_, _, vs, h3, _⟩ := ok
    exact .inl ⟨vs, h3⟩
  | sf p c fs =>
    have q : b = p := by simpa [own1] using ha
    subst q
    obtain ⟨_, _, dx, vs, h3, _⟩ := ok
    exact .inr ⟨_, _, _, h3⟩
  | mx p ps dss =>
    obtain ⟨_, h2, h3, h4⟩ := ok
    rcases List.mem_cons.mp (show b ∈ p :: ps from ha) with z | z
    · rw [z]; exact .inl ⟨_, h3⟩
    · obtain ⟨q1, vs, q2⟩ := MxOk.at z h4
      exact .inl ⟨vs, q2⟩
  | _ => simp [own1] at ha
theorem back_row {F' H' : Hp} (e : EnOk K S r s F H) (g : Gr none (lendF r F H) H F' H') {xs : List Int} {v : V} (h : Rep K F' (irow xs) v) : Rep K (backF r F') (irow xs) v := by
  obtain ⟨a, vs, rfl, h1, h2⟩ := h.tup
  have z := h2.ints
  subst z
  have keep : ∀ o, F' a = some o → (∀ us, o ≠ .lst us) → (∀ C dx fs, o ≠ .ins C dx fs) → backF r F' a = some o := fun o ho n1 n2 => by
    show (if a ∈ owns r then none else F' a) = some o
    rw [if_neg]
    · exact ho
    · intro ha
      have hH := g.sub a o ho
      rcases own_kind e ha with ⟨us, hu⟩ | ⟨C, dx, fs, hu⟩
      · have := g.keep a _ (by simp) hu
        rw [hH] at this
        exact n1 us (Option.some.inj this)
      · have := g.keep a _ (by simp) hu
        rw [hH] at this
        exact n2 C dx fs (Option.some.inj this)
  refine Rep.mk_tup ?_ RepL.of_ints
  rcases h1 with (h1 | ⟨o, h1⟩) | h1
  · exact .inl (.inl (keep _ h1 (fun _ z => by cases z) (fun _ _ _ z => by cases z)))
  · exact .inl (.inr ⟨o, keep _ h1 (fun _ z => by cases z) (fun _ _ _ z => by cases z)⟩)
  · exact .inr h1
theorem back_rows {F' H' : Hp} (e : EnOk K S r s F H) (g : Gr none (lendF r F H) H F' H') : ∀ {xss : List (List Int)} {vs : List V}, RepL K F' (xss.map fun xs => irow xs) vs → RepL K (backF r F') (xss.map fun xs => irow xs) vs
  | [], _, h => h
  | _ :: _, _, h => by
    obtain ⟨v, w, rfl, q, t⟩ := h.of_cons
    exact .cons (back_row e g q) (back_rows e g t)
theorem re_lent {R : List D → (D → Prop) → Prop} {b : Bool} {is : List Nat} {ds : List D} (h : Lent r is ds) (hR : R ds (fun d => d = .bl b)) : RunV K (tCall (psp K R) [] E0 (tArgs is)) r (.bl b) := fun S s F H e Q q =>
  lend_args e h _ fun vs rs => ⟨lendF r F H, ds, _, lend_sub e, by rw [List.append_nil]; exact rs, hR, fun d v F' H' hd rd g => by
    subst hd
    rw [rd.bl]
    exact q _ _ _ _ rfl Rep.mk_bl (lend_gr e g)⟩
theorem ro_lent {R : List D → (List D → Prop) → Prop} {is : List Nat} {ds : List D} {G : Fd} {n : Nat} {l : List (Row G n)} (h : Lent r is ds) (hR : R ds (fun d => d = l.map rowD)) : RunOV K (tCall (fsp K R) [] E0 (tArgs is)) r (l.map rowD) := fun S s F H e Q q =>
  lend_args e h _ fun vs rs => ⟨lendF r F H, ds, _, lend_sub e, by rw [List.append_nil]; exact rs, hR, fun es p us F' H' hd g n1 n2 hp rd => by
    subst hd
    rw [tab_map] at rd
    refine q _ p us (backF r F') H' rfl (lend_gr e g) ?_ n2 hp ?_
    · show (if p ∈ owns r then none else F' p) = none
      split
      · rfl
      · exact n1
    · rw [tab_map]
      exact back_rows e g rd⟩
/-- outside of any state -/
def RunS0 (K : PySem.W.Frag) (t : TS) (r : En) (P : Po) : Prop := ∀ C s F H Dn, C.S = none → EnC K C r s F H → Sat K C F P Dn → t Dn s H
theorem rs0_ownq {te : TE} {f : List D → Prop} (w : RunO K te r f) (h : ∀ ds p, f ds → RunS0 K tz (r.set i (.ow p ds)) P) : RunS0 K (tSeq (tAsg te (gName i)) tz) r P := fun C s F H Dn hS e q =>
  w C.S s F H e.en _ fun ds p vs F' H' hd g n1 n2 hp rd => by
    have e' := e.go g
    refine h ds p hd C _ F' H' Dn hS ⟨e'.en.setOwn rfl (fun k y hk _ => not_own e.en n2 k y hk) (e.en.ne_new n2) ⟨rfl, n1, vs, hp, rd⟩, e'.gr, fun a ha => ?_⟩ (q.mono g.ex)
    rcases owns_set1 rfl r i a ha with z | z
    · rw [z]; exact gr_free e.gr n2
    · exact e.new a z
/-- an own list of two ints becomes the state's list -/
theorem rs0_state {p : Addr} {x y : Int} {f : D → Prop} (hi : r[i]? = some (.ow p [.int x, .int y])) (h : RunS K t (r.set i .st) { rt := f }) : RunS0 K t r { rt := f } := fun C s F H Dn hS e q => by
  obtain ⟨v, hv, h1, h2, vs, h3, h4⟩ := e.en.sl i _ hi
  subst h1
  have hm : p ∈ owns r := mem_owns hi (by simp [own1])
  have hvs : vs = [.int x, .int y] := RepL.ints (ns := [x, y]) h4
  subst hvs
  have li : i < r.length := (List.getElem?_eq_some_iff.mp hi).1
  have noth : ∀ (k : Nat) (z : Sl), r[k]? = some z → k ≠ i → p ∉ own1 z := own_apart e.en.nd hi
  have ow : ∀ b, b ∈ owns (r.set i .st) → b ∈ owns r ∧ b ≠ p := fun b hb => by
    refine ⟨owns_set rfl r i b hb, fun z => ?_⟩
    subst z
    obtain ⟨w, hw, aw⟩ := List.mem_flatMap.mp hb
    obtain ⟨k, hk⟩ := List.mem_iff_getElem?.mp hw
    by_cases hki : i = k
    · subst hki
      rw [List.getElem?_set_self li] at hk
      cases hk
      simp [own1] at aw
    · rw [List.getElem?_set_ne hki] at hk
      exact noth k w hk (Ne.symm hki) aw
  have hp0 : C.H p = none := e.new p hm
  have hHp : ∀ b o, C.H b = some o → b ≠ p := fun b o hb z => by rw [z, hp0] at hb; cases hb
  have gr : Gr (some p) C.F (fun b => if b = p then H p else C.H b) F H := by
    refine ⟨e.gr.ex, e.en.ext, fun b o hb hh => ?_, fun b o hb n => ?_, fun a ha => ?_⟩
    · have nb : b ≠ p := fun z => hb (by rw [z])
      have hh : (if b = p then H p else C.H b) = some o := hh
      rw [if_neg nb] at hh
      exact e.gr.keep b o (by rw [hS]; simp) hh
    · have nb : b ≠ p := fun z => by rw [z, h2] at hb; cases hb
      show (if b = p then H p else C.H b) = none
      rw [if_neg nb]
      exact e.gr.fresh b o hb n
    · cases ha
      exact ⟨x, y, h3⟩
  refine h ⟨C.F, fun b => if b = p then H p else C.H b, some p⟩ s F H Dn ⟨⟨e.en.ext, by rw [List.length_set]; exact e.en.len, fun k z hk => ?_, owns_set_nd rfl r i e.en.nd, fun a ha => ?_⟩, gr, fun a ha => ?_⟩
    ⟨fun r _ _ _ z => z.elim, fun r _ _ _ z => z.elim, fun r _ _ _ z => z.elim, fun d v F' H' hd rd g => q.rt d v F' H' hd rd ?_, fun ds _ _ _ _ z => z.elim⟩
  · by_cases hki : i = k
    · subst hki
      rw [List.getElem?_set_self li] at hk
      cases hk
      exact ⟨_, hv, p, rfl, rfl⟩
    · rw [List.getElem?_set_ne hki] at hk
      obtain ⟨w, hw, ok⟩ := e.en.sl k z hk
      refine ⟨w, hw, ?_⟩
      cases z with
      | st =>
        obtain ⟨a, ha, _⟩ := ok
        rw [hS] at ha
        cases ha
      | un => trivial
      | im d => exact ok
      | ow a ds => exact ok
      | sf a c fs => exact ok
      | mx a ps dss => exact ok
  · cases ha
    exact ⟨h2, fun z => (ow p z).2 rfl, x, y, h3⟩
  · obtain ⟨z1, z2⟩ := ow a ha
    show (if a = p then H p else C.H a) = none
    rw [if_neg z2]
    exact e.new a z1
  · refine ⟨g.ex, g.sub, fun b o _ hb => ?_, fun b o hb n => ?_, fun a ha => by rw [hS] at ha; cases ha⟩
    · have nb := hHp b o hb
      refine g.keep b o (fun z => nb (Option.some.inj z).symm) ?_
      show (if b = p then H p else C.H b) = some o
      rw [if_neg nb]
      exact hb
    · have z := g.fresh b o hb n
      have z : (if b = p then H p else C.H b) = none := z
      split at z
      · rw [h3] at z; cases z
      · exact z
theorem body_psp0 {R : List D → (D → Prop) → Prop} {N : List Str} {n : Nat} {vs : List V} {Q : VK} {E : XK} {H : Hp} (h : psp K R vs H Q E) (hn : N.length = n) (run : ∀ ds f, R ds f → RunS0 K t (ent n ds) { rt := f }) : t { nx := fun _ H' => Q .non H', rt := Q } (L2.start N vs) H := by
  obtain ⟨F, ds, f, ex, rd, hR, k⟩ := h
  have l := rd.length
  refine run ds f hR ⟨F, H, none⟩ _ F H _ rfl ⟨⟨ex, ?_, ?_, ?_, fun a ha => nomatch ha⟩, Gr.refl ex (fun a ha => nomatch ha), fun a ha => ?_⟩ ⟨fun _ _ _ _ h => h.elim, fun _ _ _ _ h => h.elim, fun _ _ _ _ h => h.elim, fun d v F' H' hd rv g => k d v F' H' hd rv g, fun _ _ _ _ _ h => h.elim⟩
  · unfold ent L2.start
    simp only [List.length_append, List.length_map, List.length_replicate]
    omega
  · unfold ent L2.start
    rw [l, hn]
    exact sl_start rd _
  · unfold ent
    rw [owns_app, owns_im, owns_un]
    exact List.nodup_nil
  · unfold ent at ha
    rw [owns_app, owns_im, owns_un] at ha
    cases ha
end
end Wk
/-! # WkW16 -/
set_option Elab.async false
set_option linter.all false
set_option maxRecDepth 100000
set_option maxHeartbeats 4000000
namespace Wk
open PySem PySem.Spec PyProof.Rows L2
section
variable {K : PySem.W.Frag} {r : En} {f : D → Prop} {i : Nat} {tr : TA}
theorem re_scallN {R : List D → (D → Prop) → Prop} {Pa : List D → Prop} (hi : r[i]? = some .st) (w : RunA K tr r Pa) (h : ∀ ds, Pa ds → ∃ f', R ds f' ∧ ∀ d, f' d → f d) : RunE K (tCall (ssp K R) [] E0 (tCons (tVar i) tr)) r f := fun S s F H e Q q => by
  obtain ⟨v, hv, p, rfl, h2⟩ := e.sl i _ hi
  subst h2
  refine ⟨_, hv, w _ s F H e _ fun es vs F1 H1 hes r1 g1 => ?_⟩
  obtain ⟨f', hR, hf⟩ := h es hes
  exact ⟨F1, p, vs, es, f', by rw [List.append_nil], g1.sub, g1.sok e.sok, r1, hR, fun d v F2 H2 hd rd g2 => q d v F2 H2 (hf d hd) rd (g1.trans g2)⟩
end
def sizesL : List (Nat × Nat) := [(2, 0), (2, 1), (2, 2), (2, 3), (3, 1), (3, 2), (4, 1), (4, 2), (5, 1), (5, 2), (7, 1), (9, 1)]
theorem sizes_ok : ∀ p ∈ sizesL, (p.1 = 2 ∨ p.1 = 3 ∨ p.1 = 4 ∨ p.1 = 5 ∨ p.1 = 7 ∨ p.1 = 9) ∧ p.2 ≤ 3 ∧ p.1 ^ p.2 ≤ 25 ∧ (p.1 ^ p.2) ^ p.2 ≤ 625 := by decide
def kindsL : List Kd := [.alt, .quad, .quad, .herm]

def R__law_small : List D → (D → Prop) → Prop := fun ds f => ds = [] ∧ f = fun d => ∃ S : Spc, S.ok ∧ S.tiny ∧ d = sD S
abbrev sp__law_small (K : PySem.W.Frag) : Sp := ssp K R__law_small
theorem f__law_small {P : Program} {w : World} {K : PySem.W.Frag} {mg : Str → Option Value} {base : Heap} (T : Tx K mg base) : Cal P w K mg base 5 "_law_small" (sp__law_small K) := by
  refine cal_of (d__law_small T) (g__law_small T) (N := ["_law_state_here", "_law_sizes", "_law_q", "_law_n", "_law_kind", "_law_f"]) (ps := ["_law_state_here"]) (fun _ _ _ _ _ _ us hl => match us, hl with | [_], _ => rfl) (by decide +kernel) (ssp_len (by rintro ds f ⟨rfl, _⟩; rfl)) ?_
  intro cdv A outer sh H vs Q E hr hs
  let NN : List Str := ["_law_state_here", "_law_sizes", "_law_q", "_law_n", "_law_kind", "_law_f"]
  have nd : List.Nodup (α := Str) ["_law_state_here", "_law_sizes", "_law_q", "_law_n", "_law_kind", "_law_f"] := by decide +kernel
  refine ⟨_, (pss_cons (ps_set (i := 1) nd rfl (by first | exact Or.inl rfl | exact Or.inr rfl) (pe_lst (pa_cons (pe_tup (pa_cons pe_int (pa_cons pe_int pa_nil))) (pa_cons (pe_tup (pa_cons pe_int (pa_cons pe_int pa_nil))) (pa_cons (pe_tup (pa_cons pe_int (pa_cons pe_int pa_nil))) (pa_cons (pe_tup (pa_cons pe_int (pa_cons pe_int pa_nil))) (pa_cons (pe_tup (pa_cons pe_int (pa_cons pe_int pa_nil))) (pa_cons (pe_tup (pa_cons pe_int (pa_cons pe_int pa_nil))) (pa_cons (pe_tup (pa_cons pe_int (pa_cons pe_int pa_nil))) (pa_cons (pe_tup (pa_cons pe_int (pa_cons pe_int pa_nil))) (pa_cons (pe_tup (pa_cons pe_int (pa_cons pe_int pa_nil))) (pa_cons (pe_tup (pa_cons pe_int (pa_cons pe_int pa_nil))) (pa_cons (pe_tup (pa_cons pe_int (pa_cons pe_int pa_nil))) (pa_cons (pe_tup (pa_cons pe_int (pa_cons pe_int pa_nil))) pa_nil))))))))))))))
 (pss_cons (ps_asg (pe_ix ix_list (pv 1) (pe_c (f__law_take T) hr (by decide) (by rfl) (pa_cons (pv 0) (pa_cons pe_int pa_nil))) (fun _ _ => rfl)) (pg_tup rfl (pgs_cons (pg_name (i := 2) nd rfl (by first | exact Or.inl rfl | exact Or.inr rfl)) (pgs_cons (pg_name (i := 3) nd rfl (by first | exact Or.inl rfl | exact Or.inr rfl)) pgs_nil))))
 (pss_cons (ps_set (i := 4) nd rfl (by first | exact Or.inl rfl | exact Or.inr rfl) (pe_ix ix_list (pe_lst (pa_cons pe_str (pa_cons pe_str (pa_cons pe_str (pa_cons pe_str pa_nil))))) (pe_c (f__law_take T) hr (by decide) (by rfl) (pa_cons (pv 0) (pa_cons pe_int pa_nil))) (fun _ _ => rfl)))
 (pss_cons (ps_if (PW.pt (pw_and (pt_cmpR op_eq (pv 4) pe_str (by first | exact nomark _ | rfl | with_unfolding_all rfl)) (pw_and (pt_cmpR op_ne (pv 2) pe_int (by first | exact nomark _ | rfl | with_unfolding_all rfl)) (pw_and1 (pt_cmpR op_ne (pv 2) pe_int (by first | exact nomark _ | rfl | with_unfolding_all rfl)))))) (pss_one (ps_set (i := 4) nd rfl (by first | exact Or.inl rfl | exact Or.inr rfl) pe_str)) pss_nil)
 (pss_cons (ps_set (i := 5) nd rfl (by first | exact Or.inl rfl | exact Or.inr rfl) (pe_c (f__law_field T) hr (by decide) (by rfl) (pa_cons (pv 2) pa_nil)))
 (pss_one (ps_ret (pe_c (f__law_restricted T) hr (by decide) (by rfl) (pa_cons (pe_c (f__law_pieces T) hr (by decide) (by rfl) (pa_cons (pv 0) (pa_cons (pv 4) (pa_cons (pv 5) (pa_cons (pv 3) pa_nil))))) (pa_cons (pe_c (f__law_basis T) hr (by decide) (by rfl) (pa_cons (pv 0) (pa_cons (pv 5) (pa_cons (pv 3) pa_nil)))) pa_nil)))))))))), ?_⟩
  clear hr nd NN
  refine body_ssp (n := 6) hs rfl ?_ (by decide)
  clear hs
  rintro ds f ⟨rfl, rfl⟩
  refine rs_setV (d := .lst (sizesL.map fun p => .tup [nD p.1, nD p.2])) ((rov_lst (ra_cons (rv_tup (ra_cons (rv_int) (ra_cons (rv_int) ra_nil))) (ra_cons (rv_tup (ra_cons (rv_int) (ra_cons (rv_int) ra_nil))) (ra_cons (rv_tup (ra_cons (rv_int) (ra_cons (rv_int) ra_nil))) (ra_cons (rv_tup (ra_cons (rv_int) (ra_cons (rv_int) ra_nil))) (ra_cons (rv_tup (ra_cons (rv_int) (ra_cons (rv_int) ra_nil))) (ra_cons (rv_tup (ra_cons (rv_int) (ra_cons (rv_int) ra_nil))) (ra_cons (rv_tup (ra_cons (rv_int) (ra_cons (rv_int) ra_nil))) (ra_cons (rv_tup (ra_cons (rv_int) (ra_cons (rv_int) ra_nil))) (ra_cons (rv_tup (ra_cons (rv_int) (ra_cons (rv_int) ra_nil))) (ra_cons (rv_tup (ra_cons (rv_int) (ra_cons (rv_int) ra_nil))) (ra_cons (rv_tup (ra_cons (rv_int) (ra_cons (rv_int) ra_nil))) (ra_cons (rv_tup (ra_cons (rv_int) (ra_cons (rv_int) ra_nil))) ra_nil))))))))))))).v.is rfl) ?_
  refine rs_tgq (js := [2, 3]) (f := fun d => ∃ p ∈ sizesL, d = .tup [nD p.1, nD p.2]) (re_ixB (m := 12) (RunE.l (rv_var rfl)) (re_scall rfl (ra_cons (rv_int) ra_nil) ⟨12, by decide, by decide, rfl, rfl⟩) fun k hk => ⟨.tup [nD (sizesL[k]'hk).1, nD (sizesL[k]'hk).2], by rw [List.getElem?_map, List.getElem?_eq_getElem hk]; rfl, _, List.getElem_mem hk, rfl⟩) ?_
  rintro d ⟨⟨q, n⟩, hp, rfl⟩
  obtain ⟨h1, h2, h3, h4⟩ := sizes_ok _ hp
  have hF : ∃ F : Fd, F.q = q := ⟨⟨q, h1⟩, rfl⟩
  obtain ⟨F, rfl⟩ := hF
  have h2 : n ≤ 3 := h2
  refine ⟨_, rg_tup2, (fun _ h => h), ?_⟩
  refine rs_setq (f := fun d => ∃ k : Kd, d = .str k.str) (re_ixB (m := 4) (ds := kindsL.map fun k => .str k.str) (RunO.l ((rov_lst (ra_cons (rv_str) (ra_cons (rv_str) (ra_cons (rv_str) (ra_cons (rv_str) ra_nil))))).is2 rfl)) (re_scall rfl (ra_cons (rv_int) ra_nil) ⟨4, by decide, by decide, rfl, rfl⟩) fun k hk => ⟨.str (kindsL[k]'hk).str, by rw [List.getElem?_map, List.getElem?_eq_getElem hk]; rfl, _, rfl⟩) ?_
  rintro d ⟨k, rfl⟩
  refine rs_seq (fun r' => ∃ k : Kd, (k = .herm → F.q = 4 ∨ F.q = 9) ∧ LeE r' [.st, .un, .im (nD F.q), .im (nD n), .im (.str k.str), .un]) (rs_if (rt_and (rt_test (rv_eqS (rv_var rfl) rv_str)) fun _ => rt_and (rt_test (rv_neI (rv_var rfl) rv_int)) fun _ => rt_test (rv_neI (rv_var rfl) rv_int)) (fun h => rs_set (f := fun x => x = .str Kd.quad.str) rv_str ?_) fun h => rs_next ⟨k, fun hk => ?_, (by repeat' (first | exact True.intro | refine And.intro ?_ ?_ | exact Or.inl rfl | exact Or.inr rfl))⟩) ?_
  · rintro d rfl
    exact ⟨.quad, (fun z => nomatch z), (by repeat' (first | exact True.intro | refine And.intro ?_ ?_ | exact Or.inl rfl | exact Or.inr rfl))⟩
  · subst hk
    rw [kH] at h
    have h : (!decide ((F.q : Int) = 4) && !decide ((F.q : Int) = 9)) = false := h
    rw [Bool.and_eq_false_iff] at h
    rcases h with h | h
    · have h : (F.q : Int) = 4 := by simpa using h
      exact .inl (by omega)
    · have h : (F.q : Int) = 9 := by simpa using h
      exact .inr (by omega)
  rintro r' ⟨k, hk, hle⟩
  refine rs_weak hle ?_
  refine rs_setV (re_call (ra_cons ((rv_var rfl)) ra_nil) ⟨F, rfl, rfl⟩) ?_
  refine rs_ret (f := fun d => ∃ S : Spc, S.ok ∧ S.tiny ∧ d = sD S) (re_callN (Pa := fun ds => ∃ (m rows : Fin n → Row F n), (Spc.mk F n k m).formOk ∧ ds = [sD ⟨F, n, k, m⟩, lstD (matL rows)]) (ra_consE (f := fun d => ∃ m : Fin n → Row F n, (Spc.mk F n k m).formOk ∧ d = sD ⟨F, n, k, m⟩) (g := fun ds => ∃ rows : Fin n → Row F n, ds = [lstD (matL rows)]) (re_scall rfl (ra_cons ((rv_var rfl)) (ra_cons ((rv_var rfl)) (ra_cons ((rv_var rfl)) ra_nil))) ⟨F, n, k, by omega, rfl, rfl⟩) (ra_consE (f := fun d => ∃ rows : Fin n → Row F n, d = lstD (matL rows)) (g := fun ds => ds = []) (re_scall rfl (ra_cons ((rv_var rfl)) (ra_cons ((rv_var rfl)) ra_nil)) ⟨F, n, by omega, rfl, rfl⟩) ra_nil ?_) ?_) ?_) fun d h => h
  · rintro x xs ⟨rows, rfl⟩ rfl
    exact ⟨rows, rfl⟩
  · rintro x xs ⟨m, hm, rfl⟩ ⟨rows, rfl⟩
    exact ⟨m, rows, hm, rfl⟩
  · rintro ds ⟨m, rows, hm, rfl⟩
    have hok : (Spc.mk F n k m).ok := ⟨hm, hk, show n ≤ 6 by omega⟩
    exact ⟨_, ⟨⟨F, n, k, m⟩, false, rows, show n ≤ 6 by omega, rfl, rfl⟩, fun d hd => ⟨_, lmat_ok _ hok rows, ⟨h2, h3, h4⟩, hd⟩⟩
def R__law_pairs : List D → (D → Prop) → Prop := fun ds f => ∃ (S : Spc) (many : Nat), ∃ (ht : S.tiny), ∃ (hm : many ≤ 2), ds = [sD S, nD many] ∧ f = fun d => ∃ us vs : List (Row S.F S.n), S.Pairs us vs ∧ us.length ≤ 2 ∧ d = .tup [tabD us, tabD vs]
abbrev sp__law_pairs (K : PySem.W.Frag) : Sp := ssp K R__law_pairs
theorem f__law_pairs {P : Program} {w : World} {K : PySem.W.Frag} {mg : Str → Option Value} {base : Heap} (T : Tx K mg base) : Cal P w K mg base 4 "_law_pairs" (sp__law_pairs K) := by
  refine cal_of (d__law_pairs T) (g__law_pairs T) (N := ["_law_state_here", "_law_s", "_law_many", "_law_f", "_law_n", "_law_rows_here", "_law_us", "_law_vs", "_law_turn", "_law_u", "_law_own", "_law_span", "_law_good", "_law_v"]) (ps := ["_law_state_here", "_law_s", "_law_many"]) (fun _ _ _ _ _ _ us hl => match us, hl with | [_, _, _], _ => rfl) (by decide +kernel) (ssp_len (by rintro ds f ⟨_, _, _, _, rfl, _⟩; rfl)) ?_
  intro cdv A outer sh H vs Q E hr hs
  let NN : List Str := ["_law_state_here", "_law_s", "_law_many", "_law_f", "_law_n", "_law_rows_here", "_law_us", "_law_vs", "_law_turn", "_law_u", "_law_own", "_law_span", "_law_good", "_law_v"]
  have nd : List.Nodup (α := Str) ["_law_state_here", "_law_s", "_law_many", "_law_f", "_law_n", "_law_rows_here", "_law_us", "_law_vs", "_law_turn", "_law_u", "_law_own", "_law_span", "_law_good", "_law_v"] := by decide +kernel
  refine ⟨_, (pss_cons (ps_par (i := 3) (j := 4) rfl nd rfl rfl (by decide) rfl rfl (pa_cons (pe_ix ix_tup (pv 1) pe_int (fun _ _ => rfl)) (pa_cons (pe_callB call_len_seq (by rfl) (b_len T) PySem.boot_len (pa_cons (pe_ix ix_tup (pv 1) pe_int (fun _ _ => rfl)) pa_nil)) pa_nil)) (by rfl))
 (pss_cons (ps_set (i := 5) nd rfl (by first | exact Or.inl rfl | exact Or.inr rfl) (pe_c (f__law_rows T) hr (by decide) (by rfl) (pa_cons (pv 3) (pa_cons (pv 4) pa_nil))))
 (pss_cons (ps_set (i := 6) nd rfl (by first | exact Or.inl rfl | exact Or.inr rfl) (pe_lst pa_nil))
 (pss_cons (ps_set (i := 7) nd rfl (by first | exact Or.inl rfl | exact Or.inr rfl) (pe_lst pa_nil))
 (pss_cons (ps_for PassesOwn.never rfl (pi_range1 (by rfl) (b_range T) (pa_cons (pv 2) pa_nil)) (pg_name (i := 8) nd rfl (by first | exact Or.inl rfl | exact Or.inr rfl)) (pss_cons (ps_set (i := 9) nd rfl (by first | exact Or.inl rfl | exact Or.inr rfl) (pe_ix ix_list (pv 5) (pe_c (f__law_take T) hr (by decide) (by rfl) (pa_cons (pv 0) (pa_cons (pe_callB call_len_seq (by rfl) (b_len T) PySem.boot_len (pa_cons (pv 5) pa_nil)) pa_nil))) (fun _ _ => rfl)))
 (pss_one (ps_if (pt_val (pe_c (f__law_is_free T) hr (by decide) (by rfl) (pa_cons (pv 3) (pa_cons (pe_op op_cat (pv 6) (pe_lst (pa_cons (pv 9) pa_nil))) (pa_cons (pv 4) pa_nil))))) (pss_cons (ps_set (i := 10) nd rfl (by first | exact Or.inl rfl | exact Or.inr rfl) (pe_c (f__law_value T) hr (by decide) (by rfl) (pa_cons (pv 1) (pa_cons (pv 9) pa_nil))))
 (pss_cons (ps_set (i := 11) nd rfl (by first | exact Or.inl rfl | exact Or.inr rfl) (pe_c (f__law_spanned T) hr (by decide) (by rfl) (pa_cons (pv 3) (pa_cons (pv 7) (pa_cons (pv 4) pa_nil)))))
 (pss_cons (ps_set (i := 12) nd rfl (by first | exact Or.inl rfl | exact Or.inr rfl) (pe_lst pa_nil))
 (pss_cons (ps_for PassesOwn.never rfl (pi_list (pv 5)) (pg_name (i := 13) nd rfl (by first | exact Or.inl rfl | exact Or.inr rfl)) (pss_one (ps_if (PW.pt (pw_and (pt_cmpR op_eq (pe_c (f__law_value T) hr (by decide) (by rfl) (pa_cons (pv 1) (pa_cons (pv 13) pa_nil))) (pv 10) (by first | exact nomark _ | rfl | with_unfolding_all rfl)) (pw_and (pt_val (pe_c (f__law_is_near T) hr (by decide) (by rfl) (pa_cons (pv 1) (pa_cons (pv 6) (pa_cons (pv 7) (pa_cons (pv 9) (pa_cons (pv 13) pa_nil))))))) (pw_and1 (pt_cmpR (op_notInD (room65 hr)) (pv 13) (pv 11) (by first | exact nomark _ | rfl | with_unfolding_all rfl)))))) (pss_one (ps_expr (pe_bm PySem.F.plainAttrs_list PySem.F.slot_list_append PySem.F.type_list_append mt_append (pv 12) (pa_cons (pv 13) pa_nil)))) pss_nil)))
 (pss_one (ps_if (pt_cmpR op_gt (pe_callB call_len_seq (by rfl) (b_len T) PySem.boot_len (pa_cons (pv 12) pa_nil)) pe_int (by first | exact nomark _ | rfl | with_unfolding_all rfl)) (pss_cons (ps_expr (pe_bm PySem.F.plainAttrs_list PySem.F.slot_list_append PySem.F.type_list_append mt_append (pv 6) (pa_cons (pv 9) pa_nil)))
 (pss_one (ps_expr (pe_bm PySem.F.plainAttrs_list PySem.F.slot_list_append PySem.F.type_list_append mt_append (pv 7) (pa_cons (pe_ix ix_list (pv 12) (pe_c (f__law_take T) hr (by decide) (by rfl) (pa_cons (pv 0) (pa_cons (pe_callB call_len_seq (by rfl) (b_len T) PySem.boot_len (pa_cons (pv 12) pa_nil)) pa_nil))) (fun _ _ => rfl)) pa_nil))))) pss_nil)))))) pss_nil))))
 (pss_one (ps_ret (pe_tup (pa_cons (pe_callTy call_tuple_of (by rfl) (b_tuple T) (by rfl) (pa_cons (pv 6) pa_nil)) (pa_cons (pe_callTy call_tuple_of (by rfl) (b_tuple T) (by rfl) (pa_cons (pv 7) pa_nil)) pa_nil)))))))))), ?_⟩
  clear hr nd NN
  refine body_ssp (n := 14) hs rfl ?_ (by decide)
  clear hs
  rintro ds f ⟨S, many, ht, hm, rfl, rfl⟩
  have hn := ht.n3
  have hr := ht.rows
  refine rs_par (ra_cons (ls1 (rv_var rfl)) (ra_cons (rv_lenT (ls2 (rv_var rfl)) (k := (S.n : Int)) (by rw [List.length_map, mat_len])) ra_nil)) ?_
  refine rs_setV (re_call (ra_cons ((rv_var rfl)) (ra_cons ((rv_var rfl)) ra_nil)) ⟨S.F, S.n, by omega, by omega, rfl, rfl⟩) ?_
  refine rs_ownV (rov_lst ra_nil) fun p6 => ?_
  refine rs_ownV (rov_lst ra_nil) fun p7 => ?_
  have hpos : 0 < (allRows S.F S.n).length := by rw [allRows_len]; exact Nat.pow_pos S.F.pos
  have hlen : (allRows S.F S.n).length ≤ 25 := by rw [allRows_len]; exact hr
  refine rs_seq (fun r' => ∃ us vs : List (Row S.F S.n), S.Pairs us vs ∧ us.length ≤ 2 ∧ LeE r' [.st, .im (sD S), .im (nD many), .im (fD S.F), .im (nD S.n), .im (lstD (allRows S.F S.n)), .ow p6 (us.map rowD), .ow p7 (vs.map rowD), .un, .un, .un, .un, .un, .un]) (rs_for (js := [8]) (xs := (List.finRange many).map fun i => nD i.val) (rj_rng (rv_var rfl) rfl (by omega)) (fun i r' => ∃ us vs : List (Row S.F S.n), S.Pairs us vs ∧ us.length ≤ i ∧ LeE r' [.st, .im (sD S), .im (nD many), .im (fD S.F), .im (nD S.n), .im (lstD (allRows S.F S.n)), .ow p6 (us.map rowD), .ow p7 (vs.map rowD), .un, .un, .un, .un, .un, .un]) ⟨[], [], .nil, Nat.le_refl _, (by repeat' (first | exact True.intro | refine And.intro ?_ ?_ | exact Or.inl rfl | exact Or.inr rfl))⟩ ?_ ?_) ?_
  · rintro i r' d hd ⟨us, vs, hp, hul, hle⟩
    rw [List.getElem?_map] at hd
    cases hq : (List.finRange many)[i]? with
    | none => rw [hq] at hd; cases hd
    | some a =>
    rw [hq] at hd
    cases hd
    have hi : i < many := by
      have := (List.getElem?_eq_some_iff.mp hq).1
      rwa [List.length_finRange] at this
    have hvl := hp.len
    refine ⟨_, fun S sl F H v en rd Q q => rg_name S sl F H v (en.weak hle) rd Q q, fun x hx => hle.own x hx, ?_⟩
    refine rs_setq (f := fun d => ∃ u ∈ allRows S.F S.n, d = rowD u) (re_ixB (m := (allRows S.F S.n).length) (RunE.l (rv_var rfl)) (re_scall rfl (ra_cons (rv_lenL (RunE.l (rv_var rfl)) (by rw [List.length_map])) ra_nil) ⟨(allRows S.F S.n).length, hpos, by omega, rfl, rfl⟩) fun k hk => ⟨_, tab_at (List.getElem?_eq_getElem hk), _, List.getElem_mem hk, rfl⟩) ?_
    rintro d ⟨u, hu, rfl⟩
    refine rs_if (rt_B (re_call (ra_cons ((rv_var rfl)) (ra_cons ((ro_cat (rm_own rfl) (ro_m (rov_lst (ra_cons ((rv_var rfl)) ra_nil))) (by rw [List.length_map]; simp; omega)).v) (ra_cons ((rv_var rfl)) ra_nil))) ⟨S.F, S.n, false, us ++ [u], by omega, by rw [List.length_append]; simp; omega, ?_, rfl⟩)) (fun h => ?_) fun h => rs_next ⟨us, vs, hp, by omega, (by repeat' (first | exact True.intro | refine And.intro ?_ ?_ | exact Or.inl rfl | exact Or.inr rfl))⟩
    · show [_, D.lst _, _] = [_, D.lst _, _]
      rw [List.map_append]
      rfl
    have hfree : lfree (us ++ [u]) := bp_iff.mp h
    refine rs_setV (re_call (ra_cons ((rv_var rfl)) (ra_cons ((rv_var rfl)) ra_nil)) ⟨S, u, by omega, rfl, rfl⟩) ?_
    refine rs_lstV (ro_lent (is := [3, 7, 4]) (ds := [fD S.F, lstD vs, nD S.n]) (l := lspan vs) ⟨.inl rfl, .inr ⟨p7, vs.map rowD, rfl, rfl⟩, .inl rfl, trivial⟩ ⟨S.F, S.n, false, vs, by omega, by omega, rfl, rfl⟩) ?_
    refine rs_ownV (rov_lst ra_nil) fun p12 => ?_
    refine rs_forF (l := allRows S.F S.n) (sx := rowD) (js := [13]) (fun (g : List (Row S.F S.n)) v => if bp (S.lvalue v = S.lvalue u ∧ S.lnear us vs u v ∧ v ∉ lspan vs) then g ++ [v] else g) (fun _ => True) (fun g => [.st, .im (sD S), .im (nD many), .im (fD S.F), .im (nD S.n), .im (lstD (allRows S.F S.n)), .ow p6 (us.map rowD), .ow p7 (vs.map rowD), .un, .im (rowD u), .im (elD (S.lvalue u)), .im (lstD (lspan vs)), .ow p12 (g.map rowD), .un]) [] (rj_list (rv_var rfl)) (by repeat' (first | exact True.intro | refine And.intro ?_ ?_ | exact Or.inl rfl | exact Or.inr rfl)) (fun pre v post hpre _ => ?_) fun _ => ?_
    · have hg : (pre.foldl (fun (g : List (Row S.F S.n)) v => if bp (S.lvalue v = S.lvalue u ∧ S.lnear us vs u v ∧ v ∉ lspan vs) then g ++ [v] else g) []).length ≤ pre.length := by
        have : ∀ (pre : List (Row S.F S.n)) (g : List (Row S.F S.n)), (pre.foldl (fun (g : List (Row S.F S.n)) v => if bp (S.lvalue v = S.lvalue u ∧ S.lnear us vs u v ∧ v ∉ lspan vs) then g ++ [v] else g) g).length ≤ g.length + pre.length := by
          intro pre
          induction pre with
          | nil => intro g; simp
          | cons x pre ih =>
            intro g
            rw [List.foldl_cons]
            refine Nat.le_trans (ih _) ?_
            split <;> simp <;> omega
        simpa using this pre []
      have hpl := pre_len hpre
      generalize pre.foldl (fun (g : List (Row S.F S.n)) v => if bp (S.lvalue v = S.lvalue u ∧ S.lnear us vs u v ∧ v ∉ lspan vs) then g ++ [v] else g) [] = g at hg ⊢
      refine ⟨_, rg_name, (fun _ h => h), ?_⟩
      refine rs_if ((rt_and (rt_test (rv_eqE (re_call (ra_cons ((rv_var rfl)) (ra_cons ((rv_var rfl)) ra_nil)) ⟨S, v, by omega, rfl, rfl⟩) (rv_var rfl))) fun _ => rt_and (rt_B (re_lent (is := [1, 6, 7, 9, 13]) (ds := [sD S, lstD us, lstD vs, rowD u, rowD v]) (b := bp (S.lnear us vs u v)) ⟨.inl rfl, .inr ⟨p6, us.map rowD, rfl, rfl⟩, .inr ⟨p7, vs.map rowD, rfl, rfl⟩, .inl rfl, .inl rfl, trivial⟩ ⟨S, us, vs, u, v, by omega, by omega, hvl, rfl, rfl⟩)) fun _ => rt_test (rv_niRows (xs := rowI v) (xss := (lspan vs).map rowI) (rv_var rfl) ((rv_var rfl).is (lstD_ilst _)))).is (b := bp (S.lvalue v = S.lvalue u ∧ S.lnear us vs u v ∧ v ∉ lspan vs)) ?_) (fun h => ?_) fun h => ?_
      · rw [rowsI_mem]
        by_cases h1 : S.lvalue v = S.lvalue u
        · by_cases h2 : S.lnear us vs u v
          · by_cases h3 : v ∈ lspan vs
            · rw [decide_eq_true h1, bp_t h2, decide_eq_true h3, bp_f (fun z => z.2.2 h3)]; rfl
            · rw [decide_eq_true h1, bp_t h2, decide_eq_false h3, bp_t ⟨h1, h2, h3⟩]; rfl
          · rw [decide_eq_true h1, bp_f h2, bp_f (fun z => h2 z.2.1)]; rfl
        · have e := bp_f (show ¬ (S.lvalue v = S.lvalue u ∧ S.lnear us vs u v ∧ v ∉ lspan vs) from fun z => h1 z.1)
          rw [decide_eq_false h1, e]
          rfl
      · refine rs_app rfl (by rw [List.length_map]; omega) (rv_var rfl) ?_
        rintro d rfl
        refine ⟨trivial, ?_⟩
        rw [h, if_pos rfl, List.map_append]
        exact (by repeat' (first | exact True.intro | refine And.intro ?_ ?_ | exact Or.inl rfl | exact Or.inr rfl))
      · refine rs_next ⟨trivial, ?_⟩
        rw [h, if_neg Bool.false_ne_true]
        exact (by repeat' (first | exact True.intro | refine And.intro ?_ ?_ | exact Or.inl rfl | exact Or.inr rfl))
    · have hgood : ∀ v ∈ (allRows S.F S.n).foldl (fun (g : List (Row S.F S.n)) v => if bp (S.lvalue v = S.lvalue u ∧ S.lnear us vs u v ∧ v ∉ lspan vs) then g ++ [v] else g) [], S.lvalue v = S.lvalue u ∧ S.lnear us vs u v ∧ v ∉ lspan vs := by
        have : ∀ (l g : List (Row S.F S.n)), (∀ v ∈ g, S.lvalue v = S.lvalue u ∧ S.lnear us vs u v ∧ v ∉ lspan vs) → ∀ v ∈ l.foldl (fun (g : List (Row S.F S.n)) v => if bp (S.lvalue v = S.lvalue u ∧ S.lnear us vs u v ∧ v ∉ lspan vs) then g ++ [v] else g) g, S.lvalue v = S.lvalue u ∧ S.lnear us vs u v ∧ v ∉ lspan vs := by
          intro l
          induction l with
          | nil => intro g hg; exact hg
          | cons x l ih =>
            intro g hg
            rw [List.foldl_cons]
            refine ih _ ?_
            split
            · rename_i hx
              intro v hv
              rcases List.mem_append.mp hv with hv | hv
              · exact hg v hv
              · rw [List.mem_singleton.mp hv]
                exact bp_iff.mp hx
            · exact hg
        exact this _ [] (fun v hv => by cases hv)
      have hgl : ((allRows S.F S.n).foldl (fun (g : List (Row S.F S.n)) v => if bp (S.lvalue v = S.lvalue u ∧ S.lnear us vs u v ∧ v ∉ lspan vs) then g ++ [v] else g) []).length ≤ 25 := by
        have : ∀ (pre : List (Row S.F S.n)) (g : List (Row S.F S.n)), (pre.foldl (fun (g : List (Row S.F S.n)) v => if bp (S.lvalue v = S.lvalue u ∧ S.lnear us vs u v ∧ v ∉ lspan vs) then g ++ [v] else g) g).length ≤ g.length + pre.length := by
          intro pre
          induction pre with
          | nil => intro g; simp
          | cons x pre ih =>
            intro g
            rw [List.foldl_cons]
            refine Nat.le_trans (ih _) ?_
            split <;> simp <;> omega
        have := this (allRows S.F S.n) []
        simp at this
        omega
      generalize (allRows S.F S.n).foldl (fun (g : List (Row S.F S.n)) v => if bp (S.lvalue v = S.lvalue u ∧ S.lnear us vs u v ∧ v ∉ lspan vs) then g ++ [v] else g) [] = g at hgood hgl ⊢
      refine rs_if (rt_test (rv_gt (rv_lenL (rl_own rfl) rfl) rv_int)) (fun h => ?_) fun h => rs_next ⟨us, vs, hp, by omega, (by repeat' (first | exact True.intro | refine And.intro ?_ ?_ | exact Or.inl rfl | exact Or.inr rfl))⟩
      have h := of_decide_eq_true h
      rw [List.length_map] at h
      refine rs_appV (i := 6) rfl (by rw [List.length_map]; omega) (rv_var rfl) ?_
      refine rs_app (i := 7) (f := fun d => ∃ v ∈ g, d = rowD v) rfl (by rw [List.length_map]; omega) (re_ixB (m := g.length) (rl_own rfl) (re_scall rfl (ra_cons (rv_lenL (rl_own rfl) (by rw [List.length_map])) ra_nil) ⟨g.length, by omega, by omega, rfl, rfl⟩) fun k hk => ⟨_, tab_at (List.getElem?_eq_getElem hk), _, List.getElem_mem hk, rfl⟩) ?_
      rintro d ⟨v, hv, rfl⟩
      obtain ⟨g1, g2, g3⟩ := hgood v hv
      refine ⟨us ++ [u], vs ++ [v], .snoc hp hfree g1 g2 g3, by rw [List.length_append]; simp; omega, ?_⟩
      rw [List.map_append, List.map_append]
      exact (by repeat' (first | exact True.intro | refine And.intro ?_ ?_ | exact Or.inl rfl | exact Or.inr rfl))
  · rintro r' ⟨us, vs, hp, hul, hle⟩
    rw [List.length_map, List.length_finRange] at hul
    exact ⟨us, vs, hp, by omega, hle⟩
  · rintro r' ⟨us, vs, hp, hul, hle⟩
    exact rs_weak hle (rs_retV (rv_tup (ra_cons (rv_tupL (rl_own rfl)) (ra_cons (rv_tupL (rl_own rfl)) ra_nil))) ⟨us, vs, hp, hul, rfl⟩)
def R_law : List D → (D → Prop) → Prop := fun ds f => ∃ (ns : List Int), ds = [.scr ns] ∧ f = fun d => d = .bl true
abbrev sp_law (K : PySem.W.Frag) : Sp := psp K R_law
theorem b_law {P : Program} {w : World} {K : PySem.W.Frag} {mg : Str → Option Value} {base : Heap} (T : Tx K mg base) : BodyOk P w K mg base 12 ["_law_script", "_law_state_here", "_law_s", "_law_f", "_law_n", "_law_space_here", "_law_us", "_law_vs", "_law_due", "_law_found"] "law" (defScope (top 101)) (He.ga K "law") (defBody (top 101)) (sp_law K) := by
  intro cdv A outer sh H vs Q E hr hs
  let NN : List Str := ["_law_script", "_law_state_here", "_law_s", "_law_f", "_law_n", "_law_space_here", "_law_us", "_law_vs", "_law_due", "_law_found"]
  have nd : List.Nodup (α := Str) ["_law_script", "_law_state_here", "_law_s", "_law_f", "_law_n", "_law_space_here", "_law_us", "_law_vs", "_law_due", "_law_found"] := by decide +kernel
  refine ⟨_, (pss_cons (ps_set (i := 1) nd rfl (by first | exact Or.inl rfl | exact Or.inr rfl) (pe_c (f__law_state T) hr (by decide) (by rfl) (pa_cons (pv 0) pa_nil)))
 (pss_cons (ps_set (i := 2) nd rfl (by first | exact Or.inl rfl | exact Or.inr rfl) (pe_c (f__law_small T) hr (by decide) (by rfl) (pa_cons (pv 1) pa_nil)))
 (pss_cons (ps_par (i := 3) (j := 4) rfl nd rfl rfl (by decide) rfl rfl (pa_cons (pe_ix ix_tup (pv 2) pe_int (fun _ _ => rfl)) (pa_cons (pe_callB call_len_seq (by rfl) (b_len T) PySem.boot_len (pa_cons (pe_ix ix_tup (pv 2) pe_int (fun _ _ => rfl)) pa_nil)) pa_nil)) (by rfl))
 (pss_cons (ps_set (i := 5) nd rfl (by first | exact Or.inl rfl | exact Or.inr rfl) (pe_c (f__law_space T) hr (by decide) (by rfl) (pa_cons (pv 2) pa_nil)))
 (pss_cons (ps_asg (pe_c (f__law_pairs T) hr (by decide) (by rfl) (pa_cons (pv 1) (pa_cons (pv 2) (pa_cons (pe_c (f__law_take T) hr (by decide) (by rfl) (pa_cons (pv 1) (pa_cons pe_int pa_nil))) pa_nil)))) (pg_tup rfl (pgs_cons (pg_name (i := 6) nd rfl (by first | exact Or.inl rfl | exact Or.inr rfl)) (pgs_cons (pg_name (i := 7) nd rfl (by first | exact Or.inl rfl | exact Or.inr rfl)) pgs_nil))))
 (pss_cons (ps_set (i := 8) nd rfl (by first | exact Or.inl rfl | exact Or.inr rfl) (pe_c (f__law_any_good T) hr (by decide) (by rfl) (pa_cons (pv 2) (pa_cons (pv 6) (pa_cons (pv 7) pa_nil)))))
 (pss_cons (ps_set (i := 9) nd rfl (by first | exact Or.inl rfl | exact Or.inr rfl) (pe_c (f_extension T) hr (by decide) (by rfl) (pa_cons (pv 5) (pa_cons (pv 6) (pa_cons (pv 7) pa_nil)))))
 (pss_cons (ps_if (PW.pt (pw_or (pt_cmpR op_ne (pe_c (f_extends T) hr (by decide) (by rfl) (pa_cons (pv 5) (pa_cons (pv 6) (pa_cons (pv 7) pa_nil)))) (pv 8) (by first | exact nomark _ | rfl | with_unfolding_all rfl)) (pw_or1 (pt_cmpR op_ne (pe_cmpR op_notN (pv 9) pe_non (by first | exact nomark _ | rfl | with_unfolding_all rfl)) (pv 8) (by first | exact nomark _ | rfl | with_unfolding_all rfl))))) (pss_one (ps_ret pe_bl)) pss_nil)
 (pss_cons (ps_if (pt_val (pv 8)) (pss_one (ps_ret (pe_and (pe_cmpR op_isN (pe_c (f_barrier T) hr (by decide) (by rfl) (pa_cons (pv 5) (pa_cons (pv 6) (pa_cons (pv 7) pa_nil)))) pe_non (by first | exact nomark _ | rfl | with_unfolding_all rfl)) (pe_one (pe_c (f__law_is_extension T) hr (by decide) (by rfl) (pa_cons (pv 2) (pa_cons (pe_fld (pv 9) rfl) (pa_cons (pv 6) (pa_cons (pv 7) pa_nil))))))))) pss_nil)
 (pss_one (ps_ret (pe_c (f__law_bent T) hr (by decide) (by rfl) (pa_cons (pv 3) (pa_cons (pe_c (f__law_radical T) hr (by decide) (by rfl) (pa_cons (pv 2) pa_nil)) (pa_cons (pv 6) (pa_cons (pv 7) (pa_cons (pe_c (f_barrier T) hr (by decide) (by rfl) (pa_cons (pv 5) (pa_cons (pv 6) (pa_cons (pv 7) pa_nil)))) (pa_cons (pv 4) pa_nil)))))))))))))))))), ?_⟩
  clear hr nd NN
  refine body_psp0 (n := 10) hs rfl ?_
  clear hs
  rintro ds f ⟨ns, rfl, rfl⟩
  refine rs0_ownq (ro_call (ra_cons ((rv_var rfl)) ra_nil) ⟨ns, rfl, rfl⟩) ?_
  rintro ds p ⟨x, y, rfl⟩
  refine rs0_state (i := 1) rfl ?_
  refine rs_setq (re_scall rfl ra_nil ⟨rfl, rfl⟩) ?_
  rintro d ⟨S, hS, ht, rfl⟩
  have hn := ht.n3
  have hrw := ht.rows
  refine rs_par (ra_cons (ls1 (rv_var rfl)) (ra_cons (rv_lenT (ls2 (rv_var rfl)) (k := (S.n : Int)) (by rw [List.length_map, mat_len])) ra_nil)) ?_
  refine rs_setV (re_call (ra_cons ((rv_var rfl)) ra_nil) ⟨S, hS, rfl, rfl⟩) ?_
  refine rs_tgq (js := [6, 7]) (f := fun d => ∃ us vs : List (Row S.F S.n), S.Pairs us vs ∧ us.length ≤ 2 ∧ d = .tup [tabD us, tabD vs]) (re_scallN (Pa := fun ds => ∃ m : Nat, m ≤ 2 ∧ ds = [sD S, nD m]) rfl (ra_consE (g := fun ds => ∃ m : Nat, m ≤ 2 ∧ ds = [nD m]) (rv_var (d := sD S) rfl) (ra_consE (f := below 3) (g := fun ds => ds = []) (re_scall rfl (ra_cons (rv_int) ra_nil) ⟨3, by decide, by decide, rfl, rfl⟩) ra_nil ?_) ?_) ?_) ?_
  · rintro x xs ⟨m, hm, rfl⟩ rfl
    exact ⟨m, by omega, rfl⟩
  · rintro x xs rfl ⟨m, hm, rfl⟩
    exact ⟨m, hm, rfl⟩
  · rintro ds ⟨m, hm, rfl⟩
    exact ⟨_, ⟨S, m, ht, hm, rfl, rfl⟩, fun d hd => hd⟩
  rintro d ⟨us, vs, hp, hl, rfl⟩
  refine ⟨_, rg_tup2, (fun _ h => h), ?_⟩
  have hvl := hp.len
  have hc := main_checked hS ht hp hl
  have hg := main_good hS ht hp hl
  refine rs_setV (re_call (ra_cons ((rv_var rfl)) (ra_cons ((rv_var rfl)) (ra_cons ((rv_var rfl)) ra_nil))) ⟨S, us, vs, ht, by omega, hvl, rfl, rfl⟩) ?_
  by_cases hw : S.wir us us.length rfl = S.wir vs us.length hvl
  · obtain ⟨m, m1, m2, m3, m4⟩ := main_ext hS ht hp hl hw
    rw [bp_t (hg.mpr hw)]
    refine rs_setV (re_call (ra_cons ((rv_var rfl)) (ra_cons ((rv_var rfl)) (ra_cons ((rv_var rfl)) ra_nil))) ⟨S, us.length, us, vs, some m, by omega, rfl, hvl, by omega, hc, .inr ⟨hw, m, rfl, m1, m2⟩, rfl, rfl⟩) ?_
    refine rs_guard ((rt_or (rt_test (rv_neB (re_call (ra_cons ((rv_var rfl)) (ra_cons ((rv_var rfl)) (ra_cons ((rv_var rfl)) ra_nil))) ⟨S, us.length, us, vs, by omega, rfl, hvl, by omega, hc, rfl, rfl⟩) (rv_var rfl))) fun _ => rt_test (rv_neB (rv_notN (rv_var rfl)) (rv_var rfl))).is ?_) ?_
    · rw [decide_eq_true hw]
      rfl
    refine rs_ifr (rt_B (rv_var rfl)) (fun _ => rs_retV (rv_andV (rv_isN (re_call (ra_cons ((rv_var rfl)) (ra_cons ((rv_var rfl)) (ra_cons ((rv_var rfl)) ra_nil))) ⟨S, us.length, us, vs, none, by omega, rfl, hvl, by omega, hc, .inl ⟨hw, rfl⟩, rfl, rfl⟩)) fun _ => re_call (ra_cons ((rv_var rfl)) (ra_cons (rv_fld (rv_var rfl) (c_Isometry T) (n_Isometry_matrix T) rfl) (ra_cons ((rv_var rfl)) (ra_cons ((rv_var rfl)) ra_nil)))) ⟨S, m, us, vs, by omega, m2.1, by omega, hvl, rfl, rfl⟩) ?_) fun h => nomatch h
    rw [bp_t ⟨m3, m4⟩]
    rfl
  · obtain ⟨x, x1, x2⟩ := main_bent hS ht hp hl hw
    rw [bp_f (fun z => hw (hg.mp z))]
    refine rs_setV (re_call (ra_cons ((rv_var rfl)) (ra_cons ((rv_var rfl)) (ra_cons ((rv_var rfl)) ra_nil))) ⟨S, us.length, us, vs, none, by omega, rfl, hvl, by omega, hc, .inl ⟨hw, rfl⟩, rfl, rfl⟩) ?_
    refine rs_guard ((rt_or (rt_test (rv_neB (re_call (ra_cons ((rv_var rfl)) (ra_cons ((rv_var rfl)) (ra_cons ((rv_var rfl)) ra_nil))) ⟨S, us.length, us, vs, by omega, rfl, hvl, by omega, hc, rfl, rfl⟩) (rv_var rfl))) fun _ => rt_test (rv_neB (rv_notN (rv_var rfl)) (rv_var rfl))).is ?_) ?_
    · rw [decide_eq_false hw]
      rfl
    refine rs_ifr (rt_B (rv_var rfl)) (fun h => nomatch h) fun _ => rs_retV (re_call (ra_cons ((rv_var rfl)) (ra_cons (re_call (ra_cons ((rv_var rfl)) ra_nil) ⟨S, by omega, by omega, rfl, rfl⟩) (ra_cons ((rv_var rfl)) (ra_cons ((rv_var rfl)) (ra_cons (re_call (ra_cons ((rv_var rfl)) (ra_cons ((rv_var rfl)) (ra_cons ((rv_var rfl)) ra_nil))) ⟨S, us.length, us, vs, some x, by omega, rfl, hvl, by omega, hc, .inr ⟨hw, x, rfl, x1⟩, rfl, rfl⟩) (ra_cons ((rv_var rfl)) ra_nil)))))) ⟨S.F, S.n, us.length, S.lrad, us, vs, x, by omega, by omega, rfl, hvl, rfl, rfl⟩) ?_
    rw [x2]
end Wk
/-! # WkEnd -/
set_option Elab.async false
set_option linter.all false
set_option maxRecDepth 100000
set_option maxHeartbeats 0
namespace Wk
open PySem PySem.Spec PyProof.Rows L2
def spLaw (K : PySem.W.Frag) : Sp := fun vs H Q _ => ∃ (a : Addr) (ns : List Int), vs = [.ref a] ∧ SqL K H a (ns.map V.int) ∧ ns.length ≤ 63 ∧ ∀ H', Q (.bl true) H'
theorem facts {P : Program} {w : World} {K : PySem.W.Frag} {h : Heap} {mg : Str → Option Value} {f : Addr} (X : K.In h) (G : h.Ns mainGlobals mg) (hfa : mg ("law" : Str) = some (.ref f)) (c : Says K) :
    ∃ fd : FuncData, (∀ (s : Shared) (v : Value), BindsTo s fd ⟨[v], []⟩ [("_law_script", v)]) ∧ ∀ base : Heap, K.In base → base.Ns mainGlobals mg → FnOk P w K mg base CX0 40 f fd ["_law_script"] (spLaw K) := by
  have hf : f = He.ga K "law" := by
    have g := g_law (⟨X, G, c⟩ : Tx K mg h)
    rw [hfa] at g
    exact Value.ref.inj (Option.some.inj g)
  subst hf
  obtain ⟨fd, F⟩ := d_law (⟨X, G, c⟩ : Tx K mg h)
  refine ⟨fd, fun s v => F.bindsA (ps := ["_law_script"]) (fun _ _ _ _ _ _ us hl => match us, hl with | [_], _ => rfl) s [v] rfl, fun base Xb Gb => ?_⟩
  have T : Tx K mg base := ⟨Xb, Gb, c⟩
  have ok := F.ok (P := P) (w := w) (mg := mg) (base := base) (CX := CX0) (N := ["_law_script", "_law_state_here", "_law_s", "_law_f", "_law_n", "_law_space_here", "_law_us", "_law_vs", "_law_due", "_law_found"]) (ps := ["_law_script"]) (sp := sp_law K) (C8.fnScope_by (by decide +kernel)) (psp_len (by rintro ds f ⟨_, rfl, _⟩; rfl)) (fun cdv A outer s H vs Q E hr hs => let ⟨t, a, b⟩ := b_law T cdv A outer s H vs Q E hr hs; ⟨t, a.nox, b⟩)
  refine (ok.mono (by decide)).imp fun vs H Q E ⟨a, ns, e, hs, _, hq⟩ => ?_
  subst e
  exact ⟨H, [.scr ns], _, Ext.refl H, .cons (Rep.mk_scr hs) .nil, ⟨ns, rfl, rfl⟩, fun d v F' H' hd rd _ => by subst hd; rw [rd.bl]; exact hq H'⟩
end Wk
open PySem PySem.W PySem.Calls PyProof.Rows
theorem PySem.Challenge.cw_wittspaces_k40_whole_against_all_matrice_holds : PySem.Challenge.rw_wittspaces_k40_whole_against_all_matrice.Holds := by
  w_on; o_law
  refine HandSHeadRun.head_any (r := OpenLaw.row PySem.Challenge.rw_wittspaces_k40_whole_against_all_matrice) (q := view (OpenLaw.row PySem.Challenge.rw_wittspaces_k40_whole_against_all_matrice).prog [101]) (H := Wk.hk 4) (ob := Wk.ob) (M := 6000) (loose := Wk.loose) (d := HandSHeadRun.topDef (OpenLaw.row PySem.Challenge.rw_wittspaces_k40_whole_against_all_matrice).prog 101) (kwd := []) Wk.ob_eq
    (by kernel_rfl) (fun s => by kernel_rfl) Wk.run (by kernel_rfl) (by kernel_rfl) (by kernel_rfl) (by rfl) (by first | assumption | decide +kernel) (by decide +kernel) ⟨rfl, rfl, rfl, rfl, rfl, by decide +kernel⟩ ?hw ?hc
  case hw => w_witness2
  case hc =>
    refine L2.walk_ofE (l := PySem.Challenge.rw_wittspaces_k40_whole_against_all_matrice) (n := 63) (k := 40) (x := "_law_script") (CX := L2.CX0) rfl (by decide) (by kernel_rfl) ⟨rfl, by decide, by decide⟩ ?F (fun _ _ _ _ z => z)
    intro w mg fa h Y G hmg0
    obtain ⟨K, KX, c⟩ := Y
    have hmg : mg ("law" : PySem.Str) = some (.ref fa) := by
      have e : (HandSHeadRun.topDef (OpenLaw.row PySem.Challenge.rw_wittspaces_k40_whole_against_all_matrice).prog 101).name = ("law" : PySem.Str) := by kernel_rfl
      rw [← e]
      exact hmg0
    obtain ⟨fd, hb, hF⟩ := Wk.facts (P := (PySem.Challenge.rw_wittspaces_k40_whole_against_all_matrice).prog) (w := w) KX G hmg c
    exact ⟨K, fd, Wk.spLaw K, KX, hb, fun H a ns hl _ hS => ⟨a, ns, rfl, hS, hl, fun _ => rfl⟩, hF⟩
