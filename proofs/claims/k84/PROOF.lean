import PyProof.Rows.All
import Wide.All
import OpenK.AllK
import Wide.FinOn
import HandS.ForMost
import HandS.IsInst
import HandS.TupAny
import KE.SortData
import HandS.ExcInit
import HandS.ExcField
import HandS.TryOnly
import KE.KExcInit
import HandS.Wide
import HandS.WordsExc
import HandS.SetFor
import HandS.Strs
import HandS.Conv
import PyProof.ReprRoads
import HandS.Lambda
import HandS.EndBits
import HandS.ExcIs
import PySem.Challenge.RW_hasprograms_k84_whole_unlike_sizes
set_option Elab.async false
set_option linter.all false
set_option maxRecDepth 100000
set_option maxHeartbeats 4000000
/-! a84 -/
namespace T84
open PySem L2
def top (i : Nat) : Stmt := PySem.Challenge.pw_hasprograms_k84_whole_unlike_sizes.main.body.getD i (.Pass ⟨0, 0, 0, 0⟩)
abbrev s_is_integer : Stmt := top 8
abbrev s_is_count : Stmt := top 9
abbrev s_want_at_most : Stmt := top 10
abbrev s_is_shaped : Stmt := top 21
abbrev s_signs_of : Stmt := top 22
abbrev s_is_kind : Stmt := top 23
abbrev s_want_kind : Stmt := top 24
abbrev s_is_pure_of : Stmt := top 26

/-- kinds of the law: no sums -/
inductive Kd | let_ (i : Nat) | one | pair (a b : Kd) | fn (a b : Kd)
namespace Kd
def signs : Kd → Int
  | let_ _ => 1
  | one => 1
  | pair a b => 1 + a.signs + b.signs
  | fn a b => 1 + a.signs + b.signs
def depth : Kd → Nat
  | let_ _ => 1
  | one => 1
  | pair a b => 1 + max a.depth b.depth
  | fn a b => 1 + max a.depth b.depth
/-- the letters' numbers lie below m -/
def lets (m : Nat) : Kd → Prop
  | let_ i => i < m
  | one => True
  | pair a b => a.lets m ∧ b.lets m
  | fn a b => a.lets m ∧ b.lets m
theorem depth_pos (k : Kd) : 1 ≤ k.depth := by cases k <;> simp [depth] <;> omega
end Kd
/-- a kind stands at a value -/
inductive At (H : Hp) : V → Kd → Prop
  | let_ {a : Addr} {i : Nat} (h : H a = some (.tup [.str "letter", .int i])) : At H (.ref a) (.let_ i)
  | one {a : Addr} (h : H a = some (.tup [.str "one"])) : At H (.ref a) .one
  | pair {a : Addr} {x y : V} {k l : Kd} (h : H a = some (.tup [.str "pair", x, y])) (hx : At H x k) (hy : At H y l) : At H (.ref a) (.pair k l)
  | fn {a : Addr} {x y : V} {k l : Kd} (h : H a = some (.tup [.str "fun", x, y])) (hx : At H x k) (hy : At H y l) : At H (.ref a) (.fn k l)
/-- all but a stays -/
def Keep (a : Addr) (H H' : Hp) : Prop := ∀ b o, b ≠ a → H b = some o → H' b = some o
theorem Keep.trans {a : Addr} {H H1 H2 : Hp} (e : Keep a H H1) (f : Keep a H1 H2) : Keep a H H2 := fun b o n h => f b o n (e b o n h)
theorem Keep.of {a : Addr} {H H' : Hp} (e : Same H H') : Keep a H H' := fun b o _ h => e b o h
theorem Keep.refl {a : Addr} {H : Hp} : Keep a H H := fun _ _ _ h => h
theorem Same.new {H : Hp} {p : Addr} (h : H p = none) (o : HO) : Same H (upd H p o) := fun b u q => by rw [upd_ne (ne_of_none q h)]; exact q
theorem At.move {H H' : Hp} (e : ∀ a xs, H a = some (.tup xs) → H' a = some (.tup xs)) {v : V} {k : Kd} (h : At H v k) : At H' v k := by
  induction h with
  | let_ h => exact .let_ (e _ _ h)
  | one h => exact .one (e _ _ h)
  | pair h _ _ i1 i2 => exact .pair (e _ _ h) i1 i2
  | fn h _ _ i1 i2 => exact .fn (e _ _ h) i1 i2
theorem At.same {H H' : Hp} (e : Same H H') {v : V} {k : Kd} (h : At H v k) : At H' v k := h.move fun a xs q => e _ _ q
theorem At.keep {H H' : Hp} {a : Addr} {l : List V} (hp : H a = some (.lst l)) (e : Keep a H H') {v : V} {k : Kd} (h : At H v k) : At H' v k :=
  h.move fun b xs q => e b _ (fun z => by rw [z, hp] at q; cases q) q
theorem tT {K : PySem.W.Frag} {H : Hp} {a : Addr} {xs : List V} (h : H a = some (.tup xs)) : SqT K H a xs := .inl (.inl h)
theorem tL {K : PySem.W.Frag} {H : Hp} {a : Addr} {xs : List V} (h : H a = some (.lst xs)) : SqL K H a xs := .inl (.inl h)
theorem blq {Q : VK} {H : Hp} {b b' : Bool} (e : b = b') (q : Q (.bl b') H) : Q (.bl b) H := by rw [e]; exact q
theorem iteFe {b : Bool} {A B : Prop} (e : b = false) (h : B) : if b = true then A else B := by subst e; exact iteF h
theorem iteTe {b : Bool} {A B : Prop} (e : b = true) (h : A) : if b = true then A else B := by subst e; exact iteT h
def dbl : List V := [.str "pair", .str "sum", .str "fun"]
/-- a def of the text -/
structure FD (K : PySem.W.Frag) (mg : Str → Option Value) (x : Str) (st : Stmt) (ps : List Str) (f : Addr) (fd : FuncData) : Prop where
  fn : Fun K x x st f fd
  b : Binds K fd ps []
  m : mg x = some (.ref f)
/-- constants of the top, names of built-ins -/
structure Cs (K : PySem.W.Frag) (mg : Str → Option Value) (aDOUBLE : Addr) : Prop where
  DOUBLE : mg "DOUBLE" = some (.ref aDOUBLE)
  dDOUBLE : ∀ H, SqT K H aDOUBLE dbl
  LETTER : ∃ t, mg "LETTER" = some (.str "letter" t)
  ONE : ∃ t, mg "ONE" = some (.str "one" t)
  PAIR : ∃ t, mg "PAIR" = some (.str "pair" t)
  SUM : ∃ t, mg "SUM" = some (.str "sum" t)
  FUN : ∃ t, mg "FUN" = some (.str "fun" t)
  MOST_LETTER : ∃ t, mg "MOST_LETTER" = some (.int 5 t)
  MOST_SIGNS : ∃ t, mg "MOST_SIGNS" = some (.int 60 t)
  MOST_DEEP : ∃ t, mg "MOST_DEEP" = some (.int 12 t)
  z_isinstance : mg "isinstance" = none
  z_int : mg "int" = none
  z_bool : mg "bool" = none
  z_tuple : mg "tuple" = none
  z_str : mg "str" = none
  z_len : mg "len" = none
  z_sorted : mg "sorted" = none
  z_set : mg "set" = none
  z_all : mg "all" = none
  z_range : mg "range" = none
  z_min : mg "min" = none
  z_max : mg "max" = none
  z_list : mg "list" = none
  z_repr : mg "repr" = none
  z_divmod : mg "divmod" = none
  z_abs : mg "abs" = none
  MOST_COMPARED : ∃ t, mg "MOST_COMPARED" = some (.int 21 t)
  MOST_TRIED : ∃ t, mg "MOST_TRIED" = some (.int 3 t)
  MOST_LETTERS : ∃ t, mg "MOST_LETTERS" = some (.int 3 t)
  MOST_DIGITS : ∃ t, mg "MOST_DIGITS" = some (.int 300 t)
  TOO_GREAT : ∃ t, mg "TOO_GREAT" = some (.int (10 ^ 60) t)
theorem pe_gs {X : Cx} {x y : Str} {pos : Pos} (h : ∃ t, X.mg x = some (.str y t)) (hg : Gl X x := by rfl) (hd : (x == ("__debug__" : Str)) = false := by decide) : PE X (.Name x pos) (tC (.str y)) :=
  let ⟨t, e⟩ := h
  pe_glob hg e ⟨t, rfl⟩ hd
theorem pe_gi {X : Cx} {x : Str} {i : Int} {pos : Pos} (h : ∃ t, X.mg x = some (.int i t)) (hg : Gl X x := by rfl) (hd : (x == ("__debug__" : Str)) = false := by decide) : PE X (.Name x pos) (tC (.int i)) :=
  let ⟨t, e⟩ := h
  pe_glob hg e ⟨t, rfl⟩ hd
section
variable {P : Program} {w : World} {K : PySem.W.Frag} {mg : Str → Option Value} {base : Heap} {aDOUBLE : Addr}
/-! ### is_integer, is_count, want_at_most -/
theorem S_is_integer : FnScope ["value"] ["value"] (defScope s_is_integer) := ⟨rfl, rfl, rfl, by decide +kernel, rfl, by decide +kernel, by decide +kernel⟩
def sp_is_integer : Sp := fun vs H Q _ => ∃ i : Int, vs = [.int i] ∧ Q (.bl true) H
theorem ok_is_integer {f : Addr} {fd : FuncData} (D : FD K mg "is_integer" s_is_integer ["value"] f fd) (T : Cs K mg aDOUBLE) : FnOk P w K mg base CX0 1 f fd ["value"] sp_is_integer := by
  refine D.fn.ok S_is_integer (fun vs H Q E h => ?_) (fun cdv A outer s H vs Q E hr h => ?_)
  · obtain ⟨i, rfl, _⟩ := h
    rfl
  obtain ⟨i, rfl, q⟩ := h
  refine ⟨_, (pss_one (ps_ret (pe_and (pe_callB call_isi (by rfl) T.z_isinstance (by decide +kernel) (pa_cons (pv 0) (pa_cons (pe_bltn (v := .ty "int") (u := .type "int") rfl T.z_int (by decide +kernel) rfl) pa_nil))) (pe_one (pe_not (pe_callB call_isi (by rfl) T.z_isinstance (by decide +kernel) (pa_cons (pv 0) (pa_cons (pe_bltn (v := .ty "bool") (u := .type "bool") rfl T.z_bool (by decide +kernel) rfl) pa_nil)))))))), ?_⟩
  refine ⟨_, rfl, _, _, _, _, true, rfl, .ty _, .base (.int i), kit_ty (by decide +kernel), _, rfl, iteT ?_⟩
  exact ⟨_, rfl, _, _, _, _, false, rfl, .ty _, .base (.int i), kit_ty (by decide +kernel), _, rfl, q⟩
theorem S_is_count : FnScope ["value"] ["value"] (defScope s_is_count) := ⟨rfl, rfl, rfl, by decide +kernel, rfl, by decide +kernel, by decide +kernel⟩
def sp_is_count : Sp := fun vs H Q _ => ∃ i : Int, vs = [.int i] ∧ Q (.bl (decide (0 ≤ i))) H
theorem ok_is_count {f g : Addr} {fd gd : FuncData} (D : FD K mg "is_count" s_is_count ["value"] f fd) (D_is_integer : FD K mg "is_integer" s_is_integer ["value"] g gd) (T : Cs K mg aDOUBLE)
    (G_is_integer : FnOk P w K mg base CX0 1 g gd ["value"] sp_is_integer) : FnOk P w K mg base CX0 2 f fd ["value"] sp_is_count := by
  refine D.fn.ok S_is_count (fun vs H Q E h => ?_) (fun cdv A outer s H vs Q E hr h => ?_)
  · obtain ⟨i, rfl, _⟩ := h
    rfl
  obtain ⟨i, rfl, q⟩ := h
  refine ⟨_, (pss_one (ps_ret (pe_and (pe_call G_is_integer hr rfl D_is_integer.m D_is_integer.fn.kp D_is_integer.b .nil pass0 (pa_cons (pv 0) pa_nil)) (pe_one (pe_cmpR op_ge (pv 0) pe_int (nomark _)))))), ?_⟩
  exact ⟨_, rfl, i, rfl, _, rfl, iteT ⟨_, rfl, _, _, rfl, rfl, q⟩⟩
theorem S_want_at_most : FnScope ["what", "limit", "number"] ["what", "limit", "number"] (defScope s_want_at_most) := ⟨rfl, rfl, rfl, by decide +kernel, rfl, by decide +kernel, by decide +kernel⟩
/-- where it is within its limit -/
def sp_want_at_most : Sp := fun vs H Q _ => ∃ (x : V) (i j : Int), vs = [x, .int i, .int j] ∧ j ≤ i ∧ Q .non H
theorem ok_want_at_most {f : Addr} {fd : FuncData} (D : FD K mg "want_at_most" s_want_at_most ["what", "limit", "number"] f fd) : FnOk P w K mg base CX0 1 f fd ["what", "limit", "number"] sp_want_at_most := by
  refine D.fn.ok S_want_at_most (fun vs H Q E h => ?_) (fun cdv A outer s H vs Q E hr h => ?_)
  · obtain ⟨x, i, j, rfl, _⟩ := h
    rfl
  obtain ⟨x, i, j, rfl, hl, q⟩ := h
  refine ⟨_, (pss_one (ps_if (pt_cmpR op_gt (pv 2) (pv 1) (nomark _)) (pss_one ps_never) pss_nil)), ?_⟩
  refine ⟨_, rfl, _, rfl, _, _, rfl, rfl, _, rfl, ?_⟩
  exact iteFe (decide_eq_false (by omega)) q
/-! ### kinds -/
theorem S_signs_of : FnScope ["kind"] ["kind"] (defScope s_signs_of) := ⟨rfl, rfl, rfl, by decide +kernel, rfl, by decide +kernel, by decide +kernel⟩
def sp_signs_of (n : Nat) : Sp := fun vs H Q _ => ∃ (v : V) (k : Kd), vs = [v] ∧ At H v k ∧ k.depth ≤ n ∧ Q (.int k.signs) H
theorem signs_none {f : Addr} {fd : FuncData} : FnOk P w K mg base CX0 0 f fd ["kind"] (sp_signs_of 0) := by
  have no : ∀ vs H Q E, ¬ sp_signs_of 0 vs H Q E := fun vs H Q E h => by
    obtain ⟨v, k, _, _, h, _⟩ := h
    have := k.depth_pos
    omega
  exact ⟨fun vs H Q E h => absurd h (no vs H Q E), fun A outer s H args us vs Q E _ _ _ _ h => absurd h (no vs H Q E)⟩
theorem signs_step {n : Nat} {f : Addr} {fd : FuncData} (D_signs_of : FD K mg "signs_of" s_signs_of ["kind"] f fd) (T : Cs K mg aDOUBLE) (G_signs_of : FnOk P w K mg base CX0 n f fd ["kind"] (sp_signs_of n)) :
    FnOk P w K mg base CX0 (n + 1) f fd ["kind"] (sp_signs_of (n + 1)) := by
  refine D_signs_of.fn.ok S_signs_of (fun vs H Q E h => ?_) (fun cdv A outer s H vs Q E hr h => ?_)
  · obtain ⟨v, k, rfl, _⟩ := h
    rfl
  obtain ⟨v, k, rfl, hv, hd, q⟩ := h
  refine ⟨_, (pss_one (ps_ret (pe_ifExp (pt_cmpR op_notIn_seq (pe_ix ix_tup (pv 0) pe_int (fun _ _ => rfl)) (pe_glob (v := .ref aDOUBLE) rfl T.DOUBLE rfl) (by rfl)) pe_int (pe_op op_add (pe_op op_add pe_int (pe_call G_signs_of hr rfl D_signs_of.m D_signs_of.fn.kp D_signs_of.b .nil pass0 (pa_cons (pe_ix ix_tup (pv 0) pe_int (fun _ _ => rfl)) pa_nil))) (pe_call G_signs_of hr rfl D_signs_of.m D_signs_of.fn.kp D_signs_of.b .nil pass0 (pa_cons (pe_ix ix_tup (pv 0) pe_int (fun _ _ => rfl)) pa_nil)))))), ?_⟩
  cases hv with
  | let_ h =>
    refine ⟨_, rfl, _, _, _, _, rfl, rfl, tT h, rfl, _, _, rfl, .inr (T.dDOUBLE _), rfl, rfl, _, rfl, ?_⟩
    exact iteT q
  | one h =>
    refine ⟨_, rfl, _, _, _, _, rfl, rfl, tT h, rfl, _, _, rfl, .inr (T.dDOUBLE _), rfl, rfl, _, rfl, ?_⟩
    exact iteT q
  | pair h hx hy =>
    refine ⟨_, rfl, _, _, _, _, rfl, rfl, tT h, rfl, _, _, rfl, .inr (T.dDOUBLE _), rfl, rfl, _, rfl, ?_⟩
    refine iteF ?_
    simp only [Kd.depth] at hd
    refine ⟨_, rfl, _, _, _, _, rfl, rfl, tT h, rfl, _, _, rfl, hx, by omega, _, _, rfl, rfl, ?_⟩
    refine ⟨_, rfl, _, _, _, _, rfl, rfl, tT h, rfl, _, _, rfl, hy, by omega, _, _, rfl, rfl, ?_⟩
    exact q
  | fn h hx hy =>
    refine ⟨_, rfl, _, _, _, _, rfl, rfl, tT h, rfl, _, _, rfl, .inr (T.dDOUBLE _), rfl, rfl, _, rfl, ?_⟩
    refine iteF ?_
    simp only [Kd.depth] at hd
    refine ⟨_, rfl, _, _, _, _, rfl, rfl, tT h, rfl, _, _, rfl, hx, by omega, _, _, rfl, rfl, ?_⟩
    refine ⟨_, rfl, _, _, _, _, rfl, rfl, tT h, rfl, _, _, rfl, hy, by omega, _, _, rfl, rfl, ?_⟩
    exact q
theorem ok_signs_of {f : Addr} {fd : FuncData} (D : FD K mg "signs_of" s_signs_of ["kind"] f fd) (T : Cs K mg aDOUBLE) : ∀ n : Nat, FnOk P w K mg base CX0 n f fd ["kind"] (sp_signs_of n)
  | 0 => signs_none
  | n + 1 => signs_step D T (ok_signs_of D T n)
end
end T84

/-! b84 -/
namespace T84
open PySem L2
/-! ### kinds as data -/
namespace Kd
def data : Kd → PyData
  | let_ i => .tuple [.str "letter", .int i]
  | one => .tuple [.str "one"]
  | pair a b => .tuple [.str "pair", a.data, b.data]
  | fn a b => .tuple [.str "fun", a.data, b.data]
theorem canLay : ∀ k : Kd, k.data.canLay0 = true
  | let_ i => by simp only [data, PyData.canLay0, PyData.canLayAll0, Bool.and_true]; decide +kernel
  | one => by simp only [data, PyData.canLay0, PyData.canLayAll0, Bool.and_true]; decide +kernel
  | pair a b => by
    simp only [data, PyData.canLay0, PyData.canLayAll0, canLay a, canLay b, Bool.and_true]
    decide +kernel
  | fn a b => by
    simp only [data, PyData.canLay0, PyData.canLayAll0, canLay a, canLay b, Bool.and_true]
    decide +kernel
theorem ddepth : ∀ k : Kd, k.data.depth ≤ k.depth + 1
  | let_ i => by simp [data, PyData.depth, PyData.depthAll, depth]
  | one => by simp [data, PyData.depth, PyData.depthAll, depth]
  | pair a b => by
    have h1 := ddepth a
    have h2 := ddepth b
    simp only [data, PyData.depth, PyData.depthAll, depth] at *
    omega
  | fn a b => by
    have h1 := ddepth a
    have h2 := ddepth b
    simp only [data, PyData.depth, PyData.depthAll, depth] at *
    omega
theorem shaped {k : Kd} (h : k.depth ≤ 60) : SeqAt.shaped k.data = true := by
  unfold SeqAt.shaped
  rw [canLay k, Bool.true_and]
  have := ddepth k
  exact decide_eq_true (by omega)
theorem eqv_head (x y : Str) (xs ys : List PyData) : PyData.eqv (.tuple (.str x :: xs)) (.tuple (.str y :: ys)) = ((x == y) && PyData.eqvAll xs ys) := by
  rw [PyData.eqv, PyData.eqvAll, PyData.eqv]
theorem eqv_other {x y : Str} {xs ys : List PyData} (h : (x == y) = false) : PyData.eqv (.tuple (.str x :: xs)) (.tuple (.str y :: ys)) = false := by
  rw [eqv_head, h, Bool.false_and]
theorem eqv_same {x : Str} {xs ys : List PyData} : PyData.eqv (.tuple (.str x :: xs)) (.tuple (.str x :: ys)) = PyData.eqvAll xs ys := by
  rw [eqv_head, beq_self_eq_true, Bool.true_and]
theorem eqv2 (x y u v : PyData) : PyData.eqvAll [x, y] [u, v] = (PyData.eqv x u && PyData.eqv y v) := by
  rw [PyData.eqvAll, PyData.eqvAll, PyData.eqvAll, Bool.and_true]
theorem eqv1 (x u : PyData) : PyData.eqvAll [x] [u] = PyData.eqv x u := by
  rw [PyData.eqvAll, PyData.eqvAll, Bool.and_true]
def wordOf : Kd → Str
  | let_ _ => "letter"
  | one => "one"
  | pair _ _ => "pair"
  | fn _ _ => "fun"
theorem data_word (k : Kd) : ∃ xs, k.data = .tuple (.str k.wordOf :: xs) := by cases k <;> exact ⟨_, rfl⟩
theorem eqv_word {k l : Kd} (h : (k.wordOf == l.wordOf) = false) : PyData.eqv k.data l.data = false := by
  obtain ⟨xs, e⟩ := k.data_word
  obtain ⟨ys, f⟩ := l.data_word
  rw [e, f, eqv_other h]
theorem data_eqv : ∀ k l : Kd, PyData.eqv k.data l.data = true → k = l := by
  intro k
  induction k with
  | let_ i =>
    intro l h
    cases l with
    | let_ j =>
      rw [data, data, eqv_same, eqv1, PyData.eqv, beq_iff_eq] at h
      have : i = j := by omega
      rw [this]
    | one => rw [eqv_word (by show (("letter" : Str) == "one") = false; decide +kernel)] at h; cases h
    | pair c d => rw [eqv_word (by show (("letter" : Str) == "pair") = false; decide +kernel)] at h; cases h
    | fn c d => rw [eqv_word (by show (("letter" : Str) == "fun") = false; decide +kernel)] at h; cases h
  | one =>
    intro l h
    cases l with
    | let_ j => rw [eqv_word (by show (("one" : Str) == "letter") = false; decide +kernel)] at h; cases h
    | one => rfl
    | pair c d => rw [eqv_word (by show (("one" : Str) == "pair") = false; decide +kernel)] at h; cases h
    | fn c d => rw [eqv_word (by show (("one" : Str) == "fun") = false; decide +kernel)] at h; cases h
  | pair a b ia ib =>
    intro l h
    cases l with
    | let_ j => rw [eqv_word (by show (("pair" : Str) == "letter") = false; decide +kernel)] at h; cases h
    | one => rw [eqv_word (by show (("pair" : Str) == "one") = false; decide +kernel)] at h; cases h
    | pair c d =>
      rw [data, data, eqv_same, eqv2, Bool.and_eq_true] at h
      rw [ia c h.1, ib d h.2]
    | fn c d => rw [eqv_word (by show (("pair" : Str) == "fun") = false; decide +kernel)] at h; cases h
  | fn a b ia ib =>
    intro l h
    cases l with
    | let_ j => rw [eqv_word (by show (("fun" : Str) == "letter") = false; decide +kernel)] at h; cases h
    | one => rw [eqv_word (by show (("fun" : Str) == "one") = false; decide +kernel)] at h; cases h
    | pair c d => rw [eqv_word (by show (("fun" : Str) == "pair") = false; decide +kernel)] at h; cases h
    | fn c d =>
      rw [data, data, eqv_same, eqv2, Bool.and_eq_true] at h
      rw [ia c h.1, ib d h.2]
theorem eqv_nil (k : Kd) : PyData.eqv k.data (.tuple []) = false := by
  obtain ⟨xs, e⟩ := k.data_word
  rw [e, PyData.eqv, PyData.eqvAll]
end Kd
theorem At.dp {K : PySem.W.Frag} {H : Hp} {v : V} {k : Kd} (h : At H v k) : Dp K H v k.data := by
  induction h with
  | let_ h => exact .tup (tT h) (.cons (.str _) (.cons (.int _) .nil))
  | one h => exact .tup (tT h) (.cons (.str _) .nil)
  | pair h _ _ i1 i2 => exact .tup (tT h) (.cons (.str _) (.cons i1 (.cons i2 .nil)))
  | fn h _ _ i1 i2 => exact .tup (tT h) (.cons (.str _) (.cons i1 (.cons i2 .nil)))
/-- a kind's tuple: its word, how long -/
theorem At.word {H : Hp} {v : V} {k : Kd} (h : At H v k) : ∃ a x xs, v = .ref a ∧ H a = some (.tup (.str x :: xs)) := by
  cases h with
  | let_ h => exact ⟨_, _, _, rfl, h⟩
  | one h => exact ⟨_, _, _, rfl, h⟩
  | pair h _ _ => exact ⟨_, _, _, rfl, h⟩
  | fn h _ _ => exact ⟨_, _, _, rfl, h⟩
theorem at0 {x : V} {xs : List V} : atI (x :: xs) 0 = some x := atI_nat (j := 0) rfl
theorem size0 : (0 : Nat) ≤ sizeLine := Nat.zero_le _
section
variable {P : Program} {w : World} {K : PySem.W.Frag} {mg : Str → Option Value} {base : Heap} {aDOUBLE : Addr}
theorem S_is_shaped : FnScope ["value", "deep"] ["value", "deep"] (defScope s_is_shaped) := ⟨rfl, rfl, rfl, by decide +kernel, rfl, by decide +kernel, by decide +kernel⟩
def sp_is_shaped (n : Nat) : Sp := fun vs H Q _ => ∃ (v : V) (k : Kd) (d : Int), vs = [v, .int d] ∧ At H v k ∧ k.lets 6 ∧ k.depth ≤ n ∧ n ≤ 12 ∧ (k.depth : Int) ≤ d ∧ ∀ H', Same H H' → Q (.bl true) H'
theorem shaped_none {f : Addr} {fd : FuncData} {m : Nat} : FnOk P w K mg base CX0 m f fd ["value", "deep"] (sp_is_shaped 0) := by
  have no : ∀ vs H Q E, ¬ sp_is_shaped 0 vs H Q E := fun vs H Q E h => by
    obtain ⟨v, k, d, _, _, _, h, _⟩ := h
    have := k.depth_pos
    omega
  exact ⟨fun vs H Q E h => absurd h (no vs H Q E), fun A outer s H args us vs Q E _ _ _ _ h => absurd h (no vs H Q E)⟩
theorem shaped_step {n : Nat} {f g : Addr} {fd gd : FuncData} (D_is_shaped : FD K mg "is_shaped" s_is_shaped ["value", "deep"] f fd) (D_is_count : FD K mg "is_count" s_is_count ["value"] g gd) (T : Cs K mg aDOUBLE)
    (G_is_count : FnOk P w K mg base CX0 2 g gd ["value"] sp_is_count) (G_is_shaped : FnOk P w K mg base CX0 (n + 2) f fd ["value", "deep"] (sp_is_shaped n)) :
    FnOk P w K mg base CX0 (n + 2 + 1) f fd ["value", "deep"] (sp_is_shaped (n + 1)) := by
  refine D_is_shaped.fn.ok S_is_shaped (fun vs H Q E h => ?_) (fun cdv A outer s H vs Q E hr h => ?_)
  · obtain ⟨v, k, d, rfl, _⟩ := h
    rfl
  obtain ⟨v, k, d, rfl, hv, hl, hd, hn, hdd, q⟩ := h
  refine ⟨_, (pss_cons (ps_if (PW.pt (pw_or (pt_cmpR op_lt (pv 1) pe_int (nomark _)) (pw_or (pt_not (pt_val (pe_callB call_isi (by rfl) T.z_isinstance (by decide +kernel) (pa_cons (pv 0) (pa_cons (pe_bltn (v := .ty "tuple") (u := .type "tuple") rfl T.z_tuple (by decide +kernel) rfl) pa_nil))))) (pw_or (pt_cmpR (op_eqD hr.units) (pv 0) (pe_tup pa_nil) (nomark _)) (pw_or1 (pt_not (pt_val (pe_callB call_isi (by rfl) T.z_isinstance (by decide +kernel) (pa_cons (pe_ix ix_tup (pv 0) pe_int (fun _ _ => rfl)) (pa_cons (pe_bltn (v := .ty "str") (u := .type "str") rfl T.z_str (by decide +kernel) rfl) pa_nil)))))))))) (pss_one (ps_ret pe_bl)) pss_nil)
    (pss_cons (ps_if (pt_cmpR op_eq (pe_ix ix_tup (pv 0) pe_int (fun _ _ => rfl)) (pe_gs T.LETTER) (nomark _)) (pss_one (ps_ret (pe_and (pe_cmpR op_eq (pe_callB call_len (by rfl) T.z_len PySem.boot_len (pa_cons (pv 0) pa_nil)) pe_int (nomark _)) (pe_and (pe_call G_is_count (hr.mono (by omega)) rfl D_is_count.m D_is_count.fn.kp D_is_count.b .nil pass0 (pa_cons (pe_ix ix_tup (pv 0) pe_int (fun _ _ => rfl)) pa_nil)) (pe_one (pe_cmpR op_le (pe_ix ix_tup (pv 0) pe_int (fun _ _ => rfl)) (pe_gi T.MOST_LETTER) (nomark _))))))) pss_nil)
    (pss_cons (ps_if (pt_cmpR op_eq (pe_ix ix_tup (pv 0) pe_int (fun _ _ => rfl)) (pe_gs T.ONE) (nomark _)) (pss_one (ps_ret (pe_cmpR op_eq (pe_callB call_len (by rfl) T.z_len PySem.boot_len (pa_cons (pv 0) pa_nil)) pe_int (nomark _)))) pss_nil)
    (pss_cons (ps_if (PW.pt (pw_or (pt_cmpR op_notIn_seq (pe_ix ix_tup (pv 0) pe_int (fun _ _ => rfl)) (pe_glob (v := .ref aDOUBLE) rfl T.DOUBLE rfl) (by rfl)) (pw_or1 (pt_cmpR op_ne (pe_callB call_len (by rfl) T.z_len PySem.boot_len (pa_cons (pv 0) pa_nil)) pe_int (nomark _))))) (pss_one (ps_ret pe_bl)) pss_nil)
    (pss_one (ps_ret (pe_and (pe_call G_is_shaped hr rfl D_is_shaped.m D_is_shaped.fn.kp D_is_shaped.b .nil pass0 (pa_cons (pe_ix ix_tup (pv 0) pe_int (fun _ _ => rfl)) (pa_cons (pe_op op_sub (pv 1) pe_int) pa_nil))) (pe_one (pe_call G_is_shaped hr rfl D_is_shaped.m D_is_shaped.fn.kp D_is_shaped.b .nil pass0 (pa_cons (pe_ix ix_tup (pv 0) pe_int (fun _ _ => rfl)) (pa_cons (pe_op op_sub (pv 1) pe_int) pa_nil))))))))))), ?_⟩
  have pos := k.depth_pos
  obtain ⟨a, x, xs, rfl, ha⟩ := hv.word
  refine ⟨_, rfl, _, _, rfl, rfl, _, rfl, iteFe (decide_eq_false (by omega)) ?_⟩
  refine ⟨_, rfl, _, _, _, _, true, rfl, .ty _, .base (.tup ha), kit_ty (by decide +kernel), true, rfl, iteFe rfl ?_⟩
  refine ⟨_, rfl, size0, fun p hp => ?_⟩
  have e := Same.new hp (.tup [])
  have hv' := hv.same e
  have ha' := e _ _ ha
  have sh := Kd.shaped (k := k) (by omega)
  refine ⟨_, _, hv'.dp, .tup (tT upd_same) .nil, sh, by decide +kernel, _, rfl, iteFe k.eqv_nil ?_⟩
  refine ⟨_, rfl, _, _, _, _, rfl, rfl, tT ha', at0, _, _, _, _, true, rfl, .ty _, .base (.str x), kit_ty (by decide +kernel), true, rfl, iteF ?_⟩
  cases hv' with
  | @let_ a i h =>
    simp only [Kd.lets] at hl
    refine ⟨_, rfl, _, _, _, _, rfl, rfl, tT h, rfl, rfl, _, rfl, iteTe rfl ?_⟩
    refine ⟨_, rfl, _, _, rfl, .inr ⟨_, tT h, rfl⟩, rfl, true, rfl, iteT ?_⟩
    refine ⟨_, rfl, _, _, _, _, rfl, rfl, tT h, rfl, i, rfl, true, ?_, iteT ?_⟩
    · rw [decide_eq_true (by omega)]
    refine ⟨_, rfl, _, _, _, _, rfl, rfl, tT h, rfl, _, _, rfl, rfl, ?_⟩
    exact blq (Q := Q) (decide_eq_true (by omega)) (q _ e)
  | one h =>
    refine ⟨_, rfl, _, _, _, _, rfl, rfl, tT h, rfl, rfl, _, rfl, iteFe (by decide +kernel) ?_⟩
    refine ⟨_, rfl, _, _, _, _, rfl, rfl, tT h, rfl, rfl, _, rfl, iteTe rfl ?_⟩
    refine ⟨_, rfl, _, _, rfl, .inr ⟨_, tT h, rfl⟩, rfl, ?_⟩
    exact q _ e
  | pair h hx hy =>
    simp only [Kd.lets] at hl
    simp only [Kd.depth] at hd hdd
    refine ⟨_, rfl, _, _, _, _, rfl, rfl, tT h, rfl, rfl, _, rfl, iteFe (by decide +kernel) ?_⟩
    refine ⟨_, rfl, _, _, _, _, rfl, rfl, tT h, rfl, rfl, _, rfl, iteFe (by decide +kernel) ?_⟩
    refine ⟨_, rfl, _, _, _, _, rfl, rfl, tT h, rfl, _, _, rfl, .inr (T.dDOUBLE _), rfl, rfl, _, rfl, iteFe (by decide +kernel) ?_⟩
    refine ⟨_, rfl, _, _, rfl, .inr ⟨_, tT h, rfl⟩, rfl, _, rfl, iteFe rfl ?_⟩
    refine ⟨_, rfl, _, _, _, _, rfl, rfl, tT h, rfl, _, rfl, _, _, rfl, rfl, _, _, _, rfl, hx, hl.1, by omega, by omega, by omega, fun H2 e2 => ?_⟩
    refine ⟨_, rfl, iteT ?_⟩
    refine ⟨_, rfl, _, _, _, _, rfl, rfl, tT (e2 _ _ h), rfl, _, rfl, _, _, rfl, rfl, _, _, _, rfl, hy.same e2, hl.2, by omega, by omega, by omega, fun H3 e3 => ?_⟩
    exact q _ (e.trans (e2.trans e3))
  | fn h hx hy =>
    simp only [Kd.lets] at hl
    simp only [Kd.depth] at hd hdd
    refine ⟨_, rfl, _, _, _, _, rfl, rfl, tT h, rfl, rfl, _, rfl, iteFe (by decide +kernel) ?_⟩
    refine ⟨_, rfl, _, _, _, _, rfl, rfl, tT h, rfl, rfl, _, rfl, iteFe (by decide +kernel) ?_⟩
    refine ⟨_, rfl, _, _, _, _, rfl, rfl, tT h, rfl, _, _, rfl, .inr (T.dDOUBLE _), rfl, rfl, _, rfl, iteFe (by decide +kernel) ?_⟩
    refine ⟨_, rfl, _, _, rfl, .inr ⟨_, tT h, rfl⟩, rfl, _, rfl, iteFe rfl ?_⟩
    refine ⟨_, rfl, _, _, _, _, rfl, rfl, tT h, rfl, _, rfl, _, _, rfl, rfl, _, _, _, rfl, hx, hl.1, by omega, by omega, by omega, fun H2 e2 => ?_⟩
    refine ⟨_, rfl, iteT ?_⟩
    refine ⟨_, rfl, _, _, _, _, rfl, rfl, tT (e2 _ _ h), rfl, _, rfl, _, _, rfl, rfl, _, _, _, rfl, hy.same e2, hl.2, by omega, by omega, by omega, fun H3 e3 => ?_⟩
    exact q _ (e.trans (e2.trans e3))
end
end T84

/-! c84 -/
namespace T84
open PySem L2
section
variable {P : Program} {w : World} {K : PySem.W.Frag} {mg : Str → Option Value} {base : Heap} {aDOUBLE : Addr}
theorem ok_is_shaped {f g : Addr} {fd gd : FuncData} (D : FD K mg "is_shaped" s_is_shaped ["value", "deep"] f fd) (D_is_count : FD K mg "is_count" s_is_count ["value"] g gd) (T : Cs K mg aDOUBLE)
    (G_is_count : FnOk P w K mg base CX0 2 g gd ["value"] sp_is_count) : ∀ n : Nat, FnOk P w K mg base CX0 (n + 2) f fd ["value", "deep"] (sp_is_shaped n)
  | 0 => shaped_none
  | n + 1 => shaped_step D D_is_count T G_is_count (ok_is_shaped D D_is_count T G_is_count n)
/-- a good kind -/
structure Good (k : Kd) : Prop where
  l : k.lets 6
  d : k.depth ≤ 12
  s : k.signs ≤ 60
theorem S_is_kind : FnScope ["value"] ["value"] (defScope s_is_kind) := ⟨rfl, rfl, rfl, by decide +kernel, rfl, by decide +kernel, by decide +kernel⟩
def sp_is_kind : Sp := fun vs H Q _ => ∃ (v : V) (k : Kd), vs = [v] ∧ At H v k ∧ Good k ∧ ∀ H', Same H H' → Q (.bl true) H'
theorem ok_is_kind {f g h : Addr} {fd gd hd : FuncData} (D : FD K mg "is_kind" s_is_kind ["value"] f fd) (D_is_shaped : FD K mg "is_shaped" s_is_shaped ["value", "deep"] g gd) (D_signs_of : FD K mg "signs_of" s_signs_of ["kind"] h hd) (T : Cs K mg aDOUBLE)
    (G_is_shaped : FnOk P w K mg base CX0 14 g gd ["value", "deep"] (sp_is_shaped 12)) (G_signs_of : FnOk P w K mg base CX0 12 h hd ["kind"] (sp_signs_of 12)) : FnOk P w K mg base CX0 15 f fd ["value"] sp_is_kind := by
  refine D.fn.ok S_is_kind (fun vs H Q E h => ?_) (fun cdv A outer s H vs Q E hr h => ?_)
  · obtain ⟨v, k, rfl, _⟩ := h
    rfl
  obtain ⟨v, k, rfl, hv, gk, q⟩ := h
  refine ⟨_, (pss_one (ps_ret (pe_and (pe_call G_is_shaped hr rfl D_is_shaped.m D_is_shaped.fn.kp D_is_shaped.b .nil pass0 (pa_cons (pv 0) (pa_cons (pe_gi T.MOST_DEEP) pa_nil))) (pe_one (pe_cmpR op_le (pe_call G_signs_of (hr.mono (by omega)) rfl D_signs_of.m D_signs_of.fn.kp D_signs_of.b .nil pass0 (pa_cons (pv 0) pa_nil)) (pe_gi T.MOST_SIGNS) (nomark _)))))), ?_⟩
  refine ⟨_, rfl, v, k, 12, rfl, hv, gk.l, gk.d, by omega, by have := gk.d; omega, fun H1 e1 => ?_⟩
  refine ⟨_, rfl, iteT ?_⟩
  refine ⟨_, rfl, v, k, rfl, hv.same e1, gk.d, _, _, rfl, rfl, ?_⟩
  exact blq (Q := Q) (decide_eq_true gk.s) (q _ e1)
theorem S_want_kind : FnScope ["value"] ["value"] (defScope s_want_kind) := ⟨rfl, rfl, rfl, by decide +kernel, rfl, by decide +kernel, by decide +kernel⟩
def sp_want_kind : Sp := fun vs H Q _ => ∃ (v : V) (k : Kd), vs = [v] ∧ At H v k ∧ Good k ∧ ∀ H', Same H H' → Q .non H'
theorem ok_want_kind {f g : Addr} {fd gd : FuncData} (D : FD K mg "want_kind" s_want_kind ["value"] f fd) (D_is_kind : FD K mg "is_kind" s_is_kind ["value"] g gd)
    (G_is_kind : FnOk P w K mg base CX0 15 g gd ["value"] sp_is_kind) : FnOk P w K mg base CX0 16 f fd ["value"] sp_want_kind := by
  refine D.fn.ok S_want_kind (fun vs H Q E h => ?_) (fun cdv A outer s H vs Q E hr h => ?_)
  · obtain ⟨v, k, rfl, _⟩ := h
    rfl
  obtain ⟨v, k, rfl, hv, gk, q⟩ := h
  refine ⟨_, (pss_one (ps_if (pt_not (pt_val (pe_call G_is_kind hr rfl D_is_kind.m D_is_kind.fn.kp D_is_kind.b .nil pass0 (pa_cons (pv 0) pa_nil)))) (pss_one ps_never) pss_nil)), ?_⟩
  refine ⟨_, rfl, v, k, rfl, hv, gk, fun H1 e1 => ?_⟩
  exact ⟨_, rfl, iteF (q _ e1)⟩
theorem S_is_pure_of : FnScope ["kind"] ["kind"] (defScope s_is_pure_of) := ⟨rfl, rfl, rfl, by decide +kernel, rfl, by decide +kernel, by decide +kernel⟩
def sp_is_pure_of (n : Nat) : Sp := fun vs H Q _ => ∃ (v : V) (k : Kd), vs = [v] ∧ At H v k ∧ k.depth ≤ n ∧ Q (.bl true) H
theorem pure_step {n : Nat} {f : Addr} {fd : FuncData} (D_is_pure_of : FD K mg "is_pure_of" s_is_pure_of ["kind"] f fd) (T : Cs K mg aDOUBLE) (G_is_pure_of : FnOk P w K mg base CX0 n f fd ["kind"] (sp_is_pure_of n)) :
    FnOk P w K mg base CX0 (n + 1) f fd ["kind"] (sp_is_pure_of (n + 1)) := by
  refine D_is_pure_of.fn.ok S_is_pure_of (fun vs H Q E h => ?_) (fun cdv A outer s H vs Q E hr h => ?_)
  · obtain ⟨v, k, rfl, _⟩ := h
    rfl
  obtain ⟨v, k, rfl, hv, hd, q⟩ := h
  refine ⟨_, (pss_cons (ps_if (pt_cmpR op_notIn_seq (pe_ix ix_tup (pv 0) pe_int (fun _ _ => rfl)) (pe_glob (v := .ref aDOUBLE) rfl T.DOUBLE rfl) (by rfl)) (pss_one (ps_ret pe_bl)) pss_nil)
    (pss_one (ps_ret (pe_and (pe_cmpR op_ne (pe_ix ix_tup (pv 0) pe_int (fun _ _ => rfl)) (pe_gs T.SUM) (nomark _)) (pe_and (pe_call G_is_pure_of hr rfl D_is_pure_of.m D_is_pure_of.fn.kp D_is_pure_of.b .nil pass0 (pa_cons (pe_ix ix_tup (pv 0) pe_int (fun _ _ => rfl)) pa_nil)) (pe_one (pe_call G_is_pure_of hr rfl D_is_pure_of.m D_is_pure_of.fn.kp D_is_pure_of.b .nil pass0 (pa_cons (pe_ix ix_tup (pv 0) pe_int (fun _ _ => rfl)) pa_nil)))))))), ?_⟩
  cases hv with
  | let_ h =>
    refine ⟨_, rfl, _, _, _, _, rfl, rfl, tT h, rfl, _, _, rfl, .inr (T.dDOUBLE _), rfl, rfl, _, rfl, ?_⟩
    exact iteT q
  | one h =>
    refine ⟨_, rfl, _, _, _, _, rfl, rfl, tT h, rfl, _, _, rfl, .inr (T.dDOUBLE _), rfl, rfl, _, rfl, ?_⟩
    exact iteT q
  | pair h hx hy =>
    refine ⟨_, rfl, _, _, _, _, rfl, rfl, tT h, rfl, _, _, rfl, .inr (T.dDOUBLE _), rfl, rfl, _, rfl, ?_⟩
    refine iteF ?_
    simp only [Kd.depth] at hd
    refine ⟨_, rfl, _, _, _, _, rfl, rfl, tT h, rfl, rfl, _, rfl, iteTe (by decide +kernel) ?_⟩
    refine ⟨_, rfl, _, _, _, _, rfl, rfl, tT h, rfl, _, _, rfl, hx, by omega, _, rfl, iteT ?_⟩
    exact ⟨_, rfl, _, _, _, _, rfl, rfl, tT h, rfl, _, _, rfl, hy, by omega, q⟩
  | fn h hx hy =>
    refine ⟨_, rfl, _, _, _, _, rfl, rfl, tT h, rfl, _, _, rfl, .inr (T.dDOUBLE _), rfl, rfl, _, rfl, ?_⟩
    refine iteF ?_
    simp only [Kd.depth] at hd
    refine ⟨_, rfl, _, _, _, _, rfl, rfl, tT h, rfl, rfl, _, rfl, iteTe (by decide +kernel) ?_⟩
    refine ⟨_, rfl, _, _, _, _, rfl, rfl, tT h, rfl, _, _, rfl, hx, by omega, _, rfl, iteT ?_⟩
    exact ⟨_, rfl, _, _, _, _, rfl, rfl, tT h, rfl, _, _, rfl, hy, by omega, q⟩
theorem fn_none {f : Addr} {fd : FuncData} {m : Nat} {ps : List Str} {sp : Sp} (no : ∀ vs H Q E, ¬ sp vs H Q E) : FnOk P w K mg base CX0 m f fd ps sp :=
  ⟨fun vs H Q E h => absurd h (no vs H Q E), fun A outer s H args us vs Q E _ _ _ _ h => absurd h (no vs H Q E)⟩
theorem ok_is_pure_of {f : Addr} {fd : FuncData} (D : FD K mg "is_pure_of" s_is_pure_of ["kind"] f fd) (T : Cs K mg aDOUBLE) : ∀ n : Nat, FnOk P w K mg base CX0 n f fd ["kind"] (sp_is_pure_of n)
  | 0 => fn_none fun vs H Q E h => by
    obtain ⟨v, k, _, _, h, _⟩ := h
    have := k.depth_pos
    omega
  | n + 1 => pure_step D T (ok_is_pure_of D T n)
end
end T84

/-! d84 -/
namespace T84
open PySem L2
abbrev s_arms_of : Stmt := top 28
/-! ### rules in short -/
def TupAt (H : Hp) (v : V) (xs : List V) : Prop := ∃ a, v = .ref a ∧ H a = some (.tup xs)
theorem TupAt.same {H H' : Hp} {v : V} {xs : List V} (e : Same H H') (h : TupAt H v xs) : TupAt H' v xs := let ⟨a, r, q⟩ := h; ⟨a, r, e _ _ q⟩
theorem cat_go {K : PySem.W.Frag} {H : Hp} {a b : Addr} {xs ys : List V} {Q : VK} (ha : H a = some (.tup xs)) (hb : H b = some (.tup ys)) (hl : xs.length + ys.length ≤ sizeLine)
    (q : ∀ v H', Same H H' → TupAt H' v (xs ++ ys) → Q v H') : rCatA K (.ref a) (.ref b) H Q := by
  refine ⟨a, b, xs, ys, rfl, rfl, tT ha, tT hb, hl, fun e => ?_, fun _ e => ?_, fun _ _ p hp => ?_⟩
  · subst e
    exact q _ _ (Same.refl H) ⟨b, rfl, hb⟩
  · subst e
    exact q _ _ (Same.refl H) ⟨a, rfl, by rw [List.append_nil]; exact ha⟩
  · exact q _ _ (Same.new hp _) ⟨p, rfl, upd_same⟩
theorem Keep.upd {D : Addr} {H H' : Hp} (o : HO) (e : Keep D H H') : Keep D H (upd H' D o) := fun b u n h => by rw [upd_ne n]; exact e b u n h
theorem Keep.at {D : Addr} {H H' : Hp} (e : Keep D H H') {b : Addr} {o : HO} (n : b ≠ D) (h : H b = some o) : H' b = some o := e b o n h
/-- a comprehension over a list: what each turn makes, R, stays whatever the new list comes to hold -/
theorem lc_mapL {K : PySem.W.Frag} {a : Addr} {xs : List V} {g : TG} {tt : TT} {te : TE} {vs : List Nat} {σ : St} {H1 : Hp} {D : Addr} {Qd : Hp → Prop} (hD : H1 D = none) (hx : H1 a = some (.lst xs)) (hz : xs.length ≤ sizeLine) (R : Nat → Hp → V → Prop)
    (st : ∀ i H H' y l, H D = some (.lst l) → Keep D H H' → R i H y → R i H' y)
    (hs : ∀ i x H l (N : Hp → Prop), xs[i]? = some x → Same H1 H → H D = some (.lst l) →
      (∀ y H4, Keep D H H4 → H4 D = some (.lst l) → R i H4 y → ∃ acc, H4 D = some (.lst acc) ∧ acc.length < sizeLine ∧ N (upd H4 D (.lst (acc ++ [y])))) →
      g x (wipe σ vs) H fun σ2 H2 => wipe σ2 vs = wipe σ vs ∧ tt σ2 H2 fun b H3 => if b = true then te σ2 H3 fun y H4 => ∃ acc, H4 D = some (.lst acc) ∧ acc.length < sizeLine ∧ N (upd H4 D (.lst (acc ++ [y]))) else N H3)
    (hd : ∀ H ys, Same H1 H → H D = some (.lst ys) → ys.length = xs.length → (∀ i y, ys[i]? = some y → R i H y) → Qd H) :
    ∃ W : Nat → Nat → Hp → Prop, (∃ m, W 0 m (upd H1 D (.lst []))) ∧ ∀ i m H, W i m H →
      ((Itl K a).stop i H ∧ Qd H) ∨ ((Itl K a).go i H ∧ ∃ Nx : Hp → Prop, (∀ H', Nx H' → ∃ m', m' < m ∧ W (i + 1) m' H') ∧ ∀ x H', (Itl K a).yld i H x H' → g x (wipe σ vs) H' fun σ2 H2 => wipe σ2 vs = wipe σ vs ∧ tt σ2 H2 fun b H3 =>
        if b = true then te σ2 H3 fun y H4 => ∃ acc, H4 D = some (.lst acc) ∧ acc.length < sizeLine ∧ Nx (upd H4 D (.lst (acc ++ [y]))) else Nx H3) := by
  have same_of : ∀ {H : Hp}, Keep D H1 H → Same H1 H := fun e b o h => e b o (ne_of_none h hD) h
  refine lc_list (xs := xs) (fun i H => i ≤ xs.length ∧ Keep D H1 H ∧ ∃ ys, H D = some (.lst ys) ∧ ys.length = i ∧ ∀ j y, ys[j]? = some y → R j H y) ⟨Nat.zero_le _, Keep.upd _ Keep.refl, [], upd_same, rfl, fun j y e => by simp at e⟩
    (fun i H _ h => tL (h.2.1 _ _ (ne_of_none hx hD) hx)) (fun i x H ex h => ?_) (fun H h => ?_)
  · obtain ⟨hi, hk, ys, hy, hl, hr⟩ := h
    have lt : i < xs.length := (List.getElem?_eq_some_iff.mp ex).1
    refine hs i x H ys _ ex (same_of hk) hy fun y H4 k4 h4 r4 => ?_
    have k5 : Keep D H (upd H4 D (.lst (ys ++ [y]))) := k4.upd _
    refine ⟨ys, h4, by omega, by omega, hk.trans k5, ys ++ [y], upd_same, by simp [hl], fun j z ez => ?_⟩
    by_cases c : j < ys.length
    · rw [List.getElem?_append_left c] at ez
      exact st j _ _ z ys hy k5 (hr j z ez)
    · have cj : j = i := by
        have := (List.getElem?_eq_some_iff.mp ez).1
        simp at this
        omega
      subst cj
      rw [List.getElem?_append_right (by omega)] at ez
      have e0 : j - ys.length = 0 := by omega
      rw [e0] at ez
      cases ez
      exact st j _ _ y ys h4 (Keep.upd _ Keep.refl) r4
  · obtain ⟨hi, hk, ys, hy, hl, hr⟩ := h
    exact hd H ys (same_of hk) hy hl hr
/-- a comprehension over a tuple: what each turn makes, R, stays whatever the new list comes to hold -/
theorem lc_mapT {K : PySem.W.Frag} {a : Addr} {xs : List V} {g : TG} {tt : TT} {te : TE} {vs : List Nat} {σ : St} {H1 : Hp} {D : Addr} {Qd : Hp → Prop} (hD : H1 D = none) (hx : H1 a = some (.tup xs)) (hz : xs.length ≤ sizeLine) (R : Nat → Hp → V → Prop)
    (st : ∀ i H H' y l, H D = some (.lst l) → Keep D H H' → R i H y → R i H' y)
    (hs : ∀ i x H l (N : Hp → Prop), xs[i]? = some x → Same H1 H → H D = some (.lst l) →
      (∀ y H4, Keep D H H4 → H4 D = some (.lst l) → R i H4 y → ∃ acc, H4 D = some (.lst acc) ∧ acc.length < sizeLine ∧ N (upd H4 D (.lst (acc ++ [y])))) →
      g x (wipe σ vs) H fun σ2 H2 => wipe σ2 vs = wipe σ vs ∧ tt σ2 H2 fun b H3 => if b = true then te σ2 H3 fun y H4 => ∃ acc, H4 D = some (.lst acc) ∧ acc.length < sizeLine ∧ N (upd H4 D (.lst (acc ++ [y]))) else N H3)
    (hd : ∀ H ys, Same H1 H → H D = some (.lst ys) → ys.length = xs.length → (∀ i y, ys[i]? = some y → R i H y) → Qd H) :
    ∃ W : Nat → Nat → Hp → Prop, (∃ m, W 0 m (upd H1 D (.lst []))) ∧ ∀ i m H, W i m H →
      ((Itt K a).stop i H ∧ Qd H) ∨ ((Itt K a).go i H ∧ ∃ Nx : Hp → Prop, (∀ H', Nx H' → ∃ m', m' < m ∧ W (i + 1) m' H') ∧ ∀ x H', (Itt K a).yld i H x H' → g x (wipe σ vs) H' fun σ2 H2 => wipe σ2 vs = wipe σ vs ∧ tt σ2 H2 fun b H3 =>
        if b = true then te σ2 H3 fun y H4 => ∃ acc, H4 D = some (.lst acc) ∧ acc.length < sizeLine ∧ Nx (upd H4 D (.lst (acc ++ [y]))) else Nx H3) := by
  have same_of : ∀ {H : Hp}, Keep D H1 H → Same H1 H := fun e b o h => e b o (ne_of_none h hD) h
  refine lc_tup (xs := xs) (fun i H => i ≤ xs.length ∧ Keep D H1 H ∧ ∃ ys, H D = some (.lst ys) ∧ ys.length = i ∧ ∀ j y, ys[j]? = some y → R j H y) ⟨Nat.zero_le _, Keep.upd _ Keep.refl, [], upd_same, rfl, fun j y e => by simp at e⟩
    (fun i H _ h => tT (h.2.1 _ _ (ne_of_none hx hD) hx)) (fun i x H ex h => ?_) (fun H h => ?_)
  · obtain ⟨hi, hk, ys, hy, hl, hr⟩ := h
    have lt : i < xs.length := (List.getElem?_eq_some_iff.mp ex).1
    refine hs i x H ys _ ex (same_of hk) hy fun y H4 k4 h4 r4 => ?_
    have k5 : Keep D H (upd H4 D (.lst (ys ++ [y]))) := k4.upd _
    refine ⟨ys, h4, by omega, by omega, hk.trans k5, ys ++ [y], upd_same, by simp [hl], fun j z ez => ?_⟩
    by_cases c : j < ys.length
    · rw [List.getElem?_append_left c] at ez
      exact st j _ _ z ys hy k5 (hr j z ez)
    · have cj : j = i := by
        have := (List.getElem?_eq_some_iff.mp ez).1
        simp at this
        omega
      subst cj
      rw [List.getElem?_append_right (by omega)] at ez
      have e0 : j - ys.length = 0 := by omega
      rw [e0] at ez
      cases ez
      exact st j _ _ y ys h4 (Keep.upd _ Keep.refl) r4
  · obtain ⟨hi, hk, ys, hy, hl, hr⟩ := h
    exact hd H ys (same_of hk) hy hl hr

/-! ### arms -/
inductive Arm | mk (ws : List Arm) (l : Nat)
namespace Arm
def ws : Arm → List Arm | mk w _ => w
def l : Arm → Nat | mk _ i => i
end Arm
mutual
inductive ArmAt (H : Hp) : V → Arm → Prop
  | mk {a w : Addr} {xs : List V} {ws : List Arm} {l : Nat} (h : H a = some (.tup [.ref w, .int l])) (hw : H w = some (.tup xs)) (hs : ArmsAt H xs ws) : ArmAt H (.ref a) (.mk ws l)
inductive ArmsAt (H : Hp) : List V → List Arm → Prop
  | nil : ArmsAt H [] []
  | cons {x : V} {xs : List V} {a : Arm} {as : List Arm} (h : ArmAt H x a) (hs : ArmsAt H xs as) : ArmsAt H (x :: xs) (a :: as)
end
mutual
theorem ArmAt.move {H H' : Hp} (e : ∀ a xs, H a = some (.tup xs) → H' a = some (.tup xs)) : ∀ {v : V} {a : Arm}, ArmAt H v a → ArmAt H' v a
  | _, .mk ws l, .mk h hw hs => .mk (e _ _ h) (e _ _ hw) (ArmsAt.move e hs)
theorem ArmsAt.move {H H' : Hp} (e : ∀ a xs, H a = some (.tup xs) → H' a = some (.tup xs)) : ∀ {xs : List V} {as : List Arm}, ArmsAt H xs as → ArmsAt H' xs as
  | _, [], .nil => .nil
  | _, a :: as, .cons h hs => .cons (ArmAt.move e h) (ArmsAt.move e hs)
end
theorem ArmAt.same {H H' : Hp} (e : Same H H') {v : V} {a : Arm} (h : ArmAt H v a) : ArmAt H' v a := h.move fun a xs q => e _ _ q
theorem ArmsAt.same {H H' : Hp} (e : Same H H') {xs : List V} {as : List Arm} (h : ArmsAt H xs as) : ArmsAt H' xs as := h.move fun a xs q => e _ _ q
theorem ArmAt.keep {H H' : Hp} {a : Addr} {l : List V} (hp : H a = some (.lst l)) (e : Keep a H H') {v : V} {k : Arm} (h : ArmAt H v k) : ArmAt H' v k :=
  h.move fun b xs q => e b _ (fun z => by rw [z, hp] at q; cases q) q
theorem ArmsAt.length {H : Hp} : ∀ {xs : List V} {as : List Arm}, ArmsAt H xs as → xs.length = as.length
  | _, _, .nil => rfl
  | _, _, .cons _ hs => congrArg (· + 1) hs.length
theorem ArmsAt.app {H : Hp} : ∀ {xs ys : List V} {as bs : List Arm}, ArmsAt H xs as → ArmsAt H ys bs → ArmsAt H (xs ++ ys) (as ++ bs)
  | _, _, _, _, .nil, q => q
  | _, _, _, _, .cons h hs, q => .cons h (hs.app q)
theorem ArmsAt.get {H : Hp} : ∀ {xs : List V} {as : List Arm} {i : Nat} {x : V}, ArmsAt H xs as → xs[i]? = some x → ∃ a, as[i]? = some a ∧ ArmAt H x a
  | _, _, _, _, .nil, e => by simp at e
  | _, _, 0, _, .cons h hs, e => by simp at e; subst e; exact ⟨_, rfl, h⟩
  | _, _, i + 1, x, .cons h hs, e => by
    obtain ⟨a, h1, h2⟩ := ArmsAt.get (i := i) (x := x) hs (by simpa using e)
    exact ⟨a, by simpa using h1, h2⟩
theorem ArmsAt.of {H : Hp} : ∀ {xs : List V} {as : List Arm}, xs.length = as.length → (∀ (i : Nat) x, xs[i]? = some x → ∃ a, as[i]? = some a ∧ ArmAt H x a) → ArmsAt H xs as
  | [], [], _, _ => .nil
  | [], _ :: _, e, _ => by simp at e
  | _ :: _, [], e, _ => by simp at e
  | x :: xs, a :: as, e, h => by
    refine .cons ?_ (ArmsAt.of (by simpa using e) fun i y ey => ?_)
    · obtain ⟨b, h1, h2⟩ := h 0 x rfl
      cases h1
      exact h2
    · obtain ⟨b, h1, h2⟩ := h (i + 1) y (by simpa using ey)
      exact ⟨b, by simpa using h1, h2⟩
namespace Kd
def arms : Kd → List Arm
  | let_ i => [.mk [] i]
  | one => []
  | pair a b => a.arms ++ b.arms
  | fn a b => b.arms.map fun m => .mk (a.arms ++ m.ws) m.l
theorem arms_le : ∀ k : Kd, (k.arms.length : Int) ≤ k.signs
  | let_ i => by simp [arms, signs]
  | one => by simp [arms, signs]
  | pair a b => by
    have := arms_le a
    have := arms_le b
    simp only [arms, signs, List.length_append]
    omega
  | fn a b => by
    have h1 := arms_le a
    have h2 := arms_le b
    simp only [arms, signs, List.length_map]
    omega
end Kd
section
variable {P : Program} {w : World} {K : PySem.W.Frag} {mg : Str → Option Value} {base : Heap} {aDOUBLE : Addr}
theorem S_arms_of : FnScope ["kind", "ahead", "wants", "letter"] ["kind"] (defScope s_arms_of) := ⟨rfl, rfl, rfl, by decide +kernel, rfl, by decide +kernel, by decide +kernel⟩
def sp_arms_of (n : Nat) : Sp := fun vs H Q _ => ∃ (v : V) (k : Kd), vs = [v] ∧ At H v k ∧ k.depth ≤ n ∧ k.signs ≤ 60 ∧ ∀ v' H' xs, Same H H' → TupAt H' v' xs → ArmsAt H' xs k.arms → Q v' H'
theorem signs_pos (k : Kd) : 1 ≤ k.signs := by
  induction k <;> simp only [Kd.signs] <;> omega
/-- an arm has fewer wants than the kind has signs -/
theorem armlen : ∀ (k : Kd) {i : Nat} {m : Arm}, k.arms[i]? = some m → (m.ws.length : Int) ≤ k.signs
  | .let_ j, i, m, h => by
    cases i with
    | zero => simp [Kd.arms] at h; subst h; simp [Arm.ws, Kd.signs]
    | succ i => simp [Kd.arms] at h
  | .one, i, m, h => by simp [Kd.arms] at h
  | .pair a b, i, m, h => by
    have pa := signs_pos a
    have pb := signs_pos b
    simp only [Kd.arms] at h
    rw [List.getElem?_append] at h
    simp only [Kd.signs]
    split at h
    · have := armlen a h
      omega
    · have := armlen b h
      omega
  | .fn a b, i, m, h => by
    have la := a.arms_le
    simp only [Kd.arms, List.getElem?_map] at h
    cases q : b.arms[i]? with
    | none => rw [q] at h; simp at h
    | some x =>
      rw [q] at h
      have lb := armlen b q
      simp only [Option.map_some, Option.some.injEq] at h
      subst h
      show (((a.arms ++ x.ws).length : Nat) : Int) ≤ 1 + a.signs + b.signs
      rw [List.length_append]
      omega
theorem size1000 {n : Nat} (h : n ≤ 1000) : n ≤ sizeLine := Nat.le_of_lt (small1000 h)
theorem size2 : 2 ≤ sizeLine := size1000 (by omega)
theorem size1 : 1 ≤ sizeLine := size1000 (by omega)
theorem arms_step {n : Nat} {f : Addr} {fd : FuncData} (D_arms_of : FD K mg "arms_of" s_arms_of ["kind"] f fd) (T : Cs K mg aDOUBLE) (G_arms_of : FnOk P w K mg base CX0 n f fd ["kind"] (sp_arms_of n)) :
    FnOk P w K mg base CX0 (n + 1) f fd ["kind"] (sp_arms_of (n + 1)) := by
  refine D_arms_of.fn.ok S_arms_of (fun vs H Q E h => ?_) (fun cdv A outer s H vs Q E hr h => ?_)
  · obtain ⟨v, k, rfl, _⟩ := h
    rfl
  obtain ⟨v, k, rfl, hv, hd, hsg, q⟩ := h
  refine ⟨_, (pss_cons (ps_if (pt_cmpR op_eq (pe_ix ix_tup (pv 0) pe_int (fun _ _ => rfl)) pe_str (nomark _)) (pss_one (ps_ret (pe_tup (pa_cons (pe_tup (pa_cons (pe_tup pa_nil) (pa_cons (pe_ix ix_tup (pv 0) pe_int (fun _ _ => rfl)) pa_nil))) pa_nil)))) pss_nil)
    (pss_cons (ps_if (pt_cmpR op_eq (pe_ix ix_tup (pv 0) pe_int (fun _ _ => rfl)) pe_str (nomark _)) (pss_one (ps_ret (pe_tup pa_nil))) pss_nil)
    (pss_cons (ps_if (pt_cmpR op_eq (pe_ix ix_tup (pv 0) pe_int (fun _ _ => rfl)) pe_str (nomark _)) (pss_one (ps_ret (pe_op op_catA (pe_call G_arms_of hr rfl D_arms_of.m D_arms_of.fn.kp D_arms_of.b .nil pass0 (pa_cons (pe_ix ix_tup (pv 0) pe_int (fun _ _ => rfl)) pa_nil)) (pe_call G_arms_of hr rfl D_arms_of.m D_arms_of.fn.kp D_arms_of.b .nil pass0 (pa_cons (pe_ix ix_tup (pv 0) pe_int (fun _ _ => rfl)) pa_nil))))) pss_nil)
    (pss_cons (ps_set (i := 1) S_arms_of.nd rfl (Or.inr rfl) (pe_call G_arms_of hr rfl D_arms_of.m D_arms_of.fn.kp D_arms_of.b .nil pass0 (pa_cons (pe_ix ix_tup (pv 0) pe_int (fun _ _ => rfl)) pa_nil)))
    (pss_one (ps_ret (pe_callTy call_tuple_of (by rfl) T.z_tuple (by decide +kernel) (pa_cons (pe_lc (own := [("wants", 2), ("letter", 3)]) (g := (gTup K 2 (gCons (gName 2) (gCons (gName 3) gNil)))) (tt := tYes) (te := (tTup (tCons (tOp (rCatA K) (tVar 1) (tVar 2)) (tCons (tVar 3) tNil)))) (by rfl) S_arms_of.nd (pi_tup (pe_call G_arms_of hr rfl D_arms_of.m D_arms_of.fn.kp D_arms_of.b .nil pass0 (pa_cons (pe_ix ix_tup (pv 0) pe_int (fun _ _ => rfl)) pa_nil))) (blkOk_by (own := [("wants", 2), ("letter", 3)]) (N := ["kind", "ahead", "wants", "letter"]) (sc := defScope s_arms_of) (by decide +kernel)) (fun _ _ _ _ _ => (pg_tup rfl (pgs_cons (pg_name (i := 2) S_arms_of.nd rfl (Or.inl rfl)) (pgs_cons (pg_name (i := 3) S_arms_of.nd rfl (Or.inl rfl)) pgs_nil)))) (fun _ _ _ _ _ => pts_nil) (fun _ _ _ _ _ => (pe_tup (pa_cons (pe_op op_catA (pv 1) (pv 2)) (pa_cons (pv 3) pa_nil))))) pa_nil)))))))), ?_⟩
  cases hv with
  | @let_ a i h =>
    refine ⟨_, rfl, _, _, _, _, rfl, rfl, tT h, rfl, rfl, _, rfl, iteTe rfl ?_⟩
    refine ⟨size0, fun p hp => ⟨_, rfl, _, _, _, _, rfl, rfl, tT (Same.new hp _ _ _ h), rfl, size2, fun p2 hp2 => ⟨size1, fun p3 hp3 => ?_⟩⟩⟩
    refine q _ _ [.ref p2] ((Same.new hp _).trans ((Same.new hp2 _).trans (Same.new hp3 _))) ⟨p3, rfl, upd_same⟩ (.cons ?_ .nil)
    exact .mk (Same.new hp3 _ _ _ upd_same) (Same.new hp3 _ _ _ (Same.new hp2 _ _ _ upd_same)) .nil
  | one h =>
    refine ⟨_, rfl, _, _, _, _, rfl, rfl, tT h, rfl, rfl, _, rfl, iteFe (by decide +kernel) ?_⟩
    refine ⟨_, rfl, _, _, _, _, rfl, rfl, tT h, rfl, rfl, _, rfl, iteTe rfl ?_⟩
    exact ⟨size0, fun p hp => q _ _ [] (Same.new hp _) ⟨p, rfl, upd_same⟩ .nil⟩
  | @pair a x y k1 k2 h hx hy =>
    simp only [Kd.depth] at hd
    simp only [Kd.signs] at hsg
    have p1 := signs_pos k1
    have p2 := signs_pos k2
    have l1 := k1.arms_le
    have l2 := k2.arms_le
    refine ⟨_, rfl, _, _, _, _, rfl, rfl, tT h, rfl, rfl, _, rfl, iteFe (by decide +kernel) ?_⟩
    refine ⟨_, rfl, _, _, _, _, rfl, rfl, tT h, rfl, rfl, _, rfl, iteFe (by decide +kernel) ?_⟩
    refine ⟨_, rfl, _, _, _, _, rfl, rfl, tT h, rfl, rfl, _, rfl, iteTe rfl ?_⟩
    refine ⟨_, rfl, _, _, _, _, rfl, rfl, tT h, rfl, _, _, rfl, hx, by omega, by omega, fun v1 H1 xs1 e1 t1 a1 => ?_⟩
    refine ⟨_, rfl, _, _, _, _, rfl, rfl, tT (e1 _ _ h), rfl, _, _, rfl, hy.same e1, by omega, by omega, fun v2 H2 xs2 e2 t2 a2 => ?_⟩
    obtain ⟨b1, rfl, t1⟩ := t1
    obtain ⟨b2, rfl, t2⟩ := t2
    refine cat_go (e2 _ _ t1) t2 (size1000 (by rw [a1.length, a2.length]; omega)) fun v3 H3 e3 t3 => ?_
    exact q _ _ _ (e1.trans (e2.trans e3)) t3 ((a1.same (e2.trans e3)).app (a2.same e3))
  | @fn a x y k1 k2 h hx hy =>
    simp only [Kd.depth] at hd
    simp only [Kd.signs] at hsg
    have p1 := signs_pos k1
    have p2 := signs_pos k2
    have l1 := k1.arms_le
    have l2 := k2.arms_le
    refine ⟨_, rfl, _, _, _, _, rfl, rfl, tT h, rfl, rfl, _, rfl, iteFe (by decide +kernel) ?_⟩
    refine ⟨_, rfl, _, _, _, _, rfl, rfl, tT h, rfl, rfl, _, rfl, iteFe (by decide +kernel) ?_⟩
    refine ⟨_, rfl, _, _, _, _, rfl, rfl, tT h, rfl, rfl, _, rfl, iteFe (by decide +kernel) ?_⟩
    refine ⟨_, rfl, _, _, _, _, rfl, rfl, tT h, rfl, _, _, rfl, hx, by omega, by omega, fun v1 H1 xs1 e1 t1 a1 => ?_⟩
    refine ⟨_, rfl, _, _, _, _, rfl, rfl, tT (e1 _ _ h), rfl, _, _, rfl, hy.same e1, by omega, by omega, fun v2 H2 xs2 e2 t2 a2 => ?_⟩
    obtain ⟨b1, rfl, t1⟩ := t1
    obtain ⟨b2, rfl, t2⟩ := t2
    have l2' : xs2.length = k2.arms.length := a2.length
    refine ⟨b2, rfl, ⟨_, tT t2⟩, fun D hD => ?_⟩
    refine lc_mapT hD t2 (size1000 (by omega)) (fun i H y => ∃ m, k2.arms[i]? = some m ∧ ArmAt H y (.mk (k1.arms ++ m.ws) m.l)) (fun i Ha Hb y l hl k r => ?_) (fun i x Hc l N ex sm hl k => ?_) (fun Hd ys sm hl ll r => ?_)
    · obtain ⟨m, e, r⟩ := r
      exact ⟨m, e, r.keep hl k⟩
    · obtain ⟨m, em, am⟩ := a2.get ex
      have am := am.same sm
      cases am with
      | @mk a w xw ws lt h1 h2 h3 =>
        refine ⟨_, _, rfl, tT h1, rfl, _, _, rfl, _, _, rfl, rfl, rfl, ?_⟩
        have b1' := sm _ _ (e2 _ _ t1)
        refine ⟨_, rfl, _, rfl, ?_⟩
        refine cat_go b1' h2 (size1000 (by rw [a1.length, h3.length]; have := armlen k2 em; simp only [Arm.ws] at this; omega)) fun v3 H3 e3 t3 => ?_
        obtain ⟨b3, rfl, t3⟩ := t3
        refine ⟨_, rfl, size2, fun p hp => ?_⟩
        refine k _ _ (Keep.of (e3.trans (Same.new hp _))) (Same.new hp _ _ _ (e3 _ _ hl)) ⟨_, em, ?_⟩
        exact .mk upd_same (Same.new hp _ _ _ t3) (((a1.same (e2.trans sm)).same (e3.trans (Same.new hp _))).app (h3.same (e3.trans (Same.new hp _))))
    · refine ⟨D, ys, rfl, .inl ⟨tL hl, fun p hp => ?_⟩⟩
      refine q _ _ ys (e1.trans (e2.trans (sm.trans (Same.new hp _)))) ⟨p, rfl, upd_same⟩ ?_
      refine ArmsAt.of (by rw [ll, l2']; simp [Kd.arms]) fun i x ex => ?_
      obtain ⟨m, em, am⟩ := r i x ex
      exact ⟨_, by simp only [Kd.arms, List.getElem?_map, em, Option.map_some], am.same (Same.new hp _)⟩
theorem ok_arms_of {f : Addr} {fd : FuncData} (D : FD K mg "arms_of" s_arms_of ["kind"] f fd) (T : Cs K mg aDOUBLE) : ∀ n : Nat, FnOk P w K mg base CX0 n f fd ["kind"] (sp_arms_of n)
  | 0 => fn_none fun vs H Q E h => by
    obtain ⟨v, k, _, _, h, _⟩ := h
    have := k.depth_pos
    omega
  | n + 1 => arms_step D T (ok_arms_of D T n)
end
end T84

/-! e84 -/
namespace T84
open PySem L2
/-! ### sorted over data -/
open PySem.W in
def rSortedD (K : PySem.W.Frag) : List V → Hp → VK → Prop := fun xs H Q => ∃ (a : Addr) (ys : List V) (ds : List PyData), xs = [.ref a] ∧ SqL K H a ys ∧ DpAll K H ys ds ∧ AllAlike ds ∧ Sortable ds ∧ (∀ d, d ∈ ds → d.depth ≤ 60) ∧
  ∀ p, H p = none → Q (.ref p) (upd H p (.lst (((ys.zip ds).mergeSort (dataLe false Prod.snd)).map Prod.fst)))
open PySem.W in
theorem each_vals : ∀ {ys : List V} {its : List Value} {ds : List PyData}, Vals ys its → ys.length = ds.length → EachIs (fun (v : Value) (b : V × PyData) => RelV b.1 v) its (ys.zip ds)
  | [], _, [], .nil, _ => .nil
  | _ :: _, _, _ :: _, .cons r t, e => .cons r (each_vals t (by simpa using e))
  | [], _, _ :: _, _, e => by simp at e
  | _ :: _, _, [], _, e => by simp at e
open PySem.W in
theorem vals_each : ∀ {bs : List (V × PyData)} {its : List Value}, EachIs (fun (v : Value) (b : V × PyData) => RelV b.1 v) its bs → Vals (bs.map Prod.fst) its
  | _, _, .nil => .nil
  | _, _, .cons r t => .cons r (vals_each t)
theorem DpAll.length {K : PySem.W.Frag} {H : Hp} : ∀ {ys : List V} {ds : List PyData}, DpAll K H ys ds → ys.length = ds.length
  | _, _, .nil => rfl
  | _, _, .cons _ t => congrArg (· + 1) (DpAll.length t)
section
variable {X : Cx}
open PySem.W in
theorem each_reads {pins : List (Addr × Obj)} {σ : St} {H : Hp} {s : Shared} (I : Inv X pins σ H s) : ∀ {ys : List V} {its : List Value} {ds : List PyData}, Vals ys its → DpAll X.K H ys ds → EachIs (fun (v : Value) (b : V × PyData) => ∃ as, Reads s.heap v b.2 as) its (ys.zip ds)
  | [], _, _, .nil, .nil => .nil
  | _ :: _, _, _, .cons r t, .cons d td => .cons (Dp.reads I _ _ _ d r) (each_reads I t td)
open PySem.W in
theorem cr_sortedD (hu : X.A.units + 64 < cLine) : CallR X (.builtin "sorted") (rSortedD X.K) := by
  intro pins s σ H vs us Q I r h
  obtain ⟨a, ys, ds, rfl, hs, hd, hal, hso, hdp, q⟩ := h
  obtain ⟨its, rv, hl, hz⟩ := I.list hs
  rw [Vals.ref1 r]
  have elen : ys.length = ds.length := DpAll.length hd
  have em : (ys.zip ds).map Prod.snd = ds := by rw [List.map_snd_zip]; omega
  have lz : (ys.zip ds).length = ys.length := by rw [List.length_zip]; omega
  refine sorted_data (enc := Prod.snd) (bs := ys.zip ds) (vs := its) (R := fun v b => RelV b.1 v) hl.isList (each_vals rv elen) (each_reads I rv hd) (by rw [em]; exact hal) (by rw [em]; exact hso) (by rw [lz]; exact hz) (fun b hb => ?_) fun out ho er => ?_
  · have : b.2 ∈ ds := by
      rw [← em]
      exact List.mem_map.mpr ⟨b, hb, rfl⟩
    have := hdp _ this
    omega
  · obtain ⟨ep, he'⟩ := PyProof.Rows.sortedAll_at s.heap its out.toArray
    have hv := vals_each er
    have hlen : (((ys.zip ds).mergeSort (dataLe false Prod.snd)).map Prod.fst).length ≤ sizeLine := by
      rw [List.length_map, List.length_mergeSort, lz]
      exact hz
    exact ⟨.ref _, upd H (s.heap.objs.size + 1) (.lst (((ys.zip ds).mergeSort (dataLe false Prod.snd)).map Prod.fst)), I.laid (t' := s.toks) (fun _ _ => PyProof.Rows.sortedAll_old) (Nat.le_succ _) ⟨hlen, out, ep, hv, he'⟩, rfl, q _ (I.hok.fresh (Nat.le_succ _))⟩
end
end T84

/-! f84 -/
namespace T84
open PySem L2
abbrev s_settled : Stmt := top 33
abbrev s_canon_of : Stmt := top 34
namespace Arm
mutual
def data : Arm → PyData
  | mk ws l => .tuple [.tuple (dataAll ws), .int l]
def dataAll : List Arm → List PyData
  | [] => []
  | a :: as => data a :: dataAll as
end
mutual
def depth : Arm → Nat
  | mk ws _ => 1 + depthAll ws
def depthAll : List Arm → Nat
  | [] => 0
  | a :: as => max (depth a) (depthAll as)
end
mutual
/-- the size of what an arm tells -/
def size (e : Nat → Nat) : Arm → Nat
  | mk ws l => e l ^ sizeAll e ws
def sizeAll (e : Nat → Nat) : List Arm → Nat
  | [] => 1
  | a :: as => size e a * sizeAll e as
end
mutual
/-- all lists of wants are short -/
def Sm (m : Nat) : Arm → Prop
  | mk ws _ => ws.length ≤ m ∧ SmAll m ws
def SmAll (m : Nat) : List Arm → Prop
  | [] => True
  | a :: as => Sm m a ∧ SmAll m as
end
theorem dataAll_len : ∀ as : List Arm, (dataAll as).length = as.length
  | [] => rfl
  | a :: as => by rw [dataAll, List.length_cons, List.length_cons, dataAll_len as]
theorem mem_dataAll {d : PyData} : ∀ {as : List Arm}, d ∈ dataAll as → ∃ a, a ∈ as ∧ d = a.data
  | [], h => by simp [dataAll] at h
  | a :: as, h => by
    rw [dataAll, List.mem_cons] at h
    rcases h with rfl | h
    · exact ⟨a, List.mem_cons_self, rfl⟩
    · obtain ⟨b, hb, e⟩ := mem_dataAll h
      exact ⟨b, List.mem_cons_of_mem _ hb, e⟩
mutual
theorem alike_data : ∀ a b : Arm, PySem.W.alike a.data b.data = true
  | mk ws l, mk us m => by
    rw [data, data, PySem.W.alike, PySem.W.alikeAll, PySem.W.alike, alike_all ws us, PySem.W.alikeAll, PySem.W.alike, PySem.W.alikeAll]
    rfl
theorem alike_all : ∀ as bs : List Arm, PySem.W.alikeAll (dataAll as) (dataAll bs) = true
  | [], _ => by rw [dataAll, PySem.W.alikeAll]
  | a :: as, [] => by rw [dataAll, dataAll, PySem.W.alikeAll]
  | a :: as, b :: bs => by rw [dataAll, dataAll, PySem.W.alikeAll, alike_data a b, alike_all as bs]; rfl
end
mutual
theorem data_depth : ∀ a : Arm, a.data.depth ≤ 2 * a.depth
  | mk ws l => by
    have := all_depth ws
    simp only [data, depth, PyData.depth, PyData.depthAll]
    omega
theorem all_depth : ∀ as : List Arm, PyData.depthAll (dataAll as) ≤ 2 * depthAll as
  | [] => by simp [dataAll, PyData.depthAll]
  | a :: as => by
    have h1 := data_depth a
    have h2 := all_depth as
    simp only [dataAll, depthAll, PyData.depthAll]
    omega
end
mutual
theorem canLay : ∀ a : Arm, a.data.canLay0 = true
  | mk ws l => by simp only [data, PyData.canLay0, PyData.canLayAll0, canLayAll ws, Bool.and_true]
theorem canLayAll : ∀ as : List Arm, PyData.canLayAll0 (dataAll as) = true
  | [] => by simp only [dataAll, PyData.canLayAll0]
  | a :: as => by simp only [dataAll, PyData.canLayAll0, canLay a, canLayAll as, Bool.and_true]
end
theorem depth_mem {a : Arm} : ∀ {as : List Arm}, a ∈ as → a.depth ≤ depthAll as
  | b :: as, h => by
    rcases List.mem_cons.mp h with rfl | h
    · rw [depthAll]; omega
    · have := depth_mem h
      rw [depthAll]; omega
theorem depth_get {as : List Arm} {i : Nat} {a : Arm} (h : as[i]? = some a) : a.depth ≤ depthAll as := depth_mem (List.mem_of_getElem? h)
theorem Sm_get {m : Nat} {a : Arm} : ∀ {as : List Arm}, SmAll m as → a ∈ as → Sm m a
  | b :: as, s, h => by
    rw [SmAll] at s
    rcases List.mem_cons.mp h with rfl | h
    · exact s.1
    · exact Sm_get s.2 h
theorem SmAll_of {m : Nat} : ∀ {as : List Arm}, (∀ a, a ∈ as → Sm m a) → SmAll m as
  | [], _ => by rw [SmAll]; trivial
  | a :: as, h => by
    rw [SmAll]
    exact ⟨h a List.mem_cons_self, SmAll_of fun b hb => h b (List.mem_cons_of_mem _ hb)⟩
theorem depthAll_of {n : Nat} : ∀ {as : List Arm}, (∀ a, a ∈ as → a.depth ≤ n) → depthAll as ≤ n
  | [], _ => by rw [depthAll]; omega
  | a :: as, h => by
    have h1 := h a List.mem_cons_self
    have h2 := depthAll_of (n := n) (as := as) fun b hb => h b (List.mem_cons_of_mem _ hb)
    rw [depthAll]; omega
theorem size_perm {e : Nat → Nat} {as bs : List Arm} (h : as.Perm bs) : sizeAll e as = sizeAll e bs := by
  induction h with
  | nil => rfl
  | cons x _ ih => rw [sizeAll, sizeAll, ih]
  | swap x y l => rw [sizeAll, sizeAll, sizeAll, sizeAll, Nat.mul_left_comm]
  | trans _ _ i1 i2 => rw [i1, i2]
theorem size_app (e : Nat → Nat) : ∀ as bs : List Arm, sizeAll e (as ++ bs) = sizeAll e as * sizeAll e bs
  | [], bs => by rw [List.nil_append, sizeAll, Nat.one_mul]
  | a :: as, bs => by rw [List.cons_append, sizeAll, sizeAll, size_app e as bs, Nat.mul_assoc]
/-- what comes of settling -/
structure Set (n m : Nat) (a b : Arm) : Prop where
  l : b.l = a.l
  size : ∀ e, b.size e = a.size e
  depth : b.depth ≤ n
  sm : Sm m b
theorem size_all {n m : Nat} {e : Nat → Nat} : ∀ {as bs : List Arm}, as.length = bs.length → (∀ (i : Nat) a b, as[i]? = some a → bs[i]? = some b → Set n m a b) → sizeAll e bs = sizeAll e as
  | [], [], _, _ => rfl
  | a :: as, b :: bs, h, q => by
    rw [sizeAll, sizeAll, (q 0 a b rfl rfl).size e, size_all (by simpa using h) fun i x y ex ey => q (i + 1) x y (by simpa using ex) (by simpa using ey)]
  | [], _ :: _, h, _ => by simp at h
  | _ :: _, [], h, _ => by simp at h
end Arm
mutual
theorem ArmAt.dp {K : PySem.W.Frag} {H : Hp} : ∀ {v : V} {a : Arm}, ArmAt H v a → Dp K H v a.data
  | _, .mk ws l, .mk h hw hs => .tup (tT h) (.cons (.tup (tT hw) (ArmsAt.dp hs)) (.cons (.int _) .nil))
theorem ArmsAt.dp {K : PySem.W.Frag} {H : Hp} : ∀ {xs : List V} {as : List Arm}, ArmsAt H xs as → DpAll K H xs (Arm.dataAll as)
  | _, [], .nil => .nil
  | _, a :: as, .cons h hs => .cons (ArmAt.dp h) (ArmsAt.dp hs)
end
theorem ArmsAt.perm {H : Hp} {ys zs : List V} (h : zs.Perm ys) : ∀ {as : List Arm}, ArmsAt H ys as → ∃ bs, bs.Perm as ∧ ArmsAt H zs bs := by
  induction h with
  | nil => intro as q; exact ⟨as, .refl _, q⟩
  | cons x _ ih =>
    intro as q
    cases q with
    | cons q qs =>
      obtain ⟨bs, p, r⟩ := ih qs
      exact ⟨_, p.cons _, .cons q r⟩
  | swap x y l =>
    intro as q
    cases q with
    | cons q1 qs =>
      cases qs with
      | cons q2 qs => exact ⟨_, .swap _ _ _, .cons q2 (.cons q1 qs)⟩
  | trans _ _ i1 i2 =>
    intro as q
    obtain ⟨bs, p1, r1⟩ := i2 q
    obtain ⟨cs, p2, r2⟩ := i1 r1
    exact ⟨cs, p2.trans p1, r2⟩
open PySem.W in
theorem sort_perm {ys : List V} {ds : List PyData} (h : ys.length = ds.length) : (((ys.zip ds).mergeSort (dataLe false Prod.snd)).map Prod.fst).Perm ys := by
  have e : (ys.zip ds).map Prod.fst = ys := by rw [List.map_fst_zip]; omega
  have p := (List.mergeSort_perm (ys.zip ds) (dataLe false Prod.snd)).map Prod.fst
  rw [e] at p
  exact p
end T84

/-! g84 -/
namespace T84
open PySem L2
section
variable {P : Program} {w : World} {K : PySem.W.Frag} {mg : Str → Option Value} {base : Heap} {aDOUBLE : Addr}
theorem S_settled : FnScope ["arm", "want"] ["arm"] (defScope s_settled) := ⟨rfl, rfl, rfl, by decide +kernel, rfl, by decide +kernel, by decide +kernel⟩
def sp_settled (n : Nat) : Sp := fun vs H Q _ => ∃ (v : V) (a : Arm) (m : Nat), vs = [v] ∧ ArmAt H v a ∧ a.depth ≤ n ∧ n ≤ 20 ∧ a.Sm m ∧ m ≤ 60 ∧ ∀ v' H' b, Same H H' → ArmAt H' v' b → Arm.Set n m a b → Q v' H'
theorem armsdepth {as : List Arm} {n : Nat} (h : Arm.depthAll as ≤ n) (hn : n ≤ 20) : ∀ d, d ∈ Arm.dataAll as → d.depth ≤ 60 := fun d hd => by
  obtain ⟨a, ha, rfl⟩ := Arm.mem_dataAll hd
  have := Arm.depth_mem ha
  have := a.data_depth
  omega
theorem arms_alike (as : List Arm) : PySem.W.AllAlike (Arm.dataAll as) := fun d hd d' hd' => by
  obtain ⟨a, _, rfl⟩ := Arm.mem_dataAll hd
  obtain ⟨b, _, rfl⟩ := Arm.mem_dataAll hd'
  exact Arm.alike_data a b
theorem arms_sortable (as : List Arm) : PySem.W.Sortable (Arm.dataAll as) := .inl fun d hd => by
  obtain ⟨a, _, rfl⟩ := Arm.mem_dataAll hd
  cases a with
  | mk ws l => exact ⟨_, _, by rw [Arm.data]⟩
theorem arms_pick {H : Hp} {n m : Nat} : ∀ {ys : List V} {ws : List Arm}, ys.length = ws.length → (∀ (i : Nat) y, ys[i]? = some y → ∃ a b, ws[i]? = some a ∧ ArmAt H y b ∧ Arm.Set n m a b) →
    ∃ bs, ArmsAt H ys bs ∧ bs.length = ws.length ∧ (∀ b, b ∈ bs → b.depth ≤ n ∧ b.Sm m) ∧ ∀ e, Arm.sizeAll e bs = Arm.sizeAll e ws
  | [], [], _, _ => ⟨[], .nil, rfl, fun b h => by simp at h, fun e => rfl⟩
  | [], _ :: _, h, _ => by simp at h
  | _ :: _, [], h, _ => by simp at h
  | y :: ys, w :: ws, h, q => by
    obtain ⟨a, b, ea, hb, z⟩ := q 0 y rfl
    simp only [List.getElem?_cons_zero, Option.some.injEq] at ea
    subst ea
    obtain ⟨bs, h1, h2, h3, h4⟩ := arms_pick (ys := ys) (ws := ws) (by simpa using h) fun i x ex => by
      obtain ⟨a, b, ea, r⟩ := q (i + 1) x (by simpa using ex)
      exact ⟨a, b, by simpa using ea, r⟩
    refine ⟨b :: bs, .cons hb h1, by simp [h2], fun c hc => ?_, fun e => by rw [Arm.sizeAll, Arm.sizeAll, z.size, h4]⟩
    rcases List.mem_cons.mp hc with rfl | hc
    · exact ⟨z.depth, z.sm⟩
    · exact h3 c hc
theorem settled_step {n : Nat} {f : Addr} {fd : FuncData} (D_settled : FD K mg "settled" s_settled ["arm"] f fd) (T : Cs K mg aDOUBLE) (G_settled : FnOk P w K mg base CX0 n f fd ["arm"] (sp_settled n)) :
    FnOk P w K mg base CX0 (n + 1) f fd ["arm"] (sp_settled (n + 1)) := by
  refine D_settled.fn.ok S_settled (fun vs H Q E h => ?_) (fun cdv A outer s H vs Q E hr h => ?_)
  · obtain ⟨v, k, m, rfl, _⟩ := h
    rfl
  obtain ⟨v, arm, m, rfl, hv, hd, hn, hs, hm, q⟩ := h
  refine ⟨_, (pss_one (ps_ret (pe_tup (pa_cons (pe_callTy call_tuple_of (by rfl) T.z_tuple (by decide +kernel) (pa_cons (pe_callB (cr_sortedD hr.units) (by rfl) T.z_sorted (by decide +kernel) (pa_cons (pe_lc (own := [("want", 1)]) (g := (gName 1)) (tt := tYes) (te := (tCall _ [] _ (tCons (tVar 1) tNil))) (by rfl) S_settled.nd (pi_tup (pe_ix ix_tup (pv 0) pe_int (fun _ _ => rfl))) (blkOk_by (own := [("want", 1)]) (N := ["arm", "want"]) (sc := defScope s_settled) (by decide +kernel)) (fun _ _ _ _ _ => (pg_name (i := 1) S_settled.nd rfl (Or.inl rfl))) (fun _ _ _ _ _ => pts_nil) (fun _ _ _ _ _ => (pe_call G_settled hr rfl D_settled.m D_settled.fn.kp D_settled.b .nil pass0 (pa_cons (pv 1) pa_nil)))) pa_nil)) pa_nil)) (pa_cons (pe_ix ix_tup (pv 0) pe_int (fun _ _ => rfl)) pa_nil))))), ?_⟩
  cases hv with
  | @mk a wv xs ws l h hw ha =>
    rw [Arm.depth] at hd
    rw [Arm.Sm] at hs
    have hlen : xs.length ≤ sizeLine := size1000 (by rw [ha.length]; omega)
    refine ⟨_, rfl, _, _, _, _, rfl, rfl, tT h, rfl, wv, rfl, ⟨_, tT hw⟩, fun D hD => ?_⟩
    refine lc_mapT hD hw hlen (fun i H y => ∃ a b, ws[i]? = some a ∧ ArmAt H y b ∧ Arm.Set n m a b) (fun i Ha Hb y l hl k r => ?_) (fun i x Hc l N ex sm hl k => ?_) (fun Hd ys sm hl ll r => ?_)
    · obtain ⟨a, b, e, r, z⟩ := r
      exact ⟨a, b, e, r.keep hl k, z⟩
    · obtain ⟨a1, ea, aa⟩ := ha.get ex
      refine ⟨rfl, ?_⟩
      refine ⟨_, rfl, _, a1, m, rfl, aa.same sm, by have := Arm.depth_get ea; omega, by omega, Arm.Sm_get hs.2 (List.mem_of_getElem? ea), hm, fun v' H' b e2 hb z => ?_⟩
      exact k _ _ (Keep.of e2) (e2 _ _ hl) ⟨a1, b, ea, hb, z⟩
    · obtain ⟨bs, b1, b2, b3, b4⟩ := arms_pick (ll.trans ha.length) r
      have dl : Arm.depthAll bs ≤ n := Arm.depthAll_of fun b hb => (b3 b hb).1
      refine ⟨D, ys, _, rfl, tL hl, b1.dp, arms_alike bs, arms_sortable bs, armsdepth dl (by omega), fun p hp => ?_⟩
      have pm : (((ys.zip (Arm.dataAll bs)).mergeSort (PySem.W.dataLe false Prod.snd)).map Prod.fst).Perm ys := sort_perm (by rw [b1.length, Arm.dataAll_len])
      generalize ((ys.zip (Arm.dataAll bs)).mergeSort (PySem.W.dataLe false Prod.snd)).map Prod.fst = zs at pm
      obtain ⟨cs, c1, c2⟩ := b1.perm pm
      refine ⟨p, zs, rfl, .inl ⟨tL upd_same, fun p2 hp2 => ?_⟩⟩
      have e3 : Same H (upd (upd Hd p (.lst zs)) p2 (.tup zs)) := sm.trans ((Same.new hp _).trans (Same.new hp2 _))
      refine ⟨_, rfl, _, _, _, _, rfl, rfl, tT (e3 _ _ h), rfl, size2, fun p3 hp3 => ?_⟩
      refine q _ _ (.mk cs l) (e3.trans (Same.new hp3 _)) (.mk upd_same (Same.new hp3 _ _ _ upd_same) (((c2.same (Same.new hp _)).same (Same.new hp2 _)).same (Same.new hp3 _))) ⟨rfl, fun e => ?_, ?_, ?_⟩
      · rw [Arm.size, Arm.size, Arm.size_perm c1, b4]
      · have : Arm.depthAll cs ≤ n := Arm.depthAll_of fun b hb => (b3 b (c1.mem_iff.mp hb)).1
        rw [Arm.depth]
        omega
      · rw [Arm.Sm]
        refine ⟨by rw [c1.length_eq, b2]; exact hs.1, Arm.SmAll_of fun b hb => (b3 b (c1.mem_iff.mp hb)).2⟩
theorem ok_settled {f : Addr} {fd : FuncData} (D : FD K mg "settled" s_settled ["arm"] f fd) (T : Cs K mg aDOUBLE) : ∀ n : Nat, FnOk P w K mg base CX0 n f fd ["arm"] (sp_settled n)
  | 0 => fn_none fun vs H Q E h => by
    obtain ⟨v, k, m, _, _, h, _⟩ := h
    cases k with
    | mk ws l =>
      rw [Arm.depth] at h
      omega
  | n + 1 => settled_step D T (ok_settled D T n)
end
end T84

/-! h84 -/
namespace T84
open PySem L2
abbrev s_want_compared : Stmt := top 31
abbrev s_want_two : Stmt := top 32
abbrev s_are_alike_kinds : Stmt := top 35
namespace Arm
theorem depthAll_app (as bs : List Arm) : depthAll (as ++ bs) = max (depthAll as) (depthAll bs) := by
  induction as with
  | nil => rw [List.nil_append, depthAll]; omega
  | cons a as ih => rw [List.cons_append, depthAll, depthAll, ih]; omega
theorem SmAll_app {m : Nat} {as bs : List Arm} (h : SmAll m as) (q : SmAll m bs) : SmAll m (as ++ bs) := SmAll_of fun a ha => by
  rcases List.mem_append.mp ha with ha | ha
  · exact Sm_get h ha
  · exact Sm_get q ha
theorem size_fn (e : Nat → Nat) (as : List Arm) : ∀ bs : List Arm, sizeAll e (bs.map fun m => .mk (as ++ m.ws) m.l) = sizeAll e bs ^ sizeAll e as
  | [] => by rw [List.map_nil, sizeAll, Nat.one_pow]
  | .mk ws l :: bs => by
    rw [List.map_cons, sizeAll, sizeAll, size_fn e as bs, Nat.mul_pow]
    show size e (.mk (as ++ ws) l) * _ = size e (.mk ws l) ^ _ * _
    rw [size, size, size_app, ← Nat.pow_mul, Nat.mul_comm (sizeAll e ws)]
mutual
theorem data_eqv : ∀ a b : Arm, PyData.eqv a.data b.data = true → a = b
  | mk ws l, mk us m, h => by
    rw [data, data, PyData.eqv, PyData.eqvAll, PyData.eqv, PyData.eqvAll, PyData.eqv, PyData.eqvAll, Bool.and_true, Bool.and_eq_true, beq_iff_eq] at h
    rw [all_eqv ws us h.1, Int.ofNat.inj h.2]
theorem all_eqv : ∀ as bs : List Arm, PyData.eqvAll (dataAll as) (dataAll bs) = true → as = bs
  | [], [], _ => rfl
  | [], b :: bs, h => by rw [dataAll, dataAll, PyData.eqvAll] at h; cases h
  | a :: as, [], h => by rw [dataAll, dataAll, PyData.eqvAll] at h; cases h
  | a :: as, b :: bs, h => by
    rw [dataAll, dataAll, PyData.eqvAll, Bool.and_eq_true] at h
    rw [data_eqv a b h.1, all_eqv as bs h.2]
end
end Arm
namespace Kd
/-- the true size -/
def tsize (e : Nat → Nat) : Kd → Nat
  | let_ i => e i
  | one => 1
  | pair a b => a.tsize e * b.tsize e
  | fn a b => b.tsize e ^ a.tsize e
theorem arms_size (e : Nat → Nat) : ∀ k : Kd, Arm.sizeAll e k.arms = k.tsize e
  | let_ i => by rw [arms, Arm.sizeAll, Arm.sizeAll, Arm.size, Arm.sizeAll, tsize, Nat.pow_one, Nat.mul_one]
  | one => by rw [arms, Arm.sizeAll, tsize]
  | pair a b => by rw [arms, Arm.size_app, arms_size e a, arms_size e b, tsize]
  | fn a b => by rw [arms, Arm.size_fn, arms_size e a, arms_size e b, tsize]
theorem arms_depth : ∀ k : Kd, Arm.depthAll k.arms ≤ k.depth
  | let_ i => by simp [arms, Arm.depthAll, Arm.depth, depth]
  | one => by simp [arms, Arm.depthAll, depth]
  | pair a b => by
    have := arms_depth a
    have := arms_depth b
    rw [arms, Arm.depthAll_app, depth]
    omega
  | fn a b => by
    have h1 := arms_depth a
    have h2 := arms_depth b
    rw [arms, depth]
    refine Arm.depthAll_of fun x hx => ?_
    obtain ⟨m, hm, rfl⟩ := List.mem_map.mp hx
    have h3 := Arm.depth_mem hm
    cases m with
    | mk ws l =>
      rw [Arm.depth] at h3
      show (Arm.mk (a.arms ++ ws) l).depth ≤ _
      rw [Arm.depth, Arm.depthAll_app]
      omega
theorem arms_sm {m : Nat} : ∀ k : Kd, k.signs ≤ m → Arm.SmAll m k.arms
  | let_ i, _ => by simp [arms, Arm.SmAll, Arm.Sm]
  | one, _ => by simp [arms, Arm.SmAll]
  | pair a b, h => by
    have pa := signs_pos a
    have pb := signs_pos b
    rw [signs] at h
    rw [arms]
    exact Arm.SmAll_app (arms_sm a (by omega)) (arms_sm b (by omega))
  | fn a b, h => by
    have pa := signs_pos a
    have pb := signs_pos b
    have la := a.arms_le
    rw [signs] at h
    rw [arms]
    refine Arm.SmAll_of fun x hx => ?_
    obtain ⟨y, hy, rfl⟩ := List.mem_map.mp hx
    obtain ⟨i, hi⟩ := List.getElem?_of_mem hy
    have lb := armlen b hi
    have sb := Arm.Sm_get (arms_sm b (m := m) (by omega)) hy
    cases y with
    | mk ws l =>
      rw [Arm.Sm] at sb
      have lb : (ws.length : Int) ≤ b.signs := lb
      show Arm.Sm m (Arm.mk (a.arms ++ ws) l)
      rw [Arm.Sm, List.length_append]
      exact ⟨by omega, Arm.SmAll_app (arms_sm a (by omega)) sb.2⟩
end Kd
section
variable {P : Program} {w : World} {K : PySem.W.Frag} {mg : Str → Option Value} {base : Heap} {aDOUBLE : Addr}
/-! ### canon_of -/
theorem S_canon_of : FnScope ["kind", "arm"] ["kind"] (defScope s_canon_of) := ⟨rfl, rfl, rfl, by decide +kernel, rfl, by decide +kernel, by decide +kernel⟩
def sp_canon_of : Sp := fun vs H Q _ => ∃ (v : V) (k : Kd), vs = [v] ∧ At H v k ∧ k.depth ≤ 12 ∧ k.signs ≤ 60 ∧
  ∀ p H' zs cs, Same H H' → H' p = some (.lst zs) → ArmsAt H' zs cs → Arm.depthAll cs ≤ 12 → (∀ e, Arm.sizeAll e cs = k.tsize e) → Q (.ref p) H'
theorem ok_canon_of {f g h : Addr} {fd gd hd : FuncData} (D : FD K mg "canon_of" s_canon_of ["kind"] f fd) (D_arms_of : FD K mg "arms_of" s_arms_of ["kind"] g gd) (D_settled : FD K mg "settled" s_settled ["arm"] h hd) (T : Cs K mg aDOUBLE)
    (G_arms_of : FnOk P w K mg base CX0 12 g gd ["kind"] (sp_arms_of 12)) (G_settled : FnOk P w K mg base CX0 12 h hd ["arm"] (sp_settled 12)) : FnOk P w K mg base CX0 13 f fd ["kind"] sp_canon_of := by
  refine D.fn.ok S_canon_of (fun vs H Q E h => ?_) (fun cdv A outer s H vs Q E hr h => ?_)
  · obtain ⟨v, k, rfl, _⟩ := h
    rfl
  obtain ⟨v, k, rfl, hv, hd, hs, q⟩ := h
  refine ⟨_, (pss_one (ps_ret (pe_callB (cr_sortedD hr.units) (by rfl) T.z_sorted (by decide +kernel) (pa_cons (pe_lc (own := [("arm", 1)]) (g := (gName 1)) (tt := tYes) (te := (tCall _ [] _ (tCons (tVar 1) tNil))) (by rfl) S_canon_of.nd (pi_tup (pe_call G_arms_of hr rfl D_arms_of.m D_arms_of.fn.kp D_arms_of.b .nil pass0 (pa_cons (pv 0) pa_nil))) (blkOk_by (own := [("arm", 1)]) (N := ["kind", "arm"]) (sc := defScope s_canon_of) (by decide +kernel)) (fun _ _ _ _ _ => (pg_name (i := 1) S_canon_of.nd rfl (Or.inl rfl))) (fun _ _ _ _ _ => pts_nil) (fun _ _ _ _ _ => (pe_call G_settled hr rfl D_settled.m D_settled.fn.kp D_settled.b .nil pass0 (pa_cons (pv 1) pa_nil)))) pa_nil)))), ?_⟩
  refine ⟨_, rfl, v, k, rfl, hv, hd, hs, fun v1 H1 xs e1 t1 a1 => ?_⟩
  obtain ⟨b1, rfl, t1⟩ := t1
  have hl := k.arms_le
  refine ⟨b1, rfl, ⟨_, tT t1⟩, fun D hD => ?_⟩
  refine lc_mapT hD t1 (size1000 (by rw [a1.length]; omega)) (fun i H y => ∃ a b, k.arms[i]? = some a ∧ ArmAt H y b ∧ Arm.Set 12 60 a b) (fun i Ha Hb y l hl k r => ?_) (fun i x Hc l N ex sm hl kk => ?_) (fun Hd ys sm hl ll r => ?_)
  · obtain ⟨a, b, e, r, z⟩ := r
    exact ⟨a, b, e, r.keep hl k, z⟩
  · obtain ⟨m1, em, am⟩ := a1.get ex
    refine ⟨rfl, ?_⟩
    refine ⟨_, rfl, _, m1, 60, rfl, am.same sm, by have := Arm.depth_get em; have := k.arms_depth; omega, by omega, Arm.Sm_get (k.arms_sm (m := 60) (by omega)) (List.mem_of_getElem? em), by omega, fun v' H' b e2 hb z => ?_⟩
    exact kk _ _ (Keep.of e2) (e2 _ _ hl) ⟨m1, b, em, hb, z⟩
  · obtain ⟨bs, b1, b2, b3, b4⟩ := arms_pick (ll.trans a1.length) r
    have dl : Arm.depthAll bs ≤ 12 := Arm.depthAll_of fun b hb => (b3 b hb).1
    refine ⟨D, ys, _, rfl, tL hl, b1.dp, arms_alike bs, arms_sortable bs, armsdepth dl (by omega), fun p hp => ?_⟩
    have pm : (((ys.zip (Arm.dataAll bs)).mergeSort (PySem.W.dataLe false Prod.snd)).map Prod.fst).Perm ys := sort_perm (by rw [b1.length, Arm.dataAll_len])
    generalize ((ys.zip (Arm.dataAll bs)).mergeSort (PySem.W.dataLe false Prod.snd)).map Prod.fst = zs at pm
    obtain ⟨cs, c1, c2⟩ := b1.perm pm
    refine q p _ zs cs (e1.trans (sm.trans (Same.new hp _))) upd_same (c2.same (Same.new hp _)) (Arm.depthAll_of fun b hb => (b3 b (c1.mem_iff.mp hb)).1) fun e => ?_
    rw [Arm.size_perm c1, b4, k.arms_size]
/-! ### want_compared, want_two -/
theorem S_want_compared : FnScope ["kinds", "kind"] ["kinds"] (defScope s_want_compared) := ⟨rfl, rfl, rfl, by decide +kernel, rfl, by decide +kernel, by decide +kernel⟩
def sp_want_compared : Sp := fun vs H Q _ => ∃ (a : Addr) (x y : V) (k l : Kd), vs = [.ref a] ∧ H a = some (.lst [x, y]) ∧ At H x k ∧ At H y l ∧ k.depth ≤ 12 ∧ l.depth ≤ 12 ∧ k.signs ≤ 21 ∧ l.signs ≤ 21 ∧ ∀ H', Same H H' → Q .non H'
theorem ok_want_compared {f g h i : Addr} {fd gd hd id_ : FuncData} (D : FD K mg "want_compared" s_want_compared ["kinds"] f fd) (D_is_pure_of : FD K mg "is_pure_of" s_is_pure_of ["kind"] g gd) (D_signs_of : FD K mg "signs_of" s_signs_of ["kind"] h hd)
    (D_want_at_most : FD K mg "want_at_most" s_want_at_most ["what", "limit", "number"] i id_) (T : Cs K mg aDOUBLE)
    (G_is_pure_of : FnOk P w K mg base CX0 12 g gd ["kind"] (sp_is_pure_of 12)) (G_signs_of : FnOk P w K mg base CX0 12 h hd ["kind"] (sp_signs_of 12)) (G_want_at_most : FnOk P w K mg base CX0 1 i id_ ["what", "limit", "number"] sp_want_at_most) :
    FnOk P w K mg base CX0 13 f fd ["kinds"] sp_want_compared := by
  refine D.fn.ok S_want_compared (fun vs H Q E h => ?_) (fun cdv A outer s H vs Q E hr h => ?_)
  · obtain ⟨a, x, y, k, l, rfl, _⟩ := h
    rfl
  obtain ⟨a, x, y, k, l, rfl, ha, hx, hy, dk, dl, sk, sl, q⟩ := h
  refine ⟨_, (pss_cons (ps_if (pt_not (pt_val (pe_callB (cr_all rfl) (by rfl) T.z_all (by decide +kernel) (pa_cons (pe_lc (own := [("kind", 1)]) (g := (gName 1)) (tt := tYes) (te := (tCall _ [] _ (tCons (tVar 1) tNil))) (by rfl) S_want_compared.nd (pi_list (pv 0)) (blkOk_by (own := [("kind", 1)]) (N := ["kinds", "kind"]) (sc := defScope s_want_compared) (by decide +kernel)) (fun _ _ _ _ _ => (pg_name (i := 1) S_want_compared.nd rfl (Or.inl rfl))) (fun _ _ _ _ _ => pts_nil) (fun _ _ _ _ _ => (pe_call G_is_pure_of hr rfl D_is_pure_of.m D_is_pure_of.fn.kp D_is_pure_of.b .nil pass0 (pa_cons (pv 1) pa_nil)))) pa_nil)))) (pss_one ps_never) pss_nil)
    (pss_one (ps_for PassesOwn.never rfl (pi_list (pv 0)) (pg_name (i := 1) S_want_compared.nd rfl (Or.inl rfl)) (pss_one (ps_expr (pe_call G_want_at_most (hr.mono (by omega)) rfl D_want_at_most.m D_want_at_most.fn.kp D_want_at_most.b .nil pass0 (pa_cons pe_str (pa_cons (pe_gi T.MOST_COMPARED) (pa_cons (pe_call G_signs_of hr rfl D_signs_of.m D_signs_of.fn.kp D_signs_of.b .nil pass0 (pa_cons (pv 1) pa_nil)) pa_nil))))))))), ?_⟩
  have each : ∀ {H1 : Hp} (i : Nat) z, Same H H1 → [x, y][i]? = some z → ∃ m : Kd, At H1 z m ∧ m.depth ≤ 12 ∧ m.signs ≤ 21 := fun i z e ez => by
    match i, ez with
    | 0, ez => cases ez; exact ⟨k, hx.same e, dk, sk⟩
    | 1, ez => cases ez; exact ⟨l, hy.same e, dl, sl⟩
    | i + 2, ez => simp at ez
  refine ⟨_, rfl, a, rfl, ⟨_, tL ha⟩, fun D hD => ?_⟩
  refine lc_mapL hD ha (by show 2 ≤ sizeLine; exact size2) (fun i H y => y = .bl true) (fun i Ha Hb y l hl k r => r) (fun i x Hc l N ex sm hl kk => ?_) (fun Hd ys sm hl ll r => ?_)
  · obtain ⟨m, hm, dm, _⟩ := each i x sm ex
    refine ⟨rfl, ?_⟩
    exact ⟨_, rfl, _, m, rfl, hm, dm, kk _ _ Keep.refl hl rfl⟩
  · have ey : ys = [true, true].map V.bl := by
      match ys, ll, r with
      | [u, v], _, r =>
        have h1 := r 0 u rfl
        have h2 := r 1 v rfl
        rw [h1, h2]
        rfl
    subst ey
    refine ⟨D, [true, true], rfl, tL hl, true, rfl, iteF ?_⟩
    refine ⟨_, rfl, a, rfl, ⟨_, tL (sm _ _ ha)⟩, ?_⟩
    refine for_list (xs := [x, y]) (fun i σ H' => Same H H' ∧ σ[0]? = some (some (.ref a)) ∧ σ.length = 2) ⟨sm, rfl, rfl⟩ (fun i σ H' _ h => tL (h.1 _ _ ha)) (fun i z σ H' ez h => ?_) (fun σ H' h => q H' h.1)
    obtain ⟨e, s0, s1⟩ := h
    obtain ⟨m, hm, dm, sgm⟩ := each i z e ez
    match σ, s0, s1 with
    | [u, v], s0, _ =>
      refine ⟨_, rfl, _, m, rfl, hm, dm, _, 21, _, rfl, sgm, ?_⟩
      exact ⟨e, s0, rfl⟩
theorem S_want_two : FnScope ["kind", "other"] ["kind", "other"] (defScope s_want_two) := ⟨rfl, rfl, rfl, by decide +kernel, rfl, by decide +kernel, by decide +kernel⟩
/-- two kinds that may be compared -/
structure Two (k l : Kd) : Prop where
  g : Good k
  h : Good l
  s : k.signs ≤ 21
  t : l.signs ≤ 21
def sp_want_two : Sp := fun vs H Q _ => ∃ (x y : V) (k l : Kd), vs = [x, y] ∧ At H x k ∧ At H y l ∧ Two k l ∧ ∀ H', Same H H' → Q .non H'
theorem ok_want_two {f g h : Addr} {fd gd hd : FuncData} (D : FD K mg "want_two" s_want_two ["kind", "other"] f fd) (D_want_kind : FD K mg "want_kind" s_want_kind ["value"] g gd) (D_want_compared : FD K mg "want_compared" s_want_compared ["kinds"] h hd)
    (G_want_kind : FnOk P w K mg base CX0 16 g gd ["value"] sp_want_kind) (G_want_compared : FnOk P w K mg base CX0 13 h hd ["kinds"] sp_want_compared) : FnOk P w K mg base CX0 17 f fd ["kind", "other"] sp_want_two := by
  refine D.fn.ok S_want_two (fun vs H Q E h => ?_) (fun cdv A outer s H vs Q E hr h => ?_)
  · obtain ⟨x, y, k, l, rfl, _⟩ := h
    rfl
  obtain ⟨x, y, k, l, rfl, hx, hy, t, q⟩ := h
  refine ⟨_, (pss_cons (ps_expr (pe_call G_want_kind hr rfl D_want_kind.m D_want_kind.fn.kp D_want_kind.b .nil pass0 (pa_cons (pv 0) pa_nil)))
    (pss_cons (ps_expr (pe_call G_want_kind hr rfl D_want_kind.m D_want_kind.fn.kp D_want_kind.b .nil pass0 (pa_cons (pv 1) pa_nil)))
    (pss_one (ps_expr (pe_call G_want_compared (hr.mono (by omega)) rfl D_want_compared.m D_want_compared.fn.kp D_want_compared.b .nil pass0 (pa_cons (pe_lst (pa_cons (pv 0) (pa_cons (pv 1) pa_nil))) pa_nil)))))), ?_⟩
  refine ⟨_, rfl, x, k, rfl, hx, t.g, fun H1 e1 => ?_⟩
  refine ⟨_, rfl, y, l, rfl, hy.same e1, t.h, fun H2 e2 => ?_⟩
  refine ⟨_, rfl, _, rfl, size2, fun p hp => ?_⟩
  have e3 := e1.trans (e2.trans (Same.new hp (.lst [x, y])))
  exact ⟨p, x, y, k, l, rfl, upd_same, hx.same e3, hy.same e3, t.g.d, t.h.d, t.s, t.t, fun H4 e4 => q _ (e3.trans e4)⟩
theorem S_are_alike_kinds : FnScope ["kind", "other"] ["kind", "other"] (defScope s_are_alike_kinds) := ⟨rfl, rfl, rfl, by decide +kernel, rfl, by decide +kernel, by decide +kernel⟩
def sp_are_alike_kinds : Sp := fun vs H Q _ => ∃ (x y : V) (k l : Kd), vs = [x, y] ∧ At H x k ∧ At H y l ∧ Two k l ∧ ∀ b H', Same H H' → (b = true → ∀ e, k.tsize e = l.tsize e) → Q (.bl b) H'
theorem lst_shaped {cs : List Arm} (h : Arm.depthAll cs ≤ 12) : SeqAt.shaped (.list (Arm.dataAll cs)) = true := by
  unfold SeqAt.shaped
  have h1 := Arm.all_depth cs
  rw [PyData.canLay0, Arm.canLayAll, Bool.true_and, PyData.depth]
  exact decide_eq_true (by omega)
theorem ok_are_alike_kinds {f g h : Addr} {fd gd hd : FuncData} (D : FD K mg "are_alike_kinds" s_are_alike_kinds ["kind", "other"] f fd) (D_want_two : FD K mg "want_two" s_want_two ["kind", "other"] g gd) (D_canon_of : FD K mg "canon_of" s_canon_of ["kind"] h hd)
    (G_want_two : FnOk P w K mg base CX0 17 g gd ["kind", "other"] sp_want_two) (G_canon_of : FnOk P w K mg base CX0 13 h hd ["kind"] sp_canon_of) : FnOk P w K mg base CX0 18 f fd ["kind", "other"] sp_are_alike_kinds := by
  refine D.fn.ok S_are_alike_kinds (fun vs H Q E h => ?_) (fun cdv A outer s H vs Q E hr h => ?_)
  · obtain ⟨x, y, k, l, rfl, _⟩ := h
    rfl
  obtain ⟨x, y, k, l, rfl, hx, hy, t, q⟩ := h
  refine ⟨_, (pss_cons (ps_expr (pe_call G_want_two hr rfl D_want_two.m D_want_two.fn.kp D_want_two.b .nil pass0 (pa_cons (pv 0) (pa_cons (pv 1) pa_nil))))
    (pss_one (ps_ret (pe_cmpR (op_eqD hr.units) (pe_call G_canon_of (hr.mono (by omega)) rfl D_canon_of.m D_canon_of.fn.kp D_canon_of.b .nil pass0 (pa_cons (pv 0) pa_nil)) (pe_call G_canon_of (hr.mono (by omega)) rfl D_canon_of.m D_canon_of.fn.kp D_canon_of.b .nil pass0 (pa_cons (pv 1) pa_nil)) (nomark _))))), ?_⟩
  refine ⟨_, rfl, _, rfl, x, y, k, l, rfl, hx, hy, t, fun H1 e1 => ?_⟩
  refine ⟨_, rfl, x, k, rfl, hx.same e1, t.g.d, t.g.s, fun p1 H2 zs cs e2 l1 a1 d1 z1 => ?_⟩
  refine ⟨_, rfl, y, l, rfl, hy.same (e1.trans e2), t.h.d, t.h.s, fun p2 H3 us ds e3 l2 a2 d2 z2 => ?_⟩
  refine ⟨_, _, .lst (tL (e3 _ _ l1)) (a1.same e3).dp, .lst (tL l2) a2.dp, lst_shaped d1, lst_shaped d2, ?_⟩
  refine q _ _ (e1.trans (e2.trans e3)) fun hb e => ?_
  rw [PyData.eqv] at hb
  have ec := Arm.all_eqv _ _ hb
  rw [← z1 e, ← z2 e, ec]
end
end T84

/-! i84 -/
namespace PySem
namespace X84
open PySem.W PySem.Calls PyProof.Rows PySem.HandSPX Builtin Builtin.ObjectAttr
/-- what a store on an instance asks of its class's line -/
structure Line (l : List Value) : Prop where
  ne : l.isEmpty = false
  ob : l.contains (.type "object") = true
  pass : ∀ z : Value, refuseLoop z "__setattr__" l = pure ()
theorem Line.more {c : Addr} {l : List Value} (h : Line l) : Line (.ref c :: l) :=
  ⟨rfl, by rw [List.contains_cons, h.ob, Bool.or_true], fun z => by rw [refuseLoop_ref]; exact h.pass z⟩
abbrev aeLine : List Value := [.type "ArithmeticError", .type "Exception", .type "BaseException", .type "object"]
theorem line_AE : Line aeLine := ⟨rfl, by decide +kernel, fun z => F.store_ArithmeticError.passes z⟩
section
variable {P : Program} {w : World} {A : Around} {R : Result → Shared → Prop} {h0 : Heap} {gs : Array GenState} {dr : Drawn} {n : Nat} {os : OsState}
/-- the first field of an exception -/
theorem osa_first {K : W.Frag} {f : Str} {tk : Tok} {v : Value} {e C : Addr} {vs : Array Value} {c : ClassData} (X : K.In h0) (he : h0.get? e = some { cls := .ref C, data := .fields vs })
    (hc : W.clsIn K C = some c) (hl : Line c.mro) (hdc : c.hasDict = true) (hf : W.findIn K (.ref C) f = some none)
    (hq : ∀ h1 n1 d, (∀ b o, b ≠ e → h0.get? b = some o → h1.get? b = some o) → h0.objs.size ≤ d → d ≠ e → h1.get? e = some { cls := .ref C, dict := some d, data := .fields vs } →
      h1.Ns1 d (fun y => if y = f then some v else none) → R (.ok (.ret .none)) ⟨h1, gs, dr, n1, os⟩) :
    codeAny (model P w) A (.call (.builtin "object.__setattr__") ⟨[.ref e, .str f tk, v], []⟩) R ⟨h0, gs, dr, n, os⟩ := by
  have J : W.InstAt h0 e { cls := .ref C, data := .fields vs } C none := ⟨he, rfl, rfl, trivial⟩
  have so := F.store_object
  have ns : e ≠ h0.objs.size := Nat.ne_of_lt (Heap.lt_size he)
  have sb : W.Looks (model P w) h0 (isInstance (.ref e) (.type "object")) true := J.type.andThen (W.looks_mroIn X (by unfold W.mroIn; rw [hc, Option.bind_some, if_neg (by rw [hl.ne]; decide), hl.ob]))
  refine codeAny_call_builtin so.slot.plain so.entry (@W.check_slot (model P w) _ _ ⟨h0, gs, dr, n, os⟩ "object.__setattr__" "object" "__setattr__" (.ref e) [.str f tk, v] [] _ so.kind so.split sb (so.args (.ref e) (.str f tk) v) ?_)
  have lm : W.Looks (model P w) h0 (mroOf (.ref C)) c.mro := (W.looks_clsIn X hc).andThen .now
  have lt : W.Looks (model P w) h0 (storeTaker? none) none := .now
  have lc : W.Looks (model P w) h0 (classData C) c := W.looks_clsIn X hc
  rw [W.osa_eq, refuse_eq]
  refine wpAny_bind (wpAny_bind (J.type.at (wpAny_bind (lm.at ?_))))
  rw [hl.pass]
  refine wpAny_pure (wpAny_bind (J.type.at (wpAny_bind ((W.looks_findIn X hf).at (wpAny_bind (lt.at ?_))))))
  show wpAny _ _ (storeInOwnDict (.ref e) (.ref C) (.str f tk) f v false) _ _ _
  obtain ⟨x1, x2, x3, x4, x5, hd, x7, x8, x9, x10, x11⟩ := c
  dsimp only at hdc
  subst hdc
  unfold storeInOwnDict ownDictForStores
  repeat (first | with_reducible refine store_in_new ?_ ?_ | with_reducible refine wpAny_loadPart_at he ?_ | with_reducible refine lc.at ?_ | wp_step)
  · exact ⟨_, #[], _, (Heap.get?_update_ne _ _ _ _ ns.symm).trans (Heap.get?_push_at rfl rfl), rfl, fun z hz => absurd hz (by simp), fun _ => rfl⟩
  · intro h1 n1 hn hs
    have he1 : (h0.push { cls := .type "dict", data := .dict #[] }).get? e = some { cls := .ref C, data := .fields vs } := Heap.get?_push_of_some _ he
    refine hq h1 n1 h0.objs.size (fun b o hb ho => ?_) (Nat.le_refl _) ns.symm ?_ hn
    · exact (hs.2 b (Nat.ne_of_lt (Heap.lt_size ho))).trans ((Heap.get?_update_ne _ _ _ _ hb).trans (Heap.get?_push_of_some _ ho))
    · exact (hs.2 e ns).trans (Heap.get?_update_self _ he1 rfl)
/-- a further field -/
theorem osa_next {K : W.Frag} {f : Str} {tk : Tok} {v : Value} {e C d : Addr} {vs : Array Value} {c : ClassData} {m : Str → Option Value} {nl : List Str} (X : K.In h0) (he : h0.get? e = some { cls := .ref C, dict := some d, data := .fields vs })
    (hns : h0.Ns1 d m) (hw : Within m nl) (hz : nl.length ≤ 1000) (hc : W.clsIn K C = some c) (hl : Line c.mro) (hdc : c.hasDict = true) (hf : W.findIn K (.ref C) f = some none)
    (hq : ∀ h1 n1, (∀ b o, b ≠ d → h0.get? b = some o → h1.get? b = some o) → h1.Ns1 d (fun y => if y = f then some v else m y) → R (.ok (.ret .none)) ⟨h1, gs, dr, n1, os⟩) :
    codeAny (model P w) A (.call (.builtin "object.__setattr__") ⟨[.ref e, .str f tk, v], []⟩) R ⟨h0, gs, dr, n, os⟩ := by
  obtain ⟨od, y1, y2, hod, y3, _⟩ := hns.count hw
  have J : W.InstAt h0 e { cls := .ref C, dict := some d, data := .fields vs } C (some od) := ⟨he, rfl, rfl, hod⟩
  have so := F.store_object
  have sb : W.Looks (model P w) h0 (isInstance (.ref e) (.type "object")) true := J.type.andThen (W.looks_mroIn X (by unfold W.mroIn; rw [hc, Option.bind_some, if_neg (by rw [hl.ne]; decide), hl.ob]))
  refine codeAny_call_builtin so.slot.plain so.entry (@W.check_slot (model P w) _ _ ⟨h0, gs, dr, n, os⟩ "object.__setattr__" "object" "__setattr__" (.ref e) [.str f tk, v] [] _ so.kind so.split sb (so.args (.ref e) (.str f tk) v) ?_)
  have lm : W.Looks (model P w) h0 (mroOf (.ref C)) c.mro := (W.looks_clsIn X hc).andThen .now
  have lt : W.Looks (model P w) h0 (storeTaker? none) none := .now
  have lc : W.Looks (model P w) h0 (classData C) c := W.looks_clsIn X hc
  rw [W.osa_eq, refuse_eq]
  refine wpAny_bind (wpAny_bind (J.type.at (wpAny_bind (lm.at ?_))))
  rw [hl.pass]
  refine wpAny_pure (wpAny_bind (J.type.at (wpAny_bind ((W.looks_findIn X hf).at (wpAny_bind (lt.at ?_))))))
  show wpAny _ _ (storeInOwnDict (.ref e) (.ref C) (.str f tk) f v false) _ _ _
  obtain ⟨x1, x2, x3, x4, x5, hd, x7, x8, x9, x10, x11⟩ := c
  dsimp only at hdc
  subst hdc
  unfold storeInOwnDict ownDictForStores
  repeat (first | with_reducible refine PySem.OEX.store_in_old hns hw hz ?_ | with_reducible refine wpAny_loadPart_at he ?_ | with_reducible refine lc.at ?_ | wp_step)
  intro h1 n1 hn hs
  exact hq h1 n1 (fun b o hb ho => (hs.2 b hb).trans ho) hn
end
end X84
end PySem
namespace T84
open PySem L2
/-- the written part of an own exception class over ArithmeticError, with a dict -/
structure AxC (K : PySem.W.Frag) (C : Addr) : Prop where
  cls : ∃ nm q N bs bm sn sub ab col dd k0 k1 k2 k3 k5, K.lookup C = some (excClassObj nm q C N bs bm true sn sub ab col dd k0 k1 k2 k3 k5 "ArithmeticError.__new__") ∧ PySem.X84.Line bm ∧ ∀ Y : String, bm.contains (.type Y) = PySem.X84.aeLine.contains (.type Y)
  sa : PySem.W.findIn K (.ref C) "__setattr__" = some (some (.builtin "object.__setattr__"))
  exC : PySem.W.subIn K (.ref C) (.type "BaseException") = some true
  tyC : PySem.W.typeIn K (.ref C) = some (.type "type")
  kC : PySem.W.keepIn K (.ref C) = true
section
variable {X : Cx} {pins : List (Addr × Obj)} {σ : St} {H : Hp} {s : Shared} {a C dx : Addr} {f : Str} {y : V} {u : Value} {fs : List (Str × V)} {Q : Unit → Shared → Prop} {E : Value → Shared → Prop} {A : Around}
theorem AxC.cd (T : AxC X.K C) : ∃ c, PySem.W.clsIn X.K C = some c ∧ PySem.X84.Line c.mro ∧ c.hasDict = true := by
  obtain ⟨nm, q, N, bs, bm, sn, sub, ab, col, dd, k0, k1, k2, k3, k5, hC, hl, _⟩ := T.cls
  have e : PySem.W.clsIn X.K C = some { name := nm, bases := bs, mro := .ref C :: bm, ns := N, qualname := q, hasDict := true, slotNames := sn, subclasses := sub, abstract := ab, collection := col, hasDel := false } := by unfold PySem.W.clsIn; rw [hC] <;> rfl
  exact ⟨_, e, hl.more, rfl⟩
/-- self.f = y, on an exception that has no dict yet -/
theorem st_first (T : AxC X.K C) (I : Inv X pins σ H s) (e : H a = some (exo a C none)) (hno : PySem.W.findIn X.K (.ref C) f = some none) (ry : RelV y u)
    (h : ∀ d s1, H d = none → d ≠ a → Inv X pins σ (upd (upd H d (exd d [(f, y)])) a (exo a C (some d))) s1 → Q () s1) : wpAny (model X.prog X.w) A (setAttr (.ref a) f u) Q E s := by
  obtain ⟨c, hc, hl, hdc⟩ := T.cd
  obtain ⟨t1, ho⟩ := exo_at I.hok e
  obtain ⟨hp, g, d0, t, os⟩ := s
  refine PySem.W.set_plain I.kIn (ox := { cls := .ref C, dict := none, data := .fields #[.ref t1, .none, .none, .none, .bool false, .none] }) (od := none) ⟨ho, rfl, rfl, trivial⟩ T.sa ?_
  refine PySem.X84.osa_first I.kIn ho hc hl hdc hno (fun h1 n1 d k dn dne hx hn => ?_)
  have hd0 : H d = none := I.hok.fresh dn
  have n1' : ∀ {b : Addr} {o : Obj}, hp.get? b = some o → b ≠ d := fun {b o} z => Nat.ne_of_lt (Nat.lt_of_lt_of_le (Heap.lt_size z) dn)
  have n2' : ∀ {b : Addr}, H b = none → b ≠ a := fun {b} z q => by
    rw [q, e] at z
    cases z
  have U : Un X.fs [] H (upd (upd H d (exd d [(f, y)])) a (exo a C (some d))) hp h1 := {
    keep := fun b o z n _ _ => k b o (n2' n) z
    slot := fun b o z n _ _ => ⟨o.slots, k b o (n2' n) z⟩
    free := fun b o z n _ => by rw [upd_ne (n2' n), upd_ne (n1' z)]; exact n
    there := fun b o z _ => by
      by_cases hb : b = a
      · exact ⟨_, by rw [hb]; exact hx⟩
      · exact ⟨o, k b o hb z⟩
    tups := fun b xs z => by rw [upd_ne (at_ne e z exo_tup), upd_ne (ne_of_none z hd0)]; exact z
    frzs := fun b o v z => by rw [upd_ne (at_ne e z exo_frz), upd_ne (ne_of_none z hd0)]; exact z
    tbls := fun b ps z => ⟨#[], by rw [upd_ne (at_ne e z exo_tbl), upd_ne (ne_of_none z hd0), z]; simp⟩ }
  refine h d _ hd0 dne (I.un (t' := n1) U fun b o z => ?_)
  by_cases hb : b = a
  · subst hb
    rw [upd_same] at z
    cases z
    exact exo_ok hx
  · rw [upd_ne hb] at z
    by_cases hd : b = d
    · subst hd
      rw [upd_same] at z
      cases z
      exact exd_ok hn (relO_put (fs := []) ry fun g => True.intro)
    · rw [upd_ne hd] at z
      exact (I.hok b o z).stay (fun c v hc q => k c v (by
          rcases hc with hc | hc
          · rw [hc]
            exact hb
          · exact at_ne e hc exo_own) q)
        (fun c hc => by rw [upd_ne (at_ne e hc exo_own), upd_ne (ne_of_none hc hd0)]; exact hc) (fun c xs hc => by rw [upd_ne (at_ne e hc exo_tup), upd_ne (ne_of_none hc hd0)]; exact hc)
/-- self.f = y, on one that has its dict -/
theorem st_next (T : AxC X.K C) (I : Inv X pins σ H s) (e : H a = some (exo a C (some dx))) (ed : H dx = some (exd dx fs)) (hl : fs.length ≤ 900) (hno : PySem.W.findIn X.K (.ref C) f = some none) (ry : RelV y u)
    (h : ∀ s1, Inv X pins σ (upd H dx (exd dx ((f, y) :: fs))) s1 → Q () s1) : wpAny (model X.prog X.w) A (setAttr (.ref a) f u) Q E s := by
  obtain ⟨c, hc, hlc, hdc⟩ := T.cd
  obtain ⟨t1, ho⟩ := exo_at I.hok e
  obtain ⟨m, hns, rel⟩ := exd_at I.hok ed
  have hw := within_of rel
  obtain ⟨hp, g, d0, t, os⟩ := s
  obtain ⟨od, _, _, hod, _, _⟩ := hns.count hw
  refine PySem.W.set_plain I.kIn (ox := { cls := .ref C, dict := some dx, data := .fields #[.ref t1, .none, .none, .none, .bool false, .none] }) (od := some od) ⟨ho, rfl, rfl, hod⟩ T.sa ?_
  refine PySem.X84.osa_next I.kIn ho hns hw (by rw [List.length_map]; omega) hc hlc hdc hno (fun h1 n1 k hn => ?_)
  have hd : ∃ o, h1.get? dx = some o := by
    obtain ⟨o, _, _, q, _⟩ := hn
    exact ⟨o, q⟩
  exact h _ (I.write (t' := n1) (x := dx) (e := dx) (o := exd dx ((f, y) :: fs)) (by rw [ed]; exact True.intro) (.inl rfl) k hd (exd_ok hn (relO_put ry rel)))
end
/-- self.f = e -/
def tAst (K : PySem.W.Frag) (f : Str) (to te : TE) : TS := fun D σ H => te σ H fun y H1 => to σ H1 fun x H2 => ∃ a C : Addr, x = .ref a ∧ AxC K C ∧ PySem.W.findIn K (.ref C) f = some none ∧
  ((H2 a = some (exo a C none) ∧ ∀ d, H2 d = none → d ≠ a → D.nx σ (upd (upd H2 d (exd d [(f, y)])) a (exo a C (some d)))) ∨
    ∃ (d : Addr) (fs : List (Str × V)), H2 a = some (exo a C (some d)) ∧ H2 d = some (exd d fs) ∧ fs.length ≤ 900 ∧ D.nx σ (upd H2 d (exd d ((f, y) :: fs))))
/-- C(e, ..), C's own __init__ keeping sp -/
def tMkA (C : Addr) (sp : Sp) (ta : TA) : St → Hp → XK → Prop := fun σ H Q => ta σ H fun vs H1 => vs.length ≤ 1000 ∧ ∀ a, H1 a = none → sp (.ref a :: vs) (upd H1 a (exo a C none))
  (fun v H2 => v = .non ∧ ∃ (d : Addr) (fs : List (Str × V)), H2 a = some (exo a C (some d)) ∧ H2 d = some (exd d fs) ∧ H1 d = none ∧ Q (.ref C) (some d) (upd (del H2 a) d (.xd fs))) (fun _ _ _ => False)
section
variable {X : Cx} {o e : Expr} {es : List Expr} {to te : TE} {ta : TA} {f : Str} {p p' p1 p2 pos : Pos}
theorem ps_ast (ho : PE X o to) (he : PE X e te) (hs : swapsWith e (some (.Attribute o f p')) pos.line X.env = pure false := by rfl) : PS X (.Assign [.Attribute o f p'] e pos) (tAst X.K f to te) := by
  refine ⟨fun pins s σ H D I h => ?_⟩
  refine plainObj_wpAny_Assign_Attribute (thn (he.run pins s σ H _ I h) fun v s1 ⟨y, H1, I1, r1, q1⟩ => thn (ho.run pins s1 σ H1 _ I1 q1) fun u s2 ⟨x, H2, I2, r2, a, C, ex, T, hno, q⟩ => ?_) hs
  subst ex
  obtain rfl : u = Value.ref a := r2
  rcases q with ⟨ea, q⟩ | ⟨d, fs, ea, ed, hl, q⟩
  · exact st_first T I2 ea hno r1 fun d s3 n ne J => ⟨σ, _, J, q d n ne⟩
  · exact st_next T I2 ea ed hl hno r1 fun s3 J => ⟨σ, _, J, q⟩
theorem pmk_ax {CX : CXT} {x : Str} {C fI : Addr} {k : Nat} {fd : FuncData} {ps : List Str} {sp : Sp} (T : AxC X.K C) (iC : PySem.W.findIn X.K (.ref C) "__init__" = some (some (.ref fI))) (tI : PySem.W.typeIn X.K (.ref fI) = some (.type "function"))
    (G : FnOk X.prog X.w X.K X.mg X.base CX k fI fd ps sp) (hr : Room (k + 1) X.A) (hb : Binds X.K fd ps []) (hx : Passes CX X (fun _ _ _ => False)) (hg : Gl X x) (hm : X.mg x = some (.ref C)) (ha : PA X (e :: es) ta)
    (hdb : (x == ("__debug__" : Str)) = false := by decide) (he : starEach (e :: es) X.env = (false, eval e X.env) :: starEach es X.env := by rfl) (hpl : (backTo pos (starEach es X.env)).any (·.1) = false := by rfl) :
    PMk X (.Call (.Name x p) (e :: es) [] pos) (tMkA C sp ta) := by
  intro pins s σ H Q I h
  obtain ⟨nm, q, N, bs, bm, sn, sub, ab, col, dd, k0, k1, k2, k3, k5, hC, _, hcn⟩ := T.cls
  refine wpAny_Call_Name_kw (ld_glob I hg hm ?_ hdb)
  refine PySem.W.callWith_K (h₀ := X.base) I.ok.mod.kin T.kC (thn (ha.run pos pins s σ H _ I h) fun us s1 ⟨vs, H1, I1, r1, hz, q1⟩ => ⟨I1.kIn, ?_⟩) he hpl
  show wpAny _ _ (call (.ref C) us) _ _ _
  obtain ⟨hp, g, dr, tk, os⟩ := s1
  have le : hp.objs.size ≤ hp.objs.size + 1 := Nat.le_succ _
  have hq := q1 (hp.objs.size + 1) (I1.hok.fresh le)
  have kk : ∀ b o, hp.get? b = some o → ((hp.push (PySem.W.kdv_tup us)).push (PySem.HandSPX.excO C hp.objs.size)).get? b = some o := fun b o z => Heap.get?_push_of_some _ (Heap.get?_push_of_some _ z)
  have hnew : ((hp.push (PySem.W.kdv_tup us)).push (PySem.HandSPX.excO C hp.objs.size)).get? (hp.objs.size + 1) = some (PySem.HandSPX.excO C hp.objs.size) := by heap_get
  have I2 : Inv X pins σ (upd H1 (hp.objs.size + 1) (exo (hp.objs.size + 1) C none)) ⟨(hp.push (PySem.W.kdv_tup us)).push (PySem.HandSPX.excO C hp.objs.size), g, dr, tk, os⟩ :=
    I1.laid (t' := tk) (a := hp.objs.size + 1) (o := exo (hp.objs.size + 1) C none) (h' := (hp.push (PySem.W.kdv_tup us)).push (PySem.HandSPX.excO C hp.objs.size)) kk le (exo_ok hnew)
  have r2 : Vals (V.ref (hp.objs.size + 1) :: vs) (Value.ref (hp.objs.size + 1) :: us) := .cons rfl r1
  have hl : (Value.ref (hp.objs.size + 1) :: us).length = ps.length := by
    have z := r2.length
    rw [G.len _ _ _ _ hq] at z
    exact z.symm
  have hus : us.length ≤ sizeLine := by
    rw [← Paired.length r1, sizeLine_eq]
    omega
  have bb := hb _ (Value.ref (hp.objs.size + 1) :: us) I2.kIn (by rw [List.append_nil]; exact hl)
  rw [List.append_nil] at bb
  refine wpAny_call (PySem.HandSPX.call_own F.excBase_ArithmeticError hcn (I1.kIn _ _ hC) (PySem.W.looks_findIn I1.kIn iC) (fun self => PySem.W.bind_fn I1.kIn self tI) hus
    (codeAny_mono (G.run _ X.stack _ _ ⟨Value.ref (hp.objs.size + 1) :: us, []⟩ (Value.ref (hp.objs.size + 1) :: us) _ _ (fun _ _ _ => False) (hr.make C us []) (I2.env0.make C us []) bb r2 hq) fun r s3 hz => ?_))
  cases r with
  | error er => exact hx pins σ _ _ er s3 I2 hz
  | ok fl =>
    cases fl with
    | ret u =>
      obtain ⟨v, H2, os2, bare2, un2, hok2, rv, ev, d, fs, ea, ed, hd1, q2⟩ := hz
      subst ev
      obtain ⟨h2, g2, d2, t2, os'⟩ := s3
      exact ⟨rv, mk_end (raises_own T.exC T.tyC) I1 le kk un2 hok2 os2 bare2 ea ed hd1 q2⟩
    | next => exact False.elim hz
    | brk => exact False.elim hz
    | cont => exact False.elim hz
end
end T84

/-! j84 -/
namespace T84
open PySem L2
abbrev s_init : Stmt := inClass (top 6) 0
abbrev s_too_great : Stmt := top 41
abbrev s_want_digits : Stmt := top 42
abbrev s_power_of : Stmt := top 43
abbrev s_size_by : Stmt := top 44
abbrev s_size_or_none : Stmt := top 46
/-- the class TooMany at C, its __init__ at fI, the class LimitError at L -/
structure Tm (K : PySem.W.Frag) (mg : Str → Option Value) (C L fI : Addr) (fd : FuncData) : Prop where
  ax : AxC K C
  iC : PySem.W.findIn K (.ref C) "__init__" = some (some (.ref fI))
  tI : PySem.W.typeIn K (.ref fI) = some (.type "function")
  nw : PySem.W.findIn K (.ref C) "what" = some none
  nl : PySem.W.findIn K (.ref C) "limit" = some none
  xf : XfC K C
  gC : mg "TooMany" = some (.ref C)
  gL : mg "LimitError" = some (.ref L)
  eC : PySem.W.exmOne K (.ref C) (.ref C) = some true
  eL : PySem.W.exmOne K (.ref C) (.ref L) = some true
  fn : Fun K "__init__" "TooMany.__init__" s_init fI fd
  b : Binds K fd ["self", "what", "limit"] []
/-- what it told, of the heap behind it -/
def Told (H : Hp) (E : XK) (C : Addr) (x : V) (i : Int) : Prop := ∀ d H', Same H H' → H' d = some (.xd [("limit", .int i), ("what", x)]) → E (.ref C) (some d) H'
theorem Told.from {H H1 : Hp} {E : XK} {C : Addr} {x : V} {i : Int} (e : Same H H1) (t : Told H E C x i) : Told H1 E C x i := fun d H' e1 => t d H' (e.trans e1)
section
variable {P : Program} {w : World} {K : PySem.W.Frag} {mg : Str → Option Value} {base : Heap} {aDOUBLE C L fI : Addr} {fdI : FuncData}
theorem S_init : FnScope ["self", "what", "limit"] ["self", "what", "limit"] (defScope s_init) := ⟨rfl, rfl, rfl, by decide +kernel, rfl, by decide +kernel, by decide +kernel⟩
def sp_init (K : PySem.W.Frag) (C : Addr) : Sp := fun vs H Q _ => ∃ (a : Addr) (x y : V), vs = [.ref a, x, y] ∧ H a = some (exo a C none) ∧
  ∀ H' d, Keep a H H' → H' a = some (exo a C (some d)) → H' d = some (exd d [("limit", y), ("what", x)]) → H d = none → d ≠ a → Q .non H'
theorem ok_init (M : Tm K mg C L fI fdI) : FnOk P w K mg base CX0 1 fI fdI ["self", "what", "limit"] (sp_init K C) := by
  refine M.fn.ok S_init (fun vs H Q E h => ?_) (fun cdv A outer s H vs Q E hr h => ?_)
  · obtain ⟨a, x, y, rfl, _⟩ := h
    rfl
  obtain ⟨a, x, y, rfl, ha, q⟩ := h
  refine ⟨_, pss_cons (ps_ast (pv 0) (pv 1)) (pss_one (ps_ast (pv 0) (pv 2))), ?_⟩
  refine ⟨_, rfl, _, rfl, a, C, rfl, M.ax, M.nw, .inl ⟨ha, fun d hd nd => ?_⟩⟩
  refine ⟨_, rfl, _, rfl, a, C, rfl, M.ax, M.nl, .inr ⟨d, [("what", x)], upd_same, by rw [upd_ne nd, upd_same], by simp, ?_⟩⟩
  refine q _ d (fun b o n h => ?_) ?_ upd_same hd nd
  · rw [upd_ne (ne_of_none h hd), upd_ne n, upd_ne (ne_of_none h hd)]
    exact h
  · rw [upd_ne (Ne.symm nd), upd_same]
/-- TooMany(x, i) as the raise reads it -/
theorem told_mk {H : Hp} {E : XK} {x : V} {i : Int} {a : Addr} (ha : H a = none) (t : Told H E C x i) :
    sp_init K C (.ref a :: [x, .int i]) (upd H a (exo a C none)) (fun v H2 => v = .non ∧ ∃ (d : Addr) (fs : List (Str × V)), H2 a = some (exo a C (some d)) ∧ H2 d = some (exd d fs) ∧ H d = none ∧ E (.ref C) (some d) (upd (del H2 a) d (.xd fs))) (fun _ _ _ => False) := by
  refine ⟨a, x, .int i, rfl, upd_same, fun H' d k h1 h2 hd nd => ⟨rfl, d, _, h1, h2, by rw [upd_ne nd] at hd; exact hd, ?_⟩⟩
  rw [upd_ne nd] at hd
  refine t d _ (fun b o h => ?_) upd_same
  have n1 := ne_of_none h ha
  rw [upd_ne (ne_of_none h hd), del_ne n1]
  exact k b o n1 (by rw [upd_ne n1]; exact h)
/-- want_at_most, where it may raise -/
def sp_wam (C : Addr) : Sp := fun vs H Q E => ∃ (x : V) (i j : Int), vs = [x, .int i, .int j] ∧ (j ≤ i → Q .non H) ∧ (i < j → Told H E C x i)
theorem ok_wam {f : Addr} {fd : FuncData} (D : FD K mg "want_at_most" s_want_at_most ["what", "limit", "number"] f fd) (M : Tm K mg C L fI fdI) (G_init : FnOk P w K mg base CX0 1 fI fdI ["self", "what", "limit"] (sp_init K C)) :
    FnOk P w K mg base (L2.CX P w) 3 f fd ["what", "limit", "number"] (sp_wam C) := by
  refine D.fn.okX S_want_at_most (fun vs H Q E h => ?_) (fun cdv A outer s H vs Q E hr h => ?_)
  · obtain ⟨x, i, j, rfl, _⟩ := h
    rfl
  obtain ⟨x, i, j, rfl, q, t⟩ := h
  refine ⟨_, (pss_one (ps_if (pt_cmpR op_gt (pv 2) (pv 1) (nomark _)) (pss_one (ps_raise rfl (takes_of rfl rfl rfl rfl) (pmk_ax M.ax M.iC M.tI G_init hr M.b pass0 rfl M.gC (pa_cons (pv 0) (pa_cons (pv 1) pa_nil))))) pss_nil)), ?_⟩
  refine ⟨_, rfl, _, rfl, _, _, rfl, rfl, _, rfl, ?_⟩
  by_cases c : i < j
  · refine iteTe (decide_eq_true c) ?_
    refine ⟨_, rfl, _, rfl, by show 2 ≤ 1000; omega, fun a ha => told_mk ha (t c)⟩
  · exact iteFe (decide_eq_false c) (q (by omega))
/-! ### great numbers -/
def big : Int := 10 ^ 300
theorem lt60 : ((10 : Int) ^ 60).natAbs < 2 ^ 200 := by decide +kernel
theorem lt120 : ((10 : Int) ^ 60 * 10 ^ 60).natAbs < 2 ^ 400 := by decide +kernel
theorem lt180 : ((10 : Int) ^ 60 * 10 ^ 60 * 10 ^ 60).natAbs < 2 ^ 600 := by decide +kernel
theorem lt240 : ((10 : Int) ^ 60 * 10 ^ 60 * 10 ^ 60 * 10 ^ 60).natAbs < 2 ^ 800 := by decide +kernel
theorem big_is : (10 : Int) ^ 60 * 10 ^ 60 * 10 ^ 60 * 10 ^ 60 * 10 ^ 60 = big := by decide +kernel
theorem big_lt : big.natAbs < 2 ^ 1000 := by decide +kernel
theorem S_too_great : FnScope [] [] (defScope s_too_great) := ⟨rfl, rfl, rfl, by decide +kernel, rfl, by decide +kernel, by decide +kernel⟩
def sp_too_great : Sp := fun vs H Q _ => vs = [] ∧ Q (.int big) H
theorem ok_too_great {f : Addr} {fd : FuncData} (D : FD K mg "too_great" s_too_great [] f fd) (T : Cs K mg aDOUBLE) : FnOk P w K mg base CX0 1 f fd [] sp_too_great := by
  refine D.fn.ok S_too_great (fun vs H Q E h => ?_) (fun cdv A outer s H vs Q E hr h => ?_)
  · obtain ⟨rfl, _⟩ := h
    rfl
  obtain ⟨rfl, q⟩ := h
  rw [← big_is] at q
  refine ⟨_, (pss_one (ps_ret (pe_op op_mulW (pe_op op_mulW (pe_op op_mulW (pe_op op_mulW (pe_gi T.TOO_GREAT) (pe_gi T.TOO_GREAT)) (pe_gi T.TOO_GREAT)) (pe_gi T.TOO_GREAT)) (pe_gi T.TOO_GREAT)))), ?_⟩
  refine ⟨_, _, rfl, rfl, wide_mul lt60 lt60 (by omega) (by omega) (by omega), ?_⟩
  refine ⟨_, _, rfl, rfl, wide_mul lt120 lt60 (by omega) (by omega) (by omega), ?_⟩
  refine ⟨_, _, rfl, rfl, wide_mul lt180 lt60 (by omega) (by omega) (by omega), ?_⟩
  refine ⟨_, _, rfl, rfl, wide_mul lt240 lt60 (by omega) (by omega) (by omega), ?_⟩
  exact q
theorem S_want_digits : FnScope ["number"] ["number"] (defScope s_want_digits) := ⟨rfl, rfl, rfl, by decide +kernel, rfl, by decide +kernel, by decide +kernel⟩
def sp_want_digits (C : Addr) : Sp := fun vs H Q E => ∃ i : Int, vs = [.int i] ∧ (i < big → Q (.int i) H) ∧ (big ≤ i → Told H E C (.str "digits") 300)
theorem ok_want_digits {f g : Addr} {fd gd : FuncData} (D : FD K mg "want_digits" s_want_digits ["number"] f fd) (D_too_great : FD K mg "too_great" s_too_great [] g gd) (T : Cs K mg aDOUBLE) (M : Tm K mg C L fI fdI)
    (G_init : FnOk P w K mg base CX0 1 fI fdI ["self", "what", "limit"] (sp_init K C)) (G_too_great : FnOk P w K mg base CX0 1 g gd [] sp_too_great) :
    FnOk P w K mg base (L2.CX P w) 3 f fd ["number"] (sp_want_digits C) := by
  refine D.fn.okX S_want_digits (fun vs H Q E h => ?_) (fun cdv A outer s H vs Q E hr h => ?_)
  · obtain ⟨i, rfl, _⟩ := h
    rfl
  obtain ⟨i, rfl, q, t⟩ := h
  refine ⟨_, (pss_cons (ps_if (pt_cmpR op_ge (pv 0) (pe_call0 G_too_great (hr.mono (by omega)) rfl D_too_great.m D_too_great.fn.kp D_too_great.b .nil pass0) (nomark _)) (pss_one (ps_raise rfl (takes_of rfl rfl rfl rfl) (pmk_ax M.ax M.iC M.tI G_init hr M.b pass0 rfl M.gC (pa_cons pe_str (pa_cons (pe_gi T.MOST_DIGITS) pa_nil))))) pss_nil)
    (pss_one (ps_ret (pv 0)))), ?_⟩
  refine ⟨_, rfl, rfl, _, _, rfl, rfl, _, rfl, ?_⟩
  by_cases c : big ≤ i
  · refine iteTe (decide_eq_true c) ?_
    refine ⟨by show 2 ≤ 1000; omega, fun a ha => told_mk ha (t c)⟩
  · exact iteFe (decide_eq_false c) ⟨_, rfl, q (by omega)⟩
end
end T84

/-! k84 -/
namespace T84
open PySem L2
/-! ### sizes, as far as they are told -/
def bigN : Nat := 10 ^ 300
theorem big_nat : big = ((bigN : Nat) : Int) := by decide +kernel
theorem bigN_lt : bigN < 2 ^ 1000 := by decide +kernel
theorem nlt {n : Nat} (h : n < bigN) : ((n : Nat) : Int).natAbs < 2 ^ 1000 := by
  rw [Int.natAbs_natCast]
  exact Nat.lt_trans h bigN_lt
theorem lt_big {n : Nat} (h : n < bigN) : ((n : Nat) : Int) < big := by
  rw [big_nat]
  exact Int.ofNat_lt.mpr h
theorem ge_big {n : Nat} (h : ¬ n < bigN) : big ≤ ((n : Nat) : Int) := by
  rw [big_nat]
  exact Int.ofNat_le.mpr (Nat.le_of_not_lt h)
theorem big_two : 2 < bigN := by decide +kernel
theorem big_ten : 10 < bigN := by decide +kernel
theorem big_1000 : ¬ 2 ^ 1000 < bigN := by decide +kernel
def pwO (b n : Nat) : Option Nat := if b < 2 then some (if n = 0 then 1 else b) else if b ^ n < bigN then some (b ^ n) else none
def mulO (a b : Nat) : Option Nat := if a * b < bigN then some (a * b) else none
def sizeO (e : Nat → Nat) : Kd → Option Nat
  | .let_ i => some (e i)
  | .one => some 1
  | .pair a b => (sizeO e a).bind fun x => (sizeO e b).bind fun y => mulO x y
  | .fn a b => (sizeO e a).bind fun x => (sizeO e b).bind fun y => pwO y x
theorem mulO_lt {a b n : Nat} (h : mulO a b = some n) : n < bigN := by
  unfold mulO at h
  split at h
  · cases h
    assumption
  · cases h
theorem pwO_lt {a b n : Nat} (h : pwO a b = some n) : n < bigN := by
  have t := big_two
  unfold pwO at h
  split at h
  · cases h
    split <;> omega
  · split at h
    · cases h
      assumption
    · cases h
theorem pwO_is {b m n : Nat} (h : pwO b m = some n) : n = b ^ m := by
  unfold pwO at h
  split at h
  · rename_i c
    cases h
    split
    · rename_i d
      rw [d, Nat.pow_zero]
    · rename_i d
      have : b = 0 ∨ b = 1 := by omega
      rcases this with e | e
      · rw [e, Nat.zero_pow (by omega)]
      · rw [e, Nat.one_pow]
  · split at h
    · cases h
      rfl
    · cases h
theorem sizeO_is {e : Nat → Nat} : ∀ {k : Kd} {n : Nat}, sizeO e k = some n → n = k.tsize e
  | .let_ i, n, h => by
    rw [sizeO] at h
    cases h
    rfl
  | .one, n, h => by
    rw [sizeO] at h
    cases h
    rfl
  | .pair a b, n, h => by
    rw [sizeO] at h
    obtain ⟨x, h1, h⟩ := Option.bind_eq_some_iff.mp h
    obtain ⟨y, h2, h⟩ := Option.bind_eq_some_iff.mp h
    rw [Kd.tsize, ← sizeO_is h1, ← sizeO_is h2]
    unfold mulO at h
    split at h
    · cases h
      rfl
    · cases h
  | .fn a b, n, h => by
    rw [sizeO] at h
    obtain ⟨x, h1, h⟩ := Option.bind_eq_some_iff.mp h
    obtain ⟨y, h2, h⟩ := Option.bind_eq_some_iff.mp h
    rw [Kd.tsize, ← sizeO_is h1, ← sizeO_is h2]
    exact pwO_is h
theorem sizeO_lt {e : Nat → Nat} (he : ∀ i, e i ≤ 3) : ∀ {k : Kd} {n : Nat}, sizeO e k = some n → n < bigN
  | .let_ i, n, h => by
    rw [sizeO] at h
    cases h
    have := big_ten
    have := he i
    omega
  | .one, n, h => by
    rw [sizeO] at h
    cases h
    have := big_ten
    omega
  | .pair a b, n, h => by
    rw [sizeO] at h
    obtain ⟨x, h1, h⟩ := Option.bind_eq_some_iff.mp h
    obtain ⟨y, h2, h⟩ := Option.bind_eq_some_iff.mp h
    exact mulO_lt h
  | .fn a b, n, h => by
    rw [sizeO] at h
    obtain ⟨x, h1, h⟩ := Option.bind_eq_some_iff.mp h
    obtain ⟨y, h2, h⟩ := Option.bind_eq_some_iff.mp h
    exact pwO_lt h
theorem pow_mono {b i n : Nat} (h : 2 ≤ b) (l : i ≤ n) : b ^ i ≤ b ^ n := Nat.pow_le_pow_right (by omega) l
theorem pow_1000 {b n : Nat} (h : 2 ≤ b) (l : 1000 ≤ n) : ¬ b ^ n < bigN := fun c => big_1000 (Nat.lt_of_le_of_lt (Nat.le_trans (Nat.pow_le_pow_left h 1000) (pow_mono h l)) c)
theorem step_pow (b i : Nat) : ((b ^ i : Nat) : Int) * (b : Int) = ((b ^ (i + 1) : Nat) : Int) := by
  rw [Nat.pow_succ, Int.natCast_mul]
/-- the sizes of the letters: six of them, each at most 3 -/
structure Szs (es : List Nat) : Prop where
  len : es.length = 6
  le : ∀ i, es.getD i 0 ≤ 3
def ev (es : List Nat) : Nat → Nat := fun i => es.getD i 0
def LI (es : List Nat) : HO := .lst (es.map fun (n : Nat) => V.int (n : Int))
theorem li_get {es : List Nat} {i : Nat} (h : i < es.length) : atI (es.map fun (n : Nat) => V.int (n : Int)) (i : Int) = some (.int (ev es i : Int)) := by
  refine atI_nat ?_
  rw [List.getElem?_map, List.getElem?_eq_getElem h, ev]
  show _ = some (V.int ((es.getD i 0 : Nat) : Int))
  rw [List.getD_eq_getElem?_getD, List.getElem?_eq_getElem h]
  rfl
section
variable {P : Program} {w : World} {K : PySem.W.Frag} {mg : Str → Option Value} {base : Heap} {aDOUBLE C L fI : Addr} {fdI : FuncData}
theorem S_power_of : FnScope ["number", "many", "found", "turn"] ["number", "many"] (defScope s_power_of) := ⟨rfl, rfl, rfl, by decide +kernel, rfl, by decide +kernel, by decide +kernel⟩
def sp_power_of (C : Addr) : Sp := fun vs H Q E => ∃ b n : Nat, vs = [.int b, .int n] ∧ b < bigN ∧ n < bigN ∧ (∀ r, pwO b n = some r → Q (.int (r : Int)) H) ∧ (pwO b n = none → Told H E C (.str "digits") 300)
theorem ok_power_of {f g h : Addr} {fd gd hd : FuncData} (D : FD K mg "power_of" s_power_of ["number", "many"] f fd) (D_want_digits : FD K mg "want_digits" s_want_digits ["number"] g gd) (D_too_great : FD K mg "too_great" s_too_great [] h hd) (T : Cs K mg aDOUBLE)
    (G_want_digits : FnOk P w K mg base (L2.CX P w) 3 g gd ["number"] (sp_want_digits C)) (G_too_great : FnOk P w K mg base CX0 1 h hd [] sp_too_great) :
    FnOk P w K mg base (L2.CX P w) 4 f fd ["number", "many"] (sp_power_of C) := by
  refine D.fn.okX S_power_of (fun vs H Q E h => ?_) (fun cdv A outer s H vs Q E hr h => ?_)
  · obtain ⟨b, n, rfl, _⟩ := h
    rfl
  obtain ⟨b, n, rfl, hb, hn, q, t⟩ := h
  refine ⟨_, (pss_cons (ps_if (pt_cmpR op_lt (pv 0) pe_int (nomark _)) (pss_one (ps_ret (pe_ifExp (pt_cmpR op_eq (pv 1) pe_int (nomark _)) pe_int (pv 0)))) pss_nil)
    (pss_cons (ps_set (i := 2) S_power_of.nd rfl (Or.inl rfl) pe_int)
    (pss_cons (ps_for (passes_of rfl) rfl (pi_range1 rfl T.z_range (pa_cons (pe_callB (call_min2 rfl) (by rfl) T.z_min (by decide +kernel) (pa_cons (pv 1) (pa_cons pe_int pa_nil))) pa_nil)) (pg_name (i := 3) S_power_of.nd rfl (Or.inl rfl)) (pss_one (ps_set (i := 2) S_power_of.nd rfl (Or.inl rfl) (pe_callS G_want_digits hr rfl D_want_digits.m D_want_digits.fn.kp D_want_digits.b (fun σ => passAt (takes_of rfl rfl rfl rfl) σ) (pa_cons (pe_op op_mulW (pv 2) (pv 0)) pa_nil)))))
    (pss_one (ps_ret (pe_ifExp (pt_cmpR op_le (pv 1) pe_int (nomark _)) (pv 2) (pe_callS G_want_digits hr rfl D_want_digits.m D_want_digits.fn.kp D_want_digits.b (fun σ => passAt (takes_of rfl rfl rfl rfl) σ) (pa_cons (pe_call0 G_too_great (hr.mono (by omega)) rfl D_too_great.m D_too_great.fn.kp D_too_great.b .nil pass0) pa_nil)))))))), ?_⟩
  refine ⟨_, rfl, _, _, rfl, rfl, _, rfl, ?_⟩
  by_cases c : b < 2
  · refine iteTe (decide_eq_true (by omega)) ?_
    have pw : pwO b n = some (if n = 0 then 1 else b) := by unfold pwO; rw [if_pos c]
    refine ⟨_, rfl, rfl, _, rfl, ?_⟩
    by_cases d : n = 0
    · rw [if_pos d] at pw
      exact iteTe (decide_eq_true (by rw [d]; rfl)) (q _ pw)
    · rw [if_neg d] at pw
      exact iteFe (decide_eq_false (fun z => d (by injection z with z; omega))) ⟨_, rfl, q _ pw⟩
  · refine iteFe (decide_eq_false (by omega)) ?_
    have pw : pwO b n = if b ^ n < bigN then some (b ^ n) else none := by unfold pwO; rw [if_neg c]
    have h2 : 2 ≤ b := by omega
    refine ⟨_, rfl, _, _, rfl, _, rfl, by split <;> omega, by split <;> omega, ?_⟩
    refine for_range (fun i σ H' => H' = H ∧ b ^ i < bigN ∧ i ≤ n ∧ ∃ o, σ = [some (.int b), some (.int n), some (.int ((b ^ i : Nat) : Int)), o]) ⟨rfl, by rw [Nat.pow_zero]; exact Nat.lt_trans (by omega) big_two, Nat.zero_le _, none, rfl⟩ ?_ ?_
    · rintro i σ H' hi ⟨rfl, hp, hin, o, rfl⟩
      have hin' : i + 1 ≤ n := by
        split at hi <;> omega
      refine ⟨_, rfl, _, rfl, _, _, rfl, rfl, wide_mul (nlt hp) (nlt hb) (by omega) (by omega) (by omega), ?_⟩
      refine ⟨_, rfl, ?_, ?_⟩
      · intro l
        rw [step_pow] at l ⊢
        rw [big_nat] at l
        exact ⟨rfl, Int.ofNat_lt.mp l, hin', _, rfl⟩
      · intro l
        rw [step_pow, big_nat] at l
        have l' := Int.ofNat_le.mp l
        exact t (by rw [pw, if_neg (Nat.not_lt.mpr (Nat.le_trans l' (pow_mono h2 hin')))])
    · rintro σ H' ⟨rfl, hp, hin, o, rfl⟩
      have en : n ≤ 1000 := by
        refine Nat.le_of_not_lt fun l => ?_
        refine pow_1000 h2 (Nat.le_refl _) ?_
        have e : (if (1000 : Int) < (n : Int) then (1000 : Int) else (n : Int)).toNat = 1000 := by rw [if_pos (by omega)]; rfl
        rw [e] at hp
        exact hp
      have e : (if (1000 : Int) < (n : Int) then (1000 : Int) else (n : Int)).toNat = n := by rw [if_neg (by omega)]; rfl
      rw [e] at hp ⊢
      refine ⟨_, rfl, _, _, rfl, rfl, _, rfl, iteTe (decide_eq_true (by omega)) ⟨_, rfl, ?_⟩⟩
      exact q _ (by rw [pw, if_pos hp])
theorem S_size_by : FnScope ["kind", "sizes", "near", "far"] ["kind", "sizes"] (defScope s_size_by) := ⟨rfl, rfl, rfl, by decide +kernel, rfl, by decide +kernel, by decide +kernel⟩
def sp_size_by (C : Addr) (n : Nat) : Sp := fun vs H Q E => ∃ (v : V) (k : Kd) (a : Addr) (es : List Nat), vs = [v, .ref a] ∧ At H v k ∧ k.lets 6 ∧ k.depth ≤ n ∧ H a = some (LI es) ∧ Szs es ∧
  (∀ m, sizeO (ev es) k = some m → ∀ H', Same H H' → Q (.int (m : Int)) H') ∧ (sizeO (ev es) k = none → Told H E C (.str "digits") 300)
theorem size_by_step {n : Nat} {f g h : Addr} {fd gd hd : FuncData} (D_size_by : FD K mg "size_by" s_size_by ["kind", "sizes"] f fd) (D_want_digits : FD K mg "want_digits" s_want_digits ["number"] g gd) (D_power_of : FD K mg "power_of" s_power_of ["number", "many"] h hd) (T : Cs K mg aDOUBLE)
    (G_want_digits : FnOk P w K mg base (L2.CX P w) 3 g gd ["number"] (sp_want_digits C)) (G_power_of : FnOk P w K mg base (L2.CX P w) 4 h hd ["number", "many"] (sp_power_of C)) (G_size_by : FnOk P w K mg base (L2.CX P w) (n + 4) f fd ["kind", "sizes"] (sp_size_by C n)) :
    FnOk P w K mg base (L2.CX P w) (n + 4 + 1) f fd ["kind", "sizes"] (sp_size_by C (n + 1)) := by
  refine D_size_by.fn.okX S_size_by (fun vs H Q E h => ?_) (fun cdv A outer s H vs Q E hr h => ?_)
  · obtain ⟨v, k, a, es, rfl, _⟩ := h
    rfl
  obtain ⟨v, k, a, es, rfl, hv, hl, hd, ha, hs, q, t⟩ := h
  refine ⟨_, (pss_cons (ps_if (pt_cmpR op_eq (pe_ix ix_tup (pv 0) pe_int (fun _ _ => rfl)) (pe_gs T.LETTER) (nomark _)) (pss_one (ps_ret (pe_ix ix_list (pv 1) (pe_ix ix_tup (pv 0) pe_int (fun _ _ => rfl)) (fun _ _ => rfl)))) pss_nil)
    (pss_cons (ps_if (pt_cmpR op_eq (pe_ix ix_tup (pv 0) pe_int (fun _ _ => rfl)) (pe_gs T.ONE) (nomark _)) (pss_one (ps_ret pe_int)) pss_nil)
    (pss_cons (ps_par (i := 2) (j := 3) rfl S_size_by.nd rfl rfl (by decide) rfl rfl (pa_cons (pe_callS G_size_by hr rfl D_size_by.m D_size_by.fn.kp D_size_by.b (fun σ => passAt (takes_of rfl rfl rfl rfl) σ) (pa_cons (pe_ix ix_tup (pv 0) pe_int (fun _ _ => rfl)) (pa_cons (pv 1) pa_nil))) (pa_cons (pe_callS G_size_by hr rfl D_size_by.m D_size_by.fn.kp D_size_by.b (fun σ => passAt (takes_of rfl rfl rfl rfl) σ) (pa_cons (pe_ix ix_tup (pv 0) pe_int (fun _ _ => rfl)) (pa_cons (pv 1) pa_nil))) pa_nil)) (by rfl))
    (pss_one (ps_ret (pe_ifExp (pt_cmpR op_eq (pe_ix ix_tup (pv 0) pe_int (fun _ _ => rfl)) (pe_gs T.PAIR) (nomark _)) (pe_callS G_want_digits (hr.mono (by omega)) rfl D_want_digits.m D_want_digits.fn.kp D_want_digits.b (fun σ => passAt (takes_of rfl rfl rfl rfl) σ) (pa_cons (pe_op op_mulW (pv 2) (pv 3)) pa_nil)) (pe_callS G_power_of (hr.mono (by omega)) rfl D_power_of.m D_power_of.fn.kp D_power_of.b (fun σ => passAt (takes_of rfl rfl rfl rfl) σ) (pa_cons (pv 3) (pa_cons (pv 2) pa_nil))))))))), ?_⟩
  cases hv with
  | @let_ c i h =>
    refine ⟨_, rfl, _, _, _, _, rfl, rfl, tT h, rfl, rfl, _, rfl, iteTe rfl ?_⟩
    refine ⟨_, rfl, _, rfl, _, _, _, _, rfl, rfl, tT h, rfl, ?_⟩
    refine ⟨_, _, _, _, rfl, rfl, tL ha, li_get (by rw [hs.len]; exact hl), ?_⟩
    exact q _ rfl _ (Same.refl H)
  | one h =>
    refine ⟨_, rfl, _, _, _, _, rfl, rfl, tT h, rfl, rfl, _, rfl, iteFe (by decide +kernel) ?_⟩
    refine ⟨_, rfl, _, _, _, _, rfl, rfl, tT h, rfl, rfl, _, rfl, iteTe rfl ?_⟩
    exact q 1 rfl _ (Same.refl H)
  | @pair c x y k1 k2 h hx hy =>
    simp only [Kd.depth] at hd
    simp only [Kd.lets] at hl
    refine ⟨_, rfl, _, _, _, _, rfl, rfl, tT h, rfl, rfl, _, rfl, iteFe (by decide +kernel) ?_⟩
    refine ⟨_, rfl, _, _, _, _, rfl, rfl, tT h, rfl, rfl, _, rfl, iteFe (by decide +kernel) ?_⟩
    refine ⟨_, rfl, _, _, _, _, rfl, rfl, tT h, rfl, _, rfl, ?_⟩
    refine ⟨_, k1, a, es, rfl, hx, hl.1, by omega, ha, hs, fun m1 z1 H1 e1 => ?_, fun z => t (by rw [sizeO, z]; rfl)⟩
    refine ⟨_, rfl, _, _, _, _, rfl, rfl, tT (e1 _ _ h), rfl, _, rfl, ?_⟩
    refine ⟨_, k2, a, es, rfl, hy.same e1, hl.2, by omega, e1 _ _ ha, hs, fun m2 z2 H2 e2 => ?_, fun z => (t (by rw [sizeO, z1, z]; rfl)).from e1⟩
    refine ⟨_, _, rfl, ?_⟩
    have e3 := e1.trans e2
    refine ⟨_, rfl, _, _, _, _, rfl, rfl, tT (e3 _ _ h), rfl, rfl, _, rfl, iteTe rfl ?_⟩
    have l1 := sizeO_lt hs.le z1
    have l2 := sizeO_lt hs.le z2
    refine ⟨_, rfl, _, rfl, _, _, rfl, rfl, wide_mul (nlt l1) (nlt l2) (by omega) (by omega) (by omega), ?_⟩
    have zz : sizeO (ev es) (.pair k1 k2) = mulO m1 m2 := by rw [sizeO, z1, z2]; rfl
    refine ⟨_, rfl, fun l => ?_, fun l => (t ?_).from e3⟩
    · rw [big_nat, ← Int.natCast_mul] at l
      have r := q (m1 * m2) (by rw [zz, mulO, if_pos (Int.ofNat_lt.mp l)]) _ e3
      rw [Int.natCast_mul] at r
      exact r
    · rw [big_nat, ← Int.natCast_mul] at l
      rw [zz, mulO, if_neg (Nat.not_lt.mpr (Int.ofNat_le.mp l))]
  | @fn c x y k1 k2 h hx hy =>
    simp only [Kd.depth] at hd
    simp only [Kd.lets] at hl
    refine ⟨_, rfl, _, _, _, _, rfl, rfl, tT h, rfl, rfl, _, rfl, iteFe (by decide +kernel) ?_⟩
    refine ⟨_, rfl, _, _, _, _, rfl, rfl, tT h, rfl, rfl, _, rfl, iteFe (by decide +kernel) ?_⟩
    refine ⟨_, rfl, _, _, _, _, rfl, rfl, tT h, rfl, _, rfl, ?_⟩
    refine ⟨_, k1, a, es, rfl, hx, hl.1, by omega, ha, hs, fun m1 z1 H1 e1 => ?_, fun z => t (by rw [sizeO, z]; rfl)⟩
    refine ⟨_, rfl, _, _, _, _, rfl, rfl, tT (e1 _ _ h), rfl, _, rfl, ?_⟩
    refine ⟨_, k2, a, es, rfl, hy.same e1, hl.2, by omega, e1 _ _ ha, hs, fun m2 z2 H2 e2 => ?_, fun z => (t (by rw [sizeO, z1, z]; rfl)).from e1⟩
    refine ⟨_, _, rfl, ?_⟩
    have e3 := e1.trans e2
    refine ⟨_, rfl, _, _, _, _, rfl, rfl, tT (e3 _ _ h), rfl, rfl, _, rfl, iteFe (by decide +kernel) ?_⟩
    have l1 := sizeO_lt hs.le z1
    have l2 := sizeO_lt hs.le z2
    have zz : sizeO (ev es) (.fn k1 k2) = pwO m2 m1 := by rw [sizeO, z1, z2]; rfl
    refine ⟨_, rfl, _, rfl, m2, m1, rfl, l2, l1, fun r z => q r (zz.trans z) _ e3, fun z => (t (zz.trans z)).from e3⟩
theorem fn_noneX {CX : CXT} {f : Addr} {fd : FuncData} {m : Nat} {ps : List Str} {sp : Sp} (no : ∀ vs H Q E, ¬ sp vs H Q E) : FnOk P w K mg base CX m f fd ps sp :=
  ⟨fun vs H Q E h => absurd h (no vs H Q E), fun A outer s H args us vs Q E _ _ _ _ h => absurd h (no vs H Q E)⟩
theorem ok_size_by {f g h : Addr} {fd gd hd : FuncData} (D_size_by : FD K mg "size_by" s_size_by ["kind", "sizes"] f fd) (D_want_digits : FD K mg "want_digits" s_want_digits ["number"] g gd) (D_power_of : FD K mg "power_of" s_power_of ["number", "many"] h hd) (T : Cs K mg aDOUBLE)
    (G_want_digits : FnOk P w K mg base (L2.CX P w) 3 g gd ["number"] (sp_want_digits C)) (G_power_of : FnOk P w K mg base (L2.CX P w) 4 h hd ["number", "many"] (sp_power_of C)) : ∀ n, FnOk P w K mg base (L2.CX P w) (n + 4) f fd ["kind", "sizes"] (sp_size_by C n)
  | 0 => fn_noneX fun vs H Q E h => by
    obtain ⟨v, k, a, es, _, _, _, h, _⟩ := h
    have := k.depth_pos
    omega
  | n + 1 => size_by_step D_size_by D_want_digits D_power_of T G_want_digits G_power_of (ok_size_by D_size_by D_want_digits D_power_of T G_want_digits G_power_of n)
def numV : Option Nat → V
  | some m => .int (m : Int)
  | none => .non
theorem S_size_or_none : FnScope ["kind", "sizes"] ["kind", "sizes"] (defScope s_size_or_none) := ⟨rfl, rfl, rfl, by decide +kernel, rfl, by decide +kernel, by decide +kernel⟩
def sp_size_or_none : Sp := fun vs H Q _ => ∃ (v : V) (k : Kd) (a : Addr) (es : List Nat), vs = [v, .ref a] ∧ At H v k ∧ k.lets 6 ∧ k.depth ≤ 12 ∧ H a = some (LI es) ∧ Szs es ∧ ∀ H', Same H H' → Q (numV (sizeO (ev es) k)) H'
theorem ok_size_or_none {f g : Addr} {fd gd : FuncData} (D : FD K mg "size_or_none" s_size_or_none ["kind", "sizes"] f fd) (D_size_by : FD K mg "size_by" s_size_by ["kind", "sizes"] g gd) (M : Tm K mg C L fI fdI)
    (G_size_by : FnOk P w K mg base (L2.CX P w) 16 g gd ["kind", "sizes"] (sp_size_by C 12)) : FnOk P w K mg base CX0 17 f fd ["kind", "sizes"] sp_size_or_none := by
  refine D.fn.ok S_size_or_none (fun vs H Q E h => ?_) (fun cdv A outer s H vs Q E hr h => ?_)
  · obtain ⟨v, k, a, es, rfl, _⟩ := h
    rfl
  obtain ⟨v, k, a, es, rfl, hv, hl, hd, ha, hs, q⟩ := h
  refine ⟨_, pss_one (ps_try_only (tb := fun W => tRet (tCallS (sp_size_by C 12) (WE W) (tCons (tVar 0) (tCons (tVar 1) tNil)))) (ts := fun _ _ _ => tRet (tC .non)) (Wout := fun _ _ _ _ => False) rfl rfl ⟨rfl, by decide, Or.inl M.gL⟩ takes0
    (fun W pn xe tk _ => pss_one (ps_ret (pe_callS G_size_by hr rfl D_size_by.m D_size_by.fn.kp D_size_by.b (fun σ => passAt tk σ) (pa_cons (pv 0) (pa_cons (pv 1) pa_nil)))))
    (fun b oe cls d pn hz hf => pss_one (ps_ret pe_non))), ?_⟩
  refine ⟨_, rfl, _, rfl, v, k, a, es, rfl, hv, hl, hd, ha, hs, fun m z H1 e1 => ?_, fun z d H1 e1 x1 => ?_⟩
  · have := q _ e1
    rw [z] at this
    exact this
  · refine ⟨true, M.eL, fun _ b _ => ?_, fun z => Bool.noConfusion z⟩
    have := q _ e1
    rw [z] at this
    exact this
end
end T84

/-! l84 -/
namespace L2
open PySem PySem.Spec PyProof.Rows
abbrev newSet (w : World) : Obj := { cls := .type "set", dict := none, data := .set #[] 0 (.fresh 0 0 (!w.params.followText "set-order")) }
section
variable {P : Program} {w : World} {A : Around} {E : Value → Shared → Prop} {s : Shared}
/-- set(xs) of a list of ints, the order told -/
theorem set_of_list {l : Addr} {vs : Array Value} (ns : List Int) {Q : Value → Shared → Prop} (hh : A.handled = none) (hl : s.heap.IsList l vs) (hit : IntsAre vs.toList ns) (hb : ns.length + 1 < scanBound)
    (h : ∀ (h1 : Heap) (tk c : Nat), SetR w h1 s.heap.objs.size (fun j => decide (j ∈ ns)) c → c ≤ ns.length → (∀ b o, s.heap.get? b = some o → h1.get? b = some o) → Q (.ref s.heap.objs.size) { s with heap := h1, toks := tk }) :
    wpAny (model P w) A (call (.type "set") [.ref l]) Q E s := by
  have sz : vs.size = ns.length := by
    have z := IntsAre.length hit
    rw [Array.length_toList] at z
    exact z
  obtain ⟨x1, x2, x3⟩ := F.called_set.mro
  have x4 := F.called_set.made
  have x5 := F.called_set.sub
  refine wpAny_call (codeAny_of_tree ?_)
  show wpAny _ _ (callAny (.type "set") _) _ _ _
  refine wpAny_pure ⟨Code.quiet_builtin _ (by decide +kernel), codeAny_builtin F.entry_type_call ?_⟩
  rw [Around.under_plain (weight_type_call_type "set" [.ref l] []) rfl]
  have y1 := F.called_set.notType
  have y2 := F.called_set.canCreate
  have y3 := F.typeCall_set_1 (.ref l)
  repeat (any_goals (first | assumption | wp_step))
  refine codeAny_mono (code_set_led1 (.ref l) (E := E) (Q₁ := fun z s1 => z = .ref s.heap.objs.size ∧ s1 = { s with heap := s.heap.push (newSet w) }) ⟨rfl, rfl⟩) fun r s1 hr => ?_
  cases r with
  | error e => exact hr
  | ok fl =>
    cases fl with
    | ret z =>
      obtain ⟨rfl, rfl⟩ := hr
      have hS : (s.heap.push (newSet w)).get? s.heap.objs.size = some (newSet w) := Heap.get?_push_size _ rfl
      have hT : Shared.TypeIs { s with heap := s.heap.push (newSet w) } (.ref s.heap.objs.size) "set" := ⟨_, hS, rfl⟩
      have z1 := F.called_set.init.lookup
      have z2 := F.called_set.init.bind (.ref s.heap.objs.size)
      repeat (any_goals (first | assumption | wp_step))
      refine codeAny_mono (codeAny_call_builtin (R := wants (fun r s2 => r = .none ∧ ∃ h1 tk c, s2 = { s with heap := h1, toks := tk } ∧ SetR w h1 s.heap.objs.size (fun j => decide (j ∈ ns)) c ∧ c ≤ ns.length ∧
          (∀ b o, s.heap.get? b = some o → h1.get? b = some o)) E) F.called_set.init.plain F.entry_set_init (check_set_init_1 hT ?_)) fun r2 s2 hr2 => ?_
      · obtain ⟨ol, hol, hcl, nl, hdl⟩ := hl
        obtain ⟨oc, od, odt, osl⟩ := ol
        simp only at hcl hdl
        subst hcl; subst hdl
        have hol1 : (s.heap.push (newSet w)).get? l = some { cls := .type "list", dict := od, data := .seq vs nl, slots := osl } := Heap.get?_push_of_some _ hol
        have b1 := F.sub_list_set
        have b2 := F.sub_list_frozenset
        have b3 : (Value.type "list" == Value.type "dict") = false := by decide
        have hl1 : (s.heap.push (newSet w)).IsList l vs := ⟨_, hol1, rfl, nl, rfl⟩
        unfold Builtin.«set.__init__» noKeywords Builtin.Frozenset.updateFrom
        generalize hI : pyIter = PI
        wp_walk
        subst hI
        refine wpAny_pyIter_list hl1 ?_
        refine wpAny_bind (wpAny_runValue ?_)
        have lt : l < s.heap.objs.size := Heap.lt_size hol
        have h3 : A.in1.in1.in1.handled = none := by simp [hh]
        have nI : l ≠ (s.heap.push (newSet w)).objs.size := by
          rw [Heap.size_push]; exact Nat.ne_of_lt (Nat.lt_succ_of_lt lt)
        have nS : s.heap.objs.size ∉ [(s.heap.push (newSet w)).objs.size, l] := by
          rw [Heap.size_push]; simp only [List.mem_cons, List.mem_singleton, List.not_mem_nil, or_false, not_or]
          exact ⟨Nat.ne_of_lt (Nat.lt_succ_self _), Nat.ne_of_gt lt⟩
        have vals : ∀ (i : Nat) (v : Value), vs[i]? = some v → ∃ k t, ns[i]? = some k ∧ v = .int k t := fun i v hv => by
          have hi : i < ns.length := by rw [← sz]; exact (Array.getElem?_eq_some_iff.mp hv).1
          obtain ⟨t, e⟩ := PyProof.Rows.IntsAre.int_at hit i v (by rw [Array.getElem?_toList]; exact hv)
          refine ⟨ns[i], t, List.getElem?_eq_getElem hi, ?_⟩
          rw [e, List.getD_eq_getElem?_getD, List.getElem?_eq_getElem hi] <;> rfl
        refine set_update_ints ((Walks.list h3 _ l nI vs).toS) s.heap.objs.size
          nS ns sz hb vals (vs.size - 0) 0 _ (by omega) (Nat.zero_le _)
          ⟨⟨_, Heap.get?_push_size _ rfl, rfl, rfl⟩, (hl1.push _)⟩ ⟨0, Nat.le_refl 0, setR_new_at (Heap.get?_push_of_some _ hS)⟩ ?_
        intro s3 c1 hm hc1 hS1
        obtain ⟨h1, g2, d1, tk1, os1⟩ := s3
        have eg : g2 = s.gens := hm.gens
        have ed : d1 = s.drawn := hm.drawn
        have eo : os1 = s.os := hm.os
        subst eg; subst ed; subst eo
        show wpAny _ _ _ _ _ _
        refine wpAny_pure ?_
        show wpAny _ _ (ret Value.none) _ _ _
        rw [sz] at hc1
        refine wpAny_pure ⟨rfl, h1, tk1, c1, rfl, hS1, hc1, fun b o e => ?_⟩
        have q0 : b < s.heap.objs.size := Heap.lt_size e
        have q1 : b ≠ s.heap.objs.size := Nat.ne_of_lt q0
        have q2 : b ≠ (s.heap.push (newSet w)).objs.size := by
          rw [Heap.size_push]; exact Nat.ne_of_lt (Nat.lt_succ_of_lt q0)
        exact hm.heap b o (by simp only [List.mem_cons, List.mem_singleton, List.not_mem_nil, or_false, not_or]; exact ⟨q1, q2⟩) (Heap.get?_push_of_some _ (Heap.get?_push_of_some _ e))
      · cases r2 with
        | error e => exact hr2
        | ok f2 =>
          cases f2 with
          | ret r =>
            obtain ⟨rfl, h1, tk, c1, rfl, hS1, hc1, hk1⟩ := hr2
            repeat (any_goals (first | assumption | wp_step))
            exact h _ _ _ hS1 hc1 hk1
          | _ => exact hr2.elim
    | _ => exact hr.elim
end
section
variable {X : Cx}
/-- set(xs), xs a list of ints -/
def rSetLi (K : PySem.W.Frag) (w : World) : List V → Hp → VK → Prop := fun xs H Q => ∃ (l : Addr) (ns : List Int), xs = [V.ref l] ∧ SqL K H l (ns.map V.int) ∧ ns.length + 1 < scanBound ∧
  ∀ a c, H a = none → c ≤ ns.length → Q (.ref a) (upd H a (SetO w a (fun j => decide (j ∈ ns)) c))
theorem cr_setLi (hc : X.calm = true) : CallR X (.type "set") (rSetLi X.K X.w) := by
  intro pins s σ H xs us Q I r h
  obtain ⟨l, ns, rfl, hl, hb, q⟩ := h
  rw [Vals.ref1 r]
  obtain ⟨its, rv, pl, hz⟩ := I.list hl
  refine set_of_list (P := X.prog) (w := X.w) ns (I.ok.hd hc) pl.isList (by simpa using ints_of_vals rv) hb fun h1 tk c R hc1 k => ?_
  exact ⟨.ref s.heap.objs.size, upd H s.heap.objs.size (SetO X.w s.heap.objs.size (fun j => decide (j ∈ ns)) c), I.laid (t' := tk) k (Nat.le_refl _) (setO_new R), rfl, q _ c (I.hok.fresh (Nat.le_refl _)) hc1⟩
end
end L2

/-! m84 -/
namespace T84
open PySem L2
abbrev s_letters_of : Stmt := top 25
abbrev s__law_letters : Stmt := top 63
namespace Kd
/-- the letter j occurs -/
def has (j : Int) : Kd → Prop
  | let_ i => j = i
  | one => False
  | pair a b => a.has j ∨ b.has j
  | fn a b => a.has j ∨ b.has j
theorem has_lt {j : Int} {m : Nat} : ∀ {k : Kd}, k.lets m → k.has j → 0 ≤ j ∧ j < m
  | let_ i, h, q => by
    rw [has] at q
    rw [lets] at h
    omega
  | one, h, q => by rw [has] at q; exact q.elim
  | pair a b, h, q => by
    rw [has] at q
    rw [lets] at h
    rcases q with q | q
    · exact has_lt h.1 q
    · exact has_lt h.2 q
  | fn a b, h, q => by
    rw [has] at q
    rw [lets] at h
    rcases q with q | q
    · exact has_lt h.1 q
    · exact has_lt h.2 q
end Kd
/-- rising whole numbers between lo and lo + n are at most n -/
theorem rising_len : ∀ {ns : List Int} {lo : Int} {n : Nat}, ns.Pairwise (· < ·) → (∀ j ∈ ns, lo ≤ j ∧ j < lo + n) → ns.length ≤ n
  | [], lo, n, _, _ => Nat.zero_le _
  | x :: ns, lo, n, h, q => by
    have hx := q x List.mem_cons_self
    rw [List.pairwise_cons] at h
    match n, hx with
    | n + 1, hx =>
      have := rising_len (lo := lo + 1) (n := n) h.2 fun j hj => by
        have h1 := h.1 j hj
        have h2 := q j (List.mem_cons_of_mem _ hj)
        omega
      rw [List.length_cons]
      omega
    | 0, hx => omega
/-- the letters' list -/
structure Lts (k : Int → Prop) (ns : List Int) : Prop where
  r : ns.Pairwise (· < ·)
  m : ∀ j, j ∈ ns ↔ k j
  l : ns.length ≤ 6
theorem Lts.of {p : Int → Prop} {ns : List Int} (r : ns.Pairwise (· < ·)) (m : ∀ j, j ∈ ns ↔ p j) (b : ∀ j, p j → 0 ≤ j ∧ j < 6) : Lts p ns :=
  ⟨r, m, rising_len (lo := 0) (n := 6) r fun j hj => by
    have := b j ((m j).mp hj)
    omega⟩
theorem len1 : decide (V.int ((1 : Nat) : Int) = V.int 3) = false := by decide +kernel
theorem len2 : decide (V.int ((2 : Nat) : Int) = V.int 3) = false := by decide +kernel
theorem len3 : decide (V.int ((3 : Nat) : Int) = V.int 3) = true := by decide +kernel
theorem scan12 {n : Nat} (h : n ≤ 12) : n + 1 < scanBound := by
  unfold scanBound
  omega
section
variable {P : Program} {w : World} {K : PySem.W.Frag} {mg : Str → Option Value} {base : Heap} {aDOUBLE C L fI : Addr} {fdI : FuncData}
theorem S_letters_of : FnScope ["kind"] ["kind"] (defScope s_letters_of) := ⟨rfl, rfl, rfl, by decide +kernel, rfl, by decide +kernel, by decide +kernel⟩
def sp_letters_of (n : Nat) : Sp := fun vs H Q _ => ∃ (v : V) (k : Kd), vs = [v] ∧ At H v k ∧ k.lets 6 ∧ k.depth ≤ n ∧ ∀ p H' ns, Same H H' → H' p = some (.lst (ns.map V.int)) → Lts (fun j => k.has j) ns → Q (.ref p) H'
/-- the end of both: sorted(set(near + far)) -/
theorem letters_join {H H2 : Hp} {k1 k2 : Kd} {p1 p2 : Addr} {ns ms : List Int} {Q : VK} (l1 : Lts (fun j => k1.has j) ns) (l2 : Lts (fun j => k2.has j) ms) (b1 : k1.lets 6) (b2 : k2.lets 6)
    (h1 : H2 p1 = some (.lst (ns.map V.int))) (h2 : H2 p2 = some (.lst (ms.map V.int))) (e : Same H H2)
    (q : ∀ p H' ns, Same H H' → H' p = some (.lst (ns.map V.int)) → Lts (fun j => k1.has j ∨ k2.has j) ns → Q (.ref p) H') :
    rCat (.ref p1) (.ref p2) H2 fun v H3 => rSetLi K w [v] H3 fun u H4 => rSortedSet w [u] H4 Q := by
  refine ⟨p1, p2, _, _, rfl, rfl, h1, h2, size1000 (by have := l1.l; have := l2.l; simp only [List.length_map]; omega), fun p hp => ?_⟩
  refine ⟨p, ns ++ ms, rfl, by rw [List.map_append]; exact tL upd_same, scan12 (by have := l1.l; have := l2.l; rw [List.length_append]; omega), fun a c ha hc => ?_⟩
  refine ⟨a, _, c, rfl, upd_same, by have := l1.l; have := l2.l; rw [List.length_append] at hc; omega, fun rs p3 hr hm hl hp3 => ?_⟩
  refine q p3 _ rs (e.trans ((Same.new hp _).trans ((Same.new ha _).trans (Same.new hp3 _)))) upd_same (Lts.of hr (fun j => ?_) fun j hj => ?_)
  · rw [hm j, decide_eq_true_eq, List.mem_append, l1.m, l2.m]
  · rcases hj with hj | hj
    · exact Kd.has_lt b1 hj
    · exact Kd.has_lt b2 hj
theorem letters_of_step {n : Nat} {f : Addr} {fd : FuncData} (D_letters_of : FD K mg "letters_of" s_letters_of ["kind"] f fd) (T : Cs K mg aDOUBLE) (G_letters_of : FnOk P w K mg base CX0 n f fd ["kind"] (sp_letters_of n)) :
    FnOk P w K mg base CX0 (n + 1) f fd ["kind"] (sp_letters_of (n + 1)) := by
  refine D_letters_of.fn.ok S_letters_of (fun vs H Q E h => ?_) (fun cdv A outer s H vs Q E hr h => ?_)
  · obtain ⟨v, k, rfl, _⟩ := h
    rfl
  obtain ⟨v, k, rfl, hv, hl, hd, q⟩ := h
  refine ⟨_, (pss_cons (ps_if (pt_cmpR op_eq (pe_ix ix_tup (pv 0) pe_int (fun _ _ => rfl)) (pe_gs T.LETTER) (nomark _)) (pss_one (ps_ret (pe_lst (pa_cons (pe_ix ix_tup (pv 0) pe_int (fun _ _ => rfl)) pa_nil)))) pss_nil)
    (pss_cons (ps_if (pt_cmpR op_eq (pe_ix ix_tup (pv 0) pe_int (fun _ _ => rfl)) (pe_gs T.ONE) (nomark _)) (pss_one (ps_ret (pe_lst pa_nil))) pss_nil)
    (pss_one (ps_ret (pe_callB (cr_sortedSet rfl) (by rfl) T.z_sorted (by decide +kernel) (pa_cons (pe_callTy (cr_setLi rfl) (by rfl) T.z_set (by decide +kernel) (pa_cons (pe_op op_cat (pe_call G_letters_of hr rfl D_letters_of.m D_letters_of.fn.kp D_letters_of.b .nil pass0 (pa_cons (pe_ix ix_tup (pv 0) pe_int (fun _ _ => rfl)) pa_nil)) (pe_call G_letters_of hr rfl D_letters_of.m D_letters_of.fn.kp D_letters_of.b .nil pass0 (pa_cons (pe_ix ix_tup (pv 0) pe_int (fun _ _ => rfl)) pa_nil))) pa_nil)) pa_nil)))))), ?_⟩
  cases hv with
  | @let_ a i h =>
    refine ⟨_, rfl, _, _, _, _, rfl, rfl, tT h, rfl, rfl, _, rfl, iteTe rfl ?_⟩
    refine ⟨_, rfl, _, _, _, _, rfl, rfl, tT h, rfl, size1, fun p hp => ?_⟩
    exact q p _ [(i : Int)] (Same.new hp _) upd_same (Lts.of (List.pairwise_singleton _ _) (fun j => by rw [List.mem_singleton]; rfl) fun j hj => Kd.has_lt hl hj)
  | one h =>
    refine ⟨_, rfl, _, _, _, _, rfl, rfl, tT h, rfl, rfl, _, rfl, iteFe (by decide +kernel) ?_⟩
    refine ⟨_, rfl, _, _, _, _, rfl, rfl, tT h, rfl, rfl, _, rfl, iteTe rfl ?_⟩
    refine ⟨size0, fun p hp => ?_⟩
    exact q p _ [] (Same.new hp _) upd_same ⟨List.Pairwise.nil, fun j => ⟨fun h => by simp at h, fun h => by exact False.elim h⟩, by simp⟩
  | @pair a x y k1 k2 h hx hy =>
    simp only [Kd.depth] at hd
    simp only [Kd.lets] at hl
    refine ⟨_, rfl, _, _, _, _, rfl, rfl, tT h, rfl, rfl, _, rfl, iteFe (by decide +kernel) ?_⟩
    refine ⟨_, rfl, _, _, _, _, rfl, rfl, tT h, rfl, rfl, _, rfl, iteFe (by decide +kernel) ?_⟩
    refine ⟨_, rfl, _, _, _, _, rfl, rfl, tT h, rfl, _, _, rfl, hx, hl.1, by omega, fun p1 H1 ns e1 h1 l1 => ?_⟩
    refine ⟨_, rfl, _, _, _, _, rfl, rfl, tT (e1 _ _ h), rfl, _, _, rfl, hy.same e1, hl.2, by omega, fun p2 H2 ms e2 h2 l2 => ?_⟩
    exact letters_join (K := K) (w := w) l1 l2 hl.1 hl.2 (e2 _ _ h1) h2 (e1.trans e2) q
  | @fn a x y k1 k2 h hx hy =>
    simp only [Kd.depth] at hd
    simp only [Kd.lets] at hl
    refine ⟨_, rfl, _, _, _, _, rfl, rfl, tT h, rfl, rfl, _, rfl, iteFe (by decide +kernel) ?_⟩
    refine ⟨_, rfl, _, _, _, _, rfl, rfl, tT h, rfl, rfl, _, rfl, iteFe (by decide +kernel) ?_⟩
    refine ⟨_, rfl, _, _, _, _, rfl, rfl, tT h, rfl, _, _, rfl, hx, hl.1, by omega, fun p1 H1 ns e1 h1 l1 => ?_⟩
    refine ⟨_, rfl, _, _, _, _, rfl, rfl, tT (e1 _ _ h), rfl, _, _, rfl, hy.same e1, hl.2, by omega, fun p2 H2 ms e2 h2 l2 => ?_⟩
    exact letters_join (K := K) (w := w) l1 l2 hl.1 hl.2 (e2 _ _ h1) h2 (e1.trans e2) q
theorem ok_letters_of {f : Addr} {fd : FuncData} (D : FD K mg "letters_of" s_letters_of ["kind"] f fd) (T : Cs K mg aDOUBLE) : ∀ n, FnOk P w K mg base CX0 n f fd ["kind"] (sp_letters_of n)
  | 0 => fn_none fun vs H Q E h => by
    obtain ⟨v, k, _, _, _, h, _⟩ := h
    have := k.depth_pos
    omega
  | n + 1 => letters_of_step D T (ok_letters_of D T n)
theorem S__law_letters : FnScope ["kind"] ["kind"] (defScope s__law_letters) := ⟨rfl, rfl, rfl, by decide +kernel, rfl, by decide +kernel, by decide +kernel⟩
theorem _law_letters_step {n : Nat} {f : Addr} {fd : FuncData} (D__law_letters : FD K mg "_law_letters" s__law_letters ["kind"] f fd) (T : Cs K mg aDOUBLE) (G__law_letters : FnOk P w K mg base CX0 n f fd ["kind"] (sp_letters_of n)) :
    FnOk P w K mg base CX0 (n + 1) f fd ["kind"] (sp_letters_of (n + 1)) := by
  refine D__law_letters.fn.ok S__law_letters (fun vs H Q E h => ?_) (fun cdv A outer s H vs Q E hr h => ?_)
  · obtain ⟨v, k, rfl, _⟩ := h
    rfl
  obtain ⟨v, k, rfl, hv, hl, hd, q⟩ := h
  refine ⟨_, (pss_cons (ps_if (pt_cmpR op_eq (pe_callB call_len (by rfl) T.z_len PySem.boot_len (pa_cons (pv 0) pa_nil)) pe_int (nomark _)) (pss_one (ps_ret (pe_callB (cr_sortedSet rfl) (by rfl) T.z_sorted (by decide +kernel) (pa_cons (pe_callTy (cr_setLi rfl) (by rfl) T.z_set (by decide +kernel) (pa_cons (pe_op op_cat (pe_call G__law_letters hr rfl D__law_letters.m D__law_letters.fn.kp D__law_letters.b .nil pass0 (pa_cons (pe_ix ix_tup (pv 0) pe_int (fun _ _ => rfl)) pa_nil)) (pe_call G__law_letters hr rfl D__law_letters.m D__law_letters.fn.kp D__law_letters.b .nil pass0 (pa_cons (pe_ix ix_tup (pv 0) pe_int (fun _ _ => rfl)) pa_nil))) pa_nil)) pa_nil)))) pss_nil)
    (pss_one (ps_ret (pe_ifExp (pt_cmpR op_eq (pe_ix ix_tup (pv 0) pe_int (fun _ _ => rfl)) pe_str (nomark _)) (pe_lst (pa_cons (pe_ix ix_tup (pv 0) pe_int (fun _ _ => rfl)) pa_nil)) (pe_lst pa_nil))))), ?_⟩
  cases hv with
  | @let_ a i h =>
    refine ⟨_, rfl, _, _, rfl, .inr ⟨_, tT h, rfl⟩, rfl, _, rfl, iteFe len2 ?_⟩
    refine ⟨_, rfl, _, _, _, _, rfl, rfl, tT h, rfl, rfl, _, rfl, iteTe rfl ?_⟩
    refine ⟨_, rfl, _, _, _, _, rfl, rfl, tT h, rfl, size1, fun p hp => ?_⟩
    exact q p _ [(i : Int)] (Same.new hp _) upd_same (Lts.of (List.pairwise_singleton _ _) (fun j => by rw [List.mem_singleton]; rfl) fun j hj => Kd.has_lt hl hj)
  | one h =>
    refine ⟨_, rfl, _, _, rfl, .inr ⟨_, tT h, rfl⟩, rfl, _, rfl, iteFe len1 ?_⟩
    refine ⟨_, rfl, _, _, _, _, rfl, rfl, tT h, rfl, rfl, _, rfl, iteFe (by decide +kernel) ?_⟩
    refine ⟨size0, fun p hp => ?_⟩
    exact q p _ [] (Same.new hp _) upd_same ⟨List.Pairwise.nil, fun j => ⟨fun h => by simp at h, fun h => by exact False.elim h⟩, by simp⟩
  | @pair a x y k1 k2 h hx hy =>
    simp only [Kd.depth] at hd
    simp only [Kd.lets] at hl
    refine ⟨_, rfl, _, _, rfl, .inr ⟨_, tT h, rfl⟩, rfl, _, rfl, iteTe len3 ?_⟩
    refine ⟨_, rfl, _, _, _, _, rfl, rfl, tT h, rfl, _, _, rfl, hx, hl.1, by omega, fun p1 H1 ns e1 h1 l1 => ?_⟩
    refine ⟨_, rfl, _, _, _, _, rfl, rfl, tT (e1 _ _ h), rfl, _, _, rfl, hy.same e1, hl.2, by omega, fun p2 H2 ms e2 h2 l2 => ?_⟩
    exact letters_join (K := K) (w := w) l1 l2 hl.1 hl.2 (e2 _ _ h1) h2 (e1.trans e2) q
  | @fn a x y k1 k2 h hx hy =>
    simp only [Kd.depth] at hd
    simp only [Kd.lets] at hl
    refine ⟨_, rfl, _, _, rfl, .inr ⟨_, tT h, rfl⟩, rfl, _, rfl, iteTe len3 ?_⟩
    refine ⟨_, rfl, _, _, _, _, rfl, rfl, tT h, rfl, _, _, rfl, hx, hl.1, by omega, fun p1 H1 ns e1 h1 l1 => ?_⟩
    refine ⟨_, rfl, _, _, _, _, rfl, rfl, tT (e1 _ _ h), rfl, _, _, rfl, hy.same e1, hl.2, by omega, fun p2 H2 ms e2 h2 l2 => ?_⟩
    exact letters_join (K := K) (w := w) l1 l2 hl.1 hl.2 (e2 _ _ h1) h2 (e1.trans e2) q
theorem ok__law_letters {f : Addr} {fd : FuncData} (D : FD K mg "_law_letters" s__law_letters ["kind"] f fd) (T : Cs K mg aDOUBLE) : ∀ n, FnOk P w K mg base CX0 n f fd ["kind"] (sp_letters_of n)
  | 0 => fn_none fun vs H Q E h => by
    obtain ⟨v, k, _, _, _, h, _⟩ := h
    have := k.depth_pos
    omega
  | n + 1 => _law_letters_step D T (ok__law_letters D T n)
end
end T84

/-! n84 -/
namespace T84
open PySem L2
abbrev s_tried_sizes : Stmt := top 45
abbrev s__law_tried : Stmt := top 64
/-! ### the sizes that are tried -/
def grow (n : Nat) (rows : List (List Nat)) : List (List Nat) := rows.flatMap fun low => (List.range n).map fun i => low ++ [i]
def wid (ns : List Int) (i : Nat) : Nat := if (i : Int) ∈ ns then 4 else 1
def tr (ns : List Int) : Nat → List (List Nat)
  | 0 => [[]]
  | i + 1 => grow (wid ns i) (tr ns i)
theorem wid_le (ns : List Int) (i : Nat) : wid ns i ≤ 4 := by
  unfold wid
  split <;> omega
theorem grow_len (n : Nat) : ∀ rows : List (List Nat), (grow n rows).length = n * rows.length
  | [] => rfl
  | r :: rows => by
    show ((List.range n).map _ ++ grow n rows).length = _
    rw [List.length_append, List.length_map, List.length_range, grow_len n rows, List.length_cons, Nat.mul_add, Nat.mul_one, Nat.add_comm]
theorem tr_len (ns : List Int) : ∀ i, (tr ns i).length ≤ 4 ^ i
  | 0 => by simp [tr]
  | i + 1 => by
    rw [tr, grow_len, Nat.pow_succ, Nat.mul_comm]
    exact Nat.mul_le_mul (tr_len ns i) (wid_le ns i)
theorem tr_len6 (ns : List Int) {i : Nat} (h : i ≤ 6) : (tr ns i).length ≤ 4096 := Nat.le_trans (tr_len ns i) (Nat.le_trans (Nat.pow_le_pow_right (by omega) h) (by decide))
theorem tr_congr {ns ms : List Int} (h : ∀ j, j ∈ ns ↔ j ∈ ms) : ∀ i, tr ns i = tr ms i
  | 0 => rfl
  | i + 1 => by
    have w : wid ns i = wid ms i := by
      unfold wid
      by_cases c : (i : Int) ∈ ns
      · rw [if_pos c, if_pos ((h _).mp c)]
      · rw [if_neg c, if_neg (fun z => c ((h _).mpr z))]
    rw [tr, tr, tr_congr h i, w]
theorem tr_szs (ns : List Int) : ∀ i, ∀ es ∈ tr ns i, es.length = i ∧ ∀ x ∈ es, x ≤ 3
  | 0, es, h => by
    rw [tr, List.mem_singleton] at h
    subst h
    exact ⟨rfl, fun x hx => by simp at hx⟩
  | i + 1, es, h => by
    rw [tr, grow, List.mem_flatMap] at h
    obtain ⟨low, h1, h2⟩ := h
    obtain ⟨k, h3, rfl⟩ := List.mem_map.mp h2
    have w := wid_le ns i
    have h3 := List.mem_range.mp h3
    obtain ⟨a, b⟩ := tr_szs ns i low h1
    refine ⟨by rw [List.length_append, a]; rfl, fun x hx => ?_⟩
    rcases List.mem_append.mp hx with hx | hx
    · exact b x hx
    · rw [List.mem_singleton.mp hx]
      omega
theorem tr_ok {ns : List Int} {es : List Nat} (h : es ∈ tr ns 6) : Szs es := by
  obtain ⟨a, b⟩ := tr_szs ns 6 es h
  refine ⟨a, fun i => ?_⟩
  rw [List.getD_eq_getElem?_getD]
  cases e : es[i]? with
  | none => exact Nat.zero_le _
  | some x => exact b x (List.mem_of_getElem? e)
theorem grow_take {n j : Nat} {rows : List (List Nat)} {es : List Nat} (h : rows[j]? = some es) : grow n (rows.take (j + 1)) = grow n (rows.take j) ++ (List.range n).map fun i => es ++ [i] := by
  unfold grow
  rw [List.take_add_one, h, List.flatMap_append]
  simp
/-- a row stands at v -/
def RowAt (H : Hp) (v : V) (es : List Nat) : Prop := ∃ a, v = .ref a ∧ H a = some (LI es)
theorem RowAt.same {H H' : Hp} {v : V} {es : List Nat} (e : Same H H') (h : RowAt H v es) : RowAt H' v es := let ⟨a, r, q⟩ := h; ⟨a, r, e _ _ q⟩
theorem RowAt.keep {q : Addr} {H H' : Hp} {v : V} {es : List Nat} (e : Keep q H H') (n : v ≠ .ref q) (h : RowAt H v es) : RowAt H' v es := let ⟨a, r, z⟩ := h; ⟨a, r, e _ _ (fun c => n (by rw [r, c])) z⟩
theorem RowAt.ne {q : Addr} {H : Hp} {v : V} {es : List Nat} (hq : H q = none) (h : RowAt H v es) : v ≠ .ref q := by
  obtain ⟨a, r, z⟩ := h
  rw [r]
  intro c
  injection c with c
  rw [c, hq] at z
  cases z
inductive RowsAt (H : Hp) : List V → List (List Nat) → Prop
  | nil : RowsAt H [] []
  | cons {x : V} {xs : List V} {e : List Nat} {es : List (List Nat)} (h : RowAt H x e) (hs : RowsAt H xs es) : RowsAt H (x :: xs) (e :: es)
namespace RowsAt
theorem move {H H' : Hp} : ∀ {xs : List V} {es : List (List Nat)}, RowsAt H xs es → (∀ v ∈ xs, ∀ e, RowAt H v e → RowAt H' v e) → RowsAt H' xs es
  | _, _, .nil, _ => .nil
  | _, _, .cons h hs, k => .cons (k _ List.mem_cons_self _ h) (hs.move fun v hv => k v (List.mem_cons_of_mem _ hv))
theorem same {H H' : Hp} {xs : List V} {es : List (List Nat)} (h : RowsAt H xs es) (e : Same H H') : RowsAt H' xs es := h.move fun _ _ _ r => r.same e
theorem keep {q : Addr} {H H' : Hp} {xs : List V} {es : List (List Nat)} (h : RowsAt H xs es) (e : Keep q H H') (n : ∀ v ∈ xs, v ≠ .ref q) : RowsAt H' xs es := h.move fun v hv _ r => r.keep e (n v hv)
theorem ne {q : Addr} {H : Hp} (hq : H q = none) : ∀ {xs : List V} {es : List (List Nat)}, RowsAt H xs es → ∀ v ∈ xs, v ≠ .ref q
  | _, _, .nil, v, h => by simp at h
  | _, _, .cons h hs, v, hv => by
    rcases List.mem_cons.mp hv with e | hv
    · rw [e]
      exact h.ne hq
    · exact RowsAt.ne hq hs v hv
theorem length {H : Hp} : ∀ {xs : List V} {es : List (List Nat)}, RowsAt H xs es → xs.length = es.length
  | _, _, .nil => rfl
  | _, _, .cons _ hs => congrArg (· + 1) hs.length
theorem app {H : Hp} : ∀ {xs ys : List V} {es fs : List (List Nat)}, RowsAt H xs es → RowsAt H ys fs → RowsAt H (xs ++ ys) (es ++ fs)
  | _, _, _, _, .nil, q => q
  | _, _, _, _, .cons h hs, q => .cons h (hs.app q)
theorem get {H : Hp} : ∀ {xs : List V} {es : List (List Nat)} {i : Nat} {x : V}, RowsAt H xs es → xs[i]? = some x → ∃ e, es[i]? = some e ∧ RowAt H x e
  | _, _, _, _, .nil, e => by simp at e
  | _, _, 0, _, .cons h hs, e => by simp at e; subst e; exact ⟨_, rfl, h⟩
  | _, _, i + 1, x, .cons h hs, e => by
    obtain ⟨a, h1, h2⟩ := RowsAt.get (i := i) (x := x) hs (by simpa using e)
    exact ⟨a, by simpa using h1, h2⟩
theorem of {H : Hp} : ∀ {xs : List V} {es : List (List Nat)}, xs.length = es.length → (∀ (i : Nat) x, xs[i]? = some x → ∃ e, es[i]? = some e ∧ RowAt H x e) → RowsAt H xs es
  | [], [], _, _ => .nil
  | [], _ :: _, e, _ => by simp at e
  | _ :: _, [], e, _ => by simp at e
  | x :: xs, a :: as, e, h => by
    refine .cons ?_ (RowsAt.of (by simpa using e) fun i y ey => ?_)
    · obtain ⟨b, h1, h2⟩ := h 0 x rfl
      cases h1
      exact h2
    · obtain ⟨b, h1, h2⟩ := h (i + 1) y (by simpa using ey)
      exact ⟨b, by simpa using h1, h2⟩
end RowsAt
theorem li_app (es : List Nat) (i : Nat) : LI (es ++ [i]) = .lst (es.map (fun n : Nat => V.int (n : Int)) ++ [.int (0 + (i : Int))]) := by
  unfold LI
  rw [List.map_append, Int.zero_add]
  rfl
theorem in_ints (i : Int) : ∀ ns : List Int, inV (.int i) (ns.map V.int) = decide (i ∈ ns)
  | [] => by simp [inV]
  | n :: ns => by
    have ih := in_ints i ns
    unfold inV at ih ⊢
    have e : eqV (.int n) (.int i) = (n == i) := rfl
    rw [List.map_cons, List.any_cons, ih, e]
    by_cases c : i = n
    · subst c
      simp
    · have c2 : ¬ n = i := fun z => c z.symm
      simp [c, c2]
theorem flat_ints (ns : List Int) : (ns.map V.int).all flatV = true := by
  rw [List.all_eq_true]
  intro v hv
  obtain ⟨n, _, rfl⟩ := List.mem_map.mp hv
  rfl
/-- a comprehension over range(n): what each turn makes, R, stays whatever the new list comes to hold -/
theorem lc_mapR {n : Nat} {g : TG} {tt : TT} {te : TE} {vs : List Nat} {σ : St} {H1 : Hp} {D : Addr} {Qd : Hp → Prop} (hD : H1 D = none) (hz : n ≤ sizeLine) (R : Nat → Hp → V → Prop)
    (st : ∀ i H H' y l, H D = some (.lst l) → Keep D H H' → R i H y → R i H' y)
    (hs : ∀ i H l (N : Hp → Prop), i < n → Same H1 H → H D = some (.lst l) →
      (∀ y H4, Keep D H H4 → H4 D = some (.lst l) → R i H4 y → ∃ acc, H4 D = some (.lst acc) ∧ acc.length < sizeLine ∧ N (upd H4 D (.lst (acc ++ [y])))) →
      g (.int (0 + (i : Int))) (wipe σ vs) H fun σ2 H2 => wipe σ2 vs = wipe σ vs ∧ tt σ2 H2 fun b H3 => if b = true then te σ2 H3 fun y H4 => ∃ acc, H4 D = some (.lst acc) ∧ acc.length < sizeLine ∧ N (upd H4 D (.lst (acc ++ [y]))) else N H3)
    (hd : ∀ H ys, Same H1 H → H D = some (.lst ys) → ys.length = n → (∀ i y, ys[i]? = some y → R i H y) → Qd H) :
    ∃ W : Nat → Nat → Hp → Prop, (∃ m, W 0 m (upd H1 D (.lst []))) ∧ ∀ i m H, W i m H →
      ((Itr 0 n).stop i H ∧ Qd H) ∨ ((Itr 0 n).go i H ∧ ∃ Nx : Hp → Prop, (∀ H', Nx H' → ∃ m', m' < m ∧ W (i + 1) m' H') ∧ ∀ x H', (Itr 0 n).yld i H x H' → g x (wipe σ vs) H' fun σ2 H2 => wipe σ2 vs = wipe σ vs ∧ tt σ2 H2 fun b H3 =>
        if b = true then te σ2 H3 fun y H4 => ∃ acc, H4 D = some (.lst acc) ∧ acc.length < sizeLine ∧ Nx (upd H4 D (.lst (acc ++ [y]))) else Nx H3) := by
  have same_of : ∀ {H : Hp}, Keep D H1 H → Same H1 H := fun e b o h => e b o (ne_of_none h hD) h
  refine lc_range (fun i H => i ≤ n ∧ Keep D H1 H ∧ ∃ ys, H D = some (.lst ys) ∧ ys.length = i ∧ ∀ j y, ys[j]? = some y → R j H y) ⟨Nat.zero_le _, Keep.upd _ Keep.refl, [], upd_same, rfl, fun j y e => by simp at e⟩
    (fun i H lt h => ?_) (fun H h => ?_)
  · obtain ⟨hi, hk, ys, hy, hl, hr⟩ := h
    refine hs i H ys _ lt (same_of hk) hy fun y H4 k4 h4 r4 => ?_
    have k5 : Keep D H (upd H4 D (.lst (ys ++ [y]))) := k4.upd _
    refine ⟨ys, h4, by omega, by omega, hk.trans k5, ys ++ [y], upd_same, by simp [hl], fun j z ez => ?_⟩
    by_cases c : j < ys.length
    · rw [List.getElem?_append_left c] at ez
      exact st j _ _ z ys hy k5 (hr j z ez)
    · have cj : j = i := by
        have := (List.getElem?_eq_some_iff.mp ez).1
        simp at this
        omega
      subst cj
      rw [List.getElem?_append_right (by omega)] at ez
      have e0 : j - ys.length = 0 := by omega
      rw [e0] at ez
      cases ez
      exact st j _ _ y ys h4 (Keep.upd _ Keep.refl) r4
  · obtain ⟨hi, hk, ys, hy, hl, hr⟩ := h
    exact hd H ys (same_of hk) hy hl hr
end T84

/-! o84 -/
namespace T84
open PySem L2
section
variable {P : Program} {w : World} {K : PySem.W.Frag} {mg : Str → Option Value} {base : Heap} {aDOUBLE C L fI : Addr} {fdI : FuncData}
def sp_tried : Sp := fun vs H Q _ => ∃ (a : Addr) (ns : List Int), vs = [.ref a] ∧ H a = some (.lst (ns.map V.int)) ∧ ∀ p H' ps, Same H H' → H' p = some (.lst ps) → RowsAt H' ps (tr ns 6) → Q (.ref p) H'
theorem wid_is (ns : List Int) (i : Nat) : (if inV (.int (0 + (i : Int))) (ns.map V.int) = true then (4 : Int) else 1) = (wid ns i : Nat) := by
  rw [Int.zero_add, in_ints]
  unfold wid
  by_cases c : (i : Int) ∈ ns
  · rw [if_pos (decide_eq_true c), if_pos c]
    rfl
  · rw [if_neg (by rw [decide_eq_false c]; decide), if_neg c]
    rfl
theorem rg_get {n m : Nat} {x : V} (h : (rgV 0 (n : Int))[m]? = some x) : x = .int (0 + (m : Int)) := by
  unfold rgV at h
  rw [List.getElem?_map, Option.map_eq_some_iff] at h
  obtain ⟨u, hu, rfl⟩ := h
  obtain ⟨lt, e⟩ := List.getElem?_eq_some_iff.mp hu
  rw [List.getElem_range] at e
  subst e
  rfl
theorem sz4097 {n : Nat} (h : n ≤ 20000) : n ≤ sizeLine := by
  rw [PySem.sizeLine_eq]
  omega
theorem S_tried_sizes : FnScope ["letters", "found", "letter", "some", "longer", "low", "one"] ["letters"] (defScope s_tried_sizes) := ⟨rfl, rfl, rfl, by decide +kernel, rfl, by decide +kernel, by decide +kernel⟩
theorem ok_tried_sizes {f : Addr} {fd : FuncData} (D : FD K mg "tried_sizes" s_tried_sizes ["letters"] f fd) (T : Cs K mg aDOUBLE) : FnOk P w K mg base CX0 1 f fd ["letters"] sp_tried := by
  refine D.fn.ok S_tried_sizes (fun vs H Q E h => ?_) (fun cdv A outer s H vs Q E hr h => ?_)
  · obtain ⟨a, ns, rfl, _⟩ := h
    rfl
  obtain ⟨a, ns, rfl, ha, q⟩ := h
  refine ⟨_, (pss_cons (ps_set (i := 1) S_tried_sizes.nd rfl (Or.inl rfl) (pe_lst (pa_cons (pe_lst pa_nil) pa_nil)))
    (pss_cons (ps_for PassesOwn.never rfl (pi_range1 rfl T.z_range (pa_cons pe_int pa_nil)) (pg_name (i := 2) S_tried_sizes.nd rfl (Or.inl rfl)) (pss_cons (ps_set (i := 3) S_tried_sizes.nd rfl (Or.inl rfl) (pe_listRg rfl rfl T.z_list (prg_1 rfl T.z_range (pe_ifExp (pt_cmpR op_in_seq (pv 2) (pv 0) (by rfl)) (pe_op op_add (pe_gi T.MOST_TRIED) pe_int) pe_int))))
    (pss_cons (ps_set (i := 4) S_tried_sizes.nd rfl (Or.inl rfl) (pe_lst pa_nil))
    (pss_cons (ps_for PassesOwn.never rfl (pi_list (pv 1)) (pg_name (i := 5) S_tried_sizes.nd rfl (Or.inr rfl)) (pss_one (ps_expr (pe_bm PySem.F.plainAttrs_list PySem.F.slot_list_extend PySem.F.type_list_extend mt_extend (pv 4) (pa_cons (pe_lc (own := [("one", 6)]) (g := (gName 6)) (tt := tYes) (te := (tOp rCat (tVar 5) (tLst (tCons (tVar 6) tNil)))) (by rfl) S_tried_sizes.nd (pi_list (pv 3)) (blkOk_by (own := [("one", 6)]) (N := ["letters", "found", "letter", "some", "longer", "low", "one"]) (sc := defScope s_tried_sizes) (by decide +kernel)) (fun _ _ _ _ _ => (pg_name (i := 6) S_tried_sizes.nd rfl (Or.inl rfl))) (fun _ _ _ _ _ => pts_nil) (fun _ _ _ _ _ => (pe_op op_cat (pv 5) (pe_lst (pa_cons (pv 6) pa_nil))))) pa_nil)))))
    (pss_one (ps_set (i := 1) S_tried_sizes.nd rfl (Or.inl rfl) (pv 4)))))))
    (pss_one (ps_ret (pv 1))))), ?_⟩
  refine ⟨size0, fun p0 hp0 => ⟨size1, fun p1 hp1 => ?_⟩⟩
  refine ⟨6, rfl, by decide, by decide, ?_⟩
  refine for_range (fun i σ H' => i ≤ 6 ∧ Same H H' ∧ ∃ f ps o2 o3 o4 o5 o6, σ = [some (.ref a), some (.ref f), o2, o3, o4, o5, o6] ∧ H' f = some (.lst ps) ∧ RowsAt H' ps (tr ns i))
    ⟨by omega, (Same.new hp0 _).trans (Same.new hp1 _), p1, [.ref p0], none, none, none, none, none, rfl, upd_same, .cons ⟨p0, rfl, Same.new hp1 _ _ _ upd_same⟩ .nil⟩ ?_ ?_
  · rintro i σ Ha hi ⟨_, ea, f, ps, o2, o3, o4, o5, o6, rfl, hf, rows⟩
    have hw := wid_is ns i
    have ha1 := ea _ _ ha
    have lt6 : i < 6 := hi
    refine ⟨_, rfl, _, rfl, a, _, rfl, .inl (tL ha1), rfl, flat_ints ns, _, rfl, ?_⟩
    cases c : inV (V.int (0 + (i : Int))) (ns.map V.int)
    · rw [c] at hw
      refine iteFe rfl ⟨((wid ns i : Nat) : Int), congrArg V.int hw, ?_⟩
      have wl := wid_le ns i
      refine ⟨RgOk.of_le (by omega) (by omega) (by omega) (by omega), fun q1 hq1 => ⟨size0, fun q2 hq2 => ?_⟩⟩
      have e1 := Same.new hq1 (.lst (rgV 0 ((wid ns i : Nat) : Int)))
      have e2 := e1.trans (Same.new hq2 (.lst []))
      have hq2a : Ha q2 = none := by
        cases z : Ha q2 with
        | none => rfl
        | some o => have y := e1 _ _ z; rw [hq2] at y; cases y
      have rows1 := rows.same e1
      have n2 := rows1.ne hq2
      have i1 : upd (upd Ha q1 (.lst (rgV 0 ((wid ns i : Nat) : Int)))) q2 (.lst []) q1 = some (.lst (rgV 0 ((wid ns i : Nat) : Int))) := Same.new hq2 _ _ _ upd_same
      have q12 : q1 ≠ q2 := fun z => by rw [z, upd_same] at hq2; cases hq2
      have f2 : f ≠ q2 := ne_of_none hf hq2a
      refine ⟨_, rfl, f, rfl, ⟨_, tL (e2 _ _ hf)⟩, ?_⟩
      refine for_list (xs := ps) (fun j σ H' => Keep q2 (upd (upd Ha q1 (.lst (rgV 0 ((wid ns i : Nat) : Int)))) q2 (.lst [])) H' ∧ ∃ done o5 o6, σ = [some (.ref a), some (.ref f), some (.int (0 + (i : Int))), some (.ref q1), some (.ref q2), o5, o6] ∧ H' q2 = some (.lst done) ∧
          RowsAt H' done (grow (wid ns i) ((tr ns i).take j)) ∧ ∀ v ∈ done, v ≠ .ref q2)
        ⟨Keep.refl, [], _, _, rfl, upd_same, .nil, fun v hv => by simp at hv⟩ (fun j σ H' _ h => tL (h.1 _ _ f2 (e2 _ _ hf))) ?_ ?_
      · rintro j x σ H' ex ⟨k, done, o5, o6, rfl, hq, rws, nd⟩
        obtain ⟨es, ee, rx⟩ := rows.get ex
        have nx : x ≠ .ref q2 := n2 x (List.mem_of_getElem? ex)
        have rx' : RowAt H' x es := (rx.same e2).keep k nx
        have les : es.length = i := (tr_szs ns i es (List.mem_of_getElem? ee)).1
        have dl := rws.length
        rw [grow_len] at dl
        have jl : (List.take j (tr ns i)).length ≤ 4096 := Nat.le_trans (List.length_take_le' j _) (tr_len6 ns (Nat.le_of_lt lt6))
        have dl2 : done.length ≤ 4 * 4096 := by rw [dl]; exact Nat.mul_le_mul wl jl
        refine ⟨_, rfl, .inl ⟨rfl, _, tL hq⟩, ?_⟩
        refine ⟨_, rfl, q1, rfl, ⟨_, tL (k _ _ q12 i1)⟩, fun D hD => ?_⟩
        refine lc_mapL hD (k _ _ q12 i1) (sz4097 (by rw [rgV_length]; omega)) (fun m H y => RowAt H y (es ++ [m]) ∧ y ≠ .ref D ∧ y ≠ .ref q2) (fun m Hx Hy y l hl k2 r => ?_) (fun m x2 Hc l N ex2 sm hl kk => ?_) (fun Hd ys sm hl ll r => ?_)
        · obtain ⟨r1, r2, r3⟩ := r
          exact ⟨r1.keep k2 r2, r2, r3⟩
        · obtain ⟨al, rfl, hal⟩ := rx'
          obtain rfl := rg_get ex2
          refine ⟨rfl, _, rfl, _, rfl, size1, fun p1 hp1 => ?_⟩
          refine ⟨al, p1, _, _, rfl, rfl, Same.new hp1 _ _ _ (sm _ _ hal), upd_same, size1000 (by rw [List.length_map, les]; show i + 1 ≤ 1000; omega), fun p2 hp2 => ?_⟩
          have e3 : Same Hc (upd (upd Hc p1 (.lst [.int (0 + (m : Int))])) p2 (.lst (es.map (fun n : Nat => V.int (n : Int)) ++ [.int (0 + (m : Int))]))) := (Same.new hp1 _).trans (Same.new hp2 _)
          have fr : ∀ b o, Hc b = some o → V.ref p2 ≠ .ref b := fun b o hb z => by
            injection z with z
            have y := Same.new hp1 (.lst [.int (0 + (m : Int))]) _ _ hb
            rw [← z, hp2] at y
            cases y
          exact kk _ _ (Keep.of e3) (e3 _ _ hl) ⟨⟨p2, rfl, by rw [li_app]; exact upd_same⟩, fr _ _ hl, fr _ _ (sm _ _ hq)⟩
        · refine ⟨q2, D, done, ys, rfl, rfl, sm _ _ hq, hl, sz4097 (by rw [ll, rgV_length]; omega), (k.trans (Keep.of sm)).upd _, done ++ ys, _, _, rfl, upd_same, ?_, ?_⟩
          · rw [grow_take ee]
            have ku : Keep q2 Hd (upd Hd q2 (.lst (done ++ ys))) := Keep.upd _ Keep.refl
            refine ((rws.same sm).keep ku nd).app (RowsAt.of (by rw [ll, List.length_map, List.length_range, rgV_length]; omega) fun m y ey => ?_)
            obtain ⟨r1, r2, r3⟩ := r m y ey
            have lm : m < wid ns i := by
              have := (List.getElem?_eq_some_iff.mp ey).1
              rw [ll] at this
              rw [rgV_length] at this; omega
            refine ⟨es ++ [m], ?_, r1.keep ku r3⟩
            rw [List.getElem?_map, List.getElem?_range lm]
            rfl
          · intro v hv
            rcases List.mem_append.mp hv with hv | hv
            · exact nd v hv
            · obtain ⟨m, em⟩ := List.getElem?_of_mem hv
              exact (r m v em).2.2
      · rintro σ H' ⟨k, done, o5, o6, rfl, hq, rws, nd⟩
        rw [rows.length, List.take_of_length_le (Nat.le_refl _)] at rws
        refine ⟨_, rfl, hi, ea.trans fun b o h => k b o (ne_of_none h hq2a) (e2 _ _ h), q2, done, _, _, _, _, _, rfl, hq, rws⟩
    · rw [c] at hw
      refine iteTe rfl ⟨_, _, rfl, rfl, ((wid ns i : Nat) : Int), congrArg V.int hw, ?_⟩
      have wl := wid_le ns i
      refine ⟨RgOk.of_le (by omega) (by omega) (by omega) (by omega), fun q1 hq1 => ⟨size0, fun q2 hq2 => ?_⟩⟩
      have e1 := Same.new hq1 (.lst (rgV 0 ((wid ns i : Nat) : Int)))
      have e2 := e1.trans (Same.new hq2 (.lst []))
      have hq2a : Ha q2 = none := by
        cases z : Ha q2 with
        | none => rfl
        | some o => have y := e1 _ _ z; rw [hq2] at y; cases y
      have rows1 := rows.same e1
      have n2 := rows1.ne hq2
      have i1 : upd (upd Ha q1 (.lst (rgV 0 ((wid ns i : Nat) : Int)))) q2 (.lst []) q1 = some (.lst (rgV 0 ((wid ns i : Nat) : Int))) := Same.new hq2 _ _ _ upd_same
      have q12 : q1 ≠ q2 := fun z => by rw [z, upd_same] at hq2; cases hq2
      have f2 : f ≠ q2 := ne_of_none hf hq2a
      refine ⟨_, rfl, f, rfl, ⟨_, tL (e2 _ _ hf)⟩, ?_⟩
      refine for_list (xs := ps) (fun j σ H' => Keep q2 (upd (upd Ha q1 (.lst (rgV 0 ((wid ns i : Nat) : Int)))) q2 (.lst [])) H' ∧ ∃ done o5 o6, σ = [some (.ref a), some (.ref f), some (.int (0 + (i : Int))), some (.ref q1), some (.ref q2), o5, o6] ∧ H' q2 = some (.lst done) ∧
          RowsAt H' done (grow (wid ns i) ((tr ns i).take j)) ∧ ∀ v ∈ done, v ≠ .ref q2)
        ⟨Keep.refl, [], _, _, rfl, upd_same, .nil, fun v hv => by simp at hv⟩ (fun j σ H' _ h => tL (h.1 _ _ f2 (e2 _ _ hf))) ?_ ?_
      · rintro j x σ H' ex ⟨k, done, o5, o6, rfl, hq, rws, nd⟩
        obtain ⟨es, ee, rx⟩ := rows.get ex
        have nx : x ≠ .ref q2 := n2 x (List.mem_of_getElem? ex)
        have rx' : RowAt H' x es := (rx.same e2).keep k nx
        have les : es.length = i := (tr_szs ns i es (List.mem_of_getElem? ee)).1
        have dl := rws.length
        rw [grow_len] at dl
        have jl : (List.take j (tr ns i)).length ≤ 4096 := Nat.le_trans (List.length_take_le' j _) (tr_len6 ns (Nat.le_of_lt lt6))
        have dl2 : done.length ≤ 4 * 4096 := by rw [dl]; exact Nat.mul_le_mul wl jl
        refine ⟨_, rfl, .inl ⟨rfl, _, tL hq⟩, ?_⟩
        refine ⟨_, rfl, q1, rfl, ⟨_, tL (k _ _ q12 i1)⟩, fun D hD => ?_⟩
        refine lc_mapL hD (k _ _ q12 i1) (sz4097 (by rw [rgV_length]; omega)) (fun m H y => RowAt H y (es ++ [m]) ∧ y ≠ .ref D ∧ y ≠ .ref q2) (fun m Hx Hy y l hl k2 r => ?_) (fun m x2 Hc l N ex2 sm hl kk => ?_) (fun Hd ys sm hl ll r => ?_)
        · obtain ⟨r1, r2, r3⟩ := r
          exact ⟨r1.keep k2 r2, r2, r3⟩
        · obtain ⟨al, rfl, hal⟩ := rx'
          obtain rfl := rg_get ex2
          refine ⟨rfl, _, rfl, _, rfl, size1, fun p1 hp1 => ?_⟩
          refine ⟨al, p1, _, _, rfl, rfl, Same.new hp1 _ _ _ (sm _ _ hal), upd_same, size1000 (by rw [List.length_map, les]; show i + 1 ≤ 1000; omega), fun p2 hp2 => ?_⟩
          have e3 : Same Hc (upd (upd Hc p1 (.lst [.int (0 + (m : Int))])) p2 (.lst (es.map (fun n : Nat => V.int (n : Int)) ++ [.int (0 + (m : Int))]))) := (Same.new hp1 _).trans (Same.new hp2 _)
          have fr : ∀ b o, Hc b = some o → V.ref p2 ≠ .ref b := fun b o hb z => by
            injection z with z
            have y := Same.new hp1 (.lst [.int (0 + (m : Int))]) _ _ hb
            rw [← z, hp2] at y
            cases y
          exact kk _ _ (Keep.of e3) (e3 _ _ hl) ⟨⟨p2, rfl, by rw [li_app]; exact upd_same⟩, fr _ _ hl, fr _ _ (sm _ _ hq)⟩
        · refine ⟨q2, D, done, ys, rfl, rfl, sm _ _ hq, hl, sz4097 (by rw [ll, rgV_length]; omega), (k.trans (Keep.of sm)).upd _, done ++ ys, _, _, rfl, upd_same, ?_, ?_⟩
          · rw [grow_take ee]
            have ku : Keep q2 Hd (upd Hd q2 (.lst (done ++ ys))) := Keep.upd _ Keep.refl
            refine ((rws.same sm).keep ku nd).app (RowsAt.of (by rw [ll, List.length_map, List.length_range, rgV_length]; omega) fun m y ey => ?_)
            obtain ⟨r1, r2, r3⟩ := r m y ey
            have lm : m < wid ns i := by
              have := (List.getElem?_eq_some_iff.mp ey).1
              rw [ll] at this
              rw [rgV_length] at this; omega
            refine ⟨es ++ [m], ?_, r1.keep ku r3⟩
            rw [List.getElem?_map, List.getElem?_range lm]
            rfl
          · intro v hv
            rcases List.mem_append.mp hv with hv | hv
            · exact nd v hv
            · obtain ⟨m, em⟩ := List.getElem?_of_mem hv
              exact (r m v em).2.2
      · rintro σ H' ⟨k, done, o5, o6, rfl, hq, rws, nd⟩
        rw [rows.length, List.take_of_length_le (Nat.le_refl _)] at rws
        refine ⟨_, rfl, hi, ea.trans fun b o h => k b o (ne_of_none h hq2a) (e2 _ _ h), q2, done, _, _, _, _, _, rfl, hq, rws⟩
  · rintro σ H' ⟨_, e, f, ps, o2, o3, o4, o5, o6, rfl, hf, rows⟩
    exact ⟨_, rfl, q f H' ps e hf rows⟩
theorem S__law_tried : FnScope ["letters", "found", "letter", "longer", "low", "one"] ["letters"] (defScope s__law_tried) := ⟨rfl, rfl, rfl, by decide +kernel, rfl, by decide +kernel, by decide +kernel⟩
theorem ok__law_tried {f : Addr} {fd : FuncData} (D : FD K mg "_law_tried" s__law_tried ["letters"] f fd) (T : Cs K mg aDOUBLE) : FnOk P w K mg base CX0 1 f fd ["letters"] sp_tried := by
  refine D.fn.ok S__law_tried (fun vs H Q E h => ?_) (fun cdv A outer s H vs Q E hr h => ?_)
  · obtain ⟨a, ns, rfl, _⟩ := h
    rfl
  obtain ⟨a, ns, rfl, ha, q⟩ := h
  refine ⟨_, (pss_cons (ps_set (i := 1) S__law_tried.nd rfl (Or.inl rfl) (pe_lst (pa_cons (pe_lst pa_nil) pa_nil)))
    (pss_cons (ps_for PassesOwn.never rfl (pi_range1 rfl T.z_range (pa_cons pe_int pa_nil)) (pg_name (i := 2) S__law_tried.nd rfl (Or.inl rfl)) (pss_cons (ps_set (i := 3) S__law_tried.nd rfl (Or.inl rfl) (pe_lst pa_nil))
    (pss_cons (ps_for PassesOwn.never rfl (pi_list (pv 1)) (pg_name (i := 4) S__law_tried.nd rfl (Or.inr rfl)) (pss_one (ps_expr (pe_bm PySem.F.plainAttrs_list PySem.F.slot_list_extend PySem.F.type_list_extend mt_extend (pv 3) (pa_cons (pe_lc (own := [("one", 5)]) (g := (gName 5)) (tt := tYes) (te := (tOp rCat (tVar 4) (tLst (tCons (tVar 5) tNil)))) (by rfl) S__law_tried.nd (pi_range1 rfl T.z_range (pa_cons (pe_ifExp (pt_cmpR op_in_seq (pv 2) (pv 0) (by rfl)) pe_int pe_int) pa_nil)) (blkOk_by (own := [("one", 5)]) (N := ["letters", "found", "letter", "longer", "low", "one"]) (sc := defScope s__law_tried) (by decide +kernel)) (fun _ _ _ _ _ => (pg_name (i := 5) S__law_tried.nd rfl (Or.inl rfl))) (fun _ _ _ _ _ => pts_nil) (fun _ _ _ _ _ => (pe_op op_cat (pv 4) (pe_lst (pa_cons (pv 5) pa_nil))))) pa_nil)))))
    (pss_one (ps_set (i := 1) S__law_tried.nd rfl (Or.inl rfl) (pv 3))))))
    (pss_one (ps_ret (pv 1))))), ?_⟩
  refine ⟨size0, fun p0 hp0 => ⟨size1, fun p1 hp1 => ?_⟩⟩
  refine ⟨6, rfl, by decide, by decide, ?_⟩
  refine for_range (fun i σ H' => i ≤ 6 ∧ Same H H' ∧ ∃ f ps o2 o3 o4 o5, σ = [some (.ref a), some (.ref f), o2, o3, o4, o5] ∧ H' f = some (.lst ps) ∧ RowsAt H' ps (tr ns i))
    ⟨by omega, (Same.new hp0 _).trans (Same.new hp1 _), p1, [.ref p0], none, none, none, none, rfl, upd_same, .cons ⟨p0, rfl, Same.new hp1 _ _ _ upd_same⟩ .nil⟩ ?_ ?_
  · rintro i σ Ha hi ⟨_, ea, f, ps, o2, o3, o4, o5, rfl, hf, rows⟩
    have hw := wid_is ns i
    have ha1 := ea _ _ ha
    have lt6 : i < 6 := hi
    have wl := wid_le ns i
    refine ⟨size0, fun q2 hq2 => ?_⟩
    have e2 := Same.new hq2 (.lst [])
    have n2 := rows.ne hq2
    have f2 : f ≠ q2 := ne_of_none hf hq2
    refine ⟨_, rfl, f, rfl, ⟨_, tL (e2 _ _ hf)⟩, ?_⟩
    refine for_list (xs := ps) (fun j σ H' => Keep q2 (upd Ha q2 (.lst [])) H' ∧ ∃ done o5 o6, σ = [some (.ref a), some (.ref f), some (.int (0 + (i : Int))), some (.ref q2), o5, o6] ∧ H' q2 = some (.lst done) ∧
        RowsAt H' done (grow (wid ns i) ((tr ns i).take j)) ∧ ∀ v ∈ done, v ≠ .ref q2)
      ⟨Keep.refl, [], _, _, rfl, upd_same, .nil, fun v hv => by simp at hv⟩ (fun j σ H' _ h => tL (h.1 _ _ f2 (e2 _ _ hf))) ?_ ?_
    · rintro j x σ H' ex ⟨k, done, o5, o6, rfl, hq, rws, nd⟩
      obtain ⟨es, ee, rx⟩ := rows.get ex
      have nx : x ≠ .ref q2 := n2 x (List.mem_of_getElem? ex)
      have rx' : RowAt H' x es := (rx.same e2).keep k nx
      have les : es.length = i := (tr_szs ns i es (List.mem_of_getElem? ee)).1
      have dl := rws.length
      rw [grow_len] at dl
      have jl : (List.take j (tr ns i)).length ≤ 4096 := Nat.le_trans (List.length_take_le' j _) (tr_len6 ns (Nat.le_of_lt lt6))
      have dl2 : done.length ≤ 4 * 4096 := by rw [dl]; exact Nat.mul_le_mul wl jl
      refine ⟨_, rfl, .inl ⟨rfl, _, tL hq⟩, ?_⟩
      refine ⟨_, rfl, _, rfl, a, _, rfl, .inl (tL (k _ _ (ne_of_none ha1 hq2) (e2 _ _ ha1))), rfl, flat_ints ns, _, rfl, ?_⟩
      cases c : inV (V.int (0 + (i : Int))) (ns.map V.int)
      · rw [c] at hw
        refine iteFe rfl ⟨((wid ns i : Nat) : Int), congrArg (fun z => [V.int z]) hw, by omega, by omega, fun D hD => ?_⟩
        refine lc_mapR (n := wid ns i) hD (sz4097 (by omega)) (fun m H y => RowAt H y (es ++ [m]) ∧ y ≠ .ref D ∧ y ≠ .ref q2) (fun m Hx Hy y l hl k2 r => ?_) (fun m Hc l N lm sm hl kk => ?_) (fun Hd ys sm hl ll r => ?_)
        · obtain ⟨r1, r2, r3⟩ := r
          exact ⟨r1.keep k2 r2, r2, r3⟩
        · obtain ⟨al, rfl, hal⟩ := rx'
          refine ⟨rfl, _, rfl, _, rfl, size1, fun p1 hp1 => ?_⟩
          refine ⟨al, p1, _, _, rfl, rfl, Same.new hp1 _ _ _ (sm _ _ hal), upd_same, size1000 (by rw [List.length_map, les]; show i + 1 ≤ 1000; omega), fun p2 hp2 => ?_⟩
          have e3 : Same Hc (upd (upd Hc p1 (.lst [.int (0 + (m : Int))])) p2 (.lst (es.map (fun n : Nat => V.int (n : Int)) ++ [.int (0 + (m : Int))]))) := (Same.new hp1 _).trans (Same.new hp2 _)
          have fr : ∀ b o, Hc b = some o → V.ref p2 ≠ .ref b := fun b o hb z => by
            injection z with z
            have y := Same.new hp1 (.lst [.int (0 + (m : Int))]) _ _ hb
            rw [← z, hp2] at y
            cases y
          exact kk _ _ (Keep.of e3) (e3 _ _ hl) ⟨⟨p2, rfl, by rw [li_app]; exact upd_same⟩, fr _ _ hl, fr _ _ (sm _ _ hq)⟩
        · refine ⟨q2, D, done, ys, rfl, rfl, sm _ _ hq, hl, sz4097 (by rw [ll]; omega), (k.trans (Keep.of sm)).upd _, done ++ ys, _, _, rfl, upd_same, ?_, ?_⟩
          · rw [grow_take ee]
            have ku : Keep q2 Hd (upd Hd q2 (.lst (done ++ ys))) := Keep.upd _ Keep.refl
            refine ((rws.same sm).keep ku nd).app (RowsAt.of (by rw [ll, List.length_map, List.length_range]) fun m y ey => ?_)
            obtain ⟨r1, r2, r3⟩ := r m y ey
            have lm : m < wid ns i := by
              have := (List.getElem?_eq_some_iff.mp ey).1
              rw [ll] at this
              exact this
            refine ⟨es ++ [m], ?_, r1.keep ku r3⟩
            rw [List.getElem?_map, List.getElem?_range lm]
            rfl
          · intro v hv
            rcases List.mem_append.mp hv with hv | hv
            · exact nd v hv
            · obtain ⟨m, em⟩ := List.getElem?_of_mem hv
              exact (r m v em).2.2
      · rw [c] at hw
        refine iteTe rfl ⟨((wid ns i : Nat) : Int), congrArg (fun z => [V.int z]) hw, by omega, by omega, fun D hD => ?_⟩
        refine lc_mapR (n := wid ns i) hD (sz4097 (by omega)) (fun m H y => RowAt H y (es ++ [m]) ∧ y ≠ .ref D ∧ y ≠ .ref q2) (fun m Hx Hy y l hl k2 r => ?_) (fun m Hc l N lm sm hl kk => ?_) (fun Hd ys sm hl ll r => ?_)
        · obtain ⟨r1, r2, r3⟩ := r
          exact ⟨r1.keep k2 r2, r2, r3⟩
        · obtain ⟨al, rfl, hal⟩ := rx'
          refine ⟨rfl, _, rfl, _, rfl, size1, fun p1 hp1 => ?_⟩
          refine ⟨al, p1, _, _, rfl, rfl, Same.new hp1 _ _ _ (sm _ _ hal), upd_same, size1000 (by rw [List.length_map, les]; show i + 1 ≤ 1000; omega), fun p2 hp2 => ?_⟩
          have e3 : Same Hc (upd (upd Hc p1 (.lst [.int (0 + (m : Int))])) p2 (.lst (es.map (fun n : Nat => V.int (n : Int)) ++ [.int (0 + (m : Int))]))) := (Same.new hp1 _).trans (Same.new hp2 _)
          have fr : ∀ b o, Hc b = some o → V.ref p2 ≠ .ref b := fun b o hb z => by
            injection z with z
            have y := Same.new hp1 (.lst [.int (0 + (m : Int))]) _ _ hb
            rw [← z, hp2] at y
            cases y
          exact kk _ _ (Keep.of e3) (e3 _ _ hl) ⟨⟨p2, rfl, by rw [li_app]; exact upd_same⟩, fr _ _ hl, fr _ _ (sm _ _ hq)⟩
        · refine ⟨q2, D, done, ys, rfl, rfl, sm _ _ hq, hl, sz4097 (by rw [ll]; omega), (k.trans (Keep.of sm)).upd _, done ++ ys, _, _, rfl, upd_same, ?_, ?_⟩
          · rw [grow_take ee]
            have ku : Keep q2 Hd (upd Hd q2 (.lst (done ++ ys))) := Keep.upd _ Keep.refl
            refine ((rws.same sm).keep ku nd).app (RowsAt.of (by rw [ll, List.length_map, List.length_range]) fun m y ey => ?_)
            obtain ⟨r1, r2, r3⟩ := r m y ey
            have lm : m < wid ns i := by
              have := (List.getElem?_eq_some_iff.mp ey).1
              rw [ll] at this
              exact this
            refine ⟨es ++ [m], ?_, r1.keep ku r3⟩
            rw [List.getElem?_map, List.getElem?_range lm]
            rfl
          · intro v hv
            rcases List.mem_append.mp hv with hv | hv
            · exact nd v hv
            · obtain ⟨m, em⟩ := List.getElem?_of_mem hv
              exact (r m v em).2.2
    · rintro σ H' ⟨k, done, o5, o6, rfl, hq, rws, nd⟩
      rw [rows.length, List.take_of_length_le (Nat.le_refl _)] at rws
      refine ⟨_, rfl, hi, ea.trans fun b o h => k b o (ne_of_none h hq2) (e2 _ _ h), q2, done, _, _, _, _, rfl, hq, rws⟩
  · rintro σ H' ⟨_, e, f, ps, o2, o3, o4, o5, rfl, hf, rows⟩
    exact ⟨_, rfl, q f H' ps e hf rows⟩

end
end T84

/-! p84 -/
namespace T84
open PySem L2
abbrev s_unlike_sizes : Stmt := top 47
abbrev s__law_most : Stmt := top 60
abbrev s__law_power : Stmt := top 61
abbrev s__law_size : Stmt := top 62
abbrev s__law_due : Stmt := top 65
def diff (k l : Kd) (es : List Nat) : Bool := match sizeO (ev es) k, sizeO (ev es) l with
  | some a, some b => !decide (a = b)
  | _, _ => false
def dueM (ns : List Int) (k l : Kd) : Option (List Nat) := (tr ns 6).find? (diff k l)
theorem due_congr {ns ms : List Int} {k l : Kd} (h : ∀ j, j ∈ ns ↔ j ∈ ms) : dueM ns k l = dueM ms k l := by
  unfold dueM
  rw [tr_congr h]
def OptRow (H : Hp) (v : V) : Option (List Nat) → Prop
  | none => v = .non
  | some es => RowAt H v es
theorem OptRow.same {H H' : Hp} {v : V} {o : Option (List Nat)} (e : Same H H') (h : OptRow H v o) : OptRow H' v o := by
  cases o with
  | none => exact h
  | some es => exact RowAt.same e h
theorem drop_get {α : Type} {l : List α} {i : Nat} {x : α} (h : l[i]? = some x) : l.drop i = x :: l.drop (i + 1) := by
  obtain ⟨lt, e⟩ := List.getElem?_eq_some_iff.mp h
  rw [List.drop_eq_getElem_cons lt, e]
theorem num_non (o : Option Nat) : (!decide (numV o = .non)) = o.isSome := by
  cases o with
  | none => rfl
  | some n => rfl
theorem num_non' (o : Option Nat) : decide (numV o = .non) = o.isNone := by
  cases o with
  | none => rfl
  | some n => rfl
theorem num_ne (a b : Nat) : (!decide (numV (some a) = numV (some b))) = !decide (a = b) := by
  by_cases c : a = b
  · subst c
    simp
  · have d : ¬ numV (some a) = numV (some b) := fun z => c (by injection z with z; omega)
    rw [decide_eq_false c, decide_eq_false d]
section
variable {P : Program} {w : World} {K : PySem.W.Frag} {mg : Str → Option Value} {base : Heap} {aDOUBLE C L fI : Addr} {fdI : FuncData}
theorem S_unlike_sizes : FnScope ["kind", "other", "letters", "sizes", "near", "far"] ["kind", "other"] (defScope s_unlike_sizes) := ⟨rfl, rfl, rfl, by decide +kernel, rfl, by decide +kernel, by decide +kernel⟩
def sp_unlike_sizes (C : Addr) : Sp := fun vs H Q E => ∃ (x y : V) (k l : Kd), vs = [x, y] ∧ At H x k ∧ At H y l ∧ Two k l ∧
  (∀ ns, Lts (fun j => k.has j ∨ l.has j) ns → ns.length ≤ 3 → ∀ v H', Same H H' → OptRow H' v (dueM ns k l) → Q v H') ∧ (∀ ns, Lts (fun j => k.has j ∨ l.has j) ns → 3 < ns.length → Told H E C (.str "letters") 3)
theorem ok_unlike_sizes {f f1 f2 f3 f4 f5 : Addr} {fd d1 d2 d3 d4 d5 : FuncData} (D : FD K mg "unlike_sizes" s_unlike_sizes ["kind", "other"] f fd) (D_want_two : FD K mg "want_two" s_want_two ["kind", "other"] f1 d1) (D_letters_of : FD K mg "letters_of" s_letters_of ["kind"] f2 d2)
    (D_want_at_most : FD K mg "want_at_most" s_want_at_most ["what", "limit", "number"] f3 d3) (D_tried_sizes : FD K mg "tried_sizes" s_tried_sizes ["letters"] f4 d4) (D_size_or_none : FD K mg "size_or_none" s_size_or_none ["kind", "sizes"] f5 d5) (T : Cs K mg aDOUBLE)
    (G_want_two : FnOk P w K mg base CX0 17 f1 d1 ["kind", "other"] sp_want_two) (G_letters_of : FnOk P w K mg base CX0 12 f2 d2 ["kind"] (sp_letters_of 12)) (G_want_at_most : FnOk P w K mg base (L2.CX P w) 3 f3 d3 ["what", "limit", "number"] (sp_wam C))
    (G_tried_sizes : FnOk P w K mg base CX0 1 f4 d4 ["letters"] sp_tried) (G_size_or_none : FnOk P w K mg base CX0 17 f5 d5 ["kind", "sizes"] sp_size_or_none) : FnOk P w K mg base (L2.CX P w) 18 f fd ["kind", "other"] (sp_unlike_sizes C) := by
  refine D.fn.okX S_unlike_sizes (fun vs H Q E h => ?_) (fun cdv A outer s H vs Q E hr h => ?_)
  · obtain ⟨x, y, k, l, rfl, _⟩ := h
    rfl
  obtain ⟨x, y, k, l, rfl, hx, hy, tw, q, t⟩ := h
  refine ⟨_, (pss_cons (ps_expr (pe_call G_want_two hr rfl D_want_two.m D_want_two.fn.kp D_want_two.b .nil pass0 (pa_cons (pv 0) (pa_cons (pv 1) pa_nil))))
    (pss_cons (ps_set (i := 2) S_unlike_sizes.nd rfl (Or.inl rfl) (pe_callB (cr_sortedSet rfl) (by rfl) T.z_sorted (by decide +kernel) (pa_cons (pe_callTy (cr_setLi rfl) (by rfl) T.z_set (by decide +kernel) (pa_cons (pe_op op_cat (pe_call G_letters_of (hr.mono (by omega)) rfl D_letters_of.m D_letters_of.fn.kp D_letters_of.b .nil pass0 (pa_cons (pv 0) pa_nil)) (pe_call G_letters_of (hr.mono (by omega)) rfl D_letters_of.m D_letters_of.fn.kp D_letters_of.b .nil pass0 (pa_cons (pv 1) pa_nil))) pa_nil)) pa_nil)))
    (pss_cons (ps_expr (pe_callS G_want_at_most (hr.mono (by omega)) rfl D_want_at_most.m D_want_at_most.fn.kp D_want_at_most.b (fun σ => passAt (takes_of rfl rfl rfl rfl) σ) (pa_cons pe_str (pa_cons (pe_gi T.MOST_LETTERS) (pa_cons (pe_callB call_len (by rfl) T.z_len PySem.boot_len (pa_cons (pv 2) pa_nil)) pa_nil)))))
    (pss_cons (ps_for (passes_of rfl) rfl (pi_list (pe_call G_tried_sizes (hr.mono (by omega)) rfl D_tried_sizes.m D_tried_sizes.fn.kp D_tried_sizes.b .nil pass0 (pa_cons (pv 2) pa_nil))) (pg_name (i := 3) S_unlike_sizes.nd rfl (Or.inl rfl)) (pss_cons (ps_par (i := 4) (j := 5) rfl S_unlike_sizes.nd rfl rfl (by decide) rfl rfl (pa_cons (pe_call G_size_or_none hr rfl D_size_or_none.m D_size_or_none.fn.kp D_size_or_none.b .nil pass0 (pa_cons (pv 0) (pa_cons (pv 3) pa_nil))) (pa_cons (pe_call G_size_or_none hr rfl D_size_or_none.m D_size_or_none.fn.kp D_size_or_none.b .nil pass0 (pa_cons (pv 1) (pa_cons (pv 3) pa_nil))) pa_nil)) (by rfl))
    (pss_one (ps_if (PW.pt (pw_and (pt_cmpR op_notN (pv 4) pe_non (nomark _)) (pw_and (pt_cmpR op_notN (pv 5) pe_non (nomark _)) (pw_and1 (pt_cmpR op_ne (pv 4) (pv 5) (nomark _)))))) (pss_one (ps_ret (pv 3))) pss_nil))))
    (pss_one (ps_ret pe_non)))))), ?_⟩
  refine ⟨_, rfl, _, rfl, x, y, k, l, rfl, hx, hy, tw, fun H1 e1 => ?_⟩
  refine ⟨_, rfl, _, k, rfl, hx.same e1, tw.g.l, tw.g.d, fun p1 H2 ns1 e2 h1 l1 => ?_⟩
  refine ⟨_, rfl, _, l, rfl, hy.same (e1.trans e2), tw.h.l, tw.h.d, fun p2 H3 ns2 e3 h2 l2 => ?_⟩
  refine ⟨p1, p2, _, _, rfl, rfl, e3 _ _ h1, h2, size1000 (by have := l1.l; have := l2.l; simp only [List.length_map]; omega), fun pa hpa => ?_⟩
  refine ⟨pa, ns1 ++ ns2, rfl, by rw [List.map_append]; exact tL upd_same, scan12 (by have := l1.l; have := l2.l; rw [List.length_append]; omega), fun pb c hpb hc => ?_⟩
  refine ⟨pb, _, c, rfl, upd_same, by have := l1.l; have := l2.l; rw [List.length_append] at hc; omega, fun ns p hrs hm hln hp => ?_⟩
  have l4 : Lts (fun j => k.has j ∨ l.has j) ns := Lts.of hrs (fun j => by rw [hm j, decide_eq_true_eq, List.mem_append, l1.m, l2.m]) fun j hj => by
    rcases hj with hj | hj
    · exact Kd.has_lt tw.g.l hj
    · exact Kd.has_lt tw.h.l hj
  have e4 := (e1.trans (e2.trans e3)).trans ((Same.new hpa (.lst (ns1.map V.int ++ ns2.map V.int))).trans ((Same.new hpb (SetO w pb (fun j => decide (j ∈ ns1 ++ ns2)) c)).trans (Same.new hp (.lst (ns.map V.int)))))
  have h4 := upd_same (H := upd (upd H3 pa (.lst (ns1.map V.int ++ ns2.map V.int))) pb (SetO w pb (fun j => decide (j ∈ ns1 ++ ns2)) c)) (a := p) (o := .lst (ns.map V.int))
  refine ⟨_, rfl, _, _, rfl, .inl ⟨_, tL h4, rfl⟩, ?_⟩
  refine ⟨_, 3, _, rfl, fun le => ?_, fun lt => (t ns l4 ?_).from e4⟩
  · rw [List.length_map] at le
    refine ⟨_, rfl, p, ns, rfl, h4, fun pt H5 ps e5 h5 rows => ?_⟩
    have e45 := e4.trans e5
    refine ⟨pt, rfl, ⟨_, tL h5⟩, ?_⟩
    refine for_list (xs := ps) (fun i σ H' => Same H5 H' ∧ dueM ns k l = ((tr ns 6).drop i).find? (diff k l) ∧ ∃ o3 o4 o5, σ = [some x, some y, some (.ref p), o3, o4, o5]) ⟨Same.refl _, rfl, none, none, none, rfl⟩ (fun i σ H' _ h => tL (h.1 _ _ h5)) ?_ ?_
    · rintro i z σ H' ez ⟨e6, du, o3, o4, o5, rfl⟩
      obtain ⟨es, ee, rz⟩ := rows.get ez
      have e46 := e45.trans e6
      have sz := tr_ok (List.mem_of_getElem? ee)
      obtain ⟨az, rfl, hz⟩ := rz.same e6
      refine ⟨_, rfl, _, rfl, x, k, az, es, rfl, hx.same e46, tw.g.l, tw.g.d, hz, sz, fun H7 e7 => ?_⟩
      refine ⟨_, rfl, _, rfl, y, l, az, es, rfl, hy.same (e46.trans e7), tw.h.l, tw.h.d, e7 _ _ hz, sz, fun H8 e8 => ?_⟩
      refine ⟨_, _, rfl, ?_⟩
      have e48 := e7.trans e8
      rw [drop_get ee, List.find?_cons] at du
      have stop : diff k l es = false → dueM ns k l = ((tr ns 6).drop (i + 1)).find? (diff k l) := fun c => by rw [c] at du; exact du
      have nx : diff k l es = false → Same H5 H8 ∧ dueM ns k l = ((tr ns 6).drop (i + 1)).find? (diff k l) ∧ ∃ o3 o4 o5, [some x, some y, some (.ref p), some (.ref az), some (numV (sizeO (ev es) k)), some (numV (sizeO (ev es) l))] = [some x, some y, some (.ref p), o3, o4, o5] :=
        fun c => ⟨e6.trans e48, stop c, _, _, _, rfl⟩
      refine ⟨_, rfl, rfl, _, rfl, ?_⟩
      rw [num_non]
      cases c1 : sizeO (ev es) k with
      | none =>
        rw [c1] at nx
        exact nx (by unfold diff; rw [c1])
      | some m1 =>
        refine ⟨_, rfl, rfl, _, rfl, ?_⟩
        rw [num_non]
        cases c2 : sizeO (ev es) l with
        | none =>
          rw [c1, c2] at nx
          exact nx (by unfold diff; rw [c1, c2])
        | some m2 =>
          rw [c1, c2] at nx
          refine ⟨_, rfl, _, rfl, rfl, _, rfl, ?_⟩
          have dd : diff k l es = !decide (m1 = m2) := by unfold diff; rw [c1, c2]
          rw [num_ne, ← dd]
          cases c : diff k l es with
          | false => exact nx c
          | true =>
            rw [c] at du
            refine ⟨_, rfl, q ns l4 (by exact Int.ofNat_le.mp le) _ _ (e46.trans e48) ?_⟩
            rw [du]
            exact ⟨az, rfl, e48 _ _ hz⟩
    · rintro σ H' ⟨e6, du, _⟩
      rw [rows.length, List.drop_length] at du
      refine q ns l4 (by exact Int.ofNat_le.mp le) _ _ (e45.trans e6) ?_
      rw [du]
      exact rfl
  · rw [List.length_map] at lt
    exact Int.ofNat_lt.mp lt
end
end T84

/-! q84 -/
namespace T84
open PySem L2
theorem mulO_cases (a b : Nat) : (decide ((a : Int) * (b : Int) < big) = true ∧ mulO a b = some (a * b)) ∨ (decide ((a : Int) * (b : Int) < big) = false ∧ mulO a b = none) := by
  by_cases c : a * b < bigN
  · exact .inl ⟨decide_eq_true (by rw [← Int.natCast_mul]; exact lt_big c), by rw [mulO, if_pos c]⟩
  · exact .inr ⟨decide_eq_false (by rw [← Int.natCast_mul]; exact Int.not_lt.mpr (ge_big c)), by rw [mulO, if_neg c]⟩
section
variable {P : Program} {w : World} {K : PySem.W.Frag} {mg : Str → Option Value} {base : Heap} {aDOUBLE C L fI : Addr} {fdI : FuncData}
theorem S__law_most : FnScope [] [] (defScope s__law_most) := ⟨rfl, rfl, rfl, by decide +kernel, rfl, by decide +kernel, by decide +kernel⟩
theorem ok__law_most {f : Addr} {fd : FuncData} (D : FD K mg "_law_most" s__law_most [] f fd) : FnOk P w K mg base CX0 1 f fd [] sp_too_great := by
  refine D.fn.ok S__law_most (fun vs H Q E h => ?_) (fun cdv A outer s H vs Q E hr h => ?_)
  · obtain ⟨rfl, _⟩ := h
    rfl
  obtain ⟨rfl, q⟩ := h
  rw [← big_is] at q
  refine ⟨_, (pss_one (ps_ret (pe_op op_mulW (pe_op op_mulW (pe_op op_mulW (pe_op op_mulW (pe_op op_pow pe_int pe_int) (pe_op op_pow pe_int pe_int)) (pe_op op_pow pe_int pe_int)) (pe_op op_pow pe_int pe_int)) (pe_op op_pow pe_int pe_int)))), ?_⟩
  have cp : CPow 10 60 := ⟨by decide, by decide, by decide⟩
  refine ⟨_, _, rfl, rfl, cp, ⟨_, _, rfl, rfl, cp, ?_⟩⟩
  refine ⟨_, _, rfl, rfl, wide_mul lt60 lt60 (by omega) (by omega) (by omega), ⟨_, _, rfl, rfl, cp, ?_⟩⟩
  refine ⟨_, _, rfl, rfl, wide_mul lt120 lt60 (by omega) (by omega) (by omega), ⟨_, _, rfl, rfl, cp, ?_⟩⟩
  refine ⟨_, _, rfl, rfl, wide_mul lt180 lt60 (by omega) (by omega) (by omega), ⟨_, _, rfl, rfl, cp, ?_⟩⟩
  refine ⟨_, _, rfl, rfl, wide_mul lt240 lt60 (by omega) (by omega) (by omega), ?_⟩
  exact q
theorem S__law_power : FnScope ["number", "many", "found", "turn"] ["number", "many"] (defScope s__law_power) := ⟨rfl, rfl, rfl, by decide +kernel, rfl, by decide +kernel, by decide +kernel⟩
def sp__law_power : Sp := fun vs H Q _ => ∃ b n : Nat, vs = [.int b, .int n] ∧ b < bigN ∧ n < bigN ∧ Q (numV (pwO b n)) H
theorem ok__law_power {f g : Addr} {fd gd : FuncData} (D : FD K mg "_law_power" s__law_power ["number", "many"] f fd) (D__law_most : FD K mg "_law_most" s__law_most [] g gd) (T : Cs K mg aDOUBLE)
    (G__law_most : FnOk P w K mg base CX0 1 g gd [] sp_too_great) : FnOk P w K mg base CX0 2 f fd ["number", "many"] sp__law_power := by
  refine D.fn.ok S__law_power (fun vs H Q E h => ?_) (fun cdv A outer s H vs Q E hr h => ?_)
  · obtain ⟨b, n, rfl, _⟩ := h
    rfl
  obtain ⟨b, n, rfl, hb, hn, q⟩ := h
  refine ⟨_, (pss_cons (ps_if (pt_cmpR op_lt (pv 0) pe_int (nomark _)) (pss_one (ps_ret (pe_ifExp (pt_cmpR op_eq (pv 1) pe_int (nomark _)) pe_int (pv 0)))) pss_nil)
    (pss_cons (ps_set (i := 2) S__law_power.nd rfl (Or.inl rfl) pe_int)
    (pss_cons (ps_for PassesOwn.never rfl (pi_range1 rfl T.z_range (pa_cons (pe_callB (call_min2 rfl) (by rfl) T.z_min (by decide +kernel) (pa_cons (pv 1) (pa_cons pe_int pa_nil))) pa_nil)) (pg_name (i := 3) S__law_power.nd rfl (Or.inl rfl)) (pss_cons (ps_set (i := 2) S__law_power.nd rfl (Or.inl rfl) (pe_op op_mulW (pv 2) (pv 0)))
    (pss_one (ps_if (pt_cmpR op_ge (pv 2) (pe_call0 G__law_most hr rfl D__law_most.m D__law_most.fn.kp D__law_most.b .nil pass0) (nomark _)) (pss_one (ps_ret pe_non)) pss_nil))))
    (pss_one (ps_ret (pv 2)))))), ?_⟩
  refine ⟨_, rfl, _, _, rfl, rfl, _, rfl, ?_⟩
  by_cases c : b < 2
  · refine iteTe (decide_eq_true (by omega)) ?_
    have pw : pwO b n = some (if n = 0 then 1 else b) := by unfold pwO; rw [if_pos c]
    rw [pw] at q
    refine ⟨_, rfl, rfl, _, rfl, ?_⟩
    by_cases d : n = 0
    · rw [if_pos d] at q
      exact iteTe (decide_eq_true (by rw [d]; rfl)) q
    · rw [if_neg d] at q
      exact iteFe (decide_eq_false (fun z => d (by injection z with z; omega))) ⟨_, rfl, q⟩
  · refine iteFe (decide_eq_false (by omega)) ?_
    have pw : pwO b n = if b ^ n < bigN then some (b ^ n) else none := by unfold pwO; rw [if_neg c]
    have h2 : 2 ≤ b := by omega
    refine ⟨_, rfl, _, _, rfl, _, rfl, by split <;> omega, by split <;> omega, ?_⟩
    refine for_range (fun i σ H' => H' = H ∧ b ^ i < bigN ∧ i ≤ n ∧ ∃ o, σ = [some (.int b), some (.int n), some (.int ((b ^ i : Nat) : Int)), o]) ⟨rfl, by rw [Nat.pow_zero]; exact Nat.lt_trans (by omega) big_two, Nat.zero_le _, none, rfl⟩ ?_ ?_
    · rintro i σ H' hi ⟨rfl, hp, hin, o, rfl⟩
      have hin' : i + 1 ≤ n := by
        split at hi <;> omega
      refine ⟨_, rfl, _, rfl, _, _, rfl, rfl, wide_mul (nlt hp) (nlt hb) (by omega) (by omega) (by omega), ?_⟩
      have sp := step_pow b i
      refine ⟨_, rfl, rfl, _, _, rfl, rfl, _, rfl, ?_⟩
      by_cases l : b ^ (i + 1) < bigN
      · refine iteFe (decide_eq_false (by rw [sp]; have := lt_big l; omega)) ⟨rfl, l, hin', _, by rw [← sp]; rfl⟩
      · refine iteTe (decide_eq_true (by rw [sp]; exact ge_big l)) ?_
        rw [pw, if_neg (fun z => l (Nat.lt_of_le_of_lt (pow_mono h2 hin') z))] at q
        exact q
    · rintro σ H' ⟨rfl, hp, hin, o, rfl⟩
      have en : n ≤ 1001 := by
        refine Nat.le_of_not_lt fun l => ?_
        refine pow_1000 h2 (n := 1001) (by omega) ?_
        have e : (if (1001 : Int) < (n : Int) then (1001 : Int) else (n : Int)).toNat = 1001 := by rw [if_pos (by omega)]; rfl
        rw [e] at hp
        exact hp
      have e : (if (1001 : Int) < (n : Int) then (1001 : Int) else (n : Int)).toNat = n := by rw [if_neg (by omega)]; rfl
      rw [e] at hp ⊢
      rw [pw, if_pos hp] at q
      exact ⟨_, rfl, q⟩
theorem S__law_size : FnScope ["kind", "sizes", "near", "far"] ["kind", "sizes"] (defScope s__law_size) := ⟨rfl, rfl, rfl, by decide +kernel, rfl, by decide +kernel, by decide +kernel⟩
def sp__law_size (n : Nat) : Sp := fun vs H Q _ => ∃ (v : V) (k : Kd) (a : Addr) (es : List Nat), vs = [v, .ref a] ∧ At H v k ∧ k.lets 6 ∧ k.depth ≤ n ∧ H a = some (LI es) ∧ Szs es ∧ ∀ H', Same H H' → Q (numV (sizeO (ev es) k)) H'
theorem _law_size_step {n : Nat} {f g h : Addr} {fd gd hd : FuncData} (D__law_size : FD K mg "_law_size" s__law_size ["kind", "sizes"] f fd) (D__law_most : FD K mg "_law_most" s__law_most [] g gd) (D__law_power : FD K mg "_law_power" s__law_power ["number", "many"] h hd)
    (G__law_most : FnOk P w K mg base CX0 1 g gd [] sp_too_great) (G__law_power : FnOk P w K mg base CX0 2 h hd ["number", "many"] sp__law_power) (G__law_size : FnOk P w K mg base CX0 (n + 2) f fd ["kind", "sizes"] (sp__law_size n)) :
    FnOk P w K mg base CX0 (n + 2 + 1) f fd ["kind", "sizes"] (sp__law_size (n + 1)) := by
  refine D__law_size.fn.ok S__law_size (fun vs H Q E h => ?_) (fun cdv A outer s H vs Q E hr h => ?_)
  · obtain ⟨v, k, a, es, rfl, _⟩ := h
    rfl
  obtain ⟨v, k, a, es, rfl, hv, hl, hd, ha, hs, q⟩ := h
  refine ⟨_, (pss_cons (ps_if (pt_cmpR op_eq (pe_ix ix_tup (pv 0) pe_int (fun _ _ => rfl)) pe_str (nomark _)) (pss_one (ps_ret (pe_ix ix_list (pv 1) (pe_ix ix_tup (pv 0) pe_int (fun _ _ => rfl)) (fun _ _ => rfl)))) pss_nil)
    (pss_cons (ps_if (pt_cmpR op_eq (pe_ix ix_tup (pv 0) pe_int (fun _ _ => rfl)) pe_str (nomark _)) (pss_one (ps_ret pe_int)) pss_nil)
    (pss_cons (ps_par (i := 2) (j := 3) rfl S__law_size.nd rfl rfl (by decide) rfl rfl (pa_cons (pe_call G__law_size hr rfl D__law_size.m D__law_size.fn.kp D__law_size.b .nil pass0 (pa_cons (pe_ix ix_tup (pv 0) pe_int (fun _ _ => rfl)) (pa_cons (pv 1) pa_nil))) (pa_cons (pe_call G__law_size hr rfl D__law_size.m D__law_size.fn.kp D__law_size.b .nil pass0 (pa_cons (pe_ix ix_tup (pv 0) pe_int (fun _ _ => rfl)) (pa_cons (pv 1) pa_nil))) pa_nil)) (by rfl))
    (pss_cons (ps_if (PW.pt (pw_or (pt_cmpR op_isN (pv 2) pe_non (nomark _)) (pw_or1 (pt_cmpR op_isN (pv 3) pe_non (nomark _))))) (pss_one (ps_ret pe_non)) pss_nil)
    (pss_cons (ps_if (pt_cmpR op_eq (pe_ix ix_tup (pv 0) pe_int (fun _ _ => rfl)) pe_str (nomark _)) (pss_one (ps_ret (pe_ifExp (pt_cmpR op_lt (pe_op op_mulW (pv 2) (pv 3)) (pe_call0 G__law_most (hr.mono (by omega)) rfl D__law_most.m D__law_most.fn.kp D__law_most.b .nil pass0) (nomark _)) (pe_op op_mulW (pv 2) (pv 3)) pe_non))) pss_nil)
    (pss_one (ps_ret (pe_call G__law_power (hr.mono (by omega)) rfl D__law_power.m D__law_power.fn.kp D__law_power.b .nil pass0 (pa_cons (pv 3) (pa_cons (pv 2) pa_nil)))))))))), ?_⟩
  cases hv with
  | @let_ c i h =>
    refine ⟨_, rfl, _, _, _, _, rfl, rfl, tT h, rfl, rfl, _, rfl, iteTe rfl ?_⟩
    refine ⟨_, rfl, _, rfl, _, _, _, _, rfl, rfl, tT h, rfl, ?_⟩
    refine ⟨_, _, _, _, rfl, rfl, tL ha, li_get (by rw [hs.len]; exact hl), ?_⟩
    exact q _ (Same.refl H)
  | one h =>
    refine ⟨_, rfl, _, _, _, _, rfl, rfl, tT h, rfl, rfl, _, rfl, iteFe (by decide +kernel) ?_⟩
    refine ⟨_, rfl, _, _, _, _, rfl, rfl, tT h, rfl, rfl, _, rfl, iteTe rfl ?_⟩
    exact q _ (Same.refl H)
  | @pair c x y k1 k2 h hx hy =>
    simp only [Kd.depth] at hd
    simp only [Kd.lets] at hl
    refine ⟨_, rfl, _, _, _, _, rfl, rfl, tT h, rfl, rfl, _, rfl, iteFe (by decide +kernel) ?_⟩
    refine ⟨_, rfl, _, _, _, _, rfl, rfl, tT h, rfl, rfl, _, rfl, iteFe (by decide +kernel) ?_⟩
    refine ⟨_, rfl, _, _, _, _, rfl, rfl, tT h, rfl, _, rfl, ?_⟩
    refine ⟨_, k1, a, es, rfl, hx, hl.1, by omega, ha, hs, fun H1 e1 => ?_⟩
    refine ⟨_, rfl, _, _, _, _, rfl, rfl, tT (e1 _ _ h), rfl, _, rfl, ?_⟩
    refine ⟨_, k2, a, es, rfl, hy.same e1, hl.2, by omega, e1 _ _ ha, hs, fun H2 e2 => ?_⟩
    have e3 := e1.trans e2
    have q3 := q _ e3
    refine ⟨_, _, rfl, ?_⟩
    refine ⟨_, rfl, rfl, _, rfl, ?_⟩
    rw [num_non']
    cases z1 : sizeO (ev es) k1 with
    | none =>
      have zz : sizeO (ev es) (.pair k1 k2) = none := by rw [sizeO, z1]; rfl
      rw [zz] at q3
      exact q3
    | some m1 =>
      refine ⟨_, rfl, rfl, _, rfl, ?_⟩
      rw [num_non']
      cases z2 : sizeO (ev es) k2 with
      | none =>
        have zz : sizeO (ev es) (.pair k1 k2) = none := by rw [sizeO, z1, z2]; rfl
        rw [zz] at q3
        exact q3
      | some m2 =>
        have l1 := sizeO_lt hs.le z1
        have l2 := sizeO_lt hs.le z2
        have zz : sizeO (ev es) (.pair k1 k2) = mulO m1 m2 := by rw [sizeO, z1, z2]; rfl
        have cm : CMulW (m1 : Int) (m2 : Int) := wide_mul (nlt l1) (nlt l2) (by omega) (by omega) (by omega)
        refine ⟨_, rfl, _, _, _, _, rfl, rfl, tT (e3 _ _ h), rfl, rfl, _, rfl, iteTe rfl ?_⟩
        refine ⟨_, rfl, _, rfl, _, _, rfl, rfl, cm, rfl, _, _, rfl, rfl, _, rfl, ?_⟩
        have mc := mulO_cases m1 m2
        generalize decide ((m1 : Int) * (m2 : Int) < big) = bb at mc ⊢
        refine mc.elim (fun hh => ?_) (fun hh => ?_)
        · have dc := hh.1
          rw [dc]
          refine iteT ⟨_, rfl, _, rfl, _, _, rfl, rfl, cm, ?_⟩
          have q4 := q3
          rw [zz, hh.2, numV, Int.natCast_mul] at q4
          exact q4
        · have dc := hh.1
          rw [dc]
          refine iteF ?_
          have q4 := q3
          rw [zz, hh.2] at q4
          exact q4
  | @fn c x y k1 k2 h hx hy =>
    simp only [Kd.depth] at hd
    simp only [Kd.lets] at hl
    refine ⟨_, rfl, _, _, _, _, rfl, rfl, tT h, rfl, rfl, _, rfl, iteFe (by decide +kernel) ?_⟩
    refine ⟨_, rfl, _, _, _, _, rfl, rfl, tT h, rfl, rfl, _, rfl, iteFe (by decide +kernel) ?_⟩
    refine ⟨_, rfl, _, _, _, _, rfl, rfl, tT h, rfl, _, rfl, ?_⟩
    refine ⟨_, k1, a, es, rfl, hx, hl.1, by omega, ha, hs, fun H1 e1 => ?_⟩
    refine ⟨_, rfl, _, _, _, _, rfl, rfl, tT (e1 _ _ h), rfl, _, rfl, ?_⟩
    refine ⟨_, k2, a, es, rfl, hy.same e1, hl.2, by omega, e1 _ _ ha, hs, fun H2 e2 => ?_⟩
    have e3 := e1.trans e2
    have q3 := q _ e3
    refine ⟨_, _, rfl, ?_⟩
    refine ⟨_, rfl, rfl, _, rfl, ?_⟩
    rw [num_non']
    cases z1 : sizeO (ev es) k1 with
    | none =>
      have zz : sizeO (ev es) (.fn k1 k2) = none := by rw [sizeO, z1]; rfl
      rw [zz] at q3
      exact q3
    | some m1 =>
      refine ⟨_, rfl, rfl, _, rfl, ?_⟩
      rw [num_non']
      cases z2 : sizeO (ev es) k2 with
      | none =>
        have zz : sizeO (ev es) (.fn k1 k2) = none := by rw [sizeO, z1, z2]; rfl
        rw [zz] at q3
        exact q3
      | some m2 =>
        have l1 := sizeO_lt hs.le z1
        have l2 := sizeO_lt hs.le z2
        have zz : sizeO (ev es) (.fn k1 k2) = pwO m2 m1 := by rw [sizeO, z1, z2]; rfl
        rw [zz] at q3
        refine ⟨_, rfl, _, _, _, _, rfl, rfl, tT (e3 _ _ h), rfl, rfl, _, rfl, iteFe (by decide +kernel) ?_⟩
        refine ⟨_, rfl, _, rfl, m2, m1, rfl, l2, l1, ?_⟩
        exact q3
theorem ok__law_size {f g h : Addr} {fd gd hd : FuncData} (D__law_size : FD K mg "_law_size" s__law_size ["kind", "sizes"] f fd) (D__law_most : FD K mg "_law_most" s__law_most [] g gd) (D__law_power : FD K mg "_law_power" s__law_power ["number", "many"] h hd)
    (G__law_most : FnOk P w K mg base CX0 1 g gd [] sp_too_great) (G__law_power : FnOk P w K mg base CX0 2 h hd ["number", "many"] sp__law_power) : ∀ n, FnOk P w K mg base CX0 (n + 2) f fd ["kind", "sizes"] (sp__law_size n)
  | 0 => fn_none fun vs H Q E h => by
    obtain ⟨v, k, a, es, _, _, _, h, _⟩ := h
    have := k.depth_pos
    omega
  | n + 1 => _law_size_step D__law_size D__law_most D__law_power G__law_most G__law_power (ok__law_size D__law_size D__law_most D__law_power G__law_most G__law_power n)
theorem S__law_due : FnScope ["one", "other", "sizes", "near", "far"] ["one", "other"] (defScope s__law_due) := ⟨rfl, rfl, rfl, by decide +kernel, rfl, by decide +kernel, by decide +kernel⟩
def sp__law_due : Sp := fun vs H Q _ => ∃ (x y : V) (k l : Kd), vs = [x, y] ∧ At H x k ∧ At H y l ∧ k.lets 6 ∧ l.lets 6 ∧ k.depth ≤ 12 ∧ l.depth ≤ 12 ∧
  ∀ ns v H', Lts (fun j => k.has j ∨ l.has j) ns → Same H H' → OptRow H' v (dueM ns k l) → Q v H'
theorem ok__law_due {f f2 f4 f5 : Addr} {fd d2 d4 d5 : FuncData} (D : FD K mg "_law_due" s__law_due ["one", "other"] f fd) (D__law_letters : FD K mg "_law_letters" s__law_letters ["kind"] f2 d2)
    (D__law_tried : FD K mg "_law_tried" s__law_tried ["letters"] f4 d4) (D__law_size : FD K mg "_law_size" s__law_size ["kind", "sizes"] f5 d5)
    (G__law_letters : FnOk P w K mg base CX0 13 f2 d2 ["kind"] (sp_letters_of 13)) (G__law_tried : FnOk P w K mg base CX0 1 f4 d4 ["letters"] sp_tried) (G__law_size : FnOk P w K mg base CX0 14 f5 d5 ["kind", "sizes"] (sp__law_size 12)) :
    FnOk P w K mg base CX0 15 f fd ["one", "other"] sp__law_due := by
  refine D.fn.ok S__law_due (fun vs H Q E h => ?_) (fun cdv A outer s H vs Q E hr h => ?_)
  · obtain ⟨x, y, k, l, rfl, _⟩ := h
    rfl
  obtain ⟨x, y, k, l, rfl, hx, hy, lk, ll, dk, dl, q⟩ := h
  refine ⟨_, (pss_cons (ps_for PassesOwn.never rfl (pi_list (pe_call G__law_tried (hr.mono (by omega)) rfl D__law_tried.m D__law_tried.fn.kp D__law_tried.b .nil pass0 (pa_cons (pe_call G__law_letters (hr.mono (by omega)) rfl D__law_letters.m D__law_letters.fn.kp D__law_letters.b .nil pass0 (pa_cons (pe_tup (pa_cons pe_str (pa_cons (pv 0) (pa_cons (pv 1) pa_nil)))) pa_nil)) pa_nil))) (pg_name (i := 2) S__law_due.nd rfl (Or.inl rfl)) (pss_cons (ps_par (i := 3) (j := 4) rfl S__law_due.nd rfl rfl (by decide) rfl rfl (pa_cons (pe_call G__law_size hr rfl D__law_size.m D__law_size.fn.kp D__law_size.b .nil pass0 (pa_cons (pv 0) (pa_cons (pv 2) pa_nil))) (pa_cons (pe_call G__law_size hr rfl D__law_size.m D__law_size.fn.kp D__law_size.b .nil pass0 (pa_cons (pv 1) (pa_cons (pv 2) pa_nil))) pa_nil)) (by rfl))
    (pss_one (ps_if (PW.pt (pw_and (pt_cmpR op_notN (pv 3) pe_non (nomark _)) (pw_and (pt_cmpR op_notN (pv 4) pe_non (nomark _)) (pw_and1 (pt_cmpR op_ne (pv 3) (pv 4) (nomark _)))))) (pss_one (ps_ret (pv 2))) pss_nil))))
    (pss_one (ps_ret pe_non))), ?_⟩
  refine ⟨_, rfl, _, rfl, size1000 (by show 3 ≤ 1000; omega), fun p0 hp0 => ?_⟩
  have e0 := Same.new hp0 (.tup [.str "pair", x, y])
  refine ⟨_, .pair k l, rfl, .pair upd_same (hx.same e0) (hy.same e0), ⟨lk, ll⟩, by rw [Kd.depth]; omega, fun p H4 ns e4 h4 l4 => ?_⟩
  refine ⟨p, ns, rfl, h4, fun pt H5 ps e5 h5 rows => ?_⟩
  have e45 := e0.trans (e4.trans e5)
  refine ⟨pt, rfl, ⟨_, tL h5⟩, ?_⟩
  have l4' : Lts (fun j => k.has j ∨ l.has j) ns := ⟨l4.r, fun j => l4.m j, l4.l⟩
  refine for_list (xs := ps) (fun i σ H' => Same H5 H' ∧ dueM ns k l = ((tr ns 6).drop i).find? (diff k l) ∧ ∃ o3 o4 o5, σ = [some x, some y, o3, o4, o5]) ⟨Same.refl _, rfl, none, none, none, rfl⟩ (fun i σ H' _ h => tL (h.1 _ _ h5)) ?_ ?_
  · rintro i z σ H' ez ⟨e6, du, o3, o4, o5, rfl⟩
    obtain ⟨es, ee, rz⟩ := rows.get ez
    have e46 := e45.trans e6
    have sz := tr_ok (List.mem_of_getElem? ee)
    obtain ⟨az, rfl, hz⟩ := rz.same e6
    refine ⟨_, rfl, _, rfl, x, k, az, es, rfl, hx.same e46, lk, dk, hz, sz, fun H7 e7 => ?_⟩
    refine ⟨_, rfl, _, rfl, y, l, az, es, rfl, hy.same (e46.trans e7), ll, dl, e7 _ _ hz, sz, fun H8 e8 => ?_⟩
    refine ⟨_, _, rfl, ?_⟩
    have e48 := e7.trans e8
    rw [drop_get ee, List.find?_cons] at du
    have stop : diff k l es = false → dueM ns k l = ((tr ns 6).drop (i + 1)).find? (diff k l) := fun c => by rw [c] at du; exact du
    have nx : diff k l es = false → Same H5 H8 ∧ dueM ns k l = ((tr ns 6).drop (i + 1)).find? (diff k l) ∧ ∃ o3 o4 o5, [some x, some y, some (.ref az), some (numV (sizeO (ev es) k)), some (numV (sizeO (ev es) l))] = [some x, some y, o3, o4, o5] :=
      fun c => ⟨e6.trans e48, stop c, _, _, _, rfl⟩
    refine ⟨_, rfl, rfl, _, rfl, ?_⟩
    rw [num_non]
    cases c1 : sizeO (ev es) k with
    | none =>
      rw [c1] at nx
      exact nx (by unfold diff; rw [c1])
    | some m1 =>
      refine ⟨_, rfl, rfl, _, rfl, ?_⟩
      rw [num_non]
      cases c2 : sizeO (ev es) l with
      | none =>
        rw [c1, c2] at nx
        exact nx (by unfold diff; rw [c1, c2])
      | some m2 =>
        rw [c1, c2] at nx
        refine ⟨_, rfl, _, rfl, rfl, _, rfl, ?_⟩
        have dd : diff k l es = !decide (m1 = m2) := by unfold diff; rw [c1, c2]
        rw [num_ne, ← dd]
        cases c : diff k l es with
        | false => exact nx c
        | true =>
          rw [c] at du
          refine ⟨_, rfl, q ns _ _ l4' (e46.trans e48) ?_⟩
          rw [du]
          exact ⟨az, rfl, e48 _ _ hz⟩
  · rintro σ H' ⟨e6, du, _⟩
    rw [rows.length, List.drop_length] at du
    refine q ns _ _ l4' (e45.trans e6) ?_
    rw [du]
    exact rfl
end
end T84

/-! r84 -/
namespace L2
open PySem PySem.Spec PyProof.Rows
/-- repr(x) of a list or tuple of data -/
def rReprD (K : PySem.W.Frag) : List V → Hp → VK → Prop := fun xs H Q => ∃ (a : Addr) (d : PyData), xs = [.ref a] ∧ Dp K H (.ref a) d ∧ d.showable = true ∧ d.hasDict = false ∧ d.depth ≤ 60 ∧ d.shown.length ≤ sizeLine ∧ Q (.str d.shown) H
theorem cr_reprD {X : Cx} (hg : X.A.guards = some []) (hu : X.A.units + 64 < cLine) : CallR X (.builtin "repr") (rReprD X.K) := by
  intro pins s σ H xs us Q I r h
  obtain ⟨a, d, rfl, hd, hs, hn, hp, hl, q⟩ := h
  rw [Vals.ref1 r]
  obtain ⟨as, rd⟩ := Dp.reads I d (.ref a) (.ref a) hd rfl
  refine repr_of_reads' (h₀ := s.heap) rd hs (fun z => by rw [hn] at z; cases z) hg (by omega) (fun b o z => z) (fun h1 u tk k => ?_) hl
  exact ⟨.str d.shown, H, I.kept (t' := tk) k, ⟨u, rfl⟩, q⟩
end L2

/-! s84 -/
namespace T84
open PySem L2
abbrev s__law_draw : Stmt := top 50
abbrev s__law_pick : Stmt := top 51
abbrev s__law_leaf : Stmt := top 52
abbrev s__law_signs : Stmt := top 54
abbrev s__law_depth : Stmt := top 55
abbrev s__law_pure : Stmt := top 56
/-- the pot of draws stands at a -/
def PotAt (H : Hp) (a : Addr) : Prop := ∃ x y : Int, H a = some (.lst [.int x, .int y]) ∧ 0 ≤ x ∧ 0 ≤ y ∧ y < 2147483564
theorem PotAt.same {H H' : Hp} {a : Addr} (e : Same H H') (h : PotAt H a) : PotAt H' a := let ⟨x, y, z, r⟩ := h; ⟨x, y, e _ _ z, r⟩
theorem At.pot {H H' : Hp} {a : Addr} (p : PotAt H a) (e : Keep a H H') {v : V} {k : Kd} (h : At H v k) : At H' v k := let ⟨_, _, z, _⟩ := p; h.keep z e
section
variable {P : Program} {w : World} {K : PySem.W.Frag} {mg : Str → Option Value} {base : Heap} {aDOUBLE C L fI : Addr} {fdI : FuncData}
theorem S__law_draw : FnScope ["pot", "many", "digit"] ["pot", "many"] (defScope s__law_draw) := ⟨rfl, rfl, rfl, by decide +kernel, rfl, by decide +kernel, by decide +kernel⟩
def sp__law_draw : Sp := fun vs H Q _ => ∃ (a : Addr) (m : Int), vs = [.ref a, .int m] ∧ 0 < m ∧ m < 1000 ∧ PotAt H a ∧ ∀ d H', 0 ≤ d → d < m → Keep a H H' → PotAt H' a → Q (.int d) H'
theorem ok__law_draw {f : Addr} {fd : FuncData} (D : FD K mg "_law_draw" s__law_draw ["pot", "many"] f fd) (T : Cs K mg aDOUBLE) : FnOk P w K mg base CX0 1 f fd ["pot", "many"] sp__law_draw := by
  refine D.fn.ok S__law_draw (fun vs H Q E h => ?_) (fun cdv A outer s H vs Q E hr h => ?_)
  · obtain ⟨a, m, rfl, _⟩ := h
    rfl
  obtain ⟨a, m, rfl, m0, m1, ⟨x, y, ha, hx, hy, hy2⟩, q⟩ := h
  refine ⟨_, (pss_cons (ps_if (pt_cmpR op_gt (pe_ix ix_list (pv 0) pe_int (fun _ _ => rfl)) pe_int (nomark _)) (pss_cons (ps_asg (pe_callB call_divmod (by rfl) T.z_divmod (by decide +kernel) (pa_cons (pe_ix ix_list (pv 0) pe_int (fun _ _ => rfl)) (pa_cons (pv 1) pa_nil))) (pg_tup rfl (pgs_cons (pg_sub (pv 0) pe_int set_list) (pgs_cons (pg_name (i := 2) S__law_draw.nd rfl (Or.inl rfl)) pgs_nil))))
    (pss_one (ps_ret (pv 2)))) pss_nil)
    (pss_cons (ps_asg (pe_op op_mod (pe_callTy call_int1 (by rfl) T.z_int (by decide +kernel) (pa_cons (pe_op op_add (pe_op op_mul (pe_ix ix_list (pv 0) pe_int (fun _ _ => rfl)) pe_int) pe_int) pa_nil)) pe_int) (pg_sub (pv 0) pe_int set_list))
    (pss_one (ps_ret (pe_op op_mod (pe_callTy call_int1 (by rfl) T.z_int (by decide +kernel) (pa_cons (pe_op op_fdiv (pe_op op_mod (pe_callTy call_int1 (by rfl) T.z_int (by decide +kernel) (pa_cons (pe_op op_mul (pe_ix ix_list (pv 0) pe_int (fun _ _ => rfl)) (pe_ix ix_list (pv 0) pe_int (fun _ _ => rfl))) pa_nil)) pe_int) pe_int) pa_nil)) (pv 1)))))), ?_⟩
  refine ⟨_, rfl, _, _, _, _, rfl, rfl, tL ha, rfl, _, _, rfl, rfl, _, rfl, ?_⟩
  by_cases c : 0 < x
  · refine iteTe (decide_eq_true c) ?_
    refine ⟨_, rfl, _, _, _, _, rfl, rfl, tL ha, rfl, _, rfl, _, _, rfl, ⟨m0, by omega⟩, fun p hp => ?_⟩
    refine ⟨_, _, rfl, tT upd_same, rfl, ?_⟩
    have ha' := Same.new hp (.tup [.int (x / m), .int (x % m)]) _ _ ha
    refine ⟨_, _, rfl, _, rfl, a, _, _, 0, rfl, rfl, ha', rfl, ?_⟩
    refine ⟨_, _, rfl, rfl, _, rfl, q _ _ (Int.emod_nonneg _ (by omega)) (Int.emod_lt_of_pos _ m0) ((Keep.of (Same.new hp _)).upd _) ⟨x / m, y, upd_same, Int.ediv_nonneg hx (by omega), hy, hy2⟩⟩
  · refine iteFe (decide_eq_false c) ?_
    refine ⟨_, rfl, _, _, _, _, rfl, rfl, tL ha, rfl, _, _, rfl, rfl, .inr ⟨by decide, by decide⟩, _, _, rfl, rfl, .inl ⟨_, rfl, _, _, rfl, rfl, (by show (0 : Int) < 2147483563; decide), ?_⟩⟩
    refine ⟨_, rfl, a, _, _, 1, rfl, rfl, ha, rfl, ?_⟩
    have y0 : 0 ≤ (y * 40014 + 10177) % 2147483563 := Int.emod_nonneg _ (by decide)
    have y1 : (y * 40014 + 10177) % 2147483563 < 2147483563 := Int.emod_lt_of_pos _ (by decide)
    refine ⟨_, rfl, _, _, _, _, rfl, rfl, tL upd_same, rfl, _, rfl, _, _, _, _, rfl, rfl, tL upd_same, rfl, _, _, rfl, rfl, .inl ⟨by show -(2 ^ 64) < (y * 40014 + 10177) % 2147483563; omega, by show (y * 40014 + 10177) % 2147483563 < 2 ^ 64; omega⟩, .inl ⟨_, rfl, _, _, rfl, rfl, (by show (0 : Int) < 2147483549; decide), ?_⟩⟩
    refine ⟨_, _, rfl, rfl, ⟨by decide, by decide⟩, .inl ⟨_, rfl, _, rfl, _, _, rfl, rfl, m0, ?_⟩⟩
    exact q _ _ (Int.emod_nonneg _ (by omega)) (Int.emod_lt_of_pos _ m0) (Keep.upd _ Keep.refl) ⟨x, _, upd_same, hx, y0, Int.lt_trans y1 (by decide)⟩
theorem S__law_pick : FnScope ["pot", "some"] ["pot", "some"] (defScope s__law_pick) := ⟨rfl, rfl, rfl, by decide +kernel, rfl, by decide +kernel, by decide +kernel⟩
def sp__law_pick : Sp := fun vs H Q _ => ∃ (a b : Addr) (xs : List V), vs = [.ref a, .ref b] ∧ b ≠ a ∧ H b = some (.lst xs) ∧ 0 < xs.length ∧ xs.length < 1000 ∧ PotAt H a ∧ ∀ v H', v ∈ xs → Keep a H H' → PotAt H' a → Q v H'
theorem ok__law_pick {f g : Addr} {fd gd : FuncData} (D : FD K mg "_law_pick" s__law_pick ["pot", "some"] f fd) (D__law_draw : FD K mg "_law_draw" s__law_draw ["pot", "many"] g gd) (T : Cs K mg aDOUBLE)
    (G__law_draw : FnOk P w K mg base CX0 1 g gd ["pot", "many"] sp__law_draw) : FnOk P w K mg base CX0 2 f fd ["pot", "some"] sp__law_pick := by
  refine D.fn.ok S__law_pick (fun vs H Q E h => ?_) (fun cdv A outer s H vs Q E hr h => ?_)
  · obtain ⟨a, b, xs, rfl, _⟩ := h
    rfl
  obtain ⟨a, b, xs, rfl, nb, hb, l0, l1, hp, q⟩ := h
  refine ⟨_, (pss_one (ps_ret (pe_ix ix_list (pv 1) (pe_call G__law_draw hr rfl D__law_draw.m D__law_draw.fn.kp D__law_draw.b .nil pass0 (pa_cons (pv 0) (pa_cons (pe_callB call_len (by rfl) T.z_len PySem.boot_len (pa_cons (pv 1) pa_nil)) pa_nil))) (fun _ _ => rfl)))), ?_⟩
  refine ⟨_, rfl, _, rfl, _, rfl, _, _, rfl, .inl ⟨_, tL hb, rfl⟩, ?_⟩
  refine ⟨a, _, rfl, by omega, by omega, hp, fun d H1 d0 d1 k p1 => ?_⟩
  obtain ⟨n, rfl⟩ : ∃ n : Nat, d = (n : Int) := ⟨d.toNat, by omega⟩
  have lt : n < xs.length := by omega
  have hb1 := k _ _ nb hb
  exact ⟨_, _, _, xs[n], rfl, rfl, tL hb1, atI_nat (List.getElem?_eq_getElem lt), q _ _ (List.getElem_mem lt) k p1⟩
theorem S__law_leaf : FnScope ["pot"] ["pot"] (defScope s__law_leaf) := ⟨rfl, rfl, rfl, by decide +kernel, rfl, by decide +kernel, by decide +kernel⟩
/-- letters below m, so many signs, so deep -/
structure Sz (m s d : Nat) (k : Kd) : Prop where
  l : k.lets m
  s : k.signs ≤ s
  d : k.depth ≤ d
def sp__law_leaf : Sp := fun vs H Q _ => ∃ (a : Addr), vs = [.ref a] ∧ PotAt H a ∧ ∀ v k H', At H' v k → Sz 3 1 1 k → Keep a H H' → PotAt H' a → Q v H'
theorem ok__law_leaf {f g : Addr} {fd gd : FuncData} (D : FD K mg "_law_leaf" s__law_leaf ["pot"] f fd) (D__law_pick : FD K mg "_law_pick" s__law_pick ["pot", "some"] g gd)
    (G__law_pick : FnOk P w K mg base CX0 2 g gd ["pot", "some"] sp__law_pick) : FnOk P w K mg base CX0 3 f fd ["pot"] sp__law_leaf := by
  refine D.fn.ok S__law_leaf (fun vs H Q E h => ?_) (fun cdv A outer s H vs Q E hr h => ?_)
  · obtain ⟨a, rfl, _⟩ := h
    rfl
  obtain ⟨a, rfl, hp, q⟩ := h
  refine ⟨_, (pss_one (ps_ret (pe_call G__law_pick hr rfl D__law_pick.m D__law_pick.fn.kp D__law_pick.b .nil pass0 (pa_cons (pv 0) (pa_cons (pe_lst (pa_cons (pe_tup (pa_cons pe_str (pa_cons pe_int pa_nil))) (pa_cons (pe_tup (pa_cons pe_str (pa_cons pe_int pa_nil))) (pa_cons (pe_tup (pa_cons pe_str (pa_cons pe_int pa_nil))) (pa_cons (pe_tup (pa_cons pe_str (pa_cons pe_int pa_nil))) (pa_cons (pe_tup (pa_cons pe_str (pa_cons pe_int pa_nil))) (pa_cons (pe_tup (pa_cons pe_str pa_nil)) pa_nil))))))) pa_nil))))), ?_⟩
  refine ⟨_, rfl, size2, fun p1 h1 => ⟨size2, fun p2 h2 => ⟨size2, fun p3 h3 => ⟨size2, fun p4 h4 => ⟨size2, fun p5 h5 => ⟨size1, fun p6 h6 => ⟨size1000 (by show 6 ≤ 1000; omega), fun p7 h7 => ?_⟩⟩⟩⟩⟩⟩⟩
  have e7 := Same.new h7 (.lst [.ref p1, .ref p2, .ref p3, .ref p4, .ref p5, .ref p6])
  have e6 := (Same.new h6 (.tup [.str "one"])).trans e7
  have e5 := (Same.new h5 (.tup [.str "letter", .int 2])).trans e6
  have e4 := (Same.new h4 (.tup [.str "letter", .int 1])).trans e5
  have e3 := (Same.new h3 (.tup [.str "letter", .int 1])).trans e4
  have e2 := (Same.new h2 (.tup [.str "letter", .int 0])).trans e3
  have e1 := (Same.new h1 (.tup [.str "letter", .int 0])).trans e2
  have hp7 := hp.same e1
  refine ⟨a, p7, _, rfl, fun z => ?_, upd_same, by show 0 < 6; omega, by show 6 < 1000; omega, hp7, fun v H' hv k p8 => ?_⟩
  · obtain ⟨x, y, r, _⟩ := hp7
    rw [← z, upd_same] at r
    cases r
  · have one : ∀ (p : Addr) (i : Nat), At (upd (upd (upd (upd (upd (upd (upd H p1 (.tup [.str "letter", .int 0])) p2 (.tup [.str "letter", .int 0])) p3 (.tup [.str "letter", .int 1])) p4 (.tup [.str "letter", .int 1])) p5 (.tup [.str "letter", .int 2])) p6 (.tup [.str "one"])) p7 (.lst [.ref p1, .ref p2, .ref p3, .ref p4, .ref p5, .ref p6])) (.ref p) (.let_ i) → i < 3 → Q (.ref p) H' :=
      fun p i z li => q _ (.let_ i) H' (z.pot hp7 k) ⟨li, by simp [Kd.signs], by simp [Kd.depth]⟩ (Keep.trans (Keep.of e1) k) p8
    simp only [List.mem_cons, List.not_mem_nil, or_false] at hv
    rcases hv with rfl | rfl | rfl | rfl | rfl | rfl
    · exact one p1 0 (.let_ (e2 _ _ upd_same)) (by omega)
    · exact one p2 0 (.let_ (e3 _ _ upd_same)) (by omega)
    · exact one p3 1 (.let_ (e4 _ _ upd_same)) (by omega)
    · exact one p4 1 (.let_ (e5 _ _ upd_same)) (by omega)
    · exact one p5 2 (.let_ (e6 _ _ upd_same)) (by omega)
    · exact q _ .one H' (At.pot hp7 k (.one (e7 _ _ upd_same))) ⟨trivial, by simp [Kd.signs], by simp [Kd.depth]⟩ (Keep.trans (Keep.of e1) k) p8
theorem S__law_signs : FnScope ["kind"] ["kind"] (defScope s__law_signs) := ⟨rfl, rfl, rfl, by decide +kernel, rfl, by decide +kernel, by decide +kernel⟩
theorem ok__law_signs {f : Addr} {fd : FuncData} (D : FD K mg "_law_signs" s__law_signs ["kind"] f fd) (T : Cs K mg aDOUBLE) : ∀ n : Nat, FnOk P w K mg base CX0 n f fd ["kind"] (sp_signs_of n)
  | 0 => signs_none
  | n + 1 => by
    have D__law_signs := D
    have G__law_signs : FnOk P w K mg base CX0 n f fd ["kind"] (sp_signs_of n) := ok__law_signs D T n
    refine D.fn.ok S__law_signs (fun vs H Q E h => ?_) (fun cdv A outer s H vs Q E hr h => ?_)
    · obtain ⟨v, k, rfl, _⟩ := h
      rfl
    obtain ⟨v, k, rfl, hv, hd, q⟩ := h
    refine ⟨_, (pss_one (ps_ret (pe_ifExp (pt_cmpR op_eq (pe_callB call_len (by rfl) T.z_len PySem.boot_len (pa_cons (pv 0) pa_nil)) pe_int (nomark _)) (pe_op op_add (pe_op op_add pe_int (pe_call G__law_signs hr rfl D__law_signs.m D__law_signs.fn.kp D__law_signs.b .nil pass0 (pa_cons (pe_ix ix_tup (pv 0) pe_int (fun _ _ => rfl)) pa_nil))) (pe_call G__law_signs hr rfl D__law_signs.m D__law_signs.fn.kp D__law_signs.b .nil pass0 (pa_cons (pe_ix ix_tup (pv 0) pe_int (fun _ _ => rfl)) pa_nil))) pe_int))), ?_⟩
    cases hv with
    | let_ h => exact ⟨_, rfl, _, _, rfl, .inr ⟨_, tT h, rfl⟩, rfl, _, rfl, iteFe len2 q⟩
    | one h => exact ⟨_, rfl, _, _, rfl, .inr ⟨_, tT h, rfl⟩, rfl, _, rfl, iteFe len1 q⟩
    | pair h hx hy =>
      simp only [Kd.depth] at hd
      refine ⟨_, rfl, _, _, rfl, .inr ⟨_, tT h, rfl⟩, rfl, _, rfl, iteTe len3 ?_⟩
      refine ⟨_, rfl, _, _, _, _, rfl, rfl, tT h, rfl, _, _, rfl, hx, by omega, _, _, rfl, rfl, ?_⟩
      exact ⟨_, rfl, _, _, _, _, rfl, rfl, tT h, rfl, _, _, rfl, hy, by omega, _, _, rfl, rfl, q⟩
    | fn h hx hy =>
      simp only [Kd.depth] at hd
      refine ⟨_, rfl, _, _, rfl, .inr ⟨_, tT h, rfl⟩, rfl, _, rfl, iteTe len3 ?_⟩
      refine ⟨_, rfl, _, _, _, _, rfl, rfl, tT h, rfl, _, _, rfl, hx, by omega, _, _, rfl, rfl, ?_⟩
      exact ⟨_, rfl, _, _, _, _, rfl, rfl, tT h, rfl, _, _, rfl, hy, by omega, _, _, rfl, rfl, q⟩
theorem S__law_depth : FnScope ["kind"] ["kind"] (defScope s__law_depth) := ⟨rfl, rfl, rfl, by decide +kernel, rfl, by decide +kernel, by decide +kernel⟩
def sp__law_depth (n : Nat) : Sp := fun vs H Q _ => ∃ (v : V) (k : Kd), vs = [v] ∧ At H v k ∧ k.depth ≤ n ∧ Q (.int (k.depth : Int)) H
theorem max_cast (a b : Nat) : (1 : Int) + (if (a : Int) < (b : Int) then (b : Int) else (a : Int)) = ((1 + max a b : Nat) : Int) := by
  split <;> omega
theorem ok__law_depth {f : Addr} {fd : FuncData} (D : FD K mg "_law_depth" s__law_depth ["kind"] f fd) (T : Cs K mg aDOUBLE) : ∀ n : Nat, FnOk P w K mg base CX0 n f fd ["kind"] (sp__law_depth n)
  | 0 => fn_none fun vs H Q E h => by
    obtain ⟨v, k, _, _, h, _⟩ := h
    have := k.depth_pos
    omega
  | n + 1 => by
    have D__law_depth := D
    have G__law_depth : FnOk P w K mg base CX0 n f fd ["kind"] (sp__law_depth n) := ok__law_depth D T n
    refine D.fn.ok S__law_depth (fun vs H Q E h => ?_) (fun cdv A outer s H vs Q E hr h => ?_)
    · obtain ⟨v, k, rfl, _⟩ := h
      rfl
    obtain ⟨v, k, rfl, hv, hd, q⟩ := h
    refine ⟨_, (pss_one (ps_ret (pe_ifExp (pt_cmpR op_eq (pe_callB call_len (by rfl) T.z_len PySem.boot_len (pa_cons (pv 0) pa_nil)) pe_int (nomark _)) (pe_op op_add pe_int (pe_callB (call_max2 rfl) (by rfl) T.z_max (by decide +kernel) (pa_cons (pe_call G__law_depth hr rfl D__law_depth.m D__law_depth.fn.kp D__law_depth.b .nil pass0 (pa_cons (pe_ix ix_tup (pv 0) pe_int (fun _ _ => rfl)) pa_nil)) (pa_cons (pe_call G__law_depth hr rfl D__law_depth.m D__law_depth.fn.kp D__law_depth.b .nil pass0 (pa_cons (pe_ix ix_tup (pv 0) pe_int (fun _ _ => rfl)) pa_nil)) pa_nil)))) pe_int))), ?_⟩
    cases hv with
    | let_ h => exact ⟨_, rfl, _, _, rfl, .inr ⟨_, tT h, rfl⟩, rfl, _, rfl, iteFe len2 q⟩
    | one h => exact ⟨_, rfl, _, _, rfl, .inr ⟨_, tT h, rfl⟩, rfl, _, rfl, iteFe len1 q⟩
    | pair h hx hy =>
      simp only [Kd.depth] at hd
      refine ⟨_, rfl, _, _, rfl, .inr ⟨_, tT h, rfl⟩, rfl, _, rfl, iteTe len3 ?_⟩
      refine ⟨_, rfl, _, _, _, _, rfl, rfl, tT h, rfl, _, _, rfl, hx, by omega, ?_⟩
      refine ⟨_, rfl, _, _, _, _, rfl, rfl, tT h, rfl, _, _, rfl, hy, by omega, _, _, rfl, _, _, rfl, rfl, ?_⟩
      rw [Kd.depth, ← max_cast] at q
      exact q
    | fn h hx hy =>
      simp only [Kd.depth] at hd
      refine ⟨_, rfl, _, _, rfl, .inr ⟨_, tT h, rfl⟩, rfl, _, rfl, iteTe len3 ?_⟩
      refine ⟨_, rfl, _, _, _, _, rfl, rfl, tT h, rfl, _, _, rfl, hx, by omega, ?_⟩
      refine ⟨_, rfl, _, _, _, _, rfl, rfl, tT h, rfl, _, _, rfl, hy, by omega, _, _, rfl, _, _, rfl, rfl, ?_⟩
      rw [Kd.depth, ← max_cast] at q
      exact q
end
end T84

/-! u84 -/
namespace T84
open PySem L2
abbrev s__law_otherwise : Stmt := top 68
def sgn : Nat → Nat
  | 0 => 1
  | n + 1 => 1 + 2 * sgn n
theorem sgn_pos (n : Nat) : 1 ≤ sgn n := by cases n <;> simp [sgn] <;> omega
theorem Sz.more {m s d s' d' : Nat} {k : Kd} (h : Sz m s d k) (hs : s ≤ s') (hd : d ≤ d') : Sz m s' d' k := ⟨h.l, by have := h.s; omega, Nat.le_trans h.d hd⟩
section
variable {P : Program} {w : World} {K : PySem.W.Frag} {mg : Str → Option Value} {base : Heap} {aDOUBLE C L fI : Addr} {fdI : FuncData}
theorem S__law_pure : FnScope ["pot", "fuel", "word"] ["pot", "fuel"] (defScope s__law_pure) := ⟨rfl, rfl, rfl, by decide +kernel, rfl, by decide +kernel, by decide +kernel⟩
def sp__law_pure (n : Nat) : Sp := fun vs H Q _ => ∃ (a : Addr) (z : Int), vs = [.ref a, .int z] ∧ z = n ∧ PotAt H a ∧ ∀ v k H', At H' v k → Sz 3 (sgn n) (n + 1) k → Keep a H H' → PotAt H' a → Q v H'
theorem ok__law_pure {f g1 g2 g3 : Addr} {fd d1 d2 d3 : FuncData} (D__law_pure : FD K mg "_law_pure" s__law_pure ["pot", "fuel"] f fd) (D__law_draw : FD K mg "_law_draw" s__law_draw ["pot", "many"] g1 d1) (D__law_leaf : FD K mg "_law_leaf" s__law_leaf ["pot"] g2 d2)
    (D__law_pick : FD K mg "_law_pick" s__law_pick ["pot", "some"] g3 d3) (G__law_draw : FnOk P w K mg base CX0 1 g1 d1 ["pot", "many"] sp__law_draw) (G__law_leaf : FnOk P w K mg base CX0 3 g2 d2 ["pot"] sp__law_leaf) (G__law_pick : FnOk P w K mg base CX0 2 g3 d3 ["pot", "some"] sp__law_pick) :
    ∀ n, FnOk P w K mg base CX0 (n + 4) f fd ["pot", "fuel"] (sp__law_pure n) := by
  have base_ : ∀ (n : Nat) (G__law_pure : FnOk P w K mg base CX0 (n + 3) f fd ["pot", "fuel"] (fun vs H Q E => ∃ m, n = m + 1 ∧ sp__law_pure m vs H Q E)), FnOk P w K mg base CX0 (n + 3 + 1) f fd ["pot", "fuel"] (sp__law_pure n) := by
    intro n G__law_pure
    refine D__law_pure.fn.ok S__law_pure (fun vs H Q E h => ?_) (fun cdv A outer s H vs Q E hr h => ?_)
    · obtain ⟨a, z, rfl, _⟩ := h
      rfl
    obtain ⟨a, z, rfl, hz, hp, q⟩ := h
    refine ⟨_, (pss_cons (ps_if (PW.pt (pw_or (pt_cmpR op_eq (pv 1) pe_int (nomark _)) (pw_or1 (pt_cmpR op_eq (pe_call G__law_draw (hr.mono (by omega)) rfl D__law_draw.m D__law_draw.fn.kp D__law_draw.b .nil pass0 (pa_cons (pv 0) (pa_cons pe_int pa_nil))) pe_int (nomark _))))) (pss_one (ps_ret (pe_call G__law_leaf (hr.mono (by omega)) rfl D__law_leaf.m D__law_leaf.fn.kp D__law_leaf.b .nil pass0 (pa_cons (pv 0) pa_nil)))) pss_nil)
    (pss_cons (ps_set (i := 2) S__law_pure.nd rfl (Or.inl rfl) (pe_call G__law_pick (hr.mono (by omega)) rfl D__law_pick.m D__law_pick.fn.kp D__law_pick.b .nil pass0 (pa_cons (pv 0) (pa_cons (pe_lst (pa_cons pe_str (pa_cons pe_str (pa_cons pe_str pa_nil)))) pa_nil))))
    (pss_one (ps_ret (pe_tup (pa_cons (pv 2) (pa_cons (pe_call G__law_pure hr rfl D__law_pure.m D__law_pure.fn.kp D__law_pure.b .nil pass0 (pa_cons (pv 0) (pa_cons (pe_op op_sub (pv 1) pe_int) pa_nil))) (pa_cons (pe_call G__law_pure hr rfl D__law_pure.m D__law_pure.fn.kp D__law_pure.b .nil pass0 (pa_cons (pv 0) (pa_cons (pe_op op_sub (pv 1) pe_int) pa_nil))) pa_nil)))))))), ?_⟩
    refine ⟨_, rfl, rfl, _, rfl, ?_⟩
    have leaf : ∀ H1, Keep a H H1 → PotAt H1 a → sp__law_leaf [.ref a] H1 Q E0 := fun H1 k1 p1 => ⟨a, rfl, p1, fun v k H' hv sz k2 p2 => q v k H' hv (sz.more (sgn_pos n) (by omega)) (k1.trans k2) p2⟩
    by_cases c : z = 0
    · rw [show decide (V.int z = V.int 0) = true from decide_eq_true (by rw [c])]
      exact ⟨_, rfl, leaf H Keep.refl hp⟩
    · rw [show decide (V.int z = V.int 0) = false from decide_eq_false (fun y => c (by injection y))]
      obtain ⟨m, hn⟩ : ∃ m, n = m + 1 := ⟨n - 1, by omega⟩
      refine ⟨_, rfl, a, 4, rfl, by decide, by decide, hp, fun d H1 d0 d4 k1 p1 => ?_⟩
      refine ⟨rfl, _, rfl, ?_⟩
      by_cases cd : d = 0
      · rw [show decide (V.int d = V.int 0) = true from decide_eq_true (by rw [cd])]
        exact ⟨_, rfl, leaf H1 k1 p1⟩
      · rw [show decide (V.int d = V.int 0) = false from decide_eq_false (fun y => cd (by injection y))]
        refine ⟨_, rfl, size1000 (by show 3 ≤ 1000; omega), fun b hb => ?_⟩
        have eb := Same.new hb (.lst [.str "fun", .str "fun", .str "pair"])
        have pb := p1.same eb
        refine ⟨a, b, _, rfl, fun y => ?_, upd_same, by show 0 < 3; omega, by show 3 < 1000; omega, pb, fun wd H2 hw k2 p2 => ?_⟩
        · obtain ⟨x1, x2, r, _⟩ := pb
          rw [← y, upd_same] at r
          cases r
        · refine ⟨_, rfl, _, rfl, _, rfl, _, _, rfl, rfl, m, hn, a, _, rfl, by omega, p2, fun v1 l1 H3 h1 s1 k3 p3 => ?_⟩
          refine ⟨_, rfl, _, rfl, _, _, rfl, rfl, m, hn, a, _, rfl, by omega, p3, fun v2 l2 H4 h2 s2 k4 p4 => ?_⟩
          refine ⟨size1000 (by show 3 ≤ 1000; omega), fun p hpn => ?_⟩
          have e5 := Same.new hpn (.tup [wd, v1, v2])
          have kk : Keep a H (upd H4 p (.tup [wd, v1, v2])) := (k1.trans ((Keep.of eb).trans (k2.trans (k3.trans k4)))).trans (Keep.of e5)
          have a1 := (h1.pot p3 k4).same e5
          have a2 := h2.same e5
          have g1 := s1.s
          have g2 := s2.s
          have f1 := s1.d
          have f2 := s2.d
          have sg : sgn n = 1 + 2 * sgn m := by rw [hn, sgn]
          simp only [List.mem_cons, List.not_mem_nil, or_false] at hw
          have fin : ∀ k5, At (upd H4 p (.tup [wd, v1, v2])) (.ref p) k5 → Sz 3 (sgn n) (n + 1) k5 → Q (.ref p) (upd H4 p (.tup [wd, v1, v2])) := fun k5 x5 z5 => q _ k5 _ x5 z5 kk (p4.same e5)
          have zf : Sz 3 (sgn n) (n + 1) (.fn l1 l2) := ⟨⟨s1.l, s2.l⟩, by rw [Kd.signs, sg]; omega, by rw [Kd.depth]; omega⟩
          have zp : Sz 3 (sgn n) (n + 1) (.pair l1 l2) := ⟨⟨s1.l, s2.l⟩, by rw [Kd.signs, sg]; omega, by rw [Kd.depth]; omega⟩
          rcases hw with rfl | rfl | rfl
          · exact fin _ (.fn upd_same a1 a2) zf
          · exact fin _ (.fn upd_same a1 a2) zf
          · exact fin _ (.pair upd_same a1 a2) zp
  intro n
  induction n with
  | zero => exact base_ 0 (fn_none fun vs H Q E h => by
      obtain ⟨m, h, _⟩ := h
      omega)
  | succ n ih =>
    refine base_ (n + 1) (ih.imp fun vs H Q E h => ?_)
    obtain ⟨m, e, h⟩ := h
    have : n = m := by omega
    subst this
    exact h
end
end T84

/-! v84 -/
namespace T84
open PySem L2
inductive Mk : Str → (Kd → Kd → Kd) → Prop
  | pair : Mk "pair" .pair
  | fn : Mk "fun" .fn
namespace Mk
theorem at_ {wd : Str} {mk : Kd → Kd → Kd} (m : Mk wd mk) {H : Hp} {c : Addr} {x y : V} {k l : Kd} (h : H c = some (.tup [.str wd, x, y])) (hx : At H x k) (hy : At H y l) : At H (.ref c) (mk k l) := by
  cases m with
  | pair => exact .pair h hx hy
  | fn => exact .fn h hx hy
theorem signs {wd : Str} {mk : Kd → Kd → Kd} (m : Mk wd mk) (k l : Kd) : (mk k l).signs = 1 + k.signs + l.signs := by cases m <;> rfl
theorem depth {wd : Str} {mk : Kd → Kd → Kd} (m : Mk wd mk) (k l : Kd) : (mk k l).depth = 1 + max k.depth l.depth := by cases m <;> rfl
theorem lets {wd : Str} {mk : Kd → Kd → Kd} (m : Mk wd mk) (n : Nat) (k l : Kd) : (mk k l).lets n ↔ k.lets n ∧ l.lets n := by cases m <;> exact Iff.rfl
theorem tsize {wd : Str} {mk : Kd → Kd → Kd} (m : Mk wd mk) {k l k' l' : Kd} (h : ∀ e, k.tsize e = k'.tsize e) (q : ∀ e, l.tsize e = l'.tsize e) (e : Nat → Nat) : (mk k l).tsize e = (mk k' l').tsize e := by
  cases m with
  | pair => rw [Kd.tsize, Kd.tsize, h, q]
  | fn => rw [Kd.tsize, Kd.tsize, h, q]
end Mk
/-- a kind of two parts, or one of none -/
theorem At.node {H : Hp} {v : V} {k : Kd} (h : At H v k) : (∃ c xs, v = .ref c ∧ H c = some (.tup xs) ∧ (xs.length = 1 ∨ xs.length = 2) ∧ k.signs = 1 ∧ k.depth = 1) ∨
    ∃ c wd x y k1 k2 mk, v = .ref c ∧ H c = some (.tup [.str wd, x, y]) ∧ At H x k1 ∧ At H y k2 ∧ Mk wd mk ∧ k = mk k1 k2 := by
  cases h with
  | let_ h => exact .inl ⟨_, _, rfl, h, .inr rfl, rfl, rfl⟩
  | one h => exact .inl ⟨_, _, rfl, h, .inl rfl, rfl, rfl⟩
  | pair h hx hy => exact .inr ⟨_, _, _, _, _, _, _, rfl, h, hx, hy, .pair, rfl⟩
  | fn h hx hy => exact .inr ⟨_, _, _, _, _, _, _, rfl, h, hx, hy, .fn, rfl⟩
theorem tup_pot {H H' : Hp} {a b : Addr} {xs : List V} (p : PotAt H a) (e : Keep a H H') (h : H b = some (.tup xs)) : H' b = some (.tup xs) := by
  obtain ⟨x, y, r, _⟩ := p
  exact e _ _ (fun z => by rw [z, r] at h; cases h) h
theorem len_ne {n : Nat} (h : n = 1 ∨ n = 2) : decide (V.int (n : Int) = V.int 3) = false := by
  rcases h with rfl | rfl <;> decide +kernel
theorem pot_fresh {H : Hp} {a b : Addr} {o : HO} (p : PotAt (upd H b o) a) (n : ∀ x y, o ≠ .lst [.int x, .int y]) : b ≠ a := fun z => by
  obtain ⟨x, y, r, _⟩ := p
  rw [← z, upd_same] at r
  exact n x y (Option.some.inj r)
section
variable {P : Program} {w : World} {K : PySem.W.Frag} {mg : Str → Option Value} {base : Heap} {aDOUBLE C L fI : Addr} {fdI : FuncData}
theorem S__law_otherwise : FnScope ["pot", "kind", "at"] ["pot", "kind"] (defScope s__law_otherwise) := ⟨rfl, rfl, rfl, by decide +kernel, rfl, by decide +kernel, by decide +kernel⟩
def sp__law_otherwise (n : Nat) : Sp := fun vs H Q _ => ∃ (a : Addr) (v : V) (k : Kd), vs = [.ref a, v] ∧ At H v k ∧ k.lets 3 ∧ k.depth ≤ n ∧ PotAt H a ∧
  ∀ u l H', At H' u l → l.lets 3 → l.signs ≤ k.signs + 2 → l.depth ≤ k.depth + 1 → Keep a H H' → PotAt H' a → Q u H'
theorem _law_otherwise_step {n : Nat} {f g1 g2 : Addr} {fd d1 d2 : FuncData} (D__law_otherwise : FD K mg "_law_otherwise" s__law_otherwise ["pot", "kind"] f fd) (D__law_draw : FD K mg "_law_draw" s__law_draw ["pot", "many"] g1 d1) (D__law_pure : FD K mg "_law_pure" s__law_pure ["pot", "fuel"] g2 d2) (T : Cs K mg aDOUBLE)
    (G__law_draw : FnOk P w K mg base CX0 1 g1 d1 ["pot", "many"] sp__law_draw) (G__law_pure : FnOk P w K mg base CX0 5 g2 d2 ["pot", "fuel"] (sp__law_pure 1)) (G__law_otherwise : FnOk P w K mg base CX0 (n + 5) f fd ["pot", "kind"] (sp__law_otherwise n)) :
    FnOk P w K mg base CX0 (n + 5 + 1) f fd ["pot", "kind"] (sp__law_otherwise (n + 1)) := by
  refine D__law_otherwise.fn.ok S__law_otherwise (fun vs H Q E h => ?_) (fun cdv A outer s H vs Q E hr h => ?_)
  · obtain ⟨a, v, k, rfl, _⟩ := h
    rfl
  obtain ⟨a, v, k, rfl, hv, hl, hd, hp, q⟩ := h
  refine ⟨_, (pss_cons (ps_if (PW.pt (pw_and (pt_cmpR op_eq (pe_callB call_len (by rfl) T.z_len PySem.boot_len (pa_cons (pv 1) pa_nil)) pe_int (nomark _)) (pw_and1 (pt_cmpR op_gt (pe_call G__law_draw (hr.mono (by omega)) rfl D__law_draw.m D__law_draw.fn.kp D__law_draw.b .nil pass0 (pa_cons (pv 0) (pa_cons pe_int pa_nil))) pe_int (nomark _))))) (pss_cons (ps_set (i := 2) S__law_otherwise.nd rfl (Or.inl rfl) (pe_op op_add pe_int (pe_call G__law_draw (hr.mono (by omega)) rfl D__law_draw.m D__law_draw.fn.kp D__law_draw.b .nil pass0 (pa_cons (pv 0) (pa_cons pe_int pa_nil)))))
    (pss_one (ps_ret (pe_op op_catA (pe_op op_catA (pe_slice sl_tup (pv 1) po_none (po_some (pv 2))) (pe_tup (pa_cons (pe_call G__law_otherwise hr rfl D__law_otherwise.m D__law_otherwise.fn.kp D__law_otherwise.b .nil pass0 (pa_cons (pv 0) (pa_cons (pe_ix ix_tup (pv 1) (pv 2) (fun _ _ => rfl)) pa_nil))) pa_nil))) (pe_slice sl_tup (pv 1) (po_some (pe_op op_add (pv 2) pe_int)) po_none))))) pss_nil)
    (pss_one (ps_ret (pe_call G__law_pure (hr.mono (by omega)) rfl D__law_pure.m D__law_pure.fn.kp D__law_pure.b .nil pass0 (pa_cons (pv 0) (pa_cons pe_int pa_nil)))))), ?_⟩
  have sp1 := signs_pos k
  have dp1 := k.depth_pos
  have leaf : ∀ H1, Keep a H H1 → PotAt H1 a → sp__law_pure 1 [.ref a, .int 1] H1 Q E0 := fun H1 k1 p1 => ⟨a, 1, rfl, rfl, p1, fun u l H' hu sz k2 p2 => q u l H' hu sz.l (by have := sz.s; simp only [sgn] at this; omega) (by have := sz.d; omega) (k1.trans k2) p2⟩
  rcases hv.node with ⟨c, xs, rfl, h, hxs, _, _⟩ | ⟨c, wd, x, y, k1, k2, mk, rfl, h, hx, hy, m, rfl⟩
  · refine ⟨_, rfl, _, _, rfl, .inr ⟨_, tT h, rfl⟩, rfl, _, rfl, ?_⟩
    rw [len_ne hxs]
    exact ⟨_, rfl, leaf H Keep.refl hp⟩
  · refine ⟨_, rfl, _, _, rfl, .inr ⟨_, tT h, rfl⟩, rfl, _, rfl, iteTe len3 ?_⟩
    refine ⟨_, rfl, a, 4, rfl, by decide, by decide, hp, fun d H1 d0 d4 e1 p1 => ?_⟩
    refine ⟨_, _, rfl, rfl, _, rfl, ?_⟩
    by_cases cd : 0 < d
    · refine iteTe (decide_eq_true cd) ?_
      refine ⟨_, rfl, a, 2, rfl, by decide, by decide, p1, fun d' H2 d0' d2' e2 p2 => ?_⟩
      refine ⟨_, _, rfl, rfl, ?_⟩
      have ke := e1.trans e2
      have h2 := tup_pot p1 e2 (tup_pot hp e1 h)
      have hx2 := (hx.pot hp e1).pot p1 e2
      have hy2 := (hy.pot hp e1).pot p1 e2
      rw [m.depth] at hd
      rw [m.lets] at hl
      rw [m.signs, m.depth] at q
      have dd : d' = 0 ∨ d' = 1 := by omega
      rcases dd with rfl | rfl
      · refine ⟨_, rfl, _, rfl, _, rfl, c, _, rfl, tT h2, (by show ¬ ((0 : Nat) = 0 ∧ (1 : Nat) = 3); decide), fun q1 hq1 => ?_⟩
        have f1 := Same.new hq1 (.tup [.str wd])
        refine ⟨_, rfl, _, rfl, _, rfl, _, _, _, _, rfl, rfl, tT (f1 _ _ h2), rfl, ?_⟩
        refine ⟨a, x, k1, rfl, hx2.same f1, hl.1, by omega, p2.same f1, fun u l H3 hu l1 l2 l3 e3 p3 => ?_⟩
        have pp := p2.same f1
        have h3 := tup_pot pp e3 (f1 _ _ h2)
        have hq13 := tup_pot pp e3 upd_same
        have hy3 := (hy2.same f1).pot pp e3
        refine ⟨size1, fun q2 hq2 => ?_⟩
        have f2 := Same.new hq2 (.tup [u])
        refine cat_go (f2 _ _ hq13) upd_same (by show 2 ≤ sizeLine; exact size2) fun v4 H4 e4 t4 => ?_
        have f24 := f2.trans e4
        refine ⟨_, rfl, _, rfl, _, _, rfl, rfl, _, rfl, c, _, rfl, tT (f24 _ _ h3), (by show ¬ ((2 : Nat) = 0 ∧ (3 : Nat) = 3); decide), fun q5 hq5 => ?_⟩
        have f5 := Same.new hq5 (.tup [y])
        obtain ⟨b4, rfl, t4⟩ := t4
        refine cat_go (f5 _ _ t4) upd_same (by show 3 ≤ sizeLine; exact size1000 (by omega)) fun v6 H6 e6 t6 => ?_
        obtain ⟨b6, rfl, t6⟩ := t6
        have f36 := f24.trans (f5.trans e6)
        refine q _ (mk l k2) H6 (m.at_ t6 (hu.same f36) (hy3.same f36)) ((m.lets _ _ _).mpr ⟨l1, hl.2⟩) (by rw [m.signs]; omega) (by rw [m.depth]; omega) ?_ (p3.same f36)
        exact ((ke.trans (Keep.of f1)).trans e3).trans (Keep.of f36)
      · refine ⟨_, rfl, _, rfl, _, rfl, c, _, rfl, tT h2, (by show ¬ ((0 : Nat) = 0 ∧ (2 : Nat) = 3); decide), fun q1 hq1 => ?_⟩
        have f1 := Same.new hq1 (.tup [.str wd, x])
        refine ⟨_, rfl, _, rfl, _, rfl, _, _, _, _, rfl, rfl, tT (f1 _ _ h2), rfl, ?_⟩
        refine ⟨a, y, k2, rfl, hy2.same f1, hl.2, by omega, p2.same f1, fun u l H3 hu l1 l2 l3 e3 p3 => ?_⟩
        have pp := p2.same f1
        have h3 := tup_pot pp e3 (f1 _ _ h2)
        have hq13 := tup_pot pp e3 upd_same
        have hx3 := (hx2.same f1).pot pp e3
        refine ⟨size1, fun q2 hq2 => ?_⟩
        have f2 := Same.new hq2 (.tup [u])
        refine cat_go (f2 _ _ hq13) upd_same (by show 3 ≤ sizeLine; exact size1000 (by omega)) fun v4 H4 e4 t4 => ?_
        have f24 := f2.trans e4
        refine ⟨_, rfl, _, rfl, _, _, rfl, rfl, _, rfl, c, _, rfl, tT (f24 _ _ h3), (by show ¬ ((3 : Nat) = 0 ∧ (3 : Nat) = 3); decide), fun q5 hq5 => ?_⟩
        have f5 := Same.new hq5 (.tup [])
        obtain ⟨b4, rfl, t4⟩ := t4
        refine cat_go (f5 _ _ t4) upd_same (by show 3 ≤ sizeLine; exact size1000 (by omega)) fun v6 H6 e6 t6 => ?_
        obtain ⟨b6, rfl, t6⟩ := t6
        have f36 := f24.trans (f5.trans e6)
        refine q _ (mk k1 l) H6 (m.at_ t6 (hx3.same f36) (hu.same f36)) ((m.lets _ _ _).mpr ⟨hl.1, l1⟩) (by rw [m.signs]; omega) (by rw [m.depth]; omega) ?_ (p3.same f36)
        exact ((ke.trans (Keep.of f1)).trans e3).trans (Keep.of f36)
    · refine iteFe (decide_eq_false cd) ⟨_, rfl, leaf H1 e1 p1⟩
theorem ok__law_otherwise {f g1 g2 : Addr} {fd d1 d2 : FuncData} (D__law_otherwise : FD K mg "_law_otherwise" s__law_otherwise ["pot", "kind"] f fd) (D__law_draw : FD K mg "_law_draw" s__law_draw ["pot", "many"] g1 d1) (D__law_pure : FD K mg "_law_pure" s__law_pure ["pot", "fuel"] g2 d2) (T : Cs K mg aDOUBLE)
    (G__law_draw : FnOk P w K mg base CX0 1 g1 d1 ["pot", "many"] sp__law_draw) (G__law_pure : FnOk P w K mg base CX0 5 g2 d2 ["pot", "fuel"] (sp__law_pure 1)) : ∀ n, FnOk P w K mg base CX0 (n + 5) f fd ["pot", "kind"] (sp__law_otherwise n)
  | 0 => fn_none fun vs H Q E h => by
    obtain ⟨a, v, k, _, _, _, h, _⟩ := h
    have := k.depth_pos
    omega
  | n + 1 => _law_otherwise_step D__law_otherwise D__law_draw D__law_pure T G__law_draw G__law_pure (ok__law_otherwise D__law_otherwise D__law_draw D__law_pure T G__law_draw G__law_pure n)
end
end T84

/-! w84 -/
namespace T84
open PySem L2
/-- a statement between two words of the state -/
def tCut (I J : St → Hp → Prop) : TS := fun D σ H => I σ H ∧ ∀ σ' H', J σ' H' → D.nx σ' H'
theorem ps_cut {X : Cx} {s : Stmt} {t : TS} (I J : St → Hp → Prop) (h : PS X s t) (c : ∀ D σ H, I σ H → (∀ σ' H', J σ' H' → D.nx σ' H') → t D σ H) : PS X s (tCut I J) :=
  ⟨fun pins s σ H D Iv hh => h.run pins s σ H D Iv (c D σ H hh.1 hh.2)⟩
/-- as great as k -/
def LikeAt (H : Hp) (k : Kd) (u : V) : Prop := ∃ l : Kd, At H u l ∧ l.lets 3 ∧ l.depth ≤ k.depth + 1 ∧ ∀ e, k.tsize e = l.tsize e
theorem LikeAt.same {H H' : Hp} {k : Kd} {u : V} (e : Same H H') (h : LikeAt H k u) : LikeAt H' k u := let ⟨l, x, r⟩ := h; ⟨l, x.same e, r⟩
/-- the list of what may be taken, at b -/
structure LK (a : Addr) (v : V) (k : Kd) (H0 : Hp) (n : Nat) (H : Hp) (b : Addr) (xs : List V) : Prop where
  hb : H b = some (.lst xs)
  pos : 0 < xs.length
  len : xs.length ≤ 10 * n
  like : ∀ u ∈ xs, LikeAt H k u
  at_ : At H v k
  pot : PotAt H a
  ne : b ≠ a
  new : H0 b = none
  keep : Keep a H0 H
namespace LK
theorem more {a b : Addr} {v : V} {k : Kd} {H0 H : Hp} {n m : Nat} {xs : List V} (h : LK a v k H0 n H b xs) (l : n ≤ m) : LK a v k H0 m H b xs := ⟨h.hb, h.pos, by have := h.len; omega, h.like, h.at_, h.pot, h.ne, h.new, h.keep⟩
theorem same {a b : Addr} {v : V} {k : Kd} {H0 H H' : Hp} {n : Nat} {xs : List V} (h : LK a v k H0 n H b xs) (e : Same H H') : LK a v k H0 n H' b xs :=
  ⟨e _ _ h.hb, h.pos, h.len, fun u hu => (h.like u hu).same e, h.at_.same e, h.pot.same e, h.ne, h.new, h.keep.trans (Keep.of e)⟩
theorem fresh {a b p : Addr} {v : V} {k : Kd} {H0 H : Hp} {n : Nat} {xs : List V} (h : LK a v k H0 n H b xs) (hp : H p = none) : p ≠ a ∧ H0 p = none := by
  have na : p ≠ a := fun z => by
    obtain ⟨x, y, r, _⟩ := h.pot
    rw [← z, hp] at r
    cases r
  refine ⟨na, ?_⟩
  cases c : H0 p with
  | none => rfl
  | some o =>
    have := h.keep _ _ na c
    rw [hp] at this
    cases this
/-- some = some + .. -/
theorem cat {a b p : Addr} {v : V} {k : Kd} {H0 H : Hp} {n : Nat} {xs ys : List V} (h : LK a v k H0 n H b xs) (hy : ∀ u ∈ ys, LikeAt H k u) (hl : ys.length ≤ 10) (hp : H p = none) : LK a v k H0 (n + 1) (upd H p (.lst (xs ++ ys))) p (xs ++ ys) := by
  have e := Same.new hp (.lst (xs ++ ys))
  have h' := h.same e
  obtain ⟨n1, n2⟩ := h.fresh hp
  refine ⟨upd_same, by rw [List.length_append]; have := h.pos; omega, by rw [List.length_append]; have := h.len; omega, fun u hu => ?_, h'.at_, h'.pot, n1, n2, h'.keep⟩
  rcases List.mem_append.mp hu with hu | hu
  · exact h'.like u hu
  · exact (hy u hu).same e
theorem move {a b : Addr} {v : V} {k : Kd} {H0 H : Hp} {n : Nat} {xs ys : List V} (h : LK a v k H0 n H b xs) {u : V} {l : Kd} (x : At H u l) : At (upd H b (.lst ys)) u l := x.keep h.hb (Keep.upd _ Keep.refl)
/-- some.extend(..), some.append(..) -/
theorem ext {a b : Addr} {v : V} {k : Kd} {H0 H : Hp} {n : Nat} {xs ys : List V} (h : LK a v k H0 n H b xs) (hy : ∀ u ∈ ys, LikeAt H k u) (hl : ys.length ≤ 10) : LK a v k H0 (n + 1) (upd H b (.lst (xs ++ ys))) b (xs ++ ys) := by
  refine ⟨upd_same, by rw [List.length_append]; have := h.pos; omega, by rw [List.length_append]; have := h.len; omega, fun u hu => ?_, h.move h.at_, ?_, h.ne, h.new, fun c o nc hc => ?_⟩
  · have z : LikeAt H k u := by
      rcases List.mem_append.mp hu with hu | hu
      · exact h.like u hu
      · exact hy u hu
    obtain ⟨l, x, r⟩ := z
    exact ⟨l, h.move x, r⟩
  · obtain ⟨x, y, r, q⟩ := h.pot
    exact ⟨x, y, by rw [upd_ne (Ne.symm h.ne)]; exact r, q⟩
  · rw [upd_ne (ne_of_none hc h.new)]
    exact h.keep c o nc hc
end LK
def LKs (a : Addr) (v : V) (k : Kd) (H0 : Hp) (n : Nat) (σ : St) (H : Hp) : Prop := ∃ o b xs, σ = [some (.ref a), some v, o, some (.ref b)] ∧ LK a v k H0 n H b xs
theorem LKs.more {a : Addr} {v : V} {k : Kd} {H0 H : Hp} {n m : Nat} {σ : St} (h : LKs a v k H0 n σ H) (l : n ≤ m) : LKs a v k H0 m σ H := let ⟨o, b, xs, e, x⟩ := h; ⟨o, b, xs, e, x.more l⟩
/-! ### kinds that are as great -/
theorem like_one (k l : Kd) (h : k.lets 3) (hl : l.lets 3) (d : l.depth ≤ k.depth + 1) (e : ∀ f, k.tsize f = l.tsize f) : l.lets 3 ∧ l.depth ≤ k.depth + 1 ∧ ∀ f, k.tsize f = l.tsize f := ⟨hl, d, e⟩
namespace Kd
theorem z1 (k : Kd) (f : Nat → Nat) : k.tsize f = (pair k one).tsize f := by simp [tsize]
theorem z2 (k : Kd) (f : Nat → Nat) : k.tsize f = (pair one k).tsize f := by simp [tsize]
theorem z3 (k : Kd) (f : Nat → Nat) : k.tsize f = (fn one k).tsize f := by simp [tsize]
theorem z4 (k l : Kd) (f : Nat → Nat) : (pair k l).tsize f = (pair l k).tsize f := by simp [tsize, Nat.mul_comm]
theorem z5 (k l m : Kd) (f : Nat → Nat) : (pair (pair k l) m).tsize f = (pair k (pair l m)).tsize f := by simp [tsize, Nat.mul_assoc]
theorem z6 (k l m : Kd) (f : Nat → Nat) : (pair (fn k l) (fn k m)).tsize f = (fn k (pair l m)).tsize f := by simp [tsize, Nat.mul_pow]
theorem z7 (k l m : Kd) (f : Nat → Nat) : (fn (pair k l) m).tsize f = (fn k (fn l m)).tsize f := by simp only [tsize]; rw [← Nat.pow_mul, Nat.mul_comm]
theorem z8 (k l m : Kd) (f : Nat → Nat) : (fn k (fn l m)).tsize f = (fn (pair k l) m).tsize f := by rw [z7]
theorem z9 (k l m : Kd) (f : Nat → Nat) : (fn k (fn l m)).tsize f = (fn l (fn k m)).tsize f := by simp only [tsize]; rw [← Nat.pow_mul, ← Nat.pow_mul, Nat.mul_comm]
theorem z10 (k : Kd) (f : Nat → Nat) : (fn k one).tsize f = one.tsize f := by simp [tsize]
theorem z11 (k : Kd) (f : Nat → Nat) : one.tsize f = (fn k one).tsize f := by simp [tsize]
end Kd
end T84

/-! x84 -/
namespace T84
open PySem L2
abbrev s__law_likened : Stmt := top 58
/-- a statement that may return -/
def tCutR (I J : St → Hp → Prop) (R : V → Hp → Prop) : TS := fun D σ H => I σ H ∧ (∀ σ' H', J σ' H' → D.nx σ' H') ∧ ∀ v H', R v H' → D.rt v H'
theorem ps_cutR {X : Cx} {s : Stmt} {t : TS} (I J : St → Hp → Prop) (R : V → Hp → Prop) (h : PS X s t) (c : ∀ D σ H, I σ H → (∀ σ' H', J σ' H' → D.nx σ' H') → (∀ v H', R v H' → D.rt v H') → t D σ H) : PS X s (tCutR I J R) :=
  ⟨fun pins s σ H D Iv hh => h.run pins s σ H D Iv (c D σ H hh.1 hh.2.1 hh.2.2)⟩
theorem rep_cat {a b l : Addr} {v : V} {k : Kd} {H0 H1 H2 : Hp} {n : Nat} {xs us : List V} {m : Int} {Q : VK} (lk : LK a v k H0 n H1 b xs) (hn : n ≤ 50) (e : Same H1 H2) (hl : H2 l = some (.lst us)) (hu : ∀ u ∈ us, LikeAt H2 k u) (hm : 0 ≤ m) (hm2 : m ≤ 100) (le : us.length * m.toNat ≤ 10)
    (q : ∀ p H' ys, LK a v k H0 (n + 1) H' p ys → Q (.ref p) H') : rRep (.ref l) (.int m) H2 fun y H3 => rCat (.ref b) y H3 Q := by
  have fl : (List.replicate m.toNat us).flatten.length = us.length * m.toNat := by rw [List.length_flatten, List.map_replicate, List.sum_replicate_nat, Nat.mul_comm]
  refine ⟨l, m, us, rfl, rfl, hl, by omega, by omega, size1000 (by omega), fun p hp => ?_⟩
  have e2 := Same.new hp (.lst (List.replicate m.toNat us).flatten)
  have lk2 := (lk.same e).same e2
  refine ⟨b, p, xs, _, rfl, rfl, lk2.hb, upd_same, size1000 (by have := lk.len; rw [fl]; omega), fun p2 hp2 => ?_⟩
  refine q p2 _ _ (lk2.cat (fun u hu' => ?_) (by rw [fl]; exact le) hp2)
  rw [List.mem_flatten] at hu'
  obtain ⟨z, hz, hz2⟩ := hu'
  rw [List.eq_of_mem_replicate hz] at hz2
  exact (hu u hz2).same e2
theorem rep_ys {l : Addr} {k : Kd} {H2 : Hp} {us : List V} {m : Int} {F : VK} (hl : H2 l = some (.lst us)) (hu : ∀ u ∈ us, LikeAt H2 k u) (hm : 0 ≤ m) (hm2 : m ≤ 100) (le : us.length * m.toNat ≤ 10)
    (q : ∀ p ys, H2 p = none → (∀ u ∈ ys, LikeAt (upd H2 p (.lst ys)) k u) → ys.length ≤ 10 → F (.ref p) (upd H2 p (.lst ys))) : rRep (.ref l) (.int m) H2 F := by
  have fl : (List.replicate m.toNat us).flatten.length = us.length * m.toNat := by rw [List.length_flatten, List.map_replicate, List.sum_replicate_nat, Nat.mul_comm]
  refine ⟨l, m, us, rfl, rfl, hl, by omega, by omega, size1000 (by omega), fun p hp => ?_⟩
  refine q p _ hp (fun u hu' => ?_) (by rw [fl]; exact le)
  rw [List.mem_flatten] at hu'
  obtain ⟨z, hz, hz2⟩ := hu'
  rw [List.eq_of_mem_replicate hz] at hz2
  exact (hu u hz2).same (Same.new hp _)
theorem size3 : 3 ≤ sizeLine := size1000 (by omega)
theorem one_like {H : Hp} {k : Kd} {u : V} (h : LikeAt H k u) : ∀ w ∈ [u], LikeAt H k w := fun w hw => by rw [List.mem_singleton.mp hw]; exact h
section
variable {P : Program} {w : World} {K : PySem.W.Frag} {mg : Str → Option Value} {base : Heap} {aDOUBLE C L fI : Addr} {fdI : FuncData}
theorem S__law_likened : FnScope ["pot", "kind", "at", "some"] ["pot", "kind"] (defScope s__law_likened) := ⟨rfl, rfl, rfl, by decide +kernel, rfl, by decide +kernel, by decide +kernel⟩
def sp__law_likened (n : Nat) : Sp := fun vs H Q _ => ∃ (a : Addr) (v : V) (k : Kd), vs = [.ref a, v] ∧ At H v k ∧ k.lets 3 ∧ k.depth ≤ n ∧ n ≤ 12 ∧ PotAt H a ∧ ∀ u H', LikeAt H' k u → Keep a H H' → PotAt H' a → Q u H'
def Aft (a : Addr) (v : V) (k : Kd) (H0 : Hp) (σ : St) (H : Hp) : Prop := ∃ o, σ = [some (.ref a), some v, o, none] ∧ At H v k ∧ PotAt H a ∧ Keep a H0 H
theorem _law_likened_step {n : Nat} {f g1 g2 : Addr} {fd d1 d2 : FuncData} (D__law_likened : FD K mg "_law_likened" s__law_likened ["pot", "kind"] f fd) (D__law_draw : FD K mg "_law_draw" s__law_draw ["pot", "many"] g1 d1) (D__law_pick : FD K mg "_law_pick" s__law_pick ["pot", "some"] g2 d2) (T : Cs K mg aDOUBLE)
    (G__law_draw : FnOk P w K mg base CX0 1 g1 d1 ["pot", "many"] sp__law_draw) (G__law_pick : FnOk P w K mg base CX0 2 g2 d2 ["pot", "some"] sp__law_pick) (G__law_likened : FnOk P w K mg base CX0 (n + 2) f fd ["pot", "kind"] (sp__law_likened n)) :
    FnOk P w K mg base CX0 (n + 2 + 1) f fd ["pot", "kind"] (sp__law_likened (n + 1)) := by
  refine D__law_likened.fn.ok S__law_likened (fun vs H Q E h => ?_) (fun cdv A outer s H vs Q E hr h => ?_)
  · obtain ⟨a, v, k, rfl, _⟩ := h
    rfl
  obtain ⟨a, v, k, rfl, hv, hl, hd, hn12, hp, q⟩ := h
  refine ⟨_, (pss_cons (ps_cutR (Aft a v k H) (Aft a v k H) (fun u H' => LikeAt H' k u ∧ Keep a H H' ∧ PotAt H' a) (ps_if (PW.pt (pw_and (pt_cmpR op_eq (pe_callB call_len (by rfl) T.z_len PySem.boot_len (pa_cons (pv 1) pa_nil)) pe_int (nomark _)) (pw_and1 (pt_cmpR op_gt (pe_call G__law_draw (hr.mono (by omega)) rfl D__law_draw.m D__law_draw.fn.kp D__law_draw.b .nil pass0 (pa_cons (pv 0) (pa_cons pe_int pa_nil))) pe_int (nomark _))))) (pss_cons (ps_set (i := 2) S__law_likened.nd rfl (Or.inl rfl) (pe_op op_add pe_int (pe_call G__law_draw (hr.mono (by omega)) rfl D__law_draw.m D__law_draw.fn.kp D__law_draw.b .nil pass0 (pa_cons (pv 0) (pa_cons pe_int pa_nil)))))
    (pss_one (ps_ret (pe_op op_catA (pe_op op_catA (pe_slice sl_tup (pv 1) po_none (po_some (pv 2))) (pe_tup (pa_cons (pe_call G__law_likened hr rfl D__law_likened.m D__law_likened.fn.kp D__law_likened.b .nil pass0 (pa_cons (pv 0) (pa_cons (pe_ix ix_tup (pv 1) (pv 2) (fun _ _ => rfl)) pa_nil))) pa_nil))) (pe_slice sl_tup (pv 1) (po_some (pe_op op_add (pv 2) pe_int)) po_none))))) pss_nil) ?c0)
    (pss_cons (ps_set (i := 3) S__law_likened.nd rfl (Or.inl rfl) (pe_lst (pa_cons (pe_tup (pa_cons pe_str (pa_cons (pv 1) (pa_cons (pe_tup (pa_cons pe_str pa_nil)) pa_nil)))) (pa_cons (pe_tup (pa_cons pe_str (pa_cons (pe_tup (pa_cons pe_str pa_nil)) (pa_cons (pv 1) pa_nil)))) (pa_cons (pe_tup (pa_cons pe_str (pa_cons (pe_tup (pa_cons pe_str pa_nil)) (pa_cons (pv 1) pa_nil)))) pa_nil)))))
    (pss_cons (ps_cut (LKs a v k H 1) (LKs a v k H 4) (ps_if (pt_cmpR op_eq (pe_ix ix_tup (pv 1) pe_int (fun _ _ => rfl)) pe_str (nomark _)) (pss_cons (ps_set (i := 3) S__law_likened.nd rfl (Or.inl rfl) (pe_op op_cat (pv 3) (pe_op op_rep (pe_lst (pa_cons (pe_tup (pa_cons pe_str (pa_cons (pe_ix ix_tup (pv 1) pe_int (fun _ _ => rfl)) (pa_cons (pe_ix ix_tup (pv 1) pe_int (fun _ _ => rfl)) pa_nil)))) pa_nil)) pe_int)))
    (pss_cons (ps_cut (fun σ H1 => (∃ k1 k2, k = .pair k1 k2) ∧ LKs a v k H 2 σ H1) (LKs a v k H 3) (ps_expr (pe_bm PySem.F.plainAttrs_list PySem.F.slot_list_extend PySem.F.type_list_extend mt_extend (pv 3) (pa_cons (pe_ifExp (pt_cmpR op_eq (pe_ix ix_tup (pe_ix ix_tup (pv 1) pe_int (fun _ _ => rfl)) pe_int (fun _ _ => rfl)) pe_str (nomark _)) (pe_op op_rep (pe_lst (pa_cons (pe_tup (pa_cons pe_str (pa_cons (pe_ix ix_tup (pe_ix ix_tup (pv 1) pe_int (fun _ _ => rfl)) pe_int (fun _ _ => rfl)) (pa_cons (pe_tup (pa_cons pe_str (pa_cons (pe_ix ix_tup (pe_ix ix_tup (pv 1) pe_int (fun _ _ => rfl)) pe_int (fun _ _ => rfl)) (pa_cons (pe_ix ix_tup (pv 1) pe_int (fun _ _ => rfl)) pa_nil)))) pa_nil)))) pa_nil)) pe_int) (pe_lst pa_nil)) pa_nil))) ?c1b)
    (pss_one (ps_cut (fun σ H1 => (∃ k1 k2, k = .pair k1 k2) ∧ LKs a v k H 3 σ H1) (LKs a v k H 4) (ps_if (PW.pt (pw_and (pt_cmpR op_eq (pe_ix ix_tup (pe_ix ix_tup (pv 1) pe_int (fun _ _ => rfl)) pe_int (fun _ _ => rfl)) pe_str (nomark _)) (pw_and (pt_cmpR op_eq (pe_ix ix_tup (pe_ix ix_tup (pv 1) pe_int (fun _ _ => rfl)) pe_int (fun _ _ => rfl)) pe_str (nomark _)) (pw_and1 (pt_cmpR (op_eqD hr.units) (pe_ix ix_tup (pe_ix ix_tup (pv 1) pe_int (fun _ _ => rfl)) pe_int (fun _ _ => rfl)) (pe_ix ix_tup (pe_ix ix_tup (pv 1) pe_int (fun _ _ => rfl)) pe_int (fun _ _ => rfl)) (nomark _)))))) (pss_one (ps_set (i := 3) S__law_likened.nd rfl (Or.inl rfl) (pe_op op_cat (pv 3) (pe_op op_rep (pe_lst (pa_cons (pe_tup (pa_cons pe_str (pa_cons (pe_ix ix_tup (pe_ix ix_tup (pv 1) pe_int (fun _ _ => rfl)) pe_int (fun _ _ => rfl)) (pa_cons (pe_tup (pa_cons pe_str (pa_cons (pe_ix ix_tup (pe_ix ix_tup (pv 1) pe_int (fun _ _ => rfl)) pe_int (fun _ _ => rfl)) (pa_cons (pe_ix ix_tup (pe_ix ix_tup (pv 1) pe_int (fun _ _ => rfl)) pe_int (fun _ _ => rfl)) pa_nil)))) pa_nil)))) pa_nil)) pe_int)))) pss_nil) ?c1c)))) pss_nil) ?c1)
    (pss_cons (ps_cut (LKs a v k H 4) (LKs a v k H 5) (ps_if (PW.pt (pw_and (pt_cmpR op_eq (pe_ix ix_tup (pv 1) pe_int (fun _ _ => rfl)) pe_str (nomark _)) (pw_and1 (pt_cmpR op_eq (pe_ix ix_tup (pe_ix ix_tup (pv 1) pe_int (fun _ _ => rfl)) pe_int (fun _ _ => rfl)) pe_str (nomark _))))) (pss_one (ps_set (i := 3) S__law_likened.nd rfl (Or.inl rfl) (pe_op op_cat (pv 3) (pe_op op_rep (pe_lst (pa_cons (pe_tup (pa_cons pe_str (pa_cons (pe_ix ix_tup (pe_ix ix_tup (pv 1) pe_int (fun _ _ => rfl)) pe_int (fun _ _ => rfl)) (pa_cons (pe_tup (pa_cons pe_str (pa_cons (pe_ix ix_tup (pe_ix ix_tup (pv 1) pe_int (fun _ _ => rfl)) pe_int (fun _ _ => rfl)) (pa_cons (pe_ix ix_tup (pv 1) pe_int (fun _ _ => rfl)) pa_nil)))) pa_nil)))) pa_nil)) pe_int)))) pss_nil) ?c2)
    (pss_cons (ps_cut (LKs a v k H 5) (LKs a v k H 6) (ps_if (PW.pt (pw_and (pt_cmpR op_eq (pe_ix ix_tup (pv 1) pe_int (fun _ _ => rfl)) pe_str (nomark _)) (pw_and1 (pt_cmpR op_eq (pe_ix ix_tup (pe_ix ix_tup (pv 1) pe_int (fun _ _ => rfl)) pe_int (fun _ _ => rfl)) pe_str (nomark _))))) (pss_one (ps_set (i := 3) S__law_likened.nd rfl (Or.inl rfl) (pe_op op_cat (pv 3) (pe_op op_rep (pe_lst (pa_cons (pe_tup (pa_cons pe_str (pa_cons (pe_tup (pa_cons pe_str (pa_cons (pe_ix ix_tup (pv 1) pe_int (fun _ _ => rfl)) (pa_cons (pe_ix ix_tup (pe_ix ix_tup (pv 1) pe_int (fun _ _ => rfl)) pe_int (fun _ _ => rfl)) pa_nil)))) (pa_cons (pe_ix ix_tup (pe_ix ix_tup (pv 1) pe_int (fun _ _ => rfl)) pe_int (fun _ _ => rfl)) pa_nil)))) (pa_cons (pe_tup (pa_cons pe_str (pa_cons (pe_ix ix_tup (pe_ix ix_tup (pv 1) pe_int (fun _ _ => rfl)) pe_int (fun _ _ => rfl)) (pa_cons (pe_tup (pa_cons pe_str (pa_cons (pe_ix ix_tup (pv 1) pe_int (fun _ _ => rfl)) (pa_cons (pe_ix ix_tup (pe_ix ix_tup (pv 1) pe_int (fun _ _ => rfl)) pe_int (fun _ _ => rfl)) pa_nil)))) pa_nil)))) pa_nil))) pe_int)))) pss_nil) ?c3)
    (pss_cons (ps_cut (LKs a v k H 6) (LKs a v k H 7) (ps_if (PW.pt (pw_and (pt_cmpR op_eq (pe_ix ix_tup (pv 1) pe_int (fun _ _ => rfl)) pe_str (nomark _)) (pw_and1 (pt_cmpR op_eq (pe_ix ix_tup (pe_ix ix_tup (pv 1) pe_int (fun _ _ => rfl)) pe_int (fun _ _ => rfl)) pe_str (nomark _))))) (pss_one (ps_set (i := 3) S__law_likened.nd rfl (Or.inl rfl) (pe_op op_cat (pv 3) (pe_op op_rep (pe_lst (pa_cons (pe_tup (pa_cons pe_str (pa_cons (pe_tup (pa_cons pe_str (pa_cons (pe_ix ix_tup (pv 1) pe_int (fun _ _ => rfl)) (pa_cons (pe_ix ix_tup (pe_ix ix_tup (pv 1) pe_int (fun _ _ => rfl)) pe_int (fun _ _ => rfl)) pa_nil)))) (pa_cons (pe_tup (pa_cons pe_str (pa_cons (pe_ix ix_tup (pv 1) pe_int (fun _ _ => rfl)) (pa_cons (pe_ix ix_tup (pe_ix ix_tup (pv 1) pe_int (fun _ _ => rfl)) pe_int (fun _ _ => rfl)) pa_nil)))) pa_nil)))) pa_nil)) pe_int)))) pss_nil) ?c4)
    (pss_cons (ps_cut (LKs a v k H 7) (LKs a v k H 8) (ps_if (PW.pt (pw_and (pt_cmpR op_eq (pe_ix ix_tup (pv 1) pe_int (fun _ _ => rfl)) pe_str (nomark _)) (pw_and1 (pt_cmpR (op_eqD hr.units) (pe_ix ix_tup (pv 1) pe_int (fun _ _ => rfl)) (pe_tup (pa_cons pe_str pa_nil)) (nomark _))))) (pss_one (ps_set (i := 3) S__law_likened.nd rfl (Or.inl rfl) (pe_op op_cat (pv 3) (pe_op op_rep (pe_lst (pa_cons (pe_tup (pa_cons pe_str pa_nil)) pa_nil)) pe_int)))) pss_nil) ?c5)
    (pss_cons (ps_cut (LKs a v k H 8) (LKs a v k H 9) (ps_if (pt_cmpR op_eq (pe_ix ix_tup (pv 1) pe_int (fun _ _ => rfl)) pe_str (nomark _)) (pss_one (ps_expr (pe_bm PySem.F.plainAttrs_list PySem.F.slot_list_append PySem.F.type_list_append mt_append (pv 3) (pa_cons (pe_tup (pa_cons pe_str (pa_cons (pe_tup (pa_cons pe_str (pa_cons pe_int pa_nil))) (pa_cons (pv 1) pa_nil)))) pa_nil)))) pss_nil) ?c6)
    (pss_one (ps_ret (pe_call G__law_pick (hr.mono (by omega)) rfl D__law_pick.m D__law_pick.fn.kp D__law_pick.b .nil pass0 (pa_cons (pv 0) (pa_cons (pv 3) pa_nil))))))))))))), ?main⟩
  case main =>
    refine ⟨⟨none, rfl, hv, hp, Keep.refl⟩, fun σ H1 j => ?_, fun u H' r => q u H' r.1 r.2.1 r.2.2⟩
    obtain ⟨o, rfl, hv1, hp1, e1⟩ := j
    refine ⟨_, rfl, size1, fun p1 h1 => ⟨size3, fun p2 h2 => ⟨size1, fun p3 h3 => ⟨_, rfl, size3, fun p4 h4 => ⟨size1, fun p5 h5 => ⟨_, rfl, size3, fun p6 h6 => ⟨size3, fun p7 h7 => ?_⟩⟩⟩⟩⟩⟩⟩
    have e7 := Same.new h7 (.lst [.ref p2, .ref p4, .ref p6])
    have e6 := (Same.new h6 (.tup [.str "fun", .ref p5, v])).trans e7
    have e5 := (Same.new h5 (.tup [.str "one"])).trans e6
    have e4 := (Same.new h4 (.tup [.str "pair", .ref p3, v])).trans e5
    have e3 := (Same.new h3 (.tup [.str "one"])).trans e4
    have e2 := (Same.new h2 (.tup [.str "pair", v, .ref p1])).trans e3
    have e0 := (Same.new h1 (.tup [.str "one"])).trans e2
    have v7 := hv1.same e0
    have pt := hp1.same e0
    have ne7 := pot_fresh pt fun x y z => by cases z
    have lk : LK a v k H 1 _ p7 [.ref p2, .ref p4, .ref p6] := ⟨upd_same, by show 0 < 3; omega, by show 3 ≤ 10 * 1; omega, fun u hu => ?_, v7, pt, ne7, ?_, e1.trans (Keep.of e0)⟩
    · refine ⟨⟨_, p7, _, rfl, lk⟩, fun s1 G1 j1 => ⟨j1, fun s2 G2 j2 => ⟨j2, fun s3 G3 j3 => ⟨j3, fun s4 G4 j4 => ⟨j4, fun s5 G5 j5 => ⟨j5, fun s6 G6 j6 => ?_⟩⟩⟩⟩⟩⟩
      obtain ⟨o, b, xs, rfl, lz⟩ := j6
      refine ⟨_, rfl, _, rfl, a, b, xs, rfl, lz.ne, lz.hb, lz.pos, by have := lz.len; omega, lz.pot, fun w H' hw k9 p9 => ?_⟩
      obtain ⟨l, x, r⟩ := lz.like w hw
      exact q w H' ⟨l, x.pot lz.pot k9, r⟩ (lz.keep.trans k9) p9
    · simp only [List.mem_cons, List.not_mem_nil, or_false] at hu
      rcases hu with rfl | rfl | rfl
      · exact ⟨.pair k .one, .pair (e3 _ _ upd_same) v7 (.one (e2 _ _ upd_same)), ⟨hl, trivial⟩, by simp only [Kd.depth]; have := k.depth_pos; omega, k.z1⟩
      · exact ⟨.pair .one k, .pair (e5 _ _ upd_same) (.one (e4 _ _ upd_same)) v7, ⟨trivial, hl⟩, by simp only [Kd.depth]; have := k.depth_pos; omega, k.z2⟩
      · exact ⟨.fn .one k, .fn (e7 _ _ upd_same) (.one (e6 _ _ upd_same)) v7, ⟨trivial, hl⟩, by simp only [Kd.depth]; have := k.depth_pos; omega, k.z3⟩
    · cases c : H p7 with
      | none => rfl
      | some o =>
        have z := e1 _ _ ne7 c
        have z2 := ((Same.new h1 (.tup [.str "one"])).trans ((Same.new h2 (.tup [.str "pair", v, .ref p1])).trans ((Same.new h3 (.tup [.str "one"])).trans ((Same.new h4 (.tup [.str "pair", .ref p3, v])).trans ((Same.new h5 (.tup [.str "one"])).trans (Same.new h6 (.tup [.str "fun", .ref p5, v]))))))) _ _ z
        rw [h7] at z2
        cases z2
  case c0 =>
    rintro D σ H1 ⟨o, rfl, hv1, hp1, e0⟩ nx rt
    rcases hv1.node with ⟨c, xs, rfl, h, hxs, _, _⟩ | ⟨c, wd, x, y, k1, k2, mk, rfl, h, hx, hy, m, rfl⟩
    · refine ⟨_, rfl, _, _, rfl, .inr ⟨_, tT h, rfl⟩, rfl, _, rfl, ?_⟩
      rw [len_ne hxs]
      exact nx _ _ ⟨_, rfl, hv1, hp1, e0⟩
    · refine ⟨_, rfl, _, _, rfl, .inr ⟨_, tT h, rfl⟩, rfl, _, rfl, iteTe len3 ?_⟩
      refine ⟨_, rfl, a, 3, rfl, by decide, by decide, hp1, fun d H2 d0 d4 e1 p1 => ?_⟩
      refine ⟨_, _, rfl, rfl, _, rfl, ?_⟩
      by_cases cd : 0 < d
      · refine iteTe (decide_eq_true cd) ?_
        refine ⟨_, rfl, a, 2, rfl, by decide, by decide, p1, fun d' H3 d0' d2' e2 p2 => ?_⟩
        refine ⟨_, _, rfl, rfl, ?_⟩
        have ke := (e0.trans e1).trans e2
        have h2 := tup_pot p1 e2 (tup_pot hp1 e1 h)
        have hx2 := (hx.pot hp1 e1).pot p1 e2
        have hy2 := (hy.pot hp1 e1).pot p1 e2
        rw [m.depth] at hd
        rw [m.lets] at hl
        have dd : d' = 0 ∨ d' = 1 := by omega
        rcases dd with rfl | rfl
        · refine ⟨_, rfl, _, rfl, _, rfl, c, _, rfl, tT h2, (by show ¬ ((0 : Nat) = 0 ∧ (1 : Nat) = 3); decide), fun q1 hq1 => ?_⟩
          have f1 := Same.new hq1 (.tup [.str wd])
          refine ⟨_, rfl, _, rfl, _, rfl, _, _, _, _, rfl, rfl, tT (f1 _ _ h2), rfl, ?_⟩
          refine ⟨a, x, k1, rfl, hx2.same f1, hl.1, by omega, by omega, p2.same f1, fun u H4 lu e3 p3 => ?_⟩
          obtain ⟨l, hu, l1, l2, l3⟩ := lu
          have pp := p2.same f1
          have h3 := tup_pot pp e3 (f1 _ _ h2)
          have hq13 := tup_pot pp e3 upd_same
          have hr3 := (hy2.same f1).pot pp e3
          refine ⟨size1, fun q2 hq2 => ?_⟩
          have f2 := Same.new hq2 (.tup [u])
          refine cat_go (f2 _ _ hq13) upd_same (size1000 (by show 2 ≤ 1000; omega)) fun v4 H5 e4 t4 => ?_
          have f24 := f2.trans e4
          refine ⟨_, rfl, _, rfl, _, _, rfl, rfl, _, rfl, c, _, rfl, tT (f24 _ _ h3), (by show ¬ ((2 : Nat) = 0 ∧ (3 : Nat) = 3); decide), fun q5 hq5 => ?_⟩
          have f5 := Same.new hq5 (.tup [y])
          obtain ⟨b4, rfl, t4⟩ := t4
          refine cat_go (f5 _ _ t4) upd_same (size1000 (by show 3 ≤ 1000; omega)) fun v6 H6 e6 t6 => ?_
          obtain ⟨b6, rfl, t6⟩ := t6
          have f36 := f24.trans (f5.trans e6)
          refine rt _ _ ⟨⟨mk l k2, m.at_ t6 (hu.same f36) (hr3.same f36), (m.lets _ _ _).mpr ⟨l1, hl.2⟩, by rw [m.depth, m.depth]; omega, m.tsize l3 (fun _ => rfl)⟩, ((ke.trans (Keep.of f1)).trans e3).trans (Keep.of f36), p3.same f36⟩
        · refine ⟨_, rfl, _, rfl, _, rfl, c, _, rfl, tT h2, (by show ¬ ((0 : Nat) = 0 ∧ (2 : Nat) = 3); decide), fun q1 hq1 => ?_⟩
          have f1 := Same.new hq1 (.tup [.str wd, x])
          refine ⟨_, rfl, _, rfl, _, rfl, _, _, _, _, rfl, rfl, tT (f1 _ _ h2), rfl, ?_⟩
          refine ⟨a, y, k2, rfl, hy2.same f1, hl.2, by omega, by omega, p2.same f1, fun u H4 lu e3 p3 => ?_⟩
          obtain ⟨l, hu, l1, l2, l3⟩ := lu
          have pp := p2.same f1
          have h3 := tup_pot pp e3 (f1 _ _ h2)
          have hq13 := tup_pot pp e3 upd_same
          have hr3 := (hx2.same f1).pot pp e3
          refine ⟨size1, fun q2 hq2 => ?_⟩
          have f2 := Same.new hq2 (.tup [u])
          refine cat_go (f2 _ _ hq13) upd_same (size1000 (by show 3 ≤ 1000; omega)) fun v4 H5 e4 t4 => ?_
          have f24 := f2.trans e4
          refine ⟨_, rfl, _, rfl, _, _, rfl, rfl, _, rfl, c, _, rfl, tT (f24 _ _ h3), (by show ¬ ((3 : Nat) = 0 ∧ (3 : Nat) = 3); decide), fun q5 hq5 => ?_⟩
          have f5 := Same.new hq5 (.tup [])
          obtain ⟨b4, rfl, t4⟩ := t4
          refine cat_go (f5 _ _ t4) upd_same (size1000 (by show 3 ≤ 1000; omega)) fun v6 H6 e6 t6 => ?_
          obtain ⟨b6, rfl, t6⟩ := t6
          have f36 := f24.trans (f5.trans e6)
          refine rt _ _ ⟨⟨mk k1 l, m.at_ t6 (hr3.same f36) (hu.same f36), (m.lets _ _ _).mpr ⟨hl.1, l1⟩, by rw [m.depth, m.depth]; omega, m.tsize (fun _ => rfl) l3⟩, ((ke.trans (Keep.of f1)).trans e3).trans (Keep.of f36), p3.same f36⟩
      · refine iteFe (decide_eq_false cd) ?_
        exact nx _ _ ⟨_, rfl, hv1.pot hp1 e1, p1, e0.trans e1⟩
  case c1 =>
    rintro D σ H1 ⟨o, b, xs, rfl, lk⟩ nx
    have hv := lk.at_
    cases hv with
    | let_ h =>
      refine ⟨_, rfl, _, _, _, _, rfl, rfl, tT h, rfl, rfl, _, rfl, iteFe (by decide +kernel) ?_⟩
      exact nx _ _ ⟨_, _, _, rfl, lk.more (by omega)⟩
    | one h =>
      refine ⟨_, rfl, _, _, _, _, rfl, rfl, tT h, rfl, rfl, _, rfl, iteFe (by decide +kernel) ?_⟩
      exact nx _ _ ⟨_, _, _, rfl, lk.more (by omega)⟩
    | fn h hx hy =>
      refine ⟨_, rfl, _, _, _, _, rfl, rfl, tT h, rfl, rfl, _, rfl, iteFe (by decide +kernel) ?_⟩
      exact nx _ _ ⟨_, _, _, rfl, lk.more (by omega)⟩
    | @pair c x y k1 k2 h hx hy =>
      simp only [Kd.lets] at hl
      simp only [Kd.depth] at hd
      refine ⟨_, rfl, _, _, _, _, rfl, rfl, tT h, rfl, rfl, _, rfl, iteTe rfl ?_⟩
      refine ⟨_, rfl, _, rfl, _, _, _, _, rfl, rfl, tT h, rfl, _, rfl, _, _, _, _, rfl, rfl, tT h, rfl, size3, fun p1 h1 => ⟨size1, fun p2 h2 => ?_⟩⟩
      have f1 := Same.new h1 (.tup [.str "pair", y, x])
      have f2 := Same.new h2 (.lst [.ref p1])
      have e := f1.trans f2
      dsimp only [tC]
      refine rep_ys (m := 4) upd_same (one_like ⟨.pair k2 k1, .pair (f2 _ _ upd_same) (hy.same e) (hx.same e), ⟨hl.2, hl.1⟩, by simp only [Kd.depth]; omega, Kd.z4 k1 k2⟩) (by decide) (by decide) (by show 1 * 4 ≤ 10; omega) fun p ys hp hu le => ?_
      have lk2 := (lk.same e).same (Same.new hp (.lst ys))
      refine ⟨_, p, xs, ys, rfl, rfl, lk2.hb, upd_same, size1000 (by have := lk.len; omega), fun p9 hp9 => ?_⟩
      have lk3 := lk2.cat hu le hp9
      exact ⟨⟨⟨_, _, rfl⟩, _, _, _, rfl, lk3⟩, fun s2 G2 j2 => ⟨⟨⟨_, _, rfl⟩, j2⟩, nx⟩⟩
  case c1b =>
    rintro D σ H1 ⟨⟨k1, k2, rfl⟩, o, b, xs, rfl, lk⟩ nx
    simp only [Kd.lets] at hl
    simp only [Kd.depth] at hd
    have hv := lk.at_
    cases hv with
    | @pair c x y _ _ h hx hy =>
      refine ⟨_, rfl, .inl ⟨rfl, _, tL lk.hb⟩, ?_⟩
      cases hx with
      | let_ g =>
        refine ⟨_, rfl, _, _, _, _, rfl, rfl, tT h, rfl, _, _, _, _, rfl, rfl, tT g, rfl, rfl, _, rfl, iteFe (by decide +kernel) ?_⟩
        refine ⟨size0, fun p hp => ?_⟩
        have e := Same.new hp (.lst [])
        refine ⟨b, p, xs, [], rfl, rfl, e _ _ lk.hb, upd_same, size1000 (by have := lk.len; simp only [List.length_nil]; omega), ?_⟩
        exact nx _ _ ⟨_, _, _, rfl, (lk.same e).ext (ys := []) (fun u hu => by simp at hu) (by simp)⟩
      | one g =>
        refine ⟨_, rfl, _, _, _, _, rfl, rfl, tT h, rfl, _, _, _, _, rfl, rfl, tT g, rfl, rfl, _, rfl, iteFe (by decide +kernel) ?_⟩
        refine ⟨size0, fun p hp => ?_⟩
        have e := Same.new hp (.lst [])
        refine ⟨b, p, xs, [], rfl, rfl, e _ _ lk.hb, upd_same, size1000 (by have := lk.len; simp only [List.length_nil]; omega), ?_⟩
        exact nx _ _ ⟨_, _, _, rfl, (lk.same e).ext (ys := []) (fun u hu => by simp at hu) (by simp)⟩
      | fn g g1 g2 =>
        refine ⟨_, rfl, _, _, _, _, rfl, rfl, tT h, rfl, _, _, _, _, rfl, rfl, tT g, rfl, rfl, _, rfl, iteFe (by decide +kernel) ?_⟩
        refine ⟨size0, fun p hp => ?_⟩
        have e := Same.new hp (.lst [])
        refine ⟨b, p, xs, [], rfl, rfl, e _ _ lk.hb, upd_same, size1000 (by have := lk.len; simp only [List.length_nil]; omega), ?_⟩
        exact nx _ _ ⟨_, _, _, rfl, (lk.same e).ext (ys := []) (fun u hu => by simp at hu) (by simp)⟩
      | @pair c1 x1 x2 k3 k4 g g1 g2 =>
        refine ⟨_, rfl, _, _, _, _, rfl, rfl, tT h, rfl, _, _, _, _, rfl, rfl, tT g, rfl, rfl, _, rfl, iteTe rfl ?_⟩
        refine ⟨_, rfl, _, _, _, _, rfl, rfl, tT h, rfl, _, _, _, _, rfl, rfl, tT g, rfl, _, rfl, _, _, _, _, rfl, rfl, tT h, rfl, _, _, _, _, rfl, rfl, tT g, rfl, _, rfl, _, _, _, _, rfl, rfl, tT h, rfl, size3, fun p1 h1 => ⟨size3, fun p2 h2 => ⟨size1, fun p3 h3 => ?_⟩⟩⟩
        have f1 := Same.new h1 (.tup [.str "pair", x2, y])
        have f2 := Same.new h2 (.tup [.str "pair", x1, .ref p1])
        have f3 := Same.new h3 (.lst [.ref p2])
        have e := f1.trans (f2.trans f3)
        simp only [Kd.lets] at hl
        simp only [Kd.depth] at hd
        dsimp only [tC]
        refine rep_ys (m := 4) upd_same (one_like ⟨.pair k3 (.pair k4 k2), .pair (f3 _ _ upd_same) (g1.same e) (.pair (f2.trans f3 _ _ upd_same) (g2.same e) (hy.same e)), ⟨hl.1.1, hl.1.2, hl.2⟩, by simp only [Kd.depth]; omega, Kd.z5 k3 k4 k2⟩) (by decide) (by decide) (by show 1 * 4 ≤ 10; omega) fun p ys hp hu le => ?_
        have lk2 := (lk.same e).same (Same.new hp (.lst ys))
        refine ⟨b, p, xs, ys, rfl, rfl, lk2.hb, upd_same, size1000 (by have := lk.len; omega), ?_⟩
        exact nx _ _ ⟨_, _, _, rfl, lk2.ext hu le⟩
  case c1c =>
    rintro D σ H1 ⟨⟨k1, k2, rfl⟩, o, b, xs, rfl, lk⟩ nx
    simp only [Kd.lets] at hl
    simp only [Kd.depth] at hd
    have hv := lk.at_
    cases hv with
    | @pair c x y _ _ h hx hy =>
      cases hx with
      | let_ g =>
        refine ⟨_, rfl, _, _, _, _, rfl, rfl, tT h, rfl, _, _, _, _, rfl, rfl, tT g, rfl, rfl, _, rfl, iteFe (by decide +kernel) ?_⟩
        exact nx _ _ ⟨_, _, _, rfl, lk.more (by omega)⟩
      | one g =>
        refine ⟨_, rfl, _, _, _, _, rfl, rfl, tT h, rfl, _, _, _, _, rfl, rfl, tT g, rfl, rfl, _, rfl, iteFe (by decide +kernel) ?_⟩
        exact nx _ _ ⟨_, _, _, rfl, lk.more (by omega)⟩
      | pair g g1 g2 =>
        refine ⟨_, rfl, _, _, _, _, rfl, rfl, tT h, rfl, _, _, _, _, rfl, rfl, tT g, rfl, rfl, _, rfl, iteFe (by decide +kernel) ?_⟩
        exact nx _ _ ⟨_, _, _, rfl, lk.more (by omega)⟩
      | @fn c1 x1 x2 k3 k4 g g1 g2 =>
        refine ⟨_, rfl, _, _, _, _, rfl, rfl, tT h, rfl, _, _, _, _, rfl, rfl, tT g, rfl, rfl, _, rfl, iteTe rfl ?_⟩
        cases hy with
        | let_ r =>
          refine ⟨_, rfl, _, _, _, _, rfl, rfl, tT h, rfl, _, _, _, _, rfl, rfl, tT r, rfl, rfl, _, rfl, iteFe (by decide +kernel) ?_⟩
          exact nx _ _ ⟨_, _, _, rfl, lk.more (by omega)⟩
        | one r =>
          refine ⟨_, rfl, _, _, _, _, rfl, rfl, tT h, rfl, _, _, _, _, rfl, rfl, tT r, rfl, rfl, _, rfl, iteFe (by decide +kernel) ?_⟩
          exact nx _ _ ⟨_, _, _, rfl, lk.more (by omega)⟩
        | pair r r1 r2 =>
          refine ⟨_, rfl, _, _, _, _, rfl, rfl, tT h, rfl, _, _, _, _, rfl, rfl, tT r, rfl, rfl, _, rfl, iteFe (by decide +kernel) ?_⟩
          exact nx _ _ ⟨_, _, _, rfl, lk.more (by omega)⟩
        | @fn c2 y1 y2 k5 k6 r r1 r2 =>
          simp only [Kd.lets] at hl
          simp only [Kd.depth] at hd
          refine ⟨_, rfl, _, _, _, _, rfl, rfl, tT h, rfl, _, _, _, _, rfl, rfl, tT r, rfl, rfl, _, rfl, iteTe rfl ?_⟩
          refine ⟨_, rfl, _, _, _, _, rfl, rfl, tT h, rfl, _, _, _, _, rfl, rfl, tT g, rfl, _, rfl, _, _, _, _, rfl, rfl, tT h, rfl, _, _, _, _, rfl, rfl, tT r, rfl, _, _, g1.dp, r1.dp, Kd.shaped (by omega), Kd.shaped (by omega), _, rfl, ?_⟩
          cases ce : PyData.eqv k3.data k5.data with
          | false =>
            exact nx _ _ ⟨_, _, _, rfl, lk.more (by omega)⟩
          | true =>
            have ek := Kd.data_eqv _ _ ce
            subst ek
            refine ⟨_, rfl, _, rfl, _, _, _, _, rfl, rfl, tT h, rfl, _, _, _, _, rfl, rfl, tT g, rfl, _, rfl, _, _, _, _, rfl, rfl, tT h, rfl, _, _, _, _, rfl, rfl, tT g, rfl, _, rfl, _, _, _, _, rfl, rfl, tT h, rfl, _, _, _, _, rfl, rfl, tT r, rfl, size3, fun p1 h1 => ⟨size3, fun p2 h2 => ⟨size1, fun p3 h3 => ?_⟩⟩⟩
            have f1 := Same.new h1 (.tup [.str "pair", x2, y2])
            have f2 := Same.new h2 (.tup [.str "fun", x1, .ref p1])
            have f3 := Same.new h3 (.lst [.ref p2])
            have e := f1.trans (f2.trans f3)
            dsimp only [tC]
            refine rep_ys (m := 4) upd_same (one_like ⟨.fn k3 (.pair k4 k6), .fn (f3 _ _ upd_same) (g1.same e) (.pair (f2.trans f3 _ _ upd_same) (g2.same e) (r2.same e)), ⟨hl.1.1, hl.1.2, hl.2.2⟩, by simp only [Kd.depth]; omega, Kd.z6 k3 k4 k6⟩) (by decide) (by decide) (by show 1 * 4 ≤ 10; omega) fun p ys hp hu le => ?_
            have lk2 := (lk.same e).same (Same.new hp (.lst ys))
            refine ⟨_, p, xs, ys, rfl, rfl, lk2.hb, upd_same, size1000 (by have := lk.len; omega), fun p9 hp9 => ?_⟩
            have lk3 := lk2.cat hu le hp9
            exact nx _ _ ⟨_, _, _, rfl, lk3⟩
  case c2 =>
    rintro D σ H1 ⟨o, b, xs, rfl, lk⟩ nx
    have hv := lk.at_
    cases hv with
    | let_ h =>
      refine ⟨_, rfl, _, _, _, _, rfl, rfl, tT h, rfl, rfl, _, rfl, iteFe (by decide +kernel) ?_⟩
      exact nx _ _ ⟨_, _, _, rfl, lk.more (by omega)⟩
    | one h =>
      refine ⟨_, rfl, _, _, _, _, rfl, rfl, tT h, rfl, rfl, _, rfl, iteFe (by decide +kernel) ?_⟩
      exact nx _ _ ⟨_, _, _, rfl, lk.more (by omega)⟩
    | pair h hx hy =>
      refine ⟨_, rfl, _, _, _, _, rfl, rfl, tT h, rfl, rfl, _, rfl, iteFe (by decide +kernel) ?_⟩
      exact nx _ _ ⟨_, _, _, rfl, lk.more (by omega)⟩
    | @fn c x y k1 k2 h hx hy =>
      simp only [Kd.lets] at hl
      simp only [Kd.depth] at hd
      refine ⟨_, rfl, _, _, _, _, rfl, rfl, tT h, rfl, rfl, _, rfl, iteTe rfl ?_⟩
      cases hx with
      | let_ g =>
        refine ⟨_, rfl, _, _, _, _, rfl, rfl, tT h, rfl, _, _, _, _, rfl, rfl, tT g, rfl, rfl, _, rfl, iteFe (by decide +kernel) ?_⟩
        exact nx _ _ ⟨_, _, _, rfl, lk.more (by omega)⟩
      | one g =>
        refine ⟨_, rfl, _, _, _, _, rfl, rfl, tT h, rfl, _, _, _, _, rfl, rfl, tT g, rfl, rfl, _, rfl, iteFe (by decide +kernel) ?_⟩
        exact nx _ _ ⟨_, _, _, rfl, lk.more (by omega)⟩
      | fn g g1 g2 =>
        refine ⟨_, rfl, _, _, _, _, rfl, rfl, tT h, rfl, _, _, _, _, rfl, rfl, tT g, rfl, rfl, _, rfl, iteFe (by decide +kernel) ?_⟩
        exact nx _ _ ⟨_, _, _, rfl, lk.more (by omega)⟩
      | @pair c1 x1 x2 k3 k4 g g1 g2 =>
        simp only [Kd.lets] at hl
        simp only [Kd.depth] at hd
        refine ⟨_, rfl, _, _, _, _, rfl, rfl, tT h, rfl, _, _, _, _, rfl, rfl, tT g, rfl, rfl, _, rfl, iteTe rfl ?_⟩
        refine ⟨_, rfl, _, rfl, _, _, _, _, rfl, rfl, tT h, rfl, _, _, _, _, rfl, rfl, tT g, rfl, _, rfl, _, _, _, _, rfl, rfl, tT h, rfl, _, _, _, _, rfl, rfl, tT g, rfl, _, rfl, _, _, _, _, rfl, rfl, tT h, rfl, size3, fun p1 h1 => ⟨size3, fun p2 h2 => ⟨size1, fun p3 h3 => ?_⟩⟩⟩
        have f1 := Same.new h1 (.tup [.str "fun", x2, y])
        have f2 := Same.new h2 (.tup [.str "fun", x1, .ref p1])
        have f3 := Same.new h3 (.lst [.ref p2])
        have e := f1.trans (f2.trans f3)
        dsimp only [tC]
        refine rep_ys (m := 4) upd_same (one_like ⟨.fn k3 (.fn k4 k2), .fn (f3 _ _ upd_same) (g1.same e) (.fn (f2.trans f3 _ _ upd_same) (g2.same e) (hy.same e)), ⟨hl.1.1, hl.1.2, hl.2⟩, by simp only [Kd.depth]; omega, Kd.z7 k3 k4 k2⟩) (by decide) (by decide) (by show 1 * 4 ≤ 10; omega) fun p ys hp hu le => ?_
        have lk2 := (lk.same e).same (Same.new hp (.lst ys))
        refine ⟨_, p, xs, ys, rfl, rfl, lk2.hb, upd_same, size1000 (by have := lk.len; omega), fun p9 hp9 => ?_⟩
        have lk3 := lk2.cat hu le hp9
        exact nx _ _ ⟨_, _, _, rfl, lk3⟩
  case c3 =>
    rintro D σ H1 ⟨o, b, xs, rfl, lk⟩ nx
    have hv := lk.at_
    cases hv with
    | let_ h =>
      refine ⟨_, rfl, _, _, _, _, rfl, rfl, tT h, rfl, rfl, _, rfl, iteFe (by decide +kernel) ?_⟩
      exact nx _ _ ⟨_, _, _, rfl, lk.more (by omega)⟩
    | one h =>
      refine ⟨_, rfl, _, _, _, _, rfl, rfl, tT h, rfl, rfl, _, rfl, iteFe (by decide +kernel) ?_⟩
      exact nx _ _ ⟨_, _, _, rfl, lk.more (by omega)⟩
    | pair h hx hy =>
      refine ⟨_, rfl, _, _, _, _, rfl, rfl, tT h, rfl, rfl, _, rfl, iteFe (by decide +kernel) ?_⟩
      exact nx _ _ ⟨_, _, _, rfl, lk.more (by omega)⟩
    | @fn c x y k1 k2 h hx hy =>
      simp only [Kd.lets] at hl
      simp only [Kd.depth] at hd
      refine ⟨_, rfl, _, _, _, _, rfl, rfl, tT h, rfl, rfl, _, rfl, iteTe rfl ?_⟩
      cases hy with
      | let_ g =>
        refine ⟨_, rfl, _, _, _, _, rfl, rfl, tT h, rfl, _, _, _, _, rfl, rfl, tT g, rfl, rfl, _, rfl, iteFe (by decide +kernel) ?_⟩
        exact nx _ _ ⟨_, _, _, rfl, lk.more (by omega)⟩
      | one g =>
        refine ⟨_, rfl, _, _, _, _, rfl, rfl, tT h, rfl, _, _, _, _, rfl, rfl, tT g, rfl, rfl, _, rfl, iteFe (by decide +kernel) ?_⟩
        exact nx _ _ ⟨_, _, _, rfl, lk.more (by omega)⟩
      | pair g g1 g2 =>
        refine ⟨_, rfl, _, _, _, _, rfl, rfl, tT h, rfl, _, _, _, _, rfl, rfl, tT g, rfl, rfl, _, rfl, iteFe (by decide +kernel) ?_⟩
        exact nx _ _ ⟨_, _, _, rfl, lk.more (by omega)⟩
      | @fn c1 y1 y2 k3 k4 g g1 g2 =>
        simp only [Kd.lets] at hl
        simp only [Kd.depth] at hd
        refine ⟨_, rfl, _, _, _, _, rfl, rfl, tT h, rfl, _, _, _, _, rfl, rfl, tT g, rfl, rfl, _, rfl, iteTe rfl ?_⟩
        refine ⟨_, rfl, _, rfl, _, _, _, _, rfl, rfl, tT h, rfl, _, rfl, _, _, _, _, rfl, rfl, tT h, rfl, _, _, _, _, rfl, rfl, tT g, rfl, size3, fun p1 h1 => ⟨_, rfl, _, _, _, _, rfl, rfl, tT (Same.new h1 _ _ _ h), rfl, _, _, _, _, rfl, rfl, tT (Same.new h1 _ _ _ g), rfl, size3, fun p2 h2 => ⟨_, rfl, _, _, _, _, rfl, rfl, tT ((Same.new h1 _).trans (Same.new h2 _) _ _ h), rfl, _, _, _, _, rfl, rfl, tT ((Same.new h1 _).trans (Same.new h2 _) _ _ g), rfl, _, rfl, _, _, _, _, rfl, rfl, tT ((Same.new h1 _).trans (Same.new h2 _) _ _ h), rfl, _, rfl, _, _, _, _, rfl, rfl, tT ((Same.new h1 _).trans (Same.new h2 _) _ _ h), rfl, _, _, _, _, rfl, rfl, tT ((Same.new h1 _).trans (Same.new h2 _) _ _ g), rfl, size3, fun p3 h3 => ⟨size3, fun p4 h4 => ⟨size2, fun p5 h5 => ?_⟩⟩⟩⟩⟩
        have f1 := Same.new h1 (.tup [.str "pair", x, y1])
        have f2 := Same.new h2 (.tup [.str "fun", .ref p1, y2])
        have f3 := Same.new h3 (.tup [.str "fun", x, y2])
        have f4 := Same.new h4 (.tup [.str "fun", y1, .ref p3])
        have f5 := Same.new h5 (.lst [.ref p2, .ref p4])
        have e := f1.trans (f2.trans (f3.trans (f4.trans f5)))
        have two : ∀ u ∈ [V.ref p2, V.ref p4], LikeAt _ (Kd.fn k1 (Kd.fn k3 k4)) u := fun u hu => by
          simp only [List.mem_cons, List.not_mem_nil, or_false] at hu
          rcases hu with rfl | rfl
          · exact ⟨.fn (.pair k1 k3) k4, .fn ((f3.trans (f4.trans f5)) _ _ upd_same) (.pair ((f2.trans (f3.trans (f4.trans f5))) _ _ upd_same) (hx.same e) (g1.same e)) (g2.same e), ⟨⟨hl.1, hl.2.1⟩, hl.2.2⟩, by simp only [Kd.depth]; omega, Kd.z8 k1 k3 k4⟩
          · exact ⟨.fn k3 (.fn k1 k4), .fn (f5 _ _ upd_same) (g1.same e) (.fn ((f4.trans f5) _ _ upd_same) (hx.same e) (g2.same e)), ⟨hl.2.1, hl.1, hl.2.2⟩, by simp only [Kd.depth]; omega, Kd.z9 k1 k3 k4⟩
        dsimp only [tC]
        refine rep_ys (m := 3) upd_same two (by decide) (by decide) (by show 2 * 3 ≤ 10; omega) fun p ys hp hu le => ?_
        have lk2 := (lk.same e).same (Same.new hp (.lst ys))
        refine ⟨_, p, xs, ys, rfl, rfl, lk2.hb, upd_same, size1000 (by have := lk.len; omega), fun p9 hp9 => ?_⟩
        have lk3 := lk2.cat hu le hp9
        exact nx _ _ ⟨_, _, _, rfl, lk3⟩
  case c4 =>
    rintro D σ H1 ⟨o, b, xs, rfl, lk⟩ nx
    have hv := lk.at_
    cases hv with
    | let_ h =>
      refine ⟨_, rfl, _, _, _, _, rfl, rfl, tT h, rfl, rfl, _, rfl, iteFe (by decide +kernel) ?_⟩
      exact nx _ _ ⟨_, _, _, rfl, lk.more (by omega)⟩
    | one h =>
      refine ⟨_, rfl, _, _, _, _, rfl, rfl, tT h, rfl, rfl, _, rfl, iteFe (by decide +kernel) ?_⟩
      exact nx _ _ ⟨_, _, _, rfl, lk.more (by omega)⟩
    | pair h hx hy =>
      refine ⟨_, rfl, _, _, _, _, rfl, rfl, tT h, rfl, rfl, _, rfl, iteFe (by decide +kernel) ?_⟩
      exact nx _ _ ⟨_, _, _, rfl, lk.more (by omega)⟩
    | @fn c x y k1 k2 h hx hy =>
      simp only [Kd.lets] at hl
      simp only [Kd.depth] at hd
      refine ⟨_, rfl, _, _, _, _, rfl, rfl, tT h, rfl, rfl, _, rfl, iteTe rfl ?_⟩
      cases hy with
      | let_ g =>
        refine ⟨_, rfl, _, _, _, _, rfl, rfl, tT h, rfl, _, _, _, _, rfl, rfl, tT g, rfl, rfl, _, rfl, iteFe (by decide +kernel) ?_⟩
        exact nx _ _ ⟨_, _, _, rfl, lk.more (by omega)⟩
      | one g =>
        refine ⟨_, rfl, _, _, _, _, rfl, rfl, tT h, rfl, _, _, _, _, rfl, rfl, tT g, rfl, rfl, _, rfl, iteFe (by decide +kernel) ?_⟩
        exact nx _ _ ⟨_, _, _, rfl, lk.more (by omega)⟩
      | fn g g1 g2 =>
        refine ⟨_, rfl, _, _, _, _, rfl, rfl, tT h, rfl, _, _, _, _, rfl, rfl, tT g, rfl, rfl, _, rfl, iteFe (by decide +kernel) ?_⟩
        exact nx _ _ ⟨_, _, _, rfl, lk.more (by omega)⟩
      | @pair c1 y1 y2 k3 k4 g g1 g2 =>
        simp only [Kd.lets] at hl
        simp only [Kd.depth] at hd
        refine ⟨_, rfl, _, _, _, _, rfl, rfl, tT h, rfl, _, _, _, _, rfl, rfl, tT g, rfl, rfl, _, rfl, iteTe rfl ?_⟩
        refine ⟨_, rfl, _, rfl, _, _, _, _, rfl, rfl, tT h, rfl, _, rfl, _, _, _, _, rfl, rfl, tT h, rfl, _, _, _, _, rfl, rfl, tT g, rfl, size3, fun p1 h1 => ⟨_, rfl, _, _, _, _, rfl, rfl, tT (Same.new h1 _ _ _ h), rfl, _, rfl, _, _, _, _, rfl, rfl, tT (Same.new h1 _ _ _ h), rfl, _, _, _, _, rfl, rfl, tT (Same.new h1 _ _ _ g), rfl, size3, fun p2 h2 => ⟨size3, fun p3 h3 => ⟨size1, fun p4 h4 => ?_⟩⟩⟩⟩
        have f1 := Same.new h1 (.tup [.str "fun", x, y1])
        have f2 := Same.new h2 (.tup [.str "fun", x, y2])
        have f3 := Same.new h3 (.tup [.str "pair", .ref p1, .ref p2])
        have f4 := Same.new h4 (.lst [.ref p3])
        have e := f1.trans (f2.trans (f3.trans f4))
        dsimp only [tC]
        refine rep_ys (m := 4) upd_same (one_like ⟨.pair (.fn k1 k3) (.fn k1 k4), .pair (f4 _ _ upd_same) (.fn ((f2.trans (f3.trans f4)) _ _ upd_same) (hx.same e) (g1.same e)) (.fn ((f3.trans f4) _ _ upd_same) (hx.same e) (g2.same e)), ⟨⟨hl.1, hl.2.1⟩, hl.1, hl.2.2⟩, by simp only [Kd.depth]; omega, fun f => (Kd.z6 k1 k3 k4 f).symm⟩) (by decide) (by decide) (by show 1 * 4 ≤ 10; omega) fun p ys hp hu le => ?_
        have lk2 := (lk.same e).same (Same.new hp (.lst ys))
        refine ⟨_, p, xs, ys, rfl, rfl, lk2.hb, upd_same, size1000 (by have := lk.len; omega), fun p9 hp9 => ?_⟩
        have lk3 := lk2.cat hu le hp9
        exact nx _ _ ⟨_, _, _, rfl, lk3⟩
  case c5 =>
    rintro D σ H1 ⟨o, b, xs, rfl, lk⟩ nx
    have hv := lk.at_
    cases hv with
    | let_ h =>
      refine ⟨_, rfl, _, _, _, _, rfl, rfl, tT h, rfl, rfl, _, rfl, iteFe (by decide +kernel) ?_⟩
      exact nx _ _ ⟨_, _, _, rfl, lk.more (by omega)⟩
    | one h =>
      refine ⟨_, rfl, _, _, _, _, rfl, rfl, tT h, rfl, rfl, _, rfl, iteFe (by decide +kernel) ?_⟩
      exact nx _ _ ⟨_, _, _, rfl, lk.more (by omega)⟩
    | pair h hx hy =>
      refine ⟨_, rfl, _, _, _, _, rfl, rfl, tT h, rfl, rfl, _, rfl, iteFe (by decide +kernel) ?_⟩
      exact nx _ _ ⟨_, _, _, rfl, lk.more (by omega)⟩
    | @fn c x y k1 k2 h hx hy =>
      simp only [Kd.lets] at hl
      simp only [Kd.depth] at hd
      refine ⟨_, rfl, _, _, _, _, rfl, rfl, tT h, rfl, rfl, _, rfl, iteTe rfl ?_⟩
      refine ⟨_, rfl, _, _, _, _, rfl, rfl, tT h, rfl, size1, fun p0 h0 => ?_⟩
      have f0 := Same.new h0 (.tup [.str "one"])
      have lk0 := lk.same f0
      have one0 : At (upd H1 p0 (.tup [.str "one"])) (.ref p0) .one := .one upd_same
      refine ⟨_, _, (hy.same f0).dp, one0.dp, Kd.shaped (by omega), Kd.shaped (k := .one) (by simp [Kd.depth]), _, rfl, ?_⟩
      cases ce : PyData.eqv k2.data Kd.one.data with
      | false =>
        exact nx _ _ ⟨_, _, _, rfl, lk0.more (by omega)⟩
      | true =>
        have ek := Kd.data_eqv _ _ ce
        subst ek
        refine ⟨_, rfl, size1, fun p1 h1 => ⟨size1, fun p2 h2 => ?_⟩⟩
        have f1 := Same.new h1 (.tup [.str "one"])
        have f2 := Same.new h2 (.lst [.ref p1])
        have e := f1.trans f2
        dsimp only [tC]
        refine rep_ys (m := 4) upd_same (one_like ⟨.one, .one (f2 _ _ upd_same), trivial, by simp only [Kd.depth]; omega, Kd.z10 k1⟩) (by decide) (by decide) (by show 1 * 4 ≤ 10; omega) fun p ys hp hu le => ?_
        have lk2 := (lk0.same e).same (Same.new hp (.lst ys))
        refine ⟨_, p, xs, ys, rfl, rfl, lk2.hb, upd_same, size1000 (by have := lk.len; omega), fun p9 hp9 => ?_⟩
        have lk3 := lk2.cat hu le hp9
        exact nx _ _ ⟨_, _, _, rfl, lk3⟩
  case c6 =>
    rintro D σ H1 ⟨o, b, xs, rfl, lk⟩ nx
    have hv := lk.at_
    cases hv with
    | let_ h =>
      refine ⟨_, rfl, _, _, _, _, rfl, rfl, tT h, rfl, rfl, _, rfl, iteFe (by decide +kernel) ?_⟩
      exact nx _ _ ⟨_, _, _, rfl, lk.more (by omega)⟩
    | pair h hx hy =>
      refine ⟨_, rfl, _, _, _, _, rfl, rfl, tT h, rfl, rfl, _, rfl, iteFe (by decide +kernel) ?_⟩
      exact nx _ _ ⟨_, _, _, rfl, lk.more (by omega)⟩
    | fn h hx hy =>
      refine ⟨_, rfl, _, _, _, _, rfl, rfl, tT h, rfl, rfl, _, rfl, iteFe (by decide +kernel) ?_⟩
      exact nx _ _ ⟨_, _, _, rfl, lk.more (by omega)⟩
    | @one c h =>
      refine ⟨_, rfl, _, _, _, _, rfl, rfl, tT h, rfl, rfl, _, rfl, iteTe rfl ?_⟩
      refine ⟨_, rfl, .inl ⟨rfl, _, tL lk.hb⟩, ?_⟩
      refine ⟨size2, fun p1 h1 => ⟨_, rfl, size3, fun p2 h2 => ?_⟩⟩
      have f1 := Same.new h1 (.tup [.str "letter", .int 0])
      have f2 := Same.new h2 (.tup [.str "fun", .ref p1, .ref c])
      have e := f1.trans f2
      have lk2 := lk.same e
      refine ⟨b, xs, _, rfl, rfl, lk2.hb, Nat.lt_of_lt_of_le (show xs.length < 1000 by have := lk.len; omega) (size1000 (Nat.le_refl _)), ?_⟩
      exact nx _ _ ⟨_, _, _, rfl, lk2.ext (ys := [.ref p2]) (one_like ⟨.fn (.let_ 0) .one, .fn upd_same (.let_ (f2 _ _ upd_same)) (.one (e _ _ h)), ⟨by show 0 < 3; omega, trivial⟩, by simp only [Kd.depth]; omega, Kd.z11 (.let_ 0)⟩) (by simp)⟩
end
end T84

/-! y84 -/
namespace T84
open PySem L2
abbrev s__law_two : Stmt := top 59
abbrev s__law_pot : Stmt := top 49
theorem tsize_same (k : Kd) : ∀ e, k.tsize e = k.tsize e := fun _ => rfl
section
variable {P : Program} {w : World} {K : PySem.W.Frag} {mg : Str → Option Value} {base : Heap} {aDOUBLE C L fI : Addr} {fdI : FuncData}
theorem ok__law_likened {f g1 g2 : Addr} {fd d1 d2 : FuncData} (D__law_likened : FD K mg "_law_likened" s__law_likened ["pot", "kind"] f fd) (D__law_draw : FD K mg "_law_draw" s__law_draw ["pot", "many"] g1 d1) (D__law_pick : FD K mg "_law_pick" s__law_pick ["pot", "some"] g2 d2) (T : Cs K mg aDOUBLE)
    (G__law_draw : FnOk P w K mg base CX0 1 g1 d1 ["pot", "many"] sp__law_draw) (G__law_pick : FnOk P w K mg base CX0 2 g2 d2 ["pot", "some"] sp__law_pick) : ∀ n, FnOk P w K mg base CX0 (n + 2) f fd ["pot", "kind"] (sp__law_likened n)
  | 0 => fn_none fun vs H Q E h => by
    obtain ⟨a, v, k, _, _, _, h, _⟩ := h
    have := k.depth_pos
    omega
  | n + 1 => _law_likened_step D__law_likened D__law_draw D__law_pick T G__law_draw G__law_pick ((ok__law_likened D__law_likened D__law_draw D__law_pick T G__law_draw G__law_pick n).imp fun vs H Q E h => by
      obtain ⟨a, v, k, h1, h2, h3, h4, h5, r⟩ := h
      exact ⟨a, v, k, h1, h2, h3, h4, h5, r⟩)
theorem S__law_two : FnScope ["pot", "most", "one", "other", "turn", "late"] ["pot", "most"] (defScope s__law_two) := ⟨rfl, rfl, rfl, by decide +kernel, rfl, by decide +kernel, by decide +kernel⟩
/-- two kinds that are as great -/
def sp__law_two : Sp := fun vs H Q _ => ∃ (a : Addr), vs = [.ref a, .int 7] ∧ PotAt H a ∧ ∀ p x y k l H', H' p = some (.tup [x, y]) → At H' x k → At H' y l → k.lets 3 → l.lets 3 → k.signs ≤ 11 → l.signs ≤ 11 → k.depth ≤ 10 → l.depth ≤ 10 → (∀ e, k.tsize e = l.tsize e) → Keep a H H' → PotAt H' a → Q (.ref p) H'
theorem ok__law_two {f g1 g2 g3 g4 g5 : Addr} {fd d1 d2 d3 d4 d5 : FuncData} (D__law_two : FD K mg "_law_two" s__law_two ["pot", "most"] f fd) (D__law_pure : FD K mg "_law_pure" s__law_pure ["pot", "fuel"] g1 d1) (D__law_signs : FD K mg "_law_signs" s__law_signs ["kind"] g2 d2)
    (D__law_draw : FD K mg "_law_draw" s__law_draw ["pot", "many"] g3 d3) (D__law_likened : FD K mg "_law_likened" s__law_likened ["pot", "kind"] g4 d4) (D__law_depth : FD K mg "_law_depth" s__law_depth ["kind"] g5 d5) (T : Cs K mg aDOUBLE)
    (G3 : FnOk P w K mg base CX0 7 g1 d1 ["pot", "fuel"] (sp__law_pure 3)) (G2 : FnOk P w K mg base CX0 6 g1 d1 ["pot", "fuel"] (sp__law_pure 2)) (G__law_signs : FnOk P w K mg base CX0 11 g2 d2 ["kind"] (sp_signs_of 11)) (G__law_draw : FnOk P w K mg base CX0 1 g3 d3 ["pot", "many"] sp__law_draw)
    (G__law_likened : FnOk P w K mg base CX0 12 g4 d4 ["pot", "kind"] (sp__law_likened 10)) (G__law_depth : FnOk P w K mg base CX0 11 g5 d5 ["kind"] (sp__law_depth 11)) : FnOk P w K mg base CX0 13 f fd ["pot", "most"] sp__law_two := by
  refine D__law_two.fn.ok S__law_two (fun vs H Q E h => ?_) (fun cdv A outer s H vs Q E hr h => ?_)
  · obtain ⟨a, rfl, _⟩ := h
    rfl
  obtain ⟨a, rfl, hp, q⟩ := h
  refine ⟨_, (pss_cons (ps_set (i := 2) S__law_two.nd rfl (Or.inl rfl) (pe_call G3 (hr.mono (by omega)) rfl D__law_pure.m D__law_pure.fn.kp D__law_pure.b .nil pass0 (pa_cons (pv 0) (pa_cons pe_int pa_nil))))
    (pss_cons (ps_set (i := 2) S__law_two.nd rfl (Or.inl rfl) (pe_ifExp (pt_cmpR op_le (pe_call G__law_signs (hr.mono (by omega)) rfl D__law_signs.m D__law_signs.fn.kp D__law_signs.b .nil pass0 (pa_cons (pv 2) pa_nil)) (pv 1) (nomark _)) (pv 2) (pe_call G2 (hr.mono (by omega)) rfl D__law_pure.m D__law_pure.fn.kp D__law_pure.b .nil pass0 (pa_cons (pv 0) (pa_cons pe_int pa_nil)))))
    (pss_cons (ps_set (i := 3) S__law_two.nd rfl (Or.inl rfl) (pv 2))
    (pss_cons (ps_for PassesOwn.never rfl (pi_range1 rfl T.z_range (pa_cons (pe_call G__law_draw (hr.mono (by omega)) rfl D__law_draw.m D__law_draw.fn.kp D__law_draw.b .nil pass0 (pa_cons (pv 0) (pa_cons pe_int pa_nil))) pa_nil)) (pg_name (i := 4) S__law_two.nd rfl (Or.inl rfl)) (pss_cons (ps_set (i := 5) S__law_two.nd rfl (Or.inl rfl) (pe_call G__law_likened hr rfl D__law_likened.m D__law_likened.fn.kp D__law_likened.b .nil pass0 (pa_cons (pv 0) (pa_cons (pv 3) pa_nil))))
    (pss_one (ps_set (i := 3) S__law_two.nd rfl (Or.inl rfl) (pe_ifExp (PW.pt (pw_and (pt_cmpR op_le (pe_call G__law_signs (hr.mono (by omega)) rfl D__law_signs.m D__law_signs.fn.kp D__law_signs.b .nil pass0 (pa_cons (pv 5) pa_nil)) (pe_op op_add (pv 1) pe_int) (nomark _)) (pw_and1 (pt_cmpR op_le (pe_call G__law_depth (hr.mono (by omega)) rfl D__law_depth.m D__law_depth.fn.kp D__law_depth.b .nil pass0 (pa_cons (pv 5) pa_nil)) pe_int (nomark _))))) (pv 5) (pv 3))))))
    (pss_one (ps_ret (pe_tup (pa_cons (pv 2) (pa_cons (pv 3) pa_nil))))))))), ?_⟩
  refine ⟨_, rfl, a, 3, rfl, rfl, hp, fun v1 k1 H1 h1 z1 e1 p1 => ?_⟩
  have t7 : ∀ (v : V) (k : Kd) (H1 : Hp), At H1 v k → k.lets 3 → k.signs ≤ 7 → k.depth ≤ 7 → Keep a H H1 → PotAt H1 a → (tSeq (tAsg (tVar 2) (gName 3)) (tSeq (tFor (iRng1 (tCons (tCall sp__law_draw [] E0 (tCons (tVar 0) (tCons (tC (.int 7)) tNil))) tNil)) (gName 4)
      (tSeq (tAsg (tCall (sp__law_likened 10) [] E0 (tCons (tVar 0) (tCons (tVar 3) tNil))) (gName 5)) (tAsg (tIf (tAnd (tTest (tOp (rI0 fun i j => .bl (decide (i ≤ j))) (tCall (sp_signs_of 11) [] E0 (tCons (tVar 5) tNil)) (tOp (rI0 fun i j => .int (i + j)) (tVar 1) (tC (.int 4)))))
        (tTest (tOp (rI0 fun i j => .bl (decide (i ≤ j))) (tCall (sp__law_depth 11) [] E0 (tCons (tVar 5) tNil)) (tC (.int 10))))) (tVar 5) (tVar 3)) (gName 3)))) (tRet (tTup (tCons (tVar 2) (tCons (tVar 3) tNil)))))) { nx := fun _ H' => Q .non H', rt := Q } [some (.ref a), some (.int 7), some v, none, none, none] H1 := by
    intro v k H1 hv hl hs hd e1 p1
    refine ⟨_, rfl, ?_⟩
    refine ⟨_, rfl, a, 7, rfl, by decide, by decide, p1, fun d H2 d0 d7 e2 p2 => ⟨d, rfl, by omega, by omega, ?_⟩⟩
    refine for_range (fun i σ H' => ∃ y l o4 o5, σ = [some (.ref a), some (.int 7), some v, some y, o4, o5] ∧ At H' v k ∧ At H' y l ∧ l.lets 3 ∧ l.signs ≤ 11 ∧ l.depth ≤ 10 ∧ (∀ e, k.tsize e = l.tsize e) ∧ Keep a H H' ∧ PotAt H' a)
      ⟨v, k, none, none, rfl, hv.pot p1 e2, hv.pot p1 e2, hl, by omega, by omega, tsize_same k, e1.trans e2, p2⟩ ?_ ?_
    · rintro i σ H' _ ⟨y, l, o4, o5, rfl, a1, a2, l1, l2, l3, l4, e3, p3⟩
      refine ⟨_, rfl, _, rfl, a, y, l, rfl, a2, l1, l3, by decide, p3, fun u H4 lu e4 p4 => ?_⟩
      obtain ⟨m, m1, m2, m3, m4⟩ := lu
      have b1 := a1.pot p3 e4
      have b2 := a2.pot p3 e4
      refine ⟨_, rfl, _, m, rfl, m1, by omega, _, rfl, _, _, rfl, rfl, _, _, rfl, rfl, _, rfl, ?_⟩
      have old : ∃ y' l' o4' o5', [some (.ref a), some (.int 7), some v, some y, some (.int (0 + (i : Int))), some u] = [some (.ref a), some (.int 7), some v, some y', o4', o5'] ∧ At H4 v k ∧ At H4 y' l' ∧ l'.lets 3 ∧ l'.signs ≤ 11 ∧ l'.depth ≤ 10 ∧ (∀ e, k.tsize e = l'.tsize e) ∧ Keep a H H4 ∧ PotAt H4 a :=
        ⟨y, l, _, _, rfl, b1, b2, l1, l2, l3, l4, e3.trans e4, p4⟩
      by_cases c1 : m.signs ≤ 7 + 4
      · refine iteTe (decide_eq_true c1) ?_
        refine ⟨_, rfl, _, m, rfl, m1, by omega, _, _, rfl, rfl, _, rfl, ?_⟩
        by_cases c2 : (m.depth : Int) ≤ 10
        · rw [show decide ((m.depth : Int) ≤ 10) = true from decide_eq_true c2]
          exact ⟨_, rfl, u, m, _, _, rfl, b1, m1, m2, by omega, by omega, fun e => (l4 e).trans (m4 e), e3.trans e4, p4⟩
        · rw [show decide ((m.depth : Int) ≤ 10) = false from decide_eq_false c2]
          exact ⟨_, rfl, old⟩
      · refine iteFe (decide_eq_false c1) ?_
        exact ⟨_, rfl, old⟩
    · rintro σ H' ⟨y, l, o4, o5, rfl, a1, a2, l1, l2, l3, l4, e3, p3⟩
      refine ⟨_, rfl, _, rfl, size2, fun p hpn => ?_⟩
      have e := Same.new hpn (.tup [v, y])
      exact q p v y k l _ upd_same (a1.same e) (a2.same e) hl l1 (by omega) l2 (by omega) l3 l4 (e3.trans (Keep.of e)) (p3.same e)
  have zs := z1.s
  have zd := z1.d
  refine ⟨_, rfl, _, k1, rfl, h1, by omega, _, rfl, _, _, rfl, rfl, _, rfl, ?_⟩
  by_cases c : k1.signs ≤ 7
  · refine iteTe (decide_eq_true c) ⟨_, rfl, ?_⟩
    exact t7 v1 k1 H1 h1 z1.l c (by omega) e1 p1
  · refine iteFe (decide_eq_false c) ?_
    refine ⟨_, rfl, a, 2, rfl, rfl, p1, fun v2 k2 H2 h2 z2 e2 p2 => ?_⟩
    have zs2 := z2.s
    have zd2 := z2.d
    simp only [sgn] at zs2
    exact t7 v2 k2 H2 h2 z2.l (by omega) (by omega) (e1.trans e2) p2
end
end T84

/-! za84 -/
namespace L2
open PySem PySem.Spec PyProof.Rows
/-- a def's promise where no repr is under way -/
structure FnG (P : Program) (w : World) (K : PySem.W.Frag) (mg : Str → Option Value) (base : Heap) (CX : CXT) (n : Nat) (f : Addr) (fd : FuncData) (ps : List Str) (sp : Sp) : Prop where
  len : ∀ xs H Q E, sp xs H Q E → xs.length = ps.length
  run : ∀ (A : Around) (out : List Env) (s : Shared) (H : Hp) (ar : Args) (us : List Value) (xs : List V) (Q : VK) (E : XK), A.guards = some [] → Room n A → Env0 P w K mg base A out s H → BindsTo s fd ar (ps.zip us) → Vals xs us → sp xs H Q E →
    codeAny (model P w) A (.call (.ref f) ar) (CR CX out P w H s Q E) s
section
variable {CX : CXT} {P : Program} {w : World} {K : PySem.W.Frag} {mg : Str → Option Value} {base : Heap} {n : Nat} {f : Addr} {fd : FuncData} {N ps : List Str} {sp : Sp}
theorem FnG.mono {m : Nat} (G : FnG P w K mg base CX n f fd ps sp) (h : n ≤ m) : FnG P w K mg base CX m f fd ps sp := ⟨G.len, fun A out s H ar us xs Q E g r => G.run A out s H ar us xs Q E g (r.mono h)⟩
theorem Fun.okG {x q : Str} {st : Stmt} (F : Fun K x q st f fd) (S : FnScope N ps (defScope st)) (len : ∀ xs H Q E, sp xs H Q E → xs.length = ps.length)
    (body : ∀ (cdv : Value) (A : Around) (out : List Env) (s : Shared) (H : Hp) (xs : List V) (Q : VK) (E : XK), A.guards = some [] → Room n (A.deeper (envOfC q (defScope st) s.heap.objs.size f cdv)) → sp xs H Q E →
      ∃ t, PSs (cxOf CX0 P w K mg base N q (defScope st) f cdv A out s H E) (defBody st) t ∧ t { nx := fun _ H' => Q .non H', rt := Q } (start N xs) H) : FnG P w K mg base CX0 (n + 1) f fd ps sp := by
  obtain ⟨oc, od, kV, doc, pm, an, cdv, ct, osl, rfl, lk, hcd⟩ := F.ex
  refine ⟨len, fun A out s H ar us xs Q E hg hr e0 hb r hsp => ?_⟩
  have ln := len _ _ _ _ hsp
  have kx : K.In s.heap := e0.mod.kin.keeps fun b o z => (e0.bs b o z).1
  have nl : s.heap.NoLimit := e0.mod.nolimit.keeps fun b o z => (e0.bs b o z).1
  have kd : ∀ y ∈ ps.zip us, (defScope st).names.lookup y.1 = some .local ∨ ((defScope st).names.lookup y.1 = some .cell ∧ ((cellsFrom (s.heap.objs.size + 1) (defScope st).names []).lookup y.1).isSome = true) := fun ⟨z, v⟩ hy => by
    rcases S.par z (List.of_mem_zip hy).1 with c | c
    · exact .inl c
    · exact .inr ⟨c, PySem.W.cellsFrom_some _ _ _ (.inl c)⟩
  refine codeAny_call_function hr.depth (kx _ _ lk) rfl S.co S.gen rfl (PySem.W.codeRec_of kx hcd) (hb _ _ _ _ ?_)
  refine wpAny_newFunctionEnv_cells S.kind kd fun env he s1 x1 => ?_
  subst he
  refine ⟨nl.keeps x1.toInCall.keep, codeAny_func ?_⟩
  obtain ⟨t, ht, hq⟩ := body cdv A out s H xs Q E hg (hr.deeper _) hsp
  have I : Inv (cxOf CX0 P w K mg base N q (defScope st) f cdv A out s H E) [] (start N xs) H s1 := inv_start S hr.hd e0 ln r x1
  refine wpAny_mono (ht.run [] s1 (start N xs) H _ I hq) (fun fl s2 hs => ?_) fun e s2 hs => hs
  cases fl with
  | ret u =>
    obtain ⟨v, σ2, H2, J, rv, z⟩ := hs
    exact ⟨v, H2, J.os, J.bare, J.base, J.hok, rv, z⟩
  | next =>
    obtain ⟨σ2, H2, J, z⟩ := hs
    exact ⟨.non, H2, J.os, J.bare, J.base, J.hok, rfl, z⟩
  | brk =>
    obtain ⟨_, _, _, z⟩ := hs
    exact False.elim z
  | cont =>
    obtain ⟨_, _, _, z⟩ := hs
    exact False.elim z
end
section
variable {X : Cx} {n : Nat} {f : Addr} {fd : FuncData} {ps : List Str} {sp : Sp} {x : Str} {p pos : Pos} {e : Expr} {es : List Expr} {t : TA}
/-- f(e, ..) -/
theorem pe_callG (G : FnG X.prog X.w X.K X.mg X.base CX0 n f fd ps sp) (hgu : X.A.guards = some []) (hr : Room n X.A) (hg : Gl X x) (hm : X.mg x = some (.ref f)) (hk : PySem.W.keepIn X.K (.ref f) = true) (hb : Binds X.K fd ps [])
    (ha : PA X (e :: es) t) (hdb : (x == ("__debug__" : Str)) = false := by decide) (he : starEach (e :: es) X.env = (false, eval e X.env) :: starEach es X.env := by rfl) (hpl : (backTo pos (starEach es X.env)).any (·.1) = false := by rfl) :
    PE X (.Call (.Name x p) (e :: es) [] pos) (tCall sp [] E0 t) := by
  refine ⟨fun pins s σ H Q I h => ?_⟩
  refine wpAny_Call_Name_kw (ld_glob I hg hm ?_ hdb)
  refine PySem.W.callWith_K (h₀ := X.base) I.ok.mod.kin hk (thn (ha.run pos pins s σ H _ I h) fun us s1 ⟨xs, H1, I1, r, z⟩ => ⟨I1.kIn, ?_⟩) he hpl
  have z : sp (xs ++ []) H1 Q E0 := z
  rw [List.append_nil] at z
  show wpAny _ _ (call (.ref f) us) _ _ _
  have ln : us.length = ps.length := by rw [← r.length]; exact G.len _ _ _ _ z
  have bb := hb s1 us I1.kIn (by rw [List.append_nil]; exact ln)
  rw [List.append_nil] at bb
  refine wpAny_call (codeAny_mono (G.run X.A X.stack s1 H1 ⟨us, []⟩ us xs Q E0 hgu hr I1.env0 bb r z) fun r2 s2 hq => ?_)
  cases r2 with
  | error er => exact False.elim hq
  | ok fl =>
    cases fl with
    | ret u => exact I1.after hq
    | next => exact False.elim hq
    | brk => exact False.elim hq
    | cont => exact False.elim hq
end
end L2
namespace T84
open PySem L2
section
variable {P : Program} {w : World} {K : PySem.W.Frag} {mg : Str → Option Value} {base : Heap} {aDOUBLE C L fI : Addr} {fdI : FuncData}
theorem S__law_pot : FnScope ["script", "k", "cell"] ["script", "k"] (defScope s__law_pot) := ⟨rfl, rfl, rfl, by decide +kernel, rfl, by decide +kernel, by decide +kernel⟩
def sp__law_pot (K : PySem.W.Frag) : Sp := fun vs H Q _ => ∃ (s : Addr) (k : Nat) (ns : List Int), vs = [.ref s, .int (k : Int)] ∧ SqL K H s (ns.map V.int) ∧ ∀ p H', H p = none → Same H H' → PotAt H' p → Q (.ref p) H'
theorem ok__law_pot {f : Addr} {fd : FuncData} (D : FD K mg "_law_pot" s__law_pot ["script", "k"] f fd) (T : Cs K mg aDOUBLE) : FnOk P w K mg base CX0 1 f fd ["script", "k"] (sp__law_pot K) := by
  refine D.fn.ok S__law_pot (fun vs H Q E h => ?_) (fun cdv A outer s H vs Q E hr h => ?_)
  · obtain ⟨a, k, ns, rfl, _⟩ := h
    rfl
  obtain ⟨a, k, ns, rfl, hs, q⟩ := h
  refine ⟨_, (pss_cons (ps_set (i := 2) S__law_pot.nd rfl (Or.inl rfl) (pe_ifExp (pt_cmpR op_lt (pv 1) (pe_callB call_len (by rfl) T.z_len PySem.boot_len (pa_cons (pv 0) pa_nil)) (nomark _)) (pe_callB call_abs (by rfl) T.z_abs (by decide +kernel) (pa_cons (pe_ix ix_list (pv 0) (pv 1) (fun _ _ => rfl)) pa_nil)) (pe_op op_add (pe_op op_mul pe_int (pv 1)) pe_int)))
    (pss_one (ps_ret (pe_lst (pa_cons (pe_callB (call_max2 rfl) (by rfl) T.z_max (by decide +kernel) (pa_cons pe_int (pa_cons (pe_op op_sub (pv 2) (pe_op op_pow pe_int pe_int)) pa_nil))) (pa_cons (pe_op op_add (pe_op op_mod (pe_callTy call_int1 (by rfl) T.z_int (by decide +kernel) (pa_cons (pe_op op_add (pe_op op_add (pe_op op_mul (pe_op op_mod (pe_callTy call_int1 (by rfl) T.z_int (by decide +kernel) (pa_cons (pv 2) pa_nil)) pe_int) pe_int) (pe_op op_mul pe_int (pv 1))) pe_int) pa_nil)) pe_int) pe_int) pa_nil)))))), ?_⟩
  have fin : ∀ c : Int, sp__law_pot K [.ref a, .int (k : Int)] H Q E := fun c => ⟨a, k, ns, rfl, hs, q⟩
  refine ⟨_, rfl, _, rfl, _, _, rfl, .inl ⟨_, hs, rfl⟩, _, _, rfl, rfl, _, rfl, ?_⟩
  by_cases c : (k : Int) < ((ns.map V.int).length : Int)
  · rw [show decide ((k : Int) < ((ns.map V.int).length : Int)) = true from decide_eq_true c]
    have lt : k < ns.length := by rw [List.length_map] at c; omega
    refine ⟨_, rfl, _, rfl, _, _, _, .int ns[k], rfl, rfl, hs, atI_nat (by rw [List.getElem?_map, List.getElem?_eq_getElem lt]; rfl), _, rfl, ?_⟩
    refine ⟨_, rfl, _, _, rfl, rfl, ⟨by decide, by decide, by decide⟩, _, _, rfl, rfl, _, _, rfl, ?_⟩
    refine ⟨_, rfl, .inl ⟨_, rfl, _, _, rfl, rfl, (by show (0 : Int) < 2147483549; decide), _, _, rfl, rfl, .inr ⟨by decide, by decide⟩, _, rfl, _, _, rfl, rfl, .inl ⟨by decide, by decide⟩, _, _, rfl, rfl, _, _, rfl, rfl, .inl ⟨_, rfl, _, _, rfl, rfl, (by show (0 : Int) < 2147483563; decide), _, _, rfl, rfl, ?_⟩⟩⟩
    refine ⟨size2, fun p hp => q p _ hp (Same.new hp _) ⟨_, _, upd_same, by split <;> omega, by omega, ?_⟩⟩
    omega
  · rw [show decide ((k : Int) < ((ns.map V.int).length : Int)) = false from decide_eq_false c]
    refine ⟨_, rfl, _, _, rfl, rfl, .inl ⟨by decide, by decide⟩, _, _, rfl, rfl, ?_⟩
    refine ⟨_, rfl, _, _, rfl, rfl, ⟨by decide, by decide, by decide⟩, _, _, rfl, rfl, _, _, rfl, ?_⟩
    refine ⟨_, rfl, .inl ⟨_, rfl, _, _, rfl, rfl, (by show (0 : Int) < 2147483549; decide), _, _, rfl, rfl, .inr ⟨by decide, by decide⟩, _, rfl, _, _, rfl, rfl, .inl ⟨by decide, by decide⟩, _, _, rfl, rfl, _, _, rfl, rfl, .inl ⟨_, rfl, _, _, rfl, rfl, (by show (0 : Int) < 2147483563; decide), _, _, rfl, rfl, ?_⟩⟩⟩
    refine ⟨size2, fun p hp => q p _ hp (Same.new hp _) ⟨_, _, upd_same, by split <;> omega, by omega, ?_⟩⟩
    omega
end
end T84

/-! zb84 -/
namespace L2
open PySem PySem.Spec PyProof.Rows
section
variable {X : Cx} {CX : CXT} {n : Nat} {f : Addr} {fd : FuncData} {ps ks : List Str} {sp : Sp} {E : XK} {x : Str} {p pos : Pos} {kws : List Keyword} {tk : TA} {g : List Value → List Value → List Value} {gV : List V → List V → List V}
/-- f(k = v, ..) -/
theorem pe_callK0 (F : FnOk X.prog X.w X.K X.mg X.base CX n f fd ps sp) (hr : Room n X.A) (hg : Gl X x) (hm : X.mg x = some (.ref f)) (hk : PySem.W.keepIn X.K (.ref f) = true) (hb : KBinds X.K fd ps ks g gV) (hx : Passes CX X E)
    (hkw : PK X kws tk) (hall : (backToKw pos (keywordEach kws X.env)).all (·.1.isSome) = true := by rfl) (hks : (backToKw pos (keywordEach kws X.env)).filterMap (·.1) = ks := by rfl)
    (hdb : (x == ("__debug__" : Str)) = false := by decide) (hpl : (backToKw pos (keywordEach kws X.env)).any (·.1.isNone) = false := by rfl) :
    PE X (.Call (.Name x p) [] kws pos) (tCallK sp gV E tNil tk) := by
  refine ⟨fun pins s σ H Q I h => ?_⟩
  refine wpAny_Call_Name_kw (ld_glob I hg hm ?_ hdb)
  refine PySem.W.callWith_KW0 (h₀ := X.base) I.ok.mod.kin hk hall ?_ (by first | exact hpl | (show (_ || _) = false; rw [hpl]; rfl))
  refine thn (hkw.run pos pins s σ H _ I h) fun ws s2 ⟨zs, H2, I2, rz, q2⟩ => ?_
  first
    | exact ⟨I2.kIn, by rw [hks]; exact run_fnk (us := []) F hr hb hx I2 .nil rz q2⟩
    | (rw [hks]; exact run_fnk (us := []) F hr hb hx I2 .nil rz q2)
end
end L2
namespace PySem
theorem listText_le : ∀ ts : List Str, (listText ts).length ≤ piled ts + 2
  | [] => by
    rw [listText_nil]
    decide +kernel
  | t :: r => by
    have h := textFrom_length_pos r 1 (("[" : Str) ++ (if (0 : Nat) > 0 then ", " else "" : String) ++ t) (Nat.succ_pos 0)
    have e : (("[" : Str) ++ (if (0 : Nat) > 0 then ", " else "" : String) ++ t).length = 1 + t.length := by
      rw [strLen_append, strLen_append] <;> rfl
    have e1 : (listText (t :: r)).length = (textFrom 1 (("[" : Str) ++ (if (0 : Nat) > 0 then ", " else "" : String) ++ t) r).length + 1 := by
      show (textFrom 0 "[" (t :: r) ++ "]").length = _
      rw [strLen_append] <;> rfl
    rw [e1, h, e, piled_cons]
    omega
end PySem
namespace T84
open PySem L2
/-- the data of a row, or of none -/
def optD : Option (List Nat) → PyData
  | none => .none
  | some es => .list (es.map fun i : Nat => .int (i : Int))
theorem intsD {K : PySem.W.Frag} {H : Hp} : ∀ es : List Nat, DpAll K H (es.map fun i : Nat => V.int (i : Int)) (es.map fun i : Nat => PyData.int (i : Int))
  | [] => .nil
  | e :: es => .cons (.int _) (intsD es)
theorem optD_at {K : PySem.W.Frag} {H : Hp} {v : V} {o : Option (List Nat)} (h : OptRow H v o) : Dp K H v (optD o) := by
  cases o with
  | none =>
    have e : v = .non := h
    rw [e]
    exact .non
  | some es =>
    obtain ⟨a, e, z⟩ := h
    rw [e]
    exact .lst (tL z) (intsD es)
theorem shown_int {i : Nat} (h : i ≤ 3) : (PyData.shown (.int (i : Int))).length = 1 ∧ PyData.showable (.int (i : Int)) = true := by
  have : i = 0 ∨ i = 1 ∨ i = 2 ∨ i = 3 := by omega
  rcases this with rfl | rfl | rfl | rfl <;> exact ⟨by decide +kernel, by decide +kernel⟩
theorem shown_ints : ∀ es : List Nat, (∀ i ∈ es, i ≤ 3) → piled (PyData.shownAll (es.map fun i : Nat => .int (i : Int))) = 3 * es.length ∧ PyData.showableAll (es.map fun i : Nat => .int (i : Int)) = true ∧ PyData.hasDictAll (es.map fun i : Nat => .int (i : Int)) = false ∧ PyData.depthAll (es.map fun i : Nat => .int (i : Int)) ≤ 1
  | [], _ => ⟨rfl, rfl, rfl, by simp [PyData.depthAll]⟩
  | e :: es, h => by
    obtain ⟨a, b, c, d⟩ := shown_ints es fun i hi => h i (List.mem_cons_of_mem _ hi)
    obtain ⟨x, y⟩ := shown_int (h e List.mem_cons_self)
    refine ⟨?_, ?_, ?_, ?_⟩
    · rw [List.map_cons, PyData.shownAll, piled_cons, a, x, List.length_cons]
      omega
    · rw [List.map_cons, PyData.showableAll, y, b]
      rfl
    · rw [List.map_cons, PyData.hasDictAll, PyData.hasDict, c]
      rfl
    · rw [List.map_cons, PyData.depthAll, PyData.depth]
      omega
end T84

/-! zc84 -/
namespace T84
open PySem L2
abbrev s__law_two_right : Stmt := top 67
theorem due_none {ns : List Int} {k l : Kd} (h : ∀ e, k.tsize e = l.tsize e) : dueM ns k l = none := by
  unfold dueM
  rw [List.find?_eq_none]
  intro es _ c
  unfold diff at c
  split at c
  · rename_i a b h1 h2
    have ea := sizeO_is h1
    have eb := sizeO_is h2
    rw [ea, eb, h (ev es), decide_eq_true rfl] at c
    cases c
  · cases c
theorem due_rows {ns : List Int} {k l : Kd} {es : List Nat} (h : dueM ns k l = some es) : es.length = 6 ∧ ∀ x ∈ es, x ≤ 3 := tr_szs ns 6 es (List.mem_of_find?_eq_some h)
theorem lts3 {k l : Kd} {ns : List Int} (hk : k.lets 3) (hl : l.lets 3) (h : Lts (fun j => k.has j ∨ l.has j) ns) : ns.length ≤ 3 :=
  rising_len (lo := 0) (n := 3) h.r fun j hj => by
    rcases (h.m j).mp hj with q | q
    · have := Kd.has_lt hk q
      omega
    · have := Kd.has_lt hl q
      omega
/-- what a row's data shows -/
structure Shw (d : PyData) : Prop where
  s : d.showable = true
  h : d.hasDict = false
  l : d.shown.length ≤ 100
  dp : d.depth ≤ 10
theorem optD_shw {ns : List Int} {k l : Kd} : Shw (optD (dueM ns k l)) := by
  cases e : dueM ns k l with
  | none => exact ⟨rfl, rfl, by decide +kernel, by simp [optD, PyData.depth]⟩
  | some es =>
    obtain ⟨h1, h2⟩ := due_rows e
    obtain ⟨a, b, c, d⟩ := shown_ints es h2
    refine ⟨?_, ?_, ?_, ?_⟩
    · rw [optD, PyData.showable]
      exact b
    · rw [optD, PyData.hasDict]
      exact c
    · show (listText (PyData.shownAll (es.map fun i : Nat => .int (i : Int)))).length ≤ 100
      have := listText_le (PyData.shownAll (es.map fun i : Nat => .int (i : Int)))
      omega
    · rw [optD, PyData.depth]
      omega
theorem two_shw {d : PyData} (h : Shw d) : (PyData.list [d, d]).showable = true ∧ (PyData.list [d, d]).hasDict = false ∧ (PyData.list [d, d]).depth ≤ 60 ∧ (PyData.list [d, d]).shown.length ≤ sizeLine := by
  have h1 := h.s
  have h2 := h.h
  have h3 := h.dp
  have h4 := h.l
  refine ⟨?_, ?_, ?_, ?_⟩
  · rw [PyData.showable, PyData.showableAll, PyData.showableAll, PyData.showableAll, h1]
    rfl
  · rw [PyData.hasDict, PyData.hasDictAll, PyData.hasDictAll, PyData.hasDictAll, h2]
    rfl
  · simp only [PyData.depth, PyData.depthAll]
    omega
  · rw [PyData.shown]
    have := listText_le (PyData.shownAll [d, d])
    rw [PyData.shownAll, PyData.shownAll, PyData.shownAll, piled_cons, piled_cons, piled_nil] at this
    rw [PyData.shownAll, PyData.shownAll, PyData.shownAll]
    exact size1000 (by omega)
def swp {α : Type} : List α → List α
  | [a, b] => [b, a]
  | l => l
section
variable {P : Program} {w : World} {K : PySem.W.Frag} {mg : Str → Option Value} {base : Heap} {aDOUBLE C L fI : Addr} {fdI : FuncData}
theorem S__law_two_right : FnScope ["one", "other", "due"] ["one", "other"] (defScope s__law_two_right) := ⟨rfl, rfl, rfl, by decide +kernel, rfl, by decide +kernel, by decide +kernel⟩
def sp__law_two_right : Sp := fun vs H Q _ => ∃ (x y : V) (k l : Kd), vs = [x, y] ∧ At H x k ∧ At H y l ∧ Two k l ∧ k.lets 3 ∧ l.lets 3 ∧ ∀ H', Same H H' → Q (.bl true) H'
theorem ok__law_two_right {f g1 g2 g3 : Addr} {fd d1 d2 d3 : FuncData} (D__law_two_right : FD K mg "_law_two_right" s__law_two_right ["one", "other"] f fd) (D__law_due : FD K mg "_law_due" s__law_due ["one", "other"] g1 d1) (D_unlike_sizes : FD K mg "unlike_sizes" s_unlike_sizes ["kind", "other"] g2 d2)
    (D_are_alike_kinds : FD K mg "are_alike_kinds" s_are_alike_kinds ["kind", "other"] g3 d3) (T : Cs K mg aDOUBLE) (KB : KBinds K d2 ["kind", "other"] ["other", "kind"] (fun us ws => us ++ swp ws) (fun vs zs => vs ++ swp zs))
    (G__law_due : FnOk P w K mg base CX0 15 g1 d1 ["one", "other"] sp__law_due) (G_unlike_sizes : FnOk P w K mg base (L2.CX P w) 18 g2 d2 ["kind", "other"] (sp_unlike_sizes C)) (G_are_alike_kinds : FnOk P w K mg base CX0 18 g3 d3 ["kind", "other"] sp_are_alike_kinds) :
    FnG P w K mg base CX0 19 f fd ["one", "other"] sp__law_two_right := by
  refine D__law_two_right.fn.okG S__law_two_right (fun vs H Q E h => ?_) (fun cdv A outer s H vs Q E hg hr h => ?_)
  · obtain ⟨x, y, k, l, rfl, _⟩ := h
    rfl
  obtain ⟨x, y, k, l, rfl, hx, hy, tw, lk, ll, q⟩ := h
  refine ⟨_, (pss_cons (ps_set (i := 2) S__law_two_right.nd rfl (Or.inl rfl) (pe_call G__law_due (hr.mono (by omega)) rfl D__law_due.m D__law_due.fn.kp D__law_due.b .nil pass0 (pa_cons (pv 0) (pa_cons (pv 1) pa_nil))))
    (pss_cons (ps_if (pt_cmpR op_ne (pe_callB (cr_reprD (by exact hg) hr.units) (by rfl) T.z_repr (by decide +kernel) (pa_cons (pe_lst (pa_cons (pe_call G_unlike_sizes hr rfl D_unlike_sizes.m D_unlike_sizes.fn.kp D_unlike_sizes.b .nil passL (pa_cons (pv 0) (pa_cons (pv 1) pa_nil))) (pa_cons (pe_callK0 G_unlike_sizes hr rfl D_unlike_sizes.m D_unlike_sizes.fn.kp KB passL (pk_cons (pv 1) (pk_cons (pv 0) pk_nil))) pa_nil))) pa_nil)) (pe_callB (cr_reprD (by exact hg) hr.units) (by rfl) T.z_repr (by decide +kernel) (pa_cons (pe_lst (pa_cons (pv 2) (pa_cons (pv 2) pa_nil))) pa_nil)) (nomark _)) (pss_one (ps_ret pe_bl)) pss_nil)
    (pss_one (ps_ret (pe_or (pe_cmpR op_isN (pv 2) pe_non (nomark _)) (pe_one (pe_not (pe_call G_are_alike_kinds hr rfl D_are_alike_kinds.m D_are_alike_kinds.fn.kp D_are_alike_kinds.b .nil pass0 (pa_cons (pv 0) (pa_cons (pv 1) pa_nil)))))))))), ?_⟩
  refine ⟨_, rfl, _, rfl, x, y, k, l, rfl, hx, hy, tw.g.l, tw.h.l, tw.g.d, tw.h.d, fun ns v0 H1 l0 e1 r0 => ?_⟩
  have eq : ∀ {ms : List Int}, Lts (fun j => k.has j ∨ l.has j) ms → dueM ms k l = dueM ns k l := fun lm => due_congr fun j => (lm.m j).trans (l0.m j).symm
  refine ⟨_, rfl, _, rfl, x, y, k, l, rfl, hx.same e1, hy.same e1, tw, fun ms lm l3 v1 H2 e2 r1 => ?_, fun ms lm l3 => absurd (lts3 lk ll lm) (by omega)⟩
  have e12 := e1.trans e2
  refine ⟨_, rfl, _, rfl, x, y, k, l, rfl, hx.same e12, hy.same e12, tw, fun ms2 lm2 l32 v2 H3 e3 r2 => ?_, fun ms lm l3 => absurd (lts3 lk ll lm) (by omega)⟩
  have e13 := e12.trans e3
  rw [eq lm] at r1
  rw [eq lm2] at r2
  refine ⟨size2, fun p hp => ?_⟩
  have f4 := Same.new hp (.lst [v1, v2])
  have sh := two_shw (optD_shw (ns := ns) (k := k) (l := l))
  refine ⟨p, .list [optD (dueM ns k l), optD (dueM ns k l)], rfl, .lst (tL upd_same) (.cons (optD_at (r1.same (e3.trans f4))) (.cons (optD_at (r2.same f4)) .nil)), sh.1, sh.2.1, sh.2.2.1, sh.2.2.2, ?_⟩
  refine ⟨_, rfl, _, rfl, size2, fun p2 hp2 => ?_⟩
  have f5 := Same.new hp2 (.lst [v0, v0])
  have f15 := (e2.trans e3).trans (f4.trans f5)
  have r0' := r0.same f15
  refine ⟨p2, .list [optD (dueM ns k l), optD (dueM ns k l)], rfl, .lst (tL upd_same) (.cons (optD_at r0') (.cons (optD_at r0') .nil)), sh.1, sh.2.1, sh.2.2.1, sh.2.2.2, ?_⟩
  refine ⟨rfl, _, rfl, iteFe (by rw [decide_eq_true rfl]; rfl) ?_⟩
  have e15 := e1.trans f15
  refine ⟨_, rfl, rfl, ?_⟩
  cases e : dueM ns k l with
  | none =>
    rw [e] at r0'
    have ev0 : v0 = .non := r0'
    subst ev0
    exact ⟨_, rfl, iteT (q _ e15)⟩
  | some es =>
    rw [e] at r0'
    obtain ⟨a0, ev0, _⟩ := r0'
    subst ev0
    refine ⟨_, rfl, iteF ?_⟩
    refine ⟨_, rfl, _, rfl, x, y, k, l, rfl, hx.same e15, hy.same e15, tw, fun b H6 e6 hb => ?_⟩
    cases b with
    | true =>
      rw [due_none (hb rfl)] at e
      cases e
    | false => exact ⟨_, rfl, q _ (e15.trans e6)⟩
end
end T84

/-! zd84 -/
namespace T84
open PySem L2
abbrev s__law_heard : Stmt := top 66
/-- what _law_heard makes of what it got -/
def TTH (C : Addr) : (XK → Hp → VK → Prop) → Hp → VK → Prop := fun tl H Q =>
  tl (fun cls d H' => cls = .ref C ∧ ∃ (dd : Addr) (x : V) (i : Int), d = some dd ∧ H' dd = some (.xd [("limit", .int i), ("what", x)]) ∧ ∀ p, H' p = none → Q (.ref p) (upd H' p (.lst [x, .int i]))) H (fun v H' => ∃ u : V, (some (some v) : Option (Option V)) = some (some u) ∧ Q u H')
theorem S__law_heard : FnScope ["call", "told", "e"] ["call"] (defScope s__law_heard) := ⟨rfl, rfl, rfl, by decide +kernel, rfl, by decide +kernel, by decide +kernel⟩
theorem takes_len {X : Cx} {W : WX} {n : Nat} (tk : Takes X W) (hn : X.N.length = n) : Takes X (fun cls d σ H => σ.length = n → W cls d σ H) := fun u s' x => by
  obtain ⟨a, B, sI, pins, σ, H, cls, d, rfl, I, nb, up, sky, na, os, ag, z⟩ := x
  exact tk _ _ ⟨a, B, sI, pins, σ, H, cls, d, rfl, I, nb, up, sky, na, os, ag, z (I.len.trans hn)⟩
theorem heard_gives {X : Cx} {C L fI g : Addr} {fdI : FuncData} {cdg : Value} {q : Str} (M : Tm X.K X.mg C L fI fdI) :
    LamX.GivesTo X ["call", "told", "e"] "_law_heard" (defScope s__law_heard) g cdg (defBody s__law_heard) "call" q (TTH C) := by
  intro f c' s H Q tl act hc h
  refine ⟨_, pss_cons (ps_set (i := 1) S__law_heard.nd rfl (Or.inl rfl) pe_non) (pss_cons (ps_try_as (i := 2) (c := .ref C)
      (tb := fun W D σ H => ∃ Ech : XK, (∀ cls d σ' H', Ech cls d H' → σ'.length = 3 → W cls d σ' H') ∧ σ[0]? = some (some (.ref f)) ∧ H c' = some (LamX.CodeO c' q) ∧ tl Ech H (fun v H' => D.nx (σ.set 1 (some v)) H'))
      (ts := fun a cls d => tAsg (tLst (tCons (tXf a cls d C "what" (tVar 2)) (tCons (tXf a cls d C "limit" (tVar 2)) tNil))) (gName 1)) (Wout := fun _ _ _ _ => False)
      rfl rfl S__law_heard.nd rfl rfl ⟨rfl, by decide, .inl M.gC⟩ L2.takes0 (fun W pn xe tk _ => ?_)
      (fun a oe cls d pn hz hf => pss_one (ps_set (i := 1) S__law_heard.nd rfl (Or.inl rfl) (pe_lst (pa_cons (pe_xf M.xf M.nw hz hf (pv 2)) (pa_cons (pe_xf M.xf M.nl hz hf (pv 2)) pa_nil))))))
    (pss_one (ps_ret (pv 1)))), ?_⟩
  · refine ⟨fun pins s' σ H' D I h' => ?_⟩
    obtain ⟨Ech, hW, h1, h2, h3⟩ := h'
    exact (pss_one (ps_set (i := 1) S__law_heard.nd rfl (Or.inl rfl) (act (fun cls d σ H => σ.length = 3 → W cls d σ H) pn xe Ech _ _ (takes_len tk rfl) hW))).run pins s' σ H' D I ⟨h1, h2, h3⟩
  · refine ⟨fun cls d H' => cls = .ref C ∧ ∃ (dd : Addr) (x : V) (i : Int), d = some dd ∧ H' dd = some (.xd [("limit", .int i), ("what", x)]) ∧ ∀ p, H' p = none → Q (.ref p) (upd H' p (.lst [x, .int i])), ?_, rfl, hc, ?_⟩
    · rintro cls d σ' H' ⟨rfl, dd, x, i, rfl, hd, k⟩ hl
      refine ⟨true, M.eC, fun _ a ha => ?_, fun z => Bool.noConfusion z⟩
      match σ', hl with
      | [u1, u2, u3], _ =>
        refine ⟨_, rfl, rfl, rfl, dd, _, x, rfl, hd, rfl, ?_⟩
        refine ⟨_, rfl, rfl, rfl, dd, _, .int i, rfl, hd, rfl, ?_⟩
        refine ⟨size2, fun p hp => ?_⟩
        exact ⟨_, rfl, k p hp⟩
    · exact h
end T84

/-! ze84 -/
namespace T84
open PySem L2
theorem rising_sub : ∀ {ys xs : List Int}, xs.Pairwise (· < ·) → ys.Pairwise (· < ·) → (∀ j ∈ xs, j ∈ ys) → xs.length ≤ ys.length
  | [], [], _, _, _ => Nat.le_refl _
  | [], x :: xs, _, _, h => by
    have := h x List.mem_cons_self
    simp at this
  | y :: ys, [], _, _, _ => Nat.zero_le _
  | y :: ys, x :: xs, h1, h2, h => by
    rw [List.pairwise_cons] at h1 h2
    by_cases c : x = y
    · have := rising_sub h1.2 h2.2 fun j hj => by
        have lt := h1.1 j hj
        rcases List.mem_cons.mp (h j (List.mem_cons_of_mem _ hj)) with e | e
        · omega
        · exact e
      rw [List.length_cons, List.length_cons]
      omega
    · have hx : x ∈ ys := by
        rcases List.mem_cons.mp (h x List.mem_cons_self) with e | e
        · exact absurd e c
        · exact e
      have lx := h2.1 x hx
      have := rising_sub (ys := ys) (xs := x :: xs) (List.pairwise_cons.mpr h1) h2.2 fun j hj => by
        rcases List.mem_cons.mp hj with e | e
        · rw [e]
          exact hx
        · have lt := h1.1 j e
          rcases List.mem_cons.mp (h j hj) with z | z
          · omega
          · exact z
      rw [List.length_cons (a := y)]
      omega
def four (x : Nat) : Kd := .pair (.pair (.let_ 0) (.let_ 3)) (.fn (.let_ 4) (.let_ x))
theorem four_len {ns : List Int} {x : Nat} (hx : x = 1 ∨ x = 2 ∨ x = 5) (h : Lts (fun j => (four x).has j ∨ Kd.one.has j) ns) : 3 < ns.length := by
  have m : ∀ j : Int, j = 0 ∨ j = 3 ∨ j = 4 ∨ j = x → j ∈ ns := fun j hj => (h.m j).mpr (.inl (by
    unfold four
    simp only [Kd.has]
    rcases hj with e | e | e | e <;> simp [e]))
  rcases hx with rfl | rfl | rfl
  · have := rising_sub (xs := [0, 1, 3, 4]) (by decide) h.r fun j hj => m j (by simp at hj; omega)
    exact this
  · have := rising_sub (xs := [0, 2, 3, 4]) (by decide) h.r fun j hj => m j (by simp at hj; omega)
    exact this
  · have := rising_sub (xs := [0, 3, 4, 5]) (by decide) h.r fun j hj => m j (by simp at hj; omega)
    exact this
def four2 : Kd := .pair (.let_ 0) (.pair (.let_ 1) (.let_ 2))
theorem four2_len {ns : List Int} (h : Lts (fun j => (Kd.let_ 5).has j ∨ four2.has j) ns) : 3 < ns.length := by
  have m : ∀ j : Int, j = 0 ∨ j = 1 ∨ j = 2 ∨ j = 5 → j ∈ ns := fun j hj => (h.m j).mpr (by
    unfold four2
    simp only [Kd.has]
    rcases hj with e | e | e | e <;> simp [e])
  have := rising_sub (xs := [0, 1, 2, 5]) (by decide) h.r fun j hj => m j (by simp at hj; omega)
  exact this
theorem four_two {x : Nat} (h : x < 6) : Two (four x) .one := by
  unfold four
  refine ⟨⟨⟨⟨by show 0 < 6; omega, by show 3 < 6; omega⟩, by show 4 < 6; omega, h⟩, by simp [Kd.depth], by simp [Kd.signs]⟩, ⟨trivial, by simp [Kd.depth], by simp [Kd.signs]⟩, by simp [Kd.signs], by simp [Kd.signs]⟩
theorem four2_two : Two (.let_ 5) four2 := by
  unfold four2
  refine ⟨⟨by show 5 < 6; omega, by simp [Kd.depth], by simp [Kd.signs]⟩, ⟨⟨by show 0 < 6; omega, by show 1 < 6; omega, by show 2 < 6; omega⟩, by simp [Kd.depth], by simp [Kd.signs]⟩, by simp [Kd.signs], by simp [Kd.signs]⟩
theorem lets_more {m n : Nat} (h : m ≤ n) : ∀ {k : Kd}, k.lets m → k.lets n
  | .let_ i, q => Nat.lt_of_lt_of_le q h
  | .one, _ => trivial
  | .pair a b, q => ⟨lets_more h q.1, lets_more h q.2⟩
  | .fn a b, q => ⟨lets_more h q.1, lets_more h q.2⟩
/-- kinds of three letters that are small enough -/
theorem two_of {k l : Kd} (hk : k.lets 3) (hl : l.lets 3) (dk : k.depth ≤ 12) (dl : l.depth ≤ 12) (sk : k.signs ≤ 21) (sl : l.signs ≤ 21) : Two k l :=
  ⟨⟨lets_more (by omega) hk, dk, by omega⟩, ⟨lets_more (by omega) hl, dl, by omega⟩, sk, sl⟩
end T84

/-! zf84 -/
namespace T84
open PySem L2
abbrev s_law : Stmt := top 70
abbrev s__law_right : Stmt := top 69
/-- all but a and the tables stay -/
def ExtA (a : Addr) (H H' : Hp) : Prop := ∀ b o, b ≠ a → H b = some o → (∀ ps, o ≠ .tbl ps) → H' b = some o
theorem extN_of {a : Addr} {H H1 H2 : Hp} (e : Same H H1) (n : H a = none) (k : ExtA a H1 H2) : LamX.ExtN H H2 := fun b o h t => k b o (ne_of_none h n) (e _ _ h) t
theorem sqL_ext {K : PySem.W.Frag} {H H' : Hp} {a : Addr} {xs : List V} (e : LamX.ExtN H H') (h : SqL K H a xs) : SqL K H' a xs := by
  rcases h with (h | ⟨o, h⟩) | h
  · exact .inl (.inl (e _ _ h fun ps z => by cases z))
  · exact .inl (.inr ⟨o, e _ _ h fun ps z => by cases z⟩)
  · exact .inr h
theorem tabs_upd {TB : List (Addr × Str)} {H : Hp} {D : Addr} {xs : List V} {o : HO} (t : LamX.Tabs TB H) (h : H D = some (.lst xs)) : LamX.Tabs TB (upd H D o) := fun p hp => by
  obtain ⟨ps, h1, h2, h3⟩ := t p hp
  refine ⟨ps, by rw [upd_ne (fun z => by rw [z, h] at h1; cases h1)]; exact h1, h2, fun pos cv hc => ?_⟩
  obtain ⟨c, e1, e2⟩ := h3 pos cv hc
  refine ⟨c, e1, ?_⟩
  rw [upd_ne (fun z => by rw [z, h] at e2; cases e2)]
  exact e2
section
variable {P : Program} {w : World} {K : PySem.W.Frag} {mg : Str → Option Value} {base : Heap} {aDOUBLE C L fI : Addr} {fdI : FuncData} {TB : List (Addr × Str)}
def sp__law_right (TB : List (Addr × Str)) : Sp := fun vs H Q _ => ∃ a : Addr, vs = [.ref a] ∧ PotAt H a ∧ LamX.Tabs TB H ∧ ∀ H', ExtA a H H' → LamX.Tabs TB H' → Q (.bl true) H'
theorem S_law : FnScope ["script", "k"] ["script"] (defScope s_law) := ⟨rfl, rfl, rfl, by decide +kernel, rfl, by decide +kernel, by decide +kernel⟩
def sp_law (K : PySem.W.Frag) (TB : List (Addr × Str)) : Sp := fun vs H Q _ => ∃ (a : Addr) (ns : List Int), vs = [.ref a] ∧ SqL K H a (ns.map V.int) ∧ LamX.Tabs TB H ∧ ∀ H', Q (.bl true) H'
theorem ok_law {n : Nat} {f g1 g2 : Addr} {fd d1 d2 : FuncData} (D_law : FD K mg "law" s_law ["script"] f fd) (D__law_right : FD K mg "_law_right" s__law_right ["pot"] g1 d1) (D__law_pot : FD K mg "_law_pot" s__law_pot ["script", "k"] g2 d2) (T : Cs K mg aDOUBLE)
    (hn : 1 ≤ n) (G__law_right : FnG P w K mg base CX0 n g1 d1 ["pot"] (sp__law_right TB)) (G__law_pot : FnOk P w K mg base CX0 1 g2 d2 ["script", "k"] (sp__law_pot K)) : FnG P w K mg base CX0 (n + 1) f fd ["script"] (sp_law K TB) := by
  refine D_law.fn.okG S_law (fun vs H Q E h => ?_) (fun cdv A outer s H vs Q E hg hr h => ?_)
  · obtain ⟨a, ns, rfl, _⟩ := h
    rfl
  obtain ⟨a, ns, rfl, ha, ht, q⟩ := h
  refine ⟨_, (pss_one (ps_ret (pe_callB (cr_all rfl) (by rfl) T.z_all (by decide +kernel) (pa_cons (pe_lc (own := [("k", 1)]) (g := (gName 1)) (tt := tYes) (te := (tCall _ [] _ (tCons (tCall _ [] _ (tCons (tVar 0) (tCons (tVar 1) tNil))) tNil))) (by rfl) S_law.nd (pi_range1 rfl T.z_range (pa_cons (pe_callB (call_max2 rfl) (by rfl) T.z_max (by decide +kernel) (pa_cons pe_int (pa_cons (pe_callB (call_min2 rfl) (by rfl) T.z_min (by decide +kernel) (pa_cons pe_int (pa_cons (pe_callB call_len (by rfl) T.z_len PySem.boot_len (pa_cons (pv 0) pa_nil)) pa_nil))) pa_nil))) pa_nil)) (blkOk_by (own := [("k", 1)]) (N := ["script", "k"]) (sc := defScope s_law) (by decide +kernel)) (fun _ _ _ _ _ => (pg_name (i := 1) S_law.nd rfl (Or.inl rfl))) (fun _ _ _ _ _ => pts_nil) (fun _ _ _ _ _ => (pe_callG G__law_right (by exact hg) hr rfl D__law_right.m D__law_right.fn.kp D__law_right.b (pa_cons (pe_call G__law_pot (hr.mono (by omega)) rfl D__law_pot.m D__law_pot.fn.kp D__law_pot.b .nil pass0 (pa_cons (pv 0) (pa_cons (pv 1) pa_nil))) pa_nil)))) pa_nil)))), ?_⟩
  refine ⟨_, rfl, _, _, rfl, .inl ⟨_, ha, rfl⟩, _, _, rfl, _, _, rfl, _, rfl, ?_, ?_, fun D hD => ?_⟩
  · split <;> split <;> omega
  · split <;> split <;> omega
  · refine lc_range (fun i H1 => LamX.ExtN H H1 ∧ LamX.Tabs TB H1 ∧ ∃ ys, H1 D = some (.lst ys) ∧ ys = (List.replicate i true).map V.bl) ⟨LamX.ExtN.of (Same.new hD _), ht.ext (Same.new hD _), [], upd_same, rfl⟩ ?_ ?_
    · rintro i H1 hi ⟨e1, t1, ys, hy, ey⟩
      refine ⟨rfl, ?_⟩
      have ha1 := sqL_ext e1 ha
      refine ⟨_, rfl, _, rfl, a, i, ns, by rw [Int.zero_add]; rfl, ha1, fun p H2 hp e2 p2 => ?_⟩
      refine ⟨p, rfl, p2, t1.ext e2, fun H3 e3 t3 => ?_⟩
      have e13 := extN_of e2 hp e3
      have hy3 := e13 _ _ hy (fun ps z => by cases z)
      refine ⟨ys, hy3, ?_, ?_, ?_, ys ++ [.bl true], upd_same, ?_⟩
      · rw [ey, List.length_map, List.length_replicate]
        refine Nat.lt_of_lt_of_le (m := 1000) ?_ (size1000 (Nat.le_refl _))
        split at hi <;> split at hi <;> omega
      · exact fun b o h z => by rw [upd_ne (ne_of_none h hD)]; exact (e1.trans e13) b o h z
      · exact tabs_upd t3 hy3
      · rw [ey, List.replicate_succ', List.map_append]
        rfl
    · rintro H1 ⟨e1, t1, ys, hy, ey⟩
      subst ey
      refine ⟨D, _, rfl, tL hy, ?_⟩
      have al : ∀ m, (List.replicate m true).all id = true := fun m => by simp
      exact blq (Q := Q) (al _) (q H1)
end
end T84

/-! zg84 -/
namespace L2
open PySem PySem.Spec PyProof.Rows
section
variable {CX : CXT} {P : Program} {w : World} {K : PySem.W.Frag} {mg : Str → Option Value} {base : Heap} {n : Nat} {f : Addr} {fd : FuncData} {N ps : List Str} {sp : Sp}
/-- as Fun.okG, and the code object is told -/
theorem Fun.okGc {x q : Str} {st : Stmt} (F : Fun K x q st f fd) (S : FnScope N ps (defScope st)) (len : ∀ xs H Q E, sp xs H Q E → xs.length = ps.length)
    (body : ∀ (cdv : Value) (A : Around) (out : List Env) (s : Shared) (H : Hp) (xs : List V) (Q : VK) (E : XK), fd.code = cdv → A.guards = some [] → Room n (A.deeper (envOfC q (defScope st) s.heap.objs.size f cdv)) → sp xs H Q E →
      ∃ t, PSs (cxOf CX0 P w K mg base N q (defScope st) f cdv A out s H E) (defBody st) t ∧ t { nx := fun _ H' => Q .non H', rt := Q } (start N xs) H) : FnG P w K mg base CX0 (n + 1) f fd ps sp := by
  obtain ⟨oc, od, kV, doc, pm, an, cdv, ct, osl, rfl, lk, hcd⟩ := F.ex
  refine ⟨len, fun A out s H ar us xs Q E hg hr e0 hb r hsp => ?_⟩
  have ln := len _ _ _ _ hsp
  have kx : K.In s.heap := e0.mod.kin.keeps fun b o z => (e0.bs b o z).1
  have nl : s.heap.NoLimit := e0.mod.nolimit.keeps fun b o z => (e0.bs b o z).1
  have kd : ∀ y ∈ ps.zip us, (defScope st).names.lookup y.1 = some .local ∨ ((defScope st).names.lookup y.1 = some .cell ∧ ((cellsFrom (s.heap.objs.size + 1) (defScope st).names []).lookup y.1).isSome = true) := fun ⟨z, v⟩ hy => by
    rcases S.par z (List.of_mem_zip hy).1 with c | c
    · exact .inl c
    · exact .inr ⟨c, PySem.W.cellsFrom_some _ _ _ (.inl c)⟩
  refine codeAny_call_function hr.depth (kx _ _ lk) rfl S.co S.gen rfl (PySem.W.codeRec_of kx hcd) (hb _ _ _ _ ?_)
  refine wpAny_newFunctionEnv_cells S.kind kd fun env he s1 x1 => ?_
  subst he
  refine ⟨nl.keeps x1.toInCall.keep, codeAny_func ?_⟩
  obtain ⟨t, ht, hq⟩ := body cdv A out s H xs Q E rfl hg (hr.deeper _) hsp
  have I : Inv (cxOf CX0 P w K mg base N q (defScope st) f cdv A out s H E) [] (start N xs) H s1 := inv_start S hr.hd e0 ln r x1
  refine wpAny_mono (ht.run [] s1 (start N xs) H _ I hq) (fun fl s2 hs => ?_) fun e s2 hs => hs
  cases fl with
  | ret u =>
    obtain ⟨v, σ2, H2, J, rv, z⟩ := hs
    exact ⟨v, H2, J.os, J.bare, J.base, J.hok, rv, z⟩
  | next =>
    obtain ⟨σ2, H2, J, z⟩ := hs
    exact ⟨.non, H2, J.os, J.bare, J.base, J.hok, rfl, z⟩
  | brk =>
    obtain ⟨_, _, _, z⟩ := hs
    exact False.elim z
  | cont =>
    obtain ⟨_, _, _, z⟩ := hs
    exact False.elim z
end
end L2

/-! zh84 -/
namespace T84
open PySem L2
section
variable {P : Program} {w : World} {K : PySem.W.Frag} {mg : Str → Option Value} {base : Heap} {aDOUBLE C L fI : Addr} {fdI : FuncData} {TB : List (Addr × Str)}
theorem S__law_right : FnScope ["pot", "turn", "one", "other", "four", "told"] ["pot"] (defScope s__law_right) := ⟨rfl, rfl, rfl, by decide +kernel, rfl, by decide +kernel, by decide +kernel⟩
/-- one turn of the loop: all but the pot stays -/
def Turn (a : Addr) (H0 : Hp) (TB : List (Addr × Str)) (H : Hp) : Prop := Keep a H0 H ∧ PotAt H a
theorem tabs_keep {a : Addr} {H H' : Hp} (p : PotAt H a) (k : Keep a H H') (t : LamX.Tabs TB H) : LamX.Tabs TB H' := fun q hq => by
  obtain ⟨x, y, r, _⟩ := p
  obtain ⟨ps, h1, h2, h3⟩ := t q hq
  refine ⟨ps, k _ _ (fun z => by rw [z, r] at h1; cases h1) h1, h2, fun pos cv hc => ?_⟩
  obtain ⟨c, e1, e2⟩ := h3 pos cv hc
  exact ⟨c, e1, k _ _ (fun z => by rw [z, r] at e2; cases e2) e2⟩
end
end T84

/-! zi84 -/
namespace T84
open PySem L2
/-- the lambdas' name -/
abbrev lamName : Str := (PyProof.Rows.envOfC "_law_right" (defScope s__law_right) 0 0 .none).qual ++ "<lambda>"
/-- the n-th statement of _law_right -/
def rightStmt (n : Nat) : Stmt := (defBody s__law_right).getD n (.Pass ⟨0, 0, 0, 0⟩)
section
variable {P : Program} {w : World} {K : PySem.W.Frag} {mg : Str → Option Value} {base : Heap} {C L fI : Addr} {fdI : FuncData} {TB : List (Addr × Str)}
/-- told = [_law_heard(lambda: ..)] -/
theorem right_lam1 {f gH g1 c Pt : Addr} {dH d1 : FuncData} {cdv : Value} {A : Around} {outer : List Env} {s : Shared} {H : Hp} {E : XK} (hr : Room 20 (A.deeper (PyProof.Rows.envOfC "_law_right" (defScope s__law_right) s.heap.objs.size f cdv)))
    (M : Tm K mg C L fI fdI) (D__law_heard : FD K mg "_law_heard" s__law_heard ["call"] gH dH) (D_unlike_sizes : FD K mg "unlike_sizes" s_unlike_sizes ["kind", "other"] g1 d1) (G_unlike_sizes : FnOk P w K mg base (L2.CX P w) 18 g1 d1 ["kind", "other"] (sp_unlike_sizes C))
    (TBb : LamX.TabB base mg c Pt) (hc : cdv = .ref c) (hm : (Pt, lamName) ∈ TB) (hu : ∀ p ∈ TB, p.1 = Pt → p.2 = lamName) :
    ∃ t, PS (cxOf CX0 P w K mg base ["pot", "turn", "one", "other", "four", "told"] "_law_right" (defScope s__law_right) f cdv A outer s H E) (rightStmt 2) t := by
  subst hc
  obtain ⟨oc, od, kV, doc, pm, an, cdh, ct, osl, rfl, lk, hcd⟩ := D__law_heard.fn.ex
  refine ⟨_, ps_set (i := 5) S__law_right.nd rfl (Or.inl rfl) (pe_lst (pa_cons (LamX.pe_lamcall (T := TB) (TT := TTH C) (c := c) (P := Pt) (k := 18) (a := "call") (t := fun E => tCallS (sp_unlike_sizes C) (fun σ => WE (fun cls d _ H => E cls d H) σ) (tCons (tVar 4) (tCons (tTup (tCons (tC (.str "one")) tNil)) tNil)))
    rfl D__law_heard.m D__law_heard.fn.kp lk hcd D__law_heard.b S__law_heard rfl (Or.inl rfl) (heard_gives M) TBb rfl ?h1 ?h2 hr (LamX.lamS_by (by show LamX.lamSB (defScope s__law_right) _ = true; decide +kernel)) rfl (fun _ _ _ _ _ => rfl)
    (fun A o s H E f c' hr => pe_callS G_unlike_sizes hr rfl D_unlike_sizes.m D_unlike_sizes.fn.kp D_unlike_sizes.b (fun σ => passAt (takes_of rfl rfl rfl rfl) σ) (pa_cons (pv 4) (pa_cons (pe_tup (pa_cons pe_str pa_nil)) pa_nil)))) pa_nil))⟩
  case h1 => exact hm
  case h2 => exact hu
end
end T84

/-! zk84 -/
namespace T84
open PySem L2
section
variable {P : Program} {w : World} {K : PySem.W.Frag} {mg : Str → Option Value} {base : Heap} {aDOUBLE C L fI : Addr} {fdI : FuncData} {TB : List (Addr × Str)}
theorem pot_ext {H H' : Hp} {a : Addr} (p : PotAt H a) (e : LamX.ExtN H H') : PotAt H' a := let ⟨x, y, r, q⟩ := p; ⟨x, y, e _ _ r (fun ps z => by cases z), q⟩
theorem pot_none {H : Hp} {a b : Addr} (p : PotAt H a) (h : H b = none) : b ≠ a := fun z => by
  obtain ⟨x, y, r, _⟩ := p
  rw [z, r] at h
  cases h
theorem pot_tup {H : Hp} {a b : Addr} {xs : List V} (p : PotAt H a) (h : H b = some (.tup xs)) : b ≠ a := fun z => by
  obtain ⟨x, y, r, _⟩ := p
  rw [z, r] at h
  cases h
theorem ExtA.trans {a : Addr} {H H1 H2 : Hp} (e : ExtA a H H1) (f : ExtA a H1 H2) : ExtA a H H2 := fun b o n h t => f b o n (e b o n h t) t
theorem extA_same {a : Addr} {H H' : Hp} (e : Same H H') : ExtA a H H' := fun b o _ h _ => e b o h
theorem extA_keep {a : Addr} {H H' : Hp} (e : Keep a H H') : ExtA a H H' := fun b o n h _ => e b o n h
theorem extA_ext {a : Addr} {H H' : Hp} (e : LamX.ExtN H H') : ExtA a H H' := fun b o _ h t => e b o h t
theorem at_ext {H H' : Hp} (e : LamX.ExtN H H') {v : V} {k : Kd} (h : At H v k) : At H' v k := h.move fun a xs q => e _ _ q fun ps z => by cases z
theorem ok__law_right {f g1 g2 g3 g4 g5 g6 g7 c Pt : Addr} {fd d1 d2 d3 d4 d5 d6 d7 : FuncData} (D__law_right : FD K mg "_law_right" s__law_right ["pot"] f fd) (D__law_two : FD K mg "_law_two" s__law_two ["pot", "most"] g1 d1) (D_unlike_sizes : FD K mg "unlike_sizes" s_unlike_sizes ["kind", "other"] g2 d2)
    (D__law_two_right : FD K mg "_law_two_right" s__law_two_right ["one", "other"] g3 d3) (D__law_otherwise : FD K mg "_law_otherwise" s__law_otherwise ["pot", "kind"] g4 d4) (D__law_pure : FD K mg "_law_pure" s__law_pure ["pot", "fuel"] g5 d5) (D__law_pick : FD K mg "_law_pick" s__law_pick ["pot", "some"] g6 d6)
    (D__law_heard : FD K mg "_law_heard" s__law_heard ["call"] g7 d7) (T : Cs K mg aDOUBLE) (M : Tm K mg C L fI fdI) (TBb : LamX.TabB base mg c Pt) (hc : fd.code = .ref c) (hm : (Pt, lamName) ∈ TB) (hu : ∀ p ∈ TB, p.1 = Pt → p.2 = lamName)
    (G__law_two : FnOk P w K mg base CX0 13 g1 d1 ["pot", "most"] sp__law_two) (G_unlike_sizes : FnOk P w K mg base (L2.CX P w) 18 g2 d2 ["kind", "other"] (sp_unlike_sizes C)) (G__law_two_right : FnG P w K mg base CX0 19 g3 d3 ["one", "other"] sp__law_two_right)
    (G__law_otherwise : FnOk P w K mg base CX0 15 g4 d4 ["pot", "kind"] (sp__law_otherwise 10)) (G__law_pure : FnOk P w K mg base CX0 6 g5 d5 ["pot", "fuel"] (sp__law_pure 2)) (G__law_pick : FnOk P w K mg base CX0 2 g6 d6 ["pot", "some"] sp__law_pick) :
    FnG P w K mg base CX0 21 f fd ["pot"] (sp__law_right TB) := by
  refine D__law_right.fn.okGc S__law_right (fun vs H Q E h => ?_) (fun cdv A outer s H vs Q E hcv hg hr h => ?_)
  · obtain ⟨a, rfl, _⟩ := h
    rfl
  obtain ⟨a, rfl, hp, ht, q⟩ := h
  rw [hc] at hcv
  subst hcv
  obtain ⟨oc, od, kV, doc, pm, an, cdh, ct, osl, rfl, lk, hcd⟩ := D__law_heard.fn.ex
  refine ⟨_, (pss_cons (ps_for (passes_of rfl) rfl (pi_range1 rfl T.z_range (pa_cons pe_int pa_nil)) (pg_name (i := 1) S__law_right.nd rfl (Or.inl rfl)) (pss_cons (ps_asg (pe_call G__law_two (hr.mono (by omega)) rfl D__law_two.m D__law_two.fn.kp D__law_two.b .nil pass0 (pa_cons (pv 0) (pa_cons pe_int pa_nil))) (pg_tup rfl (pgs_cons (pg_name (i := 2) S__law_right.nd rfl (Or.inl rfl)) (pgs_cons (pg_name (i := 3) S__law_right.nd rfl (Or.inl rfl)) pgs_nil))))
    (pss_cons (ps_if (PW.pt (pw_or (pt_cmpR op_notN (pe_call G_unlike_sizes (hr.mono (by omega)) rfl D_unlike_sizes.m D_unlike_sizes.fn.kp D_unlike_sizes.b .nil passL (pa_cons (pv 2) (pa_cons (pv 3) pa_nil))) pe_non (nomark _)) (pw_or1 (pt_not (pt_val (pe_callG G__law_two_right (by exact hg) (hr.mono (by omega)) rfl D__law_two_right.m D__law_two_right.fn.kp D__law_two_right.b (pa_cons (pv 2) (pa_cons (pe_call G__law_otherwise (hr.mono (by omega)) rfl D__law_otherwise.m D__law_otherwise.fn.kp D__law_otherwise.b .nil pass0 (pa_cons (pv 0) (pa_cons (pv 3) pa_nil))) pa_nil)))))))) (pss_one (ps_ret pe_bl)) pss_nil)
    (pss_one (ps_if (pt_not (pt_val (pe_callG G__law_two_right (by exact hg) (hr.mono (by omega)) rfl D__law_two_right.m D__law_two_right.fn.kp D__law_two_right.b (pa_cons (pe_call G__law_pure (hr.mono (by omega)) rfl D__law_pure.m D__law_pure.fn.kp D__law_pure.b .nil pass0 (pa_cons (pv 0) (pa_cons pe_int pa_nil))) (pa_cons (pe_call G__law_pure (hr.mono (by omega)) rfl D__law_pure.m D__law_pure.fn.kp D__law_pure.b .nil pass0 (pa_cons (pv 0) (pa_cons pe_int pa_nil))) pa_nil))))) (pss_one (ps_ret pe_bl)) pss_nil)))))
    (pss_cons (ps_set (i := 4) S__law_right.nd rfl (Or.inr rfl) (pe_tup (pa_cons pe_str (pa_cons (pe_tup (pa_cons pe_str (pa_cons (pe_tup (pa_cons pe_str (pa_cons pe_int pa_nil))) (pa_cons (pe_tup (pa_cons pe_str (pa_cons pe_int pa_nil))) pa_nil)))) (pa_cons (pe_tup (pa_cons pe_str (pa_cons (pe_tup (pa_cons pe_str (pa_cons pe_int pa_nil))) (pa_cons (pe_tup (pa_cons pe_str (pa_cons (pe_call G__law_pick (hr.mono (by omega)) rfl D__law_pick.m D__law_pick.fn.kp D__law_pick.b .nil pass0 (pa_cons (pv 0) (pa_cons (pe_lst (pa_cons pe_int (pa_cons pe_int (pa_cons pe_int pa_nil)))) pa_nil))) pa_nil))) pa_nil)))) pa_nil)))))
    (pss_cons (ps_set (i := 5) S__law_right.nd rfl (Or.inl rfl) (pe_lst (pa_cons (LamX.pe_lamcall (T := TB) (TT := TTH C) (c := c) (P := Pt) (k := 18) (a := "call") (t := fun E => tCallS (sp_unlike_sizes C) (fun σ => WE (fun cls d _ H => E cls d H) σ) (tCons (tVar 4) (tCons (tTup (tCons (tC (.str "one")) tNil)) tNil))) rfl D__law_heard.m D__law_heard.fn.kp lk hcd D__law_heard.b S__law_heard rfl (Or.inl rfl) (heard_gives M) TBb rfl hm hu hr (LamX.lamS_by (by show LamX.lamSB (defScope s__law_right) _ = true; decide +kernel)) rfl (fun _ _ _ _ _ => rfl) (fun A o s H E f c' hr => pe_callS G_unlike_sizes hr rfl D_unlike_sizes.m D_unlike_sizes.fn.kp D_unlike_sizes.b (fun σ => passAt (takes_of rfl rfl rfl rfl) σ) (pa_cons (pv 4) (pa_cons (pe_tup (pa_cons pe_str pa_nil)) pa_nil)))) pa_nil)))
    (pss_cons (ps_expr (pe_bm PySem.F.plainAttrs_list PySem.F.slot_list_append PySem.F.type_list_append mt_append (pv 5) (pa_cons (LamX.pe_lamcall (T := TB) (TT := TTH C) (c := c) (P := Pt) (k := 18) (a := "call") (t := fun E => tCallS (sp_unlike_sizes C) (fun σ => WE (fun cls d _ H => E cls d H) σ) (tCons (tTup (tCons (tC (.str "letter")) (tCons (tC (.int 5)) tNil))) (tCons (tTup (tCons (tC (.str "pair")) (tCons (tTup (tCons (tC (.str "letter")) (tCons (tC (.int 0)) tNil))) (tCons (tTup (tCons (tC (.str "pair")) (tCons (tTup (tCons (tC (.str "letter")) (tCons (tC (.int 1)) tNil))) (tCons (tTup (tCons (tC (.str "letter")) (tCons (tC (.int 2)) tNil))) tNil)))) tNil)))) tNil))) rfl D__law_heard.m D__law_heard.fn.kp lk hcd D__law_heard.b S__law_heard rfl (Or.inl rfl) (heard_gives M) TBb rfl hm hu hr (LamX.lamS_by (by show LamX.lamSB (defScope s__law_right) _ = true; decide +kernel)) rfl (fun _ _ _ _ _ => rfl) (fun A o s H E f c' hr => pe_callS G_unlike_sizes hr rfl D_unlike_sizes.m D_unlike_sizes.fn.kp D_unlike_sizes.b (fun σ => passAt (takes_of rfl rfl rfl rfl) σ) (pa_cons (pe_tup (pa_cons pe_str (pa_cons pe_int pa_nil))) (pa_cons (pe_tup (pa_cons pe_str (pa_cons (pe_tup (pa_cons pe_str (pa_cons pe_int pa_nil))) (pa_cons (pe_tup (pa_cons pe_str (pa_cons (pe_tup (pa_cons pe_str (pa_cons pe_int pa_nil))) (pa_cons (pe_tup (pa_cons pe_str (pa_cons pe_int pa_nil))) pa_nil)))) pa_nil)))) pa_nil)))) pa_nil)))
    (pss_one (ps_ret (pe_and (pe_cmpR (op_eqD hr.units) (pv 5) (pe_op op_rep (pe_lst (pa_cons (pe_lst (pa_cons pe_str (pa_cons pe_int pa_nil))) pa_nil)) pe_int) (nomark _)) (pe_one (pe_cmpR op_isN (pe_call G_unlike_sizes (hr.mono (by omega)) rfl D_unlike_sizes.m D_unlike_sizes.fn.kp D_unlike_sizes.b .nil passL (pa_cons (pe_tup (pa_cons pe_str pa_nil)) (pa_cons (pe_tup (pa_cons pe_str (pa_cons (pe_tup (pa_cons pe_str (pa_cons pe_int pa_nil))) (pa_cons (pe_tup (pa_cons pe_str pa_nil)) pa_nil)))) pa_nil))) pe_non (nomark _)))))))))), ?_⟩
  refine ⟨4, rfl, by decide, by decide, ?_⟩
  refine for_range (fun i σ H' => ∃ o1 o2 o3, σ = [some (.ref a), o1, o2, o3, none, none] ∧ Keep a H H' ∧ PotAt H' a) ⟨none, none, none, rfl, Keep.refl, hp⟩ ?_ ?_
  · rintro i σ H0 _ ⟨o1, o2, o3, rfl, e0, p0⟩
    refine ⟨_, rfl, a, rfl, p0, fun p x y k l H1 hp1 hx hy lk ll sk sl dk dl ts e1 p1 => ?_⟩
    refine ⟨p, [x, y], rfl, tT hp1, rfl, _, _, rfl, _, _, rfl, rfl, ?_⟩
    refine ⟨_, rfl, _, rfl, x, y, k, l, rfl, hx, hy, two_of lk ll (by omega) (by omega) (by omega) (by omega), fun ns lm l3 v H2 e2 r => ?_, fun ns lm l3 => absurd (lts3 lk ll lm) (by omega)⟩
    rw [due_none ts] at r
    have ev : v = .non := r
    subst ev
    have p2 := p1.same e2
    refine ⟨rfl, _, rfl, iteFe rfl ?_⟩
    refine ⟨_, rfl, _, rfl, _, rfl, a, y, l, rfl, hy.same e2, ll, dl, p2, fun u m H3 hu l1 l2 l4 e3 p3 => ?_⟩
    refine ⟨x, u, k, m, rfl, (hx.same e2).pot p2 e3, hu, two_of lk l1 (by omega) (by omega) (by omega) (by omega), lk, l1, fun H4 e4 => ?_⟩
    refine ⟨_, rfl, iteFe rfl ?_⟩
    have p4 := p3.same e4
    refine ⟨_, rfl, a, 2, rfl, rfl, p4, fun v1 k1 H5 h1 z1 e5 p5 => ?_⟩
    refine ⟨_, rfl, a, 2, rfl, rfl, p5, fun v2 k2 H6 h2 z2 e6 p6 => ?_⟩
    have zs1 := z1.s
    have zs2 := z2.s
    have zd1 := z1.d
    have zd2 := z2.d
    simp only [sgn] at zs1 zs2
    refine ⟨v1, v2, k1, k2, rfl, h1.pot p5 e6, h2, two_of z1.l z2.l (by omega) (by omega) (by omega) (by omega), z1.l, z2.l, fun H7 e7 => ?_⟩
    refine ⟨_, rfl, iteFe rfl ?_⟩
    exact ⟨_, _, _, rfl, ((((((e0.trans e1).trans (Keep.of e2)).trans e3).trans (Keep.of e4)).trans e5).trans e6).trans (Keep.of e7), p6.same e7⟩
  · rintro σ H1 ⟨o1, o2, o3, rfl, k1, p1⟩
    have t1 : LamX.Tabs TB H1 := tabs_keep hp k1 ht
    have x1 : ExtA a H H1 := extA_keep k1
    refine ⟨size2, fun q1 n1 => ?_⟩
    refine ⟨size2, fun q2 n2 => ?_⟩
    refine ⟨size3, fun q3 n3 => ?_⟩
    refine ⟨size2, fun q4 n4 => ?_⟩
    refine ⟨_, rfl, size3, fun q5 n5 => ?_⟩
    have f1 := Same.new n1 (.tup [.str "letter", .int 0])
    have f2 := Same.new n2 (.tup [.str "letter", .int 3])
    have f3 := Same.new n3 (.tup [.str "pair", .ref q1, .ref q2])
    have f4 := Same.new n4 (.tup [.str "letter", .int 4])
    have f5 := Same.new n5 (.lst [.int 1, .int 2, .int 5])
    have f15 := f1.trans (f2.trans (f3.trans (f4.trans f5)))
    have p5 := p1.same f15
    have na : q5 ≠ a := pot_none (p1.same (f1.trans (f2.trans (f3.trans f4)))) n5
    refine ⟨a, q5, _, rfl, na, upd_same, by decide, by decide, p5, fun v H6 hv k6 p6 => ?_⟩
    obtain ⟨x, ev, hx⟩ : ∃ x : Nat, v = .int (x : Int) ∧ (x = 1 ∨ x = 2 ∨ x = 5) := by
      simp only [List.mem_cons, List.not_mem_nil, or_false] at hv
      rcases hv with e | e | e
      · exact ⟨1, e, by omega⟩
      · exact ⟨2, e, by omega⟩
      · exact ⟨5, e, by omega⟩
    subst ev
    have a1 : At H6 (.ref q1) (.let_ 0) := ((At.let_ upd_same).same (f2.trans (f3.trans (f4.trans f5)))).pot p5 k6
    have a2 : At H6 (.ref q2) (.let_ 3) := ((At.let_ upd_same).same (f3.trans (f4.trans f5))).pot p5 k6
    have h3 := (f4.trans f5) _ _ (upd_same (H := upd (upd H1 q1 (.tup [.str "letter", .int 0])) q2 (.tup [.str "letter", .int 3])) (a := q3) (o := .tup [.str "pair", .ref q1, .ref q2]))
    have a3 : At H6 (.ref q3) (.pair (.let_ 0) (.let_ 3)) := .pair (k6 _ _ (pot_tup p5 h3) h3) a1 a2
    have a4 : At H6 (.ref q4) (.let_ 4) := ((At.let_ upd_same).same f5).pot p5 k6
    refine ⟨size2, fun q6 n6 => ?_⟩
    refine ⟨size3, fun q7 n7 => ?_⟩
    refine ⟨size3, fun q8 n8 => ?_⟩
    have f6 := Same.new n6 (.tup [.str "letter", .int (x : Int)])
    have f7 := Same.new n7 (.tup [.str "fun", .ref q4, .ref q6])
    have f8 := Same.new n8 (.tup [.str "pair", .ref q3, .ref q7])
    have a8 : At _ (.ref q8) (four x) := .pair upd_same (a3.same (f6.trans (f7.trans f8))) (.fn (f8 _ _ upd_same) (a4.same (f6.trans (f7.trans f8))) ((At.let_ upd_same).same (f7.trans f8)))
    have f68 := f6.trans (f7.trans f8)
    have x8 := ((x1.trans (extA_same f15)).trans (extA_keep k6)).trans (extA_same f68)
    have t8 := (tabs_keep p5 k6 (t1.ext f15)).ext f68
    refine ⟨t8, fun H9 e9 t9 => ?_⟩
    have x9 := x8.trans (extA_ext e9)
    have a9 := at_ext e9 a8
    refine ⟨_, rfl, size1, fun q9 n9 => ?_⟩
    have f9 := Same.new n9 (.tup [.str "one"])
    refine ⟨.ref q8, .ref q9, four x, .one, rfl, a9.same f9, .one upd_same, four_two (by omega), fun ns lm l3 => absurd (four_len hx lm) (by omega), fun ns lm l3 => ?_⟩
    refine fun d H10 e10 hd => ⟨rfl, d, _, _, rfl, hd, fun p np => ⟨size1, fun D nD => ?_⟩⟩
    have f10 := Same.new np (.lst [.str "letters", .int 3])
    have f11 := Same.new nD (.lst [.ref p])
    have s11 := f9.trans (e10.trans (f10.trans f11))
    have x11 := x9.trans (extA_same s11)
    have t11 := t9.ext s11
    have p9 := pot_ext (p6.same f68) e9
    have p11 := p9.same (f9.trans (e10.trans f10))
    have x10 := x9.trans (extA_same (f9.trans (e10.trans f10)))
    have nH : ∀ b o, b ≠ a → H b = some o → (∀ ps, o ≠ .tbl ps) → b ≠ D := fun b o n h t z => by
      have y := x10 b o n h t
      rw [z, nD] at y
      cases y
    have nDa : D ≠ a := pot_none p11 nD
    have hp11 : upd (upd H10 p (.lst [.str "letters", .int 3])) D (.lst [.ref p]) p = some (.lst [.str "letters", .int 3]) := f11 _ _ upd_same
    have hD11 : upd (upd H10 p (.lst [.str "letters", .int 3])) D (.lst [.ref p]) D = some (.lst [.ref p]) := upd_same
    generalize upd (upd H10 p (.lst [.str "letters", .int 3])) D (.lst [.ref p]) = J at x11 t11 hp11 hD11
    refine ⟨_, rfl, .inl ⟨rfl, _, SqL.of hD11⟩, t11, fun J1 e1 t12 => ?_⟩
    have x12 := x11.trans (extA_ext e1)
    have hp12 := e1 _ _ hp11 fun ps z => by cases z
    have hD12 := e1 _ _ hD11 fun ps z => by cases z
    refine ⟨size2, fun r1 m1 => ?_⟩
    refine ⟨size2, fun r2 m2 => ?_⟩
    refine ⟨size2, fun r3 m3 => ?_⟩
    refine ⟨size2, fun r4 m4 => ?_⟩
    refine ⟨size3, fun r5 m5 => ?_⟩
    refine ⟨size3, fun r6 m6 => ?_⟩
    have v1 := Same.new m1 (.tup [.str "letter", .int 5])
    have v2 := Same.new m2 (.tup [.str "letter", .int 0])
    have v3 := Same.new m3 (.tup [.str "letter", .int 1])
    have v4 := Same.new m4 (.tup [.str "letter", .int 2])
    have v5 := Same.new m5 (.tup [.str "pair", .ref r3, .ref r4])
    have v6 := Same.new m6 (.tup [.str "pair", .ref r2, .ref r5])
    have v36 := v3.trans (v4.trans (v5.trans v6))
    have b1 := (At.let_ (i := 5) (a := r1) (H := upd J1 r1 (.tup [.str "letter", .int 5])) upd_same).same (v2.trans v36)
    have b6 : At _ (.ref r6) four2 := .pair upd_same ((At.let_ upd_same).same v36) (.pair (v6 _ _ upd_same) ((At.let_ upd_same).same (v4.trans (v5.trans v6))) ((At.let_ upd_same).same (v5.trans v6)))
    have v16 := v1.trans (v2.trans v36)
    refine ⟨.ref r1, .ref r6, .let_ 5, four2, rfl, b1, b6, four2_two, fun ns lm l3 => absurd (four2_len lm) (by omega), fun ns lm l3 => ?_⟩
    refine fun d2 J2 e2 hd2 => ⟨rfl, d2, _, _, rfl, hd2, fun p2 np2 => ?_⟩
    have w2 := Same.new np2 (.lst [.str "letters", .int 3])
    have s2 := v16.trans (e2.trans w2)
    have x13 := x12.trans (extA_same s2)
    have t13 := t12.ext s2
    have hp13 := s2 _ _ hp12
    have hD13 := s2 _ _ hD12
    have hq13 : upd J2 p2 (.lst [.str "letters", .int 3]) p2 = some (.lst [.str "letters", .int 3]) := upd_same
    generalize upd J2 p2 (.lst [.str "letters", .int 3]) = J3 at x13 t13 hp13 hD13 hq13
    have npD : p ≠ D := fun z => by rw [z, hD13] at hp13; cases hp13
    have nqD : p2 ≠ D := fun z => by rw [z, hD13] at hq13; cases hq13
    refine ⟨D, _, _, rfl, rfl, hD13, Nat.lt_of_lt_of_le (by decide : 1 < 2) size2, ?_⟩
    have t14 := tabs_upd (o := .lst ([.ref p] ++ [.ref p2])) t13 hD13
    have x14 : ExtA a H (upd J3 D (.lst ([.ref p] ++ [.ref p2]))) := fun b o n h t => by rw [upd_ne (nH b o n h t)]; exact x13 b o n h t
    have hp14 : upd J3 D (.lst ([.ref p] ++ [.ref p2])) p = some (.lst [.str "letters", .int 3]) := by rw [upd_ne npD]; exact hp13
    have hq14 : upd J3 D (.lst ([.ref p] ++ [.ref p2])) p2 = some (.lst [.str "letters", .int 3]) := by rw [upd_ne nqD]; exact hq13
    have hD14 : upd J3 D (.lst ([.ref p] ++ [.ref p2])) D = some (.lst [.ref p, .ref p2]) := upd_same
    generalize upd J3 D (.lst ([.ref p] ++ [.ref p2])) = J4 at x14 t14 hp14 hq14 hD14
    refine ⟨_, rfl, size2, fun u1 z1 => ⟨size1, fun u2 z2 => ?_⟩⟩
    refine ⟨u2, 2, _, rfl, rfl, upd_same, by decide, by decide, size2, fun u3 z3 => ?_⟩
    have y1 := Same.new z1 (.lst [.str "letters", .int 3])
    have y2 := Same.new z2 (.lst [.ref u1])
    have y3 := Same.new z3 (.lst (List.replicate (2 : Int).toNat [V.ref u1]).flatten)
    have y13 := y1.trans (y2.trans y3)
    have x15 := x14.trans (extA_same y13)
    have t15 := t14.ext y13
    have dl : ∀ {b : Addr} {G : Hp}, G b = some (.lst [.str "letters", .int 3]) → Dp K G (.ref b) (.list [.str "letters", .int 3]) := fun e => .lst (tL e) (.cons (.str _) (.cons (.int _) .nil))
    have du1 := dl ((y2.trans y3) _ _ (upd_same (H := J4) (a := u1) (o := .lst [.str "letters", .int 3])))
    refine ⟨.list [.list [.str "letters", .int 3], .list [.str "letters", .int 3]], .list [.list [.str "letters", .int 3], .list [.str "letters", .int 3]], .lst (tL (y13 _ _ hD14)) (.cons (dl (y13 _ _ hp14)) (.cons (dl (y13 _ _ hq14)) .nil)), .lst (tL upd_same) (.cons du1 (.cons du1 .nil)), by decide +kernel, by decide +kernel, ?_⟩
    refine ⟨_, rfl, iteTe (SeqAt.eqv_refl _ (by decide +kernel)) ?_⟩
    refine ⟨size1, fun s1 w1 => ?_⟩
    refine ⟨size2, fun s2 w2 => ⟨size1, fun s3 w3 => ?_⟩⟩
    refine ⟨size3, fun s4 w4 => ?_⟩
    have g1 := Same.new w1 (.tup [.str "one"])
    have g2 := Same.new w2 (.tup [.str "letter", .int 2])
    have g3 := Same.new w3 (.tup [.str "one"])
    have g4 := Same.new w4 (.tup [.str "fun", .ref s2, .ref s3])
    have g24 := g2.trans (g3.trans g4)
    have c1 := (At.one (a := s1) upd_same).same g24
    have c4 : At _ (.ref s4) (.fn (.let_ 2) .one) := .fn upd_same ((At.let_ upd_same).same (g3.trans g4)) ((At.one upd_same).same g4)
    have l2 : (Kd.fn (.let_ 2) .one).lets 3 := ⟨by show 2 < 3; omega, trivial⟩
    refine ⟨.ref s1, .ref s4, .one, .fn (.let_ 2) .one, rfl, c1, c4, two_of trivial l2 (by simp [Kd.depth]) (by simp [Kd.depth]) (by simp [Kd.signs]) (by simp [Kd.signs]), fun ns lm l3 v H' e' r => ?_, fun ns lm l3 => absurd (lts3 (k := .one) trivial l2 lm) (by omega)⟩
    rw [due_none (fun e => by simp [Kd.tsize])] at r
    have ev : v = .non := r
    subst ev
    refine ⟨rfl, ?_⟩
    exact blq (Q := Q) (decide_eq_true rfl) (q _ (x15.trans (extA_same ((g1.trans g24).trans e'))) (t15.ext ((g1.trans g24).trans e')))
end
end T84

/-! zl84 -/
/-! the end of a law whose defs want that no repr is under way -/
namespace LamG
open PySem PySem.Spec PyProof.Rows L2
abbrev tabE : Obj := { cls := .none, data := .fields #[] }
abbrev lstE (us : List Value) : Obj := { cls := .type "list", data := .seq us.toArray }
/-- what the head hands on -/
structure Hd (K : PySem.W.Frag) (mg mb : Str → Option Value) (cs : List (Addr × Addr)) (h : Heap) : Prop where
  kin : K.In h
  glo : h.Ns mainGlobals mg
  bns : h.Ns builtinsNs mb
  boot : ∀ y : Str, y ≠ "__name__" → mb y = bootBuiltins y
  lim : h.NoLimit
  tab : ∀ p ∈ cs, h.get? p.2 = some tabE
  out : ∀ p ∈ cs, K.lookup p.2 = none
  code : ∀ p ∈ cs, PySem.W.CodeHd h p.1 p.2
  bmod : ∃ (m : Addr) (o : Obj), mg "__builtins__" = some (.ref m) ∧ m ≠ builtinsNs ∧ h.get? m = some o ∧ o.cls = .type "module" ∧ o.dict = some builtinsNs ∧ o.data = .plain
/-- what is tracked at the law's call: the tables, perhaps the script -/
structure Tr (P : Program) (w : World) (K : PySem.W.Frag) (cs : List (Addr × Addr)) (a : Addr) (h : Heap) (H : Hp) : Prop where
  tabs : ∀ p ∈ cs, H p.2 = some (.tbl #[])
  only : ∀ b u, H b = some u → (∃ p ∈ cs, b = p.2) ∨ (b = a ∧ K.lookup a = none ∧ ∃ o xs, u = .frz o (.lst xs))
  ok : HOk P w H h
section
variable {P : Program} {w : World} {K : PySem.W.Frag} {mg mb : Str → Option Value} {cs : List (Addr × Addr)} {h : Heap} {H : Hp} {a : Addr} {us : List Value}
/-- an object of another sort is not tracked -/
theorem Tr.free (R : Tr P w K cs a h H) (D : Hd K mg mb cs h) (la : h.get? a = some (lstE us)) {b : Addr} {o : Obj} (e : h.get? b = some o) (s : ∀ vs n, o.data ≠ .seq vs n) (f : o.data ≠ .fields #[]) : H b = none := by
  cases q : H b with
  | none => rfl
  | some u =>
    rcases R.only b u q with ⟨p, hp, eb⟩ | ⟨eb, _⟩
    · rw [eb, D.tab p hp] at e
      cases e
      exact absurd rfl f
    · rw [eb, la] at e
      cases e
      exact absurd rfl (s _ _)
theorem Tr.ns (R : Tr P w K cs a h H) (D : Hd K mg mb cs h) (la : h.get? a = some (lstE us)) {b : Addr} {m : Str → Option Value} (n : h.Ns b m) : (hidT h H).Ns b m := by
  obtain ⟨o, es, ep, e, d, r⟩ := n
  refine ⟨o, es, ep, hidT_get e (R.free D la e (fun vs n z => ?_) fun z => ?_), d, r⟩
  · rw [d] at z; cases z
  · rw [d] at z; cases z
theorem Tr.kin (R : Tr P w K cs a h H) (D : Hd K mg mb cs h) : K.In (hidT h H) := fun b o e => by
  refine hidT_get (D.kin b o e) ?_
  cases q : H b with
  | none => rfl
  | some u =>
    rcases R.only b u q with ⟨p, hp, eb⟩ | ⟨eb, n, _⟩
    · rw [eb, D.out p hp] at e; cases e
    · rw [eb, n] at e; cases e
theorem Tr.mod (R : Tr P w K cs a h H) (D : Hd K mg mb cs h) (la : h.get? a = some (lstE us)) : L2.Mod K mg (hidT h H) :=
  ⟨R.kin D, R.ns D la D.glo, ⟨mb, R.ns D la D.bns, D.boot⟩, let ⟨m, h1, h2⟩ := D.lim; ⟨m, R.ns D la h1, h2⟩⟩
/-- each table as the making of a lambda wants it -/
theorem Tr.tb (R : Tr P w K cs a h H) (D : Hd K mg mb cs h) (la : h.get? a = some (lstE us)) {p : Addr × Addr} (hp : p ∈ cs) : LamX.TabB (hidT h H) mg p.1 p.2 := by
  have t := D.tab p hp
  refine ⟨?_, ?_, fun z => ?_⟩
  · obtain ⟨o, fs, file, tf, fl, tg, inF, tx, tt, e, c1, c2, c3, r⟩ := D.code p hp
    refine ⟨o, fs, file, tf, fl, tg, inF, tx, tt, hidT_get e (R.free D la e (fun vs n z => ?_) fun z => ?_), c1, c2, c3, r⟩
    · rw [c2] at z; cases z
    · rw [c2] at z; cases z; simp at c3
  · obtain ⟨m, o, g, nb, e, c1, c2, c3⟩ := D.bmod
    have nG : m ≠ mainGlobals := fun z => by
      obtain ⟨o2, _, _, e2, d, _⟩ := D.glo
      rw [← z, e] at e2; cases e2
      rw [c3] at d; cases d
    have nT : m ≠ p.2 := fun z => by rw [z, t] at e; cases e; cases c3
    refine ⟨m, o, g, nb, nG, nT, hidT_get e (R.free D la e (fun vs n z => ?_) fun z => ?_), c1, c2, c3⟩
    · rw [c3] at z; cases z
    · rw [c3] at z; cases z
  · obtain ⟨o, _, _, e, d, _⟩ := D.glo
    rw [z, t] at e; cases e
    cases d
end
section
variable {P : Program} {w : World} {K : PySem.W.Frag} {mg mb : Str → Option Value} {cs : List (Addr × Addr)} {s : Shared} {H : Hp} {a fa : Addr} {us : List Value} {ns : List Int} {CX : CXT} {k : Nat} {fd : FuncData} {x : Str} {sp : Sp}
/-- the call, from such a tracking -/
theorem Tr.run (R : Tr P w K cs a s.heap H) (D : Hd K mg mb cs s.heap) (la : s.heap.get? a = some (lstE us)) (ge : s.gens = #[]) (rm : Room k callerA)
    (F : ∀ base : Heap, K.In base → base.Ns mainGlobals mg → (∀ p ∈ cs, LamX.TabB base mg p.1 p.2) → FnG P w K mg base CX k fa fd [x] sp) (bd : ∀ (t : Shared) (u : Value), BindsTo t fd ⟨[u], []⟩ [(x, u)])
    (hs : sp [.ref a] H (fun v _ => v = .bl true) fun _ _ _ => False) (no : ∀ e t, CX [] H s (fun _ _ _ => False) e t → False) :
    codeAny (model P w) callerA (.call (.ref fa) ⟨[.ref a], []⟩) (fun r t => r = .ok (.ret (.bool true)) ∧ OldK s.heap t.heap ∧ t.os = s.os ∧ AllBare t.gens) s := by
  have G := F _ (R.kin D) (R.ns D la D.glo) fun p hp => R.tb D la hp
  have E : Env0 P w K mg (hidT s.heap H) callerA [] s H := ⟨rfl, R.mod D la, fun b o e => of_hidT e, Nat.le_of_eq (hidT_size _ _), trivial, fun b z => absurd (show b ∈ ([] : List Addr) from z) (by simp), R.ok, .of_eq ge⟩
  have C := G.run callerA [] s H ⟨[.ref a], []⟩ [.ref a] [.ref a] _ _ rfl rm E (bd s (.ref a)) (.cons rfl .nil) hs
  refine codeAny_mono C fun r t z => ?_
  match r, z with
  | .error e, z => exact (no e t z).elim
  | .ok .next, z => exact False.elim z
  | .ok .brk, z => exact False.elim z
  | .ok .cont, z => exact False.elim z
  | .ok (.ret u), z =>
    obtain ⟨v, H2, eo, ba, un, ok2, rv, ev⟩ := z
    have ev : v = .bl true := ev
    subst ev
    obtain rfl : u = Value.bool true := rv
    have stay : ∀ b o, (∀ p ∈ cs, b ≠ p.2) → s.heap.get? b = some o → t.heap.get? b = some o := fun b o nb e => by
      cases q : H b with
      | none => exact un.keep b o e q (fun z => absurd (show b ∈ ([] : List Addr) from z) (by simp)) (by simp)
      | some u =>
        rcases R.only b u q with ⟨p, hp, eb⟩ | ⟨_, _, o2, xs, eu⟩
        · exact absurd eb (nb p hp)
        · rw [eu] at q
          have i1 := (R.ok b _ q).1
          rw [e] at i1; cases i1
          exact (ok2 b _ (un.frzs b _ _ q)).1
    have more : ∀ p ∈ cs, ∃ xs : Array Value, t.heap.get? p.2 = some { cls := .none, data := .fields xs } := fun p hp => by
      obtain ⟨xs, q⟩ := un.tbls p.2 #[] (R.tabs p hp)
      exact ⟨_, ok2 p.2 _ q⟩
    refine ⟨rfl, ⟨fun b o e => ?_, fun b o e => ?_⟩, eo, ba⟩
    · by_cases c : ∃ p ∈ cs, b = p.2
      · obtain ⟨p, hp, eb⟩ := c
        subst eb
        obtain ⟨xs, q⟩ := more p hp
        have t0 := D.tab p hp
        have e2 := t0.symm.trans e
        cases e2
        exact .inr (.inl ⟨((D.code p hp).tab t0).isCodeTable, rfl, #[], xs, rfl, by rw [Array.empty_append]; exact q⟩)
      · exact .inl (stay b o (fun p hp z => c ⟨p, hp, z⟩) e)
    · by_cases c : ∃ p ∈ cs, b = p.2
      · obtain ⟨p, hp, eb⟩ := c
        subst eb
        exact ⟨_, (more p hp).choose_spec⟩
      · exact ⟨o, stay b o (fun p hp z => c ⟨p, hp, z⟩) e⟩
/-- the tables alone, or with the script -/
def trk0 (cs : List (Addr × Addr)) : Hp := fun b => if b ∈ cs.map (·.2) then some (.tbl #[]) else none
theorem callG (D : Hd K mg mb cs s.heap) (la : s.heap.get? a = some (lstE us)) (ia : IntsAre us ns) (sz : ns.length ≤ sizeLine) (ge : s.gens = #[]) (rm : Room k callerA)
    (F : ∀ base : Heap, K.In base → base.Ns mainGlobals mg → (∀ p ∈ cs, LamX.TabB base mg p.1 p.2) → FnG P w K mg base CX k fa fd [x] sp) (bd : ∀ (t : Shared) (u : Value), BindsTo t fd ⟨[u], []⟩ [(x, u)])
    (hs : ∀ H : Hp, (∀ p ∈ cs, H p.2 = some (.tbl #[])) → SqL K H a (ns.map V.int) → sp [.ref a] H (fun v _ => v = .bl true) fun _ _ _ => False) (no : ∀ H e t, CX [] H s (fun _ _ _ => False) e t → False) :
    codeAny (model P w) callerA (.call (.ref fa) ⟨[.ref a], []⟩) (fun r t => r = .ok (.ret (.bool true)) ∧ OldK s.heap t.heap ∧ t.os = s.os ∧ AllBare t.gens) s := by
  have na : a ∉ cs.map (·.2) := fun z => by
    obtain ⟨p, hp, e⟩ := List.mem_map.mp z
    have t := D.tab p hp
    rw [e, la] at t; cases t
  have at0 : ∀ p ∈ cs, trk0 cs p.2 = some (.tbl #[]) := fun p hp => if_pos (List.mem_map.mpr ⟨p, hp, rfl⟩)
  have of0 : ∀ b u, trk0 cs b = some u → (∃ p ∈ cs, b = p.2) ∧ u = .tbl #[] := fun b u z => by
    unfold trk0 at z
    split at z
    · rename_i m
      obtain ⟨p, hp, e⟩ := List.mem_map.mp m
      exact ⟨⟨p, hp, e.symm⟩, (Option.some.inj z).symm⟩
    · cases z
  have ok0 : ∀ b u, trk0 cs b = some u → s.heap.get? b = some tabE ∧ u = .tbl #[] := fun b u z => by
    obtain ⟨⟨p, hp, e⟩, eu⟩ := of0 b u z
    exact ⟨by rw [e]; exact D.tab p hp, eu⟩
  cases q : K.lookup a with
  | some o =>
    have e := D.kin a o q
    rw [la] at e; cases e
    refine Tr.run (H := trk0 cs) ⟨at0, fun b u z => .inl (of0 b u z).1, fun b u z => ?_⟩ D la ge rm F bd (hs _ at0 (.inr ⟨_, us.toArray, _, q, rfl, rfl, rfl, by rw [List.size_toArray, ia.length]; exact sz, by simpa using vals_ints ia⟩)) (no _)
    obtain ⟨g, eu⟩ := ok0 b u z
    subst eu
    exact g
  | none =>
    have eq : ∀ b, b ≠ a → upd (trk0 cs) a (.frz (lstE us) (.lst (ns.map V.int))) b = trk0 cs b := fun b n => upd_ne n
    have atC : ∀ p ∈ cs, upd (trk0 cs) a (.frz (lstE us) (.lst (ns.map V.int))) p.2 = some (.tbl #[]) := fun p hp => by
      rw [eq _ fun z => na (by rw [← z]; exact List.mem_map.mpr ⟨p, hp, rfl⟩)]
      exact at0 p hp
    refine Tr.run (H := upd (trk0 cs) a (.frz (lstE us) (.lst (ns.map V.int)))) ⟨atC, fun b u z => ?_, fun b u z => ?_⟩ D la ge rm F bd (hs _ atC (.inl (.inr ⟨lstE us, upd_same⟩))) (no _)
    · by_cases c : b = a
      · subst c
        rw [upd_same] at z
        exact .inr ⟨rfl, q, _, _, (Option.some.inj z).symm⟩
      · rw [eq b c] at z
        exact .inl (of0 b u z).1
    · by_cases c : b = a
      · subst c
        rw [upd_same] at z
        cases z
        exact ⟨la, by rw [List.length_map]; exact sz, us, _, vals_ints ia, la⟩
      · rw [eq b c] at z
        obtain ⟨g, eu⟩ := ok0 b u z
        subst eu
        exact g
end
/-- what is known of the law at the head's heap -/
def Known (l : PySem.W.OpenLaw) (w : World) (K : PySem.W.Frag) (CX : CXT) (k n : Nat) (x : Str) (mg : Str → Option Value) (fa : Addr) (h : Heap) : Prop :=
  ∃ (fd : FuncData) (cs : List (Addr × Addr)) (sp : Sp), ((∀ p ∈ cs, h.get? p.2 = some tabE) ∧ (∀ p ∈ cs, K.lookup p.2 = none) ∧ ∀ p ∈ cs, PySem.W.CodeHd h p.1 p.2) ∧ (∀ (t : Shared) (u : Value), BindsTo t fd ⟨[u], []⟩ [(x, u)]) ∧
    (∀ (H : Hp) (a : Addr) (ns : List Int), ns.length ≤ n → (∀ p ∈ cs, H p.2 = some (.tbl #[])) → SqL K H a (ns.map V.int) → sp [.ref a] H (fun v _ => v = .bl true) fun _ _ _ => False) ∧
    ∀ base : Heap, K.In base → base.Ns mainGlobals mg → (∀ p ∈ cs, LamX.TabB base mg p.1 p.2) → FnG l.prog w K mg base CX k fa fd [x] sp
theorem walkG {l : PySem.W.OpenLaw} {n k : Nat} {q : Program} {lo : List Str} {XP : (Str → Option Value) → Heap → Prop} {YP : World → Heap → Prop} {d : DefRec} {K : Params → PySem.W.Frag} {CX : World → CXT} {x : Str}
    (m : l.most = some n) (m2 : n ≤ sizeLine) (df : d.params.defaults = []) (rm : Room k callerA) (yk : ∀ (w : World) (h : Heap), YP w h → (K w.params).In h)
    (F : ∀ (w : World) (mg : Str → Option Value) (fa : Addr) (h : Heap), YP w h → (K w.params).In h → h.Ns mainGlobals mg → mg d.name = some (.ref fa) → Known l w (K w.params) (CX w) k n x mg fa h)
    (no : ∀ (w : World) (H : Hp) (s : Shared) (e : Value) (t : Shared), CX w [] H s (fun _ _ _ => False) e t → False) :
    PySem.W.WalkO q lo XP YP l.row.toRowW d [] (fun f vs => PySem.call f vs) := by
  refine Att.attach_callB m df fun w s0 s mg mb fa o pm cd dc a us ns G Y _ _ _ hm la ia len _ ge => ?_
  have kx := yk w _ Y
  obtain ⟨fd, cs, sp, ⟨h1, h2, h3⟩, bd, hs, f⟩ := F w mg fa _ Y kx G.T.g hm
  exact callG ⟨kx, G.T.g, G.T.b, G.T.builtins, G.T.nolimit, h1, h2, h3, G.T.bmain⟩ la ia (Nat.le_trans len m2) ge rm f bd (fun H t q => hs H a ns len t q) fun H e t => no w H s e t
end LamG

/-! hd84 -/
section
set_option maxHeartbeats 0
open PySem PySem.W PyProof.Rows
open_top hd84 for PySem.Challenge.rw_hasprograms_k84_whole_unlike_sizes
end

/-! zm84 -/
namespace T84
open PySem L2
/-- what the head tells of a def -/
theorem fd_mk {K : PySem.W.Frag} {mg : Str → Option Value} {h : Heap} {x : Str} {st : Stmt} {ps : List Str} {f : Addr} {oc kV dc pm cd ct : Value} {od an : Option Addr} {sl : Array (Option Value)} (X : K.In h) (G : h.Ns mainGlobals mg) (a : PySem.W.nsIn K mainGlobals x = some (some (.ref f)))
    (l : K.lookup f = some ⟨oc, od, .func (PySem.W.fnOf x x (defArgs st) (defBody st) (defScope st) .none kV dc pm an cd ct), sl⟩) (c : PySem.W.codeIn K cd x = true) (k : PySem.W.keepIn K (.ref f) = true)
    (b : ∀ (kV doc pm : Value) (an : Option Addr) (cdv ct : Value) (us : List Value), us.length = ps.length → bindArgs (PySem.W.fnOf x x (defArgs st) (defBody st) (defScope st) .none kV doc pm an cdv ct) ⟨us, []⟩ = pure (ps.zip us)) :
    ∃ (f : Addr) (fd : FuncData), FD K mg x st ps f fd := by
  have F := fun_mk (st := st) l c k
  exact ⟨f, _, F, F.binds b, PySem.W.mg_of X G a⟩
/-- .. and of its code object -/
theorem fd_mkc {K : PySem.W.Frag} {mg : Str → Option Value} {h : Heap} {x : Str} {st : Stmt} {ps : List Str} {f co Pt : Addr} {oc kV dc pm ct : Value} {od an : Option Addr} {sl : Array (Option Value)} (X : K.In h) (G : h.Ns mainGlobals mg) (a : PySem.W.nsIn K mainGlobals x = some (some (.ref f)))
    (l : K.lookup f = some ⟨oc, od, .func (PySem.W.fnOf x x (defArgs st) (defBody st) (defScope st) .none kV dc pm an (.ref co) ct), sl⟩) (c : PySem.W.codeIn K (.ref co) x = true) (k : PySem.W.keepIn K (.ref f) = true) (z : PySem.W.codeHdIn K co Pt = true)
    (b : ∀ (kV doc pm : Value) (an : Option Addr) (cdv ct : Value) (us : List Value), us.length = ps.length → bindArgs (PySem.W.fnOf x x (defArgs st) (defBody st) (defScope st) .none kV doc pm an cdv ct) ⟨us, []⟩ = pure (ps.zip us)) :
    ∃ (f co : Addr) (fd : FuncData), FD K mg x st ps f fd ∧ fd.code = .ref co ∧ PySem.W.CodeHd h co Pt := by
  have F := fun_mk (st := st) l c k
  exact ⟨f, co, _, ⟨F, F.binds b, PySem.W.mg_of X G a⟩, rfl, PySem.W.codeHd_of_K X z⟩
/-- all defs of the text, its constants -/
structure All (K : PySem.W.Frag) (mg : Str → Option Value) (h : Heap) (Pt : Addr) : Prop where
  d_is_integer : ∃ (f : Addr) (fd : FuncData), FD K mg "is_integer" s_is_integer ["value"] f fd
  d_is_count : ∃ (f : Addr) (fd : FuncData), FD K mg "is_count" s_is_count ["value"] f fd
  d_want_at_most : ∃ (f : Addr) (fd : FuncData), FD K mg "want_at_most" s_want_at_most ["what", "limit", "number"] f fd
  d_is_shaped : ∃ (f : Addr) (fd : FuncData), FD K mg "is_shaped" s_is_shaped ["value", "deep"] f fd
  d_signs_of : ∃ (f : Addr) (fd : FuncData), FD K mg "signs_of" s_signs_of ["kind"] f fd
  d_is_kind : ∃ (f : Addr) (fd : FuncData), FD K mg "is_kind" s_is_kind ["value"] f fd
  d_want_kind : ∃ (f : Addr) (fd : FuncData), FD K mg "want_kind" s_want_kind ["value"] f fd
  d_letters_of : ∃ (f : Addr) (fd : FuncData), FD K mg "letters_of" s_letters_of ["kind"] f fd
  d_is_pure_of : ∃ (f : Addr) (fd : FuncData), FD K mg "is_pure_of" s_is_pure_of ["kind"] f fd
  d_arms_of : ∃ (f : Addr) (fd : FuncData), FD K mg "arms_of" s_arms_of ["kind"] f fd
  d_want_compared : ∃ (f : Addr) (fd : FuncData), FD K mg "want_compared" s_want_compared ["kinds"] f fd
  d_want_two : ∃ (f : Addr) (fd : FuncData), FD K mg "want_two" s_want_two ["kind", "other"] f fd
  d_settled : ∃ (f : Addr) (fd : FuncData), FD K mg "settled" s_settled ["arm"] f fd
  d_canon_of : ∃ (f : Addr) (fd : FuncData), FD K mg "canon_of" s_canon_of ["kind"] f fd
  d_are_alike_kinds : ∃ (f : Addr) (fd : FuncData), FD K mg "are_alike_kinds" s_are_alike_kinds ["kind", "other"] f fd
  d_too_great : ∃ (f : Addr) (fd : FuncData), FD K mg "too_great" s_too_great [] f fd
  d_want_digits : ∃ (f : Addr) (fd : FuncData), FD K mg "want_digits" s_want_digits ["number"] f fd
  d_power_of : ∃ (f : Addr) (fd : FuncData), FD K mg "power_of" s_power_of ["number", "many"] f fd
  d_size_by : ∃ (f : Addr) (fd : FuncData), FD K mg "size_by" s_size_by ["kind", "sizes"] f fd
  d_tried_sizes : ∃ (f : Addr) (fd : FuncData), FD K mg "tried_sizes" s_tried_sizes ["letters"] f fd
  d_size_or_none : ∃ (f : Addr) (fd : FuncData), FD K mg "size_or_none" s_size_or_none ["kind", "sizes"] f fd
  d_unlike_sizes : ∃ (f : Addr) (fd : FuncData), FD K mg "unlike_sizes" s_unlike_sizes ["kind", "other"] f fd
  d__law_pot : ∃ (f : Addr) (fd : FuncData), FD K mg "_law_pot" s__law_pot ["script", "k"] f fd
  d__law_draw : ∃ (f : Addr) (fd : FuncData), FD K mg "_law_draw" s__law_draw ["pot", "many"] f fd
  d__law_pick : ∃ (f : Addr) (fd : FuncData), FD K mg "_law_pick" s__law_pick ["pot", "some"] f fd
  d__law_leaf : ∃ (f : Addr) (fd : FuncData), FD K mg "_law_leaf" s__law_leaf ["pot"] f fd
  d__law_signs : ∃ (f : Addr) (fd : FuncData), FD K mg "_law_signs" s__law_signs ["kind"] f fd
  d__law_depth : ∃ (f : Addr) (fd : FuncData), FD K mg "_law_depth" s__law_depth ["kind"] f fd
  d__law_pure : ∃ (f : Addr) (fd : FuncData), FD K mg "_law_pure" s__law_pure ["pot", "fuel"] f fd
  d__law_likened : ∃ (f : Addr) (fd : FuncData), FD K mg "_law_likened" s__law_likened ["pot", "kind"] f fd
  d__law_two : ∃ (f : Addr) (fd : FuncData), FD K mg "_law_two" s__law_two ["pot", "most"] f fd
  d__law_most : ∃ (f : Addr) (fd : FuncData), FD K mg "_law_most" s__law_most [] f fd
  d__law_power : ∃ (f : Addr) (fd : FuncData), FD K mg "_law_power" s__law_power ["number", "many"] f fd
  d__law_size : ∃ (f : Addr) (fd : FuncData), FD K mg "_law_size" s__law_size ["kind", "sizes"] f fd
  d__law_letters : ∃ (f : Addr) (fd : FuncData), FD K mg "_law_letters" s__law_letters ["kind"] f fd
  d__law_tried : ∃ (f : Addr) (fd : FuncData), FD K mg "_law_tried" s__law_tried ["letters"] f fd
  d__law_due : ∃ (f : Addr) (fd : FuncData), FD K mg "_law_due" s__law_due ["one", "other"] f fd
  d__law_heard : ∃ (f : Addr) (fd : FuncData), FD K mg "_law_heard" s__law_heard ["call"] f fd
  d__law_two_right : ∃ (f : Addr) (fd : FuncData), FD K mg "_law_two_right" s__law_two_right ["one", "other"] f fd
  d__law_otherwise : ∃ (f : Addr) (fd : FuncData), FD K mg "_law_otherwise" s__law_otherwise ["pot", "kind"] f fd
  d_law : ∃ (f : Addr) (fd : FuncData), FD K mg "law" s_law ["script"] f fd
  d__law_right : ∃ (f co : Addr) (fd : FuncData), FD K mg "_law_right" s__law_right ["pot"] f fd ∧ fd.code = .ref co ∧ PySem.W.CodeHd h co Pt
  cs : ∃ aDOUBLE : Addr, Cs K mg aDOUBLE
  tm : ∃ (C L fI : Addr) (fdI : FuncData), Tm K mg C L fI fdI
end T84

/-! zn84 -/
namespace T84
open PySem L2
section
variable {K : PySem.W.Frag} {mg : Str → Option Value} {h : Heap}
theorem cs_mk {t0 : Tok} {t1 : Tok} {t2 : Tok} {t3 : Tok} {t4 : Tok} {t5 : Tok} {t6 : Tok} {t7 : Tok} {t8 : Tok} {t9 : Tok} {t10 : Tok} {t11 : Tok} {t12 : Tok} {aD : Addr} {oD : Option Addr} {nD : Nat} {s0 s1 s2 : Tok} {sl : Array (Option Value)} (X : K.In h) (G : h.Ns mainGlobals mg) (d : PySem.W.nsIn K mainGlobals "DOUBLE" = some (some (.ref aD))) (l : K.lookup aD = some ⟨.type "tuple", oD, .seq #[.str "pair" s0, .str "sum" s1, .str "fun" s2] nD, sl⟩)
    (c0 : PySem.W.nsIn K mainGlobals "LETTER" = some (some (.str "letter" t0))) (c1 : PySem.W.nsIn K mainGlobals "ONE" = some (some (.str "one" t1))) (c2 : PySem.W.nsIn K mainGlobals "PAIR" = some (some (.str "pair" t2))) (c3 : PySem.W.nsIn K mainGlobals "SUM" = some (some (.str "sum" t3))) (c4 : PySem.W.nsIn K mainGlobals "FUN" = some (some (.str "fun" t4))) (c5 : PySem.W.nsIn K mainGlobals "MOST_LETTER" = some (some (.int 5 t5))) (c6 : PySem.W.nsIn K mainGlobals "MOST_SIGNS" = some (some (.int 60 t6))) (c7 : PySem.W.nsIn K mainGlobals "MOST_DEEP" = some (some (.int 12 t7))) (c8 : PySem.W.nsIn K mainGlobals "MOST_COMPARED" = some (some (.int 21 t8))) (c9 : PySem.W.nsIn K mainGlobals "MOST_TRIED" = some (some (.int 3 t9))) (c10 : PySem.W.nsIn K mainGlobals "MOST_LETTERS" = some (some (.int 3 t10))) (c11 : PySem.W.nsIn K mainGlobals "MOST_DIGITS" = some (some (.int 300 t11))) (c12 : PySem.W.nsIn K mainGlobals "TOO_GREAT" = some (some (.int (10 ^ 60) t12))) (z0 : PySem.W.nsIn K mainGlobals "isinstance" = some none) (z1 : PySem.W.nsIn K mainGlobals "int" = some none) (z2 : PySem.W.nsIn K mainGlobals "bool" = some none) (z3 : PySem.W.nsIn K mainGlobals "tuple" = some none) (z4 : PySem.W.nsIn K mainGlobals "str" = some none) (z5 : PySem.W.nsIn K mainGlobals "len" = some none) (z6 : PySem.W.nsIn K mainGlobals "sorted" = some none) (z7 : PySem.W.nsIn K mainGlobals "set" = some none) (z8 : PySem.W.nsIn K mainGlobals "all" = some none) (z9 : PySem.W.nsIn K mainGlobals "range" = some none) (z10 : PySem.W.nsIn K mainGlobals "min" = some none) (z11 : PySem.W.nsIn K mainGlobals "max" = some none) (z12 : PySem.W.nsIn K mainGlobals "list" = some none) (z13 : PySem.W.nsIn K mainGlobals "repr" = some none) (z14 : PySem.W.nsIn K mainGlobals "divmod" = some none) (z15 : PySem.W.nsIn K mainGlobals "abs" = some none) : ∃ aDOUBLE : Addr, Cs K mg aDOUBLE := by
  refine ⟨aD, { DOUBLE := PySem.W.mg_of X G d, dDOUBLE := fun H => .inr ⟨_, _, _, l, rfl, rfl, size1000 (by show 3 ≤ 1000; omega), .cons ⟨s0, rfl⟩ (.cons ⟨s1, rfl⟩ (.cons ⟨s2, rfl⟩ .nil))⟩, LETTER := ⟨_, PySem.W.mg_of X G c0⟩, ONE := ⟨_, PySem.W.mg_of X G c1⟩, PAIR := ⟨_, PySem.W.mg_of X G c2⟩, SUM := ⟨_, PySem.W.mg_of X G c3⟩, FUN := ⟨_, PySem.W.mg_of X G c4⟩, MOST_LETTER := ⟨_, PySem.W.mg_of X G c5⟩, MOST_SIGNS := ⟨_, PySem.W.mg_of X G c6⟩, MOST_DEEP := ⟨_, PySem.W.mg_of X G c7⟩, MOST_COMPARED := ⟨_, PySem.W.mg_of X G c8⟩, MOST_TRIED := ⟨_, PySem.W.mg_of X G c9⟩, MOST_LETTERS := ⟨_, PySem.W.mg_of X G c10⟩, MOST_DIGITS := ⟨_, PySem.W.mg_of X G c11⟩, TOO_GREAT := ⟨_, PySem.W.mg_of X G c12⟩, z_isinstance := PySem.W.mg_none_of X G z0, z_int := PySem.W.mg_none_of X G z1, z_bool := PySem.W.mg_none_of X G z2, z_tuple := PySem.W.mg_none_of X G z3, z_str := PySem.W.mg_none_of X G z4, z_len := PySem.W.mg_none_of X G z5, z_sorted := PySem.W.mg_none_of X G z6, z_set := PySem.W.mg_none_of X G z7, z_all := PySem.W.mg_none_of X G z8, z_range := PySem.W.mg_none_of X G z9, z_min := PySem.W.mg_none_of X G z10, z_max := PySem.W.mg_none_of X G z11, z_list := PySem.W.mg_none_of X G z12, z_repr := PySem.W.mg_none_of X G z13, z_divmod := PySem.W.mg_none_of X G z14, z_abs := PySem.W.mg_none_of X G z15 }⟩
theorem tm_mk {C L fI N : Addr} {nm q : Str} {bs : List Value} {sn : List Str} {sub : List Value} {ab : Bool} {col : Option Bool} {dd : Option Addr} {k0 k1 k2 k3 k5 : Option Value} {oc kV dc pm cd ct : Value} {od an : Option Addr} {sl : Array (Option Value)} (X : K.In h) (G : h.Ns mainGlobals mg)
    (gC : PySem.W.nsIn K mainGlobals "TooMany" = some (some (.ref C))) (gL : PySem.W.nsIn K mainGlobals "LimitError" = some (some (.ref L)))
    (xL : K.lookup C = some (excClassObj nm q C N bs [.ref L, .type "ArithmeticError", .type "Exception", .type "BaseException", .type "object"] true sn sub ab col dd k0 k1 k2 k3 k5 "ArithmeticError.__new__"))
    (sa : PySem.W.findIn K (.ref C) "__setattr__" = some (some (.builtin "object.__setattr__"))) (ga : PySem.W.findIn K (.ref C) "__getattribute__" = some (some (.builtin "BaseException.__getattribute__"))) (gg : PySem.W.findIn K (.ref C) "__getattr__" = some none)
    (nw : PySem.W.findIn K (.ref C) "what" = some none) (nl : PySem.W.findIn K (.ref C) "limit" = some none) (eC : PySem.W.subIn K (.ref C) (.type "BaseException") = some true) (tC : PySem.W.typeIn K (.ref C) = some (.type "type")) (kC : PySem.W.keepIn K (.ref C) = true) (hC : PySem.W.hasDictIn K C = true)
    (sC : PySem.W.subIn K (.ref C) (.ref C) = some true) (sL : PySem.W.subIn K (.ref C) (.ref L) = some true) (eL : PySem.W.subIn K (.ref L) (.type "BaseException") = some true) (tL : PySem.W.typeIn K (.ref L) = some (.type "type")) (hL : PySem.W.hasDictIn K L = true)
    (iC : PySem.W.findIn K (.ref C) "__init__" = some (some (.ref fI))) (tI : PySem.W.typeIn K (.ref fI) = some (.type "function"))
    (l : K.lookup fI = some ⟨oc, od, .func (PySem.W.fnOf "__init__" "TooMany.__init__" (defArgs s_init) (defBody s_init) (defScope s_init) .none kV dc pm an cd ct), sl⟩) (c : PySem.W.codeIn K cd "TooMany.__init__" = true) (k : PySem.W.keepIn K (.ref fI) = true) :
    ∃ (C L fI : Addr) (fdI : FuncData), Tm K mg C L fI fdI := by
  have F := fun_mk (st := s_init) l c k
  refine ⟨C, L, fI, _, ⟨⟨nm, q, N, bs, _, sn, sub, ab, col, dd, k0, k1, k2, k3, k5, xL, PySem.X84.line_AE.more, fun Y => ?_⟩, sa, eC, tC, kC⟩, iC, tI, nw, nl, ⟨ga, gg, eC, hC⟩, PySem.W.mg_of X G gC, PySem.W.mg_of X G gL, PySem.W.exm_ref eC hC tC sC, PySem.W.exm_ref eL hL tL sL, F, F.binds fun _ _ _ _ _ _ us hl => match us, hl with | [_, _, _], _ => rfl⟩
  rw [List.contains_cons]
  rfl
end
end T84

/-! zo84 -/
namespace T84
open PySem L2
theorem vals_swp {zs : List V} {ws : List Value} (r : Vals zs ws) : Vals (swp zs) (swp ws) := by
  match zs, ws, r with
  | [], [], .nil => exact .nil
  | [_], [_], .cons a .nil => exact .cons a .nil
  | [_, _], [_, _], .cons a (.cons b .nil) => exact .cons b (.cons a .nil)
  | _ :: _ :: _ :: _, _ :: _ :: _ :: _, .cons a (.cons b (.cons c r)) => exact .cons a (.cons b (.cons c r))
/-- unlike_sizes(other = .., kind = ..) -/
theorem kb_mk {K : PySem.W.Frag} {f : Addr} {fd : FuncData} (F : Fun K "unlike_sizes" "unlike_sizes" s_unlike_sizes f fd) : KBinds K fd ["kind", "other"] ["other", "kind"] (fun us ws => us ++ swp ws) (fun vs zs => vs ++ swp zs) := by
  obtain ⟨oc, od, kV, doc, pm, an, cdv, ct, osl, rfl, lk, hcd⟩ := F.ex
  refine ⟨fun s us ws _ hl => ?_, fun r q => Vals.append r (vals_swp q)⟩
  match us, ws, hl with
  | [], [_, _], _ => exact .of_eq rfl
  | [_], [_], _ => exact .of_eq rfl
  | [_, _], [], _ => exact .of_eq rfl
  | [], [], hl => cases hl
  | [], [_], hl => cases hl
  | [], _ :: _ :: _ :: _, hl => simp [swp] at hl
  | [_], [], hl => cases hl
  | [_], [_, _], hl => cases hl
  | [_], _ :: _ :: _ :: _, hl => simp [swp] at hl
  | [_, _], [_], hl => cases hl
  | [_, _], [_, _], hl => cases hl
  | [_, _], _ :: _ :: _ :: _, hl => simp [swp] at hl
  | _ :: _ :: _ :: _, _, hl => simp at hl
theorem law_all {P : Program} {w : World} {K : PySem.W.Frag} {mg : Str → Option Value} {h : Heap} {Pt fa : Addr} (A : All K mg h Pt) (e : mg "law" = some (.ref fa)) :
    ∃ (fd : FuncData) (co : Addr), PySem.W.CodeHd h co Pt ∧ (∀ (s : Shared) (u : Value), BindsTo s fd ⟨[u], []⟩ [("script", u)]) ∧ ∀ base : Heap, LamX.TabB base mg co Pt → FnG P w K mg base CX0 22 fa fd ["script"] (sp_law K [(Pt, lamName)]) := by
  obtain ⟨f_is_integer, e_is_integer, D_is_integer⟩ := A.d_is_integer
  obtain ⟨f_is_count, e_is_count, D_is_count⟩ := A.d_is_count
  obtain ⟨f_want_at_most, e_want_at_most, D_want_at_most⟩ := A.d_want_at_most
  obtain ⟨f_is_shaped, e_is_shaped, D_is_shaped⟩ := A.d_is_shaped
  obtain ⟨f_signs_of, e_signs_of, D_signs_of⟩ := A.d_signs_of
  obtain ⟨f_is_kind, e_is_kind, D_is_kind⟩ := A.d_is_kind
  obtain ⟨f_want_kind, e_want_kind, D_want_kind⟩ := A.d_want_kind
  obtain ⟨f_letters_of, e_letters_of, D_letters_of⟩ := A.d_letters_of
  obtain ⟨f_is_pure_of, e_is_pure_of, D_is_pure_of⟩ := A.d_is_pure_of
  obtain ⟨f_arms_of, e_arms_of, D_arms_of⟩ := A.d_arms_of
  obtain ⟨f_want_compared, e_want_compared, D_want_compared⟩ := A.d_want_compared
  obtain ⟨f_want_two, e_want_two, D_want_two⟩ := A.d_want_two
  obtain ⟨f_settled, e_settled, D_settled⟩ := A.d_settled
  obtain ⟨f_canon_of, e_canon_of, D_canon_of⟩ := A.d_canon_of
  obtain ⟨f_are_alike_kinds, e_are_alike_kinds, D_are_alike_kinds⟩ := A.d_are_alike_kinds
  obtain ⟨f_too_great, e_too_great, D_too_great⟩ := A.d_too_great
  obtain ⟨f_want_digits, e_want_digits, D_want_digits⟩ := A.d_want_digits
  obtain ⟨f_power_of, e_power_of, D_power_of⟩ := A.d_power_of
  obtain ⟨f_size_by, e_size_by, D_size_by⟩ := A.d_size_by
  obtain ⟨f_tried_sizes, e_tried_sizes, D_tried_sizes⟩ := A.d_tried_sizes
  obtain ⟨f_size_or_none, e_size_or_none, D_size_or_none⟩ := A.d_size_or_none
  obtain ⟨f_unlike_sizes, e_unlike_sizes, D_unlike_sizes⟩ := A.d_unlike_sizes
  obtain ⟨f__law_pot, e__law_pot, D__law_pot⟩ := A.d__law_pot
  obtain ⟨f__law_draw, e__law_draw, D__law_draw⟩ := A.d__law_draw
  obtain ⟨f__law_pick, e__law_pick, D__law_pick⟩ := A.d__law_pick
  obtain ⟨f__law_leaf, e__law_leaf, D__law_leaf⟩ := A.d__law_leaf
  obtain ⟨f__law_signs, e__law_signs, D__law_signs⟩ := A.d__law_signs
  obtain ⟨f__law_depth, e__law_depth, D__law_depth⟩ := A.d__law_depth
  obtain ⟨f__law_pure, e__law_pure, D__law_pure⟩ := A.d__law_pure
  obtain ⟨f__law_likened, e__law_likened, D__law_likened⟩ := A.d__law_likened
  obtain ⟨f__law_two, e__law_two, D__law_two⟩ := A.d__law_two
  obtain ⟨f__law_most, e__law_most, D__law_most⟩ := A.d__law_most
  obtain ⟨f__law_power, e__law_power, D__law_power⟩ := A.d__law_power
  obtain ⟨f__law_size, e__law_size, D__law_size⟩ := A.d__law_size
  obtain ⟨f__law_letters, e__law_letters, D__law_letters⟩ := A.d__law_letters
  obtain ⟨f__law_tried, e__law_tried, D__law_tried⟩ := A.d__law_tried
  obtain ⟨f__law_due, e__law_due, D__law_due⟩ := A.d__law_due
  obtain ⟨f__law_heard, e__law_heard, D__law_heard⟩ := A.d__law_heard
  obtain ⟨f__law_two_right, e__law_two_right, D__law_two_right⟩ := A.d__law_two_right
  obtain ⟨f__law_otherwise, e__law_otherwise, D__law_otherwise⟩ := A.d__law_otherwise
  obtain ⟨f_law, e_law, D_law⟩ := A.d_law
  obtain ⟨f_r, co, e_r, D_r, hc, hh⟩ := A.d__law_right
  obtain ⟨aD, T⟩ := A.cs
  obtain ⟨C, L, fI, fdI, M⟩ := A.tm
  obtain rfl : fa = f_law := by
    have z := e.symm.trans D_law.m
    cases z
    rfl
  have bl : ∀ (s : Shared) (u : Value), BindsTo s e_law ⟨[u], []⟩ [("script", u)] := by
    obtain ⟨oc, od, kV, doc, pm, an, cdv, ct, osl, rfl, lk, hcd⟩ := D_law.fn.ex
    exact fun s u => .of_eq rfl
  refine ⟨e_law, co, hh, bl, fun base TBb => ?_⟩
  have G_is_integer := ok_is_integer (P := P) (w := w) (base := base) D_is_integer T
  have G_is_count := ok_is_count D_is_count D_is_integer T G_is_integer
  have G_wam0 := ok_want_at_most (P := P) (w := w) (base := base) D_want_at_most
  have G_is_shaped := ok_is_shaped D_is_shaped D_is_count T G_is_count 12
  have G_signs_of := ok_signs_of (P := P) (w := w) (base := base) D_signs_of T 12
  have G_is_kind := ok_is_kind D_is_kind D_is_shaped D_signs_of T G_is_shaped G_signs_of
  have G_want_kind := ok_want_kind D_want_kind D_is_kind G_is_kind
  have G_is_pure_of := ok_is_pure_of (P := P) (w := w) (base := base) D_is_pure_of T 12
  have G_arms_of := ok_arms_of (P := P) (w := w) (base := base) D_arms_of T 12
  have G_settled := ok_settled (P := P) (w := w) (base := base) D_settled T 12
  have G_canon_of := ok_canon_of D_canon_of D_arms_of D_settled T G_arms_of G_settled
  have G_want_compared := ok_want_compared D_want_compared D_is_pure_of D_signs_of D_want_at_most T G_is_pure_of G_signs_of G_wam0
  have G_want_two := ok_want_two D_want_two D_want_kind D_want_compared G_want_kind G_want_compared
  have G_alike := ok_are_alike_kinds D_are_alike_kinds D_want_two D_canon_of G_want_two G_canon_of
  have G_init := ok_init (P := P) (w := w) (base := base) M
  have G_wam := ok_wam D_want_at_most M G_init
  have G_too_great := ok_too_great (P := P) (w := w) (base := base) D_too_great T
  have G_want_digits := ok_want_digits D_want_digits D_too_great T M G_init G_too_great
  have G_power_of := ok_power_of D_power_of D_want_digits D_too_great T G_want_digits G_too_great
  have G_size_by := ok_size_by D_size_by D_want_digits D_power_of T G_want_digits G_power_of 12
  have G_size_or_none := ok_size_or_none D_size_or_none D_size_by M G_size_by
  have G_letters_of := ok_letters_of (P := P) (w := w) (base := base) D_letters_of T 12
  have G__law_letters := ok__law_letters (P := P) (w := w) (base := base) D__law_letters T 13
  have G_tried_sizes := ok_tried_sizes (P := P) (w := w) (base := base) D_tried_sizes T
  have G__law_tried := ok__law_tried (P := P) (w := w) (base := base) D__law_tried T
  have G_unlike := ok_unlike_sizes D_unlike_sizes D_want_two D_letters_of D_want_at_most D_tried_sizes D_size_or_none T G_want_two G_letters_of G_wam G_tried_sizes G_size_or_none
  have G__law_most := ok__law_most (P := P) (w := w) (base := base) D__law_most
  have G__law_power := ok__law_power D__law_power D__law_most T G__law_most
  have G__law_size := ok__law_size D__law_size D__law_most D__law_power G__law_most G__law_power 12
  have G__law_due := ok__law_due D__law_due D__law_letters D__law_tried D__law_size G__law_letters G__law_tried G__law_size
  have G__law_draw := ok__law_draw (P := P) (w := w) (base := base) D__law_draw T
  have G__law_pick := ok__law_pick D__law_pick D__law_draw T G__law_draw
  have G__law_leaf := ok__law_leaf D__law_leaf D__law_pick G__law_pick
  have G__law_signs := ok__law_signs (P := P) (w := w) (base := base) D__law_signs T 11
  have G__law_depth := ok__law_depth (P := P) (w := w) (base := base) D__law_depth T 11
  have G_pure := ok__law_pure D__law_pure D__law_draw D__law_leaf D__law_pick G__law_draw G__law_leaf G__law_pick
  have G__law_otherwise := ok__law_otherwise D__law_otherwise D__law_draw D__law_pure T G__law_draw (G_pure 1) 10
  have G__law_likened := ok__law_likened D__law_likened D__law_draw D__law_pick T G__law_draw G__law_pick 10
  have G__law_two := ok__law_two D__law_two D__law_pure D__law_signs D__law_draw D__law_likened D__law_depth T (G_pure 3) (G_pure 2) G__law_signs G__law_draw G__law_likened G__law_depth
  have G__law_pot := ok__law_pot (P := P) (w := w) (base := base) D__law_pot T
  have G__law_two_right := ok__law_two_right D__law_two_right D__law_due D_unlike_sizes D_are_alike_kinds T (kb_mk D_unlike_sizes.fn) G__law_due G_unlike G_alike
  have G__law_right := ok__law_right (TB := [(Pt, lamName)]) D_r D__law_two D_unlike_sizes D__law_two_right D__law_otherwise D__law_pure D__law_pick D__law_heard T M TBb hc (List.mem_singleton.mpr rfl) (fun p hp _ => by rw [List.mem_singleton.mp hp]) G__law_two G_unlike G__law_two_right G__law_otherwise (G_pure 2) G__law_pick
  exact ok_law D_law D_r D__law_pot T (by omega) G__law_right G__law_pot
end T84

/-! zp84 -/
open PySem PySem.W PyProof.Rows
set_option maxRecDepth 100000 in
set_option maxHeartbeats 0 in
theorem PySem.Challenge.cw_hasprograms_k84_whole_unlike_sizes_holds : PySem.Challenge.rw_hasprograms_k84_whole_unlike_sizes.Holds := by
  refine hd84 ?_
  k_fill
  refine LamG.walkG (n := 63) (k := 22) (CX := fun _ => L2.CX0) (x := "script") rfl (by decide) rfl ⟨rfl, by decide, by decide⟩ (fun w h Y => PySem.W.km_in_of Y) ?F (fun _ _ _ _ _ z => z)
  case F =>
    intro w mg fa h Y KX G hmg
    have hP := PySem.W.km_tabs_of Y 386 (by simp)
    have nP : (hd84.heap_39 w.params).lookup 386 = none := by kernel_rfl
    have d_is_integer : ∃ (f : Addr) (fd : FuncData), T84.FD (hd84.heap_39 w.params) mg "is_integer" T84.s_is_integer ["value"] f fd := by
      refine' T84.fd_mk KX G ?a ?l ?c ?k fun _ _ _ _ _ _ us hl => match us, hl with | [_], _ => rfl
      (case a => k_is); (case l => k_is); (case c => k_is); (case k => k_is)
    have d_is_count : ∃ (f : Addr) (fd : FuncData), T84.FD (hd84.heap_39 w.params) mg "is_count" T84.s_is_count ["value"] f fd := by
      refine' T84.fd_mk KX G ?a ?l ?c ?k fun _ _ _ _ _ _ us hl => match us, hl with | [_], _ => rfl
      (case a => k_is); (case l => k_is); (case c => k_is); (case k => k_is)
    have d_want_at_most : ∃ (f : Addr) (fd : FuncData), T84.FD (hd84.heap_39 w.params) mg "want_at_most" T84.s_want_at_most ["what", "limit", "number"] f fd := by
      refine' T84.fd_mk KX G ?a ?l ?c ?k fun _ _ _ _ _ _ us hl => match us, hl with | [_, _, _], _ => rfl
      (case a => k_is); (case l => k_is); (case c => k_is); (case k => k_is)
    have d_is_shaped : ∃ (f : Addr) (fd : FuncData), T84.FD (hd84.heap_39 w.params) mg "is_shaped" T84.s_is_shaped ["value", "deep"] f fd := by
      refine' T84.fd_mk KX G ?a ?l ?c ?k fun _ _ _ _ _ _ us hl => match us, hl with | [_, _], _ => rfl
      (case a => k_is); (case l => k_is); (case c => k_is); (case k => k_is)
    have d_signs_of : ∃ (f : Addr) (fd : FuncData), T84.FD (hd84.heap_39 w.params) mg "signs_of" T84.s_signs_of ["kind"] f fd := by
      refine' T84.fd_mk KX G ?a ?l ?c ?k fun _ _ _ _ _ _ us hl => match us, hl with | [_], _ => rfl
      (case a => k_is); (case l => k_is); (case c => k_is); (case k => k_is)
    have d_is_kind : ∃ (f : Addr) (fd : FuncData), T84.FD (hd84.heap_39 w.params) mg "is_kind" T84.s_is_kind ["value"] f fd := by
      refine' T84.fd_mk KX G ?a ?l ?c ?k fun _ _ _ _ _ _ us hl => match us, hl with | [_], _ => rfl
      (case a => k_is); (case l => k_is); (case c => k_is); (case k => k_is)
    have d_want_kind : ∃ (f : Addr) (fd : FuncData), T84.FD (hd84.heap_39 w.params) mg "want_kind" T84.s_want_kind ["value"] f fd := by
      refine' T84.fd_mk KX G ?a ?l ?c ?k fun _ _ _ _ _ _ us hl => match us, hl with | [_], _ => rfl
      (case a => k_is); (case l => k_is); (case c => k_is); (case k => k_is)
    have d_letters_of : ∃ (f : Addr) (fd : FuncData), T84.FD (hd84.heap_39 w.params) mg "letters_of" T84.s_letters_of ["kind"] f fd := by
      refine' T84.fd_mk KX G ?a ?l ?c ?k fun _ _ _ _ _ _ us hl => match us, hl with | [_], _ => rfl
      (case a => k_is); (case l => k_is); (case c => k_is); (case k => k_is)
    have d_is_pure_of : ∃ (f : Addr) (fd : FuncData), T84.FD (hd84.heap_39 w.params) mg "is_pure_of" T84.s_is_pure_of ["kind"] f fd := by
      refine' T84.fd_mk KX G ?a ?l ?c ?k fun _ _ _ _ _ _ us hl => match us, hl with | [_], _ => rfl
      (case a => k_is); (case l => k_is); (case c => k_is); (case k => k_is)
    have d_arms_of : ∃ (f : Addr) (fd : FuncData), T84.FD (hd84.heap_39 w.params) mg "arms_of" T84.s_arms_of ["kind"] f fd := by
      refine' T84.fd_mk KX G ?a ?l ?c ?k fun _ _ _ _ _ _ us hl => match us, hl with | [_], _ => rfl
      (case a => k_is); (case l => k_is); (case c => k_is); (case k => k_is)
    have d_want_compared : ∃ (f : Addr) (fd : FuncData), T84.FD (hd84.heap_39 w.params) mg "want_compared" T84.s_want_compared ["kinds"] f fd := by
      refine' T84.fd_mk KX G ?a ?l ?c ?k fun _ _ _ _ _ _ us hl => match us, hl with | [_], _ => rfl
      (case a => k_is); (case l => k_is); (case c => k_is); (case k => k_is)
    have d_want_two : ∃ (f : Addr) (fd : FuncData), T84.FD (hd84.heap_39 w.params) mg "want_two" T84.s_want_two ["kind", "other"] f fd := by
      refine' T84.fd_mk KX G ?a ?l ?c ?k fun _ _ _ _ _ _ us hl => match us, hl with | [_, _], _ => rfl
      (case a => k_is); (case l => k_is); (case c => k_is); (case k => k_is)
    have d_settled : ∃ (f : Addr) (fd : FuncData), T84.FD (hd84.heap_39 w.params) mg "settled" T84.s_settled ["arm"] f fd := by
      refine' T84.fd_mk KX G ?a ?l ?c ?k fun _ _ _ _ _ _ us hl => match us, hl with | [_], _ => rfl
      (case a => k_is); (case l => k_is); (case c => k_is); (case k => k_is)
    have d_canon_of : ∃ (f : Addr) (fd : FuncData), T84.FD (hd84.heap_39 w.params) mg "canon_of" T84.s_canon_of ["kind"] f fd := by
      refine' T84.fd_mk KX G ?a ?l ?c ?k fun _ _ _ _ _ _ us hl => match us, hl with | [_], _ => rfl
      (case a => k_is); (case l => k_is); (case c => k_is); (case k => k_is)
    have d_are_alike_kinds : ∃ (f : Addr) (fd : FuncData), T84.FD (hd84.heap_39 w.params) mg "are_alike_kinds" T84.s_are_alike_kinds ["kind", "other"] f fd := by
      refine' T84.fd_mk KX G ?a ?l ?c ?k fun _ _ _ _ _ _ us hl => match us, hl with | [_, _], _ => rfl
      (case a => k_is); (case l => k_is); (case c => k_is); (case k => k_is)
    have d_too_great : ∃ (f : Addr) (fd : FuncData), T84.FD (hd84.heap_39 w.params) mg "too_great" T84.s_too_great [] f fd := by
      refine' T84.fd_mk KX G ?a ?l ?c ?k fun _ _ _ _ _ _ us hl => match us, hl with | [], _ => rfl
      (case a => k_is); (case l => k_is); (case c => k_is); (case k => k_is)
    have d_want_digits : ∃ (f : Addr) (fd : FuncData), T84.FD (hd84.heap_39 w.params) mg "want_digits" T84.s_want_digits ["number"] f fd := by
      refine' T84.fd_mk KX G ?a ?l ?c ?k fun _ _ _ _ _ _ us hl => match us, hl with | [_], _ => rfl
      (case a => k_is); (case l => k_is); (case c => k_is); (case k => k_is)
    have d_power_of : ∃ (f : Addr) (fd : FuncData), T84.FD (hd84.heap_39 w.params) mg "power_of" T84.s_power_of ["number", "many"] f fd := by
      refine' T84.fd_mk KX G ?a ?l ?c ?k fun _ _ _ _ _ _ us hl => match us, hl with | [_, _], _ => rfl
      (case a => k_is); (case l => k_is); (case c => k_is); (case k => k_is)
    have d_size_by : ∃ (f : Addr) (fd : FuncData), T84.FD (hd84.heap_39 w.params) mg "size_by" T84.s_size_by ["kind", "sizes"] f fd := by
      refine' T84.fd_mk KX G ?a ?l ?c ?k fun _ _ _ _ _ _ us hl => match us, hl with | [_, _], _ => rfl
      (case a => k_is); (case l => k_is); (case c => k_is); (case k => k_is)
    have d_tried_sizes : ∃ (f : Addr) (fd : FuncData), T84.FD (hd84.heap_39 w.params) mg "tried_sizes" T84.s_tried_sizes ["letters"] f fd := by
      refine' T84.fd_mk KX G ?a ?l ?c ?k fun _ _ _ _ _ _ us hl => match us, hl with | [_], _ => rfl
      (case a => k_is); (case l => k_is); (case c => k_is); (case k => k_is)
    have d_size_or_none : ∃ (f : Addr) (fd : FuncData), T84.FD (hd84.heap_39 w.params) mg "size_or_none" T84.s_size_or_none ["kind", "sizes"] f fd := by
      refine' T84.fd_mk KX G ?a ?l ?c ?k fun _ _ _ _ _ _ us hl => match us, hl with | [_, _], _ => rfl
      (case a => k_is); (case l => k_is); (case c => k_is); (case k => k_is)
    have d_unlike_sizes : ∃ (f : Addr) (fd : FuncData), T84.FD (hd84.heap_39 w.params) mg "unlike_sizes" T84.s_unlike_sizes ["kind", "other"] f fd := by
      refine' T84.fd_mk KX G ?a ?l ?c ?k fun _ _ _ _ _ _ us hl => match us, hl with | [_, _], _ => rfl
      (case a => k_is); (case l => k_is); (case c => k_is); (case k => k_is)
    have d__law_pot : ∃ (f : Addr) (fd : FuncData), T84.FD (hd84.heap_39 w.params) mg "_law_pot" T84.s__law_pot ["script", "k"] f fd := by
      refine' T84.fd_mk KX G ?a ?l ?c ?k fun _ _ _ _ _ _ us hl => match us, hl with | [_, _], _ => rfl
      (case a => k_is); (case l => k_is); (case c => k_is); (case k => k_is)
    have d__law_draw : ∃ (f : Addr) (fd : FuncData), T84.FD (hd84.heap_39 w.params) mg "_law_draw" T84.s__law_draw ["pot", "many"] f fd := by
      refine' T84.fd_mk KX G ?a ?l ?c ?k fun _ _ _ _ _ _ us hl => match us, hl with | [_, _], _ => rfl
      (case a => k_is); (case l => k_is); (case c => k_is); (case k => k_is)
    have d__law_pick : ∃ (f : Addr) (fd : FuncData), T84.FD (hd84.heap_39 w.params) mg "_law_pick" T84.s__law_pick ["pot", "some"] f fd := by
      refine' T84.fd_mk KX G ?a ?l ?c ?k fun _ _ _ _ _ _ us hl => match us, hl with | [_, _], _ => rfl
      (case a => k_is); (case l => k_is); (case c => k_is); (case k => k_is)
    have d__law_leaf : ∃ (f : Addr) (fd : FuncData), T84.FD (hd84.heap_39 w.params) mg "_law_leaf" T84.s__law_leaf ["pot"] f fd := by
      refine' T84.fd_mk KX G ?a ?l ?c ?k fun _ _ _ _ _ _ us hl => match us, hl with | [_], _ => rfl
      (case a => k_is); (case l => k_is); (case c => k_is); (case k => k_is)
    have d__law_signs : ∃ (f : Addr) (fd : FuncData), T84.FD (hd84.heap_39 w.params) mg "_law_signs" T84.s__law_signs ["kind"] f fd := by
      refine' T84.fd_mk KX G ?a ?l ?c ?k fun _ _ _ _ _ _ us hl => match us, hl with | [_], _ => rfl
      (case a => k_is); (case l => k_is); (case c => k_is); (case k => k_is)
    have d__law_depth : ∃ (f : Addr) (fd : FuncData), T84.FD (hd84.heap_39 w.params) mg "_law_depth" T84.s__law_depth ["kind"] f fd := by
      refine' T84.fd_mk KX G ?a ?l ?c ?k fun _ _ _ _ _ _ us hl => match us, hl with | [_], _ => rfl
      (case a => k_is); (case l => k_is); (case c => k_is); (case k => k_is)
    have d__law_pure : ∃ (f : Addr) (fd : FuncData), T84.FD (hd84.heap_39 w.params) mg "_law_pure" T84.s__law_pure ["pot", "fuel"] f fd := by
      refine' T84.fd_mk KX G ?a ?l ?c ?k fun _ _ _ _ _ _ us hl => match us, hl with | [_, _], _ => rfl
      (case a => k_is); (case l => k_is); (case c => k_is); (case k => k_is)
    have d__law_likened : ∃ (f : Addr) (fd : FuncData), T84.FD (hd84.heap_39 w.params) mg "_law_likened" T84.s__law_likened ["pot", "kind"] f fd := by
      refine' T84.fd_mk KX G ?a ?l ?c ?k fun _ _ _ _ _ _ us hl => match us, hl with | [_, _], _ => rfl
      (case a => k_is); (case l => k_is); (case c => k_is); (case k => k_is)
    have d__law_two : ∃ (f : Addr) (fd : FuncData), T84.FD (hd84.heap_39 w.params) mg "_law_two" T84.s__law_two ["pot", "most"] f fd := by
      refine' T84.fd_mk KX G ?a ?l ?c ?k fun _ _ _ _ _ _ us hl => match us, hl with | [_, _], _ => rfl
      (case a => k_is); (case l => k_is); (case c => k_is); (case k => k_is)
    have d__law_most : ∃ (f : Addr) (fd : FuncData), T84.FD (hd84.heap_39 w.params) mg "_law_most" T84.s__law_most [] f fd := by
      refine' T84.fd_mk KX G ?a ?l ?c ?k fun _ _ _ _ _ _ us hl => match us, hl with | [], _ => rfl
      (case a => k_is); (case l => k_is); (case c => k_is); (case k => k_is)
    have d__law_power : ∃ (f : Addr) (fd : FuncData), T84.FD (hd84.heap_39 w.params) mg "_law_power" T84.s__law_power ["number", "many"] f fd := by
      refine' T84.fd_mk KX G ?a ?l ?c ?k fun _ _ _ _ _ _ us hl => match us, hl with | [_, _], _ => rfl
      (case a => k_is); (case l => k_is); (case c => k_is); (case k => k_is)
    have d__law_size : ∃ (f : Addr) (fd : FuncData), T84.FD (hd84.heap_39 w.params) mg "_law_size" T84.s__law_size ["kind", "sizes"] f fd := by
      refine' T84.fd_mk KX G ?a ?l ?c ?k fun _ _ _ _ _ _ us hl => match us, hl with | [_, _], _ => rfl
      (case a => k_is); (case l => k_is); (case c => k_is); (case k => k_is)
    have d__law_letters : ∃ (f : Addr) (fd : FuncData), T84.FD (hd84.heap_39 w.params) mg "_law_letters" T84.s__law_letters ["kind"] f fd := by
      refine' T84.fd_mk KX G ?a ?l ?c ?k fun _ _ _ _ _ _ us hl => match us, hl with | [_], _ => rfl
      (case a => k_is); (case l => k_is); (case c => k_is); (case k => k_is)
    have d__law_tried : ∃ (f : Addr) (fd : FuncData), T84.FD (hd84.heap_39 w.params) mg "_law_tried" T84.s__law_tried ["letters"] f fd := by
      refine' T84.fd_mk KX G ?a ?l ?c ?k fun _ _ _ _ _ _ us hl => match us, hl with | [_], _ => rfl
      (case a => k_is); (case l => k_is); (case c => k_is); (case k => k_is)
    have d__law_due : ∃ (f : Addr) (fd : FuncData), T84.FD (hd84.heap_39 w.params) mg "_law_due" T84.s__law_due ["one", "other"] f fd := by
      refine' T84.fd_mk KX G ?a ?l ?c ?k fun _ _ _ _ _ _ us hl => match us, hl with | [_, _], _ => rfl
      (case a => k_is); (case l => k_is); (case c => k_is); (case k => k_is)
    have d__law_heard : ∃ (f : Addr) (fd : FuncData), T84.FD (hd84.heap_39 w.params) mg "_law_heard" T84.s__law_heard ["call"] f fd := by
      refine' T84.fd_mk KX G ?a ?l ?c ?k fun _ _ _ _ _ _ us hl => match us, hl with | [_], _ => rfl
      (case a => k_is); (case l => k_is); (case c => k_is); (case k => k_is)
    have d__law_two_right : ∃ (f : Addr) (fd : FuncData), T84.FD (hd84.heap_39 w.params) mg "_law_two_right" T84.s__law_two_right ["one", "other"] f fd := by
      refine' T84.fd_mk KX G ?a ?l ?c ?k fun _ _ _ _ _ _ us hl => match us, hl with | [_, _], _ => rfl
      (case a => k_is); (case l => k_is); (case c => k_is); (case k => k_is)
    have d__law_otherwise : ∃ (f : Addr) (fd : FuncData), T84.FD (hd84.heap_39 w.params) mg "_law_otherwise" T84.s__law_otherwise ["pot", "kind"] f fd := by
      refine' T84.fd_mk KX G ?a ?l ?c ?k fun _ _ _ _ _ _ us hl => match us, hl with | [_, _], _ => rfl
      (case a => k_is); (case l => k_is); (case c => k_is); (case k => k_is)
    have d_law : ∃ (f : Addr) (fd : FuncData), T84.FD (hd84.heap_39 w.params) mg "law" T84.s_law ["script"] f fd := by
      refine' T84.fd_mk KX G ?a ?l ?c ?k fun _ _ _ _ _ _ us hl => match us, hl with | [_], _ => rfl
      (case a => k_is); (case l => k_is); (case c => k_is); (case k => k_is)
    have d__law_right : ∃ (f co : Addr) (fd : FuncData), T84.FD (hd84.heap_39 w.params) mg "_law_right" T84.s__law_right ["pot"] f fd ∧ fd.code = .ref co ∧ PySem.W.CodeHd h co 386 := by
      refine' T84.fd_mkc KX G ?a ?l ?c ?k ?z fun _ _ _ _ _ _ us hl => match us, hl with | [_], _ => rfl
      (case a => k_is); (case l => k_is); (case c => k_is); (case k => k_is); (case z => kernel_rfl)
    have cs : ∃ a : Addr, T84.Cs (hd84.heap_39 w.params) mg a := by
      refine' T84.cs_mk KX G ?d ?l ?c0 ?c1 ?c2 ?c3 ?c4 ?c5 ?c6 ?c7 ?c8 ?c9 ?c10 ?c11 ?c12 ?z0 ?z1 ?z2 ?z3 ?z4 ?z5 ?z6 ?z7 ?z8 ?z9 ?z10 ?z11 ?z12 ?z13 ?z14 ?z15
      (case d => k_is); (case l => k_is); (case c0 => k_is); (case c1 => k_is); (case c2 => k_is); (case c3 => k_is); (case c4 => k_is); (case c5 => k_is); (case c6 => k_is); (case c7 => k_is); (case c8 => k_is); (case c9 => k_is); (case c10 => k_is); (case c11 => k_is); (case c12 => k_is); (case z0 => k_is); (case z1 => k_is); (case z2 => k_is); (case z3 => k_is); (case z4 => k_is); (case z5 => k_is); (case z6 => k_is); (case z7 => k_is); (case z8 => k_is); (case z9 => k_is); (case z10 => k_is); (case z11 => k_is); (case z12 => k_is); (case z13 => k_is); (case z14 => k_is); (case z15 => k_is)
    have tm : ∃ (C L fI : Addr) (fdI : FuncData), T84.Tm (hd84.heap_39 w.params) mg C L fI fdI := by
      refine' T84.tm_mk KX G ?gC ?gL ?xL ?sa ?ga ?gg ?nw ?nl ?eC ?tC ?kC ?hC ?sC ?sL ?eL ?tL ?hL ?iC ?tI ?l ?c ?k
      (case gC => k_is); (case gL => k_is); (case xL => k_is); (case sa => k_is); (case ga => k_is); (case gg => k_is); (case nw => k_is); (case nl => k_is); (case eC => k_is); (case tC => k_is); (case kC => k_is); (case hC => k_is); (case sC => first | rfl | k_is); (case sL => k_is); (case eL => k_is); (case tL => k_is); (case hL => k_is); (case iC => k_is); (case tI => k_is); (case l => k_is); (case c => k_is); (case k => k_is)
    have A : T84.All (hd84.heap_39 w.params) mg h 386 := ⟨d_is_integer, d_is_count, d_want_at_most, d_is_shaped, d_signs_of, d_is_kind, d_want_kind, d_letters_of, d_is_pure_of, d_arms_of, d_want_compared, d_want_two, d_settled, d_canon_of, d_are_alike_kinds, d_too_great, d_want_digits, d_power_of, d_size_by, d_tried_sizes, d_size_or_none, d_unlike_sizes, d__law_pot, d__law_draw, d__law_pick, d__law_leaf, d__law_signs, d__law_depth, d__law_pure, d__law_likened, d__law_two, d__law_most, d__law_power, d__law_size, d__law_letters, d__law_tried, d__law_due, d__law_heard, d__law_two_right, d__law_otherwise, d_law, d__law_right, cs, tm⟩
    have e : mg "law" = some (.ref fa) := hmg
    obtain ⟨fd, co, hh, bd, f⟩ := T84.law_all (P := PySem.Challenge.rw_hasprograms_k84_whole_unlike_sizes.prog) (w := w) A e
    refine ⟨fd, [(co, 386)], T84.sp_law (hd84.heap_39 w.params) [(386, T84.lamName)], ⟨fun p hp => ?_, fun p hp => ?_, fun p hp => ?_⟩, bd, fun H a ns _ t q => ⟨a, ns, rfl, q, fun p hp => ?_, fun _ => rfl⟩, fun base _ _ tb => f base (tb (co, 386) (List.mem_singleton.mpr rfl))⟩
    · rw [List.mem_singleton.mp hp]; exact hP
    · rw [List.mem_singleton.mp hp]; exact nP
    · rw [List.mem_singleton.mp hp]; exact hh
    · rw [List.mem_singleton.mp hp]; exact .nil (t (co, 386) (List.mem_singleton.mpr rfl))
