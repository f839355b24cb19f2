import PyProof.Rows.All
import Wide.All
import OpenK.AllK
import Wide.FinOn
import HandS.ForMost
import HandS.Conv
import HandS.IsInst
import HandS.SetKeys
import HandS.Style
import HandS.Evl
import PySem.Challenge.RW_wrecktold_k27_whole_no_way_has_fewer_loo
set_option Elab.async false
set_option linter.all false
set_option maxRecDepth 100000
set_option maxHeartbeats 4000000
namespace K27
/-- the last number below c that lies in slot s of a ring of n (where there is one) -/
def cellN (n c s : Nat) : Nat := c - 1 - (c - 1 - s) % n
/-- a full row behind c blocks -/
def rowN (n c : Nat) : List Nat := (List.range n).map fun s => cellN n c s
/-- the counts from a on, m of them -/
def ivl (a m : Nat) : List Nat := (List.range m).map fun i => a + i
/-- one more count put under what its slot shows -/
def gput : List (Nat × List Nat) → Nat → Nat → List (Nat × List Nat)
  | [], k, c => [(k, [c])]
  | (j, l) :: r, k, c => if j = k then (j, l ++ [c]) :: r else (j, l) :: gput r k c
/-- the counts by what slot s shows, in the order in which they are met -/
def grp (n s : Nat) (cs : List Nat) : List (Nat × List Nat) := cs.foldl (fun g c => gput g (cellN n c s) c) []
/-- how many looks some neighbouring counts need at worst, by how many they are -/
def tab : Nat → List Nat
  | 2 => [0, 0, 1, 2, 2, 2, 2]
  | 3 => [0, 0, 1, 2, 2, 3, 3, 3, 3, 3]
  | 4 => [0, 0, 1, 2, 2, 3, 3, 3, 3, 3, 3, 3, 3]
  | 5 => [0, 0, 1, 2, 2, 3, 3, 3, 3, 4, 4, 4, 4, 4, 4, 4]
  | _ => []
def val (n : Nat) (l : List Nat) : Nat := (tab n).getD l.length 0
def maxN : List Nat → Nat
  | [] => 0
  | x :: r => max x (maxN r)
/-- what is found behind one more slot -/
def nextF (n s : Nat) (cs : List Nat) (f : Option Nat) : Option Nat :=
  if 1 < (grp n s cs).length then
    match f with
    | none => some (maxN ((grp n s cs).map fun q => val n q.2) + 1)
    | some x => some (if maxN ((grp n s cs).map fun q => val n q.2) + 1 < x then maxN ((grp n s cs).map fun q => val n q.2) + 1 else x)
  else f
def foundAt (n : Nat) (cs : List Nat) : Nat → Option Nat
  | 0 => none
  | s + 1 => nextF n s cs (foundAt n cs s)
/-- a group is a shorter interval within -/
def okQ (a m : Nat) (q : Nat × List Nat) : Bool :=
  decide (q.2 = ivl (q.2.headD 0) q.2.length) && decide (q.2.length < m) && decide (1 ≤ q.2.length) && decide (a ≤ q.2.headD 0) && decide (q.2.headD 0 + q.2.length ≤ a + m)
def chkI (n a m : Nat) : Bool :=
  decide (foundAt n (ivl a m) n = some (val n (ivl a m))) && (List.range n).all fun s => decide ((grp n s (ivl a m)).length ≤ 1) || (grp n s (ivl a m)).all (okQ a m)
def chkN (n : Nat) : Bool :=
  (List.range (8 * n)).all fun a => decide (a < n) || (List.range (3 * n + 1)).all fun m => decide (m < 2) || decide (8 * n < a + m) || chkI n a m
theorem chk2 : chkN 2 = true := by decide +kernel
theorem chk3 : chkN 3 = true := by decide +kernel
theorem chk4 : chkN 4 = true := by decide +kernel
theorem chk5 : chkN 5 = true := by decide +kernel
theorem four {n : Nat} (h2 : 2 ≤ n) (h5 : n ≤ 5) : n = 2 ∨ n = 3 ∨ n = 4 ∨ n = 5 := by omega
theorem chk_all {n : Nat} (h2 : 2 ≤ n) (h5 : n ≤ 5) : chkN n = true := by
  rcases four h2 h5 with rfl | rfl | rfl | rfl
  · exact chk2
  · exact chk3
  · exact chk4
  · exact chk5
theorem chk_at {n a m : Nat} (h2 : 2 ≤ n) (h5 : n ≤ 5) (ha : n ≤ a) (hm : 2 ≤ m) (hm3 : m ≤ 3 * n) (hb : a + m ≤ 8 * n) : chkI n a m = true := by
  have h := chk_all h2 h5
  unfold chkN at h
  have h1 := List.all_eq_true.mp h a (List.mem_range.mpr (by omega))
  rw [decide_eq_false (show ¬ a < n by omega), Bool.false_or] at h1
  have h2' := List.all_eq_true.mp h1 m (List.mem_range.mpr (by omega))
  rw [decide_eq_false (show ¬ m < 2 by omega), decide_eq_false (show ¬ 8 * n < a + m by omega), Bool.false_or, Bool.false_or] at h2'
  exact h2'
/-- the one-turn equation -/
theorem found_val {n a m : Nat} (h2 : 2 ≤ n) (h5 : n ≤ 5) (ha : n ≤ a) (hm : 2 ≤ m) (hm3 : m ≤ 3 * n) (hb : a + m ≤ 8 * n) : foundAt n (ivl a m) n = some (val n (ivl a m)) := by
  have h := chk_at h2 h5 ha hm hm3 hb
  unfold chkI at h
  rw [Bool.and_eq_true] at h
  exact of_decide_eq_true h.1
/-- what the groups are -/
theorem grp_ok {n a m s : Nat} (h2 : 2 ≤ n) (h5 : n ≤ 5) (ha : n ≤ a) (hm : 2 ≤ m) (hm3 : m ≤ 3 * n) (hb : a + m ≤ 8 * n) (hs : s < n) (hg : 1 < (grp n s (ivl a m)).length) {q : Nat × List Nat} (hq : q ∈ grp n s (ivl a m)) :
    ∃ b k : Nat, q.2 = ivl b k ∧ k < m ∧ 1 ≤ k ∧ a ≤ b ∧ b + k ≤ a + m := by
  have h := chk_at h2 h5 ha hm hm3 hb
  unfold chkI at h
  rw [Bool.and_eq_true] at h
  have h1 := List.all_eq_true.mp h.2 s (List.mem_range.mpr hs)
  rw [decide_eq_false (show ¬ (grp n s (ivl a m)).length ≤ 1 by omega), Bool.false_or] at h1
  have h3 := List.all_eq_true.mp h1 q hq
  unfold okQ at h3
  simp only [Bool.and_eq_true, decide_eq_true_eq] at h3
  obtain ⟨⟨⟨⟨e1, e2⟩, e3⟩, e4⟩, e5⟩ := h3
  exact ⟨_, _, e1, e2, e3, e4, e5⟩
theorem ivl_len (a m : Nat) : (ivl a m).length = m := by
  unfold ivl
  rw [List.length_map, List.length_range]
theorem ivl_get {a m i : Nat} (h : i < m) : (ivl a m)[i]? = some (a + i) := by
  unfold ivl
  rw [List.getElem?_map, List.getElem?_range h]
  rfl
theorem ivl_mem {a m c : Nat} : c ∈ ivl a m ↔ a ≤ c ∧ c < a + m := by
  unfold ivl
  rw [List.mem_map]
  constructor
  · rintro ⟨i, hi, rfl⟩
    have := List.mem_range.mp hi
    omega
  · rintro ⟨h1, h2⟩
    exact ⟨c - a, List.mem_range.mpr (by omega), by omega⟩
theorem rowN_len (n c : Nat) : (rowN n c).length = n := by
  unfold rowN
  rw [List.length_map, List.length_range]
theorem rowN_get {n c s : Nat} (h : s < n) : (rowN n c)[s]? = some (cellN n c s) := by
  unfold rowN
  rw [List.getElem?_map, List.getElem?_range h]
  rfl
theorem gput_len : ∀ (g : List (Nat × List Nat)) (k c : Nat), (gput g k c).length ≤ g.length + 1
  | [], _, _ => Nat.le_refl _
  | (j, l) :: r, k, c => by
    unfold gput
    split
    · simp
    · have := gput_len r k c
      simp only [List.length_cons]
      omega
theorem grp_step {n s i c : Nat} {cs : List Nat} (h : cs[i]? = some c) : grp n s (cs.take (i + 1)) = gput (grp n s (cs.take i)) (cellN n c s) c := by
  unfold grp
  rw [List.take_add_one, h, List.foldl_append]
  rfl
theorem grp_len (n s : Nat) : ∀ (cs : List Nat), (grp n s cs).length ≤ cs.length := by
  intro cs
  have : ∀ (cs : List Nat) (g : List (Nat × List Nat)), (cs.foldl (fun g c => gput g (cellN n c s) c) g).length ≤ g.length + cs.length := by
    intro cs
    induction cs with
    | nil => intro g; simp
    | cons c r ih =>
      intro g
      have h1 := ih (gput g (cellN n c s) c)
      have h2 := gput_len g (cellN n c s) c
      simp only [List.foldl_cons, List.length_cons]
      omega
  have h := this cs []
  simpa [grp] using h
theorem maxN_ge : ∀ {l : List Nat} {x : Nat}, x ∈ l → x ≤ maxN l
  | a :: r, x, h => by
    unfold maxN
    rcases List.mem_cons.mp h with rfl | h
    · omega
    · have := maxN_ge h
      omega
theorem maxN_mem : ∀ {l : List Nat}, l ≠ [] → maxN l ∈ l
  | [a], _ => by simp [maxN]
  | a :: b :: r, _ => by
    have ih := maxN_mem (l := b :: r) (by simp)
    have e : maxN (a :: b :: r) = max a (maxN (b :: r)) := rfl
    rw [e]
    by_cases h : maxN (b :: r) ≤ a
    · rw [Nat.max_eq_left h]
      exact List.mem_cons_self
    · rw [Nat.max_eq_right (by omega)]
      exact List.mem_cons_of_mem _ ih
/-- the greatest of some numbers, told as ints -/
theorem max_is {l : List Nat} {z : Int} (hm : z ∈ l.map fun x : Nat => (x : Int)) (hg : ∀ y ∈ l.map (fun x : Nat => (x : Int)), y ≤ z) : z = (maxN l : Int) := by
  obtain ⟨x, hx, rfl⟩ := List.mem_map.mp hm
  have hne : l ≠ [] := by
    rintro rfl
    cases hx
  have h1 := hg _ (List.mem_map.mpr ⟨_, maxN_mem hne, rfl⟩)
  have h2 := maxN_ge hx
  omega
/-! the row as the law lays it -/
def lastO (n k s : Nat) : Option Nat := if s < k then some (k - 1 - (k - 1 - s) % n) else none
def rowO (n k : Nat) : List (Option Nat) := (List.range n).map fun s => lastO n k s
theorem rowO_all : (List.range 6).all (fun n => decide (n < 2) || (List.range 40).all fun k => decide ((rowO n k).set (k % n) (some k) = rowO n (k + 1))) = true := by decide +kernel
theorem rowO_step {n k : Nat} (h2 : 2 ≤ n) (h5 : n ≤ 5) (hk : k < 40) : (rowO n k).set (k % n) (some k) = rowO n (k + 1) := by
  have h := List.all_eq_true.mp rowO_all n (List.mem_range.mpr (by omega))
  rw [decide_eq_false (show ¬ n < 2 by omega), Bool.false_or] at h
  exact of_decide_eq_true (List.all_eq_true.mp h k (List.mem_range.mpr hk))
theorem rowO_zero (n : Nat) : rowO n 0 = List.replicate n none := by
  unfold rowO
  have : (fun s => lastO n 0 s) = fun _ => none := by
    funext s
    unfold lastO
    rw [if_neg (by omega)]
  rw [this, List.map_const', List.length_range]
theorem rowO_full {n c : Nat} (h : n ≤ c) : rowO n c = (rowN n c).map some := by
  unfold rowO rowN
  rw [List.map_map]
  refine List.map_congr_left fun s hs => ?_
  have := List.mem_range.mp hs
  show lastO n c s = some (cellN n c s)
  unfold lastO cellN
  rw [if_pos (by omega)]
theorem rowO_len (n k : Nat) : (rowO n k).length = n := by
  unfold rowO
  rw [List.length_map, List.length_range]
/-! how many looks newest takes -/
def looksF (n c : Nat) : Nat → Nat → Nat → Nat
  | 0, _, _ => 0
  | f + 1, low, high => if 1 < high - low then
      1 + (if cellN n c ((low + high) / 2) = cellN n c 0 + (low + high) / 2 then looksF n c f ((low + high) / 2) high else looksF n c f low ((low + high) / 2))
    else 0
def looks (n c : Nat) : Nat := 1 + looksF n c n 0 n
def mostL : Nat → Nat
  | 2 => 2
  | 3 => 3
  | 4 => 3
  | 5 => 4
  | _ => 0
theorem looks_chk : (List.range 6).all (fun n => decide (n < 2) || (List.range 6).all fun l => decide (l < 1) || decide (maxN ((ivl (l * n) (3 * n)).map (looks n)) = mostL n)) = true := by decide +kernel
theorem looks_all {n l : Nat} (h2 : 2 ≤ n) (h5 : n ≤ 5) (hl : 1 ≤ l) (hl5 : l ≤ 5) : maxN ((ivl (l * n) (3 * n)).map (looks n)) = mostL n := by
  have h := List.all_eq_true.mp looks_chk n (List.mem_range.mpr (by omega))
  rw [decide_eq_false (show ¬ n < 2 by omega), Bool.false_or] at h
  have h' := List.all_eq_true.mp h l (List.mem_range.mpr (by omega))
  rw [decide_eq_false (show ¬ l < 1 by omega), Bool.false_or] at h'
  exact of_decide_eq_true h'
theorem val_whole {n a : Nat} (h2 : 2 ≤ n) (h5 : n ≤ 5) : val n (ivl a (3 * n)) = mostL n := by
  unfold val
  rw [ivl_len]
  rcases four h2 h5 with rfl | rfl | rfl | rfl <;> rfl
/-- the doublings -/
theorem most_end {n j : Nat} (h2 : 2 ≤ n) (h5 : n ≤ 5) (hj : j ≤ 3) (hr : n ≤ 2 ^ j) (hp : j = 0 ∨ 2 ^ (j - 1) < n) : j + 1 = mostL n := by
  have hj4 : j = 0 ∨ j = 1 ∨ j = 2 ∨ j = 3 := by omega
  rcases four h2 h5 with rfl | rfl | rfl | rfl <;> rcases hj4 with rfl | rfl | rfl | rfl <;> simp [mostL] at * <;> omega
/-- a cell as the program reckons it -/
theorem cell_int {n c s : Nat} (hn : 0 < n) (hs : s < n) (hc : n ≤ c) : (c : Int) - 1 - ((c : Int) - 1 - s) % n = ((cellN n c s : Nat) : Int) := by
  unfold cellN
  have e : ((c : Int) - 1 - s) = ((c - 1 - s : Nat) : Int) := by omega
  rw [e, ← Int.natCast_emod]
  have h1 : (c - 1 - s) % n ≤ c - 1 - s := Nat.mod_le _ _
  omega
theorem back_lt {n c s : Nat} (hn : 0 < n) (hs : s < n) (hc : n ≤ c) : ((c : Int) - 1 - s) % n < (c : Int) := by
  have h1 := Int.emod_lt_of_pos ((c : Int) - 1 - s) (show (0 : Int) < n by omega)
  omega
end K27
namespace K27
open PySem PySem.Spec PyProof.Rows L2
def topS (i : Nat) : Stmt := PySem.Challenge.pw_wrecktold_k27_whole_no_way_has_fewer_loo.main.body.getD i (.Pass ⟨0, 0, 0, 0⟩)
abbrev sIsInt : Stmt := topS 4
abbrev sIsNum : Stmt := topS 5
abbrev sIsBel : Stmt := topS 6
abbrev sNeedS : Stmt := topS 10
abbrev sNeedC : Stmt := topS 11
abbrev sLastIn : Stmt := topS 12
abbrev sRing : Stmt := topS 13
abbrev sMost : Stmt := topS 14
abbrev sNewest : Stmt := topS 15
abbrev sBox : Stmt := topS 17
abbrev sTake : Stmt := topS 18
abbrev sRow : Stmt := topS 20
abbrev sFew : Stmt := topS 21
abbrev sLaw : Stmt := topS 22
theorem iteD {c A B : Prop} [Decidable c] (h : c) (a : A) : if decide c = true then A else B := by
  rw [decide_eq_true h]
  exact iteT a
theorem iteND {c A B : Prop} [Decidable c] (h : ¬ c) (b : B) : if decide c = true then A else B := by
  rw [decide_eq_false h]
  exact iteF b
/-- what the module's names hold -/
structure Txt (mg : Str → Option Value) : Prop where
  isi : mg "isinstance" = none
  int : mg "int" = none
  bool : mg "bool" = none
  tuple : mg "tuple" = none
  range : mg "range" = none
  len : mg "len" = none
  abs : mg "abs" = none
  max : mg "max" = none
  min : mg "min" = none
  dict : mg "dict" = none
  slots : ∃ t, mg "MOST_SLOTS" = some (.int 64 t)
  torn : ∃ t, mg "TORN" = some (.str "torn" t)
/-- a def of the module that may be called by its name -/
structure Cl (P : Program) (w : World) (K : PySem.W.Frag) (mg : Str → Option Value) (base : Heap) (k : Nat) (x : Str) (ps : List Str) (sp : Sp) : Prop where
  ex : ∃ (f : Addr) (fd : FuncData), FnOk P w K mg base CX0 k f fd ps sp ∧ mg x = some (.ref f) ∧ PySem.W.keepIn K (.ref f) = true ∧ Binds K fd ps []
section
variable {X : Cx} {k j : Nat} {x : Str} {ps : List Str} {sp : Sp} {e : Expr} {es : List Expr} {p pos : Pos} {t : TA}
theorem pc (c : Cl X.prog X.w X.K X.mg X.base k x ps sp) (hr : Room j X.A) (hk : k ≤ j) (ha : PA X (e :: es) t) (hg : Gl X x := by rfl) (hdb : (x == ("__debug__" : Str)) = false := by decide)
    (he : starEach (e :: es) X.env = (false, eval e X.env) :: starEach es X.env := by rfl) (hpl : (backTo pos (starEach es X.env)).any (·.1) = false := by rfl) : PE X (.Call (.Name x p) (e :: es) [] pos) (tCall sp [] E0 t) := by
  obtain ⟨f, fd, F, hm, kp, b⟩ := c.ex
  exact pe_call F (hr.mono hk) hg hm kp b .nil pass0 ha hdb he hpl
end
section
variable {P : Program} {w : World} {K : PySem.W.Frag} {mg : Str → Option Value} {base : Heap}
/-! ### words.py -/
theorem sc1 : FnScope ["value"] ["value"] (defScope sIsInt) := ⟨rfl, rfl, rfl, by decide +kernel, rfl, by decide +kernel, by decide +kernel⟩
def spYes : Sp := fun vs H Q _ => ∃ i : Int, vs = [.int i] ∧ Q (.bl true) H
theorem ok_isInt {f : Addr} {fd : FuncData} (F : Fun K "is_integer" "is_integer" sIsInt f fd) (T : Txt mg) : FnOk P w K mg base CX0 1 f fd ["value"] spYes := by
  refine F.ok sc1 (fun vs H Q E h => ?_) (fun cdv A outer s H vs Q E hr h => ?_)
  · obtain ⟨i, rfl, _⟩ := h
    rfl
  · obtain ⟨i, rfl, q⟩ := h
    refine ⟨_, pss_one (ps_ret (pe_and (pe_callB call_isi (by rfl) T.isi (by decide +kernel) (pa_cons (pv 0) (pa_cons (pe_bltn (v := .ty "int") (by rfl) T.int (by decide +kernel) rfl) pa_nil)))
      (pe_one (pe_not (pe_callB call_isi (by rfl) T.isi (by decide +kernel) (pa_cons (pv 0) (pa_cons (pe_bltn (v := .ty "bool") (by rfl) T.bool (by decide +kernel) rfl) pa_nil))))))), ?_⟩
    refine ⟨_, rfl, _, _, _, _, true, rfl, .ty _, .base (.int _), kit_ty (by decide +kernel), true, rfl, iteT ?_⟩
    exact ⟨_, rfl, _, _, _, _, false, rfl, .ty _, .base (.int _), kit_ty (by decide +kernel), false, rfl, q⟩
theorem sc2 : FnScope ["value"] ["value"] (defScope sIsNum) := ⟨rfl, rfl, rfl, by decide +kernel, rfl, by decide +kernel, by decide +kernel⟩
def spNum : Sp := fun vs H Q _ => ∃ i : Int, vs = [.int i] ∧ 0 ≤ i ∧ Q (.bl true) H
theorem ok_isNum {f : Addr} {fd : FuncData} (F : Fun K "is_number" "is_number" sIsNum f fd) (C : Cl P w K mg base 1 "is_integer" ["value"] spYes) : FnOk P w K mg base CX0 2 f fd ["value"] spNum := by
  refine F.ok sc2 (fun vs H Q E h => ?_) (fun cdv A outer s H vs Q E hr h => ?_)
  · obtain ⟨i, rfl, _⟩ := h
    rfl
  · obtain ⟨i, rfl, h0, q⟩ := h
    refine ⟨_, pss_one (ps_ret (pe_and (pc C hr (by decide) (pa_cons (pv 0) pa_nil)) (pe_one (pe_cmp (pc_ge (pv 0) pe_int) rfl)))), ?_⟩
    refine ⟨_, rfl, i, rfl, true, rfl, iteT ?_⟩
    refine ⟨_, rfl, _, _, rfl, rfl, ?_⟩
    show Q (.bl (decide (0 ≤ i))) H
    rw [decide_eq_true h0]
    exact q
theorem sc3 : FnScope ["value", "most"] ["value", "most"] (defScope sIsBel) := ⟨rfl, rfl, rfl, by decide +kernel, rfl, by decide +kernel, by decide +kernel⟩
def spBel : Sp := fun vs H Q _ => ∃ i j : Int, vs = [.int i, .int j] ∧ 0 ≤ i ∧ i < j ∧ Q (.bl true) H
theorem ok_isBel {f : Addr} {fd : FuncData} (F : Fun K "is_below" "is_below" sIsBel f fd) (C : Cl P w K mg base 2 "is_number" ["value"] spNum) : FnOk P w K mg base CX0 3 f fd ["value", "most"] spBel := by
  refine F.ok sc3 (fun vs H Q E h => ?_) (fun cdv A outer s H vs Q E hr h => ?_)
  · obtain ⟨i, j, rfl, _⟩ := h
    rfl
  · obtain ⟨i, j, rfl, h0, h1, q⟩ := h
    refine ⟨_, pss_one (ps_ret (pe_and (pc C hr (by decide) (pa_cons (pv 0) pa_nil)) (pe_one (pe_cmp (pc_lt (pv 0) (pv 1)) rfl)))), ?_⟩
    refine ⟨_, rfl, i, rfl, h0, true, rfl, iteT ?_⟩
    refine ⟨_, rfl, _, rfl, _, _, rfl, rfl, ?_⟩
    show Q (.bl (decide (i < j))) H
    rw [decide_eq_true h1]
    exact q
/-! ### slots.py -/
theorem sc4 : FnScope ["value"] ["value"] (defScope sNeedS) := ⟨rfl, rfl, rfl, by decide +kernel, rfl, by decide +kernel, by decide +kernel⟩
def spNeedS : Sp := fun vs H Q _ => ∃ i : Int, vs = [.int i] ∧ 2 ≤ i ∧ i < 65 ∧ Q (.int i) H
theorem ok_needS {f : Addr} {fd : FuncData} (F : Fun K "need_slots" "need_slots" sNeedS f fd) (T : Txt mg) (C : Cl P w K mg base 3 "is_below" ["value", "most"] spBel) : FnOk P w K mg base CX0 4 f fd ["value"] spNeedS := by
  refine F.ok sc4 (fun vs H Q E h => ?_) (fun cdv A outer s H vs Q E hr h => ?_)
  · obtain ⟨i, rfl, _⟩ := h
    rfl
  · obtain ⟨i, rfl, h0, h1, q⟩ := h
    obtain ⟨t0, hm⟩ := T.slots
    refine ⟨_, pss_cons (ps_if (PW.pt (pw_or (pt_not (pt_val (pc C hr (by decide) (pa_cons (pv 0) (pa_cons (pe_op op_add (pe_glob (v := .int 64) (by rfl) hm ⟨_, rfl⟩) pe_int) pa_nil))))) (pw_or1 (pt_cmpR op_lt (pv 0) pe_int (nomark _))))) (pss_one ps_never) pss_nil) (pss_one (ps_ret (pv 0))), ?_⟩
    refine ⟨_, rfl, _, _, rfl, rfl, i, _, rfl, by omega, by omega, true, rfl, iteF ?_⟩
    refine ⟨_, rfl, _, _, rfl, rfl, _, rfl, ?_⟩
    exact iteND (show ¬ i < 2 by omega) ⟨_, rfl, q⟩
theorem sc5 : FnScope ["value"] ["value"] (defScope sNeedC) := ⟨rfl, rfl, rfl, by decide +kernel, rfl, by decide +kernel, by decide +kernel⟩
def spNeedC : Sp := fun vs H Q _ => ∃ i : Int, vs = [.int i] ∧ 0 ≤ i ∧ Q (.int i) H
theorem ok_needC {f : Addr} {fd : FuncData} (F : Fun K "need_count" "need_count" sNeedC f fd) (C : Cl P w K mg base 2 "is_number" ["value"] spNum) : FnOk P w K mg base CX0 3 f fd ["value"] spNeedC := by
  refine F.ok sc5 (fun vs H Q E h => ?_) (fun cdv A outer s H vs Q E hr h => ?_)
  · obtain ⟨i, rfl, _⟩ := h
    rfl
  · obtain ⟨i, rfl, h0, q⟩ := h
    refine ⟨_, pss_cons (ps_if (pt_not (pt_val (pc C hr (by decide) (pa_cons (pv 0) pa_nil)))) (pss_one ps_never) pss_nil) (pss_one (ps_ret (pv 0))), ?_⟩
    exact ⟨_, rfl, i, rfl, h0, true, rfl, iteF ⟨_, rfl, q⟩⟩
theorem sc6 : FnScope ["many", "count", "slot", "back"] ["many", "count", "slot"] (defScope sLastIn) := ⟨rfl, rfl, rfl, by decide +kernel, rfl, by decide +kernel, by decide +kernel⟩
def spLastIn : Sp := fun vs H Q _ => ∃ n c s : Nat, vs = [.int n, .int c, .int s] ∧ 0 < n ∧ s < n ∧ n ≤ c ∧ Q (.int (cellN n c s : Nat)) H
theorem ok_lastIn {f : Addr} {fd : FuncData} (F : Fun K "last_in" "last_in" sLastIn f fd) (T : Txt mg) : FnOk P w K mg base CX0 1 f fd ["many", "count", "slot"] spLastIn := by
  refine F.ok sc6 (fun vs H Q E h => ?_) (fun cdv A outer s H vs Q E hr h => ?_)
  · obtain ⟨n, c, s, rfl, _⟩ := h
    rfl
  · obtain ⟨n, c, s, rfl, hn, hs, hc, q⟩ := h
    refine ⟨_, pss_cons (ps_set (i := 3) sc6.nd rfl (.inl rfl) (pe_op op_mod (pe_callTy call_int1 (by rfl) T.int (by decide +kernel) (pa_cons (pe_op op_sub (pe_op op_sub (pv 1) pe_int) (pv 2)) pa_nil)) (pv 0)))
      (pss_one (ps_ret (pe_ifExp (pt_cmpR op_lt (pv 3) (pv 1) (nomark _)) (pe_op op_sub (pe_op op_sub (pv 1) pe_int) (pv 3)) pe_non))), ?_⟩
    refine ⟨_, rfl, _, _, rfl, rfl, _, rfl, _, _, rfl, rfl, .inl ⟨_, rfl, _, rfl, _, _, rfl, rfl, by omega, ?_⟩⟩
    refine ⟨_, rfl, _, rfl, _, _, rfl, rfl, _, rfl, ?_⟩
    refine iteD (back_lt hn hs hc) ⟨_, rfl, _, _, rfl, rfl, _, rfl, _, _, rfl, rfl, ?_⟩
    show Q (.int ((c : Int) - 1 - ((c : Int) - 1 - s) % n)) H
    rw [cell_int hn hs hc]
    exact q
end
end K27
namespace K27
open PySem PySem.Spec PyProof.Rows L2
/-- some numbers as values -/
def iVs (l : List Nat) : List V := l.map fun x : Nat => V.int (x : Int)
theorem iVs_len (l : List Nat) : (iVs l).length = l.length := List.length_map _
theorem iVs_get {l : List Nat} {i x : Nat} (h : l[i]? = some x) : (iVs l)[i]? = some (.int (x : Int)) := by
  unfold iVs
  rw [List.getElem?_map, h]
  rfl
theorem iVs_snoc (l : List Nat) (x : Nat) : iVs (l ++ [x]) = iVs l ++ [.int (x : Int)] := by
  unfold iVs
  rw [List.map_append]
  rfl
theorem iVs_take {l : List Nat} {i x : Nat} (h : l[i]? = some x) : iVs (l.take (i + 1)) = iVs (l.take i) ++ [.int (x : Int)] := by
  rw [List.take_add_one, h]
  exact iVs_snoc _ _
theorem iVs_map (l : List Nat) : iVs l = (l.map fun x : Nat => (x : Int)).map V.int := by
  unfold iVs
  rw [List.map_map]
  rfl
theorem same_upd {H : Hp} {p : Addr} {o : HO} (h : H p = none) : Same H (upd H p o) := fun b x e => by
  rw [upd_ne (ne_of_none e h)]
  exact e
theorem same_put {H H1 : Hp} {p : Addr} {o : HO} (s : Same H H1) (h : H p = none) : Same H (upd H1 p o) := fun b x e => by
  rw [upd_ne (ne_of_none e h)]
  exact s b x e
section
variable {P : Program} {w : World} {K : PySem.W.Frag} {mg : Str → Option Value} {base : Heap}
theorem sc7 : FnScope ["many", "count", "slot"] ["many", "count"] (defScope sRing) := ⟨rfl, rfl, rfl, by decide +kernel, rfl, by decide +kernel, by decide +kernel⟩
def spRing : Sp := fun vs H Q _ => ∃ n c : Nat, vs = [.int n, .int c] ∧ 2 ≤ n ∧ n ≤ 5 ∧ n ≤ c ∧ ∀ H' p, Same H H' → H p = none → H' p = some (.tup (iVs (rowN n c))) → Q (.ref p) H'
theorem ok_ring {f : Addr} {fd : FuncData} (F : Fun K "ring_row" "ring_row" sRing f fd) (T : Txt mg) (C1 : Cl P w K mg base 4 "need_slots" ["value"] spNeedS) (C2 : Cl P w K mg base 3 "need_count" ["value"] spNeedC)
    (C3 : Cl P w K mg base 1 "last_in" ["many", "count", "slot"] spLastIn) : FnOk P w K mg base CX0 5 f fd ["many", "count"] spRing := by
  refine F.ok sc7 (fun vs H Q E h => ?_) (fun cdv A outer s H vs Q E hr h => ?_)
  · obtain ⟨n, c, rfl, _⟩ := h
    rfl
  · obtain ⟨n, c, rfl, h2, h5, hc, q⟩ := h
    refine ⟨_, pss_cons (ps_expr (pc C1 hr (by decide) (pa_cons (pv 0) pa_nil))) (pss_cons (ps_expr (pc C2 hr (by decide) (pa_cons (pv 1) pa_nil)))
      (pss_one (ps_ret (pe_callTy call_tuple_of (by rfl) T.tuple (by decide +kernel) (pa_cons
        (pe_lc (own := [("slot", 2)]) (g := gName 2) (by rfl) sc7.nd (pi_range1 (by rfl) T.range (pa_cons (pv 0) pa_nil)) (blkOk_by (own := [("slot", 2)]) (N := ["many", "count", "slot"]) (sc := defScope sRing) (by decide +kernel))
          (fun _ _ _ _ _ => pg_name (i := 2) sc7.nd rfl (Or.inl rfl)) (fun _ _ _ _ _ => pts_nil) (fun _ _ _ _ _ => pc C3 hr (by decide) (pa_cons (pv 0) (pa_cons (pv 1) (pa_cons (pv 2) pa_nil))))) pa_nil))))), ?_⟩
    refine ⟨_, rfl, _, rfl, by omega, by omega, _, rfl, _, rfl, by omega, ?_⟩
    refine ⟨_, rfl, _, rfl, by omega, by omega, fun D nD => ?_⟩
    refine lc_range (lo := 0) (n := n) (fun i H1 => Same H H1 ∧ H1 D = some (.lst (iVs ((rowN n c).take i)))) ⟨same_upd nD, upd_same⟩ (fun i H1 hi hP => ?_) (fun H1 hP => ?_)
    · obtain ⟨sm, hD⟩ := hP
      rw [show (0 : Int) + (i : Nat) = i from Int.zero_add _]
      refine ⟨rfl, _, rfl, _, rfl, _, rfl, n, c, i, rfl, by omega, hi, hc, _, hD, ?_, same_put sm nD, ?_⟩
      · rw [iVs_len]
        exact small1000 (Nat.le_trans (List.length_take_le _ _) (by omega))
      · rw [upd_same, iVs_take (rowN_get hi)]
    · obtain ⟨sm, hD⟩ := hP
      rw [List.take_of_length_le (by rw [rowN_len]; exact Nat.le_refl _)] at hD
      exact ⟨_, _, rfl, .inl ⟨.inl (.inl hD), fun l nl => q _ l (same_put sm (sm.free nl)) (sm.free nl) upd_same⟩⟩
theorem sc8 : FnScope ["many", "found", "reach"] ["many"] (defScope sMost) := ⟨rfl, rfl, rfl, by decide +kernel, rfl, by decide +kernel, by decide +kernel⟩
def spMost : Sp := fun vs H Q _ => ∃ n : Nat, vs = [.int n] ∧ 2 ≤ n ∧ n ≤ 5 ∧ ∀ H', Same H H' → Q (.int (mostL n : Nat)) H'
theorem ok_most {f : Addr} {fd : FuncData} (F : Fun K "most_looks" "most_looks" sMost f fd) (C1 : Cl P w K mg base 4 "need_slots" ["value"] spNeedS) : FnOk P w K mg base CX0 5 f fd ["many"] spMost := by
  refine F.ok sc8 (fun vs H Q E h => ?_) (fun cdv A outer s H vs Q E hr h => ?_)
  · obtain ⟨n, rfl, _⟩ := h
    rfl
  · obtain ⟨n, rfl, h2, h5, q⟩ := h
    refine ⟨_, pss_cons (ps_expr (pc C1 hr (by decide) (pa_cons (pv 0) pa_nil))) (pss_cons (ps_asg (pe_tup (pa_cons pe_int (pa_cons pe_int pa_nil))) (pg_tup (by rfl) (pgs_cons (pg_name (i := 1) sc8.nd rfl (Or.inl rfl)) (pgs_cons (pg_name (i := 2) sc8.nd rfl (Or.inl rfl)) pgs_nil))))
      (pss_cons (ps_while PassesOwn.never (pt_cmpR op_lt (pv 2) (pv 0) (nomark _))
        (pss_one (ps_par (i := 1) (j := 2) (by rfl) sc8.nd rfl rfl (by decide) rfl rfl (pa_cons (pe_op op_add (pv 1) pe_int) (pa_cons (pe_op op_mul pe_int (pv 2)) pa_nil)) (by rfl))))
      (pss_one (ps_ret (pv 1))))), ?_⟩
    refine ⟨_, rfl, _, rfl, by omega, by omega, by decide, fun T0 nT => ?_⟩
    refine ⟨T0, _, rfl, .inl (.inl upd_same), rfl, .int 1, [.int 1], rfl, .int 1, [], rfl, rfl, ?_⟩
    refine ⟨fun m σ H1 => Same H H1 ∧ ∃ i : Nat, σ = [some (.int n), some (.int ((i + 1 : Nat) : Int)), some (.int ((2 ^ i : Nat) : Int))] ∧ i ≤ 3 ∧ (i = 0 ∨ 2 ^ (i - 1) < n) ∧ m = 3 - i, ⟨3, same_upd nT, 0, rfl, by omega, .inl rfl, rfl⟩, ?_⟩
    rintro m σ H1 ⟨sm, i, rfl, hi, hp, rfl⟩
    refine ⟨_, rfl, _, rfl, _, _, rfl, rfl, _, rfl, ?_⟩
    by_cases hl : 2 ^ i < n
    · refine iteD (show ((2 ^ i : Nat) : Int) < (n : Int) by omega) ?_
      have hi2 : i ≤ 2 := by
        have : ¬ i = 3 := by
          rintro rfl
          omega
        omega
      refine ⟨fun σ' H' => H' = H1 ∧ σ' = [some (.int n), some (.int ((i + 1 + 1 : Nat) : Int)), some (.int ((2 ^ (i + 1) : Nat) : Int))], fun σ' H' hN => ⟨3 - (i + 1), by omega, hN.1 ▸ sm, i + 1, hN.2, by omega, .inr hl, rfl⟩, ?_⟩
      refine ⟨_, rfl, _, _, rfl, rfl, _, rfl, _, _, rfl, rfl, .inl ⟨by decide, by decide⟩, _, _, rfl, rfl, ?_⟩
      have e : (2 : Int) * ((2 ^ i : Nat) : Int) = ((2 ^ (i + 1) : Nat) : Int) := by omega
      show [some (V.int n), some (V.int (((i + 1 : Nat) : Int) + 1)), some (V.int ((2 : Int) * ((2 ^ i : Nat) : Int)))] = _
      rw [e]
      rfl
    · refine iteND (show ¬ ((2 ^ i : Nat) : Int) < (n : Int) by omega) ⟨_, rfl, ?_⟩
      have e := most_end h2 h5 hi (by omega) hp
      show Q (.int ((i + 1 : Nat) : Int)) H1
      rw [e]
      exact q H1 sm
end
end K27
namespace K27
open PySem PySem.Spec PyProof.Rows L2
theorem looksF_le (n c : Nat) : ∀ f low high : Nat, looksF n c f low high ≤ f
  | 0, _, _ => Nat.le_refl _
  | f + 1, low, high => by
    unfold looksF
    split
    · split
      · have := looksF_le n c f ((low + high) / 2) high
        omega
      · have := looksF_le n c f low ((low + high) / 2)
        omega
    · omega
theorem looksF_end (n c f low high : Nat) (h : high - low ≤ 1) : looksF n c f low high = 0 := by
  cases f with
  | zero => rfl
  | succ f =>
    unfold looksF
    rw [if_neg (by omega)]
section
variable {P : Program} {w : World} {K : PySem.W.Frag} {mg : Str → Option Value} {base : Heap}
abbrev nNw : List Str := ["row", "many", "base", "last", "low", "high", "looked", "middle"]
theorem sc9 : FnScope nNw ["row"] (defScope sNewest) := ⟨rfl, rfl, rfl, by decide +kernel, rfl, by decide +kernel, by decide +kernel⟩
def spNewest : Sp := fun vs H Q _ => ∃ (a : Addr) (n c : Nat), vs = [.ref a] ∧ H a = some (.tup (iVs (rowN n c))) ∧ 2 ≤ n ∧ n ≤ 5 ∧ n ≤ c ∧
  ∀ (H' : Hp) (p l : Addr) (x y : V) (ls : List V), Same H H' → H' p = some (.tup [x, y, .ref l]) → H' l = some (.tup ls) → ls.length = looks n c → Q (.ref p) H'
theorem ok_newest {f : Addr} {fd : FuncData} (F : Fun K "newest" "newest" sNewest f fd) (T : Txt mg) : FnOk P w K mg base CX0 1 f fd ["row"] spNewest := by
  refine F.ok sc9 (fun vs H Q E h => ?_) (fun cdv A outer s H vs Q E hr h => ?_)
  · obtain ⟨a, n, c, rfl, _⟩ := h
    rfl
  · obtain ⟨a, n, c, rfl, ha, h2, h5, hc, q⟩ := h
    obtain ⟨t0, hm⟩ := T.torn
    refine ⟨_, pss_cons (ps_par (i := 1) (j := 2) (by rfl) sc9.nd rfl rfl (by decide) rfl rfl (pa_cons (pe_callB call_len_seq (by rfl) T.len PySem.boot_len (pa_cons (pv 0) pa_nil)) (pa_cons (pe_ix ix_tup (pv 0) pe_int (fun _ _ => rfl)) pa_nil)) (by rfl))
      (pss_cons (ps_if (pt_cmpR op_isN (pv 2) pe_non (nomark _)) (pss_one ps_never) pss_nil)
      (pss_cons (ps_if (pt_cmpR op_eq (pv 2) (pe_glob (v := .str "torn") (by rfl) hm ⟨_, rfl⟩) (nomark _)) pss_never pss_nil)
      (pss_cons (ps_par3 (i := 4) (j := 5) (l := 6) (by rfl) sc9.nd rfl rfl rfl (by decide) (by decide) (by decide) rfl rfl rfl (pa_cons pe_int (pa_cons (pv 1) (pa_cons (pe_lst (pa_cons pe_int pa_nil)) pa_nil))) (by rfl))
      (pss_cons (ps_while PassesOwn.never (pt_cmpR op_gt (pe_op op_sub (pv 5) (pv 4)) pe_int (nomark _))
        (pss_cons (ps_set (i := 7) sc9.nd rfl (.inl rfl) (pe_op op_fdiv (pe_op op_add (pv 4) (pv 5)) pe_int))
        (pss_cons (ps_expr (pe_bm PySem.F.plainAttrs_list PySem.F.slot_list_append PySem.F.type_list_append mt_append (pv 6) (pa_cons (pv 7) pa_nil)))
        (pss_one (ps_if (pt_cmpR op_eq (pe_ix ix_tup (pv 0) (pv 7) (fun _ _ => rfl)) (pe_op op_add (pv 2) (pv 7)) (nomark _))
          (pss_one (ps_set (i := 4) sc9.nd rfl (.inl rfl) (pv 7))) (pss_one (ps_set (i := 5) sc9.nd rfl (.inl rfl) (pv 7))))))))
      (pss_one (ps_ret (pe_tup (pa_cons (pe_op op_add (pv 2) (pv 4)) (pa_cons (pe_op op_add (pe_op op_add (pv 2) (pv 4)) pe_int)
        (pa_cons (pe_callTy call_tuple_of (by rfl) T.tuple (by decide +kernel) (pa_cons (pv 6) pa_nil)) pa_nil)))))))))), ?_⟩
    have g0 : atI (iVs (rowN n c)) 0 = some (.int (cellN n c 0 : Nat)) := at_of (j := 0) rfl (iVs_get (rowN_get (by omega)))
    -- many, base
    refine ⟨_, rfl, a, _, rfl, .inr (.inl (.inl ha)), _, rfl, a, _, 0, _, rfl, rfl, .inl (.inl ha), g0, _, _, rfl, ?_⟩
    -- base is None; base == TORN
    refine ⟨_, rfl, rfl, _, rfl, ?_⟩
    refine iteND (by intro z; cases z) ?_
    refine ⟨_, rfl, rfl, _, rfl, ?_⟩
    refine iteND (by intro z; cases z) ?_
    -- low, high, looked
    refine ⟨_, rfl, by decide, fun L nL => ⟨_, _, _, rfl, ?_⟩⟩
    rw [iVs_len, rowN_len]
    refine ⟨fun m σ H1 => ∃ (low high f : Nat) (ls : List V) (y3 y7 : Option V), σ = [some (.ref a), some (.int n), some (.int (cellN n c 0 : Nat)), y3, some (.int low), some (.int high), some (.ref L), y7] ∧
      low < high ∧ high ≤ n ∧ high - low ≤ f ∧ f ≤ n ∧ Same H H1 ∧ H1 L = some (.lst ls) ∧ ls.length + looksF n c f low high = looks n c ∧ m = high - low,
      ⟨n, 0, n, n, [.int 0], none, none, rfl, by omega, by omega, by omega, by omega, same_upd nL, upd_same, rfl, by omega⟩, ?_⟩
    rintro m σ H1 ⟨low, high, f, ls, y3, y7, rfl, hlh, hhn, hf, hfn, sm, hL, hlk, rfl⟩
    refine ⟨_, rfl, _, rfl, _, _, rfl, rfl, _, _, rfl, rfl, _, rfl, ?_⟩
    by_cases hgo : 1 < high - low
    · refine iteD (show (1 : Int) < (high : Int) - (low : Int) by omega) ?_
      obtain ⟨f', rfl⟩ : ∃ f', f = f' + 1 := ⟨f - 1, by omega⟩
      have hmid : ((low : Int) + (high : Int)) / 2 = (((low + high) / 2 : Nat) : Int) := by omega
      generalize hM : (low + high) / 2 = M at hmid
      have hlk1 : looks n c ≤ 6 := by
        have := looksF_le n c n 0 n
        unfold looks
        omega
      have hlk2 := hlk
      unfold looksF at hlk2
      rw [if_pos hgo, hM] at hlk2
      refine ⟨fun σ' H' => ∃ (low' high' : Nat) (y3 y7 : Option V), σ' = [some (.ref a), some (.int n), some (.int (cellN n c 0 : Nat)), y3, some (.int low'), some (.int high'), some (.ref L), y7] ∧
        low' < high' ∧ high' ≤ n ∧ high' - low' ≤ f' ∧ high' - low' < high - low ∧ Same H H' ∧ H' L = some (.lst (ls ++ [.int M])) ∧ 1 + ls.length + looksF n c f' low' high' = looks n c, ?_, ?_⟩
      · rintro σ' H' ⟨low', high', y3', y7', rfl, a1, a2, a3, a4, a5, a6, a7⟩
        refine ⟨high' - low', a4, low', high', f', _, y3', y7', rfl, a1, a2, a3, by omega, a5, a6, ?_, rfl⟩
        rw [List.length_append, List.length_singleton]
        omega
      · have sm' : Same H (upd H1 L (.lst (ls ++ [.int M]))) := same_put sm nL
        have hrow : SqT K (upd H1 L (.lst (ls ++ [.int M]))) a (iVs (rowN n c)) := .inl (.inl (sm' _ _ ha))
        have gM : atI (iVs (rowN n c)) (M : Int) = some (.int (cellN n c M : Nat)) := at_of (j := M) rfl (iVs_get (rowN_get (by omega)))
        refine ⟨_, rfl, _, rfl, _, _, rfl, rfl, _, _, rfl, rfl, ⟨by decide, by decide⟩, ?_⟩
        dsimp only
        rw [hmid]
        refine ⟨_, rfl, .inl ⟨rfl, _, .inl (.inl hL)⟩, _, rfl, L, _, _, rfl, rfl, hL, small1000 (by omega), ?_⟩
        refine ⟨_, rfl, _, rfl, a, _, M, _, rfl, rfl, hrow, gM, _, rfl, _, rfl, _, _, rfl, rfl, rfl, _, rfl, ?_⟩
        by_cases hce : cellN n c M = cellN n c 0 + M
        · refine iteD (by rw [hce]; rfl) ?_
          rw [if_pos hce] at hlk2
          exact ⟨_, rfl, M, high, y3, _, rfl, by omega, by omega, by omega, by omega, sm', upd_same, by omega⟩
        · refine iteND (fun z => hce ?_) ?_
          · have z1 : ((cellN n c M : Nat) : Int) = (cellN n c 0 : Nat) + (M : Int) := by injection z
            omega
          rw [if_neg hce] at hlk2
          exact ⟨_, rfl, low, M, y3, _, rfl, by omega, by omega, by omega, by omega, sm', upd_same, by omega⟩
    · refine iteND (show ¬ (1 : Int) < (high : Int) - (low : Int) by omega) ?_
      rw [looksF_end n c f low high (by omega)] at hlk
      refine ⟨_, rfl, _, rfl, _, _, rfl, rfl, _, rfl, _, rfl, _, _, rfl, rfl, _, _, rfl, rfl, _, rfl, L, ls, rfl, .inl ⟨.inl (.inl hL), fun l nl => ⟨(by show (3 : Nat) ≤ sizeLine; decide), fun p np => ?_⟩⟩⟩
      have s1 : Same H (upd H1 l (.tup ls)) := same_put sm (sm.free nl)
      refine q _ p l _ _ ls (same_put s1 (s1.free np)) upd_same ?_ (by omega)
      rw [upd_ne (ne_of_none upd_same np)]
      exact upd_same
end
end K27
namespace K27
open PySem PySem.Spec PyProof.Rows L2
section
variable {P : Program} {w : World} {K : PySem.W.Frag} {mg : Str → Option Value} {base : Heap}
/-! ### the law's draws -/
abbrev nBox : List Str := ["_law_script", "_law_k", "_law_cell", "_law_great"]
theorem sc10 : FnScope nBox ["_law_script", "_law_k"] (defScope sBox) := ⟨rfl, rfl, rfl, by decide +kernel, rfl, by decide +kernel, by decide +kernel⟩
def spBox (K : PySem.W.Frag) : Sp := fun vs H Q _ => ∃ (a : Addr) (ns : List Int) (k : Nat), vs = [.ref a, .int k] ∧ SqL K H a (ns.map V.int) ∧
  ∀ (p : Addr) (g r : Int), H p = none → Q (.ref p) (upd H p (.lst [.int g, .int r]))
theorem ok_box {f : Addr} {fd : FuncData} (F : Fun K "_law_box" "_law_box" sBox f fd) (T : Txt mg) : FnOk P w K mg base CX0 1 f fd ["_law_script", "_law_k"] (spBox K) := by
  refine F.ok sc10 (fun vs H Q E h => ?_) (fun cdv A outer s H vs Q E hr h => ?_)
  · obtain ⟨a, ns, k, rfl, _⟩ := h
    rfl
  · obtain ⟨a, ns, k, rfl, hS, q⟩ := h
    refine ⟨_, pss_cons (ps_set (i := 2) sc10.nd rfl (.inl rfl) (pe_op op_add (pe_op op_mul pe_int (pv 1)) pe_int))
      (Evl.pss_cut (ps_if (pt_cmpR op_lt (pv 1) (pe_callB call_len_seq (by rfl) T.len PySem.boot_len (pa_cons (pv 0) pa_nil)) (nomark _))
        (pss_one (ps_set (i := 2) sc10.nd rfl (.inl rfl) (pe_callB call_abs (by rfl) T.abs (by decide +kernel) (pa_cons
          (pe_callTy call_int1 (by rfl) T.int (by decide +kernel) (pa_cons (pe_ix ix_list (pv 0) (pv 1) (fun _ _ => rfl)) pa_nil)) pa_nil))))
        (pss_one (ps_if (pt_cmpR op_gt (pe_callB call_len_seq (by rfl) T.len PySem.boot_len (pa_cons (pv 0) pa_nil)) pe_int (nomark _))
          (pss_one (ps_set (i := 2) sc10.nd rfl (.inl rfl) (pe_op op_add (pv 2) (pe_op op_mul (pe_op op_mod (pe_callTy call_int1 (by rfl) T.int (by decide +kernel) (pa_cons
            (pe_callB call_abs (by rfl) T.abs (by decide +kernel) (pa_cons (pe_callTy call_int1 (by rfl) T.int (by decide +kernel) (pa_cons
              (pe_ix ix_list (pv 0) (pe_op op_mod (pe_callTy call_int1 (by rfl) T.int (by decide +kernel) (pa_cons (pv 1) pa_nil)) (pe_callB call_len_seq (by rfl) T.len PySem.boot_len (pa_cons (pv 0) pa_nil))) (fun _ _ => rfl)) pa_nil)) pa_nil)) pa_nil)) pe_int) pe_int)))) pss_nil)))
      (pss_cons (ps_set (i := 3) sc10.nd rfl (.inl rfl) (pe_ifExp (pt_cmpR op_ge (pv 2) (pe_op op_pow pe_int pe_int) (nomark _)) (pv 2) pe_int))
      (pss_one (ps_ret (pe_lst (pa_cons (pv 3) (pa_cons (pe_op op_add (pe_op op_mod (pe_callTy call_int1 (by rfl) T.int (by decide +kernel) (pa_cons
        (pe_op op_add (pe_op op_mul (pe_op op_mod (pe_callTy call_int1 (by rfl) T.int (by decide +kernel) (pa_cons (pv 2) pa_nil)) pe_int) pe_int) (pe_op op_mul pe_int (pv 1))) pa_nil)) pe_int) pe_int) pa_nil))))))), ?_⟩
    have hl : (ns.map V.int).length = ns.length := List.length_map _
    refine ⟨_, rfl, _, _, rfl, rfl, .inl ⟨by decide, by decide⟩, _, _, rfl, rfl, ?_⟩
    refine ⟨fun σ' H' => H' = H ∧ ∃ c : Int, σ' = [some (.ref a), some (.int k), some (.int c), none], ?_, ?_⟩
    · refine ⟨_, rfl, _, rfl, a, _, rfl, .inl hS, _, _, rfl, rfl, _, rfl, ?_⟩
      refine ite2 (fun h => ?_) (fun h => ?_)
      · have h1 : (k : Int) < ((ns.map V.int).length : Int) := of_decide_eq_true h
        have hk : k < ns.length := by omega
        have g1 : atI (ns.map V.int) (k : Int) = some (.int ns[k]) := at_of (j := k) rfl (by rw [List.getElem?_map, List.getElem?_eq_getElem hk]; rfl)
        exact ⟨_, rfl, _, rfl, a, _, _, _, rfl, rfl, hS, g1, .inl ⟨_, rfl, _, rfl, rfl, _, rfl⟩⟩
      · refine ⟨_, rfl, a, _, rfl, .inl hS, _, _, rfl, rfl, _, rfl, ?_⟩
        refine ite2 (fun h' => ?_) (fun h' => ?_)
        · have h1 : (0 : Int) < ((ns.map V.int).length : Int) := of_decide_eq_true h'
          have hn : 0 < ns.length := by omega
          have hj : ((k : Int) % ((ns.map V.int).length : Int)).toNat < ns.length := by
            have h2 := Int.emod_lt_of_pos (k : Int) h1
            have h3 := Int.emod_nonneg (k : Int) (show ((ns.map V.int).length : Int) ≠ 0 by omega)
            omega
          have g1 : atI (ns.map V.int) ((k : Int) % ((ns.map V.int).length : Int)) = some (.int ns[((k : Int) % ((ns.map V.int).length : Int)).toNat]) := by
            refine at_of (j := ((k : Int) % ((ns.map V.int).length : Int)).toNat) ?_ (by rw [List.getElem?_map, List.getElem?_eq_getElem hj]; rfl)
            have h3 := Int.emod_nonneg (k : Int) (show ((ns.map V.int).length : Int) ≠ 0 by omega)
            omega
          exact ⟨_, rfl, _, rfl, _, rfl, .inl ⟨_, rfl, _, rfl, a, _, rfl, .inl hS, _, _, rfl, rfl, h1, a, _, _, _, rfl, rfl, hS, g1, .inl ⟨_, rfl, _, rfl, .inl ⟨_, rfl, _, _, rfl, rfl, (by show (0 : Int) < 2147483563; decide), _, _, rfl, rfl, .inr ⟨by decide, by decide⟩, _, _, rfl, rfl, rfl, _, rfl⟩⟩⟩⟩
        · exact ⟨rfl, _, rfl⟩
    · rintro σ' H' ⟨rfl, c, rfl⟩
      refine ⟨_, rfl, _, _, rfl, rfl, ⟨by decide, by decide, by decide⟩, _, _, rfl, rfl, _, rfl, ?_⟩
      have last : ∀ g : Int, (tRet (tLst (tCons (tVar 3) (tCons (tOp (rI0 fun i j => .int (i + j)) (tOp (rI (fun _ j => 0 < j) fun i j => .int (i % j)) (tCB (fun xs H Q => (∃ i, xs = [.int i] ∧ Q (.int i) H) ∨ ∃ k, xs = [.bl k] ∧ Q (.int (if k then 1 else 0)) H)
          (tCons (tOp (rI0 fun i j => .int (i + j)) (tOp (rI CMul fun i j => .int (i * j)) (tOp (rI (fun _ j => 0 < j) fun i j => .int (i % j)) (tCB (fun xs H Q => (∃ i, xs = [.int i] ∧ Q (.int i) H) ∨ ∃ k, xs = [.bl k] ∧ Q (.int (if k then 1 else 0)) H) (tCons (tVar 2) tNil)) (tC (.int 2147483563))) (tC (.int 40014)))
            (tOp (rI CMul fun i j => .int (i * j)) (tC (.int 4657)) (tVar 1))) tNil)) (tC (.int 2147483563))) (tC (.int 1))) tNil)))) { nx := fun _ H' => Q .non H', rt := Q } [some (.ref a), some (.int k), some (.int c), some (.int g)] H' := by
        intro g
        refine ⟨_, rfl, _, rfl, .inl ⟨_, rfl, _, _, rfl, rfl, (by show (0 : Int) < 2147483563; decide), _, _, rfl, rfl, .inr ⟨by decide, by decide⟩, _, rfl, _, _, rfl, rfl, .inl ⟨by decide, by decide⟩, _, _, rfl, rfl, .inl ⟨_, rfl, _, _, rfl, rfl, (by show (0 : Int) < 2147483563; decide), _, _, rfl, rfl, (by show (2 : Nat) ≤ sizeLine; decide), fun p np => ?_⟩⟩⟩
        exact q p _ _ np
      refine ite2 (fun _ => ?_) (fun _ => ?_)
      · exact ⟨_, rfl, last _⟩
      · exact last _
abbrev nTake : List Str := ["_law_box_here", "_law_many", "_law_digit", "_law_raw"]
theorem sc11 : FnScope nTake ["_law_box_here", "_law_many"] (defScope sTake) := ⟨rfl, rfl, rfl, by decide +kernel, rfl, by decide +kernel, by decide +kernel⟩
def spTake : Sp := fun vs H Q _ => ∃ (p : Addr) (g r m : Int), vs = [.ref p, .int m] ∧ H p = some (.lst [.int g, .int r]) ∧ 0 < m ∧ m < 1000 ∧
  ∀ d g' r' : Int, 0 ≤ d → d < m → Q (.int d) (upd H p (.lst [.int g', .int r']))
theorem ok_take {f : Addr} {fd : FuncData} (F : Fun K "_law_take" "_law_take" sTake f fd) (T : Txt mg) : FnOk P w K mg base CX0 1 f fd ["_law_box_here", "_law_many"] spTake := by
  refine F.ok sc11 (fun vs H Q E h => ?_) (fun cdv A outer s H vs Q E hr h => ?_)
  · obtain ⟨p, g, r, m, rfl, _⟩ := h
    rfl
  · obtain ⟨p, g, r, m, rfl, hp, hm, hm2, q⟩ := h
    refine ⟨_, pss_cons (ps_if (pt_cmpR op_gt (pe_ix ix_list (pv 0) pe_int (fun _ _ => rfl)) pe_int (nomark _))
        (pss_cons (ps_set (i := 2) sc11.nd rfl (.inl rfl) (pe_op op_mod (pe_callTy call_int1 (by rfl) T.int (by decide +kernel) (pa_cons (pe_ix ix_list (pv 0) pe_int (fun _ _ => rfl)) pa_nil)) (pv 1)))
        (pss_cons (ps_asg (pe_op op_fdiv (pe_ix ix_list (pv 0) pe_int (fun _ _ => rfl)) (pv 1)) (pg_sub (pv 0) pe_int set_list))
        (pss_one (ps_ret (pv 2))))) pss_nil)
      (pss_cons (ps_set (i := 3) sc11.nd rfl (.inl rfl) (pe_op op_mod (pe_callTy call_int1 (by rfl) T.int (by decide +kernel) (pa_cons (pe_op op_add (pe_op op_mul (pe_ix ix_list (pv 0) pe_int (fun _ _ => rfl)) pe_int) pe_int) pa_nil)) pe_int))
      (pss_cons (ps_asg (pe_op op_add (pe_op op_mod (pe_callTy call_int1 (by rfl) T.int (by decide +kernel) (pa_cons (pe_op op_add (pe_op op_mul (pv 3) pe_int) pe_int) pa_nil)) pe_int) pe_int) (pg_sub (pv 0) pe_int set_list))
      (pss_one (ps_ret (pe_op op_mod (pe_callTy call_int1 (by rfl) T.int (by decide +kernel) (pa_cons (pe_op op_fdiv (pe_op op_add (pe_op op_mul (pv 3) pe_int) (pe_ix ix_list (pv 0) pe_int (fun _ _ => rfl))) pe_int) pa_nil)) (pv 1)))))), ?_⟩
    have hS : SqL K H p [.int g, .int r] := .inl (.inl hp)
    refine ⟨_, rfl, p, _, 0, _, rfl, rfl, hS, rfl, _, _, rfl, rfl, _, rfl, ?_⟩
    refine ite2 (fun _ => ?_) (fun _ => ?_)
    · refine ⟨_, rfl, p, _, 0, _, rfl, rfl, hS, rfl, .inl ⟨_, rfl, _, rfl, _, _, rfl, rfl, hm, ?_⟩⟩
      refine ⟨_, rfl, p, _, 0, _, rfl, rfl, hS, rfl, _, rfl, _, _, rfl, rfl, ⟨hm, by omega⟩, _, rfl, p, _, 0, 0, rfl, rfl, hp, rfl, _, rfl, ?_⟩
      exact q _ _ _ (Int.emod_nonneg _ (by omega)) (Int.emod_lt_of_pos _ hm)
    · refine ⟨_, rfl, p, _, 1, _, rfl, rfl, hS, rfl, _, _, rfl, rfl, .inr ⟨by decide, by decide⟩, _, _, rfl, rfl, .inl ⟨_, rfl, _, _, rfl, rfl, (by show (0 : Int) < 2147483647; decide), ?_⟩⟩
      refine ⟨_, rfl, _, _, rfl, rfl, .inr ⟨by decide, by decide⟩, _, _, rfl, rfl, .inl ⟨_, rfl, _, _, rfl, rfl, (by show (0 : Int) < 2147483399; decide), _, _, rfl, rfl, _, rfl, p, _, 1, 1, rfl, rfl, hp, rfl, ?_⟩⟩
      refine ⟨_, rfl, _, _, rfl, rfl, .inr ⟨by decide, by decide⟩, _, rfl, p, _, 1, _, rfl, rfl, .inl (.inl upd_same), rfl, _, _, rfl, rfl, _, _, rfl, rfl, ⟨by decide, by decide⟩, .inl ⟨_, rfl, _, rfl, _, _, rfl, rfl, hm, ?_⟩⟩
      exact q _ _ _ (Int.emod_nonneg _ (by omega)) (Int.emod_lt_of_pos _ hm)
/-! ### the law's own row -/
def oV : Option Nat → V
  | none => .non
  | some x => .int (x : Int)
abbrev nRow : List Str := ["_law_many", "_law_count", "_law_row_here", "_law_number"]
theorem sc12 : FnScope nRow ["_law_many", "_law_count"] (defScope sRow) := ⟨rfl, rfl, rfl, by decide +kernel, rfl, by decide +kernel, by decide +kernel⟩
def spRow : Sp := fun vs H Q _ => ∃ n c : Nat, vs = [.int n, .int c] ∧ 2 ≤ n ∧ n ≤ 5 ∧ n ≤ c ∧ c ≤ 40 ∧ ∀ H' p, Same H H' → H p = none → H' p = some (.tup (iVs (rowN n c))) → Q (.ref p) H'
theorem ok_row {f : Addr} {fd : FuncData} (F : Fun K "_law_row" "_law_row" sRow f fd) (T : Txt mg) : FnOk P w K mg base CX0 1 f fd ["_law_many", "_law_count"] spRow := by
  refine F.ok sc12 (fun vs H Q E h => ?_) (fun cdv A outer s H vs Q E hr h => ?_)
  · obtain ⟨n, c, rfl, _⟩ := h
    rfl
  · obtain ⟨n, c, rfl, h2, h5, hc, hc2, q⟩ := h
    refine ⟨_, pss_cons (ps_set (i := 2) sc12.nd rfl (.inl rfl) (pe_op op_rep (pe_lst (pa_cons pe_non pa_nil)) (pv 0)))
      (pss_cons (ps_for PassesOwn.never rfl (pi_range1 (by rfl) T.range (pa_cons (pv 1) pa_nil)) (pg_name (i := 3) sc12.nd rfl (Or.inl rfl))
        (pss_one (ps_asg (pv 3) (pg_sub (pv 2) (pe_op op_mod (pe_callTy call_int1 (by rfl) T.int (by decide +kernel) (pa_cons (pv 3) pa_nil)) (pv 0)) set_list))))
      (pss_one (ps_ret (pe_callTy call_tuple_of (by rfl) T.tuple (by decide +kernel) (pa_cons (pv 2) pa_nil))))), ?_⟩
    refine ⟨by decide, fun l nl => ⟨_, rfl, l, _, _, rfl, rfl, upd_same, by omega, by omega, ?_, fun R nR => ?_⟩⟩
    · show 1 * ((n : Int)).toNat ≤ sizeLine
      have : n ≤ sizeLine := Nat.le_of_lt (small1000 (by omega))
      omega
    have s1 : Same H (upd H l (.lst [V.non])) := same_upd nl
    have nR0 : H R = none := s1.free nR
    refine ⟨_, rfl, _, rfl, by omega, by omega, ?_⟩
    refine for_range (lo := 0) (n := c) (fun i σ H1 => ∃ y3, σ = [some (.int n), some (.int c), some (.ref R), y3] ∧ Same H H1 ∧ H1 R = some (.lst ((rowO n i).map oV))) ⟨none, rfl, same_put s1 nR0, ?_⟩ (fun i σ H1 hi hP => ?_) (fun σ H1 hP => ?_)
    · rw [upd_same, rowO_zero, List.map_replicate]
      show some (HO.lst (List.replicate n [V.non]).flatten) = _
      rw [List.flatten_replicate_singleton]
      rfl
    · obtain ⟨y3, rfl, sm, hR⟩ := hP
      rw [show (0 : Int) + (i : Nat) = i from Int.zero_add _]
      have e : ((i : Int) % (n : Int)) = ((i % n : Nat) : Int) := (Int.natCast_emod i n).symm
      have hlt : i % n < n := Nat.mod_lt _ (by omega)
      refine ⟨_, rfl, _, rfl, _, rfl, .inl ⟨_, rfl, _, rfl, _, _, rfl, rfl, by omega, R, _, _, i % n, rfl, rfl, hR, ?_, _, rfl, same_put sm nR0, ?_⟩⟩
      · rw [List.length_map, rowO_len]
        unfold ixN
        rw [e, if_pos (by omega), if_pos (by omega)]
        rfl
      · rw [upd_same, ← rowO_step h2 h5 (by omega), List.map_set]
        rfl
    · obtain ⟨y3, rfl, sm, hR⟩ := hP
      rw [rowO_full hc, List.map_map] at hR
      have e : (rowN n c).map (oV ∘ some) = iVs (rowN n c) := rfl
      rw [e] at hR
      exact ⟨_, rfl, R, _, rfl, .inl ⟨.inl (.inl hR), fun p np => q _ p (same_put sm (sm.free np)) (sm.free np) upd_same⟩⟩
end
end K27
namespace K27
open PySem PySem.Spec PyProof.Rows L2
/-! ### heaps: all but one address stands -/
def Keep (kn : Addr) (H H' : Hp) : Prop := ∀ b o, H b = some o → b ≠ kn → H' b = some o
theorem Keep.rfl' {kn : Addr} {H : Hp} : Keep kn H H := fun _ _ e _ => e
theorem Keep.trans {kn : Addr} {H H1 H2 : Hp} (a : Keep kn H H1) (b : Keep kn H1 H2) : Keep kn H H2 := fun c o e n => b c o (a c o e n) n
theorem Keep.same {kn : Addr} {H H1 : Hp} (a : Same H H1) : Keep kn H H1 := fun c o e _ => a c o e
/-! ### the groups in the heap -/
def kvOf : List (Nat × List Nat) → List Addr → List (Key × V)
  | q :: g, p :: ps => (Sum.inl (q.1 : Int), .ref p) :: kvOf g ps
  | _, _ => []
def GR (H : Hp) : List (Nat × List Nat) → List Addr → Prop
  | [], [] => True
  | q :: g, p :: ps => H p = some (.lst (iVs q.2)) ∧ GR H g ps
  | _, _ => False
theorem GR.mono {H H' : Hp} : ∀ {g : List (Nat × List Nat)} {ps : List Addr}, GR H g ps → (∀ p ∈ ps, ∀ o, H p = some o → H' p = some o) → GR H' g ps
  | [], [], _, _ => True.intro
  | q :: g, p :: ps, h, k => ⟨k p List.mem_cons_self _ h.1, GR.mono h.2 fun p' m o e => k p' (List.mem_cons_of_mem _ m) o e⟩
  | [], _ :: _, h, _ => h.elim
  | _ :: _, [], h, _ => h.elim
theorem kvOf_len {H : Hp} : ∀ {g : List (Nat × List Nat)} {ps : List Addr}, GR H g ps → (kvOf g ps).length = g.length
  | [], [], _ => rfl
  | q :: g, p :: ps, h => by
    show (kvOf g ps).length + 1 = g.length + 1
    rw [kvOf_len h.2]
  | [], _ :: _, h => h.elim
  | _ :: _, [], h => h.elim
theorem GR.get {H : Hp} : ∀ {g : List (Nat × List Nat)} {ps : List Addr} {i : Nat} {k : Key} {x : V}, GR H g ps → (kvOf g ps)[i]? = some (k, x) → ∃ q p, g[i]? = some q ∧ x = .ref p ∧ p ∈ ps ∧ H p = some (.lst (iVs q.2))
  | [], [], i, k, x, _, e => by simp [kvOf] at e
  | q :: g, p :: ps, 0, k, x, h, e => by
    have e' : ((Sum.inl (q.1 : Int), V.ref p) : Key × V) = (k, x) := Option.some.inj e
    injection e' with e1 e2
    exact ⟨q, p, rfl, e2.symm, List.mem_cons_self, h.1⟩
  | q :: g, p :: ps, i + 1, k, x, h, e => by
    obtain ⟨q', p', h1, h2, h3, h4⟩ := GR.get (i := i) (k := k) (x := x) h.2 e
    exact ⟨q', p', h1, h2, List.mem_cons_of_mem _ h3, h4⟩
  | [], _ :: _, _, _, _, h, _ => h.elim
  | _ :: _, [], _, _, _, h, _ => h.elim
theorem GR.some_of {H : Hp} : ∀ {g : List (Nat × List Nat)} {ps : List Addr} {p : Addr}, GR H g ps → p ∈ ps → ∃ l, H p = some (.lst l)
  | q :: g, p' :: ps, p, h, m => by
    rcases List.mem_cons.mp m with rfl | m
    · exact ⟨_, h.1⟩
    · exact GR.some_of h.2 m
  | [], [], _, _, m => by cases m
  | [], _ :: _, _, h, _ => h.elim
  | _ :: _, [], _, h, _ => h.elim
theorem gr_none {H H' : Hp} {k c : Nat} {r : Addr} : ∀ {g : List (Nat × List Nat)} {ps : List Addr}, GR H g ps → valV (kvOf g ps) (Sum.inl (k : Int)) = none → (∀ p ∈ ps, ∀ o, H p = some o → H' p = some o) → H' r = some (.lst (iVs [c])) →
    GR H' (gput g k c) (ps ++ [r]) ∧ kvOf (gput g k c) (ps ++ [r]) = kvOf g ps ++ [(Sum.inl (k : Int), .ref r)]
  | [], [], _, _, _, hr => ⟨⟨hr, True.intro⟩, rfl⟩
  | q :: g, p :: ps, h, hv, hk, hr => by
    have ne : ¬ ((Sum.inl (q.1 : Int) : Key) = Sum.inl (k : Int)) := fun e => by
      have := valV_pos (r := kvOf g ps) (p := ((Sum.inl (q.1 : Int) : Key), V.ref p)) e
      rw [show kvOf (q :: g) (p :: ps) = (Sum.inl (q.1 : Int), V.ref p) :: kvOf g ps from rfl, this] at hv
      cases hv
    have nk : ¬ q.1 = k := fun e => ne (by rw [e])
    have hv' : valV (kvOf g ps) (Sum.inl (k : Int)) = none := by
      rw [show kvOf (q :: g) (p :: ps) = (Sum.inl (q.1 : Int), V.ref p) :: kvOf g ps from rfl, valV_neg ne] at hv
      exact hv
    obtain ⟨h1, h2⟩ := gr_none h.2 hv' (fun p' m o e => hk p' (List.mem_cons_of_mem _ m) o e) hr
    have eg : gput (q :: g) k c = q :: gput g k c := by
      obtain ⟨j, l⟩ := q
      show (if j = k then (j, l ++ [c]) :: g else (j, l) :: gput g k c) = _
      rw [if_neg nk]
    rw [eg]
    refine ⟨⟨hk p List.mem_cons_self _ h.1, h1⟩, ?_⟩
    show (Sum.inl (q.1 : Int), V.ref p) :: kvOf (gput g k c) (ps ++ [r]) = (Sum.inl (q.1 : Int), V.ref p) :: (kvOf g ps ++ [(Sum.inl (k : Int), V.ref r)])
    rw [h2]
  | [], _ :: _, h, _, _, _ => h.elim
  | _ :: _, [], h, _, _, _ => h.elim
theorem gr_some {H : Hp} {k c : Nat} {v : V} : ∀ {g : List (Nat × List Nat)} {ps : List Addr}, GR H g ps → ps.Nodup → valV (kvOf g ps) (Sum.inl (k : Int)) = some v →
    ∃ p q, v = .ref p ∧ p ∈ ps ∧ q ∈ g ∧ H p = some (.lst (iVs q.2)) ∧ kvOf (gput g k c) ps = kvOf g ps ∧
      ∀ H' : Hp, H' p = some (.lst (iVs (q.2 ++ [c]))) → (∀ p' ∈ ps, p' ≠ p → ∀ o, H p' = some o → H' p' = some o) → GR H' (gput g k c) ps
  | [], [], _, _, hv => by cases hv
  | q :: g, p :: ps, h, nd, hv => by
    obtain ⟨n1, n2⟩ := List.nodup_cons.mp nd
    obtain ⟨j, l⟩ := q
    by_cases e : j = k
    · subst e
      have := valV_pos (r := kvOf g ps) (p := ((Sum.inl (j : Int) : Key), V.ref p)) rfl
      rw [show kvOf ((j, l) :: g) (p :: ps) = (Sum.inl (j : Int), V.ref p) :: kvOf g ps from rfl, this] at hv
      have eg : gput ((j, l) :: g) j c = (j, l ++ [c]) :: g := by
        unfold gput
        rw [if_pos rfl]
      refine ⟨p, (j, l), (Option.some.inj hv).symm, List.mem_cons_self, List.mem_cons_self, h.1, by rw [eg]; rfl, fun H' e1 e2 => ?_⟩
      rw [eg]
      refine ⟨e1, GR.mono h.2 fun p' m o e => e2 p' (List.mem_cons_of_mem _ m) (fun z => n1 (z ▸ m)) o e⟩
    · have ne : ¬ ((Sum.inl (j : Int) : Key) = Sum.inl (k : Int)) := fun z => e (by injection z with z; omega)
      have hv' : valV (kvOf g ps) (Sum.inl (k : Int)) = some v := by
        rw [show kvOf ((j, l) :: g) (p :: ps) = (Sum.inl (j : Int), V.ref p) :: kvOf g ps from rfl, valV_neg ne] at hv
        exact hv
      obtain ⟨p0, q0, h1, h2, h3, h4, h5, h6⟩ := gr_some (c := c) h.2 n2 hv'
      have eg : gput ((j, l) :: g) k c = (j, l) :: gput g k c := by
        show (if j = k then (j, l ++ [c]) :: g else (j, l) :: gput g k c) = _
        rw [if_neg e]
      refine ⟨p0, q0, h1, List.mem_cons_of_mem _ h2, List.mem_cons_of_mem _ h3, h4, ?_, fun H' e1 e2 => ?_⟩
      · rw [eg]
        show (Sum.inl (j : Int), V.ref p) :: kvOf (gput g k c) ps = (Sum.inl (j : Int), V.ref p) :: kvOf g ps
        rw [h5]
      · rw [eg]
        exact ⟨e2 p List.mem_cons_self (fun z => n1 (z ▸ h2)) _ h.1, h6 H' e1 fun p' m n o z => e2 p' (List.mem_cons_of_mem _ m) n o z⟩
  | [], _ :: _, h, _, _ => h.elim
  | _ :: _, [], h, _, _ => h.elim
theorem gput_small {B : Nat} : ∀ {g : List (Nat × List Nat)} {k c : Nat}, (∀ q ∈ g, q.2.length ≤ B) → ∀ q ∈ gput g k c, q.2.length ≤ B + 1
  | [], k, c, _, q, m => by
    rw [show gput [] k c = [(k, [c])] from rfl] at m
    rw [List.mem_singleton.mp m]
    show 1 ≤ B + 1
    omega
  | (j, l) :: g, k, c, h, q, m => by
    have hl : l.length ≤ B := h (j, l) List.mem_cons_self
    have m' : q ∈ (if j = k then (j, l ++ [c]) :: g else (j, l) :: gput g k c) := m
    split at m'
    · rcases List.mem_cons.mp m' with rfl | m'
      · show (l ++ [c]).length ≤ B + 1
        rw [List.length_append, List.length_singleton]
        omega
      · have := h q (List.mem_cons_of_mem _ m')
        omega
    · rcases List.mem_cons.mp m' with rfl | m'
      · show l.length ≤ B + 1
        omega
      · exact gput_small (fun q z => h q (List.mem_cons_of_mem _ z)) q m'
theorem grp_small {n s : Nat} {cs : List Nat} : ∀ i : Nat, i ≤ cs.length → ∀ q ∈ grp n s (cs.take i), q.2.length ≤ i
  | 0, _, q, m => by
    rw [List.take_zero] at m
    cases m
  | i + 1, hi, q, m => by
    obtain ⟨c, hc⟩ : ∃ c, cs[i]? = some c := ⟨cs[i], List.getElem?_eq_getElem (by omega)⟩
    rw [grp_step hc] at m
    exact gput_small (grp_small i (by omega)) q m
/-! ### what is known -/
def keyOf (l : List Nat) : List Key := l.map fun x : Nat => (Sum.inl (x : Int) : Key)
theorem keyOf_kV (l : List Nat) : (keyOf l).map kV = iVs l := by
  unfold keyOf iVs
  rw [List.map_map]
  rfl
theorem keyOf_inj : ∀ {a b : List Nat}, keyOf a = keyOf b → a = b
  | [], [], _ => rfl
  | [], _ :: _, h => by cases h
  | _ :: _, [], h => by cases h
  | x :: a, y :: b, h => by
    have h' : (Sum.inl (x : Int) : Key) :: keyOf a = Sum.inl (y : Int) :: keyOf b := h
    injection h' with h1 h2
    injection h1 with h1
    rw [keyOf_inj h2, show x = y by omega]
theorem valV_mem {κ : Type} [DecidableEq κ] {kvs : List (κ × V)} {k : κ} {v : V} (h : valV kvs k = some v) : (k, v) ∈ kvs := by
  unfold valV at h
  cases e : kvs.find? (fun kv => decide (kv.1 = k)) with
  | none =>
    rw [e] at h
    cases h
  | some p =>
    rw [e] at h
    have h1 : p.2 = v := Option.some.inj h
    have h2 := List.find?_some e
    have h3 : p.1 = k := of_decide_eq_true h2
    have h4 := List.mem_of_find?_eq_some e
    rw [← h1, ← h3]
    exact h4
structure GoodK (n : Nat) (kvs : List (List Key × V)) : Prop where
  nd : (kvs.map (·.1)).Nodup
  ok : ∀ kv ∈ kvs, ∃ a m : Nat, a < 40 ∧ m < 16 ∧ kv.1 = keyOf (ivl a m) ∧ kv.2 = .int (val n (ivl a m) : Nat)
theorem GoodK.nil (n : Nat) : GoodK n [] := ⟨List.nodup_nil, fun kv m => by cases m⟩
theorem GoodK.val {n a m : Nat} {kvs : List (List Key × V)} {v : V} (G : GoodK n kvs) (h : valV kvs (keyOf (ivl a m)) = some v) : v = .int (K27.val n (ivl a m) : Nat) := by
  obtain ⟨a', m', _, _, e1, e2⟩ := G.ok _ (valV_mem h)
  have e3 := keyOf_inj (show keyOf (ivl a m) = keyOf (ivl a' m') from e1)
  have e4 : v = .int (K27.val n (ivl a' m') : Nat) := e2
  rw [e4, e3]
def univ : List (List Key) := (List.range 40).flatMap fun a => (List.range 16).map fun m => keyOf (ivl a m)
theorem univ_len : univ.length = 640 := by decide +kernel
theorem nodup_le {α : Type} [DecidableEq α] : ∀ {l u : List α}, l.Nodup → (∀ x ∈ l, x ∈ u) → l.length ≤ u.length
  | [], _, _, _ => Nat.zero_le _
  | x :: l, u, nd, h => by
    obtain ⟨n1, n2⟩ := List.nodup_cons.mp nd
    have hx := h x List.mem_cons_self
    have ih := nodup_le (u := u.erase x) n2 fun y hy => (List.mem_erase_of_ne (show y ≠ x from fun z => n1 (by rw [← z]; exact hy))).mpr (h y (List.mem_cons_of_mem _ hy))
    have hl := List.length_erase_of_mem hx
    have hp := List.length_pos_of_mem hx
    rw [List.length_cons]
    omega
theorem GoodK.len {n : Nat} {kvs : List (List Key × V)} (G : GoodK n kvs) : kvs.length ≤ 640 := by
  have h := nodup_le (u := univ) G.nd fun k hk => by
    obtain ⟨kv, hkv, rfl⟩ := List.mem_map.mp hk
    obtain ⟨a, m, ha, hm, e, _⟩ := G.ok kv hkv
    exact List.mem_flatMap.mpr ⟨a, List.mem_range.mpr ha, List.mem_map.mpr ⟨m, List.mem_range.mpr hm, e.symm⟩⟩
  rw [univ_len, List.length_map] at h
  exact h
theorem GoodK.put {n a m : Nat} {kvs : List (List Key × V)} (G : GoodK n kvs) (ha : a < 40) (hm : m < 16) : GoodK n (putK kvs (keyOf (ivl a m)) (.int (K27.val n (ivl a m) : Nat))) := by
  cases e : valV kvs (keyOf (ivl a m)) with
  | none =>
    refine ⟨nd_putK _ G.nd e, fun kv h => ?_⟩
    rw [putK_new _ e] at h
    rcases List.mem_append.mp h with h | h
    · exact G.ok kv h
    · rw [List.mem_singleton.mp h]
      exact ⟨a, m, ha, hm, rfl, rfl⟩
  | some v =>
    have any : (kvs.any fun kv => decide (kv.1 = keyOf (ivl a m))) = true := by
      rw [valV_any, e]
      rfl
    have ep : putK kvs (keyOf (ivl a m)) (.int (K27.val n (ivl a m) : Nat)) = kvs.map (fun kv => if kv.1 = keyOf (ivl a m) then (kv.1, .int (K27.val n (ivl a m) : Nat)) else kv) := by
      unfold putK
      rw [if_pos any]
    rw [ep]
    refine ⟨?_, fun kv h => ?_⟩
    · rw [List.map_map]
      have : ((fun x : List Key × V => x.1) ∘ fun kv : List Key × V => if kv.1 = keyOf (ivl a m) then (kv.1, V.int (K27.val n (ivl a m) : Nat)) else kv) = fun x => x.1 := by
        funext kv
        show (if kv.1 = keyOf (ivl a m) then (kv.1, V.int (K27.val n (ivl a m) : Nat)) else kv).1 = kv.1
        split <;> rfl
      rw [this]
      exact G.nd
    · obtain ⟨kv', h', rfl⟩ := List.mem_map.mp h
      by_cases c : kv'.1 = keyOf (ivl a m)
      · rw [if_pos c]
        exact ⟨a, m, ha, hm, c, rfl⟩
      · rw [if_neg c]
        exact G.ok kv' h'
/-! ### the rows in the heap -/
def RowsAt (H : Hp) (rw' : Addr) (n a m : Nat) : Prop := ∃ rk : List (Key × V), H rw' = some (.dK rk) ∧ ∀ c, a ≤ c → c < a + m → ∃ t, valV rk (Sum.inl (c : Int)) = some (.ref t) ∧ H t = some (.tup (iVs (rowN n c)))
theorem RowsAt.keep {H H' : Hp} {r kn : Addr} {n a m : Nat} {kvs : List (List Key × V)} (h : RowsAt H r n a m) (k : Keep kn H H') (hk : H kn = some (.dT kvs)) : RowsAt H' r n a m := by
  obtain ⟨rk, h1, h2⟩ := h
  refine ⟨rk, k _ _ h1 (ne_of h1 hk (by intro z; cases z)), fun c c1 c2 => ?_⟩
  obtain ⟨t, e1, e2⟩ := h2 c c1 c2
  exact ⟨t, e1, k _ _ e2 (ne_of e2 hk (by intro z; cases z))⟩
theorem RowsAt.part {H : Hp} {r : Addr} {n a m b k : Nat} (h : RowsAt H r n a m) (h1 : a ≤ b) (h2 : b + k ≤ a + m) : RowsAt H r n b k := by
  obtain ⟨rk, e, f⟩ := h
  exact ⟨rk, e, fun c c1 c2 => f c (by omega) (by omega)⟩
theorem RowsAt.same {H H' : Hp} {r : Addr} {n a m : Nat} (h : RowsAt H r n a m) (k : Same H H') : RowsAt H' r n a m := by
  obtain ⟨rk, e, f⟩ := h
  refine ⟨rk, k _ _ e, fun c c1 c2 => ?_⟩
  obtain ⟨t, e1, e2⟩ := f c c1 c2
  exact ⟨t, e1, k _ _ e2⟩
section
variable {X : Cx} {Z : PySem.W.Frag}
/-! ### rules whose reading names the written part by a letter of its own (within a comprehension) -/
theorem pe_tupK (hK : X.K = Z) {a : Expr} {ta : TE} {p pos : Pos} (hg : Gl X "tuple") (hm : X.mg "tuple" = none) (ha : PE X a ta) (na : starEach [a] X.env = (false, eval a X.env) :: starEach [] X.env := by rfl) :
    PE X (.Call (.Name "tuple" p) [a] [] pos) (tThen ta (kTup Z)) := by
  subst hK
  exact pe_tupleOf hg hm ha na
theorem ix_tupK (hK : X.K = Z) : IxR X (rIxT Z) := by
  subst hK
  exact ix_tup
theorem len_seqK (hK : X.K = Z) : CallR X (.builtin "len") (fun xs H Q => ∃ p ys, xs = [.ref p] ∧ (SqL Z H p ys ∨ SqT Z H p ys) ∧ Q (.int ys.length) H) := by
  subst hK
  exact call_len_seq
theorem op_neDK (hK : X.K = Z) (hu : X.A.units + 64 < cLine) : OpR X (compareOp .NotEq) (rNeD Z) := by
  subst hK
  exact op_neD hu
end
end K27
namespace K27
open PySem PySem.Spec PyProof.Rows L2
section
variable {P : Program} {w : World} {K : PySem.W.Frag} {mg : Str → Option Value} {base : Heap}
abbrev nFew : List Str := ["_law_many", "_law_rows", "_law_counts", "_law_known", "_law_found", "_law_slot", "_law_answers", "_law_count", "_law_worst", "_law_some"]
abbrev psFew : List Str := ["_law_many", "_law_rows", "_law_counts", "_law_known"]
theorem sc13 : FnScope nFew psFew (defScope sFew) := ⟨rfl, rfl, rfl, by decide +kernel, rfl, by decide +kernel, by decide +kernel⟩
def spFew (b : Nat) : Sp := fun vs H Q _ => ∃ (n a m : Nat) (rw' ct kn : Addr) (kvs : List (List Key × V)), vs = [.int n, .ref rw', .ref ct, .ref kn] ∧ 2 ≤ n ∧ n ≤ 5 ∧ n ≤ a ∧ 1 ≤ m ∧ m ≤ 3 * n ∧ a + m ≤ 8 * n ∧ m ≤ b + 1 ∧
  H ct = some (.tup (iVs (ivl a m))) ∧ RowsAt H rw' n a m ∧ H kn = some (.dT kvs) ∧ GoodK n kvs ∧
  ∀ (H' : Hp) (kvs' : List (List Key × V)), Keep kn H H' → H' kn = some (.dT kvs') → GoodK n kvs' → Q (.int (val n (ivl a m) : Nat)) H'
theorem val_one {n a : Nat} (h2 : 2 ≤ n) (h5 : n ≤ 5) : val n (ivl a 1) = 0 := by
  unfold val
  rw [ivl_len]
  rcases four h2 h5 with rfl | rfl | rfl | rfl <;> rfl
theorem ok_few0 {f : Addr} {fd : FuncData} (F : Fun K "_law_fewest" "_law_fewest" sFew f fd) (T : Txt mg) : FnOk P w K mg base CX0 1 f fd psFew (spFew 0) := by
  refine F.ok sc13 (fun vs H Q E h => ?_) (fun cdv A outer s H vs Q E hr h => ?_)
  · obtain ⟨n, a, m, rw', ct, kn, kvs, rfl, _⟩ := h
    rfl
  · obtain ⟨n, a, m, rw', ct, kn, kvs, rfl, h2, h5, ha, hm, hm3, hb, hmb, hct, hR, hk, G, q⟩ := h
    refine ⟨_, pss_cons (ps_if (pt_cmpR op_lt (pe_callB call_len_seq (by rfl) T.len PySem.boot_len (pa_cons (pv 2) pa_nil)) pe_int (nomark _)) (pss_one (ps_ret pe_int)) pss_nil) pss_never, ?_⟩
    refine ⟨_, rfl, ct, _, rfl, .inr (.inl (.inl hct)), _, _, rfl, rfl, _, rfl, ?_⟩
    refine iteD (by rw [iVs_len, ivl_len]; omega) ?_
    have e : m = 1 := by omega
    subst e
    have := q H kvs Keep.rfl' hk G
    rw [val_one h2 h5] at this
    exact this
theorem ok_few1 {f : Addr} {fd : FuncData} {b : Nat} (F : Fun K "_law_fewest" "_law_fewest" sFew f fd) (T : Txt mg) (C : Cl P w K mg base (b + 1) "_law_fewest" psFew (spFew b)) : FnOk P w K mg base CX0 (b + 2) f fd psFew (spFew (b + 1)) := by
  refine F.ok sc13 (fun vs H Q E h => ?_) (fun cdv A outer s H vs Q E hr h => ?_)
  · obtain ⟨n, a, m, rw', ct, kn, kvs, rfl, _⟩ := h
    rfl
  · obtain ⟨n, a, m, rw', ct, kn, kvs, rfl, h2, h5, ha, hm, hm3, hb, hmb, hct, hR, hk, G, q⟩ := h
    have hu := hu_of hr
    refine ⟨_, (pss_cons (ps_if (pt_cmpR op_lt (pe_callB call_len_seq (by rfl) T.len PySem.boot_len (pa_cons (pv 2) pa_nil)) pe_int (nomark _)) (pss_one (ps_ret pe_int)) pss_nil) (pss_cons (ps_if (pt_cmp (pc_din hu (pv 2) (pv 3))) (pss_one (ps_ret (pe_dget hu (pv 3) (pv 2) (fun _ _ => rfl)))) pss_nil) (pss_cons (ps_set (i := 4) sc13.nd rfl (.inl rfl) pe_non) (pss_cons (ps_for PassesOwn.never rfl (pi_range1 (by rfl) T.range (pa_cons (pv 0) pa_nil)) (pg_name (i := 5) sc13.nd rfl (Or.inl rfl)) (pss_cons (ps_set (i := 6) sc13.nd rfl (.inl rfl) pe_dnewK) (pss_cons (ps_for PassesOwn.never rfl (pi_tup (pv 2)) (pg_name (i := 7) sc13.nd rfl (Or.inl rfl)) (pss_one (ps_expr (pe_bm PySem.F.plainAttrs_list PySem.F.slot_list_append PySem.F.type_list_append mt_append (pe_dsetd (pv 6) (pe_ix ix_tup (pe_dget hu (pv 1) (pv 7) (fun _ _ => rfl)) (pv 5) (fun _ _ => rfl)) (pe_lst pa_nil) ⟨rfl, rfl, rfl, rfl⟩) (pa_cons (pv 7) pa_nil))))) (pss_one (ps_if (pt_cmpR op_gt (pe_callB call_lenD (by rfl) T.len PySem.boot_len (pa_cons (pv 6) pa_nil)) pe_int (nomark _)) (pss_cons (ps_set (i := 8) sc13.nd rfl (.inl rfl) (pe_callB (cr_max rfl) (by rfl) T.max (by decide +kernel) (pa_cons (pe_lock (pe_lc (own := [("_law_some", 9)]) (g := gName 9) (by rfl) sc13.nd (pi_values (pv 6)) (blkOk_by (own := [("_law_some", 9)]) (N := nFew) (sc := defScope sFew) (by decide +kernel)) (fun _ _ _ _ _ => (pg_name (i := 9) sc13.nd rfl (Or.inl rfl))) (fun _ _ _ _ _ => pts_nil) (fun _ _ _ _ _ => (pc C hr (Nat.le_refl _) (pa_cons (pv 0) (pa_cons (pv 1) (pa_cons (pe_tupK (Z := K) rfl (by rfl) T.tuple (pv 9)) (pa_cons (pv 3) pa_nil)))))))) pa_nil))) (pss_one (ps_set (i := 4) sc13.nd rfl (.inl rfl) (pe_ifExp (pt_cmpR op_isN (pv 4) pe_non (nomark _)) (pe_op op_add (pv 8) pe_int) (pe_callB (call_min2 rfl) (by rfl) T.min (by decide +kernel) (pa_cons (pv 4) (pa_cons (pe_op op_add (pv 8) pe_int) pa_nil))))))) pss_nil))))) (pss_cons (ps_dput hu (pv 3) (pv 2) (pv 4) rfl) (pss_one (ps_ret (pv 4)))))))), ?_⟩
    refine ⟨_, rfl, ct, _, rfl, .inr (.inl (.inl hct)), _, _, rfl, rfl, _, rfl, ?_⟩
    by_cases h1 : m < 2
    · refine iteD (by rw [iVs_len, ivl_len]; omega) ?_
      have e : m = 1 := by omega
      subst e
      have := q H kvs Keep.rfl' hk G
      rw [val_one h2 h5] at this
      exact this
    refine iteND (by rw [iVs_len, ivl_len]; omega) ?_
    have ek : H ct = some (.tup ((keyOf (ivl a m)).map kV)) := by
      rw [keyOf_kV]
      exact hct
    -- counts in known
    refine ⟨_, rfl, _, rfl, kn, _, rfl, DGet.t hk ek, _, rfl, ?_⟩
    cases ev : valV kvs (keyOf (ivl a m)) with
    | some v =>
      refine iteT ?_
      have gd : DGet H kn (.ref ct) (some v) := by
        have := DGet.t hk ek
        rw [ev] at this
        exact this
      refine ⟨_, rfl, _, rfl, kn, v, rfl, gd, ?_⟩
      rw [G.val ev]
      exact q H kvs Keep.rfl' hk G
    | none =>
      refine iteF ?_
      -- found = None; for slot in range(many)
      refine ⟨_, rfl, _, rfl, by omega, by omega, ?_⟩
      refine for_range (lo := 0) (n := n) (fun i σ H1 => ∃ (kvs1 : List (List Key × V)) (y5 y6 y7 y8 : Option V), σ = [some (.int n), some (.ref rw'), some (.ref ct), some (.ref kn), some (oV (foundAt n (ivl a m) i)), y5, y6, y7, y8, none] ∧
        H1 kn = some (.dT kvs1) ∧ GoodK n kvs1 ∧ Keep kn H H1) ⟨kvs, none, none, none, none, rfl, hk, G, Keep.rfl'⟩ (fun i σ H1 hi hP => ?_) (fun σ H1 hP => ?_)
      · obtain ⟨kvs1, y5, y6, y7, y8, rfl, hk1, G1, kp1⟩ := hP
        rw [show (0 : Int) + (i : Nat) = i from Int.zero_add _]
        have hct1 : H1 ct = some (.tup (iVs (ivl a m))) := kp1 _ _ hct (ne_of hct hk (by intro z; cases z))
        have hR1 : RowsAt H1 rw' n a m := hR.keep kp1 hk
        -- answers = {}
        refine fun d nd => ?_
        -- for count in counts
        refine ⟨_, rfl, ct, rfl, ⟨_, .inl (.inl (same_upd nd _ _ hct1))⟩, ?_⟩
        refine for_tup (K := K) (a := ct) (xs := iVs (ivl a m)) (fun j σ H2 => ∃ (ps : List Addr) (y7 : Option V), σ = [some (.int n), some (.ref rw'), some (.ref ct), some (.ref kn), some (oV (foundAt n (ivl a m) i)), some (.int i), some (.ref d), y7, y8, none] ∧
          GR H2 (grp n i ((ivl a m).take j)) ps ∧ ps.Nodup ∧ H2 d = some (.dK (kvOf (grp n i ((ivl a m).take j)) ps)) ∧ Same H1 H2 ∧ ∀ p ∈ ps, H1 p = none)
          ⟨[], y7, rfl, True.intro, List.nodup_nil, upd_same, same_upd nd, fun p z => by cases z⟩ (fun j σ H2 _ hP => ?_) (fun j x σ H2 hx hP => ?_) (fun σ H2 hP => ?_)
        · obtain ⟨ps, y7, rfl, _, _, _, sm, _⟩ := hP
          exact .inl (.inl (sm _ _ hct1))
        · obtain ⟨ps, y7, rfl, gr, pn, hd, sm, fr⟩ := hP
          have hj : j < m := by
            have := (List.getElem?_eq_some_iff.mp hx).1
            rw [iVs_len, ivl_len] at this
            exact this
          rw [iVs_get (ivl_get (a := a) hj)] at hx
          cases hx
          obtain ⟨rk, hrk, hrows⟩ := hR1.same sm
          obtain ⟨t, et, ht⟩ := hrows (a + j) (by omega) (by omega)
          have dg : DGet H2 rw' (.int ((a + j : Nat) : Int)) (some (.ref t)) := by
            have := DGet.k (k := Sum.inl ((a + j : Nat) : Int)) hrk
            rw [et] at this
            exact this
          have gs : atI (iVs (rowN n (a + j))) (i : Int) = some (.int (cellN n (a + j) i : Nat)) := atI_nat (iVs_get (rowN_get hi))
          have estep := grp_step (n := n) (s := i) (ivl_get (a := a) hj)
          have hgl : (kvOf (grp n i ((ivl a m).take j)) ps).length ≤ j := by
            rw [kvOf_len gr]
            exact Nat.le_trans (grp_len _ _ _) (List.length_take_le _ _)
          have hql := grp_small (n := n) (s := i) (cs := ivl a m) j (by rw [ivl_len]; omega)
          refine ⟨_, rfl, d, rfl, .inl ⟨_, .inl hd⟩, _, rfl, _, rfl, rw', .ref t, rfl, dg, _, rfl, t, _, i, _, rfl, rfl, .inl (.inl ht), gs, Nat.zero_le _, fun r nr => ?_⟩
          have nrd : d ≠ r := ne_of_none hd nr
          refine ⟨_, Sum.inl ((cellN n (a + j) i : Nat) : Int), by rw [upd_ne nrd]; exact hd, rfl, small1000 (by omega), fun v hv => ?_, fun hv => ?_⟩
          · obtain ⟨p, q0, rfl, hp, hq0, hHp, hkv, hgr⟩ := gr_some (c := a + j) gr pn hv
            have npr : p ≠ r := ne_of_none hHp nr
            have npd : d ≠ p := ne_of hd hHp (by intro z; cases z)
            have hHp' : upd H2 r (.lst []) p = some (.lst (iVs q0.2)) := by
              rw [upd_ne npr]
              exact hHp
            refine ⟨.inl ⟨rfl, _, .inl (.inl hHp')⟩, _, rfl, p, _, _, rfl, rfl, hHp', ?_, ps, _, rfl, ?_, pn, ?_, ?_, fr⟩
            · rw [iVs_len]
              exact small1000 (by have := hql q0 hq0; omega)
            · rw [estep]
              refine hgr _ (by rw [upd_same, iVs_snoc]) fun p' _ ne o e => ?_
              rw [upd_ne ne, upd_ne (ne_of_none e nr)]
              exact e
            · rw [upd_ne npd, upd_ne nrd, estep, hkv]
              exact hd
            · exact same_put (same_put sm (sm.free nr)) (fr p hp)
          · have hr2 : (upd (upd H2 r (.lst [])) d (.dK (putK (kvOf (grp n i ((ivl a m).take j)) ps) (Sum.inl ((cellN n (a + j) i : Nat) : Int)) (.ref r)))) r = some (.lst []) := by
              rw [upd_ne nrd.symm, upd_same]
            have hrn : ¬ r ∈ ps := fun z => by
              obtain ⟨l, e⟩ := gr.some_of z
              rw [nr] at e
              cases e
            refine ⟨.inl ⟨rfl, _, .inl (.inl hr2)⟩, _, rfl, r, _, _, rfl, rfl, hr2, by decide, ps ++ [r], _, rfl, ?_, nd_snoc pn hrn, ?_, ?_, ?_⟩
            · rw [estep]
              refine (gr_none gr hv (fun p hp o e => ?_) upd_same).1
              obtain ⟨l, e'⟩ := gr.some_of hp
              rw [upd_ne (ne_of_none e nr), upd_ne (ne_of e' hd (by intro z; cases z)), upd_ne (ne_of_none e nr)]
              exact e
            · rw [upd_ne nrd, upd_same, putK_new _ hv, estep, (gr_none (c := a + j) (H' := upd H2 r (.lst (iVs [a + j]))) gr hv (fun p hp o e => by rw [upd_ne (ne_of_none e nr)]; exact e) upd_same).2]
            · exact same_put (same_put (same_put sm (sm.free nr)) nd) (sm.free nr)
            · intro p hp
              rcases List.mem_append.mp hp with hp | hp
              · exact fr p hp
              · rw [List.mem_singleton.mp hp]
                exact sm.free nr
        · obtain ⟨ps, y7, rfl, gr, pn, hd, sm, fr⟩ := hP
          rw [iVs_len, ivl_len, List.take_of_length_le (by rw [ivl_len]; exact Nat.le_refl _)] at gr hd
          have hk2 : H2 kn = some (.dT kvs1) := sm _ _ hk1
          have nkd : kn ≠ d := ne_of hk2 hd (by intro z; cases z)
          generalize hgg : grp n i (ivl a m) = g at gr hd
          -- if len(answers) > 1
          refine ⟨_, rfl, d, _, rfl, hd, _, _, rfl, rfl, _, rfl, ?_⟩
          by_cases hg : 1 < g.length
          · refine iteD (by rw [kvOf_len gr]; omega) ?_
            refine ⟨d, _, hd, True.intro, fun od => ?_⟩
            refine ⟨_, rfl, d, od, _, rfl, upd_same, fun D nD => ?_⟩
            generalize hHL : upd H2 d (.frz od (.dK (kvOf g ps))) = HL at nD
            have hkL : HL kn = some (.dT kvs1) := by
              rw [← hHL, upd_ne nkd]
              exact hk2
            have hdL : HL d = some (.frz od (.dK (kvOf g ps))) := by
              rw [← hHL]
              exact upd_same
            have smL : Same H1 HL := by
              rw [← hHL]
              exact same_put sm nd
            have nkD : kn ≠ D := ne_of_none hkL nD
            have ndD : d ≠ D := ne_of_none hdL nD
            refine ⟨fun j mm H3 => mm = g.length - j ∧ j ≤ g.length ∧ ∃ kvs3 : List (List Key × V), H3 D = some (.lst (((g.take j).map fun q => ((val n q.2 : Nat) : Int)).map V.int)) ∧ H3 kn = some (.dT kvs3) ∧ GoodK n kvs3 ∧ Keep kn HL H3,
              ⟨g.length, by omega, Nat.zero_le _, kvs1, upd_same, by rw [upd_ne nkD]; exact hkL, G1, Keep.same (same_upd nD)⟩, ?_⟩
            rintro j mm H3 ⟨rfl, hjg, kvs3, hD, hk3, G3, kp3⟩
            have hd3 : H3 d = some (.frz od (.dK (kvOf g ps))) := kp3 _ _ hdL nkd.symm
            by_cases hlt : j < g.length
            · refine .inr ⟨⟨hd3, by rw [kvOf_len gr]; exact hlt⟩, fun H' => ∃ kvs4 : List (List Key × V), H' D = some (.lst (((g.take (j + 1)).map fun q => ((val n q.2 : Nat) : Int)).map V.int)) ∧ H' kn = some (.dT kvs4) ∧ GoodK n kvs4 ∧ Keep kn HL H',
                fun H' hN => ⟨g.length - (j + 1), by omega, rfl, hlt, hN⟩, fun x H' hy => ?_⟩
              obtain ⟨rfl, k, hkx⟩ := hy
              obtain ⟨q0, p, hq0, rfl, hp, hHp⟩ := gr.get hkx
              obtain ⟨b', k', eq0, klt, k1, hab, hbk⟩ := grp_ok h2 h5 ha (by omega) hm3 hb hi (by rw [hgg]; exact hg) (by rw [hgg]; exact List.mem_of_getElem? hq0)
              have hp3 : H' p = some (.lst (iVs (ivl b' k'))) := by
                rw [← eq0]
                refine kp3 _ _ ?_ (ne_of hHp hk2 (by intro z; cases z))
                rw [← hHL, upd_ne (ne_of hHp hd (by intro z; cases z))]
                exact hHp
              refine ⟨rfl, _, rfl, _, rfl, _, rfl, .inl ⟨p, _, rfl, .inl (.inl hp3), fun t nt => ?_⟩⟩
              have hkt : kn ≠ t := ne_of_none hk3 nt
              refine ⟨_, rfl, n, b', k', rw', t, kn, kvs3, rfl, h2, h5, by omega, k1, by omega, by omega, by omega, upd_same, (((hR1.same smL).keep kp3 hkL).part hab hbk).same (same_upd nt), by rw [upd_ne hkt]; exact hk3, G3, fun H5 kvs5 kp5 hk5 G5 => ?_⟩
              have hDt : D ≠ t := ne_of_none hD nt
              have hD5 := kp5 D _ (by rw [upd_ne hDt]; exact hD) nkD.symm
              refine ⟨_, hD5, ?_, kvs5, ?_, by rw [upd_ne nkD]; exact hk5, G5, ?_⟩
              · rw [List.length_map, List.length_map]
                refine small1000 (Nat.le_trans (List.length_take_le _ _) ?_)
                have := grp_len n i (ivl a m)
                rw [hgg, ivl_len] at this
                omega
              · rw [upd_same, List.take_add_one, hq0, ← eq0, List.map_append, List.map_append]
                rfl
              · intro c o ec nc
                rw [upd_ne (ne_of_none ec nD)]
                refine kp5 _ _ ?_ nc
                have e3 := kp3 _ _ ec nc
                rw [upd_ne (ne_of_none e3 nt)]
                exact e3
            · have ej : j = g.length := by omega
              rw [ej, List.take_of_length_le (Nat.le_refl _)] at hD
              refine .inl ⟨⟨hd3, by rw [kvOf_len gr]; omega⟩, hd3, ?_⟩
              have hD4 : upd H3 d (.dK (kvOf g ps)) D = some (.lst ((g.map fun q => ((val n q.2 : Nat) : Int)).map V.int)) := by
                rw [upd_ne ndD.symm]
                exact hD
              refine ⟨D, _, rfl, .inl (.inl hD4), by rw [List.length_map]; omega, fun z hz hle => ?_⟩
              have ez : z = ((maxN (g.map fun q => val n q.2) : Nat) : Int) := by
                have em : (g.map fun q => ((val n q.2 : Nat) : Int)) = (g.map fun q => val n q.2).map fun x : Nat => (x : Int) := by
                  rw [List.map_map]
                  rfl
                rw [em] at hz hle
                exact max_is hz hle
              subst ez
              have hk4 : upd H3 d (.dK (kvOf g ps)) kn = some (.dT kvs3) := by
                rw [upd_ne nkd]
                exact hk3
              have kp4 : Keep kn H (upd H3 d (.dK (kvOf g ps))) := by
                intro c o ec nc
                have e2 := sm _ _ (kp1 _ _ ec nc)
                by_cases hcd : c = d
                · subst hcd
                  rw [hd] at e2
                  rw [upd_same]
                  exact e2
                · rw [upd_ne hcd]
                  refine kp3 _ _ ?_ nc
                  rw [← hHL, upd_ne hcd]
                  exact e2
              have efound : foundAt n (ivl a m) (i + 1) = nextF n i (ivl a m) (foundAt n (ivl a m) i) := rfl
              cases hf : foundAt n (ivl a m) i with
              | none =>
                rw [hf] at efound
                unfold nextF at efound
                rw [hgg, if_pos hg] at efound
                refine ⟨_, rfl, rfl, _, rfl, ?_⟩
                refine iteD rfl ⟨_, rfl, _, _, rfl, rfl, kvs3, some (.int i), some (.ref d), y7, some (.int ((maxN (g.map fun q => val n q.2) : Nat) : Int)), ?_, hk4, G3, kp4⟩
                rw [efound]
                rfl
              | some x0 =>
                rw [hf] at efound
                unfold nextF at efound
                rw [hgg, if_pos hg] at efound
                refine ⟨_, rfl, rfl, _, rfl, ?_⟩
                refine iteND (by intro z; cases z) ⟨_, rfl, _, rfl, _, _, rfl, rfl, _, _, rfl, kvs3, some (.int i), some (.ref d), y7, some (.int ((maxN (g.map fun q => val n q.2) : Nat) : Int)), ?_, hk4, G3, kp4⟩
                rw [efound]
                have emin : (if ((maxN (g.map fun q => val n q.2) : Nat) : Int) + 1 < (x0 : Int) then ((maxN (g.map fun q => val n q.2) : Nat) : Int) + 1 else (x0 : Int)) = (((if maxN (g.map fun q => val n q.2) + 1 < x0 then maxN (g.map fun q => val n q.2) + 1 else x0) : Nat) : Int) := by
                  split <;> split <;> omega
                show [some (V.int n), some (V.ref rw'), some (V.ref ct), some (V.ref kn), some (V.int (if ((maxN (g.map fun q => val n q.2) : Nat) : Int) + 1 < (x0 : Int) then ((maxN (g.map fun q => val n q.2) : Nat) : Int) + 1 else (x0 : Int))), some (V.int i), some (V.ref d), y7, some (.int ((maxN (g.map fun q => val n q.2) : Nat) : Int)), none] = _
                rw [emin]
                rfl
          · refine iteND (by rw [kvOf_len gr]; omega) ?_
            have efound : foundAt n (ivl a m) (i + 1) = foundAt n (ivl a m) i := by
              show nextF n i (ivl a m) (foundAt n (ivl a m) i) = _
              unfold nextF
              rw [hgg, if_neg hg]
            refine ⟨kvs1, some (.int i), some (.ref d), y7, y8, ?_, hk2, G1, kp1.trans (Keep.same sm)⟩
            rw [efound]
      · obtain ⟨kvs1, y5, y6, y7, y8, rfl, hk1, G1, kp1⟩ := hP
        rw [found_val h2 h5 ha (by omega) hm3 hb]
        have ek1 : H1 ct = some (.tup ((keyOf (ivl a m)).map kV)) := kp1 _ _ ek (ne_of ek hk (by intro z; cases z))
        refine ⟨_, rfl, _, rfl, _, rfl, kn, _, rfl, DPut.t hk1 ek1 (small1000 (by have := G1.len; omega)), ?_⟩
        refine ⟨_, rfl, ?_⟩
        refine q _ _ (fun c o ec nc => ?_) upd_same (G1.put (by omega) (by omega))
        rw [upd_ne nc]
        exact kp1 _ _ ec nc
theorem cl_few {f : Addr} {fd : FuncData} (F : Fun K "_law_fewest" "_law_fewest" sFew f fd) (T : Txt mg) (hm : mg "_law_fewest" = some (.ref f)) (bi : Binds K fd psFew []) : ∀ b : Nat, Cl P w K mg base (b + 1) "_law_fewest" psFew (spFew b)
  | 0 => ⟨f, fd, ok_few0 F T, hm, F.kp, bi⟩
  | b + 1 => ⟨f, fd, ok_few1 F T (cl_few F T hm bi b), hm, F.kp, bi⟩
end
end K27
namespace K27
open PySem PySem.Spec PyProof.Rows L2
/-! ### rows as data -/
def dats (l : List Nat) : List PyData := l.map fun x : Nat => PyData.int (x : Int)
theorem dats_lay : ∀ l : List Nat, PyData.canLayAll0 (dats l) = true
  | [] => rfl
  | x :: l => by
    show PyData.canLayAll0 (PyData.int (x : Int) :: dats l) = true
    rw [PyData.canLayAll0, dats_lay l]
    rfl
theorem dats_depth : ∀ l : List Nat, PyData.depthAll (dats l) = 0
  | [] => rfl
  | x :: l => by
    show PyData.depthAll (PyData.int (x : Int) :: dats l) = 0
    rw [PyData.depthAll, dats_depth l]
    rfl
theorem dats_ok (l : List Nat) : SeqAt.shaped (.tuple (dats l)) = true := by
  unfold SeqAt.shaped
  rw [PyData.canLay0, dats_lay, PyData.depth, dats_depth]
  rfl
theorem dats_all {K : PySem.W.Frag} {H : Hp} : ∀ l : List Nat, DpAll K H (iVs l) (dats l)
  | [] => .nil
  | x :: l => .cons (.int _) (dats_all l)
/-! ### dict of pairs -/
theorem merge_get {R : Key → V → Prop} {k : Key} : ∀ (more kvs : List (Key × V)), (∀ kv ∈ more, R kv.1 kv.2) → (∀ v, valV kvs k = some v → R k v) → (k ∈ more.map (·.1) ∨ (valV kvs k).isSome = true) → ∃ v, valV (mergeK kvs more) k = some v ∧ R k v
  | [], kvs, _, h2, h3 => by
    rcases h3 with h3 | h3
    · cases h3
    · obtain ⟨v, e⟩ := Option.isSome_iff_exists.mp h3
      exact ⟨v, e, h2 v e⟩
  | (k', v') :: more, kvs, h1, h2, h3 => by
    refine merge_get more (putK kvs k' v') (fun kv m => h1 kv (List.mem_cons_of_mem _ m)) (fun v e => ?_) ?_
    · rw [valV_put] at e
      by_cases ek : k = k'
      · rw [if_pos ek] at e
        have e' := Option.some.inj e
        subst e' ek
        exact h1 (k, v') List.mem_cons_self
      · rw [if_neg ek] at e
        exact h2 v e
    · rw [valV_put]
      by_cases ek : k = k'
      · rw [if_pos ek]
        exact .inr rfl
      · rw [if_neg ek]
        rcases h3 with h3 | h3
        · rcases List.mem_cons.mp h3 with h3 | h3
          · exact absurd h3 ek
          · exact .inl h3
        · exact .inr h3
theorem paired_mono {α β : Type} {F G : α → β → Prop} (h : ∀ a b, F a b → G a b) : ∀ {l : List α} {r : List β}, Paired F l r → Paired G l r
  | _, _, .nil => .nil
  | _, _, .cons x t => .cons (h _ _ x) (paired_mono h t)
theorem rgV_ivl (a m : Nat) : rgV (a : Int) ((a + m : Nat) : Int) = iVs (ivl a m) := by
  unfold rgV iVs ivl
  rw [show (((a + m : Nat) : Int) - (a : Int)).toNat = m by omega, List.map_map]
  refine List.map_congr_left fun i _ => ?_
  show V.int ((a : Int) + (i : Nat)) = V.int ((a + i : Nat) : Int)
  rw [Int.natCast_add]
section
variable {P : Program} {w : World} {K : PySem.W.Frag} {mg : Str → Option Value} {base : Heap}
abbrev nLaw : List Str := ["_law_script", "_law_k", "_law_box_here", "_law_many", "_law_lap", "_law_counts", "_law_rows", "_law_count"]
theorem sc14 : FnScope nLaw ["_law_script"] (defScope sLaw) := ⟨rfl, rfl, rfl, by decide +kernel, rfl, by decide +kernel, by decide +kernel⟩
def spLaw (K : PySem.W.Frag) : Sp := fun vs H Q _ => ∃ (a : Addr) (ns : List Int), vs = [.ref a] ∧ SqL K H a (ns.map V.int) ∧ ∀ H', Q (.bl true) H'
theorem ok_law {f : Addr} {fd : FuncData} (F : Fun K "law" "law" sLaw f fd) (T : Txt mg) (CB : Cl P w K mg base 1 "_law_box" ["_law_script", "_law_k"] (spBox K)) (CT : Cl P w K mg base 1 "_law_take" ["_law_box_here", "_law_many"] spTake)
    (CR : Cl P w K mg base 1 "_law_row" ["_law_many", "_law_count"] spRow) (CG : Cl P w K mg base 5 "ring_row" ["many", "count"] spRing) (CF : Cl P w K mg base 15 "_law_fewest" psFew (spFew 14))
    (CM : Cl P w K mg base 5 "most_looks" ["many"] spMost) (CN : Cl P w K mg base 1 "newest" ["row"] spNewest) : FnOk P w K mg base CX0 16 f fd ["_law_script"] (spLaw K) := by
  refine F.ok sc14 (fun vs H Q E h => ?_) (fun cdv A outer s H vs Q E hr h => ?_)
  · obtain ⟨a, ns, rfl, _⟩ := h
    rfl
  · obtain ⟨a, ns, rfl, hS, q⟩ := h
    have hu := hu_of hr
    refine ⟨_, (pss_cons (ps_for PassesOwn.never rfl (pi_range1 (by rfl) T.range (pa_cons pe_int pa_nil)) (pg_name (i := 1) sc14.nd rfl (Or.inl rfl)) (pss_cons (ps_set (i := 2) sc14.nd rfl (.inl rfl) (pc CB hr (by decide) (pa_cons (pv 0) (pa_cons (pv 1) pa_nil)))) (pss_cons (ps_asg (pe_tup (pa_cons (pe_op op_add pe_int (pc CT hr (by decide) (pa_cons (pv 2) (pa_cons pe_int pa_nil)))) (pa_cons (pe_op op_add pe_int (pc CT hr (by decide) (pa_cons (pv 2) (pa_cons pe_int pa_nil)))) pa_nil))) (pg_tup (by rfl) (pgs_cons (pg_name (i := 3) sc14.nd rfl (Or.inr rfl)) (pgs_cons (pg_name (i := 4) sc14.nd rfl (Or.inl rfl)) pgs_nil)))) (pss_cons (ps_set (i := 5) sc14.nd rfl (.inl rfl) (pe_tupRg rfl (by rfl) T.tuple (prg_2 (by rfl) T.range (pe_op op_mul (pv 4) (pv 3)) (pe_op op_mul (pe_op op_add (pv 4) pe_int) (pv 3))))) (pss_cons (ps_asg (pe_callTy (call_dictP rfl) (by rfl) T.dict (by decide +kernel) (pa_cons (pe_lc (own := [("_law_count", 7)]) (g := gName 7) (by rfl) sc14.nd (pi_tup (pv 5)) (blkOk_by (own := [("_law_count", 7)]) (N := nLaw) (sc := defScope sLaw) (by decide +kernel)) (fun _ _ _ _ _ => (pg_name (i := 7) sc14.nd rfl (Or.inl rfl))) (fun _ _ _ _ _ => pts_nil) (fun _ _ _ _ _ => (pe_tup (pa_cons (pv 7) (pa_cons (pc CR hr (by decide) (pa_cons (pv 3) (pa_cons (pv 7) pa_nil))) pa_nil))))) pa_nil)) (pg_name (i := 6) sc14.nd rfl (Or.inr rfl))) (pss_cons (ps_if (pt_cmpR (op_neD hr.units) (pe_lc (own := [("_law_count", 7)]) (g := gName 7) (by rfl) sc14.nd (pi_tup (pv 5)) (blkOk_by (own := [("_law_count", 7)]) (N := nLaw) (sc := defScope sLaw) (by decide +kernel)) (fun _ _ _ _ _ => (pg_name (i := 7) sc14.nd rfl (Or.inl rfl))) (fun _ _ _ _ _ => pts_one (pt_cmpR (op_neDK (Z := K) rfl hr.units) (pc CG hr (by decide) (pa_cons (pv 3) (pa_cons (pv 7) pa_nil))) (pe_dget hu (pv 6) (pv 7) (fun _ _ => rfl)) (nomark _))) (fun _ _ _ _ _ => (pv 7))) (pe_lst pa_nil) (nomark _)) (pss_one (ps_ret pe_bl)) pss_nil) (pss_cons (ps_if (pt_cmpR op_ne (pc CF hr (by decide) (pa_cons (pv 3) (pa_cons (pv 6) (pa_cons (pv 5) (pa_cons pe_dnewT pa_nil))))) (pc CM hr (by decide) (pa_cons (pv 3) pa_nil)) (nomark _)) (pss_one (ps_ret pe_bl)) pss_nil) (pss_one (ps_if (pt_cmpR op_ne (pe_callB (cr_max rfl) (by rfl) T.max (by decide +kernel) (pa_cons (pe_lc (own := [("_law_count", 7)]) (g := gName 7) (by rfl) sc14.nd (pi_tup (pv 5)) (blkOk_by (own := [("_law_count", 7)]) (N := nLaw) (sc := defScope sLaw) (by decide +kernel)) (fun _ _ _ _ _ => (pg_name (i := 7) sc14.nd rfl (Or.inl rfl))) (fun _ _ _ _ _ => pts_nil) (fun _ _ _ _ _ => (pe_callB (len_seqK (Z := K) rfl) (by rfl) T.len PySem.boot_len (pa_cons (pe_ix (ix_tupK (Z := K) rfl) (pc CN hr (by decide) (pa_cons (pe_dget hu (pv 6) (pv 7) (fun _ _ => rfl)) pa_nil)) pe_int (fun _ _ => rfl)) pa_nil)))) pa_nil)) (pc CM hr (by decide) (pa_cons (pv 3) pa_nil)) (nomark _)) (pss_one (ps_ret pe_bl)) pss_nil))))))))) (pss_one (ps_ret pe_bl))), ?_⟩
    refine ⟨2, rfl, by decide, by decide, ?_⟩
    refine for_range (lo := 0) (n := 2) (fun i σ H1 => ∃ y1 y2 y3 y4 y5 y6 : Option V, σ = [some (.ref a), y1, y2, y3, y4, y5, y6, none] ∧ Same H H1) ⟨none, none, none, none, none, none, rfl, Same.refl H⟩ (fun i σ H1 hi hP => ?_) (fun σ H1 hP => ?_)
    · obtain ⟨y1, y2, y3, y4, y5, y6, rfl, sm0⟩ := hP
      rw [show (0 : Int) + (i : Nat) = i from Int.zero_add _]
      -- box = _law_box(script, k)
      refine ⟨_, rfl, _, rfl, a, ns, i, rfl, sm0.seq hS, fun bx g r nbx => ?_⟩
      -- many, lap = ..
      refine ⟨_, rfl, bx, g, r, 4, rfl, upd_same, by decide, by decide, fun d1 g1 r1 d10 d11 => ⟨_, _, rfl, rfl, ?_⟩⟩
      refine ⟨_, rfl, bx, g1, r1, 5, rfl, upd_same, by decide, by decide, fun d2 g2 r2 d20 d21 => ⟨_, _, rfl, rfl, (by show (2 : Nat) ≤ sizeLine; decide), fun T0 nT0 => ?_⟩⟩
      obtain ⟨n, en, h2, h5⟩ : ∃ n : Nat, 2 + d1 = (n : Int) ∧ 2 ≤ n ∧ n ≤ 5 := ⟨(2 + d1).toNat, by omega, by omega, by omega⟩
      obtain ⟨l, el, l1, l5⟩ : ∃ l : Nat, 1 + d2 = (l : Int) ∧ 1 ≤ l ∧ l ≤ 5 := ⟨(1 + d2).toNat, by omega, by omega, by omega⟩
      refine ⟨T0, _, rfl, .inl (.inl upd_same), rfl, .int n, [.int l], (by show [V.int (2 + d1), V.int (1 + d2)] = _; rw [en, el]), .int l, [], rfl, rfl, ?_⟩
      have smB : Same H1 (upd (upd (upd H1 bx (.lst [.int g, .int r])) bx (.lst [.int g1, .int r1])) bx (.lst [.int g2, .int r2])) := same_put (same_put (same_upd nbx) nbx) nbx
      have smT := same_put (o := .tup [V.int (2 + d1), V.int (1 + d2)]) smB (smB.free nT0)
      -- counts = tuple(range(..))
      have eA : (l : Int) * (n : Int) = ((l * n : Nat) : Int) := (Int.natCast_mul l n).symm
      have eB : ((l : Int) + 3) * (n : Int) = ((l * n + 3 * n : Nat) : Int) := by
        rw [Int.add_mul, eA, Int.natCast_add]
        omega
      have hA5 : l * n ≤ 5 * n := Nat.mul_le_mul_right n l5
      have hA1 : 1 * n ≤ l * n := Nat.mul_le_mul_right n l1
      generalize hA : l * n = A at eA eB hA5 hA1
      refine ⟨_, rfl, _, rfl, _, _, rfl, rfl, .inl ⟨by omega, by omega⟩, _, rfl, _, _, rfl, rfl, _, rfl, _, _, rfl, rfl, .inl ⟨by omega, by omega⟩, _, _, rfl, rfl, ?_, fun ct nct => ?_⟩
      · rw [eA, eB]
        exact RgOk.of_le (by omega) (by omega) (by omega) (by omega)
      have smC := same_put (o := .tup (rgV ((l : Int) * (n : Int)) (((l : Int) + 3) * (n : Int)))) smT (smT.free nct)
      have hctC : ∀ HT : Hp, upd HT ct (.tup (rgV ((l : Int) * (n : Int)) (((l : Int) + 3) * (n : Int)))) ct = some (.tup (iVs (ivl A (3 * n)))) := fun HT => by rw [upd_same, eA, eB, rgV_ivl]
      have nct1 : H1 ct = none := smT.free nct
      have hlen : (iVs (ivl A (3 * n))).length = 3 * n := by rw [iVs_len, ivl_len]
      -- rows = dict([..])
      refine ⟨_, rfl, ct, rfl, ⟨_, .inl (.inl (hctC _))⟩, fun D nD => ?_⟩
      refine lc_tup (K := K) (a := ct) (xs := iVs (ivl A (3 * n))) (fun j H2 => Same H1 H2 ∧ H2 ct = some (.tup (iVs (ivl A (3 * n)))) ∧ ∃ (ps : List Addr) (kvs : List (Key × V)), H2 D = some (.lst (ps.map V.ref)) ∧ Paired (fun p kv => H2 p = some (.tup [kV kv.1, kv.2])) ps kvs ∧
          (∀ kv ∈ kvs, ∃ (c : Nat) (t : Addr), kv.1 = Sum.inl (c : Int) ∧ kv.2 = .ref t ∧ H2 t = some (.tup (iVs (rowN n c)))) ∧ kvs.map (·.1) = keyOf ((ivl A (3 * n)).take j))
        ⟨same_put smC (smC.free nD), by rw [upd_ne (ne_of_none (hctC _) nD)]; exact hctC _, [], [], upd_same, .nil, (fun kv z => by cases z), rfl⟩ (fun j H2 _ hP => .inl (.inl hP.2.1)) (fun j x H2 hx hP => ?_) (fun H2 hP => ?_)
      · obtain ⟨sm2, hct2, ps, kvs, hD2, hpr, hen, hky⟩ := hP
        have hj : j < 3 * n := by
          have := (List.getElem?_eq_some_iff.mp hx).1
          rw [hlen] at this
          exact this
        rw [iVs_get (ivl_get (a := A) hj)] at hx
        cases hx
        have hpl : ps.length ≤ 15 := by
          have e1 := Paired.length hpr
          have e2 := congrArg List.length hky
          rw [List.length_map] at e2
          unfold keyOf at e2
          rw [List.length_map] at e2
          have e3 := List.length_take_le j (ivl A (3 * n))
          omega
        have nD1 : H1 D = none := smC.free nD
        refine ⟨rfl, _, rfl, _, rfl, _, rfl, n, A + j, rfl, h2, h5, by omega, by omega, fun H3 t sm3 nt ht => ⟨(by show (2 : Nat) ≤ sizeLine; decide), fun p np => ?_⟩⟩
        have hD3 := sm3 _ _ hD2
        have nDp : D ≠ p := ne_of_none hD3 np
        have ntp : t ≠ p := ne_of_none ht np
        have keep : ∀ (L : List V) (b : Addr) (o : HO), H2 b = some o → b ≠ D → upd (upd H3 p (.tup [V.int ((A + j : Nat) : Int), V.ref t])) D (.lst L) b = some o := fun L b o e nb => by
          rw [upd_ne nb, upd_ne (ne_of_none (sm3 _ _ e) np)]
          exact sm3 _ _ e
        refine ⟨_, by rw [upd_ne nDp]; exact hD3, ?_, ?_, ?_, ps ++ [p], kvs ++ [(Sum.inl ((A + j : Nat) : Int), V.ref t)], ?_, ?_, ?_, ?_⟩
        · rw [List.length_map]
          exact small1000 (by omega)
        · exact fun b o e => keep _ b o (sm2 _ _ e) (ne_of_none e nD1)
        · exact keep _ _ _ hct2 (ne_of hct2 hD2 (by intro z; cases z))
        · rw [upd_same, List.map_append]
          rfl
        · refine Paired.snoc (paired_mono (fun p' kv e => keep _ _ _ e (ne_of e hD2 (by intro z; cases z))) hpr) ?_
          rw [upd_ne nDp.symm, upd_same]
          rfl
        · intro kv hkv
          rcases List.mem_append.mp hkv with hkv | hkv
          · obtain ⟨c, t', e1, e2, e3⟩ := hen kv hkv
            exact ⟨c, t', e1, e2, keep _ _ _ e3 (ne_of e3 hD2 (by intro z; cases z))⟩
          · rw [List.mem_singleton.mp hkv]
            refine ⟨A + j, t, rfl, rfl, ?_⟩
            rw [upd_ne (ne_of ht hD3 (by intro z; cases z)), upd_ne ntp]
            exact ht
        · rw [List.map_append, hky, List.take_add_one, ivl_get hj]
          unfold keyOf
          rw [List.map_append]
          rfl
      obtain ⟨sm2, hct2, ps, kvs, hD2, hpr, hen, hky⟩ := hP
      rw [hlen, List.take_of_length_le (by rw [ivl_len]; exact Nat.le_refl _)] at hky
      refine ⟨D, ps, kvs, rfl, .inl (.inl hD2), paired_mono (fun p kv e => .inl (.inl e)) hpr, fun rw' nrw => ?_⟩
      have sm3 := same_put (o := .dK (mergeK [] kvs)) sm2 (sm2.free nrw)
      have hR : RowsAt (upd H2 rw' (.dK (mergeK [] kvs))) rw' n A (3 * n) := by
        refine ⟨_, upd_same, fun c c1 c2 => ?_⟩
        have hmg : ∃ v, valV (mergeK [] kvs) (Sum.inl (c : Int)) = some v ∧ ∀ c' : Nat, (Sum.inl (c : Int) : Key) = Sum.inl (c' : Int) → ∃ t, v = .ref t ∧ H2 t = some (.tup (iVs (rowN n c'))) := by
          refine merge_get (R := fun k v => ∀ c' : Nat, k = Sum.inl (c' : Int) → ∃ t, v = .ref t ∧ H2 t = some (.tup (iVs (rowN n c')))) (k := Sum.inl (c : Int)) kvs [] (fun kv m c' ec => ?_) (fun v e => by cases e) (.inl ?_)
          · obtain ⟨c0, t, f1, f2, f3⟩ := hen kv m
            rw [f1] at ec
            have : c0 = c' := by
              injection ec with ec
              omega
            subst this
            exact ⟨t, f2, f3⟩
          · rw [hky]
            exact List.mem_map.mpr ⟨c, ivl_mem.mpr ⟨c1, c2⟩, rfl⟩
        obtain ⟨v, e1, e2⟩ := hmg
        obtain ⟨t, e3, e4⟩ := e2 c rfl
        refine ⟨t, by rw [e1, e3], ?_⟩
        rw [upd_ne (ne_of_none e4 nrw)]
        exact e4
      have hct3 : upd H2 rw' (.dK (mergeK [] kvs)) ct = some (.tup (iVs (ivl A (3 * n)))) := by
        rw [upd_ne (ne_of_none hct2 nrw)]
        exact hct2
      generalize upd H2 rw' (.dK (mergeK [] kvs)) = HR at sm3 hR hct3
      have look : ∀ (H3 : Hp) (j : Nat), Same HR H3 → j < 3 * n → ∃ t, DGet H3 rw' (.int ((A + j : Nat) : Int)) (some (.ref t)) ∧ H3 t = some (.tup (iVs (rowN n (A + j)))) := by
        intro H3 j s hj
        obtain ⟨rk, hrk, hrows⟩ := hR.same s
        obtain ⟨t, et, ht⟩ := hrows (A + j) (by omega) (by omega)
        refine ⟨t, ?_, ht⟩
        have := DGet.k (k := Sum.inl ((A + j : Nat) : Int)) hrk
        rw [et] at this
        exact this
      -- if [.. ring_row ..] != []
      refine ⟨_, rfl, ct, rfl, ⟨_, .inl (.inl hct3)⟩, fun D2 nD2 => ?_⟩
      refine lc_tup (K := K) (a := ct) (xs := iVs (ivl A (3 * n))) (fun j H3 => Same HR H3 ∧ H3 D2 = some (.lst [])) ⟨same_upd nD2, upd_same⟩ (fun j H3 _ hP => .inl (.inl (hP.1 _ _ hct3))) (fun j x H3 hx hP => ?_) (fun H3 hP => ?_)
      · obtain ⟨s3, hD⟩ := hP
        have hj : j < 3 * n := by
          have := (List.getElem?_eq_some_iff.mp hx).1
          rw [hlen] at this
          exact this
        rw [iVs_get (ivl_get (a := A) hj)] at hx
        cases hx
        refine ⟨rfl, _, rfl, _, rfl, n, A + j, rfl, h2, h5, by omega, fun H4 p s4 np hp => ?_⟩
        obtain ⟨t, dg, ht⟩ := look H4 j (s3.trans s4) hj
        have e : (!PyData.eqv (.tuple (dats (rowN n (A + j)))) (.tuple (dats (rowN n (A + j))))) = false := by
          rw [SeqAt.eqv_refl _ (SeqAt.canLay_of_shaped (dats_ok _))]
          rfl
        refine ⟨_, rfl, _, rfl, rw', .ref t, rfl, dg, _, _, .tup (.inl (.inl hp)) (dats_all _), .tup (.inl (.inl ht)) (dats_all _), dats_ok _, dats_ok _, false, congrArg V.bl e, ?_⟩
        exact ⟨s3.trans s4, s4 _ _ hD⟩
      obtain ⟨s3, hD⟩ := hP
      refine ⟨Nat.zero_le _, fun L2 nL2 => ?_⟩
      refine ⟨_, _, .lst (.inl (.inl (same_upd nL2 _ _ hD))) .nil, .lst (.inl (.inl upd_same)) .nil, by decide, by decide, false, rfl, ?_⟩
      refine iteF ?_
      have sE : Same HR (upd H3 L2 (.lst [])) := s3.trans (same_upd nL2)
      generalize upd H3 L2 (.lst []) = HE at sE
      -- if _law_fewest(..) != most_looks(many)
      refine ⟨_, rfl, _, rfl, _, rfl, fun kn nk => ?_⟩
      have sK : Same HE (upd HE kn (.dT [])) := same_upd nk
      refine ⟨n, A, 3 * n, rw', ct, kn, [], rfl, h2, h5, by omega, by omega, Nat.le_refl _, by omega, by omega, sK _ _ (sE _ _ hct3), (hR.same sE).same sK, upd_same, GoodK.nil n, fun H4 kvs4 kp4 hk4 G4 => ?_⟩
      have s4 : Same HE H4 := fun b o e => kp4 b o (sK _ _ e) (ne_of_none e nk)
      refine ⟨_, rfl, n, rfl, h2, h5, fun H5 s5 => ⟨rfl, _, rfl, iteNS (by rw [val_whole h2 h5]) ?_⟩⟩
      have sF : Same HR H5 := (sE.trans s4).trans s5
      -- if max(..) != most_looks(many)
      refine ⟨_, rfl, ct, rfl, ⟨_, .inl (.inl (sF _ _ hct3))⟩, fun D3 nD3 => ?_⟩
      refine lc_tup (K := K) (a := ct) (xs := iVs (ivl A (3 * n))) (fun j H6 => Same H5 H6 ∧ H6 D3 = some (.lst ((((ivl A (3 * n)).take j).map fun c => ((looks n c : Nat) : Int)).map V.int))) ⟨same_upd nD3, upd_same⟩ (fun j H6 _ hP => .inl (.inl (hP.1 _ _ (sF _ _ hct3)))) (fun j x H6 hx hP => ?_) (fun H6 hP => ?_)
      · obtain ⟨s6, hD⟩ := hP
        have hj : j < 3 * n := by
          have := (List.getElem?_eq_some_iff.mp hx).1
          rw [hlen] at this
          exact this
        rw [iVs_get (ivl_get (a := A) hj)] at hx
        cases hx
        obtain ⟨t, dg, ht⟩ := look H6 j (sF.trans s6) hj
        refine ⟨rfl, _, rfl, _, rfl, rw', .ref t, rfl, dg, t, n, A + j, rfl, ht, h2, h5, by omega, fun H7 p lx x y ls s7 hp hl hls => ?_⟩
        refine ⟨p, _, 2, .ref lx, rfl, rfl, .inl (.inl hp), rfl, lx, ls, rfl, .inr (.inl (.inl hl)), _, s7 _ _ hD, ?_, ?_, ?_⟩
        · rw [List.length_map, List.length_map]
          exact small1000 (Nat.le_trans (List.length_take_le _ _) (by omega))
        · exact same_put (s6.trans s7) nD3
        · rw [upd_same, hls, List.take_add_one, ivl_get hj, List.map_append, List.map_append]
          rfl
      obtain ⟨s6, hD⟩ := hP
      rw [hlen, List.take_of_length_le (by rw [ivl_len]; exact Nat.le_refl _)] at hD
      refine ⟨D3, _, rfl, .inl (.inl hD), by rw [List.length_map, ivl_len]; omega, fun z hz hle => ?_⟩
      have ez : z = ((mostL n : Nat) : Int) := by
        have em : ((ivl A (3 * n)).map fun c => ((looks n c : Nat) : Int)) = ((ivl A (3 * n)).map (looks n)).map fun x : Nat => (x : Int) := by
          rw [List.map_map]
          rfl
        rw [em] at hz hle
        rw [max_is hz hle, ← hA, looks_all h2 h5 l1 l5]
      refine ⟨_, rfl, n, rfl, h2, h5, fun H8 s8 => ⟨rfl, _, rfl, iteNS (by rw [ez]) ?_⟩⟩
      exact ⟨_, _, _, _, _, _, rfl, ((((sm0.trans sm3).trans sF).trans s6).trans s8)⟩
    · obtain ⟨y1, y2, y3, y4, y5, y6, rfl, _⟩ := hP
      exact q H1
end
end K27
namespace K27
open PySem PySem.Spec PyProof.Rows L2
/-! ### what the top has left -/
structure Stands (K : PySem.W.Frag) (x : Str) (st : Stmt) (f : Addr) : Prop where
  ns : PySem.W.nsIn K mainGlobals x = some (some (.ref f))
  fn : ∃ fd, Fun K x x st f fd
theorem stands {K : PySem.W.Frag} {x : Str} {st : Stmt} {f : Addr} {oc : Value} {od an : Option Addr} {osl : Array (Option Value)} {kV doc pm cdv ct : Value} (a : PySem.W.nsIn K mainGlobals x = some (some (.ref f)))
    (l : K.lookup f = some ⟨oc, od, .func (PySem.W.fnOf x x (defArgs st) (defBody st) (defScope st) .none kV doc pm an cdv ct), osl⟩) (c : PySem.W.codeIn K cdv x = true) (k : PySem.W.keepIn K (.ref f) = true) : ∃ f, Stands K x st f :=
  ⟨f, a, _, fun_mk l c k⟩
theorem all_mk {l : PySem.W.OpenLaw} {w : World} {K : PySem.W.Frag} {h : Heap} {mg : Str → Option Value} {fa : Addr} (X : K.In h) (G : h.Ns mainGlobals mg) (hfa : mg "law" = some (.ref fa))
    (d1 : ∃ f, Stands K "is_integer" sIsInt f) (d2 : ∃ f, Stands K "is_number" sIsNum f) (d3 : ∃ f, Stands K "is_below" sIsBel f) (d4 : ∃ f, Stands K "need_slots" sNeedS f) (d5 : ∃ f, Stands K "need_count" sNeedC f)
    (d6 : ∃ f, Stands K "last_in" sLastIn f) (d7 : ∃ f, Stands K "ring_row" sRing f) (d8 : ∃ f, Stands K "most_looks" sMost f) (d9 : ∃ f, Stands K "newest" sNewest f) (d10 : ∃ f, Stands K "_law_box" sBox f)
    (d11 : ∃ f, Stands K "_law_take" sTake f) (d12 : ∃ f, Stands K "_law_row" sRow f) (d13 : ∃ f, Stands K "_law_fewest" sFew f) (d14 : ∃ f, Stands K "law" sLaw f)
    {t1 t2 : Tok} (c1 : PySem.W.nsIn K mainGlobals "MOST_SLOTS" = some (some (.int 64 t1))) (c2 : PySem.W.nsIn K mainGlobals "TORN" = some (some (.str "torn" t2)))
    (z1 : PySem.W.nsIn K mainGlobals "isinstance" = some none) (z2 : PySem.W.nsIn K mainGlobals "int" = some none) (z3 : PySem.W.nsIn K mainGlobals "bool" = some none) (z4 : PySem.W.nsIn K mainGlobals "tuple" = some none)
    (z5 : PySem.W.nsIn K mainGlobals "range" = some none) (z6 : PySem.W.nsIn K mainGlobals "len" = some none) (z7 : PySem.W.nsIn K mainGlobals "abs" = some none) (z8 : PySem.W.nsIn K mainGlobals "max" = some none)
    (z9 : PySem.W.nsIn K mainGlobals "min" = some none) (z10 : PySem.W.nsIn K mainGlobals "dict" = some none) :
    ∃ fd : FuncData, (∀ (s : Shared) (v : Value), BindsTo s fd ⟨[v], []⟩ [("_law_script", v)]) ∧ ∀ base : Heap, K.In base → base.Ns mainGlobals mg → FnOk l.prog w K mg base CX0 16 fa fd ["_law_script"] (spLaw K) := by
  have T : Txt mg := ⟨PySem.W.mg_none_of X G z1, PySem.W.mg_none_of X G z2, PySem.W.mg_none_of X G z3, PySem.W.mg_none_of X G z4, PySem.W.mg_none_of X G z5, PySem.W.mg_none_of X G z6, PySem.W.mg_none_of X G z7, PySem.W.mg_none_of X G z8,
    PySem.W.mg_none_of X G z9, PySem.W.mg_none_of X G z10, ⟨_, PySem.W.mg_of X G c1⟩, ⟨_, PySem.W.mg_of X G c2⟩⟩
  obtain ⟨f1, a1, fd1, F1⟩ := d1
  obtain ⟨f2, a2, fd2, F2⟩ := d2
  obtain ⟨f3, a3, fd3, F3⟩ := d3
  obtain ⟨f4, a4, fd4, F4⟩ := d4
  obtain ⟨f5, a5, fd5, F5⟩ := d5
  obtain ⟨f6, a6, fd6, F6⟩ := d6
  obtain ⟨f7, a7, fd7, F7⟩ := d7
  obtain ⟨f8, a8, fd8, F8⟩ := d8
  obtain ⟨f9, a9, fd9, F9⟩ := d9
  obtain ⟨f10, a10, fd10, F10⟩ := d10
  obtain ⟨f11, a11, fd11, F11⟩ := d11
  obtain ⟨f12, a12, fd12, F12⟩ := d12
  obtain ⟨f13, a13, fd13, F13⟩ := d13
  obtain ⟨f14, a14, fd14, F14⟩ := d14
  have e := hfa.symm.trans (PySem.W.mg_of X G a14)
  cases e
  have b1 := F1.binds (ps := ["value"]) fun _ _ _ _ _ _ us hl => match us, hl with | [_], _ => rfl
  have b2 := F2.binds (ps := ["value"]) fun _ _ _ _ _ _ us hl => match us, hl with | [_], _ => rfl
  have b3 := F3.binds (ps := ["value", "most"]) fun _ _ _ _ _ _ us hl => match us, hl with | [_, _], _ => rfl
  have b4 := F4.binds (ps := ["value"]) fun _ _ _ _ _ _ us hl => match us, hl with | [_], _ => rfl
  have b5 := F5.binds (ps := ["value"]) fun _ _ _ _ _ _ us hl => match us, hl with | [_], _ => rfl
  have b6 := F6.binds (ps := ["many", "count", "slot"]) fun _ _ _ _ _ _ us hl => match us, hl with | [_, _, _], _ => rfl
  have b7 := F7.binds (ps := ["many", "count"]) fun _ _ _ _ _ _ us hl => match us, hl with | [_, _], _ => rfl
  have b8 := F8.binds (ps := ["many"]) fun _ _ _ _ _ _ us hl => match us, hl with | [_], _ => rfl
  have b9 := F9.binds (ps := ["row"]) fun _ _ _ _ _ _ us hl => match us, hl with | [_], _ => rfl
  have b10 := F10.binds (ps := ["_law_script", "_law_k"]) fun _ _ _ _ _ _ us hl => match us, hl with | [_, _], _ => rfl
  have b11 := F11.binds (ps := ["_law_box_here", "_law_many"]) fun _ _ _ _ _ _ us hl => match us, hl with | [_, _], _ => rfl
  have b12 := F12.binds (ps := ["_law_many", "_law_count"]) fun _ _ _ _ _ _ us hl => match us, hl with | [_, _], _ => rfl
  have b13 := F13.binds (ps := psFew) fun _ _ _ _ _ _ us hl => match us, hl with | [_, _, _, _], _ => rfl
  refine ⟨fd14, fun s v => ?_, fun base _ _ => ?_⟩
  · obtain ⟨oc, od, kV, doc, pm, an, cdv, ct, osl, rfl, lk, hcd⟩ := F14.ex
    exact .of_eq rfl
  · have C1 : Cl l.prog w K mg base 1 "is_integer" ["value"] spYes := ⟨f1, fd1, ok_isInt F1 T, PySem.W.mg_of X G a1, F1.kp, b1⟩
    have C2 : Cl l.prog w K mg base 2 "is_number" ["value"] spNum := ⟨f2, fd2, ok_isNum F2 C1, PySem.W.mg_of X G a2, F2.kp, b2⟩
    have C3 : Cl l.prog w K mg base 3 "is_below" ["value", "most"] spBel := ⟨f3, fd3, ok_isBel F3 C2, PySem.W.mg_of X G a3, F3.kp, b3⟩
    have C4 : Cl l.prog w K mg base 4 "need_slots" ["value"] spNeedS := ⟨f4, fd4, ok_needS F4 T C3, PySem.W.mg_of X G a4, F4.kp, b4⟩
    have C5 : Cl l.prog w K mg base 3 "need_count" ["value"] spNeedC := ⟨f5, fd5, ok_needC F5 C2, PySem.W.mg_of X G a5, F5.kp, b5⟩
    have C6 : Cl l.prog w K mg base 1 "last_in" ["many", "count", "slot"] spLastIn := ⟨f6, fd6, ok_lastIn F6 T, PySem.W.mg_of X G a6, F6.kp, b6⟩
    have C7 : Cl l.prog w K mg base 5 "ring_row" ["many", "count"] spRing := ⟨f7, fd7, ok_ring F7 T C4 C5 C6, PySem.W.mg_of X G a7, F7.kp, b7⟩
    have C8 : Cl l.prog w K mg base 5 "most_looks" ["many"] spMost := ⟨f8, fd8, ok_most F8 C4, PySem.W.mg_of X G a8, F8.kp, b8⟩
    have C9 : Cl l.prog w K mg base 1 "newest" ["row"] spNewest := ⟨f9, fd9, ok_newest F9 T, PySem.W.mg_of X G a9, F9.kp, b9⟩
    have C10 : Cl l.prog w K mg base 1 "_law_box" ["_law_script", "_law_k"] (spBox K) := ⟨f10, fd10, ok_box F10 T, PySem.W.mg_of X G a10, F10.kp, b10⟩
    have C11 : Cl l.prog w K mg base 1 "_law_take" ["_law_box_here", "_law_many"] spTake := ⟨f11, fd11, ok_take F11 T, PySem.W.mg_of X G a11, F11.kp, b11⟩
    have C12 : Cl l.prog w K mg base 1 "_law_row" ["_law_many", "_law_count"] spRow := ⟨f12, fd12, ok_row F12 T, PySem.W.mg_of X G a12, F12.kp, b12⟩
    have C13 : Cl l.prog w K mg base 15 "_law_fewest" psFew (spFew 14) := cl_few F13 T (PySem.W.mg_of X G a13) b13 14
    exact ok_law F14 T C10 C11 C12 C7 C13 C8 C9
theorem walk {l : PySem.W.OpenLaw} {q : Program} {loose : List Str} {XP : (Str → Option Value) → Heap → Prop} {YP : World → Heap → Prop} {d : DefRec} {K : Params → PySem.W.Frag} (hn : l.most = some 63) (hdf : d.params.defaults = [])
    (hY : ∀ (w : World) (h : Heap), YP w h → (K w.params).In h)
    (F : ∀ (w : World) (mg : Str → Option Value) (fa : Addr) (h : Heap), (K w.params).In h → h.Ns mainGlobals mg → mg d.name = some (.ref fa) →
      ∃ fd : FuncData, (∀ (s : Shared) (u : Value), BindsTo s fd ⟨[u], []⟩ [("_law_script", u)]) ∧ ∀ base : Heap, (K w.params).In base → base.Ns mainGlobals mg → FnOk l.prog w (K w.params) mg base CX0 16 fa fd ["_law_script"] (spLaw (K w.params))) :
    PySem.W.WalkO q loose XP YP l.row.toRowW d [] (fun f vs => PySem.call f vs) :=
  L2.walk_of (n := 63) (k := 16) (x := "_law_script") (CX := fun _ => CX0) (sp := fun w => spLaw (K w.params)) hn (by decide) hdf ⟨rfl, by decide, by decide⟩ hY F (fun _ _ a ns _ _ hS => ⟨a, ns, rfl, hS, fun _ => rfl⟩) fun _ _ _ _ _ z => z
end K27
open PySem PySem.W PyProof.Rows
set_option maxRecDepth 100000 in
set_option maxHeartbeats 0 in
theorem PySem.Challenge.cw_wrecktold_k27_whole_no_way_has_fewer_loo_holds : PySem.Challenge.rw_wrecktold_k27_whole_no_way_has_fewer_loo.Holds := by
  w_on; o_law; k_head; (case hw => w_witness2)
  k_fill
  refine K27.walk (l := PySem.Challenge.rw_wrecktold_k27_whole_no_way_has_fewer_loo) rfl rfl (fun w h Y => PySem.W.kIn_of Y) ?F
  case F =>
    intro w mg fa h KX G hmg
    refine' K27.all_mk KX G hmg ?d1 ?d2 ?d3 ?d4 ?d5 ?d6 ?d7 ?d8 ?d9 ?d10 ?d11 ?d12 ?d13 ?d14 ?c1 ?c2 ?z1 ?z2 ?z3 ?z4 ?z5 ?z6 ?z7 ?z8 ?z9 ?z10
    (case d1 => refine' K27.stands ?a ?l ?c ?k; (case a => k_is); (case l => k_is); (case c => k_is); (case k => k_is))
    (case d2 => refine' K27.stands ?a ?l ?c ?k; (case a => k_is); (case l => k_is); (case c => k_is); (case k => k_is))
    (case d3 => refine' K27.stands ?a ?l ?c ?k; (case a => k_is); (case l => k_is); (case c => k_is); (case k => k_is))
    (case d4 => refine' K27.stands ?a ?l ?c ?k; (case a => k_is); (case l => k_is); (case c => k_is); (case k => k_is))
    (case d5 => refine' K27.stands ?a ?l ?c ?k; (case a => k_is); (case l => k_is); (case c => k_is); (case k => k_is))
    (case d6 => refine' K27.stands ?a ?l ?c ?k; (case a => k_is); (case l => k_is); (case c => k_is); (case k => k_is))
    (case d7 => refine' K27.stands ?a ?l ?c ?k; (case a => k_is); (case l => k_is); (case c => k_is); (case k => k_is))
    (case d8 => refine' K27.stands ?a ?l ?c ?k; (case a => k_is); (case l => k_is); (case c => k_is); (case k => k_is))
    (case d9 => refine' K27.stands ?a ?l ?c ?k; (case a => k_is); (case l => k_is); (case c => k_is); (case k => k_is))
    (case d10 => refine' K27.stands ?a ?l ?c ?k; (case a => k_is); (case l => k_is); (case c => k_is); (case k => k_is))
    (case d11 => refine' K27.stands ?a ?l ?c ?k; (case a => k_is); (case l => k_is); (case c => k_is); (case k => k_is))
    (case d12 => refine' K27.stands ?a ?l ?c ?k; (case a => k_is); (case l => k_is); (case c => k_is); (case k => k_is))
    (case d13 => refine' K27.stands ?a ?l ?c ?k; (case a => k_is); (case l => k_is); (case c => k_is); (case k => k_is))
    (case d14 => refine' K27.stands ?a ?l ?c ?k; (case a => k_is); (case l => k_is); (case c => k_is); (case k => k_is))
    (case c1 => k_is)
    (case c2 => k_is)
    (case z1 => k_is)
    (case z2 => k_is)
    (case z3 => k_is)
    (case z4 => k_is)
    (case z5 => k_is)
    (case z6 => k_is)
    (case z7 => k_is)
    (case z8 => k_is)
    (case z9 => k_is)
    (case z10 => k_is)
