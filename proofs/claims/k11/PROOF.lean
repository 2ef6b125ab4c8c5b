import PyProof.Rows.All
import Wide.All
import OpenK.AllK
import Wide.FinOn
import HandS.ForMost
import HandS.Evl
import HandS.Walk
import HandS.Conv
import HandS.TupAny
import HandS.IsInst
import PyProof.CollectStr
import KE.KDictList
import KE.SortKeyHeap
import KE.SortLaws
import HandS.SortKw
import HandS.More
import HandS.Iter
import HandS.WordsDict
import KE.DataMinMax
import PySem.Challenge.RW_tailyard_k11_whole_longest_and_missing
set_option Elab.async false
set_option linter.all false
set_option maxRecDepth 100000
set_option maxHeartbeats 4000000
namespace TY
open PySem PySem.Spec PyProof.Rows L2 Evl

/-! ### texts by their signs -/
def S (l : List Nat) : Str := ⟨l.toArray⟩
theorem S_cps (l : List Nat) : (S l).cps.toList = l := rfl
theorem S_len (l : List Nat) : (S l).length = l.length := by
  show l.toArray.size = l.length
  exact List.size_toArray
theorem S_inj {a b : List Nat} (h : S a = S b) : a = b := congrArg (fun x : Str => x.cps.toList) h
theorem S_eq (x : Str) : x = S x.cps.toList := rfl
theorem S_app (a b : List Nat) : S a ++ S b = S (a ++ b) := by
  show (⟨a.toArray ++ b.toArray⟩ : Str) = ⟨(a ++ b).toArray⟩
  rw [List.append_toArray]
theorem S_dec (a b : List Nat) : decide (V.str (S a) = V.str (S b)) = decide (a = b) := by
  by_cases h : a = b
  · subst h
    simp
  · rw [decide_eq_false h, decide_eq_false]
    intro q
    exact h (S_inj (V.str.inj q))
theorem S_cut (l : List Nat) (lo hi : Option Int) : cutS (S l) lo hi = S ((l.drop (HT.sIx l.length 0 lo)).take (HT.sIx l.length l.length hi - HT.sIx l.length 0 lo)) := by
  unfold cutS
  rw [S_cps, S_len]
  rfl
theorem S_from (l : List Nat) (k : Nat) : cutS (S l) (some (k : Int)) none = S (l.drop k) := by
  rw [S_cut, HT.sIx_nat, HT.sIx_none]
  congr 1
  by_cases h : k ≤ l.length
  · rw [Nat.min_eq_left h]
    exact List.take_of_length_le (by rw [List.length_drop]; omega)
  · rw [Nat.min_eq_right (by omega), List.drop_of_length_le (Nat.le_refl _), List.drop_of_length_le (by omega), List.take_nil]
theorem S_to (l : List Nat) (k : Nat) : cutS (S l) none (some (k : Int)) = S (l.take k) := by
  rw [S_cut, HT.sIx_nat, HT.sIx_none, List.drop_zero, Nat.sub_zero]
  congr 1
  by_cases h : k ≤ l.length
  · rw [Nat.min_eq_left h]
  · rw [Nat.min_eq_right (by omega), List.take_of_length_le (Nat.le_refl _), List.take_of_length_le (by omega)]
theorem S_mid (l : List Nat) (i j : Nat) : cutS (S l) (some (i : Int)) (some (j : Int)) = S ((l.drop i).take (j - i)) := by
  rw [S_cut, HT.sIx_nat, HT.sIx_nat]
  congr 1
  by_cases h : i ≤ l.length
  · rw [Nat.min_eq_left h]
    by_cases h2 : j ≤ l.length
    · rw [Nat.min_eq_left h2]
    · rw [Nat.min_eq_right (by omega), List.take_of_length_le (by rw [List.length_drop]; omega), List.take_of_length_le (by rw [List.length_drop]; omega)]
  · rw [Nat.min_eq_right (a := i) (by omega), List.drop_of_length_le (Nat.le_refl _), List.drop_of_length_le (by omega), List.take_nil, List.take_nil]

/-! ### data made of tuples alone: no store ends it -/
def ExT (H H' : Hp) : Prop := ∀ a xs, H a = some (.tup xs) → H' a = some (.tup xs)
theorem ExT.of {H H' : Hp} (e : Ex H H') : ExT H H' := fun a xs h => e a _ h
theorem ExT.trans {H H1 H2 : Hp} (a : ExT H H1) (b : ExT H1 H2) : ExT H H2 := fun c xs h => b c xs (a c xs h)
theorem ExT.upd {H : Hp} {p : Addr} {o u : HO} (h : H p = some o) (hn : ∀ xs, o ≠ .tup xs) : ExT H (upd H p u) := fun a xs q => by
  have hne : a ≠ p := ne_of q h (fun e => hn xs e.symm)
  rw [upd_ne hne]
  exact q
theorem ExT.updL {H : Hp} {p : Addr} {xs : List V} {u : HO} (h : H p = some (.lst xs)) : ExT H (L2.upd H p u) := ExT.upd h (fun _ e => by cases e)
mutual
inductive Td (H : Hp) : V → PyData → Prop
  | non : Td H .non .none
  | bl (b : Bool) : Td H (.bl b) (.bool b)
  | int (i : Int) : Td H (.int i) (.int i)
  | str (x : Str) : Td H (.str x) (.str x)
  | tup {a : Addr} {xs : List V} {ds : List PyData} : H a = some (.tup xs) → TdAll H xs ds → Td H (.ref a) (.tuple ds)
inductive TdAll (H : Hp) : List V → List PyData → Prop
  | nil : TdAll H [] []
  | cons {v : V} {vs : List V} {d : PyData} {ds : List PyData} : Td H v d → TdAll H vs ds → TdAll H (v :: vs) (d :: ds)
end
mutual
theorem Td.ext {H H' : Hp} (e : ExT H H') : ∀ {v : V} {d : PyData}, Td H v d → Td H' v d
  | _, _, .non => .non
  | _, _, .bl b => .bl b
  | _, _, .int i => .int i
  | _, _, .str x => .str x
  | _, _, .tup h hs => .tup (e _ _ h) (TdAll.ext e hs)
theorem TdAll.ext {H H' : Hp} (e : ExT H H') : ∀ {vs : List V} {ds : List PyData}, TdAll H vs ds → TdAll H' vs ds
  | _, _, .nil => .nil
  | _, _, .cons h hs => .cons (Td.ext e h) (TdAll.ext e hs)
end
mutual
theorem Td.dp {K : PySem.W.Frag} {H : Hp} : ∀ {v : V} {d : PyData}, Td H v d → Dp K H v d
  | _, _, .non => .non
  | _, _, .bl b => .bl b
  | _, _, .int i => .int i
  | _, _, .str x => .str x
  | _, _, .tup h hs => .tup (st_of h) (TdAll.dp hs)
theorem TdAll.dp {K : PySem.W.Frag} {H : Hp} : ∀ {vs : List V} {ds : List PyData}, TdAll H vs ds → DpAll K H vs ds
  | _, _, .nil => .nil
  | _, _, .cons h hs => .cons (Td.dp h) (TdAll.dp hs)
end
mutual
theorem Dp.ext {K : PySem.W.Frag} {H H' : Hp} (e : Ex H H') : ∀ {v : V} {d : PyData}, Dp K H v d → Dp K H' v d
  | _, _, .non => .non
  | _, _, .bl b => .bl b
  | _, _, .int i => .int i
  | _, _, .str x => .str x
  | _, _, .lst h hs => .lst (ex_l e h) (DpAll.ext e hs)
  | _, _, .tup h hs => .tup (ex_t e h) (DpAll.ext e hs)
theorem DpAll.ext {K : PySem.W.Frag} {H H' : Hp} (e : Ex H H') : ∀ {vs : List V} {ds : List PyData}, DpAll K H vs ds → DpAll K H' vs ds
  | _, _, .nil => .nil
  | _, _, .cons h hs => .cons (Dp.ext e h) (DpAll.ext e hs)
end
section
variable {H H' : Hp} {v : V} {vs ws : List V} {ds es : List PyData} {d : PyData}
theorem Td.ex (e : Ex H H') (h : Td H v d) : Td H' v d := Td.ext (ExT.of e) h
theorem TdAll.ex (e : Ex H H') (h : TdAll H vs ds) : TdAll H' vs ds := TdAll.ext (ExT.of e) h
theorem Td.int_ {i : Int} (h : Td H v (.int i)) : v = .int i := by cases h; rfl
theorem Td.str_ {x : Str} (h : Td H v (.str x)) : v = .str x := by cases h; rfl
theorem Td.bl_ {b : Bool} (h : Td H v (.bool b)) : v = .bl b := by cases h; rfl
theorem Td.non_ (h : Td H v .none) : v = .non := by cases h; rfl
theorem Td.tup_ (h : Td H v (.tuple ds)) : ∃ a xs, v = .ref a ∧ H a = some (.tup xs) ∧ TdAll H xs ds := by
  cases h with
  | tup h hs => exact ⟨_, _, rfl, h, hs⟩
theorem TdAll.len : ∀ {vs : List V} {ds : List PyData}, TdAll H vs ds → vs.length = ds.length
  | _, _, .nil => rfl
  | _, _, .cons _ hs => congrArg (· + 1) (TdAll.len hs)
theorem TdAll.append : ∀ {vs ws : List V} {ds es : List PyData}, TdAll H vs ds → TdAll H ws es → TdAll H (vs ++ ws) (ds ++ es)
  | _, _, _, _, .nil, h2 => h2
  | _, _, _, _, .cons h hs, h2 => .cons h (TdAll.append hs h2)
theorem TdAll.one (h : Td H v d) : TdAll H [v] [d] := .cons h .nil
theorem TdAll.get : ∀ {vs : List V} {ds : List PyData} {i : Nat} {x : V}, TdAll H vs ds → vs[i]? = some x → ∃ d, ds[i]? = some d ∧ Td H x d
  | _, _, i, x, .nil, h => by simp at h
  | _, _, 0, x, .cons h hs, e => by
    simp at e
    subst e
    exact ⟨_, rfl, h⟩
  | _, _, i + 1, x, .cons h hs, e => by
    simp only [List.getElem?_cons_succ] at e
    obtain ⟨d, h1, h2⟩ := TdAll.get hs e
    exact ⟨d, by simpa using h1, h2⟩
theorem TdAll.get' {vs : List V} {ds : List PyData} {i : Nat} {d : PyData} (h : TdAll H vs ds) (e : ds[i]? = some d) : ∃ x, vs[i]? = some x ∧ Td H x d := by
  have hl := h.len
  have hi : i < vs.length := by
    have := (List.getElem?_eq_some_iff.mp e).1
    omega
  obtain ⟨d', h1, h2⟩ := h.get (List.getElem?_eq_getElem hi)
  rw [e] at h1
  cases h1
  exact ⟨_, List.getElem?_eq_getElem hi, h2⟩
theorem TdAll.take : ∀ {vs : List V} {ds : List PyData} (n : Nat), TdAll H vs ds → TdAll H (vs.take n) (ds.take n)
  | _, _, 0, _ => .nil
  | _, _, n + 1, .nil => .nil
  | _, _, n + 1, .cons h hs => .cons h (TdAll.take n hs)
theorem TdAll.drop : ∀ {vs : List V} {ds : List PyData} (n : Nat), TdAll H vs ds → TdAll H (vs.drop n) (ds.drop n)
  | _, _, 0, h => h
  | _, _, n + 1, .nil => .nil
  | _, _, n + 1, .cons h hs => TdAll.drop n hs
theorem TdAll.ints : ∀ {vs : List V} {ns : List Int}, TdAll H vs (ns.map .int) → vs = ns.map V.int
  | _, [], h => by
    cases h
    rfl
  | _, n :: ns, h => by
    cases h with
    | cons h hs =>
      rw [Td.int_ h, TdAll.ints hs]
      rfl
theorem TdAll.of_ints : ∀ (ns : List Int), TdAll H (ns.map V.int) (ns.map .int)
  | [] => .nil
  | n :: ns => .cons (.int n) (TdAll.of_ints ns)
theorem TdAll.strs : ∀ {vs : List V} {ns : List Str}, TdAll H vs (ns.map .str) → vs = ns.map V.str
  | _, [], h => by
    cases h
    rfl
  | _, n :: ns, h => by
    cases h with
    | cons h hs =>
      rw [Td.str_ h, TdAll.strs hs]
      rfl
theorem TdAll.of_strs : ∀ (ns : List Str), TdAll H (ns.map V.str) (ns.map .str)
  | [] => .nil
  | n :: ns => .cons (.str n) (TdAll.of_strs ns)
theorem TdAll.bls : ∀ {vs : List V} {ns : List Bool}, TdAll H vs (ns.map .bool) → vs = ns.map V.bl
  | _, [], h => by
    cases h
    rfl
  | _, n :: ns, h => by
    cases h with
    | cons h hs =>
      rw [Td.bl_ h, TdAll.bls hs]
      rfl
end

/-! ### what evaluates to data -/
def EvD (te : TE) (σ : L2.St) (H : Hp) (d : PyData) : Prop := ∀ H1, Ex H H1 → ∀ Q : VK, (∀ v H2, Ex H1 H2 → Td H2 v d → Q v H2) → te σ H1 Q
/-- a new list of such -/
def EvN (te : TE) (σ : L2.St) (H : Hp) (ds : List PyData) : Prop := ∀ H1, Ex H H1 → ∀ Q : VK, (∀ p xs H2, H1 p = none → Ex H1 H2 → H2 p = some (.lst xs) → TdAll H2 xs ds → Q (.ref p) H2) → te σ H1 Q
def EvAD (ta : TA) (σ : L2.St) (H : Hp) (ds : List PyData) : Prop := ∀ H1, Ex H H1 → ∀ Q : List V → Hp → Prop, (∀ vs H2, Ex H1 H2 → TdAll H2 vs ds → Q vs H2) → ta σ H1 Q
/-- data that may be read, lists too -/
def EvQ (K : PySem.W.Frag) (te : TE) (σ : L2.St) (H : Hp) (d : PyData) : Prop := ∀ H1, Ex H H1 → ∀ Q : VK, (∀ v H2, Ex H1 H2 → Dp K H2 v d → Q v H2) → te σ H1 Q
/-- what a for or a comprehension walks: its items -/
def EvI (wi : TI) (σ : L2.St) (H : Hp) (es : List PyData) : Prop := ∀ H1, Ex H H1 → ∀ R : It → Hp → Prop,
  (∀ (J : It) (G : Hp → Prop) H2, Ex H1 H2 → (∀ H3, Ex H2 H3 → G H3) → Walk J es.length G (fun i H x H' => Ex H H' ∧ ∃ e, es[i]? = some e ∧ Td H' x e) → R J H2) → wi σ H1 R
/-- .. that no store ends -/
def EvIT (wi : TI) (σ : L2.St) (H : Hp) (es : List PyData) : Prop := ∀ H1, Ex H H1 → ∀ R : It → Hp → Prop,
  (∀ (J : It) (G : Hp → Prop) H2, Ex H1 H2 → (∀ H3, ExT H2 H3 → G H3) → Walk J es.length G (fun i H x H' => Ex H H' ∧ ∃ e, es[i]? = some e ∧ Td H' x e) → R J H2) → wi σ H1 R
theorem EvIT.i {wi : TI} {σ : L2.St} {H : Hp} {es : List PyData} (h : EvIT wi σ H es) : EvI wi σ H es := fun H1 e R q => h H1 e R fun J G H2 e2 hG hW => q J G H2 e2 (fun H3 e3 => hG H3 (ExT.of e3)) hW
section
variable {K : PySem.W.Frag} {σ : L2.St} {H H' : Hp} {ta tb te tx : TE} {tA tB : TA} {t u : TT} {x y z v : V} {d : PyData} {ds es : List PyData}
theorem EvD.mono (e : Ex H H') (h : EvD te σ H d) : EvD te σ H' d := fun H1 a Q q => h H1 (e.trans a) Q q
theorem EvN.mono (e : Ex H H') (h : EvN te σ H ds) : EvN te σ H' ds := fun H1 a Q q => h H1 (e.trans a) Q q
theorem EvI.mono {wi : TI} (e : Ex H H') (h : EvI wi σ H ds) : EvI wi σ H' ds := fun H1 a Q q => h H1 (e.trans a) Q q
theorem ed_of (h : Ev te σ H v) (hd : Td H v d) : EvD te σ H d := fun H1 e Q q => h H1 e Q fun H2 e2 => q v H2 e2 (Td.ex (e.trans e2) hd)
theorem ed_int {i : Int} (h : Ev te σ H (.int i)) : EvD te σ H (.int i) := ed_of h (.int i)
theorem ed_str {x : Str} (h : Ev te σ H (.str x)) : EvD te σ H (.str x) := ed_of h (.str x)
theorem ed_bl {b : Bool} (h : Ev te σ H (.bl b)) : EvD te σ H (.bool b) := ed_of h (.bl b)
theorem ed_var {i : Nat} (h : σ[i]? = some (some v)) (hd : Td H v d) : EvD (tVar i) σ H d := ed_of (ev_var h) hd
theorem EvD.int {i : Int} (h : EvD te σ H (.int i)) : Ev te σ H (.int i) := fun H1 e Q q => h H1 e Q fun v H2 e2 hd => by
  rw [Td.int_ hd]
  exact q H2 e2
theorem EvD.str {x : Str} (h : EvD te σ H (.str x)) : Ev te σ H (.str x) := fun H1 e Q q => h H1 e Q fun v H2 e2 hd => by
  rw [Td.str_ hd]
  exact q H2 e2
theorem EvD.bl {b : Bool} (h : EvD te σ H (.bool b)) : Ev te σ H (.bl b) := fun H1 e Q q => h H1 e Q fun v H2 e2 hd => by
  rw [Td.bl_ hd]
  exact q H2 e2
theorem eq_d (h : EvD te σ H d) : EvQ K te σ H d := fun H1 e Q q => h H1 e Q fun v H2 e2 hd => q v H2 e2 hd.dp
theorem eq_n (h : EvN te σ H ds) : EvQ K te σ H (.list ds) := fun H1 e Q q => h H1 e Q fun p xs H2 hp e2 h2 hd => q _ H2 e2 (.lst (sq_of h2) hd.dp)
theorem ead_nil : EvAD tNil σ H [] := fun H1 e Q q => q [] H1 (Ex.refl H1) .nil
theorem ead_cons (h : EvD te σ H d) (hs : EvAD tA σ H ds) : EvAD (tCons te tA) σ H (d :: ds) := fun H1 e Q q =>
  h H1 e _ fun v H2 e2 hv => hs H2 (e.trans e2) _ fun vs H3 e3 hvs => q (v :: vs) H3 (e2.trans e3) (.cons (Td.ex e3 hv) hvs)
theorem ed_tup (h : EvAD tA σ H ds) (hz : ds.length ≤ 100000) : EvD (tTup tA) σ H (.tuple ds) := fun H1 e Q q =>
  h H1 e _ fun vs H2 e2 hvs => ⟨sz_of (by rw [hvs.len]; exact hz), fun p hp => q _ _ (e2.trans (Ex.new hp)) (.tup upd_same (TdAll.ex (Ex.new hp) hvs))⟩
theorem en_lst (h : EvAD tA σ H ds) (hz : ds.length ≤ 100000) : EvN (tLst tA) σ H ds := fun H1 e Q q =>
  h H1 e _ fun vs H2 e2 hvs => ⟨sz_of (by rw [hvs.len]; exact hz), fun p hp => q p vs _ (fresh_back e2 hp) (e2.trans (Ex.new hp)) upd_same (TdAll.ex (Ex.new hp) hvs)⟩
/-- tuple(a new list) -/
theorem ed_tupOf (h : EvN te σ H ds) : EvD (tThen te (kTup K)) σ H (.tuple ds) := fun H1 e Q q =>
  h H1 e _ fun p xs H2 hp e2 h2 hd => .inl ⟨p, xs, rfl, sq_of h2, fun r hr => q _ _ (e2.trans (Ex.new hr)) (.tup upd_same (TdAll.ex (Ex.new hr) hd))⟩
/-- list(a tuple) -/
theorem en_listOf (h : EvD te σ H (.tuple ds)) : EvN (tCB (rListS K) (tCons te tNil)) σ H ds := fun H1 e Q q =>
  h H1 e _ fun v H2 e2 hd => by
    obtain ⟨a, xs, rfl, h1, h2⟩ := hd.tup_
    exact ⟨a, xs, rfl, .inr (st_of h1), fun l hl => q l xs _ (fresh_back e2 hl) (e2.trans (Ex.new hl)) upd_same (TdAll.ex (Ex.new hl) h2)⟩
theorem ev_lenT (h : EvD te σ H (.tuple ds)) : Ev (tCB (rLenS K) (tCons te tNil)) σ H (.int (ds.length : Int)) := fun H1 e Q q =>
  h H1 e _ fun v H2 e2 hd => by
    obtain ⟨a, xs, rfl, h1, h2⟩ := hd.tup_
    refine ⟨a, xs, rfl, .inr (st_of h1), ?_⟩
    rw [h2.len]
    exact q H2 e2
theorem ev_lenD (h : EvN te σ H ds) : Ev (tCB (rLenS K) (tCons te tNil)) σ H (.int (ds.length : Int)) := fun H1 e Q q =>
  h H1 e _ fun p xs H2 hp e2 h2 hd => by
    refine ⟨p, xs, rfl, .inl (sq_of h2), ?_⟩
    rw [hd.len]
    exact q H2 e2
/-- an item of a tuple -/
theorem ed_ixT {j : Nat} (h : EvD ta σ H (.tuple ds)) (hi : Ev tb σ H (.int (j : Int))) (hj : ds[j]? = some d) : EvD (tOp (rIxT K) ta tb) σ H d := fun H1 e Q q =>
  h H1 e _ fun v H2 e2 hd => hi H2 (e.trans e2) _ fun H3 e3 => by
    obtain ⟨a, xs, rfl, h1, h2⟩ := hd.tup_
    obtain ⟨x, hx, hxd⟩ := h2.get' hj
    exact ⟨a, xs, (j : Int), x, rfl, rfl, st_of (e3 _ _ h1), atI_nat hx, q x H3 (e2.trans e3) (Td.ex e3 hxd)⟩
theorem ed_ixN {j : Nat} (h : EvN ta σ H ds) (hi : Ev tb σ H (.int (j : Int))) (hj : ds[j]? = some d) : EvD (tOp (rIxL K) ta tb) σ H d := fun H1 e Q q =>
  h H1 e _ fun p xs H2 hp e2 h1 h2 => hi H2 (e.trans e2) _ fun H3 e3 => by
    obtain ⟨x, hx, hxd⟩ := h2.get' hj
    exact ⟨p, xs, (j : Int), x, rfl, rfl, sq_of (e3 _ _ h1), atI_nat hx, q x H3 (e2.trans e3) (Td.ex e3 hxd)⟩
/-- == and != of data -/
theorem ev_eqD {a b : PyData} (h : EvQ K ta σ H a) (h2 : EvQ K tb σ H b) (sa : SeqAt.shaped a = true) (sb : SeqAt.shaped b = true) : Ev (tOp (rEqD K) ta tb) σ H (.bl (PyData.eqv a b)) := fun H1 e Q q =>
  h H1 e _ fun v H2 e2 hd => h2 H2 (e.trans e2) _ fun w H3 e3 he => ⟨a, b, Dp.ext e3 hd, he, sa, sb, q H3 (e2.trans e3)⟩
theorem ev_neD {a b : PyData} (h : EvQ K ta σ H a) (h2 : EvQ K tb σ H b) (sa : SeqAt.shaped a = true) (sb : SeqAt.shaped b = true) : Ev (tOp (rNeD K) ta tb) σ H (.bl (!PyData.eqv a b)) := fun H1 e Q q =>
  h H1 e _ fun v H2 e2 hd => h2 H2 (e.trans e2) _ fun w H3 e3 he => ⟨a, b, Dp.ext e3 hd, he, sa, sb, q H3 (e2.trans e3)⟩

/-! ### texts -/
theorem ev_addS {a b : List Nat} (h : Ev ta σ H (.str (S a))) (h2 : Ev tb σ H (.str (S b))) (hz : a.length + b.length ≤ 100000) :
    Ev (tOp (fun x y H Q => ∃ i j, x = .str i ∧ y = .str j ∧ i.length + j.length ≤ sizeLine ∧ Q (.str (i ++ j)) H) ta tb) σ H (.str (S (a ++ b))) := fun H1 e Q q =>
  h H1 e _ fun H2 e2 => h2 H2 (e.trans e2) _ fun H3 e3 => ⟨_, _, rfl, rfl, by rw [S_len, S_len]; exact sz_of hz, by rw [S_app]; exact q H3 (e2.trans e3)⟩
theorem ev_ixS {a : List Nat} {j c : Nat} (h : Ev ta σ H (.str (S a))) (h2 : Ev tb σ H (.int (j : Int))) (hz : a.length ≤ 100000) (hj : a[j]? = some c) : Ev (tOp rIxS ta tb) σ H (.str (S [c])) := fun H1 e Q q =>
  h H1 e _ fun H2 e2 => h2 H2 (e.trans e2) _ fun H3 e3 => ⟨S a, (j : Int), c, rfl, rfl, by rw [S_len]; exact sz_of hz, by rw [S_cps]; exact atI_nat hj, q H3 (e2.trans e3)⟩
theorem ev_cut {a : List Nat} {tl th : TO} {lo hi : Option Int} {b : List Nat} (h : Ev te σ H (.str (S a))) (h1 : EvO tl σ H lo) (h2 : EvO th σ H hi) (hz : a.length ≤ 100000) (hb : cutS (S a) lo hi = S b) : Ev (tSl rSlS te tl th) σ H (.str (S b)) := fun H1 e Q q =>
  h H1 e _ fun H2 e2 => h1 H2 (e.trans e2) _ fun H3 e3 => h2 H3 ((e.trans e2).trans e3) _ fun H4 e4 => ⟨S a, rfl, by rw [S_len]; exact sz_of hz, by rw [hb]; exact q H4 ((e2.trans e3).trans e4)⟩
theorem ev_from {a : List Nat} {k : Nat} {tl : TE} (h : Ev te σ H (.str (S a))) (h1 : Ev tl σ H (.int (k : Int))) (hz : a.length ≤ 100000) : Ev (tSl rSlS te (tPart tl) tNoPart) σ H (.str (S (a.drop k))) := ev_cut h (eo_some h1) eo_none hz (S_from a k)
theorem ev_to {a : List Nat} {k : Nat} {tl : TE} (h : Ev te σ H (.str (S a))) (h1 : Ev tl σ H (.int (k : Int))) (hz : a.length ≤ 100000) : Ev (tSl rSlS te tNoPart (tPart tl)) σ H (.str (S (a.take k))) := ev_cut h eo_none (eo_some h1) hz (S_to a k)
theorem ev_mid {a : List Nat} {i j : Nat} {tl th : TE} (h : Ev te σ H (.str (S a))) (h1 : Ev tl σ H (.int (i : Int))) (h2 : Ev th σ H (.int (j : Int))) (hz : a.length ≤ 100000) : Ev (tSl rSlS te (tPart tl) (tPart th)) σ H (.str (S ((a.drop i).take (j - i)))) := ev_cut h (eo_some h1) (eo_some h2) hz (S_mid a i j)
def rLenStr : List V → Hp → VK → Prop := fun xs H Q => ∃ z, xs = [.str z] ∧ z.length ≤ sizeLine ∧ Q (.int z.length) H
theorem ev_lenStr {a : List Nat} (h : Ev te σ H (.str (S a))) (hz : a.length ≤ 100000) : Ev (tCB rLenStr (tCons te tNil)) σ H (.int (a.length : Int)) := fun H1 e Q q =>
  h H1 e _ fun H2 e2 => ⟨S a, rfl, by rw [S_len]; exact sz_of hz, by rw [S_len]; exact q H2 e2⟩
theorem ev_eqS {a b : List Nat} (h : Ev ta σ H (.str (S a))) (h2 : Ev tb σ H (.str (S b))) : Ev (tOp rEq ta tb) σ H (.bl (decide (a = b))) := by
  rw [← S_dec]
  exact ev_op h h2 (rv_eq rfl)
theorem ev_neS {a b : List Nat} (h : Ev ta σ H (.str (S a))) (h2 : Ev tb σ H (.str (S b))) : Ev (tOp rNe ta tb) σ H (.bl (!decide (a = b))) := by
  rw [← S_dec]
  exact ev_op h h2 (rv_ne rfl)
theorem dec_int (i j : Int) : decide (V.int i = V.int j) = decide (i = j) := by
  by_cases h : i = j
  · subst h
    simp
  · rw [decide_eq_false h, decide_eq_false]
    intro q
    exact h (V.int.inj q)
theorem ev_eqI {i j : Int} (h : Ev ta σ H (.int i)) (h2 : Ev tb σ H (.int j)) : Ev (tOp rEq ta tb) σ H (.bl (decide (i = j))) := by
  rw [← dec_int]
  exact ev_op h h2 (rv_eq rfl)
theorem ev_neI {i j : Int} (h : Ev ta σ H (.int i)) (h2 : Ev tb σ H (.int j)) : Ev (tOp rNe ta tb) σ H (.bl (!decide (i = j))) := by
  rw [← dec_int]
  exact ev_op h h2 (rv_ne rfl)

/-! ### what is walked -/
theorem eit_rng1 {n : Nat} (h : EvA tA σ H [.int (n : Int)]) (hn : n ≤ 40000) : EvIT (iRng1 tA) σ H ((List.range n).map fun (i : Nat) => PyData.int (i : Int)) := fun H1 e R q =>
  h H1 e _ fun H2 e2 => ⟨(n : Int), rfl, by omega, by omega, by
    refine q _ (fun _ => True) H2 e2 (fun _ _ => trivial) ?_
    have hl : ((List.range n).map fun (i : Nat) => PyData.int (i : Int)).length = (n : Int).toNat := by simp
    rw [hl]
    refine walk_range.mono (fun _ _ => trivial) fun i H x H' hi _ y => ?_
    obtain ⟨rfl, rfl⟩ := y
    have hi' : i < n := by simpa using hi
    refine ⟨Ex.refl _, .int (i : Int), by simp [hi'], ?_⟩
    have e0 : (0 : Int) + (i : Int) = (i : Int) := Int.zero_add _
    show Td H' (.int ((0 : Int) + (i : Int))) (.int (i : Int))
    rw [e0]
    exact .int _⟩
theorem eit_rng2 {a b : Int} (h : EvA tA σ H [.int a, .int b]) (ha : -40000 ≤ a ∧ a ≤ 40000) (hb : -40000 ≤ b ∧ b ≤ 40000) : EvIT (iRng2 tA) σ H ((List.range (b - a).toNat).map fun (i : Nat) => PyData.int (a + (i : Int))) := fun H1 e R q =>
  h H1 e _ fun H2 e2 => ⟨a, b, rfl, ⟨by omega, by omega, by omega, by omega⟩, by
    refine q _ (fun _ => True) H2 e2 (fun _ _ => trivial) ?_
    have hl : ((List.range (b - a).toNat).map fun (i : Nat) => PyData.int (a + (i : Int))).length = (b - a).toNat := by simp
    rw [hl]
    refine walk_range.mono (fun _ _ => trivial) fun i H x H' hi _ y => ?_
    obtain ⟨rfl, rfl⟩ := y
    exact ⟨Ex.refl _, .int (a + (i : Int)), by simp [hi], .int _⟩⟩
/-- down by ones -/
theorem eit_down {a b : Int} (h : EvA tA σ H [.int a, .int b, .int (-1)]) (ha : -40000 ≤ a ∧ a ≤ 40000) (hb : -40000 ≤ b ∧ b ≤ 40000) : EvIT (iRng3 tA) σ H ((List.range (a - b).toNat).map fun (i : Nat) => PyData.int (a - (i : Int))) := fun H1 e R q =>
  h H1 e _ fun H2 e2 => ⟨a, b, -1, (a - b).toNat, rfl, RgC.neg (by omega) (by omega) (by omega) (by omega), by
    refine q _ (fun _ => True) H2 e2 (fun _ _ => trivial) ?_
    have hl : ((List.range (a - b).toNat).map fun (i : Nat) => PyData.int (a - (i : Int))).length = (a - b).toNat := by simp
    rw [hl]
    refine walk_rangeC.mono (fun _ _ => trivial) fun i H x H' hi _ y => ?_
    obtain ⟨rfl, rfl⟩ := y
    refine ⟨Ex.refl _, .int (a - (i : Int)), by simp [hi], ?_⟩
    have e0 : a + ((i : Nat) : Int) * (-1) = a - (i : Int) := by omega
    show Td H' (.int (a + ((i : Nat) : Int) * (-1))) (.int (a - (i : Int)))
    rw [e0]
    exact .int _⟩
theorem ei_new (h : EvN te σ H ds) : EvI (iList K te) σ H ds := fun H1 e R q =>
  h H1 e _ fun p xs H2 hp e2 h2 hd => ⟨p, rfl, ⟨xs, sq_of h2⟩, by
    refine q _ (fun H3 => H3 p = some (.lst xs) ∧ TdAll H3 xs ds) H2 e2 (fun H3 e3 => ⟨e3 _ _ h2, TdAll.ex e3 hd⟩) ?_
    refine ⟨fun i H3 hi g => ⟨xs, xs[i]'(by rw [hd.len]; exact hi), sq_of g.1, by simp⟩, fun H3 g => ⟨xs, sq_of g.1, by rw [hd.len]; exact Nat.le_refl _⟩, fun i H3 x H4 hi g y => ?_⟩
    obtain ⟨rfl, hy⟩ := y
    obtain ⟨d, h3, h4⟩ := g.2.get (hy xs (sq_of g.1))
    exact ⟨Ex.refl _, d, h3, h4⟩⟩
theorem eit_tup (h : EvD te σ H (.tuple ds)) : EvIT (iTup K te) σ H ds := fun H1 e R q =>
  h H1 e _ fun v H2 e2 hd => by
    obtain ⟨p, xs, rfl, h2, hd⟩ := hd.tup_
    refine ⟨p, rfl, ⟨xs, st_of h2⟩, ?_⟩
    refine q _ (fun H3 => H3 p = some (.tup xs) ∧ TdAll H3 xs ds) H2 e2 (fun H3 e3 => ⟨e3 _ _ h2, TdAll.ext e3 hd⟩) ?_
    refine ⟨fun i H3 hi g => ⟨xs, xs[i]'(by rw [hd.len]; exact hi), st_of g.1, by simp⟩, fun H3 g => ⟨xs, st_of g.1, by rw [hd.len]; exact Nat.le_refl _⟩, fun i H3 x H4 hi g y => ?_⟩
    obtain ⟨rfl, hy⟩ := y
    obtain ⟨d, h3, h4⟩ := g.2.get (hy xs (st_of g.1))
    exact ⟨Ex.refl _, d, h3, h4⟩
theorem eit_str {a : List Nat} (h : Ev te σ H (.str (S a))) : EvIT (iStr te) σ H (a.map fun c => .str (S [c])) := fun H1 e R q =>
  h H1 e _ fun H2 e2 => ⟨S a, rfl, by
    refine q _ (fun _ => True) H2 e2 (fun _ _ => trivial) ?_
    have hl : (a.map fun c => PyData.str (S [c])).length = (S a).cps.size := by
      rw [List.length_map]
      exact List.size_toArray.symm
    rw [hl]
    refine walk_str.mono (fun _ _ => trivial) fun i H x H' hi _ y => ?_
    obtain ⟨rfl, c, hc, rfl⟩ := y
    have hc' : a[i]? = some c := by
      rw [← hc]
      exact List.getElem?_toArray.symm
    exact ⟨Ex.refl _, .str (S [c]), by rw [List.getElem?_map, hc']; rfl, .str _⟩⟩

theorem ei_rng1 {n : Nat} (h : EvA tA σ H [.int (n : Int)]) (hn : n ≤ 40000) : EvI (iRng1 tA) σ H ((List.range n).map fun (i : Nat) => PyData.int (i : Int)) := (eit_rng1 h hn).i
theorem ei_rng2 {a b : Int} (h : EvA tA σ H [.int a, .int b]) (ha : -40000 ≤ a ∧ a ≤ 40000) (hb : -40000 ≤ b ∧ b ≤ 40000) : EvI (iRng2 tA) σ H ((List.range (b - a).toNat).map fun (i : Nat) => PyData.int (a + (i : Int))) := (eit_rng2 h ha hb).i
theorem ei_down {a b : Int} (h : EvA tA σ H [.int a, .int b, .int (-1)]) (ha : -40000 ≤ a ∧ a ≤ 40000) (hb : -40000 ≤ b ∧ b ≤ 40000) : EvI (iRng3 tA) σ H ((List.range (a - b).toNat).map fun (i : Nat) => PyData.int (a - (i : Int))) := (eit_down h ha hb).i
theorem ei_tup (h : EvD te σ H (.tuple ds)) : EvI (iTup K te) σ H ds := (eit_tup h).i
theorem ei_str {a : List Nat} (h : Ev te σ H (.str (S a))) : EvI (iStr te) σ H (a.map fun c => .str (S [c])) := (eit_str h).i
/-! ### for -/
theorem s_forI {wi : TI} {g : TG} {tu : TS} {D : Ends} (h : EvI wi σ H es) (Pv : Hp → Nat → L2.St → Hp → Prop) (h0 : ∀ H1, Ex H H1 → Pv H1 0 σ H1) (hx : ∀ H1 i σ' H', Pv H1 i σ' H' → Ex H1 H')
    (hs : ∀ H1 i e x σ' H' H'', Ex H H1 → es[i]? = some e → Pv H1 i σ' H' → Ex H' H'' → Td H'' x e → g x σ' H'' fun σ2 H2 => tu { D with nx := Pv H1 (i + 1), ct := Pv H1 (i + 1), bk := D.nx } σ2 H2)
    (hd : ∀ H1 σ' H', Ex H H1 → Pv H1 es.length σ' H' → D.nx σ' H') : tFor wi g tu D σ H := h H (Ex.refl H) _ fun J G H1 e1 hG hW =>
  for_it hW (Pv H1) (h0 H1 e1) (fun i σ' H' _ p => hG H' (hx _ _ _ _ p)) (fun i x σ' H' H'' _ p y => by
    obtain ⟨e2, e, he, hxe⟩ := y
    exact hs H1 i e x σ' H' H'' e1 he p e2 hxe) (fun σ' H' p => hd H1 σ' H' e1 p)
theorem s_forIT {wi : TI} {g : TG} {tu : TS} {D : Ends} (h : EvIT wi σ H es) (Pv : Hp → Nat → L2.St → Hp → Prop) (h0 : ∀ H1, Ex H H1 → Pv H1 0 σ H1) (hx : ∀ H1 i σ' H', Pv H1 i σ' H' → ExT H1 H')
    (hs : ∀ H1 i e x σ' H' H'', Ex H H1 → es[i]? = some e → Pv H1 i σ' H' → Ex H' H'' → Td H'' x e → g x σ' H'' fun σ2 H2 => tu { D with nx := Pv H1 (i + 1), ct := Pv H1 (i + 1), bk := D.nx } σ2 H2)
    (hd : ∀ H1 σ' H', Ex H H1 → Pv H1 es.length σ' H' → D.nx σ' H') : tFor wi g tu D σ H := h H (Ex.refl H) _ fun J G H1 e1 hG hW =>
  for_it hW (Pv H1) (h0 H1 e1) (fun i σ' H' _ p => hG H' (hx _ _ _ _ p)) (fun i x σ' H' H'' _ p y => by
    obtain ⟨e2, e, he, hxe⟩ := y
    exact hs H1 i e x σ' H' H'' e1 he p e2 hxe) (fun σ' H' p => hd H1 σ' H' e1 p)
theorem q_forI {wi : TI} {g : TG} {tu tz : TS} {D : Ends} (h : EvI wi σ H es) (Pv : Hp → Nat → L2.St → Hp → Prop) (h0 : ∀ H1, Ex H H1 → Pv H1 0 σ H1) (hx : ∀ H1 i σ' H', Pv H1 i σ' H' → Ex H1 H')
    (hs : ∀ H1 i e x σ' H' H'', Ex H H1 → es[i]? = some e → Pv H1 i σ' H' → Ex H' H'' → Td H'' x e → g x σ' H'' fun σ2 H2 => tu { D with nx := Pv H1 (i + 1), ct := Pv H1 (i + 1), bk := tz D } σ2 H2)
    (hd : ∀ H1 σ' H', Ex H H1 → Pv H1 es.length σ' H' → tz D σ' H') : tSeq (tFor wi g tu) tz D σ H := s_forI (D := { D with nx := tz D }) h Pv h0 hx hs hd
theorem q_forIT {wi : TI} {g : TG} {tu tz : TS} {D : Ends} (h : EvIT wi σ H es) (Pv : Hp → Nat → L2.St → Hp → Prop) (h0 : ∀ H1, Ex H H1 → Pv H1 0 σ H1) (hx : ∀ H1 i σ' H', Pv H1 i σ' H' → ExT H1 H')
    (hs : ∀ H1 i e x σ' H' H'', Ex H H1 → es[i]? = some e → Pv H1 i σ' H' → Ex H' H'' → Td H'' x e → g x σ' H'' fun σ2 H2 => tu { D with nx := Pv H1 (i + 1), ct := Pv H1 (i + 1), bk := tz D } σ2 H2)
    (hd : ∀ H1 σ' H', Ex H H1 → Pv H1 es.length σ' H' → tz D σ' H') : tSeq (tFor wi g tu) tz D σ H := s_forIT (D := { D with nx := tz D }) h Pv h0 hx hs hd
/-! ### comprehensions -/
/-- what a target makes of an item -/
def Bnd (g : TG) (x : V) (σ : L2.St) (H : Hp) (σ2 : L2.St) : Prop := ∀ Q : L2.St → Hp → Prop, Q σ2 H → g x σ H Q
theorem bnd_name {j : Nat} {σ : L2.St} : Bnd (gName j) x σ H (σ.set j (some x)) := fun Q q => q
theorem bnd_pair {i j : Nat} {a : Addr} (h : H a = some (.tup [x, y])) : Bnd (gTup K 2 (gCons (gName i) (gCons (gName j) gNil))) (.ref a) σ H ((σ.set i (some x)).set j (some y)) := fun Q q =>
  ⟨a, [x, y], rfl, st_of h, rfl, x, [y], rfl, y, [], rfl, rfl, q⟩
theorem en_lcA {α : Type} {wi : TI} {g : TG} {tt : TT} {vs : List Nat} (enc : α → PyData) (as : List α) (f : α → Bool) (w : α → PyData) (h : EvI wi σ H (as.map enc)) (hz : as.length ≤ 40000)
    (hb : ∀ a ∈ as, ∀ x H1, Ex H H1 → Td H1 x (enc a) → ∃ σ2, Bnd g x (wipe σ vs) H1 σ2 ∧ wipe σ2 vs = wipe σ vs ∧ EvT tt σ2 H1 (f a) ∧ (f a = true → EvD te σ2 H1 (w a))) :
    EvN (tLc wi g tt te vs) σ H ((as.filter f).map w) := fun H0 e Q q => h H0 e _ fun J G H1 e1 hG hW D hD => by
  rw [List.length_map] at hW
  have key : ∀ n, n ≤ as.length → (((as.take n).filter f).map w).length ≤ 40000 := fun n hn => by
    rw [List.length_map]
    have := List.length_filter_le f (as.take n)
    rw [List.length_take] at this
    omega
  refine lc_it hW (fun i H' => Ex H1 H' ∧ ∃ acc, H' D = some (.lst acc) ∧ TdAll H' acc (((as.take i).filter f).map w)) ⟨Ex.new hD, [], upd_same, .nil⟩ (fun i H' hi p => hG H' p.1) ?_ ?_
  · rintro i x H2 H3 hi ⟨e2, acc, ha, hacc⟩ ⟨e3, d, hd, hx⟩
    obtain ⟨b, hbm, rfl⟩ : ∃ b, as[i]? = some b ∧ d = enc b := by
      rw [List.getElem?_map] at hd
      cases hq : as[i]? with
      | none =>
        rw [hq] at hd
        cases hd
      | some b =>
        rw [hq] at hd
        exact ⟨b, rfl, (Option.some.inj hd).symm⟩
    have hmem : b ∈ as := List.mem_of_getElem? hbm
    obtain ⟨σ2, b1, b2, b3, b4⟩ := hb b hmem x H3 (((e.trans e1).trans e2).trans e3) hx
    refine b1 _ ⟨b2, ?_⟩
    have htake : as.take (i + 1) = as.take i ++ [b] := by
      rw [List.take_add_one, hbm]
      rfl
    refine b3 H3 (Ex.refl _) _ fun H4 e4 => ?_
    cases hf : f b with
    | true =>
      show te σ2 H4 _
      refine b4 hf H4 e4 _ fun v H5 e5 hv => ?_
      have haD : H5 D = some (.lst acc) := e5 _ _ (e4 _ _ (e3 _ _ ha))
      refine ⟨acc, haD, ?_, ?_, acc ++ [v], upd_same, ?_⟩
      · have h1 := hacc.len
        have h2 := key i (Nat.le_of_lt hi)
        exact sz_lt (by omega)
      · exact Ex.mut (((e2.trans e3).trans e4).trans e5) hD
      · rw [htake, List.filter_append, List.map_append]
        have h1 : ([b].filter f).map w = [w b] := by
          rw [List.filter_cons, if_pos hf]
          rfl
        rw [h1]
        have eT : ExT H5 (upd H5 D (.lst (acc ++ [v]))) := ExT.updL haD
        exact TdAll.append (TdAll.ext eT (TdAll.ex ((e3.trans e4).trans e5) hacc)) (TdAll.one (Td.ext eT hv))
    | false =>
      show Ex H1 H4 ∧ _
      refine ⟨(e2.trans e3).trans e4, acc, e4 _ _ (e3 _ _ ha), ?_⟩
      rw [htake, List.filter_append, List.map_append]
      have h1 : ([b].filter f).map w = [] := by
        rw [List.filter_cons, if_neg (by rw [hf]; decide)]
        rfl
      rw [h1, List.append_nil]
      exact TdAll.ex (e3.trans e4) hacc
  · rintro H2 ⟨e2, acc, ha, hacc⟩
    rw [List.take_of_length_le (Nat.le_refl _)] at hacc
    exact q D acc H2 (fresh_back e1 hD) (e1.trans e2) ha hacc
theorem et_yes : EvT tYes σ H true := fun H1 _ _ q => q H1 (Ex.refl H1)
/-- over ints, a name the target -/
theorem en_lcI {wi : TI} {j : Nat} {tt : TT} {vs : List Nat} (ns : List Int) (f : Int → Bool) (w : Int → PyData) (h : EvI wi σ H (ns.map .int)) (hz : ns.length ≤ 40000)
    (hb : ∀ n ∈ ns, ∀ H1, Ex H H1 → EvT tt ((wipe σ vs).set j (some (.int n))) H1 (f n) ∧ (f n = true → EvD te ((wipe σ vs).set j (some (.int n))) H1 (w n)))
    (hw : ∀ x, wipe ((wipe σ vs).set j (some x)) vs = wipe σ vs := by intro _; rfl) : EvN (tLc wi (gName j) tt te vs) σ H ((ns.filter f).map w) :=
  en_lcA PyData.int ns f w h hz fun n hn x H1 e hx => by
    cases Td.int_ hx
    exact ⟨_, bnd_name, hw _, (hb n hn H1 e).1, (hb n hn H1 e).2⟩
/-- over texts -/
theorem en_lcS {wi : TI} {j : Nat} {tt : TT} {vs : List Nat} (ls : List (List Nat)) (f : List Nat → Bool) (w : List Nat → PyData) (h : EvI wi σ H (ls.map fun l => .str (S l))) (hz : ls.length ≤ 40000)
    (hb : ∀ l ∈ ls, ∀ H1, Ex H H1 → EvT tt ((wipe σ vs).set j (some (.str (S l)))) H1 (f l) ∧ (f l = true → EvD te ((wipe σ vs).set j (some (.str (S l)))) H1 (w l)))
    (hw : ∀ x, wipe ((wipe σ vs).set j (some x)) vs = wipe σ vs := by intro _; rfl) : EvN (tLc wi (gName j) tt te vs) σ H ((ls.filter f).map w) :=
  en_lcA (fun l => PyData.str (S l)) ls f w h hz fun l hl x H1 e hx => by
    cases Td.str_ hx
    exact ⟨_, bnd_name, hw _, (hb l hl H1 e).1, (hb l hl H1 e).2⟩
end
end TY
namespace TY
open PySem PySem.Spec PyProof.Rows L2 Evl
/-! ### a def of the text that may be called by its name -/
structure Cl (P : Program) (w : World) (K : PySem.W.Frag) (mg : Str → Option Value) (base : Heap) (k : Nat) (x : Str) (sp : Sp) : Prop where
  ex : ∃ (f : Addr) (fd : FuncData) (ps : List Str), FnOk P w K mg base CX0 k f fd ps sp ∧ mg x = some (.ref f) ∧ PySem.W.keepIn K (.ref f) = true ∧ Binds K fd ps []
section
variable {X : Cx} {k j : Nat} {x : Str} {sp : Sp} {p pos : Pos} {e : Expr} {es : List Expr} {t : TA}
theorem pe_cl (c : Cl X.prog X.w X.K X.mg X.base k x sp) (hr : Room j X.A) (hk : k ≤ j) (hg : Gl X x) (ha : PA X (e :: es) t)
    (hdb : (x == ("__debug__" : Str)) = false := by decide) (he : starEach (e :: es) X.env = (false, eval e X.env) :: starEach es X.env := by rfl) (hpl : (backTo pos (starEach es X.env)).any (·.1) = false := by rfl) :
    PE X (.Call (.Name x p) (e :: es) [] pos) (tCall sp [] E0 t) := by
  obtain ⟨f, fd, ps, F, hm, kp, b⟩ := c.ex
  exact pe_call F (hr.mono hk) hg hm kp b .nil pass0 ha hdb he hpl
theorem pe_gc {v : V} (hg : Gl X x) (h : ∃ u, X.mg x = some u ∧ RelV v u) (hd : (x == ("__debug__" : Str)) = false := by decide) : PE X (.Name x pos) (tC v) := by
  obtain ⟨u, hm, r⟩ := h
  exact pe_glob hg hm r hd
end
theorem hu64 {A : Around} {k : Nat} (hr : Room k A) : A.units + 64 < cLine := hr.units
/-- a call's promise: data in, data out -/
def SpD (sp : Sp) (vs : List V) (H : Hp) (d : PyData) : Prop := ∀ H1, Ex H H1 → ∀ Q : VK, (∀ v H2, Ex H1 H2 → Td H2 v d → Q v H2) → ∀ E : XK, sp vs H1 Q E
def SpN (sp : Sp) (vs : List V) (H : Hp) (ds : List PyData) : Prop := ∀ H1, Ex H H1 → ∀ Q : VK, (∀ p xs H2, H1 p = none → Ex H1 H2 → H2 p = some (.lst xs) → TdAll H2 xs ds → Q (.ref p) H2) → ∀ E : XK, sp vs H1 Q E
section
variable {K : PySem.W.Frag} {σ : L2.St} {H : Hp} {tA : TA} {sp : Sp} {vs : List V} {d : PyData} {ds : List PyData} {E : XK} {z : V}
theorem ed_call (h : EvA tA σ H vs) (hs : SpD sp vs H d) : EvD (tCall sp [] E tA) σ H d := fun H1 e Q q =>
  h H1 e _ fun H2 e2 => by
    show sp (vs ++ []) H2 Q E
    rw [List.append_nil]
    exact hs H2 (e.trans e2) Q (fun v H3 e3 hd => q v H3 (e2.trans e3) hd) E
theorem en_call (h : EvA tA σ H vs) (hs : SpN sp vs H ds) : EvN (tCall sp [] E tA) σ H ds := fun H1 e Q q =>
  h H1 e _ fun H2 e2 => by
    show sp (vs ++ []) H2 Q E
    rw [List.append_nil]
    exact hs H2 (e.trans e2) Q (fun p xs H3 hp e3 h3 hd => q p xs H3 (fresh_back e2 hp) (e2.trans e3) h3 hd) E
theorem ev_cl (h : EvA tA σ H vs) (hs : SpV sp vs H z) : Ev (tCall sp [] E tA) σ H z := ev_call h (by rw [List.append_nil]; exact hs)
/-- .. where an argument is new data: its value is not known ahead -/
theorem ed_callD {es : List PyData} (h : EvAD tA σ H es) (hs : ∀ vs H1, Ex H H1 → TdAll H1 vs es → SpD sp vs H1 d) : EvD (tCall sp [] E tA) σ H d := fun H1 e Q q =>
  h H1 e _ fun vs H2 e2 hv => by
    show sp (vs ++ []) H2 Q E
    rw [List.append_nil]
    exact hs vs H2 (e.trans e2) hv H2 (Ex.refl H2) Q (fun v H3 e3 hd => q v H3 (e2.trans e3) hd) E
/-- a statement that stores data -/
theorem s_asgD {D : Ends} {te : TE} {i : Nat} (h : EvD te σ H d) (k : ∀ v H1, Ex H H1 → Td H1 v d → D.nx (σ.set i (some v)) H1) : tAsg te (gName i) D σ H := h H (Ex.refl H) _ fun v H1 e hv => k v H1 e hv
theorem q_asgD {D : Ends} {te : TE} {tz : TS} {i : Nat} (h : EvD te σ H d) (k : ∀ v H1, Ex H H1 → Td H1 v d → tz D (σ.set i (some v)) H1) : tSeq (tAsg te (gName i)) tz D σ H := s_asgD (D := { D with nx := tz D }) h k
theorem s_asgN {D : Ends} {te : TE} {i : Nat} (h : EvN te σ H ds) (k : ∀ p xs H1, H p = none → Ex H H1 → H1 p = some (.lst xs) → TdAll H1 xs ds → D.nx (σ.set i (some (.ref p))) H1) : tAsg te (gName i) D σ H := h H (Ex.refl H) _ fun p xs H1 hp e h1 hv => k p xs H1 hp e h1 hv
theorem q_asgN {D : Ends} {te : TE} {tz : TS} {i : Nat} (h : EvN te σ H ds) (k : ∀ p xs H1, H p = none → Ex H H1 → H1 p = some (.lst xs) → TdAll H1 xs ds → tz D (σ.set i (some (.ref p))) H1) : tSeq (tAsg te (gName i)) tz D σ H := s_asgN (D := { D with nx := tz D }) h k
theorem s_retD {D : Ends} {te : TE} (h : EvD te σ H d) (k : ∀ v H1, Ex H H1 → Td H1 v d → D.rt v H1) : tRet te D σ H := h H (Ex.refl H) _ k
theorem s_retN {D : Ends} {te : TE} (h : EvN te σ H ds) (k : ∀ p xs H1, H p = none → Ex H H1 → H1 p = some (.lst xs) → TdAll H1 xs ds → D.rt (.ref p) H1) : tRet te D σ H := h H (Ex.refl H) _ k
end
section
variable {K : PySem.W.Frag} {σ : L2.St} {H : Hp} {te ta tb : TE} {p : Addr} {xs : List V} {ds : List PyData} {d : PyData}
/-- tuple(a list that stands) -/
theorem ed_tupL (h : Ev te σ H (.ref p)) (hp : H p = some (.lst xs)) (hd : TdAll H xs ds) : EvD (tThen te (kTup K)) σ H (.tuple ds) := fun H1 e Q q =>
  h H1 e _ fun H2 e2 => .inl ⟨p, xs, rfl, sq_of ((e.trans e2) _ _ hp), fun r hr => q _ _ (e2.trans (Ex.new hr)) (.tup upd_same (TdAll.ex ((e.trans e2).trans (Ex.new hr)) hd))⟩
/-- a list that stands, read as data -/
theorem eq_l (h : Ev te σ H (.ref p)) (hp : H p = some (.lst xs)) (hd : TdAll H xs ds) : EvQ K te σ H (.list ds) := fun H1 e Q q =>
  h H1 e _ fun H2 e2 => q _ H2 e2 (.lst (sq_of ((e.trans e2) _ _ hp)) (TdAll.ex (e.trans e2) hd).dp)
theorem ei_lst (h : Ev te σ H (.ref p)) (hp : H p = some (.lst xs)) (hd : TdAll H xs ds) : EvI (iList K te) σ H ds := fun H1 e R q =>
  h H1 e _ fun H2 e2 => ⟨p, rfl, ⟨xs, sq_of ((e.trans e2) _ _ hp)⟩, by
    refine q _ (fun H3 => H3 p = some (.lst xs) ∧ TdAll H3 xs ds) H2 e2 (fun H3 e3 => ⟨((e.trans e2).trans e3) _ _ hp, TdAll.ex ((e.trans e2).trans e3) hd⟩) ?_
    refine ⟨fun i H3 hi g => ⟨xs, xs[i]'(by rw [hd.len]; exact hi), sq_of g.1, by simp⟩, fun H3 g => ⟨xs, sq_of g.1, by rw [hd.len]; exact Nat.le_refl _⟩, fun i H3 x H4 hi g y => ?_⟩
    obtain ⟨rfl, hy⟩ := y
    obtain ⟨d, h3, h4⟩ := g.2.get (hy xs (sq_of g.1))
    exact ⟨Ex.refl _, d, h3, h4⟩⟩
/-- a tuple and a tuple -/
theorem ed_catA {es : List PyData} (h : EvD ta σ H (.tuple ds)) (h2 : EvD tb σ H (.tuple es)) (hz : ds.length + es.length ≤ 100000) : EvD (tOp (rCatA K) ta tb) σ H (.tuple (ds ++ es)) := fun H1 e Q q =>
  h H1 e _ fun v H2 e2 hv => h2 H2 (e.trans e2) _ fun w H3 e3 hw => by
    obtain ⟨a, xs, rfl, h3, h4⟩ := hv.tup_
    obtain ⟨b, ys, rfl, h5, h6⟩ := hw.tup_
    have h4' := TdAll.ex e3 h4
    have hl1 := h4'.len
    have hl2 := h6.len
    refine ⟨a, b, xs, ys, rfl, rfl, st_of (e3 _ _ h3), st_of h5, sz_of (by omega), fun z => ?_, fun _ z => ?_, fun _ _ p hp => ?_⟩
    · subst z
      cases h4
      exact q _ H3 (e2.trans e3) (.tup h5 h6)
    · subst z
      cases h6
      rw [List.append_nil] at q
      exact q _ H3 (e2.trans e3) (.tup (e3 _ _ h3) h4')
    · exact q _ _ ((e2.trans e3).trans (Ex.new hp)) (.tup upd_same (TdAll.ex (Ex.new hp) (TdAll.append h4' h6)))
end
section
variable {σ : L2.St} {H : Hp} {tA : TA} {sp : Sp} {vs : List V} {E : XK} {D : Ends} {tz : TS}
/-- a call whose value is told by its promise alone -/
theorem s_asgC {i : Nat} (h : EvA tA σ H vs) (k : ∀ H1, Ex H H1 → sp vs H1 (fun v H2 => D.nx (σ.set i (some v)) H2) E) : tAsg (tCall sp [] E tA) (gName i) D σ H :=
  h H (Ex.refl H) _ fun H1 e1 => by
    show sp (vs ++ []) H1 _ E
    rw [List.append_nil]
    exact k H1 e1
theorem q_asgC {i : Nat} (h : EvA tA σ H vs) (k : ∀ H1, Ex H H1 → sp vs H1 (fun v H2 => tz D (σ.set i (some v)) H2) E) : tSeq (tAsg (tCall sp [] E tA) (gName i)) tz D σ H := s_asgC (D := { D with nx := tz D }) h k
theorem s_retC (h : EvA tA σ H vs) (k : ∀ H1, Ex H H1 → sp vs H1 D.rt E) : tRet (tCall sp [] E tA) D σ H :=
  h H (Ex.refl H) _ fun H1 e1 => by
    show sp (vs ++ []) H1 _ E
    rw [List.append_nil]
    exact k H1 e1
end
/-! ### rules that speak of the written part, by its name -/
section
variable {X : Cx}
theorem kC {f : Value} (K : PySem.W.Frag) (r : PySem.W.Frag → List V → Hp → VK → Prop) (h : CallR X f (r X.K)) (hK : X.K = K := by rfl) : CallR X f (r K) := hK ▸ h
theorem kO {f : Value → Value → Sem Value} (K : PySem.W.Frag) (r : PySem.W.Frag → R2) (h : OpR X f (r X.K)) (hK : X.K = K := by rfl) : OpR X f (r K) := hK ▸ h
theorem kI (K : PySem.W.Frag) (r : PySem.W.Frag → R2) (h : IxR X (r X.K)) (hK : X.K = K := by rfl) : IxR X (r K) := hK ▸ h
theorem kL (K : PySem.W.Frag) (r : PySem.W.Frag → V → Option Int → Option Int → Hp → VK → Prop) (h : SlR X (r X.K)) (hK : X.K = K := by rfl) : SlR X (r K) := hK ▸ h
theorem kM {id : String} (K : PySem.W.Frag) (r : PySem.W.Frag → V → List V → Hp → VK → Prop) (h : MtR X id (r X.K)) (hK : X.K = K := by rfl) : MtR X id (r K) := hK ▸ h
theorem kE {e : Expr} (K : PySem.W.Frag) (t : PySem.W.Frag → TE) (h : PE X e (t X.K)) (hK : X.K = K := by rfl) : PE X e (t K) := hK ▸ h
theorem kP {tg e : Expr} (K : PySem.W.Frag) (t : PySem.W.Frag → TI) (h : PI X tg e (t X.K)) (hK : X.K = K := by rfl) : PI X tg e (t K) := hK ▸ h
theorem pe_tupleOfK {a : Expr} {ta : TE} {p pos : Pos} (K : PySem.W.Frag) (hg : Gl X "tuple") (hm : X.mg "tuple" = none) (ha : PE X a ta) (hK : X.K = K := by rfl)
    (na : starEach [a] X.env = (false, eval a X.env) :: starEach [] X.env := by rfl) : PE X (.Call (.Name "tuple" p) [a] [] pos) (tThen ta (kTup K)) := by
  subst hK
  exact pe_tupleOf hg hm ha na
theorem pi_listK {tg l : Expr} {tl : TE} (K : PySem.W.Frag) (hl : PE X l tl) (hK : X.K = K := by rfl) : PI X tg l (iList K tl) := by
  subst hK
  exact pi_list hl
theorem pi_tupK {tg l : Expr} {tl : TE} (K : PySem.W.Frag) (hl : PE X l tl) (hK : X.K = K := by rfl) : PI X tg l (iTup K tl) := by
  subst hK
  exact pi_tup hl
end
theorem bt_len : bootBuiltins "len" = some (.builtin "len") := by decide +kernel
theorem bt_isinstance : bootBuiltins "isinstance" = some (.builtin "isinstance") := by decide +kernel
theorem bt_sorted : bootBuiltins "sorted" = some (.builtin "sorted") := by decide +kernel
theorem bt_all : bootBuiltins "all" = some (.builtin "all") := by decide +kernel
theorem bt_any : bootBuiltins "any" = some (.builtin "any") := by decide +kernel
theorem bt_sum : bootBuiltins "sum" = some (.builtin "sum") := by decide +kernel
theorem bt_max : bootBuiltins "max" = some (.builtin "max") := by decide +kernel
theorem bt_min : bootBuiltins "min" = some (.builtin "min") := by decide +kernel
theorem bt_tuple : bootBuiltins "tuple" = some (.type "tuple") := by decide +kernel
theorem bt_list : bootBuiltins "list" = some (.type "list") := by decide +kernel
theorem bt_int : bootBuiltins "int" = some (.type "int") := by decide +kernel
theorem bt_str : bootBuiltins "str" = some (.type "str") := by decide +kernel
theorem bt_bool : bootBuiltins "bool" = some (.type "bool") := by decide +kernel
theorem bt_zip : bootBuiltins "zip" = some (.type "zip") := by decide +kernel
theorem bt_enumerate : bootBuiltins "enumerate" = some (.type "enumerate") := by decide +kernel
theorem bt_range : bootBuiltins "range" = some (.type "range") := by decide +kernel
/-- the built-in names that the text does not bind -/
structure Nm (mg : Str → Option Value) : Prop where
  n_len : mg "len" = none
  n_range : mg "range" = none
  n_tuple : mg "tuple" = none
  n_list : mg "list" = none
  n_isinstance : mg "isinstance" = none
  n_sorted : mg "sorted" = none
  n_int : mg "int" = none
  n_str : mg "str" = none
  n_bool : mg "bool" = none
  n_max : mg "max" = none
  n_min : mg "min" = none
  n_sum : mg "sum" = none
  n_all : mg "all" = none
  n_zip : mg "zip" = none
  n_enumerate : mg "enumerate" = none
/-! ### a text again and again -/
theorem foldl_reps (a : Array Nat) : ∀ (n : Nat) (z : Array Nat), (List.replicate n a).foldl (· ++ ·) z = z ++ (List.replicate n a).foldl (· ++ ·) #[]
  | 0, z => by simp
  | n + 1, z => by
    rw [List.replicate_succ, List.foldl_cons, List.foldl_cons, foldl_reps a n (z ++ a), foldl_reps a n (#[] ++ a)]
    simp [Array.append_assoc]
theorem reps_list (l : List Nat) : ∀ n : Nat, ((List.replicate n l.toArray).foldl (· ++ ·) #[]).toList = (List.replicate n l).flatten
  | 0 => rfl
  | n + 1 => by
    rw [List.replicate_succ, List.foldl_cons, foldl_reps, List.replicate_succ, List.flatten_cons, ← reps_list l n]
    simp
theorem S_mul (l : List Nat) (n : Nat) : Txt.mul (S l) (n : Int) = S (List.replicate n l).flatten := by
  unfold Txt.mul
  by_cases h1 : (n : Int) < 1
  · rw [if_pos h1]
    have e : n = 0 := by omega
    subst e
    rfl
  · rw [if_neg h1]
    by_cases h2 : (((n : Int) == 1 || (S l).length == 0)) = true
    · rw [if_pos h2]
      rw [Bool.or_eq_true, beq_iff_eq, beq_iff_eq, S_len] at h2
      rcases h2 with h2 | h2
      · have e : n = 1 := by omega
        subst e
        show S l = S (List.replicate 1 l).flatten
        rw [show (List.replicate 1 l).flatten = l by simp]
      · have e : l = [] := List.eq_nil_of_length_eq_zero h2
        subst e
        show S [] = S (List.replicate n []).flatten
        rw [show (List.replicate n ([] : List Nat)).flatten = [] by simp]
    · rw [if_neg h2, Int.toNat_natCast]
      show (⟨(List.replicate n l.toArray).foldl (· ++ ·) #[]⟩ : Str) = S (List.replicate n l).flatten
      rw [S_eq ⟨(List.replicate n l.toArray).foldl (· ++ ·) #[]⟩, reps_list]
theorem mul_ok {l : List Nat} {n : Nat} (hl : l.length ≤ 1000) (hn : n ≤ 1000) : MulOk (S l) (n : Int) := by
  refine ⟨?_, fun h1 _ => ?_, fun h1 _ => ?_⟩
  · simp
    omega
  · rw [S_len]
    have h2 : (1 : Int) ≤ n := by omega
    have h3 : (1000 : Int) ≤ (2 ^ 63 - 1) / n := by
      rw [Int.le_ediv_iff_mul_le (by omega)]
      omega
    omega
  · rw [S_len, Int.toNat_natCast]
    have h3 : l.length * n ≤ 1000 * 1000 := Nat.mul_le_mul hl hn
    have h2 : sizeLine = 16777216 := sizeLine_eq
    show decide (l.length * n > sizeLine) = false
    exact decide_eq_false (by omega)
theorem op_mulS {X : Cx} : OpR X (binaryOp .Mult) (fun x y H Q => ∃ (l : List Nat) (n : Nat), x = .str (S l) ∧ y = .int (n : Int) ∧ l.length ≤ 1000 ∧ n ≤ 1000 ∧ Q (.str (S (List.replicate n l).flatten)) H) := by
  intro pins s σ H x y v u Q I rx ry h
  obtain ⟨l, n, rfl, rfl, h1, h2, q⟩ := h
  obtain ⟨t, rfl⟩ := rx
  obtain ⟨t', rfl⟩ := ry
  refine SB.mul (mul_ok h1 h2) fun t' k => ⟨.str (Txt.mul (S l) (n : Int)), H, I.tok _, ⟨_, rfl⟩, ?_⟩
  rw [S_mul]
  exact q
theorem ev_mulS {σ : L2.St} {H : Hp} {ta tb : TE} {l : List Nat} {n : Nat} (h : Ev ta σ H (.str (S l))) (h2 : Ev tb σ H (.int (n : Int))) (hl : l.length ≤ 1000) (hn : n ≤ 1000) :
    Ev (tOp (fun x y H Q => ∃ (l : List Nat) (n : Nat), x = .str (S l) ∧ y = .int (n : Int) ∧ l.length ≤ 1000 ∧ n ≤ 1000 ∧ Q (.str (S (List.replicate n l).flatten)) H) ta tb) σ H (.str (S (List.replicate n l).flatten)) := fun H1 e Q q =>
  h H1 e _ fun H2 e2 => h2 H2 (e.trans e2) _ fun H3 e3 => ⟨l, n, rfl, rfl, hl, hn, q H3 (e2.trans e3)⟩
end TY
namespace TY
open PySem PySem.Spec PyProof.Rows L2 Evl
/-! ### what the laws draw -/
def cellV (ns : List Int) (k : Nat) : Int := ns.getD k 0
def mixV (ns : List Int) (k : Nat) : Int :=
  ((cellV ns k + 7919 * (k : Int) + 1) * 48271 % 2147483647 * ((cellV ns k + 7919 * (k : Int) + 1) * 48271 % 2147483647) + 7 * ((cellV ns k + 7919 * (k : Int) + 1) * 48271 % 2147483647) + (k : Int)) % 2147483629
def drawV (n : Int) (k : Nat) : Int :=
  ((n + 104729 * (k : Int) + 17) * 69621 % 2147483647 * ((n + 104729 * (k : Int) + 17) * 69621 % 2147483647) + 3 * ((n + 104729 * (k : Int) + 17) * 69621 % 2147483647) + (k : Int)) % 2147483629
theorem mixV_pos (ns : List Int) (k : Nat) : 0 ≤ mixV ns k := Int.emod_nonneg _ (by decide)
theorem mixV_lt (ns : List Int) (k : Nat) : mixV ns k < 2147483629 := Int.emod_lt_of_pos _ (by decide)
theorem drawV_pos (n : Int) (k : Nat) : 0 ≤ drawV n k := Int.emod_nonneg _ (by decide)
def tbl : List Str := ["a", "ab", "ab", "abc", "abcd", "xyz", "bm", "abcdefghijklmnopqrstuvwxyz"]
/-- letters a to z -/
def Low (l : List Nat) : Prop := ∀ c ∈ l, 97 ≤ c ∧ c ≤ 122
def lettersV (n : Int) : List Nat := (tbl.getD (n % 8).toNat "").cps.toList
def manyV (n : Int) (m : Nat) : Nat := (n / 8 % ((m : Int) + 1)).toNat
def baseV (n : Int) (c : Nat) : List Nat := (List.range c).map fun k => (lettersV n).getD (drawV n k % ((lettersV n).length : Int)).toNat 0
def byV (n : Int) (c : Nat) : Nat := (1 + n / 2400 % ((c : Int) - 1)).toNat
def textV (n : Int) (m : Nat) : List Nat :=
  if (decide (n / 800 % 3 = 1) && decide ((1 : Int) < (manyV n m : Int))) = true then ((List.replicate (manyV n m) ((baseV n (manyV n m)).take (byV n (manyV n m)))).flatten).take (manyV n m) else baseV n (manyV n m)
theorem tbl_ok : ∀ x ∈ tbl, 0 < x.cps.toList.length ∧ x.cps.toList.length ≤ 26 ∧ ∀ c ∈ x.cps.toList, 97 ≤ c ∧ c ≤ 122 := by decide +kernel
theorem tbl_at {n : Int} (hn : 0 ≤ n) : tbl[(n % 8).toNat]? = some (S (lettersV n)) := by
  have h1 : (n % 8).toNat < 8 := by omega
  have h2 : (n % 8).toNat < tbl.length := h1
  have h3 : tbl[(n % 8).toNat]? = some (tbl[(n % 8).toNat]) := List.getElem?_eq_getElem h2
  rw [h3]
  show some _ = some (⟨((tbl.getD (n % 8).toNat "").cps.toList).toArray⟩ : Str)
  rw [List.getD_eq_getElem?_getD, h3]
  rfl
theorem letters_ok {n : Int} (hn : 0 ≤ n) : 0 < (lettersV n).length ∧ (lettersV n).length ≤ 26 ∧ Low (lettersV n) := tbl_ok _ (List.mem_of_getElem? (tbl_at hn))
theorem baseV_len (n : Int) (c : Nat) : (baseV n c).length = c := by simp [baseV]
theorem draw_ix {n : Int} (hn : 0 ≤ n) (k : Nat) : ∃ j : Nat, drawV n k % ((lettersV n).length : Int) = (j : Int) ∧ (lettersV n)[j]? = some ((lettersV n).getD (drawV n k % ((lettersV n).length : Int)).toNat 0) := by
  have h := letters_ok hn
  have h1 : 0 ≤ drawV n k % ((lettersV n).length : Int) := Int.emod_nonneg _ (by omega)
  have h2 : drawV n k % ((lettersV n).length : Int) < ((lettersV n).length : Int) := Int.emod_lt_of_pos _ (by omega)
  refine ⟨(drawV n k % ((lettersV n).length : Int)).toNat, by omega, ?_⟩
  have h3 : (drawV n k % ((lettersV n).length : Int)).toNat < (lettersV n).length := by omega
  rw [List.getD_eq_getElem?_getD, List.getElem?_eq_getElem h3]
  rfl
theorem baseV_low {n : Int} (hn : 0 ≤ n) (c : Nat) : Low (baseV n c) := by
  intro x hx
  obtain ⟨k, _, rfl⟩ := List.mem_map.mp hx
  obtain ⟨j, _, hj⟩ := draw_ix hn k
  exact (letters_ok hn).2.2 _ (List.mem_of_getElem? hj)
theorem manyV_le {n : Int} (hn : 0 ≤ n) (m : Nat) : manyV n m ≤ m := by
  have h2 : n / 8 % ((m : Int) + 1) < (m : Int) + 1 := Int.emod_lt_of_pos _ (by omega)
  unfold manyV
  omega
theorem manyV_int {n : Int} (hn : 0 ≤ n) (m : Nat) : n / 8 % ((m : Int) + 1) = (manyV n m : Int) := by
  have h1 : 0 ≤ n / 8 % ((m : Int) + 1) := Int.emod_nonneg _ (by omega)
  unfold manyV
  omega
theorem byV_int {n : Int} (hn : 0 ≤ n) {c : Nat} (hc : 1 < c) : 1 + n / 2400 % ((c : Int) - 1) = (byV n c : Int) := by
  have h1 : 0 ≤ n / 2400 % ((c : Int) - 1) := Int.emod_nonneg _ (by omega)
  unfold byV
  omega
theorem textV_len {n : Int} (hn : 0 ≤ n) (m : Nat) : (textV n m).length ≤ m := by
  have h := manyV_le hn m
  unfold textV
  split
  · rw [List.length_take]
    omega
  · rw [baseV_len]
    exact h
theorem textV_low {n : Int} (hn : 0 ≤ n) (m : Nat) : Low (textV n m) := by
  unfold textV
  split
  · intro x hx
    have h1 := List.mem_of_mem_take hx
    obtain ⟨l, hl, hx⟩ := List.mem_flatten.mp h1
    rw [List.eq_of_mem_replicate hl] at hx
    exact baseV_low hn _ x (List.mem_of_mem_take hx)
  · exact baseV_low hn _
/-- numbers of up to 63 cells, as the laws ask them -/
def spCell (K : PySem.W.Frag) : Sp := fun vs H Q _ => ∃ (a : Addr) (ns : List Int) (k : Nat), vs = [.ref a, .int (k : Int)] ∧ SqL K H a (ns.map V.int) ∧ ∀ H', Ex H H' → Q (.int (cellV ns k)) H'
def spMixed (K : PySem.W.Frag) : Sp := fun vs H Q _ => ∃ (a : Addr) (ns : List Int) (k : Nat), vs = [.ref a, .int (k : Int)] ∧ SqL K H a (ns.map V.int) ∧ k ≤ 1000 ∧ ∀ H', Ex H H' → Q (.int (mixV ns k)) H'
def spDrawn : Sp := fun vs H Q _ => ∃ (n : Int) (k : Nat), vs = [.int n, .int (k : Int)] ∧ k ≤ 1000 ∧ ∀ H', Ex H H' → Q (.int (drawV n k)) H'
def spText : Sp := fun vs H Q _ => ∃ (n : Int) (m : Nat), vs = [.int n, .int (m : Int)] ∧ 0 ≤ n ∧ m ≤ 100 ∧ ∀ H', Ex H H' → Q (.str (S (textV n m))) H'
section
variable {K : PySem.W.Frag} {H : Hp} {a : Addr} {ns : List Int}
theorem sv_cell {k : Nat} (h : SqL K H a (ns.map V.int)) : SpV (spCell K) [.ref a, .int (k : Int)] H (.int (cellV ns k)) := fun H1 e Q q E => ⟨a, ns, k, rfl, ex_l e h, q⟩
theorem sv_mixed {k : Nat} (h : SqL K H a (ns.map V.int)) (hk : k ≤ 1000) : SpV (spMixed K) [.ref a, .int (k : Int)] H (.int (mixV ns k)) := fun H1 e Q q E => ⟨a, ns, k, rfl, ex_l e h, hk, q⟩
theorem sv_drawn {n : Int} {k : Nat} (hk : k ≤ 1000) : SpV spDrawn [.int n, .int (k : Int)] H (.int (drawV n k)) := fun H1 e Q q E => ⟨n, k, rfl, hk, q⟩
theorem sv_text {n : Int} {m : Nat} (hn : 0 ≤ n) (hm : m ≤ 100) : SpV spText [.int n, .int (m : Int)] H (.str (S (textV n m))) := fun H1 e Q q E => ⟨n, m, rfl, hn, hm, q⟩
theorem cell_in {k : Nat} (h : k < ns.length) : atI (ns.map V.int) ((k : Nat) : Int) = some (V.int (cellV ns k)) := by
  refine atI_nat ?_
  rw [List.getElem?_map, List.getElem?_eq_getElem h]
  unfold cellV
  rw [List.getD_eq_getElem?_getD, List.getElem?_eq_getElem h]
  rfl
end
end TY
namespace TY
open PySem PySem.Spec PyProof.Rows L2 Evl
/-! ### data of ints and texts -/
def dI : PyData → Int | .int i => i | _ => 0
def dN (d : PyData) : Nat := (dI d).toNat
def dS : PyData → List Nat | .str x => x.cps.toList | _ => []
def DIs (ns : List Int) : List PyData := ns.map .int
theorem can_ints : ∀ ns : List Int, PyData.canLayAll0 (ns.map .int) = true
  | [] => by simp [PyData.canLayAll0]
  | n :: ns => by simp [PyData.canLayAll0, PyData.canLay0, can_ints ns]
theorem dep_ints : ∀ ns : List Int, PyData.depthAll (ns.map .int) = 0
  | [] => by simp [PyData.depthAll]
  | n :: ns => by simp [PyData.depthAll, PyData.depth, dep_ints ns]
theorem shaped_ints (ns : List Int) : SeqAt.shaped (.tuple (ns.map .int)) = true := by
  simp [SeqAt.shaped, PyData.canLay0, PyData.depth, can_ints, dep_ints]
theorem shaped_intsL (ns : List Int) : SeqAt.shaped (.list (ns.map .int)) = true := by
  simp [SeqAt.shaped, PyData.canLay0, PyData.depth, can_ints, dep_ints]
theorem shaped_nil : SeqAt.shaped (.list []) = true := shaped_intsL []
theorem eqv_ints : ∀ xs ys : List Int, PyData.eqvAll (xs.map .int) (ys.map .int) = decide (xs = ys)
  | [], [] => by simp [PyData.eqvAll]
  | [], y :: ys => by simp [PyData.eqvAll]
  | x :: xs, [] => by simp [PyData.eqvAll]
  | x :: xs, y :: ys => by
    rw [List.map_cons, List.map_cons, PyData.eqvAll, eqv_ints xs ys, PyData.eqv]
    by_cases h1 : x = y
    · by_cases h2 : xs = ys
      · simp [h1, h2]
      · simp [h1, h2]
    · simp [h1]
theorem eqv_tints (xs ys : List Int) : PyData.eqv (.tuple (xs.map .int)) (.tuple (ys.map .int)) = decide (xs = ys) := by
  rw [PyData.eqv, eqv_ints]
theorem eqv_nil (xs : List PyData) : PyData.eqv (.list xs) (.list []) = decide (xs = []) := by
  rw [PyData.eqv]
  cases xs with
  | nil => simp [PyData.eqvAll]
  | cons x r => simp [PyData.eqvAll]
/-! ### texts -/
theorem endswith_S (a b : List Nat) : Txt.endswith (S a) (S b) = decide (b.length ≤ a.length ∧ a.drop (a.length - b.length) = b) := by
  unfold Txt.endswith
  rw [S_len, S_len, Nat.zero_add]
  by_cases h : b.length ≤ a.length
  · have e : Builtin.Str.subAt (S a) (S b) (a.length - b.length) = decide (a.drop (a.length - b.length) = b) := by
      unfold Builtin.Str.subAt
      rw [S_len]
      have e1 : (S a).cps.extract (a.length - b.length) (a.length - b.length + b.length) = (a.drop (a.length - b.length)).toArray := by
        show a.toArray.extract (a.length - b.length) (a.length - b.length + b.length) = _
        rw [Nat.sub_add_cancel h, List.extract_toArray]
        congr 1
        rw [List.extract_eq_take_drop, List.take_of_length_le (by rw [List.length_drop]; omega)]
      rw [e1]
      show ((a.drop (a.length - b.length)).toArray == b.toArray) = _
      by_cases h2 : a.drop (a.length - b.length) = b
      · rw [h2]
        simp
      · rw [decide_eq_false h2, beq_eq_false_iff_ne]
        intro q
        exact h2 (by have := congrArg Array.toList q; simpa using this)
    rw [e, decide_eq_true h]
    by_cases h2 : a.drop (a.length - b.length) = b
    · simp [h, h2]
    · simp [h2]
  · simp [h]
section
variable {K : PySem.W.Frag} {σ : L2.St} {H : Hp} {ta tb te : TE} {tA : TA} {x : V}
theorem ev_ends {a b : List Nat} (h : Ev ta σ H (.str (S a))) (h2 : Ev tb σ H (.str (S b))) : Ev (tM1 (fun x xs H Q => ∃ a b, x = .str a ∧ xs = [.str b] ∧ Q (.bl (Txt.endswith a b)) H) ta tb) σ H (.bl (decide (b.length ≤ a.length ∧ a.drop (a.length - b.length) = b))) := fun H1 e Q q =>
  h H1 e _ fun H2 e2 => ⟨⟨_, rfl⟩, h2 H2 (e.trans e2) _ fun H3 e3 => ⟨_, _, rfl, rfl, by rw [endswith_S]; exact q H3 (e2.trans e3)⟩⟩
/-! ### isinstance -/
theorem ev_isi {T C : String} {b : Bool} (h : EvA tA σ H [x, .ty C]) (ht : ∀ H', Ex H H' → TyX K H' x (.type T)) (hb : kitB T C = some b) (hc : ClsV (.ty C) (.type C)) : Ev (tCB (rIsi K) tA) σ H (.bl b) := fun H1 e Q q =>
  h H1 e _ fun H2 e2 => ⟨x, .ty C, .type T, .type C, b, rfl, hc, ht H2 (e.trans e2), kit_ty hb, q H2 e2⟩
theorem ev_intB {b : Bool} (h : Ev te σ H (.bl b)) : Ev (tCB (fun xs H Q => (∃ i, xs = [.int i] ∧ Q (.int i) H) ∨ ∃ k, xs = [.bl k] ∧ Q (.int (if k then 1 else 0)) H) (tCons te tNil)) σ H (.int (if b then 1 else 0)) := fun H1 e Q q =>
  h H1 e _ fun H2 e2 => .inr ⟨b, rfl, q H2 e2⟩
/-! ### a number among numbers, a text among texts -/
theorem inV_ints (x : Int) : ∀ ns : List Int, inV (.int x) (ns.map V.int) = decide (x ∈ ns)
  | [] => by simp [inV]
  | n :: ns => by
    have ih := inV_ints x ns
    unfold inV at ih ⊢
    rw [List.map_cons, List.any_cons, ih]
    show ((n == x) || _) = _
    by_cases h : n = x
    · subst h
      simp
    · have h2 : ¬ x = n := fun z => h z.symm
      simp [h, h2]
theorem flat_ints : ∀ ns : List Int, (ns.map V.int).all flatV = true
  | [] => rfl
  | n :: ns => by
    rw [List.map_cons, List.all_cons, flat_ints ns]
    rfl
theorem inV_strs (x : Str) : ∀ ns : List Str, inV (.str x) (ns.map V.str) = decide (x ∈ ns)
  | [] => by simp [inV]
  | n :: ns => by
    have ih := inV_strs x ns
    unfold inV at ih ⊢
    rw [List.map_cons, List.any_cons, ih]
    show ((n == x) || _) = _
    by_cases h : n = x
    · subst h
      simp
    · have h2 : ¬ x = n := fun z => h z.symm
      simp [h, h2]
theorem flat_strs : ∀ ns : List Str, (ns.map V.str).all flatV = true
  | [] => rfl
  | n :: ns => by
    rw [List.map_cons, List.all_cons, flat_strs ns]
    rfl
theorem ev_inTI {x : Int} {ns : List Int} (h : Ev ta σ H (.int x)) (h2 : EvD tb σ H (.tuple (ns.map .int))) : Ev (tOp (rIn K false) ta tb) σ H (.bl (decide (x ∈ ns))) := fun H1 e Q q =>
  h H1 e _ fun H2 e2 => h2 H2 (e.trans e2) _ fun v H3 e3 hv => by
    obtain ⟨a, xs, rfl, h3, h4⟩ := hv.tup_
    cases h4.ints
    exact ⟨a, _, rfl, .inr (st_of h3), rfl, flat_ints ns, by
      show Q (.bl (inV (.int x) (ns.map V.int))) H3
      rw [inV_ints]
      exact q H3 (e2.trans e3)⟩
theorem ev_niTI {x : Int} {ns : List Int} (h : Ev ta σ H (.int x)) (h2 : EvD tb σ H (.tuple (ns.map .int))) : Ev (tOp (rIn K true) ta tb) σ H (.bl (!decide (x ∈ ns))) := fun H1 e Q q =>
  h H1 e _ fun H2 e2 => h2 H2 (e.trans e2) _ fun v H3 e3 hv => by
    obtain ⟨a, xs, rfl, h3, h4⟩ := hv.tup_
    cases h4.ints
    exact ⟨a, _, rfl, .inr (st_of h3), rfl, flat_ints ns, by
      show Q (.bl (!inV (.int x) (ns.map V.int))) H3
      rw [inV_ints]
      exact q H3 (e2.trans e3)⟩
theorem ev_inLS {x : Str} {ns : List Str} {p : Addr} (h : Ev ta σ H (.str x)) (h2 : Ev tb σ H (.ref p)) (hp : H p = some (.lst (ns.map V.str))) : Ev (tOp (rIn K false) ta tb) σ H (.bl (decide (x ∈ ns))) := fun H1 e Q q =>
  h H1 e _ fun H2 e2 => h2 H2 (e.trans e2) _ fun H3 e3 => ⟨p, _, rfl, .inl (sq_of (((e.trans e2).trans e3) _ _ hp)), rfl, flat_strs ns, by
      show Q (.bl (inV (.str x) (ns.map V.str))) H3
      rw [inV_strs]
      exact q H3 (e2.trans e3)⟩
theorem ev_niLS {x : Str} {ns : List Str} {p : Addr} (h : Ev ta σ H (.str x)) (h2 : Ev tb σ H (.ref p)) (hp : H p = some (.lst (ns.map V.str))) : Ev (tOp (rIn K true) ta tb) σ H (.bl (!decide (x ∈ ns))) := fun H1 e Q q =>
  h H1 e _ fun H2 e2 => h2 H2 (e.trans e2) _ fun H3 e3 => ⟨p, _, rfl, .inl (sq_of (((e.trans e2).trans e3) _ _ hp)), rfl, flat_strs ns, by
      show Q (.bl (!inV (.str x) (ns.map V.str))) H3
      rw [inV_strs]
      exact q H3 (e2.trans e3)⟩
/-! ### texts put together -/
theorem foldl_glue : ∀ (ls : List (List Nat)) (z : List Nat), (ls.map S).foldl (fun acc p => acc ++ (S []).cps ++ p.cps) z.toArray = (z ++ ls.flatten).toArray
  | [], z => by simp
  | l :: ls, z => by
    rw [List.map_cons, List.foldl_cons]
    have e : z.toArray ++ (S []).cps ++ (S l).cps = (z ++ l).toArray := by
      show z.toArray ++ ([] : List Nat).toArray ++ l.toArray = _
      simp
    rw [e, foldl_glue ls (z ++ l)]
    simp
theorem join_S : ∀ ls : List (List Nat), Txt.join (S []) (ls.map S) = S ls.flatten
  | [] => rfl
  | l :: ls => by
    show (⟨(ls.map S).foldl (fun acc p => acc ++ (S []).cps ++ p.cps) l.toArray⟩ : Str) = S (l :: ls).flatten
    rw [foldl_glue]
    rfl
theorem ev_join {ls : List (List Nat)} (h : Ev te σ H (.str (S []))) (h2 : EvN tb σ H (ls.map fun l => .str (S l))) (hz : ls.flatten.length ≤ 100000) : Ev (tM1 (fun x xs H Q => ∃ a p, ∃ ys : List Str, x = .str a ∧ xs = [.ref p] ∧ (SqL K H p (ys.map V.str) ∨ SqT K H p (ys.map V.str)) ∧
      (ys.map (·.length)).sum + ys.length * a.length ≤ 16777216 ∧ Q (.str (Txt.join a ys)) H) te tb) σ H (.str (S ls.flatten)) := fun H1 e Q q =>
  h H1 e _ fun H2 e2 => ⟨⟨_, rfl⟩, h2 H2 (e.trans e2) _ fun p xs H3 hp e3 h3 h4 => by
    have h5 : TdAll H3 xs ((ls.map S).map PyData.str) := by
      rw [List.map_map]
      exact h4
    cases h5.strs
    refine ⟨S [], p, ls.map S, rfl, rfl, .inl (sq_of h3), ?_, by rw [join_S]; exact q H3 (e2.trans e3)⟩
    have e5 : ((ls.map S).map (·.length)).sum = ls.flatten.length := by
      rw [List.length_flatten, List.map_map]
      congr 1
    rw [e5]
    have e6 : (S []).length = 0 := rfl
    rw [e6]
    omega⟩
/-! ### a range with a step -/
theorem ei_step {tA : TA} {a b c m : Nat} (h : EvA tA σ H [.int (a : Int), .int (b : Int), .int (c : Int)]) (hc : 0 < c) (hb : b ≤ 40000) (ha : a ≤ 40000) (hcz : c ≤ 40000) (hm : m = if a < b then (b - a - 1) / c + 1 else 0) :
    EvI (iRng3 tA) σ H ((List.range m).map fun (i : Nat) => PyData.int ((a : Int) + (i : Int) * (c : Int))) := fun H1 e R q =>
  h H1 e _ fun H2 e2 => by
    have hsz : Builtin.Range.rangeSize (a : Int) (b : Int) (c : Int) = (m : Int) := by
      unfold Builtin.Range.rangeSize
      rw [if_pos (by omega), hm]
      by_cases hab : a < b
      · rw [if_pos hab, if_pos (by omega)]
        have e0 : (b : Int) - (a : Int) - 1 = ((b - a - 1 : Nat) : Int) := by omega
        rw [e0]
        rfl
      · rw [if_neg hab, if_neg (by omega)]
        rfl
    have hm40 : m ≤ 40001 := by
      rw [hm]
      split
      · have := Nat.div_le_self (b - a - 1) c
        omega
      · omega
    refine ⟨(a : Int), (b : Int), (c : Int), m, rfl, ⟨by omega, by omega, ?_, hsz⟩, ?_⟩
    · unfold Builtin.Range.small
      rw [hsz]
      simp only [Builtin.Range.rangeFitsLong, Bool.and_eq_true, Bool.or_eq_true, decide_eq_true_eq, beq_iff_eq]
      rw [if_pos (by omega)]
      refine ⟨⟨⟨⟨⟨by omega, by omega⟩, ⟨by omega, by omega⟩⟩, ⟨by omega, by omega⟩⟩, ⟨by omega, by omega⟩⟩, ?_⟩
      first
        | exact .inr (by omega)
        | (right; simp; omega)
    · refine q _ (fun _ => True) H2 e2 (fun _ _ => trivial) ?_
      have hl : ((List.range m).map fun (i : Nat) => PyData.int ((a : Int) + (i : Int) * (c : Int))).length = m := by simp
      rw [hl]
      refine walk_rangeC.mono (fun _ _ => trivial) fun i H x H' hi _ y => ?_
      obtain ⟨rfl, rfl⟩ := y
      exact ⟨Ex.refl _, .int ((a : Int) + (i : Int) * (c : Int)), by simp [hi], .int _⟩
end
end TY
namespace TY
open PySem PySem.Spec PyProof.Rows L2 Evl
/-! ### list(a text) -/
section
variable {prog : Program} {w : World} {A : Around} {E : Value → Shared → Prop} {s : Shared}
theorem list_str_raw {Q : Value → Shared → Prop} {x : Str} {t : Tok} (hh : A.handled = none) (hn : x.cps.size ≤ sizeLine)
    (hQ : ∀ (h' : Heap) (tk : Nat) (acc' : Array Value) (c' : Nat), (∀ b o, s.heap.get? b = some o → h'.get? b = some o) → h'.get? s.heap.objs.size = some { cls := .type "list", dict := none, data := .seq acc' c', slots := #[] } → ItemsOf (SignAt x) acc' x.cps.size → Q (.ref s.heap.objs.size) { s with heap := h', toks := tk }) :
    wpAny (model prog w) A (call (.type "list") [.str x t]) Q E s := by
  refine callType_codes (Q₁ := fun obj s₁ => obj = .ref s.heap.objs.size ∧ s₁ = { s with heap := s.heap.push { cls := .type "list", data := .seq #[] } }) PySem.F.called_list (PySem.F.typeCall_list_1 _) PySem.F.entry_list_init
    (code_list_new _ ⟨rfl, rfl⟩) fun obj s₁ h₁ => ?_
  obtain ⟨rfl, rfl⟩ := h₁
  have hS : (s.heap.push { cls := .type "list", data := .seq #[] }).get? s.heap.objs.size = some { cls := .type "list", data := .seq #[] } := Heap.get?_push_size _ rfl
  refine ⟨⟨_, hS, rfl⟩, PySem.F.args_list_init_2 _ _, ?_⟩
  show wpAny _ _ (do let old ← Builtin.List.listItems (.ref s.heap.objs.size); Builtin.List.listUpdate (.ref s.heap.objs.size) (fun _ => #[]); letGo old.toList.reverse; Builtin.List.listExtendWith (.ref s.heap.objs.size) (.str x t) .none) _ _ _
  refine wpAny_bind ?_
  unfold Builtin.List.listItems
  refine wpAny_bind (wpAny_seqItems hS rfl (wpAny_pure ?_))
  show wpAny _ _ (updateSeq s.heap.objs.size (fun _ => #[]) >>= fun _ => letGo (#[] : Array Value).toList.reverse >>= fun _ => Builtin.List.listExtendWith (.ref s.heap.objs.size) (.str x t) .none) _ _ _
  refine wpAny_bind (wpAny_updateSeq hS rfl ?_)
  have hS₂ := Heap.get?_update_self (Obj.mapSeq (fun _ => (#[] : Array Value))) hS rfl
  generalize hH : (s.heap.push { cls := .type "list", data := .seq #[] }).update s.heap.objs.size (Obj.mapSeq (fun _ => (#[] : Array Value))) = H at hS₂ ⊢
  have oth : ∀ b o, s.heap.get? b = some o → H.get? b = some o := fun b o e => by
    have hb : b ≠ s.heap.objs.size := Nat.ne_of_lt (Heap.lt_size e)
    rw [← hH]
    exact (Heap.get?_update_other _ _ (Ne.symm hb)).trans (Heap.get?_push_of_some _ e)
  refine wpAny_bind (wpAny_letGo ?_)
  unfold Builtin.List.listExtendWith
  refine wpAny_bind (wpAny_typeOf (T := "str") (v := .str x t) rfl ?_)
  have h1 : Builtin.List.listSameRef (.ref s.heap.objs.size) (.str x t) = false := rfl
  have h2 : (Value.type "str" == Value.type "list") = false := by decide
  have h3 : (Value.type "str" == Value.type "tuple") = false := by decide
  simp only [h1, h2, h3, Bool.or_false, Bool.false_eq_true, if_false]
  refine wpAny_bind (wpAny_pyIter_str fun o St W hst => ?_)
  refine wpAny_bind (wpAny_holding ?_)
  unfold Builtin.List.listLengthHint
  refine wpAny_bind (wpAny_specialOf (T := "str") (v := .str x t) rfl PySem.F.str_len ?_)
  wp_delta
  refine wpAny_bind (wpAny_isInstance (T := "str") (v := .str x t) (b := true) rfl (by rw [isSubtype_type]; kernel_rfl) ?_)
  show wpAny _ A.in1.in1 (typeOf (Value.str x t) >>= _) _ _ _
  refine wpAny_bind (wpAny_typeOf (T := "str") (v := .str x t) rfl ?_)
  refine wpAny_pure ?_
  rw [if_neg (by decide)]
  have hlt : s.heap.objs.size < H.objs.size := Heap.lt_size hS₂
  have hSf : s.heap.objs.size ∉ [H.objs.size] := fun hm => absurd hlt (by rw [← List.mem_singleton.mp hm]; exact Nat.lt_irrefl _)
  have hS₃ := Heap.get?_push_of_some o hS₂
  refine wpAny_pure ⟨plainId_quiet PySem.F.plain_extend_loop _, codeAny_extend_loopS (W A.in1.in1 hh).toS hn _ hSf _ x.cps.size 0 _ _ _ rfl (Nat.zero_le _) hst hS₃ (ItemsOf.nil _) fun s' acc' c' hm hS' hacc => ?_⟩
  rw [Moved.eq_with hm]
  refine ⟨rfl, hQ s'.heap s'.toks acc' c' (fun b ob e => hm.heap b ob (fun hb => ?_) (Heap.get?_push_of_some _ (oth b ob e))) hS' hacc⟩
  have hlt2 := Heap.lt_size e
  rcases List.mem_cons.mp hb with h | h
  · exact absurd hlt2 (h ▸ Nat.lt_irrefl _)
  · rw [List.mem_singleton.mp h] at hlt2
    exact absurd (Nat.lt_trans hlt2 hlt) (Nat.lt_irrefl _)
end
theorem vals_of_items {P : Nat → Value → Prop} {n : Nat} {acc : Array Value} {xs : List V} (h : ItemsOf P acc n) (hn : xs.length = n) (hP : ∀ (j : Nat) (u : Value) (x : V), xs[j]? = some x → P j u → RelV x u) : Vals xs acc.toList := by
  obtain ⟨h1, h2⟩ := h
  have hl : acc.toList.length = xs.length := by
    rw [Array.length_toList, h1, hn]
  have key : ∀ (xs : List V) (us : List Value), us.length = xs.length → (∀ (j : Nat) (u : Value) (x : V), us[j]? = some u → xs[j]? = some x → RelV x u) → Vals xs us := by
    intro xs
    induction xs with
    | nil =>
      intro us hu _
      cases us with
      | nil => exact .nil
      | cons _ _ => simp at hu
    | cons x xs ih =>
      intro us hu hr
      cases us with
      | nil => simp at hu
      | cons u us => exact .cons (hr 0 u x rfl rfl) (ih us (by simpa using hu) fun j u' x' a b => hr (j + 1) u' x' (by simpa using a) (by simpa using b))
  refine key xs acc.toList hl fun j u x hu hx => hP j u x hx (h2 j u ?_)
  rw [← hu]
  exact Array.getElem?_toList.symm
def rListStr : List V → Hp → VK → Prop := fun xs H Q => ∃ l : List Nat, xs = [.str (S l)] ∧ l.length ≤ 100000 ∧ ∀ p, H p = none → Q (.ref p) (upd H p (.lst (l.map fun c => .str (S [c]))))
theorem call_list_str {X : Cx} (hc : X.calm = true) : CallR X (.type "list") rListStr := by
  intro pins s σ H xs us Q I r h
  obtain ⟨l, rfl, hz, q⟩ := h
  obtain ⟨u, rfl, t, rfl⟩ := vals1 r
  refine list_str_raw (I.ok.hd hc) (by show l.toArray.size ≤ _; rw [List.size_toArray]; exact sz_of hz) fun h' tk acc' c' hk he hi => ?_
  refine ⟨.ref s.heap.objs.size, _, I.laid (t' := tk) hk (Nat.le_refl _) (show ObjOk X.prog X.w _ h' _ (.lst _) from ⟨by rw [List.length_map]; exact sz_of hz, acc'.toList, c', vals_of_items hi ?_ ?_, by rw [he]⟩), rfl, q _ (I.hok.fresh (Nat.le_refl _))⟩
  · rw [List.length_map]
    exact List.size_toArray.symm
  · intro j u x hx hu
    obtain ⟨c, t', hc, rfl⟩ := hu
    rw [List.getElem?_map] at hx
    have hc' : l[j]? = some c := by
      rw [← hc]
      exact List.getElem?_toArray.symm
    rw [hc'] at hx
    cases hx
    exact ⟨_, rfl⟩
theorem en_listStr {σ : L2.St} {H : Hp} {te : TE} {l : List Nat} (h : Ev te σ H (.str (S l))) (hz : l.length ≤ 100000) : EvN (tCB rListStr (tCons te tNil)) σ H (l.map fun c => .str (S [c])) := fun H1 e Q q =>
  h H1 e _ fun H2 e2 => ⟨l, rfl, hz, fun p hp => q p _ _ (fresh_back e2 hp) (e2.trans (Ex.new hp)) upd_same (by
    have := TdAll.of_strs (H := upd H2 p (.lst (l.map fun c => .str (S [c])))) (l.map fun c => S [c])
    rw [List.map_map, List.map_map] at this
    exact this)⟩
end TY
namespace TY
open PySem PySem.Spec PyProof.Rows L2 Evl
/-! ### addresses of one's own -/
section
variable {X : Cx} {pins : List (Addr × Obj)} {σ : L2.St} {H : Hp} {s : Shared}
def Own (X : Cx) (pins : List (Addr × Obj)) (b : Addr) : Prop := X.s_0.heap.objs.size ≤ b ∧ b ≠ X.env.locals ∧ (∀ x c, X.env.cells.lookup x = some c → c ≠ b) ∧ (∀ p ∈ X.pn ++ pins, p.1 ≠ b)
theorem own_new (I : Inv X pins σ H s) {b : Addr} (hb : s.heap.objs.size ≤ b) : Own X pins b ∧ H b = none ∧ b ∉ X.fs := by
  have lt : ∀ {c o}, s.heap.get? c = some o → c ≠ b := fun {c o} e z => by
    rw [z] at e
    exact absurd (Nat.lt_of_lt_of_le (Heap.lt_size e) hb) (Nat.lt_irrefl _)
  refine ⟨⟨Nat.le_trans I.sz hb, fun z => ?_, fun x c e => ?_, fun p hp => lt (I.pin p hp).1⟩, I.hok.fresh hb, I.nofs hb⟩
  · have h1 := I.lt
    rw [← z] at h1
    exact absurd (Nat.lt_of_lt_of_le h1 hb) (Nat.lt_irrefl _)
  · obtain ⟨v, o, ho, _⟩ := I.cell x c e
    exact lt ho
theorem inv_ch {ch : List Addr} {h' : Heap} {t' : Nat} (I : Inv X pins σ H s) (hch : ∀ b ∈ ch, H b = none ∧ Own X pins b) (k : ∀ b o, b ∉ ch → s.heap.get? b = some o → h'.get? b = some o) : Inv X pins σ H { s with heap := h', toks := t' } := by
  have nit : ∀ b u, H b = some u → b ∉ ch := fun b u e z => by
    rw [(hch b z).1] at e
    cases e
  refine I.step (g' := s.gens) (d' := s.drawn) (ch := ch) (fun b hb => ?_) (fun b o _ _ hc e _ => k b o hc e) (fun b o _ _ hc e _ => ⟨o.slots, k b o hc e⟩) (fun _ _ _ _ n => n)
    (fun b o hc e => ⟨o, k b o hc e⟩) (fun _ _ e => e) (fun _ _ _ e => e) (fun b ps e => ⟨#[], by rw [e]; simp⟩) (fun m hm => ?_) (fun b u e => ?_) I.bare
  · obtain ⟨_, h1, h2, h3, h4⟩ := hch b hb
    exact ⟨.inr h1, h2, h3, h4⟩
  · obtain ⟨o, es, ep, ho, r⟩ := hm
    exact ⟨o, es, ep, k _ o (fun z => (hch _ z).2.2.1 rfl) ho, r⟩
  · refine (I.hok b u e).stay (fun c v hc q => k c v ?_ q) (fun _ q => q) fun _ _ q => q
    rcases hc with z | z
    · rw [z]
      exact nit b u e
    · exact nit c _ z
theorem inv_track {a : Addr} {o : HO} (I : Inv X pins σ H s) (hn : H a = none) (ho : Own X pins a) (new : ObjOk X.prog X.w (upd H a o) s.heap a o) : Inv X pins σ (upd H a o) s := by
  have sm : ∀ b u, H b = some u → upd H a o b = some u := fun b u e => by
    rw [upd_ne (ne_of_none e hn)]
    exact e
  refine I.step (h' := s.heap) (g' := s.gens) (d' := s.drawn) (t' := s.toks) (ch := [a]) (fun b hb => ?_) (fun _ _ _ _ _ e _ => e) (fun b o _ _ _ e _ => ⟨o.slots, e⟩) (fun b o hc _ n => by rw [upd_ne (by simpa using hc)]; exact n)
    (fun b o _ e => ⟨o, e⟩) (fun b xs e => sm b _ e) (fun b o u e => sm b _ e) (fun b ps e => ⟨#[], by rw [sm b _ e]; simp⟩) (fun m hm => hm) (fun b u e => ?_) I.bare
  · obtain rfl : b = a := by simpa using hb
    exact ⟨.inr ho.1, ho.2.1, ho.2.2.1, ho.2.2.2⟩
  · by_cases hb : b = a
    · subst hb
      rw [upd_same] at e
      cases e
      exact new
    · rw [upd_ne hb] at e
      exact (I.hok b u e).stay (fun _ _ _ q => q) (fun c q => sm c _ q) fun c xs q => sm c _ q
/-- a def runs within calls of built-ins -/
theorem fn_sub {A' : Around} {k : Nat} {f : Addr} {fd : FuncData} {ps : List Str} {sp : Sp} {us : List Value} {vs : List V} {Q : VK} {E : Value → Shared → Prop}
    (F : FnOk X.prog X.w X.K X.mg X.base CX0 k f fd ps sp) (hr : Room k A') (hf : A'.frames = some X.stack) (hb : Binds X.K fd ps []) (I : Inv X pins σ H s) (r : Vals vs us) (h : sp vs H Q E0) :
    wpAny (model X.prog X.w) A' (call (.ref f) us) (EP X pins σ Q) E s := by
  have hl : us.length = ps.length := by rw [← r.length]; exact F.len _ _ _ _ h
  have e := I.env0
  have bt := hb s us I.kIn (by rw [List.append_nil]; exact hl)
  rw [List.append_nil] at bt
  refine wpAny_call (codeAny_mono (F.run A' X.stack s H ⟨us, []⟩ us vs Q E0 hr ⟨hf, e.mod, e.bs, e.bsz, e.funs, e.frf, e.hok, e.bare⟩ bt r h) fun r s' hq => ?_)
  cases r with
  | error e => exact (show False from hq).elim
  | ok fl =>
    cases fl with
    | ret u => exact I.after hq
    | next => exact False.elim hq
    | brk => exact False.elim hq
    | cont => exact False.elim hq
theorem each_reads (I : Inv X pins σ H s) : ∀ {ks : List V} {us : List Value} {ds : List PyData}, TdAll H ks ds → Vals ks us → PySem.W.EachIs (fun v d => ∃ as, Reads s.heap v d as) us ds
  | _, _, _, .nil, .nil => .nil
  | _, _, _, .cons h hs, .cons r rs => .cons (Dp.reads I _ _ _ h.dp r) (each_reads I hs rs)
theorem each_vals {β : Type} {val : β → V} : ∀ {us : List Value} {bs : List β}, PySem.W.EachIs (fun u b => RelV (val b) u) us bs → Vals (bs.map val) us
  | _, _, .nil => .nil
  | _, _, .cons h hs => .cons h (each_vals hs)
theorem vals_each {β : Type} {val : β → V} : ∀ {us : List Value} {bs : List β}, Vals (bs.map val) us → PySem.W.EachIs (fun u b => RelV (val b) u) us bs
  | _, [], h => by
    cases h
    exact .nil
  | _, b :: bs, h => by
    cases h with
    | cons h hs => exact .cons h (vals_each hs)
theorem seq_nocell {t : String} {vs : Array Value} {n : Nat} (v : Option Value) : (seqObj t vs n).data ≠ Data.cell v := fun z => by cases z
theorem Own.cons {p : Addr × Obj} {b : Addr} (h : Own X pins b) (hp : p.1 ≠ b) : Own X (p :: pins) b := ⟨h.1, h.2.1, h.2.2.1, fun q hq => by
  rcases List.mem_append.mp hq with z | z
  · exact h.2.2.2 q (List.mem_append_left _ z)
  · rcases List.mem_cons.mp z with z | z
    · rw [z]
      exact hp
    · exact h.2.2.2 q (List.mem_append_right _ z)⟩
theorem pins_drop {p : Addr × Obj} (I : Inv X (p :: pins) σ H s) : Inv X pins σ H s := I.pins_of fun q hq => I.pin q (List.mem_append_right _ (List.mem_cons_of_mem _ hq))
theorem pins_add {b : Addr} {o : Obj} (I : Inv X pins σ H s) (h : s.heap.get? b = some o) (hn : H b = none) (ho : Own X pins b) (nf : b ∉ X.fs) (nc : ∀ v, o.data ≠ .cell v) : Inv X ((b, o) :: pins) σ H s := I.pins_of fun q hq => by
  rcases List.mem_cons.mp hq with z | z
  · rw [z]
    exact ⟨h, hn, ho.2.1, nf, nc⟩
  · exact I.pin q (List.mem_append_right _ z)
open PySem.W in
/-- list.sort with a key that runs code of one's own; the list's own object is untracked -/
theorem sort_keyed {A' : Around} {β : Type} {val : β → V} {key : β → PyData} {bs : List β} {a : Addr} {n : Nat} {vs : List Value} {f : Value} {P : PySem.Fin → Shared → Prop} {E : Value → Shared → Prop}
    (I : Inv X pins σ H s) (ha : H a = none) (oa : Own X pins a) (na : a ∉ X.fs) (ho : s.heap.get? a = some (seqObj "list" vs.toArray n)) (rv : Vals (bs.map val) vs) (hZ : vs.length ≤ sizeLine)
    (hal : AllAlike (bs.map key)) (hsk : Sortable (bs.map key)) (hu : ∀ b ∈ bs, A'.units + (key b).depth < cLine)
    (turn : ∀ b ∈ bs, ∀ (pins' : List (Addr × Obj)) (s' : Shared) (H' : Hp) (u : Value), Inv X pins' σ H' s' → Ex H H' → RelV (val b) u → (∀ p ∈ pins, p ∈ pins') → wpAny (model X.prog X.w) A' (call f [u]) (EP X pins' σ fun v H2 => Ex H' H2 ∧ Td H2 v (key b)) (fun _ _ => False) s')
    (h : ∀ (s' : Shared) (H' : Hp) (out : List Value) (c : Nat), Inv X pins σ H' s' → Ex H H' → H' a = none → s'.heap.get? a = some (seqObj "list" out.toArray c) → Vals ((bs.mergeSort (dataLe false key)).map val) out → P (.done (.ret .none)) s') :
    wpAny (model X.prog X.w) A' (ksk_tree a f false) P E s := by
  have hlt : a < s.heap.objs.size := Heap.lt_size ho
  have hlen : bs.length = vs.length := by
    have e := rv.length
    rw [List.length_map] at e
    exact e
  obtain ⟨e1, ho1⟩ : ∃ e1, (s.heap.update a (Obj.mapSeq fun _ => (#[] : Array Value))).get? a = some (seqObj "list" #[] e1) := ⟨_, get?_update_seq ho fun _ => #[]⟩
  have hkS : ((s.heap.update a (Obj.mapSeq fun _ => (#[] : Array Value))).push (seqObj "tuple" vs.toArray 0)).objs.size = s.heap.objs.size + 1 := by rw [size_push', Heap.size_update]
  have sb := Heap.SameBut.update s.heap a (Obj.mapSeq fun _ => (#[] : Array Value))
  unfold ksk_tree
  refine wpAny_bind (listItems_at ho rfl ?_)
  refine wpAny_bind (listUpdate_at ho rfl ?_ (by rw [List.size_toArray]; exact hZ) (Nat.zero_le _))
  refine wpAny_bind (seqEpoch_at ho1 rfl ?_)
  refine wpAny_bind (wpAny_newTuple ?_ (by show vs.length ≤ _; exact hZ))
  refine wpAny_bind (wpAny_newList ?_ (Nat.zero_le _))
  refine wpAny_holding ?_
  have oK := own_new I (b := ((s.heap.update a (Obj.mapSeq fun _ => (#[] : Array Value))).push (seqObj "tuple" vs.toArray 0)).objs.size) (by rw [hkS]; exact Nat.le_succ _)
  have nk : (((s.heap.update a (Obj.mapSeq fun _ => (#[] : Array Value))).push (seqObj "tuple" vs.toArray 0)).push (seqObj "list" #[] 0)).get? ((s.heap.update a (Obj.mapSeq fun _ => (#[] : Array Value))).push (seqObj "tuple" vs.toArray 0)).objs.size = some (seqObj "list" #[] 0) := Heap.get?_push_size _ rfl
  have na1 : (((s.heap.update a (Obj.mapSeq fun _ => (#[] : Array Value))).push (seqObj "tuple" vs.toArray 0)).push (seqObj "list" #[] 0)).get? a = some (seqObj "list" #[] e1) := Heap.get?_push_of_some _ (Heap.get?_push_of_some _ ho1)
  have hka : ((s.heap.update a (Obj.mapSeq fun _ => (#[] : Array Value))).push (seqObj "tuple" vs.toArray 0)).objs.size ≠ a := by
    rw [hkS]
    exact Nat.ne_of_gt (Nat.lt_succ_of_lt hlt)
  have I1 : Inv X pins σ H { s with heap := ((s.heap.update a (Obj.mapSeq fun _ => (#[] : Array Value))).push (seqObj "tuple" vs.toArray 0)).push (seqObj "list" #[] 0) } :=
    inv_ch (t' := s.toks) (ch := [a]) I (fun b hb => by
      obtain rfl : b = a := by simpa using hb
      exact ⟨ha, oa⟩) fun b o hb e => Heap.get?_push_of_some _ (Heap.get?_push_of_some _ ((sb.2 b (by simpa using hb)).trans e))
  generalize ((s.heap.update a (Obj.mapSeq fun _ => (#[] : Array Value))).push (seqObj "tuple" vs.toArray 0)).objs.size = kS at oK nk hka ⊢
  generalize ((s.heap.update a (Obj.mapSeq fun _ => (#[] : Array Value))).push (seqObj "tuple" vs.toArray 0)).push (seqObj "list" #[] 0) = h1 at I1 nk na1 ⊢
  obtain ⟨oK, hK, nK⟩ := oK
  unfold ksk_rest
  refine wpAny_bind (wpAny_rule ?_)
  first
    | rw [List.forIn_toArray]
    | (rw [← Array.forIn_toList]; simp only [List.toList_toArray])
    | rw [← Array.forIn_toList]
  refine wpAny_bind (ksk_fold (fun j s' => ∃ H' kA e ks, Inv X ((a, seqObj "list" #[] e1) :: (kS, seqObj "list" kA e) :: pins) σ H' s' ∧ Ex H H' ∧ Vals ks kA.toList ∧ TdAll H' ks ((bs.map key).take j)) vs 0 _ ?init ?step ?done)
  case init =>
    refine ⟨H, #[], 0, [], ?_, Ex.refl H, .nil, .nil⟩
    exact pins_add (pins_add I1 nk hK oK nK seq_nocell) na1 ha (oa.cons hka) na seq_nocell
  case step =>
    rintro j x s' hx ⟨H', kA, e, ks, Iv, ex, rk, tk⟩
    simp only [Nat.zero_add] at tk ⊢
    have hj : j < bs.length := by
      have := (List.getElem?_eq_some_iff.mp hx).1
      omega
    have hm : (bs.map val)[j]? = some (val bs[j]) := by
      rw [List.getElem?_map, List.getElem?_eq_getElem hj]
      rfl
    obtain ⟨u, hu1, hu2⟩ := rv.get hm
    rw [hx] at hu1
    cases hu1
    have hz : kA.size ≤ vs.length := by
      have q1 := rk.length
      have q2 := tk.len
      rw [List.length_take, List.length_map] at q2
      have q3 : ks.length = kA.toList.length := q1
      have q4 : kA.toList.length = kA.size := Array.length_toList
      have q5 : vs.length = bs.length := hlen.symm
      have q6 : ks.length ≤ bs.length := by
        rw [q2]
        exact Nat.min_le_right _ _
      rw [← q4, ← q3, q5]
      exact q6
    refine wpAny_bind (wpAny_attempt (wpAny_mono (turn bs[j] (List.getElem_mem hj) _ s' H' x Iv ex hu2 (fun p hp => List.mem_cons_of_mem _ (List.mem_cons_of_mem _ hp))) (fun v s'' he => ?_) fun _ _ hF => hF.elim))
    obtain ⟨v2, H2, I2, rv2, e2, td⟩ := he
    try dsimp only
    have pa := I2.pin (a, seqObj "list" #[] e1) (List.mem_append_right _ List.mem_cons_self)
    have pk := I2.pin (kS, seqObj "list" kA e) (List.mem_append_right _ (List.mem_cons_of_mem _ List.mem_cons_self))
    have s1 := Heap.SameBut.update s''.heap kS (Obj.mapSeq (·.push v))
    obtain ⟨c2, hc2⟩ : ∃ c2, (s''.heap.update kS (Obj.mapSeq (·.push v))).get? kS = some (seqObj "list" (kA.push v) c2) := ⟨_, get?_update_seq pk.1 (·.push v)⟩
    have ek : (bs.map key).take (j + 1) = (bs.map key).take j ++ [key bs[j]] := by
      rw [List.take_add_one, List.getElem?_map, List.getElem?_eq_getElem hj]
      rfl
    have ea : (kA.push v).toList = kA.toList ++ [v] := by simp
    refine wpAny_bind (listUpdate_at pk.1 rfl ?_ (Nat.le_trans hz hZ) (Nat.le_trans (Nat.le_of_eq (Array.size_push ..)) (Nat.succ_le_succ (Nat.le_trans hz hZ))))
    refine wpAny_pure ⟨rfl, H2, kA.push v, c2, ks ++ [v2], ?_, ex.trans e2, ?_, ?_⟩
    · have I3 := inv_ch (h' := s''.heap.update kS (Obj.mapSeq (·.push v))) (t' := s''.toks) (ch := [kS]) (pins_drop (pins_drop I2)) (fun b hb => by
        obtain rfl : b = kS := by simpa using hb
        exact ⟨pk.2.1, oK⟩) fun b o hb e => (s1.2 b (by simpa using hb)).trans e
      exact pins_add (pins_add I3 hc2 pk.2.1 oK nK seq_nocell) ((s1.2 a hka.symm).trans pa.1) pa.2.1 (oa.cons hka) na seq_nocell
    · rw [ea]
      exact rk.append (.cons rv2 .nil)
    · rw [ek]
      exact TdAll.append (TdAll.ex e2 tk) (TdAll.one td)
  case done =>
    rintro s' ⟨H', kA, e, ks, Iv, ex, rk, tk⟩
    have tk' : TdAll H' ks (bs.map key) := by
      rw [List.take_of_length_le (by rw [List.length_map]; omega)] at tk
      exact tk
    have pa := Iv.pin (a, seqObj "list" #[] e1) (List.mem_append_right _ List.mem_cons_self)
    have pk := Iv.pin (kS, seqObj "list" kA e) (List.mem_append_right _ (List.mem_cons_of_mem _ List.mem_cons_self))
    have hk' : EachIs (fun v k => ∃ as, Reads s'.heap v k as) kA.toList (bs.map key) := each_reads Iv tk' rk
    have hsz : kA.size = vs.length := by
      have h1 := hk'.length
      rw [Array.length_toList, List.length_map] at h1
      omega
    try dsimp only
    refine wpAny_bind (listItems_at pk.1 rfl ?_)
    refine keyH_end (κ := dataKind s'.heap (bs.map key)) (h₁ := hideAll s'.heap [kS]) (fun b o _ e => of_hideAll _ e) (hideAll_none _ (by simp)) pk.1 pa.1 hka (SortsAt.data hk' hal hsk (fun d hd => ?_)) hsz hZ fun h3 tk3 c k3 n3 => ?_
    · obtain ⟨b, hb, rfl⟩ := List.mem_map.mp hd
      exact hu b hb
    · have ko : KeyedOut false (bs.map key) vs (sortVals (dataKind s'.heap (bs.map key)) false kA.toList vs) := ⟨s'.heap, kA.toList, hal, rfl, hk'⟩
      refine h _ H' _ c (inv_ch (ch := [a, kS]) (pins_drop (pins_drop Iv)) (fun b hb => ?_) fun b o hb e => k3 b o (fun z => hb (by rw [z]; exact List.mem_cons_self)) (hideAll_get _ e (fun z => hb (List.mem_cons_of_mem _ z)))) ex pa.2.1 n3 (each_vals (keyedOut_each key ko (vals_each rv)))
      rcases List.mem_cons.mp hb with z | z
      · rw [z]
        exact ⟨pa.2.1, oa⟩
      · obtain rfl : b = kS := by simpa using z
        exact ⟨pk.2.1, oK⟩
/-! ### what collects to known values -/
def Coll (X : Cx) (x : V) (H : Hp) (xs : List V) : Prop := ∀ (pins : List (Addr × Obj)) (σ : L2.St) (s : Shared) (u : Value), Inv X pins σ H s → RelV x u → ∀ (A' : Around) (E : Value → Shared → Prop) (R : List Value → Shared → Prop), A'.handled = none →
  (∀ (h' : Heap) (tk : Nat) (acc : List Value), (∀ b o, s.heap.get? b = some o → h'.get? b = some o) → Vals xs acc → R acc { s with heap := h', toks := tk }) → wpAny (model X.prog X.w) A' (collect u) R E s
theorem coll_list {p : Addr} {xs : List V} (h : SqL X.K H p xs) : Coll X (.ref p) H xs := fun pins σ s u I r A' E R hd q => by
  cases r
  obtain ⟨its, rv, hl, hz⟩ := I.list h
  refine collect_list hl.isList (q _ s.toks its (fun b o e => ?_) rv) (by rw [← rv.length]; exact hz)
  have hb : b < s.heap.objs.size := Heap.lt_size e
  rw [Heap.get?_update_ne _ _ _ _ (Nat.ne_of_lt hb)]
  exact Heap.get?_push_of_some _ e
theorem coll_dict {p : Addr} {kvs : List (Key × V)} (h : Rd H p (.dK kvs)) : Coll X (.ref p) H (kvs.map fun e => kV e.1) := fun pins σ s u I r A' E R hd q => by
  cases r
  obtain ⟨z, lo, vs, rel, dd⟩ := dk_rd I.hok h
  obtain ⟨ep, hat⟩ := dd.dictAt
  have h16 : vs.length ≤ sizeLine := by rw [← rel.length]; exact z
  refine PySem.W.kdu_collect (A := A') (PySem.W.kdl_dict (knd := mixKind X.prog X.w) (kvs := vs) (ep := ep) lo) hd hat h16 fun h' tk acc hk hacc => q h' tk acc.toList hk ?_
  have hk2 : vs.map (·.1) = kvs.map (·.1) := rel.keys.symm
  refine vals_of_items hacc (by rw [List.length_map]; exact rel.length) fun j u x hx hu => ?_
  obtain ⟨k, v, e1, e2⟩ := hu
  have e3 : (kvs.map (·.1))[j]? = some k := by
    rw [← hk2, List.getElem?_map, e1]
    rfl
  rw [List.getElem?_map] at hx e3
  cases hq : kvs[j]? with
  | none =>
    rw [hq] at hx
    cases hx
  | some w =>
    rw [hq] at hx e3
    cases hx
    cases e3
    show RelV (kV w.1) u
    rcases keyIs_shape e2 with ⟨i, t, e, rfl⟩ | ⟨y, t, e, rfl⟩
    · have e' : w.1 = Sum.inl i := e
      rw [e']
      exact ⟨t, rfl⟩
    · have e' : w.1 = Sum.inr y := e
      rw [e']
      exact ⟨t, rfl⟩
open PySem.W in
/-- sorted(x, key=f) -/
theorem sorted_keyed {x : V} {u : Value} {fa : Addr} {Q : VK} {β : Type} {val : β → V} {key : β → PyData} {bs : List β} (I : Inv X pins σ H s) (hd : X.A.handled = none) (rx : RelV x u) (hc : Coll X x H (bs.map val))
    (hal : AllAlike (bs.map key)) (hsk : Sortable (bs.map key)) (hz : bs.length ≤ 100000) (hu : ∀ b ∈ bs, X.A.units + 2 + (key b).depth < cLine)
    (turn : ∀ b ∈ bs, ∀ (pins' : List (Addr × Obj)) (s' : Shared) (H' : Hp) (u : Value), Inv X pins' σ H' s' → Ex H H' → RelV (val b) u → (∀ p ∈ pins, p ∈ pins') → wpAny (model X.prog X.w) X.A.in1.in1 (call (.ref fa) [u]) (EP X pins' σ fun v H2 => Ex H' H2 ∧ Td H2 v (key b)) (fun _ _ => False) s')
    (q : ∀ p H1, H p = none → Ex H H1 → H1 p = some (.lst ((bs.mergeSort (dataLe false key)).map val)) → Q (.ref p) H1) :
    wpAny (model X.prog X.w) X.A (call (.builtin "sorted") [u] [(Str.ofString "key", .ref fa)]) (EP X pins σ Q) X.xe s := by
  refine call_function_entry_kw kind_sorted plain_sorted entry_sorted (ksk_s1 _ _) ?_
  unfold Builtin.«sorted»
  refine wpAny_bind (m := checkCount "sorted" 1 1 _) (wpAny_pure ?_)
  refine wpAny_bind (hc pins σ s u I rx X.A.in1 _ _ hd fun h' tk acc hk rv => ?_)
  have I1 : Inv X pins σ H { s with heap := h', toks := tk } := I.kept hk
  have hl : acc.length = bs.length := by
    have e := rv.length
    rw [List.length_map] at e
    exact e.symm
  have hZ : acc.length ≤ sizeLine := by
    rw [hl]
    exact sz_of hz
  refine wpAny_bind (wpAny_newList ?_ hZ)
  have hoL : (h'.push (seqObj "list" acc.toArray 0)).get? h'.objs.size = some (seqObj "list" acc.toArray 0) := Heap.get?_push_size _ rfl
  have oA := own_new I1 (b := h'.objs.size) (Nat.le_refl _)
  have I2 : Inv X pins σ H { s with heap := h'.push (seqObj "list" acc.toArray 0), toks := tk } := I1.kept (t' := tk) fun b o e => Heap.get?_push_of_some _ e
  show wpAny _ _ _ _ _ { s with heap := h'.push (seqObj "list" acc.toArray 0), toks := tk }
  refine wpAny_bind (wpAny_holding (wpAny_call_entry_kw slot_list_sort ⟨_, hoL, rfl⟩ entry_list_sort ?body (ksk_l1 _ _)))
  case body =>
    rw [ksk_t1]
    show wpAny (model X.prog X.w) X.A.in1.in1 _ _ _ _
    refine sort_keyed I2 oA.2.1 oA.1 oA.2.2 hoL rv hZ hal hsk (fun b hb => hu b hb) turn fun s' H' out c I3 ex hn ho rv' => ?_
    have hlen : ((bs.mergeSort (dataLe false key)).map val).length ≤ sizeLine := by
      rw [List.length_map, List.length_mergeSort]
      exact sz_of hz
    exact ⟨.none, rfl, wpAny_pure ⟨_, rfl, .ref h'.objs.size, upd H' h'.objs.size (.lst ((bs.mergeSort (dataLe false key)).map val)), inv_track I3 hn oA.1 ⟨hlen, out, c, rv', ho⟩, rfl, q _ _ oA.2.1 (ex.trans (Ex.new hn)) upd_same⟩⟩
end
/-- .. the key a def -/
def rSortKey (X : Cx) (k : Nat) : List V → List V → Hp → VK → Prop := fun vs zs H Q => ∃ (x : V) (f : Addr) (fd : FuncData) (ps : List Str) (sp : Sp) (β : Type) (val : β → V) (key : β → PyData) (bs : List β), vs = [x] ∧ zs = [.ref f] ∧
  FnOk X.prog X.w X.K X.mg X.base CX0 k f fd ps sp ∧ Binds X.K fd ps [] ∧ Coll X x H (bs.map val) ∧ PySem.W.AllAlike (bs.map key) ∧ PySem.W.Sortable (bs.map key) ∧ bs.length ≤ 100000 ∧ (∀ b ∈ bs, (key b).depth ≤ 10) ∧ (∀ b ∈ bs, SpD sp [val b] H (key b)) ∧
  ∀ p H1, H p = none → Ex H H1 → H1 p = some (.lst ((bs.mergeSort (PySem.W.dataLe false key)).map val)) → Q (.ref p) H1
theorem cr_sortKey {X : Cx} {j k : Nat} (hr : Room j X.A) (hk : k + 2 ≤ j := by decide) : CallRK X (.builtin "sorted") [Str.ofString "key"] (rSortKey X k) := by
  intro pins s σ H vs zs us ws Q I r rz h
  obtain ⟨x, f, fd, ps, sp, β, val, key, bs, rfl, rfl, F, hb, hc, hal, hsk, hz, hdp, hsp, q⟩ := h
  obtain ⟨u, rfl, rx⟩ := vals1 r
  obtain ⟨w1, rfl, e1⟩ := vals1 rz
  obtain rfl : w1 = Value.ref f := e1
  have hr2 : Room (k + 2) X.A := hr.mono hk
  refine sorted_keyed I hr2.hd rx hc hal hsk hz (fun b hb => ?_) (fun b hb pins' s' H' u' I' e' ru _ => ?_) q
  · have h1 := hdp b hb
    have h2 := hr2.units
    omega
  · exact fn_sub F (Room.in1 (Room.in1 hr2)) I'.ok.frames ‹Binds X.K fd ps []› I' (.cons ru .nil) (hsp b hb H' e' _ (fun v H2 e2 td => ⟨e2, td⟩) E0)
/-! ### sorted lists of alike data -/
def rSortedA (K : PySem.W.Frag) : List V → Hp → VK → Prop := fun vs H Q => ∃ (a : Addr) (xs : List V) (ds : List PyData), vs = [.ref a] ∧ SqL K H a xs ∧ TdAll H xs ds ∧ PySem.W.AllAlike ds ∧ PySem.W.Sortable ds ∧ ds.length ≤ 100000 ∧ (∀ d ∈ ds, d.depth ≤ 10) ∧
  ∀ p ys, H p = none → TdAll H ys (ds.mergeSort (PySem.W.dataLe false id)) → Q (.ref p) (upd H p (.lst ys))
theorem td_zip {H : Hp} : ∀ {xs : List V} {ds : List PyData}, TdAll H xs ds → ∀ p ∈ xs.zip ds, Td H p.1 p.2
  | _, _, .nil, _, hp => absurd hp (by simp)
  | _, _, .cons h hs, p, hp => by
    rw [List.zip_cons_cons] at hp
    rcases List.mem_cons.mp hp with rfl | hp
    · exact h
    · exact td_zip hs p hp
theorem td_of_pairs {H : Hp} : ∀ {zs : List (V × PyData)}, (∀ p ∈ zs, Td H p.1 p.2) → TdAll H (zs.map Prod.fst) (zs.map Prod.snd)
  | [], _ => .nil
  | z :: zs, h => .cons (h z List.mem_cons_self) (td_of_pairs fun p hp => h p (List.mem_cons_of_mem _ hp))
open PySem.W in
theorem cr_sortedA {X : Cx} (hu : X.A.units + 64 < cLine) : CallR X (.builtin "sorted") (rSortedA X.K) := by
  intro pins s σ H vs us Q I r h
  obtain ⟨a, xs, ds, rfl, hs, ht, hal, hsk, hz, hdp, q⟩ := h
  obtain rfl := Vals.ref1 r
  obtain ⟨its, rv, hl, hzz⟩ := I.list hs
  have hlen := ht.len
  have e1 : (xs.zip ds).map Prod.fst = xs := List.map_fst_zip (by omega)
  have e2 : (xs.zip ds).map Prod.snd = ds := List.map_snd_zip (by omega)
  have rv' : Vals ((xs.zip ds).map Prod.fst) its := by rw [e1]; exact rv
  have hE : EachIs (fun u (b : V × PyData) => RelV b.1 u) its (xs.zip ds) := vals_each rv'
  have hER : EachIs (fun v (b : V × PyData) => ∃ as, Reads s.heap v b.2 as) its (xs.zip ds) := by
    refine EachIs.of_zip hE.length fun p hp => ?_
    have h1 := hE.zip p hp
    have h2 : p.2 ∈ xs.zip ds := (List.of_mem_zip hp).2
    exact Dp.reads I _ _ _ (td_zip ht p.2 h2).dp h1
  refine sorted_data (R := fun u (b : V × PyData) => RelV b.1 u) (enc := Prod.snd) (bs := xs.zip ds) hl.isList hE hER (by rw [e2]; exact hal) (by rw [e2]; exact hsk) (by rw [List.length_zip]; exact Nat.le_trans (Nat.min_le_right _ _) (sz_of hz)) (fun b hb => ?_) fun out hlo ho => ?_
  · have h1 := hdp b.2 (List.of_mem_zip hb).2
    omega
  · obtain ⟨ep, he'⟩ := sortedAll_at s.heap its (List.toArray out)
    have hv : Vals (((xs.zip ds).mergeSort (dataLe false Prod.snd)).map Prod.fst) out := each_vals ho
    have hlen2 : (((xs.zip ds).mergeSort (dataLe false Prod.snd)).map Prod.fst).length ≤ sizeLine := by
      rw [List.length_map, List.length_mergeSort, List.length_zip]
      exact Nat.le_trans (Nat.min_le_right _ _) (sz_of hz)
    have e3 : ((xs.zip ds).mergeSort (dataLe false Prod.snd)).map Prod.snd = ds.mergeSort (dataLe false id) := by
      rw [sort_maps (r := dataLe false Prod.snd) (s := dataLe false id) Prod.snd (fun _ _ _ _ => rfl), e2]
    have htd : TdAll H (((xs.zip ds).mergeSort (dataLe false Prod.snd)).map Prod.fst) (ds.mergeSort (dataLe false id)) := by
      rw [← e3]
      exact td_of_pairs fun p hp => td_zip ht p ((List.mergeSort_perm _ _).mem_iff.mp hp)
    exact ⟨.ref _, upd H (s.heap.objs.size + 1) (.lst (((xs.zip ds).mergeSort (dataLe false Prod.snd)).map Prod.fst)), I.laid (t' := s.toks) (fun _ _ => sortedAll_old) (Nat.le_succ _) ⟨hlen2, out, ep, hv, he'⟩, rfl, q _ _ (I.hok.fresh (Nat.le_succ _)) htd⟩
section
variable {K : PySem.W.Frag} {σ : L2.St} {H : Hp} {te : TE} {ds : List PyData}
theorem en_sortedA (h : EvN te σ H ds) (hal : PySem.W.AllAlike ds) (hsk : PySem.W.Sortable ds) (hz : ds.length ≤ 100000) (hdp : ∀ d ∈ ds, d.depth ≤ 10) : EvN (tCB (rSortedA K) (tCons te tNil)) σ H (ds.mergeSort (PySem.W.dataLe false id)) := fun H1 e Q q =>
  h H1 e _ fun p xs H2 hp e2 h2 hd => ⟨p, xs, ds, rfl, .inl (.inl h2), hd, hal, hsk, hz, hdp, fun r ys hr hy => q r ys _ (fresh_back e2 hr) (e2.trans (Ex.new hr)) upd_same (TdAll.ex (Ex.new hr) hy)⟩
end
end TY
namespace TY
open PySem PySem.Spec PyProof.Rows L2 Evl
/-! ### dicts of texts -/
def kvsT (ks : List (List Nat)) : List (Key × V) := ks.map fun l => ((Sum.inr (S l) : Key), V.bl true)
def addT (ks : List (List Nat)) (l : List Nat) : List (List Nat) := if l ∈ ks then ks else ks ++ [l]
theorem kvsT_any (l : List Nat) : ∀ ks : List (List Nat), ((kvsT ks).any fun kv => decide (kv.1 = (Sum.inr (S l) : Key))) = decide (l ∈ ks)
  | [] => by simp [kvsT]
  | k :: ks => by
    have ih := kvsT_any l ks
    unfold kvsT at ih ⊢
    rw [List.map_cons, List.any_cons, ih]
    by_cases h : k = l
    · subst h
      simp
    · have h2 : ¬ ((Sum.inr (S k) : Key) = Sum.inr (S l)) := fun z => h (S_inj (Sum.inr.inj z))
      have h3 : ¬ l = k := fun z => h z.symm
      simp [h2, h3]
theorem putK_T (ks : List (List Nat)) (l : List Nat) : putK (kvsT ks) (Sum.inr (S l)) (.bl true) = kvsT (addT ks l) := by
  unfold putK addT
  rw [kvsT_any]
  by_cases h : l ∈ ks
  · rw [if_pos (decide_eq_true h), if_pos h]
    unfold kvsT
    rw [List.map_map]
    refine List.map_congr_left fun k _ => ?_
    show (if (Sum.inr (S k) : Key) = Sum.inr (S l) then ((Sum.inr (S k) : Key), V.bl true) else ((Sum.inr (S k) : Key), V.bl true)) = _
    split <;> rfl
  · rw [if_neg (by simpa using h), if_neg h]
    unfold kvsT
    rw [List.map_append]
    rfl
theorem valV_T (ks : List (List Nat)) (l : List Nat) : valV (kvsT ks) (Sum.inr (S l)) = if l ∈ ks then some (.bl true) else none := by
  by_cases h : l ∈ ks
  · rw [if_pos h]
    have h1 := valV_any (Sum.inr (S l) : Key) (kvsT ks)
    rw [kvsT_any, decide_eq_true h] at h1
    obtain ⟨v, hv⟩ := Option.isSome_iff_exists.mp h1.symm
    rw [hv]
    unfold valV at hv
    obtain ⟨p, hp, rfl⟩ := Option.map_eq_some_iff.mp hv
    have hm := List.mem_of_find?_eq_some hp
    unfold kvsT at hm
    obtain ⟨k, _, rfl⟩ := List.mem_map.mp hm
    rfl
  · rw [if_neg h]
    have h1 := valV_any (Sum.inr (S l) : Key) (kvsT ks)
    rw [kvsT_any, decide_eq_false h] at h1
    cases q : valV (kvsT ks) (Sum.inr (S l)) with
    | none => rfl
    | some v =>
      rw [q] at h1
      cases h1
theorem kvsT_len (ks : List (List Nat)) : (kvsT ks).length = ks.length := by simp [kvsT]
theorem kvsT_keys (ks : List (List Nat)) : (kvsT ks).map (·.1) = (ks.map S).map Sum.inr := by
  unfold kvsT
  rw [List.map_map, List.map_map]
  rfl
theorem addT_len (ks : List (List Nat)) (l : List Nat) : (addT ks l).length ≤ ks.length + 1 := by
  unfold addT
  split
  · omega
  · simp
theorem addT_nodup {ks : List (List Nat)} (h : ks.Nodup) (l : List Nat) : (addT ks l).Nodup := by
  unfold addT
  split
  · exact h
  · rename_i hn
    exact List.nodup_append.mpr ⟨h, by simp, fun a ha b hb z => by
      rw [List.mem_singleton] at hb
      exact hn (by rw [← hb, ← z]; exact ha)⟩
theorem addT_mem {ks : List (List Nat)} {l x : List Nat} : x ∈ addT ks l ↔ x ∈ ks ∨ x = l := by
  unfold addT
  by_cases h : l ∈ ks
  · rw [if_pos h]
    constructor
    · exact .inl
    · rintro (z | z)
      · exact z
      · rw [z]
        exact h
  · rw [if_neg h, List.mem_append, List.mem_singleton]
section
variable {K : PySem.W.Frag} {σ : L2.St} {H : Hp} {td te ta tb : TE} {d : Addr} {od : Obj} {ks : List (List Nat)} {ds : List PyData}
/-- x in d -/
theorem ev_inD {l : List Nat} (h : Ev ta σ H (.str (S l))) (h2 : Ev td σ H (.ref d)) (hd : Rd H d (.dK (kvsT ks))) : Ev (tDIn ta td) σ H (.bl (decide (l ∈ ks))) := fun H1 e Q q =>
  h H1 e _ fun H2 e2 => h2 H2 (e.trans e2) _ fun H3 e3 => by
    have hd3 : Rd H3 d (.dK (kvsT ks)) := hd.elim (fun z => .inl (((e.trans e2).trans e3) _ _ z)) fun ⟨o, z⟩ => .inr ⟨o, ((e.trans e2).trans e3) _ _ z⟩
    refine ⟨d, valV (kvsT ks) (Sum.inr (S l)), rfl, .inl ⟨_, Sum.inr (S l), hd3, rfl, rfl⟩, ?_⟩
    have e0 : (valV (kvsT ks) (Sum.inr (S l))).isSome = decide (l ∈ ks) := by
      rw [valV_T]
      by_cases z : l ∈ ks
      · rw [if_pos z, decide_eq_true z]
        rfl
      · rw [if_neg z, decide_eq_false z]
        rfl
    rw [e0]
    exact q H3 (e2.trans e3)
theorem ev_niD {l : List Nat} (h : Ev ta σ H (.str (S l))) (h2 : Ev td σ H (.ref d)) (hd : Rd H d (.dK (kvsT ks))) : Ev (tDNotIn ta td) σ H (.bl (!decide (l ∈ ks))) := fun H1 e Q q =>
  h H1 e _ fun H2 e2 => h2 H2 (e.trans e2) _ fun H3 e3 => by
    have hd3 : Rd H3 d (.dK (kvsT ks)) := hd.elim (fun z => .inl (((e.trans e2).trans e3) _ _ z)) fun ⟨o, z⟩ => .inr ⟨o, ((e.trans e2).trans e3) _ _ z⟩
    refine ⟨d, valV (kvsT ks) (Sum.inr (S l)), rfl, .inl ⟨_, Sum.inr (S l), hd3, rfl, rfl⟩, ?_⟩
    have e0 : (valV (kvsT ks) (Sum.inr (S l))).isSome = decide (l ∈ ks) := by
      rw [valV_T]
      by_cases z : l ∈ ks
      · rw [if_pos z, decide_eq_true z]
        rfl
      · rw [if_neg z, decide_eq_false z]
        rfl
    rw [e0]
    exact q H3 (e2.trans e3)
/-- walking a dict -/
theorem ei_keys (h : Ev td σ H (.ref d)) (hd : H d = some (.frz od (.dK (kvsT ks)))) : EvI (iKeys td) σ H (ks.map fun l => .str (S l)) := fun H1 e R q =>
  h H1 e _ fun H2 e2 => ⟨d, od, rfl, .inl ⟨kvsT ks, (e.trans e2) _ _ hd, by
    refine q _ (fun H3 => H3 d = some (.frz od (.dK (kvsT ks)))) H2 e2 (fun H3 e3 => ((e.trans e2).trans e3) _ _ hd) ?_
    have hl : (ks.map fun l => PyData.str (S l)).length = (kvsT ks).length := by rw [kvsT_len, List.length_map]
    rw [hl]
    refine walk_keys.mono (fun _ q => q) fun i H x H' hi _ y => ?_
    obtain ⟨rfl, k, v, hk, rfl⟩ := y
    unfold kvsT at hk
    rw [List.getElem?_map] at hk
    cases hq : ks[i]? with
    | none =>
      rw [hq] at hk
      cases hk
    | some l =>
      rw [hq] at hk
      cases hk
      exact ⟨Ex.refl _, .str (S l), by rw [List.getElem?_map, hq]; rfl, .str _⟩⟩⟩
/-- .. under a lock -/
theorem en_lock {u : HO} (hd : H d = some u) (hm : Mut (some u)) (h : ∀ o, EvN te σ (upd H d (.frz o u)) ds) : EvN (tLockE te) σ H ds := fun H1 e Q q => by
  have hd1 := e _ _ hd
  refine ⟨d, u, hd1, hm, fun o => h o _ (fun a w hw => ?_) _ fun p xs H2 hp e2 h2 hv => ?_⟩
  · by_cases ha : a = d
    · subst ha
      rw [upd_same] at hw ⊢
      exact hw
    · rw [upd_ne ha] at hw ⊢
      exact e _ _ hw
  · have hpd : p ≠ d := fun z => by
      rw [z, upd_same] at hp
      cases hp
    have h2d : H2 d = some (.frz o u) := e2 _ _ upd_same
    rw [upd_ne hpd] at hp
    refine ⟨h2d, q p xs _ hp (fun a w hw => ?_) (by rw [upd_ne hpd]; exact h2) (TdAll.ext (ExT.upd h2d (fun _ z => by cases z)) hv)⟩
    by_cases ha : a = d
    · subst ha
      rw [upd_same, ← hd1]
      exact hw
    · rw [upd_ne ha]
      exact e2 _ _ (by rw [upd_ne ha]; exact hw)
/-- what gives a dict of texts -/
def EvDT (te : TE) (σ : L2.St) (H : Hp) (ks : List (List Nat)) : Prop := ∀ H1, Ex H H1 → ∀ Q : VK, (∀ p H2, H1 p = none → Ex H1 H2 → H2 p = some (.dK (kvsT ks)) → Q (.ref p) H2) → te σ H1 Q
def SpDT (sp : Sp) (vs : List V) (H : Hp) (ks : List (List Nat)) : Prop := ∀ H1, Ex H H1 → ∀ Q : VK, (∀ p H2, H1 p = none → Ex H1 H2 → H2 p = some (.dK (kvsT ks)) → Q (.ref p) H2) → ∀ E : XK, sp vs H1 Q E
theorem edt_call {tA : TA} {sp : Sp} {vs : List V} {E : XK} (h : EvA tA σ H vs) (hs : SpDT sp vs H ks) : EvDT (tCall sp [] E tA) σ H ks := fun H1 e Q q =>
  h H1 e _ fun H2 e2 => by
    show sp (vs ++ []) H2 Q E
    rw [List.append_nil]
    exact hs H2 (e.trans e2) Q (fun p H3 hp e3 h3 => q p H3 (fresh_back e2 hp) (e2.trans e3) h3) E
/-- a new dict {x: True} -/
theorem edt_one {t1 t2 : TE} {l : List Nat} (h1 : ∀ H', Ev t1 σ H' (.str (S l))) (h2 : ∀ H', Ev t2 σ H' (.bl true)) : EvDT (tDisp [(t1, t2)]) σ H [l] := fun H1 e Q q => fun p hp => by
  refine h1 _ _ (Ex.refl _) _ fun H2 e2 => h2 _ _ (Ex.refl _) _ fun H3 e3 => ?_
  have hd : H3 p = some (.dK []) := e3 _ _ (e2 _ _ upd_same)
  refine ⟨hd, [((Sum.inr (S l) : Key), V.bl true)], rfl, Nat.le_of_ble_eq_true rfl, q p _ hp ?_ upd_same⟩
  exact Ex.mut ((Ex.new hp).trans (e2.trans e3)) hp
theorem q_asgT {D : Ends} {tz : TS} {i : Nat} (h : EvDT te σ H ks) (k : ∀ p H1, H p = none → Ex H H1 → H1 p = some (.dK (kvsT ks)) → tz D (σ.set i (some (.ref p))) H1) : tSeq (tAsg te (gName i)) tz D σ H := h H (Ex.refl H) _ fun p H1 hp e h1 => k p H1 hp e h1
theorem s_asgT {D : Ends} {i : Nat} (h : EvDT te σ H ks) (k : ∀ p H1, H p = none → Ex H H1 → H1 p = some (.dK (kvsT ks)) → D.nx (σ.set i (some (.ref p))) H1) : tAsg te (gName i) D σ H := h H (Ex.refl H) _ fun p H1 hp e h1 => k p H1 hp e h1
theorem s_retT {D : Ends} (h : EvDT te σ H ks) (k : ∀ p H1, H p = none → Ex H H1 → H1 p = some (.dK (kvsT ks)) → D.rt (.ref p) H1) : tRet te D σ H := h H (Ex.refl H) _ k
theorem ev_lenDT (h : EvDT te σ H ks) : Ev (tCB (fun xs H Q => ∃ a kvs, xs = [V.ref a] ∧ H a = some (.dK kvs) ∧ Q (.int kvs.length) H) (tCons te tNil)) σ H (.int (ks.length : Int)) := fun H1 e Q q =>
  h H1 e _ fun p H2 hp e2 h2 => ⟨p, _, rfl, h2, by rw [kvsT_len]; exact q H2 e2⟩
/-- d[x] = True -/
theorem s_putT {D : Ends} {tx tv : TE} {l : List Nat} (h1 : Ev tv σ H (.bl true)) (h2 : Ev td σ H (.ref d)) (h3 : Ev tx σ H (.str (S l))) (hd : H d = some (.dK (kvsT ks))) (hz : ks.length < 100000)
    (k : ∀ H1, Ex H H1 → D.nx σ (upd H1 d (.dK (kvsT (addT ks l))))) : sDPut td tx tv D σ H := h1 H (Ex.refl H) _ fun H2 e2 => h2 H2 e2 _ fun H3 e3 => h3 H3 (e2.trans e3) _ fun H4 e4 => by
  have e := (e2.trans e3).trans e4
  refine ⟨d, _, rfl, .inl ⟨_, Sum.inr (S l), e _ _ hd, rfl, (kvsT_len ks).symm ▸ sz_lt hz, rfl⟩, ?_⟩
  rw [putK_T]
  exact k H4 e
end
end TY
namespace TY
open PySem PySem.Spec PyProof.Rows L2 Evl
/-! ### min of texts -/
def rMinS (K : PySem.W.Frag) : List V → Hp → VK → Prop := fun vs H Q => ∃ (a : Addr) (ls : List (List Nat)), vs = [.ref a] ∧ SqL K H a (ls.map fun l => V.str (S l)) ∧ ls ≠ [] ∧ ∀ m, m ∈ ls → (∀ y ∈ ls, m ≤ y) → Q (.str (S m)) H
theorem dataLt_S (a b : List Nat) : PySem.W.dataLt (.str (S a)) (.str (S b)) = decide (a < b) := by
  rw [PySem.W.dataLt_str]
  rfl
theorem minD_strs : ∀ (ls : List (List Nat)) (x : List Nat), ∃ m, PySem.W.minD (.str (S x)) (ls.map fun l => .str (S l)) = .str (S m) ∧ m ∈ x :: ls ∧ ∀ y ∈ x :: ls, m ≤ y
  | [], x => ⟨x, rfl, List.mem_cons_self, fun y hy => by
    rw [List.mem_singleton] at hy
    rw [hy]
    exact List.le_refl _⟩
  | l :: ls, x => by
    have e : PySem.W.minD (.str (S x)) ((l :: ls).map fun l => PyData.str (S l)) = PySem.W.minD (if decide (l < x) = true then .str (S l) else .str (S x)) (ls.map fun l => .str (S l)) := by
      unfold PySem.W.minD
      rw [List.map_cons, List.foldl_cons, dataLt_S]
    rw [e]
    by_cases h : l < x
    · rw [if_pos (decide_eq_true h)]
      obtain ⟨m, h1, h2, h3⟩ := minD_strs ls l
      refine ⟨m, h1, List.mem_cons_of_mem _ h2, fun y hy => ?_⟩
      rcases List.mem_cons.mp hy with z | z
      · rw [z]
        exact List.le_trans (h3 l List.mem_cons_self) (List.le_of_lt h)
      · exact h3 y z
    · rw [if_neg (by simpa using h)]
      obtain ⟨m, h1, h2, h3⟩ := minD_strs ls x
      refine ⟨m, h1, ?_, fun y hy => ?_⟩
      · rcases List.mem_cons.mp h2 with z | z
        · rw [z]
          exact List.mem_cons_self
        · exact List.mem_cons_of_mem _ (List.mem_cons_of_mem _ z)
      · rcases List.mem_cons.mp hy with z | z
        · exact h3 y (by rw [z]; exact List.mem_cons_self)
        · rcases List.mem_cons.mp z with z | z
          · rw [z]
            exact List.le_trans (h3 x List.mem_cons_self) h
          · exact h3 y (List.mem_cons_of_mem _ z)
theorem depthAll_strs : ∀ ls : List (List Nat), PyData.depthAll (ls.map fun l => .str (S l)) = 0
  | [] => by simp [PyData.depthAll]
  | l :: ls => by simp [PyData.depthAll, PyData.depth, depthAll_strs ls]
theorem cr_minS {X : Cx} (hc : X.calm = true) (hu : X.A.units + 64 < cLine) : CallR X (.builtin "min") (rMinS X.K) := by
  intro pins s σ H vs us Q I r h
  obtain ⟨a, ls, rfl, hs, hne, q⟩ := h
  obtain rfl := Vals.ref1 r
  obtain ⟨its, rv, hl, hz⟩ := I.list hs
  obtain ⟨x, rs, rfl⟩ := List.exists_cons_of_ne_nil hne
  have htd : TdAll H ((x :: rs).map fun l => V.str (S l)) ((x :: rs).map fun l => PyData.str (S l)) := by
    have := TdAll.of_strs (H := H) ((x :: rs).map S)
    rw [List.map_map, List.map_map] at this
    exact this
  obtain ⟨as, hr⟩ := Dp.readsAll I _ _ _ htd.dp rv
  have hr' : ReadsAll s.heap its.toArray.toList (PyData.str (S x) :: rs.map fun l => PyData.str (S l)) as := by simpa using hr
  obtain ⟨m, h1, h2, h3⟩ := minD_strs rs x
  refine PySem.W.min_list_data (I.ok.hd hc) hl.isList hr' ⟨?_, ?_⟩ ?_ fun i v h' tk bs hv hrd hk => ?_
  · intro y hy z hz
    obtain ⟨y', _, rfl⟩ := List.mem_map.mp (show y ∈ (x :: rs).map fun l => PyData.str (S l) from hy)
    obtain ⟨z', _, rfl⟩ := List.mem_map.mp (show z ∈ (x :: rs).map fun l => PyData.str (S l) from hz)
    simp [PySem.W.alike]
  · intro y hy z
    obtain ⟨y', _, rfl⟩ := List.mem_map.mp (show y ∈ (x :: rs).map fun l => PyData.str (S l) from hy)
    cases z
  · have e : PyData.depthAll (PyData.str (S x) :: rs.map fun l => PyData.str (S l)) = 0 := depthAll_strs (x :: rs)
    rw [e]
    omega
  · rw [h1] at hrd
    cases hrd
    exact ⟨.str (S m), H, I.kept hk, ⟨_, rfl⟩, q m h2 h3⟩
/-! ### walking a dict that was just made -/
def iKeysN (td : TE) : TI := fun σ H R => td σ H fun x H1 => ∃ d kvs, x = .ref d ∧ H1 d = some (.dK kvs) ∧ ∀ o, R (Itk d o kvs) (upd H1 d (.frz o (.dK kvs)))
theorem pi_keysN {X : Cx} {tg e : Expr} {td : TE} (he : PE X e td) : PI X tg e (iKeysN td) := by
  refine ⟨fun pins s σ H R I h => ?_⟩
  refine thn (he.run pins s σ H _ I h) fun u s1 ⟨x, H1, I1, rx, d, kvs, ex, hd, q⟩ => ?_
  subst ex
  obtain rfl : u = Value.ref d := rx
  obtain ⟨od, I2⟩ := I1.lock hd trivial
  obtain ⟨hs, hgd, hx, es, ep, vs, hdt, hsz, kv, hm⟩ := I2.frzK upd_same
  refine iter_keys hs hgd hx hdt (pi_one (tk := s1.toks) I2 _ (turn_keys _ hdt) ⟨_, Heap.get?_push_size _ rfl, rfl, ?_⟩ (q od))
  rw [hsz] <;> rfl
section
variable {K : PySem.W.Frag} {σ : L2.St} {H : Hp} {td te ta tb : TE} {ks : List (List Nat)} {ds es : List PyData}
theorem ei_keysN (h : EvDT td σ H ks) : EvI (iKeysN td) σ H (ks.map fun l => .str (S l)) := fun H1 e R q =>
  h H1 e _ fun d H2 hp e2 h2 => ⟨d, kvsT ks, rfl, h2, fun od => by
    refine q _ (fun H3 => H3 d = some (.frz od (.dK (kvsT ks)))) (upd H2 d (.frz od (.dK (kvsT ks)))) (Ex.mut e2 hp) (fun H3 e3 => e3 _ _ upd_same) ?_
    have hl : (ks.map fun l => PyData.str (S l)).length = (kvsT ks).length := by rw [kvsT_len, List.length_map]
    rw [hl]
    refine walk_keys.mono (fun _ q => q) fun i H x H' hi _ y => ?_
    obtain ⟨rfl, k, v, hk, rfl⟩ := y
    unfold kvsT at hk
    rw [List.getElem?_map] at hk
    cases hq : ks[i]? with
    | none =>
      rw [hq] at hk
      cases hk
    | some l =>
      rw [hq] at hk
      cases hk
      exact ⟨Ex.refl _, .str (S l), by rw [List.getElem?_map, hq]; rfl, .str _⟩⟩
/-- a new list and a new list -/
theorem en_cat (h : EvN ta σ H ds) (h2 : EvN tb σ H es) (hz : ds.length + es.length ≤ 100000) : EvN (tOp rCat ta tb) σ H (ds ++ es) := fun H1 e Q q =>
  h H1 e _ fun a xs H2 ha e2 h3 hx => h2 H2 (e.trans e2) _ fun b ys H3 hb e3 h4 hy => ⟨a, b, xs, ys, rfl, rfl, e3 _ _ h3, h4, sz_of (by rw [hx.len, hy.len]; exact hz), fun p hp => by
    have hp2 := fresh_back (e2.trans e3) hp
    exact q p _ _ hp2 ((e2.trans e3).trans (Ex.new hp)) upd_same (TdAll.append (TdAll.ex (e3.trans (Ex.new hp)) hx) (TdAll.ex (Ex.new hp) hy))⟩
/-- a list that stands and a new list -/
theorem en_catL {p : Addr} {xs : List V} (h : Ev ta σ H (.ref p)) (hp : H p = some (.lst xs)) (hx : TdAll H xs ds) (h2 : EvN tb σ H es) (hz : ds.length + es.length ≤ 100000) : EvN (tOp rCat ta tb) σ H (ds ++ es) := fun H1 e Q q =>
  h H1 e _ fun H2 e2 => h2 H2 (e.trans e2) _ fun b ys H3 hb e3 h4 hy => ⟨p, b, xs, ys, rfl, rfl, ((e.trans e2).trans e3) _ _ hp, h4, sz_of (by rw [hx.len, hy.len]; exact hz), fun r hr => by
    have hr2 := fresh_back (e2.trans e3) hr
    exact q r _ _ hr2 ((e2.trans e3).trans (Ex.new hr)) upd_same (TdAll.append (TdAll.ex (((e.trans e2).trans e3).trans (Ex.new hr)) hx) (TdAll.ex (Ex.new hr) hy))⟩
theorem ev_maxI {ns : List Int} {m : Int} (h : EvN te σ H (ns.map .int)) (hm : m ∈ ns) (hle : ∀ y ∈ ns, y ≤ m) : Ev (tCB (rMax K) (tCons te tNil)) σ H (.int m) := fun H1 e Q q =>
  h H1 e _ fun p xs H2 hp e2 h2 h3 => by
    cases h3.ints
    refine ⟨p, ns, rfl, sq_of h2, List.length_pos_of_mem hm, fun m' h4 h5 => ?_⟩
    have : m' = m := by
      have := h5 m hm
      have := hle m' h4
      omega
    rw [this]
    exact q H2 e2
theorem ev_minS {ls : List (List Nat)} {m : List Nat} (h : EvN te σ H (ls.map fun l => .str (S l))) (hm : m ∈ ls) (hle : ∀ y ∈ ls, m ≤ y) : Ev (tCB (rMinS K) (tCons te tNil)) σ H (.str (S m)) := fun H1 e Q q =>
  h H1 e _ fun p xs H2 hp e2 h2 h3 => by
    have h5 : TdAll H2 xs ((ls.map S).map PyData.str) := by
      rw [List.map_map]
      exact h3
    have h6 := h5.strs
    rw [List.map_map] at h6
    subst h6
    refine ⟨p, ls, rfl, sq_of h2, (fun z => by rw [z] at hm; cases hm), fun m' h4 h5 => ?_⟩
    have : m' = m := List.le_antisymm (h5 m hm) (hle m' h4)
    rw [this]
    exact q H2 e2
theorem ev_all' {bs : List Bool} (h : EvN te σ H (bs.map .bool)) : Ev (tCB (rAll K) (tCons te tNil)) σ H (.bl (bs.all id)) := fun H1 e Q q =>
  h H1 e _ fun p xs H2 hp e2 h2 h3 => by
    cases h3.bls
    exact ⟨p, bs, rfl, sq_of h2, q H2 e2⟩
theorem dec_map (l : List Nat) (ls : List (List Nat)) : decide (S l ∈ ls.map S) = decide (l ∈ ls) := by
  by_cases h : l ∈ ls
  · rw [decide_eq_true h, decide_eq_true (List.mem_map.mpr ⟨l, h, rfl⟩)]
  · rw [decide_eq_false h, decide_eq_false]
    intro z
    obtain ⟨m, hm, e⟩ := List.mem_map.mp z
    exact h (by rw [← S_inj e]; exact hm)
/-- a text among those of a list that stands -/
theorem ev_inL {l : List Nat} {ls : List (List Nat)} {p : Addr} {xs : List V} (h : Ev ta σ H (.str (S l))) (h2 : Ev tb σ H (.ref p)) (hp : H p = some (.lst xs)) (hx : TdAll H xs (ls.map fun l => .str (S l))) : Ev (tOp (rIn K false) ta tb) σ H (.bl (decide (l ∈ ls))) := by
  have h5 : TdAll H xs ((ls.map S).map PyData.str) := by
    rw [List.map_map]
    exact hx
  cases h5.strs
  rw [← dec_map]
  exact ev_inLS h h2 hp
theorem ev_niL {l : List Nat} {ls : List (List Nat)} {p : Addr} {xs : List V} (h : Ev ta σ H (.str (S l))) (h2 : Ev tb σ H (.ref p)) (hp : H p = some (.lst xs)) (hx : TdAll H xs (ls.map fun l => .str (S l))) : Ev (tOp (rIn K true) ta tb) σ H (.bl (!decide (l ∈ ls))) := by
  have h5 : TdAll H xs ((ls.map S).map PyData.str) := by
    rw [List.map_map]
    exact hx
  cases h5.strs
  rw [← dec_map]
  exact ev_niLS h h2 hp
/-- xs.extend(a new list) -/
theorem s_ext {D : Ends} {l : Addr} {xs : List V} (hl : H l = some (.lst xs)) (ha : Ev ta σ H (.ref l)) (h : EvN te σ H es) (hz : xs.length + es.length ≤ 100000) (k : ∀ zs H1, Ex H H1 → TdAll H1 zs es → D.nx σ (upd H1 l (.lst (xs ++ zs)))) :
    tDrop (tBM K "list" rExtend ta (tCons te tNil)) D σ H := ha H (Ex.refl H) _ fun H1 e1 =>
  ⟨Or.inl ⟨rfl, xs, sq_of (e1 l _ hl)⟩, h H1 e1 _ fun b zs H2 hb e2 h2 hz2 => ⟨l, b, xs, zs, rfl, rfl, (e1.trans e2) _ _ hl, h2, sz_of (by rw [hz2.len]; exact hz), k zs H2 (e1.trans e2) hz2⟩⟩
theorem ev_niSign {c : Nat} {l : List Nat} (h : Ev ta σ H (.str (S [c]))) (h2 : Ev tb σ H (.str (S l))) : Ev (tOp (fun x y H Q => ∃ (c : Nat) (z : Str), x = .str ⟨#[c]⟩ ∧ y = .str z ∧ Q (.bl (!decide (c ∈ z.cps.toList))) H) ta tb) σ H (.bl (!decide (c ∈ l))) := fun H1 e Q q =>
  h H1 e _ fun H2 e2 => h2 H2 (e.trans e2) _ fun H3 e3 => ⟨c, S l, rfl, rfl, q H3 (e2.trans e3)⟩
end
end TY
namespace TY
open PySem PySem.Spec PyProof.Rows L2 Evl
/-! ### the laws' own helpers -/
def topS (i : Nat) : Stmt := PySem.Challenge.pw_tailyard_k11_whole_longest_and_missing.main.body.getD i (.Pass ⟨0, 0, 0, 0⟩)
abbrev s__law_cell_at : Stmt := topS 9
theorem sc__law_cell_at : FnScope ["_law_script", "_law_k"] ["_law_script", "_law_k"] (defScope s__law_cell_at) := ⟨rfl, rfl, rfl, by decide +kernel, rfl, by decide +kernel, by decide +kernel⟩
abbrev s__law_mixed : Stmt := topS 10
theorem sc__law_mixed : FnScope ["_law_script", "_law_k", "_law_drawn_here"] ["_law_script", "_law_k"] (defScope s__law_mixed) := ⟨rfl, rfl, rfl, by decide +kernel, rfl, by decide +kernel, by decide +kernel⟩
abbrev s__law_drawn : Stmt := topS 11
theorem sc__law_drawn : FnScope ["_law_number", "_law_k", "_law_drawn_here"] ["_law_number", "_law_k"] (defScope s__law_drawn) := ⟨rfl, rfl, rfl, by decide +kernel, rfl, by decide +kernel, by decide +kernel⟩
abbrev s__law_text : Stmt := topS 12
theorem sc__law_text : FnScope ["_law_number", "_law_most", "_law_letters", "_law_many", "_law_found", "_law_k", "_law_by"] ["_law_number", "_law_most"] (defScope s__law_text) := ⟨rfl, rfl, rfl, by decide +kernel, rfl, by decide +kernel, by decide +kernel⟩
section
variable {P : Program} {w : World} {K : PySem.W.Frag} {mg : Str → Option Value} {base : Heap}
theorem ok__law_cell_at {f : Addr} {fd : FuncData} (F : Fun K "_law_cell_at" "_law_cell_at" s__law_cell_at f fd) (T_ : Nm mg) : FnOk P w K mg base CX0 1 f fd ["_law_script", "_law_k"] (spCell K) := by
  refine F.ok sc__law_cell_at (fun vs H Q E h => ?_) (fun cdv A outer s H vs Q E hr h => ?_)
  · obtain ⟨a, ns, k, rfl, _⟩ := h
    rfl
  · obtain ⟨a, ns, k, rfl, hS, q⟩ := h
    refine ⟨_, (pss_cons (ps_if (pt_cmpR op_lt (pv 1) (pe_callB (kC K rLenS call_len_seq) (by rfl) T_.n_len PySem.boot_len (pa_cons (pv 0) pa_nil)) (nomark _))
      (pss_one (ps_ret (pe_ix (kI K rIxL ix_list) (pv 0) (pv 1) (fun _ _ => rfl))))
      pss_nil)
      (pss_one (ps_ret pe_int))), ?_⟩
    refine q_when (b := decide ((k : Int) < ((ns.map V.int).length : Int))) (et_test (ev_op (ev_var rfl) (ev_len (ev_var rfl) hS) rv_I0)) (fun hb H1 e1 => ?_) (fun hb H1 e1 => ?_)
    · have hk := of_decide_eq_true hb
      rw [List.length_map] at hk
      exact s_ret (v := .int (cellV ns k)) (ev_op (ev_var rfl) (ev_var rfl) (rv_ixL (ex_l e1 hS) (cell_in (by omega)))) fun H2 e2 => q _ (e1.trans e2)
    · have hk := of_decide_eq_false hb
      rw [List.length_map] at hk
      have e0 : cellV ns k = 0 := by
        unfold cellV
        rw [List.getD_eq_getElem?_getD, List.getElem?_eq_none (by omega)]
        rfl
      exact s_ret (v := .int (cellV ns k)) (by rw [e0]; exact ev_c) fun H2 e2 => q _ (e1.trans e2)
theorem ok__law_mixed {f : Addr} {fd : FuncData} (F : Fun K "_law_mixed" "_law_mixed" s__law_mixed f fd) (T_ : Nm mg) (c__law_cell_at : Cl P w K mg base 1 "_law_cell_at" (spCell K)) : FnOk P w K mg base CX0 2 f fd ["_law_script", "_law_k"] (spMixed K) := by
  refine F.ok sc__law_mixed (fun vs H Q E h => ?_) (fun cdv A outer s H vs Q E hr h => ?_)
  · obtain ⟨a, ns, k, rfl, _⟩ := h
    rfl
  · obtain ⟨a, ns, k, rfl, hS, hk, q⟩ := h
    refine ⟨_, (pss_cons (ps_set (i := 2) sc__law_mixed.nd rfl (.inl rfl) (pe_op op_mod (pe_op op_mul (pe_op op_add (pe_op op_add (pe_cl c__law_cell_at hr (by first | decide | omega) (by rfl) (pa_cons (pv 0) (pa_cons (pv 1) pa_nil))) (pe_op op_mul pe_int (pv 1))) pe_int) pe_int) pe_int))
      (pss_one (ps_ret (pe_op op_mod (pe_op op_add (pe_op op_add (pe_op op_mul (pv 2) (pv 2)) (pe_op op_mul pe_int (pv 2))) (pv 1)) pe_int)))), ?_⟩
    have hm : ∀ x : Int, 0 ≤ x % 2147483647 ∧ x % 2147483647 < 2147483647 := fun x => ⟨Int.emod_nonneg _ (by decide), Int.emod_lt_of_pos _ (by decide)⟩
    refine q_asg (v := .int ((cellV ns k + 7919 * (k : Int) + 1) * 48271 % 2147483647)) (ev_op (ev_op (ev_op (ev_op (ev_cl (ea_cons (ev_var rfl) (ea_cons (ev_var rfl) ea_nil)) (sv_cell hS)) (ev_op ev_c (ev_var rfl) (rv_I (.inl ⟨by decide, by decide⟩))) rv_I0) ev_c rv_I0) ev_c (rv_I (.inr ⟨by decide, by decide⟩))) ev_c (rv_I (by decide))) fun H1 e1 => ?_
    exact s_ret (v := .int (mixV ns k)) (ev_op (ev_op (ev_op (ev_op (ev_var rfl) (ev_var rfl) (rv_I (.inl ⟨by have := hm ((cellV ns k + 7919 * (k : Int) + 1) * 48271); omega, by have := hm ((cellV ns k + 7919 * (k : Int) + 1) * 48271); omega⟩))) (ev_op ev_c (ev_var rfl) (rv_I (.inl ⟨by decide, by decide⟩))) rv_I0) (ev_var rfl) rv_I0) ev_c (rv_I (by decide))) fun H2 e2 => q _ (e1.trans e2)
theorem ok__law_drawn {f : Addr} {fd : FuncData} (F : Fun K "_law_drawn" "_law_drawn" s__law_drawn f fd) (T_ : Nm mg) : FnOk P w K mg base CX0 1 f fd ["_law_number", "_law_k"] spDrawn := by
  refine F.ok sc__law_drawn (fun vs H Q E h => ?_) (fun cdv A outer s H vs Q E hr h => ?_)
  · obtain ⟨n, k, rfl, _⟩ := h
    rfl
  · obtain ⟨n, k, rfl, hk, q⟩ := h
    refine ⟨_, (pss_cons (ps_set (i := 2) sc__law_drawn.nd rfl (.inl rfl) (pe_op op_mod (pe_op op_mul (pe_op op_add (pe_op op_add (pv 0) (pe_op op_mul pe_int (pv 1))) pe_int) pe_int) pe_int))
      (pss_one (ps_ret (pe_op op_mod (pe_op op_add (pe_op op_add (pe_op op_mul (pv 2) (pv 2)) (pe_op op_mul pe_int (pv 2))) (pv 1)) pe_int)))), ?_⟩
    have hm : ∀ x : Int, 0 ≤ x % 2147483647 ∧ x % 2147483647 < 2147483647 := fun x => ⟨Int.emod_nonneg _ (by decide), Int.emod_lt_of_pos _ (by decide)⟩
    refine q_asg (v := .int ((n + 104729 * (k : Int) + 17) * 69621 % 2147483647)) (ev_op (ev_op (ev_op (ev_op (ev_var rfl) (ev_op ev_c (ev_var rfl) (rv_I (.inl ⟨by decide, by decide⟩))) rv_I0) ev_c rv_I0) ev_c (rv_I (.inr ⟨by decide, by decide⟩))) ev_c (rv_I (by decide))) fun H1 e1 => ?_
    exact s_ret (v := .int (drawV n k)) (ev_op (ev_op (ev_op (ev_op (ev_var rfl) (ev_var rfl) (rv_I (.inl ⟨by have := hm ((n + 104729 * (k : Int) + 17) * 69621); omega, by have := hm ((n + 104729 * (k : Int) + 17) * 69621); omega⟩))) (ev_op ev_c (ev_var rfl) (rv_I (.inl ⟨by decide, by decide⟩))) rv_I0) (ev_var rfl) rv_I0) ev_c (rv_I (by decide))) fun H2 e2 => q _ (e1.trans e2)
theorem ok__law_text {f : Addr} {fd : FuncData} (F : Fun K "_law_text" "_law_text" s__law_text f fd) (T_ : Nm mg) (c__law_drawn : Cl P w K mg base 1 "_law_drawn" spDrawn) : FnOk P w K mg base CX0 2 f fd ["_law_number", "_law_most"] spText := by
  refine F.ok sc__law_text (fun vs H Q E h => ?_) (fun cdv A outer s H vs Q E hr h => ?_)
  · obtain ⟨n, m, rfl, _⟩ := h
    rfl
  · obtain ⟨n, m, rfl, hn, hm, q⟩ := h
    refine ⟨_, (pss_cons (ps_set (i := 2) sc__law_text.nd rfl (.inl rfl) (pe_ix (kI K rIxT ix_tup) (pe_tup (pa_cons pe_str (pa_cons pe_str (pa_cons pe_str (pa_cons pe_str (pa_cons pe_str (pa_cons pe_str (pa_cons pe_str (pa_cons pe_str pa_nil))))))))) (pe_op op_mod (pv 0) pe_int) (fun _ _ => rfl)))
      (pss_cons (ps_set (i := 3) sc__law_text.nd rfl (.inl rfl) (pe_op op_mod (pe_op op_fdiv (pv 0) pe_int) (pe_op op_add (pv 1) pe_int)))
      (pss_cons (ps_set (i := 4) sc__law_text.nd rfl (.inl rfl) pe_str)
      (pss_cons (ps_for PassesOwn.never rfl (pi_range1 (by rfl) T_.n_range (pa_cons (pv 3) pa_nil)) (pg_name (i := 5) sc__law_text.nd rfl (.inl rfl))
      (pss_one (ps_set (i := 4) sc__law_text.nd rfl (.inl rfl) (pe_op op_add_str (pv 4) (pe_ix ix_str (pv 2) (pe_op op_mod (pe_cl c__law_drawn hr (by first | decide | omega) (by rfl) (pa_cons (pv 0) (pa_cons (pv 5) pa_nil))) (pe_callB call_len_str (by rfl) T_.n_len PySem.boot_len (pa_cons (pv 2) pa_nil))) (fun _ _ => rfl))))))
      (pss_cons (ps_if (PW.pt (pw_and (pt_cmpR op_eq (pe_op op_mod (pe_op op_fdiv (pv 0) pe_int) pe_int) pe_int (nomark _)) (pw_and1 (pt_cmpR op_gt (pv 3) pe_int (nomark _)))))
      (pss_cons (ps_set (i := 6) sc__law_text.nd rfl (.inl rfl) (pe_op op_add pe_int (pe_op op_mod (pe_op op_fdiv (pv 0) pe_int) (pe_op op_sub (pv 3) pe_int))))
      (pss_one (ps_set (i := 4) sc__law_text.nd rfl (.inl rfl) (pe_slice sl_str (pe_op op_mulS (pe_slice sl_str (pv 4) po_none (po_some (pv 6))) (pv 3)) po_none (po_some (pv 3))))))
      pss_nil)
      (pss_one (ps_ret (pv 4)))))))), ?_⟩
    have hl := letters_ok hn
    have hc := manyV_le hn m
    have h8 : n % 8 = ((n % 8).toNat : Int) := by omega
    have ht : (tbl.map PyData.str)[(n % 8).toNat]? = some (.str (S (lettersV n))) := by
      rw [List.getElem?_map, tbl_at hn]
      rfl
    refine q_asg (v := .str (S (lettersV n))) (EvD.str (ed_ixT (ds := tbl.map PyData.str) (j := (n % 8).toNat) (ed_tup (ead_cons (ed_str ev_c) (ead_cons (ed_str ev_c) (ead_cons (ed_str ev_c) (ead_cons (ed_str ev_c) (ead_cons (ed_str ev_c) (ead_cons (ed_str ev_c) (ead_cons (ed_str ev_c) (ead_cons (ed_str ev_c) ead_nil)))))))) (by decide)) (ev_is (ev_op (ev_var rfl) ev_c (rv_I (by decide))) (congrArg V.int h8)) ht)) fun H1 e1 => ?_
    refine q_asg (v := .int (manyV n m : Int)) (ev_is (ev_op (ev_op (ev_var rfl) ev_c (rv_I ⟨by decide, by decide⟩)) (ev_op (ev_var rfl) ev_c rv_I0) (rv_I (by show (0 : Int) < (m : Int) + 1; omega))) (congrArg V.int (manyV_int hn m))) fun H2 e2 => ?_
    refine q_asg (v := .str (S [])) (ev_is ev_c rfl) fun H3 e3 => ?_
    refine q_forR1 (n := (manyV n m : Int)) (ea_cons (ev_var rfl) ea_nil) (by omega) (fun i σ' H' => (∃ y, σ' = [some (.int n), some (.int (m : Int)), some (.str (S (lettersV n))), some (.int (manyV n m : Int)), some (.str (S (baseV n i))), y, none]) ∧ Ex H3 H')
      (fun H4 e4 => ⟨⟨none, rfl⟩, e4⟩) ?_ ?_
    · rintro i σ' H' hi ⟨⟨y, rfl⟩, e4⟩
      obtain ⟨j, hj, hx⟩ := draw_ix hn i
      have hi2 : i < manyV n m := by omega
      refine s_asg (v := .str (S (baseV n (i + 1)))) ?_ fun H5 e5 => ⟨⟨_, rfl⟩, e4.trans e5⟩
      have e0 : baseV n (i + 1) = baseV n i ++ [(lettersV n).getD (drawV n i % ((lettersV n).length : Int)).toNat 0] := by
        unfold baseV
        rw [List.range_succ, List.map_append]
        rfl
      rw [e0]
      refine ev_addS (ev_var rfl) (ev_ixS (j := j) (ev_var rfl) (ev_is (ev_op (ev_cl (ea_cons (ev_var rfl) (ea_cons (ev_var rfl) ea_nil)) (sv_drawn (by omega))) (ev_lenStr (ev_var rfl) (by omega)) (rv_I (by show (0 : Int) < _; omega))) (congrArg V.int hj)) (by omega) hx) (by rw [baseV_len]; show i + 1 ≤ 100000; omega)
    · rintro σ' H' ⟨⟨y, rfl⟩, e4⟩
      rw [Int.toNat_natCast]
      have e03 : Ex H H' := ((e1.trans e2).trans e3).trans e4
      refine q_when (b := decide (n / 800 % 3 = 1) && decide ((1 : Int) < (manyV n m : Int))) (et_and (et_test (ev_eqI (ev_op (ev_op (ev_var rfl) ev_c (rv_I ⟨by decide, by decide⟩)) ev_c (rv_I (by decide))) ev_c)) (fun _ => et_test (ev_op (ev_var rfl) ev_c rv_I0))) (fun hb H5 e5 => ?_) (fun hb H5 e5 => ?_)
      · have hc1 : 1 < manyV n m := by
          rw [Bool.and_eq_true] at hb
          have := of_decide_eq_true hb.2
          omega
        refine q_asg (v := .int (byV n (manyV n m) : Int)) (ev_is (ev_op ev_c (ev_op (ev_op (ev_var rfl) ev_c (rv_I ⟨by decide, by decide⟩)) (ev_op (ev_var rfl) ev_c rv_I0) (rv_I (by show (0 : Int) < (manyV n m : Int) - 1; omega))) rv_I0) (congrArg V.int (byV_int hn hc1))) fun H6 e6 => ?_
        have hb1 : (baseV n (manyV n m)).length ≤ 100 := by rw [baseV_len]; omega
        have hb2 : ((baseV n (manyV n m)).take (byV n (manyV n m))).length ≤ 100 := by rw [List.length_take]; omega
        refine s_asg (v := .str (S (textV n m))) ?_ fun H7 e7 => ?_
        · have e0 : textV n m = ((List.replicate (manyV n m) ((baseV n (manyV n m)).take (byV n (manyV n m)))).flatten).take (manyV n m) := by
            unfold textV
            rw [if_pos hb]
          rw [e0]
          refine ev_to (ev_mulS (ev_to (ev_var rfl) (ev_var rfl) (by omega)) (ev_var rfl) (by omega) (by omega)) (ev_var rfl) ?_
          rw [List.length_flatten, List.map_replicate, List.sum_replicate_nat]
          have : manyV n m * ((baseV n (manyV n m)).take (byV n (manyV n m))).length ≤ 100 * 100 := Nat.mul_le_mul (by omega) hb2
          omega
        · exact s_ret (v := .str (S (textV n m))) (ev_var rfl) fun H8 e8 => q _ (((e03.trans e5).trans (e6.trans e7)).trans e8)
      · have e0 : baseV n (manyV n m) = textV n m := by
          unfold textV
          rw [if_neg (by rw [hb]; decide)]
        rw [e0]
        exact s_ret (v := .str (S (textV n m))) (ev_var rfl) fun H8 e8 => q _ ((e03.trans e5).trans e8)
end

end TY
namespace TY
open PySem PySem.Spec PyProof.Rows L2 Evl
/-! ### all parts -/
def subsAt (l : List Nat) (i k : Nat) : List (List Nat) := (List.range k).map fun d => (l.drop i).take (d + 1)
def subsTo (l : List Nat) (i : Nat) : List (List Nat) := (List.range i).flatMap fun a => subsAt l a (l.length - a)
def allParts (l : List Nat) : List (List Nat) := (subsTo l l.length).foldl addT [[]]
theorem subsAt_zero (l : List Nat) (i : Nat) : subsAt l i 0 = [] := rfl
theorem subsAt_succ (l : List Nat) (i k : Nat) : subsAt l i (k + 1) = subsAt l i k ++ [(l.drop i).take (k + 1)] := by
  unfold subsAt
  rw [List.range_succ, List.map_append]
  rfl
theorem subsTo_succ (l : List Nat) (i : Nat) : subsTo l (i + 1) = subsTo l i ++ subsAt l i (l.length - i) := by
  unfold subsTo
  rw [List.range_succ, List.flatMap_append]
  simp
theorem subsAt_len (l : List Nat) (i k : Nat) : (subsAt l i k).length = k := by simp [subsAt]
theorem subsTo_len (l : List Nat) : ∀ i : Nat, (subsTo l i).length ≤ i * l.length
  | 0 => by simp [subsTo]
  | i + 1 => by
    rw [subsTo_succ, List.length_append, subsAt_len]
    have h1 := subsTo_len l i
    rw [Nat.add_mul, Nat.one_mul]
    omega
theorem foldl_addT_len : ∀ (xs ks : List (List Nat)), (xs.foldl addT ks).length ≤ ks.length + xs.length
  | [], ks => by simp
  | x :: xs, ks => by
    have h1 := foldl_addT_len xs (addT ks x)
    have h2 := addT_len ks x
    rw [List.foldl_cons, List.length_cons]
    omega
theorem foldl_addT_nodup : ∀ (xs ks : List (List Nat)), ks.Nodup → (xs.foldl addT ks).Nodup
  | [], ks, h => h
  | x :: xs, ks, h => foldl_addT_nodup xs (addT ks x) (addT_nodup h x)
theorem foldl_addT_mem {y : List Nat} : ∀ (xs ks : List (List Nat)), y ∈ xs.foldl addT ks ↔ y ∈ ks ∨ y ∈ xs
  | [], ks => by simp
  | x :: xs, ks => by
    rw [List.foldl_cons, foldl_addT_mem xs (addT ks x), addT_mem, List.mem_cons]
    constructor
    · rintro ((h | h) | h)
      · exact .inl h
      · exact .inr (.inl h)
      · exact .inr (.inr h)
    · rintro (h | h | h)
      · exact .inl (.inl h)
      · exact .inl (.inr h)
      · exact .inr h
theorem parts_len {l : List Nat} {i k : Nat} (hl : l.length ≤ 100) (hi : i ≤ 100) (hk : k ≤ 100) : ((subsTo l i ++ subsAt l i k).foldl addT [[]]).length < 100000 := by
  have h1 := foldl_addT_len (subsTo l i ++ subsAt l i k) [[]]
  rw [List.length_append, subsAt_len] at h1
  have h2 := subsTo_len l i
  have h3 : i * l.length ≤ 100 * 100 := Nat.mul_le_mul hi hl
  rw [List.length_singleton] at h1
  omega
theorem allParts_len {l : List Nat} (hl : l.length ≤ 100) : (allParts l).length < 30000 := by
  have h1 := foldl_addT_len (subsTo l l.length) [[]]
  have h2 := subsTo_len l l.length
  have h3 : l.length * l.length ≤ 100 * 100 := Nat.mul_le_mul hl hl
  rw [List.length_singleton] at h1
  unfold allParts
  omega
theorem allParts_nodup (l : List Nat) : (allParts l).Nodup := foldl_addT_nodup _ _ (by simp)
theorem subsTo_mem {l p : List Nat} {n : Nat} : p ∈ subsTo l n ↔ ∃ i k, i < n ∧ k < l.length - i ∧ p = (l.drop i).take (k + 1) := by
  unfold subsTo subsAt
  simp only [List.mem_flatMap, List.mem_map, List.mem_range]
  constructor
  · rintro ⟨i, hi, k, hk, rfl⟩
    exact ⟨i, k, hi, hk, rfl⟩
  · rintro ⟨i, k, hi, hk, rfl⟩
    exact ⟨i, hi, k, hk, rfl⟩
theorem allParts_mem {l p : List Nat} : p ∈ allParts l ↔ p <:+: l := by
  unfold allParts
  rw [foldl_addT_mem, List.mem_singleton, subsTo_mem]
  constructor
  · rintro (rfl | ⟨i, k, hi, hk, rfl⟩)
    · exact List.nil_infix
    · exact (List.take_prefix _ _).isInfix.trans (List.drop_suffix _ _).isInfix
  · rintro ⟨a, b, h⟩
    cases hp : p with
    | nil => exact .inl rfl
    | cons x r =>
      right
      rw [hp] at h
      have hl := congrArg List.length h
      simp only [List.length_append, List.length_cons] at hl
      refine ⟨a.length, r.length, by omega, by omega, ?_⟩
      rw [← h, List.append_assoc, List.drop_left, List.take_append_of_le_length (by simp), List.take_of_length_le (by simp)]
theorem allParts_nil (l : List Nat) : [] ∈ allParts l := allParts_mem.mpr List.nil_infix
theorem allParts_pos (l : List Nat) : 0 < (allParts l).length := List.length_pos_of_mem (allParts_nil l)
theorem allParts_le {l p : List Nat} (h : p ∈ allParts l) : p.length ≤ l.length := (allParts_mem.mp h).length_le
/-- by length, then by letters -/
def rk (l : List Nat) : PyData := .tuple [.int (l.length : Int), .str (S l)]
def ranked (ks : List (List Nat)) : List (List Nat) := ks.mergeSort (PySem.W.dataLe false rk)
def sortedParts (l : List Nat) : List (List Nat) := ranked (allParts l)
theorem ranked_len (ks : List (List Nat)) : (ranked ks).length = ks.length := List.length_mergeSort ks
theorem ranked_mem {ks : List (List Nat)} {x : List Nat} : x ∈ ranked ks ↔ x ∈ ks := (List.mergeSort_perm ks _).mem_iff
theorem rk_alike (ks : List (List Nat)) : PySem.W.AllAlike (ks.map rk) := PySem.W.AllAlike.of fun b b' => by simp [rk, PySem.W.alike, PySem.W.alikeAll]
theorem rk_sortable (ks : List (List Nat)) : PySem.W.Sortable (ks.map rk) := PySem.W.Sortable.tuples fun b => ⟨_, _, rfl⟩
theorem rk_depth (l : List Nat) : (rk l).depth ≤ 10 := by
  unfold rk
  simp [PyData.depth, PyData.depthAll]
theorem rk_sort (ks : List (List Nat)) : (ks.map rk).mergeSort (PySem.W.dataLe false id) = (ranked ks).map rk := by
  unfold ranked
  rw [PySem.W.sort_maps (r := PySem.W.dataLe false rk) (s := PySem.W.dataLe false id) rk (fun _ _ _ _ => rfl)]
def spRank : Sp := fun vs H Q _ => ∃ l : List Nat, vs = [.str (S l)] ∧ l.length ≤ 1000 ∧ ∀ v H', Ex H H' → Td H' v (rk l) → Q v H'
def spAll : Sp := fun vs H Q _ => ∃ l : List Nat, vs = [.str (S l)] ∧ l.length ≤ 100 ∧ ∀ p H', H p = none → Ex H H' → H' p = some (.dK (kvsT (allParts l))) → Q (.ref p) H'
/-- a list of texts -/
def spList (f : List Nat → List (List Nat)) : Sp := fun vs H Q _ => ∃ l : List Nat, vs = [.str (S l)] ∧ l.length ≤ 100 ∧ ∀ p xs H', H p = none → Ex H H' → H' p = some (.lst xs) → TdAll H' xs ((f l).map fun l => .str (S l)) → Q (.ref p) H'
def spStrs (f : List Nat → List (List Nat)) : Sp := fun vs H Q _ => ∃ l : List Nat, vs = [.str (S l)] ∧ l.length ≤ 100 ∧ ∀ v H', Ex H H' → Td H' v (.tuple ((f l).map fun l => .str (S l))) → Q v H'
theorem sd_rank {H : Hp} {l : List Nat} (hl : l.length ≤ 1000) : SpD spRank [.str (S l)] H (rk l) := fun H1 e Q q E => ⟨l, rfl, hl, q⟩
theorem sdt_all {H : Hp} {l : List Nat} (hl : l.length ≤ 100) : SpDT spAll [.str (S l)] H (allParts l) := fun H1 e Q q E => ⟨l, rfl, hl, q⟩
theorem sn_list {f : List Nat → List (List Nat)} {H : Hp} {l : List Nat} (hl : l.length ≤ 100) : SpN (spList f) [.str (S l)] H ((f l).map fun l => .str (S l)) := fun H1 e Q q E => ⟨l, rfl, hl, q⟩
theorem sd_strs {f : List Nat → List (List Nat)} {H : Hp} {l : List Nat} (hl : l.length ≤ 100) : SpD (spStrs f) [.str (S l)] H (.tuple ((f l).map fun l => .str (S l))) := fun H1 e Q q E => ⟨l, rfl, hl, q⟩
theorem en_sortKey {X : Cx} {k : Nat} {σ : L2.St} {H : Hp} {te : TE} {ks : List (List Nat)} {f : Addr} {fd : FuncData} {ps : List Str} (F : FnOk X.prog X.w X.K X.mg X.base CX0 k f fd ps spRank) (hb : Binds X.K fd ps []) (h : EvDT te σ H ks) (hz : ks.length ≤ 30000) (hl : ∀ l ∈ ks, l.length ≤ 1000) :
    EvN (tCKw (rSortKey X k) (tCons te tNil) (tCons (tC (.ref f)) tNil)) σ H ((ranked ks).map fun l => .str (S l)) := fun H1 e Q q =>
  h H1 e _ fun p H2 hp e2 h2 => by
    refine ⟨.ref p, f, fd, ps, spRank, List Nat, fun l => .str (S l), rk, ks, rfl, rfl, F, hb, ?_, rk_alike ks, rk_sortable ks, by omega, fun b _ => rk_depth b, fun b hb => sd_rank (hl b hb), fun r H3 hr e3 h3 => ?_⟩
    · have c := coll_dict (X := X) (.inl h2)
      have e0 : ((kvsT ks).map fun e => kV e.1) = ks.map fun l => V.str (S l) := by
        unfold kvsT
        rw [List.map_map]
        rfl
      rw [e0] at c
      exact c
    · refine q r _ H3 (fresh_back e2 hr) (e2.trans e3) h3 ?_
      have := TdAll.of_strs (H := H3) ((ranked ks).map S)
      rw [List.map_map, List.map_map] at this
      exact this
abbrev s_all_parts : Stmt := topS 1
theorem sc_all_parts : FnScope ["text", "found", "first", "last"] ["text"] (defScope s_all_parts) := ⟨rfl, rfl, rfl, by decide +kernel, rfl, by decide +kernel, by decide +kernel⟩
section
variable {P : Program} {w : World} {K : PySem.W.Frag} {mg : Str → Option Value} {base : Heap}
theorem ok_all_parts {f : Addr} {fd : FuncData} (F : Fun K "all_parts" "all_parts" s_all_parts f fd) (T_ : Nm mg) : FnOk P w K mg base CX0 1 f fd ["text"] spAll := by
  refine F.ok sc_all_parts (fun vs H Q E h => ?_) (fun cdv A outer s H vs Q E hr h => ?_)
  · obtain ⟨l, rfl, _⟩ := h
    rfl
  · obtain ⟨l, rfl, hl, q⟩ := h
    refine ⟨_, (pss_cons (ps_set (i := 1) sc_all_parts.nd rfl (.inl rfl) (pe_disp (pps_cons pe_str pe_bl pps_nil) (by rfl) (by rfl) (fun z => by cases z) (by decide)))
      (pss_cons (ps_for PassesOwn.never rfl (pi_range1 (by rfl) T_.n_range (pa_cons (pe_callB call_len_str (by rfl) T_.n_len PySem.boot_len (pa_cons (pv 0) pa_nil)) pa_nil)) (pg_name (i := 2) sc_all_parts.nd rfl (.inl rfl))
      (pss_one (ps_for PassesOwn.never rfl (pi_range2 (by rfl) T_.n_range (pa_cons (pe_op op_add (pv 2) pe_int) (pa_cons (pe_op op_add (pe_callB call_len_str (by rfl) T_.n_len PySem.boot_len (pa_cons (pv 0) pa_nil)) pe_int) pa_nil))) (pg_name (i := 3) sc_all_parts.nd rfl (.inl rfl))
      (pss_one (ps_dput (hu_of hr) (pv 1) (pe_slice sl_str (pv 0) (po_some (pv 2)) (po_some (pv 3))) pe_bl rfl)))))
      (pss_one (ps_ret (pv 1))))), ?_⟩
    refine q_asgT (edt_one (l := []) (fun H' => ev_is ev_c rfl) (fun H' => ev_c)) fun p H1 hp e1 h1 => ?_
    refine q_forR1 (n := (l.length : Int)) (ea_cons (ev_lenStr (ev_var rfl) (by omega)) ea_nil) (by omega)
      (fun i σ' H' => (∃ y z, σ' = [some (.str (S l)), some (.ref p), y, z]) ∧ Ex H H' ∧ H' p = some (.dK (kvsT ((subsTo l i).foldl addT [[]]))))
      (fun H2 e2 => ⟨⟨none, none, rfl⟩, e1.trans e2, e2 _ _ h1⟩) ?_ ?_
    · rintro i σ' H' hi ⟨⟨y, z, rfl⟩, e4, h4⟩
      have hi2 : i < l.length := by omega
      refine s_forR2 (lo := (i : Int) + 1) (n := (l.length : Int) + 1) (ea_cons (ev_op (ev_var rfl) ev_c rv_I0) (ea_cons (ev_op (ev_lenStr (ev_var rfl) (by omega)) ev_c rv_I0) ea_nil)) (by omega)
        (fun k σ' H' => (∃ z, σ' = [some (.str (S l)), some (.ref p), some (.int (i : Int)), z]) ∧ Ex H H' ∧ H' p = some (.dK (kvsT ((subsTo l i ++ subsAt l i k).foldl addT [[]]))))
        (fun H2 e2 => ⟨⟨z, rfl⟩, e4.trans e2, by rw [subsAt_zero, List.append_nil]; exact e2 _ _ h4⟩) ?_ ?_
      · rintro k σ' H5 hk ⟨⟨z, rfl⟩, e5, h5⟩
        refine s_putT (l := (l.drop i).take (k + 1)) ev_c (ev_var rfl) (ev_is (ev_mid (j := i + 1 + k) (ev_var rfl) (ev_var rfl) (ev_is (ev_var rfl) (congrArg V.int (by omega))) (by omega)) (by rw [show i + 1 + k - i = k + 1 by omega])) h5 ?_ fun H6 e6 => ⟨⟨_, rfl⟩, ?_, ?_⟩
        · exact parts_len (by omega) (by omega) (by omega)
        · exact Ex.mut (e5.trans e6) hp
        · rw [upd_same, subsAt_succ]
          simp only [List.foldl_append, List.foldl_cons, List.foldl_nil]
      · rintro σ' H5 ⟨⟨z, rfl⟩, e5, h5⟩
        have e0 : ((l.length : Int) + 1 - ((i : Int) + 1)).toNat = l.length - i := by omega
        rw [e0] at h5
        exact ⟨⟨_, _, rfl⟩, e5, by rw [subsTo_succ]; exact h5⟩
    · rintro σ' H' ⟨⟨y, z, rfl⟩, e4, h4⟩
      rw [Int.toNat_natCast] at h4
      exact s_ret (ev_var rfl) fun H5 e5 => q p H5 hp (e4.trans e5) (e5 _ _ h4)
end

end TY
namespace TY
open PySem PySem.Spec PyProof.Rows L2 Evl
abbrev s__law_parts : Stmt := topS 13
theorem sc__law_parts : FnScope ["_law_text_here", "_law_found", "_law_first", "_law_last", "_law_size", "_law_part"] ["_law_text_here"] (defScope s__law_parts) := ⟨rfl, rfl, rfl, by decide +kernel, rfl, by decide +kernel, by decide +kernel⟩
section
variable {P : Program} {w : World} {K : PySem.W.Frag} {mg : Str → Option Value} {base : Heap}
theorem ok__law_parts {f : Addr} {fd : FuncData} (F : Fun K "_law_parts" "_law_parts" s__law_parts f fd) (T_ : Nm mg) : FnOk P w K mg base CX0 1 f fd ["_law_text_here"] (spList sortedParts) := by
  refine F.ok sc__law_parts (fun vs H Q E h => ?_) (fun cdv A outer s H vs Q E hr h => ?_)
  · obtain ⟨l, rfl, _⟩ := h
    rfl
  · obtain ⟨l, rfl, hl, q⟩ := h
    refine ⟨_, (pss_cons (ps_set (i := 1) sc__law_parts.nd rfl (.inl rfl) (pe_disp (pps_cons pe_str pe_bl pps_nil) (by rfl) (by rfl) (fun z => by cases z) (by decide)))
      (pss_cons (ps_for PassesOwn.never rfl (pi_range1 (by rfl) T_.n_range (pa_cons (pe_callB call_len_str (by rfl) T_.n_len PySem.boot_len (pa_cons (pv 0) pa_nil)) pa_nil)) (pg_name (i := 2) sc__law_parts.nd rfl (.inl rfl))
      (pss_one (ps_for PassesOwn.never rfl (pi_range2 (by rfl) T_.n_range (pa_cons (pe_op op_add (pv 2) pe_int) (pa_cons (pe_op op_add (pe_callB call_len_str (by rfl) T_.n_len PySem.boot_len (pa_cons (pv 0) pa_nil)) pe_int) pa_nil))) (pg_name (i := 3) sc__law_parts.nd rfl (.inl rfl))
      (pss_one (ps_dput (hu_of hr) (pv 1) (pe_slice sl_str (pv 0) (po_some (pv 2)) (po_some (pv 3))) pe_bl rfl)))))
      (pss_one (ps_ret (pe_lc (own := [("_law_size", 4), ("_law_part", 5)]) (g := gTup K 2 (gCons (gName 4) (gCons (gName 5) gNil))) (tt := tYes) rfl sc__law_parts.nd (pi_listK K (pe_callB (kC K rSortedA (cr_sortedA (hu64 hr))) (by rfl) T_.n_sorted bt_sorted (pa_cons (pe_lock (pe_lc (own := [("_law_part", 5)]) (g := gName 5) (tt := tYes) rfl sc__law_parts.nd (pi_keys (pv 1)) (blkOk_by (N := ["_law_text_here", "_law_found", "_law_first", "_law_last", "_law_size", "_law_part"]) (sc := defScope s__law_parts) (by decide +kernel)) (fun _ _ _ _ _ => (pg_name (i := 5) sc__law_parts.nd rfl (Or.inl rfl))) (fun _ _ _ _ _ => pts_nil) (fun _ _ _ _ _ => (pe_tup (pa_cons (pe_callB call_len_str (by rfl) T_.n_len PySem.boot_len (pa_cons (pv 5) pa_nil)) (pa_cons (pv 5) pa_nil)))))) pa_nil))) (blkOk_by (N := ["_law_text_here", "_law_found", "_law_first", "_law_last", "_law_size", "_law_part"]) (sc := defScope s__law_parts) (by decide +kernel)) (fun _ _ _ _ _ => (pg_tup rfl (pgs_cons (pg_name (i := 4) sc__law_parts.nd rfl (Or.inl rfl)) (pgs_cons (pg_name (i := 5) sc__law_parts.nd rfl (Or.inl rfl)) pgs_nil)))) (fun _ _ _ _ _ => pts_nil) (fun _ _ _ _ _ => (pv 5))))))), ?_⟩
    refine q_asgT (edt_one (l := []) (fun H' => ev_is ev_c rfl) (fun H' => ev_c)) fun p H1 hp e1 h1 => ?_
    refine q_forR1 (n := (l.length : Int)) (ea_cons (ev_lenStr (ev_var rfl) (by omega)) ea_nil) (by omega)
      (fun i σ' H' => (∃ y z, σ' = [some (.str (S l)), some (.ref p), y, z, none, none]) ∧ Ex H H' ∧ H' p = some (.dK (kvsT ((subsTo l i).foldl addT [[]]))))
      (fun H2 e2 => ⟨⟨none, none, rfl⟩, e1.trans e2, e2 _ _ h1⟩) ?_ ?_
    · rintro i σ' H' hi ⟨⟨y, z, rfl⟩, e4, h4⟩
      have hi2 : i < l.length := by omega
      refine s_forR2 (lo := (i : Int) + 1) (n := (l.length : Int) + 1) (ea_cons (ev_op (ev_var rfl) ev_c rv_I0) (ea_cons (ev_op (ev_lenStr (ev_var rfl) (by omega)) ev_c rv_I0) ea_nil)) (by omega)
        (fun k σ' H' => (∃ z, σ' = [some (.str (S l)), some (.ref p), some (.int (i : Int)), z, none, none]) ∧ Ex H H' ∧ H' p = some (.dK (kvsT ((subsTo l i ++ subsAt l i k).foldl addT [[]]))))
        (fun H2 e2 => ⟨⟨z, rfl⟩, e4.trans e2, by rw [subsAt_zero, List.append_nil]; exact e2 _ _ h4⟩) ?_ ?_
      · rintro k σ' H5 hk ⟨⟨z, rfl⟩, e5, h5⟩
        refine s_putT (l := (l.drop i).take (k + 1)) ev_c (ev_var rfl) (ev_is (ev_mid (j := i + 1 + k) (ev_var rfl) (ev_var rfl) (ev_is (ev_var rfl) (congrArg V.int (by omega))) (by omega)) (by rw [show i + 1 + k - i = k + 1 by omega])) h5 ?_ fun H6 e6 => ⟨⟨_, rfl⟩, ?_, ?_⟩
        · exact parts_len (by omega) (by omega) (by omega)
        · exact Ex.mut (e5.trans e6) hp
        · rw [upd_same, subsAt_succ]
          simp only [List.foldl_append, List.foldl_cons, List.foldl_nil]
      · rintro σ' H5 ⟨⟨z, rfl⟩, e5, h5⟩
        have e0 : ((l.length : Int) + 1 - ((i : Int) + 1)).toNat = l.length - i := by omega
        rw [e0] at h5
        exact ⟨⟨_, _, rfl⟩, e5, by rw [subsTo_succ]; exact h5⟩
    · rintro σ' H' ⟨⟨y, z, rfl⟩, e4, h4⟩
      rw [Int.toNat_natCast] at h4
      have hz := allParts_len hl
      refine s_retN (ds := (sortedParts l).map fun l => .str (S l)) ?_ fun r xs H5 hr e5 h5 hx => q r xs H5 (fresh_back e4 hr) (e4.trans e5) h5 hx
      have e0 : (sortedParts l).map (fun l => PyData.str (S l)) = ((sortedParts l).filter fun _ => true).map fun l => .str (S l) := by rw [List.filter_eq_self.mpr (fun _ _ => rfl)]
      rw [e0]
      refine en_lcA rk (sortedParts l) (fun _ => true) (fun l => .str (S l)) (ei_new ?_) (by unfold sortedParts; rw [ranked_len]; omega) fun k hk x H5 e5 hx => ?_
      · unfold sortedParts
        rw [← rk_sort]
        refine en_sortedA ?_ (rk_alike _) (rk_sortable _) (by rw [List.length_map]; omega) (fun d hd => by
          obtain ⟨k, _, rfl⟩ := List.mem_map.mp hd
          exact rk_depth k)
        refine en_lock h4 (by trivial) fun o => ?_
        have e1 : (allParts l).map rk = ((allParts l).filter fun _ => true).map rk := by rw [List.filter_eq_self.mpr (fun _ _ => rfl)]
        rw [e1]
        exact en_lcS (allParts l) (fun _ => true) rk (ei_keys (ev_var rfl) upd_same) (by omega) fun k hk H5 e5 => ⟨et_yes, fun _ => ed_tup (ead_cons (ed_int (ev_lenStr (ev_var rfl) (by have := allParts_le hk; omega))) (ead_cons (ed_str (ev_var rfl)) ead_nil)) (Nat.le_of_ble_eq_true rfl)⟩
      · obtain ⟨a, ys, rfl, ha, hy⟩ := hx.tup_
        cases hy with
        | cons y1 hy =>
          cases hy with
          | cons y2 hy =>
            cases hy
            cases y1.int_
            cases y2.str_
            exact ⟨_, bnd_pair ha, rfl, et_yes, fun _ => ed_str (ev_var rfl)⟩
end

end TY
namespace TY
open PySem PySem.Spec PyProof.Rows L2 Evl
/-! ### where -/
def rngV (n : Nat) : List Int := (List.range n).map fun (i : Nat) => (i : Int)
theorem rngV_mem {n : Nat} {x : Int} (h : x ∈ rngV n) : 0 ≤ x ∧ x < n := by
  obtain ⟨i, hi, rfl⟩ := List.mem_map.mp h
  have := List.mem_range.mp hi
  omega
theorem rngV_len (n : Nat) : (rngV n).length = n := by simp [rngV]
theorem ei_rngV {σ : L2.St} {H : Hp} {tA : TA} {n : Nat} (h : EvA tA σ H [.int (n : Int)]) (hn : n ≤ 40000) : EvI (iRng1 tA) σ H ((rngV n).map .int) := by
  have q := ei_rng1 h hn
  unfold rngV
  rw [List.map_map]
  exact q
def whereV (t p : List Nat) : List Int := (rngV (t.length + 1)).filter fun s => decide ((t.drop s.toNat).take p.length = p)
theorem whereV_len (t p : List Nat) : (whereV t p).length ≤ t.length + 1 := by
  have h1 := List.length_filter_le (fun s : Int => decide ((t.drop s.toNat).take p.length = p)) (rngV (t.length + 1))
  rw [rngV_len] at h1
  exact h1
def spWhere : Sp := fun vs H Q _ => ∃ t p : List Nat, vs = [.str (S t), .str (S p)] ∧ t.length ≤ 100 ∧ p.length ≤ 1000 ∧ ∀ v H', Ex H H' → Td H' v (.tuple ((whereV t p).map .int)) → Q v H'
theorem sd_where {H : Hp} {t p : List Nat} (ht : t.length ≤ 100) (hp : p.length ≤ 1000) : SpD spWhere [.str (S t), .str (S p)] H (.tuple ((whereV t p).map .int)) := fun H1 e Q q E => ⟨t, p, rfl, ht, hp, q⟩
abbrev s_where : Stmt := topS 2
theorem sc_where : FnScope ["text", "part", "at"] ["text", "part"] (defScope s_where) := ⟨rfl, rfl, rfl, by decide +kernel, rfl, by decide +kernel, by decide +kernel⟩
section
variable {P : Program} {w : World} {K : PySem.W.Frag} {mg : Str → Option Value} {base : Heap}
theorem ok_where {f : Addr} {fd : FuncData} (F : Fun K "where" "where" s_where f fd) (T_ : Nm mg) : FnOk P w K mg base CX0 1 f fd ["text", "part"] spWhere := by
  refine F.ok sc_where (fun vs H Q E h => ?_) (fun cdv A outer s H vs Q E hr h => ?_)
  · obtain ⟨t, p, rfl, _⟩ := h
    rfl
  · obtain ⟨t, p, rfl, ht, hp, q⟩ := h
    refine ⟨_, (pss_one (ps_ret (pe_tupleOfK K (by rfl) T_.n_tuple (pe_lc (own := [("at", 2)]) (g := gName 2) rfl sc_where.nd (pi_range1 (by rfl) T_.n_range (pa_cons (pe_op op_add (pe_callB call_len_str (by rfl) T_.n_len PySem.boot_len (pa_cons (pv 0) pa_nil)) pe_int) pa_nil)) (blkOk_by (N := ["text", "part", "at"]) (sc := defScope s_where) (by decide +kernel)) (fun _ _ _ _ _ => (pg_name (i := 2) sc_where.nd rfl (Or.inl rfl))) (fun _ _ _ _ _ => (pts_one (pt_cmpR op_eq (pe_slice sl_str (pv 0) (po_some (pv 2)) (po_some (pe_op op_add (pv 2) (pe_callB call_len_str (by rfl) T_.n_len PySem.boot_len (pa_cons (pv 1) pa_nil))))) (pv 1) (nomark _)))) (fun _ _ _ _ _ => (pv 2)))))), ?_⟩
    refine s_retD (d := .tuple ((whereV t p).map .int)) (ed_tupOf (en_lcI (rngV (t.length + 1)) (fun s => decide ((t.drop s.toNat).take p.length = p)) .int (ei_rngV (ea_cons (ev_op (ev_lenStr (ev_var rfl) (by omega)) ev_c rv_I0) ea_nil) (by omega)) (by rw [rngV_len]; omega) fun s hs H1 e1 => ?_)) q
    have h1 := rngV_mem hs
    obtain ⟨k, rfl⟩ : ∃ k : Nat, s = (k : Int) := ⟨s.toNat, by omega⟩
    refine ⟨et_test (ev_eqS (ev_is (ev_mid (i := k) (j := k + p.length) (ev_var rfl) (ev_var rfl) (ev_op (ev_var rfl) (ev_lenStr (ev_var rfl) (by omega)) rv_I0) (by omega)) ?_) (ev_var rfl)), fun _ => ed_int (ev_var rfl)⟩
    rw [Int.toNat_natCast, show k + p.length - k = p.length by omega]
end

end TY
namespace TY
open PySem PySem.Spec PyProof.Rows L2 Evl
abbrev s__law_where : Stmt := topS 14
theorem sc__law_where : FnScope ["_law_text_here", "_law_part", "_law_at"] ["_law_text_here", "_law_part"] (defScope s__law_where) := ⟨rfl, rfl, rfl, by decide +kernel, rfl, by decide +kernel, by decide +kernel⟩
section
variable {P : Program} {w : World} {K : PySem.W.Frag} {mg : Str → Option Value} {base : Heap}
theorem ok__law_where {f : Addr} {fd : FuncData} (F : Fun K "_law_where" "_law_where" s__law_where f fd) (T_ : Nm mg) : FnOk P w K mg base CX0 1 f fd ["_law_text_here", "_law_part"] spWhere := by
  refine F.ok sc__law_where (fun vs H Q E h => ?_) (fun cdv A outer s H vs Q E hr h => ?_)
  · obtain ⟨t, p, rfl, _⟩ := h
    rfl
  · obtain ⟨t, p, rfl, ht, hp, q⟩ := h
    refine ⟨_, (pss_one (ps_ret (pe_tupleOfK K (by rfl) T_.n_tuple (pe_lc (own := [("_law_at", 2)]) (g := gName 2) rfl sc__law_where.nd (pi_range1 (by rfl) T_.n_range (pa_cons (pe_op op_add (pe_callB call_len_str (by rfl) T_.n_len PySem.boot_len (pa_cons (pv 0) pa_nil)) pe_int) pa_nil)) (blkOk_by (N := ["_law_text_here", "_law_part", "_law_at"]) (sc := defScope s__law_where) (by decide +kernel)) (fun _ _ _ _ _ => (pg_name (i := 2) sc__law_where.nd rfl (Or.inl rfl))) (fun _ _ _ _ _ => (pts_one (pt_cmpR op_eq (pe_slice sl_str (pv 0) (po_some (pv 2)) (po_some (pe_op op_add (pv 2) (pe_callB call_len_str (by rfl) T_.n_len PySem.boot_len (pa_cons (pv 1) pa_nil))))) (pv 1) (nomark _)))) (fun _ _ _ _ _ => (pv 2)))))), ?_⟩
    refine s_retD (d := .tuple ((whereV t p).map .int)) (ed_tupOf (en_lcI (rngV (t.length + 1)) (fun s => decide ((t.drop s.toNat).take p.length = p)) .int (ei_rngV (ea_cons (ev_op (ev_lenStr (ev_var rfl) (by omega)) ev_c rv_I0) ea_nil) (by omega)) (by rw [rngV_len]; omega) fun s hs H1 e1 => ?_)) q
    have h1 := rngV_mem hs
    obtain ⟨k, rfl⟩ : ∃ k : Nat, s = (k : Int) := ⟨s.toNat, by omega⟩
    refine ⟨et_test (ev_eqS (ev_is (ev_mid (i := k) (j := k + p.length) (ev_var rfl) (ev_var rfl) (ev_op (ev_var rfl) (ev_lenStr (ev_var rfl) (by omega)) rv_I0) (by omega)) ?_) (ev_var rfl)), fun _ => ed_int (ev_var rfl)⟩
    rw [Int.toNat_natCast, show k + p.length - k = p.length by omega]
end

end TY
namespace TY
open PySem PySem.Spec PyProof.Rows L2 Evl
/-! ### longest, missing: the plain law -/
/-- m is the first in order of the longest -/
def FirstOf (m : List Nat) (ls : List (List Nat)) : Prop := m ∈ ls ∧ (∀ y ∈ ls, y.length ≤ m.length) ∧ ∀ y ∈ ls, y.length = m.length → m ≤ y
theorem min_ex : ∀ (ls : List (List Nat)), ls ≠ [] → ∃ m, m ∈ ls ∧ ∀ y ∈ ls, m ≤ y
  | [], h => absurd rfl h
  | x :: xs, _ => by
    obtain ⟨m, _, h2, h3⟩ := minD_strs xs x
    exact ⟨m, h2, h3⟩
theorem longest_ex : ∀ (ls : List (List Nat)), ls ≠ [] → ∃ m, m ∈ ls ∧ ∀ y ∈ ls, y.length ≤ m.length
  | [], h => absurd rfl h
  | [x], _ => ⟨x, List.mem_cons_self, fun y hy => by rw [List.mem_singleton] at hy; rw [hy]; exact Nat.le_refl _⟩
  | x :: y :: r, _ => by
    obtain ⟨m, h1, h2⟩ := longest_ex (y :: r) (by simp)
    by_cases h : m.length ≤ x.length
    · refine ⟨x, List.mem_cons_self, fun z hz => ?_⟩
      rcases List.mem_cons.mp hz with e | e
      · rw [e]
        exact Nat.le_refl _
      · exact Nat.le_trans (h2 z e) h
    · refine ⟨m, List.mem_cons_of_mem _ h1, fun z hz => ?_⟩
      rcases List.mem_cons.mp hz with e | e
      · rw [e]
        omega
      · exact h2 z e
theorem first_ex {ls : List (List Nat)} (h : ls ≠ []) : ∃ m, FirstOf m ls := by
  obtain ⟨x, hx, hl⟩ := longest_ex ls h
  have hne : ls.filter (fun y => decide (y.length = x.length)) ≠ [] := List.ne_nil_of_mem (List.mem_filter.mpr ⟨hx, decide_eq_true rfl⟩)
  obtain ⟨m, hm, hle⟩ := min_ex _ hne
  have hm' := List.mem_filter.mp hm
  have hml := of_decide_eq_true hm'.2
  exact ⟨m, hm'.1, fun y hy => by rw [hml]; exact hl y hy, fun y hy e => hle y (List.mem_filter.mpr ⟨hy, decide_eq_true (by rw [e, hml])⟩)⟩
theorem FirstOf.congr {m : List Nat} {ls ks : List (List Nat)} (h : FirstOf m ls) (e : ∀ x, x ∈ ks ↔ x ∈ ls) : FirstOf m ks := ⟨(e m).mpr h.1, fun y hy => h.2.1 y ((e y).mp hy), fun y hy => h.2.2 y ((e y).mp hy)⟩
/-- all words of a size -/
def wordsV (a : List Nat) : Nat → List (List Nat)
  | 0 => [[]]
  | n + 1 => (wordsV a n).flatMap fun w => a.map fun c => w ++ [c]
theorem words_len {a : List Nat} : ∀ {n : Nat} {w : List Nat}, w ∈ wordsV a n → w.length = n
  | 0, w, h => by
    rw [wordsV, List.mem_singleton] at h
    rw [h]
    rfl
  | n + 1, w, h => by
    rw [wordsV, List.mem_flatMap] at h
    obtain ⟨u, hu, h⟩ := h
    obtain ⟨c, _, rfl⟩ := List.mem_map.mp h
    rw [List.length_append, words_len hu]
    rfl
theorem words_sub {a : List Nat} : ∀ {n : Nat} {w : List Nat}, w ∈ wordsV a n → ∀ c ∈ w, c ∈ a
  | 0, w, h, c, hc => by
    rw [wordsV, List.mem_singleton] at h
    rw [h] at hc
    cases hc
  | n + 1, w, h, c, hc => by
    rw [wordsV, List.mem_flatMap] at h
    obtain ⟨u, hu, h⟩ := h
    obtain ⟨d, hd, rfl⟩ := List.mem_map.mp h
    rcases List.mem_append.mp hc with z | z
    · exact words_sub hu c z
    · rw [List.mem_singleton] at z
      rw [z]
      exact hd
theorem words_ne {a : List Nat} (ha : a ≠ []) : ∀ n, wordsV a n ≠ []
  | 0 => by simp [wordsV]
  | n + 1 => by
    obtain ⟨w, hw⟩ := List.exists_mem_of_ne_nil _ (words_ne ha n)
    obtain ⟨c, hc⟩ := List.exists_mem_of_ne_nil _ ha
    refine List.ne_nil_of_mem (a := w ++ [c]) ?_
    rw [wordsV, List.mem_flatMap]
    exact ⟨w, hw, List.mem_map.mpr ⟨c, hc, rfl⟩⟩
theorem flat_len (a : List Nat) : ∀ ws : List (List Nat), (ws.flatMap fun w => a.map fun c => w ++ [c]).length = ws.length * a.length
  | [] => by simp
  | w :: ws => by
    rw [List.flatMap_cons, List.length_append, flat_len a ws, List.length_map, List.length_cons, Nat.add_mul, Nat.one_mul]
    omega
theorem words_count (a : List Nat) (n : Nat) : (wordsV a (n + 1)).length = (wordsV a n).length * a.length := flat_len a _
theorem lt_app : ∀ {u v : List Nat}, u.length = v.length → u < v → ∀ x y, u ++ x < v ++ y
  | [], [], _, h, _, _ => absurd h (by simp)
  | [], b :: v, e, _, _, _ => by simp at e
  | a :: u, [], e, _, _, _ => by simp at e
  | a :: u, b :: v, e, h, x, y => by
    rw [List.cons_append, List.cons_append, List.cons_lt_cons_iff]
    rcases List.cons_lt_cons_iff.mp h with h | ⟨h1, h2⟩
    · exact .inl h
    · exact .inr ⟨h1, lt_app (by simpa using e) h2 x y⟩
theorem lt_pre : ∀ (u : List Nat) {x y : List Nat}, x < y → u ++ x < u ++ y
  | [], _, _, h => h
  | a :: u, _, _, h => List.cons_lt_cons_iff.mpr (.inr ⟨rfl, lt_pre u h⟩)
theorem words_sorted {a : List Nat} (ha : a.Pairwise (· < ·)) : ∀ n, (wordsV a n).Pairwise (· < ·)
  | 0 => List.pairwise_singleton _ _
  | n + 1 => by
    rw [wordsV, List.pairwise_flatMap]
    refine ⟨fun w _ => ?_, ?_⟩
    · rw [List.pairwise_map]
      exact ha.imp fun h => lt_pre w (List.cons_lt_cons_iff.mpr (.inl h))
    · refine List.Pairwise.imp_of_mem ?_ (words_sorted ha n)
      intro u v hu hv h x hx y hy
      obtain ⟨c, _, rfl⟩ := List.mem_map.mp hx
      obtain ⟨d, _, rfl⟩ := List.mem_map.mp hy
      exact lt_app (by rw [words_len hu, words_len hv]) h _ _
theorem words_nodup {a : List Nat} (ha : a.Pairwise (· < ·)) (n : Nat) : (wordsV a n).Nodup := (words_sorted ha n).imp fun h e => by
  rw [e] at h
  exact absurd h (List.lt_irrefl _)
theorem nodup_len : ∀ {xs ys : List (List Nat)}, xs.Nodup → (∀ x ∈ xs, x ∈ ys) → xs.length ≤ ys.length
  | [], _, _, _ => Nat.zero_le _
  | x :: xs, ys, hn, h => by
    have hn' := List.nodup_cons.mp hn
    have hx : x ∈ ys := h x List.mem_cons_self
    have h1 := nodup_len (ys := ys.erase x) hn'.2 fun y hy => (List.mem_erase_of_ne (fun e => hn'.1 (by rw [← e]; exact hy))).mpr (h y (List.mem_cons_of_mem _ hy))
    have h2 := List.length_erase_of_mem hx
    have h3 := List.length_pos_of_mem hx
    rw [List.length_cons]
    omega
/-- as many as parts, where all are parts -/
theorem words_few {a l : List Nat} {n : Nat} (ha : a.Pairwise (· < ·)) (h : ∀ w ∈ wordsV a n, w ∈ allParts l) : (wordsV a n).length ≤ (allParts l).length := nodup_len (words_nodup ha n) h
theorem parts_few {l : List Nat} (h : l.length ≤ 20) : (allParts l).length ≤ 401 := by
  have h1 := foldl_addT_len (subsTo l l.length) [[]]
  have h2 := subsTo_len l l.length
  have h3 : l.length * l.length ≤ 20 * 20 := Nat.mul_le_mul h h
  rw [List.length_singleton] at h1
  unfold allParts
  omega
/-- the words that are no parts -/
def outV (a l : List Nat) (n : Nat) : List (List Nat) := (wordsV a n).filter fun w => !decide (w ∈ allParts l)
def AllIn (a l : List Nat) (n : Nat) : Prop := ∀ w ∈ wordsV a n, w ∈ allParts l
theorem allIn_small {a l : List Nat} (ha : a ≠ []) {n : Nat} (h : AllIn a l n) : n ≤ l.length := by
  obtain ⟨w, hw⟩ := List.exists_mem_of_ne_nil _ (words_ne ha n)
  have h1 := allParts_le (h w hw)
  rw [words_len hw] at h1
  exact h1
theorem words_bound {a l : List Nat} (ha : a.Pairwise (· < ·)) (hal : a.length ≤ 3) (hl : l.length ≤ 20) : ∀ n, (∀ j, j < n → AllIn a l j) → (wordsV a n).length ≤ 1203
  | 0, _ => by simp [wordsV]
  | n + 1, h => by
    have h1 := words_few ha (h n (Nat.lt_succ_self n))
    have h2 := parts_few hl
    rw [words_count]
    have : (wordsV a n).length * a.length ≤ 401 * 3 := Nat.mul_le_mul (by omega) hal
    omega
/-- of all shorter words none is missing; m is the first in order that is -/
theorem out_first {a l : List Nat} (ha : a.Pairwise (· < ·)) {n : Nat} {m : List Nat} (h : (outV a l n)[0]? = some m) : m ∈ wordsV a n ∧ m ∉ allParts l ∧ (wordsV a n).filter (fun w => decide (w < m) && !decide (w ∈ allParts l)) = [] := by
  have hm : m ∈ outV a l n := List.mem_of_getElem? h
  obtain ⟨h1, h2⟩ := List.mem_filter.mp hm
  refine ⟨h1, by simpa using h2, ?_⟩
  rw [List.filter_eq_nil_iff]
  intro w hw z
  rw [Bool.and_eq_true] at z
  have hlt := of_decide_eq_true z.1
  have hwo : w ∈ outV a l n := List.mem_filter.mpr ⟨hw, z.2⟩
  have hs : (outV a l n).Pairwise (· < ·) := (words_sorted ha n).filter _
  cases hO : outV a l n with
  | nil =>
    rw [hO] at hm
    cases hm
  | cons x xs =>
    rw [hO] at h hs hwo
    have hx : x = m := by simpa using h
    subst hx
    rcases List.mem_cons.mp hwo with e | e
    · rw [e] at hlt
      exact List.lt_irrefl _ hlt
    · exact List.lt_irrefl _ (List.lt_trans hlt ((List.pairwise_cons.mp hs).1 w e))
theorem out_some {a l : List Nat} {n : Nat} (h : ¬ AllIn a l n) : ∃ m, (outV a l n)[0]? = some m := by
  have hne : outV a l n ≠ [] := by
    intro z
    apply h
    intro w hw
    unfold outV at z
    rw [List.filter_eq_nil_iff] at z
    have := z w hw
    simpa using this
  obtain ⟨x, xs, e⟩ := List.exists_cons_of_ne_nil hne
  exact ⟨x, by rw [e]; rfl⟩

end TY
namespace TY
open PySem PySem.Spec PyProof.Rows L2 Evl
abbrev strD (l : List Nat) : PyData := .str (S l)
abbrev strV (l : List Nat) : V := .str (S l)
theorem td_strs (H : Hp) (ls : List (List Nat)) : TdAll H (ls.map strV) (ls.map strD) := by
  have := TdAll.of_strs (H := H) (ls.map S)
  rw [List.map_map, List.map_map] at this
  exact this
theorem strs_of {H : Hp} {xs : List V} {ls : List (List Nat)} (h : TdAll H xs (ls.map strD)) : xs = ls.map strV := by
  have h5 : TdAll H xs ((ls.map S).map PyData.str) := by
    rw [List.map_map]
    exact h
  have h6 := h5.strs
  rw [List.map_map] at h6
  exact h6
def spFirst : Sp := fun vs H Q _ => ∃ (p : Addr) (ls : List (List Nat)) (m : List Nat), vs = [.ref p] ∧ H p = some (.lst (ls.map strV)) ∧ FirstOf m ls ∧ ls.length ≤ 40000 ∧ (∀ l ∈ ls, l.length ≤ 1000) ∧ ∀ H', Ex H H' → Q (.str (S m)) H'
def twiceP (l : List Nat) : List (List Nat) := [] :: (allParts l).filter fun p => decide ((1 : Int) < ((whereV l p).length : Int)) && !decide (p = [])
def sharedP (a b : List Nat) : List (List Nat) := (allParts a).filter fun p => decide (p ∈ allParts b)
def spTwice : Sp := fun vs H Q _ => ∃ l m : List Nat, vs = [.str (S l)] ∧ l.length ≤ 20 ∧ FirstOf m (twiceP l) ∧ ∀ H', Ex H H' → Q (.str (S m)) H'
def spShared : Sp := fun vs H Q _ => ∃ a b m : List Nat, vs = [.str (S a), .str (S b)] ∧ a.length ≤ 20 ∧ b.length ≤ 20 ∧ FirstOf m (sharedP a b) ∧ ∀ H', Ex H H' → Q (.str (S m)) H'
def growV (a : List Nat) (ws : List (List Nat)) : List (List Nat) := ws.flatMap fun w => a.map fun c => w ++ [c]
def spLonger : Sp := fun vs H Q _ => ∃ (p : Addr) (ws : List (List Nat)) (a : List Nat), vs = [.ref p, .str (S a)] ∧ H p = some (.lst (ws.map strV)) ∧ a.length ≤ 3 ∧ ws.length ≤ 2000 ∧ (∀ w ∈ ws, w.length ≤ 1000) ∧ ∀ r H', H r = none → Ex H H' → H' r = some (.lst ((growV a ws).map strV)) → Q (.ref r) H'
def spMissing : Sp := fun vs H Q _ => ∃ (l a : List Nat) (n : Nat) (m : List Nat), vs = [.str (S l), .str (S a)] ∧ l.length ≤ 20 ∧ a ≠ [] ∧ a.length ≤ 3 ∧ a.Pairwise (· < ·) ∧ (∀ j, j < n → AllIn a l j) ∧ ¬ AllIn a l n ∧ (outV a l n)[0]? = some m ∧ ∀ H', Ex H H' → Q (.str (S m)) H'
section
variable {K : PySem.W.Frag} {σ : L2.St} {H : Hp} {te : TE} {ds : List PyData} {sp : Sp} {z : V} {E : XK}
theorem ev_callN (h : EvN te σ H ds) (hs : ∀ p xs H1, Ex H H1 → H1 p = some (.lst xs) → TdAll H1 xs ds → SpV sp [.ref p] H1 z) : Ev (tCall sp [] E (tCons te tNil)) σ H z := fun H1 e Q q =>
  h H1 e _ fun p xs H2 hp e2 h2 hx => by
    show sp ([V.ref p] ++ []) H2 Q E
    exact hs p xs H2 (e.trans e2) h2 hx H2 (Ex.refl H2) Q (fun H3 e3 => q H3 (e2.trans e3)) E
end
theorem growV_take {a : List Nat} {ws : List (List Nat)} {i : Nat} {w : List Nat} (h : ws[i]? = some w) : growV a (ws.take (i + 1)) = growV a (ws.take i) ++ a.map fun c => w ++ [c] := by
  unfold growV
  rw [List.take_add_one, h, List.flatMap_append]
  simp
theorem growV_len (a : List Nat) (ws : List (List Nat)) : (growV a ws).length = ws.length * a.length := flat_len a ws
abbrev s_first_longest : Stmt := topS 3
theorem sc_first_longest : FnScope ["some", "longest", "part"] ["some"] (defScope s_first_longest) := ⟨rfl, rfl, rfl, by decide +kernel, rfl, by decide +kernel, by decide +kernel⟩
abbrev s_longest_twice : Stmt := topS 4
theorem sc_longest_twice : FnScope ["text", "part"] ["text"] (defScope s_longest_twice) := ⟨rfl, rfl, rfl, by decide +kernel, rfl, by decide +kernel, by decide +kernel⟩
abbrev s_longest_shared : Stmt := topS 5
theorem sc_longest_shared : FnScope ["one", "other", "there", "part"] ["one", "other"] (defScope s_longest_shared) := ⟨rfl, rfl, rfl, by decide +kernel, rfl, by decide +kernel, by decide +kernel⟩
abbrev s_longer : Stmt := topS 6
theorem sc_longer : FnScope ["words", "letters", "found", "word", "letter"] ["words", "letters"] (defScope s_longer) := ⟨rfl, rfl, rfl, by decide +kernel, rfl, by decide +kernel, by decide +kernel⟩
abbrev s_missing : Stmt := topS 7
theorem sc_missing : FnScope ["text", "letters", "there", "words", "word"] ["text", "letters"] (defScope s_missing) := ⟨rfl, rfl, rfl, by decide +kernel, rfl, by decide +kernel, by decide +kernel⟩
section
variable {P : Program} {w : World} {K : PySem.W.Frag} {mg : Str → Option Value} {base : Heap}
theorem en_letters {σ : L2.St} {H : Hp} {ta te : TE} {j : Nat} {vs : List Nat} {a w : List Nat} (h : EvI (iStr ta) σ H (a.map fun c => .str (S [c]))) (ha : a.length ≤ 40000) (hb : ∀ c ∈ a, ∀ H1, Ex H H1 → Ev te ((wipe σ vs).set j (some (.str (S [c])))) H1 (.str (S (w ++ [c]))))
    (hw : ∀ x, wipe ((wipe σ vs).set j (some x)) vs = wipe σ vs := by intro _; rfl) : EvN (tLc (iStr ta) (gName j) tYes te vs) σ H ((a.map fun c => w ++ [c]).map strD) := by
  have e0 : (a.map fun c => w ++ [c]).map strD = (a.filter fun _ => true).map fun c => .str (S (w ++ [c])) := by
    rw [List.filter_eq_self.mpr (fun _ _ => rfl), List.map_map]
    rfl
  rw [e0]
  refine en_lcA (fun c => PyData.str (S [c])) a (fun _ => true) _ h ha fun c hc x H1 e1 hx => ?_
  cases hx.str_
  exact ⟨_, bnd_name, hw _, et_yes, fun _ => ed_str (hb c hc H1 e1)⟩
theorem ok_first_longest {f : Addr} {fd : FuncData} (F : Fun K "first_longest" "first_longest" s_first_longest f fd) (T_ : Nm mg) : FnOk P w K mg base CX0 1 f fd ["some"] spFirst := by
  refine F.ok sc_first_longest (fun vs H Q E h => ?_) (fun cdv A outer s H vs Q E hr h => ?_)
  · obtain ⟨p, ls, m, rfl, _⟩ := h
    rfl
  · obtain ⟨p, ls, m, rfl, hp, hf, hz, hl, q⟩ := h
    refine ⟨_, (pss_cons (ps_set (i := 1) sc_first_longest.nd rfl (.inr rfl) (pe_callB (kC K rMax (cr_max rfl)) (by rfl) T_.n_max bt_max (pa_cons (pe_lc (own := [("part", 2)]) (g := gName 2) (tt := tYes) rfl sc_first_longest.nd (pi_listK K (pv 0)) (blkOk_by (N := ["some", "longest", "part"]) (sc := defScope s_first_longest) (by decide +kernel)) (fun _ _ _ _ _ => (pg_name (i := 2) sc_first_longest.nd rfl (Or.inl rfl))) (fun _ _ _ _ _ => pts_nil) (fun _ _ _ _ _ => (pe_callB call_len_str (by rfl) T_.n_len PySem.boot_len (pa_cons (pv 2) pa_nil)))) pa_nil)))
      (pss_one (ps_ret (pe_callB (kC K rMinS (cr_minS rfl (hu64 hr))) (by rfl) T_.n_min bt_min (pa_cons (pe_lc (own := [("part", 2)]) (g := gName 2) rfl sc_first_longest.nd (pi_listK K (pv 0)) (blkOk_by (N := ["some", "longest", "part"]) (sc := defScope s_first_longest) (by decide +kernel)) (fun _ _ _ _ _ => (pg_name (i := 2) sc_first_longest.nd rfl (Or.inl rfl))) (fun _ _ _ _ _ => (pts_one (pt_cmpR op_eq (pe_callB call_len_str (by rfl) T_.n_len PySem.boot_len (pa_cons (pv 2) pa_nil)) (pv 1) (nomark _)))) (fun _ _ _ _ _ => (pv 2))) pa_nil))))), ?_⟩
    refine q_asg (v := .int (m.length : Int)) (ev_maxI (ns := ls.map fun l => (l.length : Int)) ?_ (List.mem_map.mpr ⟨m, hf.1, rfl⟩) fun y hy => ?_) fun H1 e1 => ?_
    · have e0 : (ls.map fun l => (l.length : Int)).map PyData.int = (ls.filter fun _ => true).map fun l => PyData.int (l.length : Int) := by
        rw [List.filter_eq_self.mpr (fun _ _ => rfl), List.map_map]
        rfl
      rw [e0]
      exact en_lcS ls (fun _ => true) _ (ei_lst (ev_var rfl) hp (td_strs H ls)) (by omega) fun l hlm H1 e1 => ⟨et_yes, fun _ => ed_int (ev_lenStr (ev_var rfl) (by have := hl l hlm; omega))⟩
    · obtain ⟨l, hlm, rfl⟩ := List.mem_map.mp hy
      have := hf.2.1 l hlm
      omega
    · refine s_ret (v := .str (S m)) (ev_minS (ls := ls.filter fun y => decide ((y.length : Int) = (m.length : Int))) (en_lcS ls (fun y => decide ((y.length : Int) = (m.length : Int))) (fun l => .str (S l)) (ei_lst (ev_var rfl) (e1 _ _ hp) (td_strs H1 ls)) (by omega) fun l hlm H2 e2 => ⟨et_test (ev_eqI (ev_lenStr (ev_var rfl) (by have := hl l hlm; omega)) (ev_var rfl)), fun _ => ed_str (ev_var rfl)⟩) (List.mem_filter.mpr ⟨hf.1, decide_eq_true rfl⟩) fun y hy => ?_) fun H2 e2 => q H2 (e1.trans e2)
      obtain ⟨h1, h2⟩ := List.mem_filter.mp hy
      have := of_decide_eq_true h2
      exact hf.2.2 y h1 (by omega)
theorem ok_longest_twice {f : Addr} {fd : FuncData} (F : Fun K "longest_twice" "longest_twice" s_longest_twice f fd) (T_ : Nm mg) (c_all_parts : Cl P w K mg base 1 "all_parts" spAll) (c_where : Cl P w K mg base 1 "where" spWhere) (c_first_longest : Cl P w K mg base 1 "first_longest" spFirst) : FnOk P w K mg base CX0 2 f fd ["text"] spTwice := by
  refine F.ok sc_longest_twice (fun vs H Q E h => ?_) (fun cdv A outer s H vs Q E hr h => ?_)
  · obtain ⟨l, m, rfl, _⟩ := h
    rfl
  · obtain ⟨l, m, rfl, hl, hf, q⟩ := h
    refine ⟨_, (pss_one (ps_ret (pe_cl c_first_longest hr (by first | decide | omega) (by rfl) (pa_cons (pe_op op_cat (pe_lst (pa_cons pe_str pa_nil)) (pe_lc (own := [("part", 1)]) (g := gName 1) rfl sc_longest_twice.nd (pi_keysN (pe_cl c_all_parts hr (by first | decide | omega) (by rfl) (pa_cons (pv 0) pa_nil))) (blkOk_by (N := ["text", "part"]) (sc := defScope s_longest_twice) (by decide +kernel)) (fun _ _ _ _ _ => (pg_name (i := 1) sc_longest_twice.nd rfl (Or.inl rfl))) (fun _ _ _ _ _ => (pts_one (PW.pt (pw_and (pt_cmpR op_gt (pe_callB (kC K rLenS call_len_seq) (by rfl) T_.n_len PySem.boot_len (pa_cons (pe_cl c_where hr (by first | decide | omega) (by rfl) (pa_cons (pv 0) (pa_cons (pv 1) pa_nil))) pa_nil)) pe_int (nomark _)) (pw_and1 (pt_cmpR op_ne (pv 1) pe_str (nomark _))))))) (fun _ _ _ _ _ => (pv 1)))) pa_nil)))), ?_⟩
    have hz := allParts_len (l := l) (by omega)
    have hfl := List.length_filter_le (fun p => decide ((1 : Int) < ((whereV l p).length : Int)) && !decide (p = [])) (allParts l)
    refine s_ret (v := .str (S m)) (ev_callN (ds := (twiceP l).map strD) (en_cat (ds := [.str (S [])]) (es := ((allParts l).filter fun p => decide ((1 : Int) < ((whereV l p).length : Int)) && !decide (p = [])).map strD) (en_lst (ead_cons (ed_str (ev_is ev_c rfl)) ead_nil) (Nat.le_of_ble_eq_true rfl)) (en_lcS (allParts l) _ (fun p => .str (S p)) (ei_keysN (edt_call (ea_cons (ev_var rfl) ea_nil) (sdt_all (by omega)))) (by omega) fun p hp H1 e1 => ⟨?_, fun _ => ed_str (ev_var rfl)⟩) ?_) fun r xs H1 e1 h1 hx => ?_) q
    · have hpl := allParts_le hp
      exact et_and (et_test (ev_op (ev_is (ev_lenT (ed_call (ea_cons (ev_var rfl) (ea_cons (ev_var rfl) ea_nil)) (sd_where (by omega) (by omega)))) (congrArg (fun n : Nat => V.int (n : Int)) (List.length_map _))) ev_c rv_I0)) (fun _ => et_test (ev_neS (b := []) (ev_var rfl) (ev_is ev_c rfl)))
    · rw [List.length_singleton, List.length_map]
      omega
    · rw [strs_of hx] at h1
      refine fun H2 e2 Q2 q2 E2 => ⟨r, twiceP l, m, rfl, e2 _ _ h1, hf, ?_, fun y hy => ?_, fun H3 e3 => q2 H3 e3⟩
      · unfold twiceP
        rw [List.length_cons]
        omega
      · unfold twiceP at hy
        rcases List.mem_cons.mp hy with z | z
        · rw [z]
          exact Nat.zero_le _
        · have := allParts_le (List.mem_filter.mp z).1
          omega
theorem ok_longest_shared {f : Addr} {fd : FuncData} (F : Fun K "longest_shared" "longest_shared" s_longest_shared f fd) (T_ : Nm mg) (c_all_parts : Cl P w K mg base 1 "all_parts" spAll) (c_first_longest : Cl P w K mg base 1 "first_longest" spFirst) : FnOk P w K mg base CX0 2 f fd ["one", "other"] spShared := by
  refine F.ok sc_longest_shared (fun vs H Q E h => ?_) (fun cdv A outer s H vs Q E hr h => ?_)
  · obtain ⟨a, b, m, rfl, _⟩ := h
    rfl
  · obtain ⟨a, b, m, rfl, ha, hb, hf, q⟩ := h
    refine ⟨_, (pss_cons (ps_set (i := 2) sc_longest_shared.nd rfl (.inr rfl) (pe_cl c_all_parts hr (by first | decide | omega) (by rfl) (pa_cons (pv 1) pa_nil)))
      (pss_one (ps_ret (pe_cl c_first_longest hr (by first | decide | omega) (by rfl) (pa_cons (pe_lc (own := [("part", 3)]) (g := gName 3) rfl sc_longest_shared.nd (pi_keysN (pe_cl c_all_parts hr (by first | decide | omega) (by rfl) (pa_cons (pv 0) pa_nil))) (blkOk_by (N := ["one", "other", "there", "part"]) (sc := defScope s_longest_shared) (by decide +kernel)) (fun _ _ _ _ _ => (pg_name (i := 3) sc_longest_shared.nd rfl (Or.inl rfl))) (fun _ _ _ _ _ => (pts_one (pt_cmp (pc_din (hu_of hr) (pv 3) (pv 2))))) (fun _ _ _ _ _ => (pv 3))) pa_nil))))), ?_⟩
    have hz := allParts_len (l := a) (by omega)
    have hfl := List.length_filter_le (fun p => decide (p ∈ allParts b)) (allParts a)
    refine q_asgT (edt_call (ea_cons (ev_var rfl) ea_nil) (sdt_all (by omega))) fun d H1 hd e1 h1 => ?_
    refine s_ret (v := .str (S m)) (ev_callN (ds := (sharedP a b).map strD) (en_lcS (allParts a) (fun p => decide (p ∈ allParts b)) (fun p => .str (S p)) (ei_keysN (edt_call (ea_cons (ev_var rfl) ea_nil) (sdt_all (by omega)))) (by omega) fun p hp H2 e2 => ⟨et_test (ev_inD (ev_var rfl) (ev_var rfl) (.inl (e2 _ _ h1))), fun _ => ed_str (ev_var rfl)⟩) fun r xs H2 e2 h2 hx => ?_) fun H2 e2 => q H2 (e1.trans e2)
    rw [strs_of hx] at h2
    refine fun H3 e3 Q2 q2 E2 => ⟨r, sharedP a b, m, rfl, e3 _ _ h2, hf, ?_, fun y hy => ?_, fun H4 e4 => q2 H4 e4⟩
    · unfold sharedP
      omega
    · have := allParts_le (List.mem_filter.mp hy).1
      omega
theorem ok_longer {f : Addr} {fd : FuncData} (F : Fun K "longer" "longer" s_longer f fd) (T_ : Nm mg) : FnOk P w K mg base CX0 1 f fd ["words", "letters"] spLonger := by
  refine F.ok sc_longer (fun vs H Q E h => ?_) (fun cdv A outer s H vs Q E hr h => ?_)
  · obtain ⟨p, ws, a, rfl, _⟩ := h
    rfl
  · obtain ⟨p, ws, a, rfl, hp, ha, hws, hwl, q⟩ := h
    refine ⟨_, (pss_cons (ps_set (i := 2) sc_longer.nd rfl (.inl rfl) (pe_lst pa_nil))
      (pss_cons (ps_for PassesOwn.never rfl (pi_listK K (pv 0)) (pg_name (i := 3) sc_longer.nd rfl (.inr rfl))
      (pss_one (ps_expr (pe_bm PySem.F.plainAttrs_list PySem.F.slot_list_extend PySem.F.type_list_extend mt_extend (pv 2) (pa_cons (pe_lc (own := [("letter", 4)]) (g := gName 4) (tt := tYes) rfl sc_longer.nd (pi_str (pv 1)) (blkOk_by (N := ["words", "letters", "found", "word", "letter"]) (sc := defScope s_longer) (by decide +kernel)) (fun _ _ _ _ _ => (pg_name (i := 4) sc_longer.nd rfl (Or.inl rfl))) (fun _ _ _ _ _ => pts_nil) (fun _ _ _ _ _ => (pe_op op_add_str (pv 3) (pv 4)))) pa_nil)))))
      (pss_one (ps_ret (pv 2))))), ?_⟩
    refine q_asgN (en_lst ead_nil (by decide)) fun r xs H1 hr1 e1 h1 hx => ?_
    cases hx
    have hpr : p ≠ r := fun z => by
      rw [z, hr1] at hp
      cases hp
    refine q_forLn (a := p) (xs := ws.map strV) (ev_var rfl) (sq_of (e1 _ _ hp)) (fun i σ' H' => (∃ y z, σ' = [some (.ref p), some (.str (S a)), some (.ref r), y, z]) ∧ Ex H H' ∧ H' r = some (.lst ((growV a (ws.take i)).map strV)))
      (fun H2 e2 => ⟨⟨none, none, rfl⟩, e1.trans e2, e2 _ _ h1⟩) (fun i σ' H' _ h => sq_of (h.2.1 _ _ hp)) ?_ ?_
    · rintro i x σ' H' hxi ⟨⟨y, z, rfl⟩, e4, h4⟩
      rw [List.getElem?_map] at hxi
      cases hq : ws[i]? with
      | none =>
        rw [hq] at hxi
        cases hxi
      | some u =>
        rw [hq] at hxi
        cases hxi
        have hul := hwl u (List.mem_of_getElem? hq)
        have hgl := growV_len a (ws.take i)
        have hb : (ws.take i).length * a.length ≤ 2000 * 3 := Nat.mul_le_mul (by rw [List.length_take]; omega) ha
        refine s_ext h4 (ev_var rfl) (en_letters (w := u) (ei_str (ev_var rfl)) (by omega) fun c hc H2 e2 => ev_addS (ev_var rfl) (ev_var rfl) (by rw [List.length_singleton]; omega)) (by rw [List.length_map, List.length_map, List.length_map]; omega) fun zs H2 e2 hz => ⟨⟨_, _, rfl⟩, Ex.mut (e4.trans e2) hr1, ?_⟩
        rw [upd_same, growV_take hq, List.map_append, strs_of hz]
    · rintro σ' H' ⟨⟨y, z, rfl⟩, e4, h4⟩
      rw [List.length_map, List.take_length] at h4
      exact s_ret (ev_var rfl) fun H5 e5 => q r H5 hr1 (e4.trans e5) (e5 _ _ h4)
theorem ok_missing {f : Addr} {fd : FuncData} (F : Fun K "missing" "missing" s_missing f fd) (T_ : Nm mg) (c_all_parts : Cl P w K mg base 1 "all_parts" spAll) (c_longer : Cl P w K mg base 1 "longer" spLonger) : FnOk P w K mg base CX0 2 f fd ["text", "letters"] spMissing := by
  refine F.ok sc_missing (fun vs H Q E h => ?_) (fun cdv A outer s H vs Q E hr h => ?_)
  · obtain ⟨l, a, n, m, rfl, _⟩ := h
    rfl
  · obtain ⟨l, a, n, m, rfl, hl, hne, ha3, has, hin, hout, hm, q⟩ := h
    refine ⟨_, (pss_cons (ps_set (i := 2) sc_missing.nd rfl (.inr rfl) (pe_cl c_all_parts hr (by first | decide | omega) (by rfl) (pa_cons (pv 0) pa_nil)))
      (pss_cons (ps_set (i := 3) sc_missing.nd rfl (.inl rfl) (pe_lst (pa_cons pe_str pa_nil)))
      (pss_cons (ps_while PassesOwn.never (pt_val (pe_callB (kC K rAll (cr_all rfl)) (by rfl) T_.n_all bt_all (pa_cons (pe_lc (own := [("word", 4)]) (g := gName 4) (tt := tYes) rfl sc_missing.nd (pi_listK K (pv 3)) (blkOk_by (N := ["text", "letters", "there", "words", "word"]) (sc := defScope s_missing) (by decide +kernel)) (fun _ _ _ _ _ => (pg_name (i := 4) sc_missing.nd rfl (Or.inl rfl))) (fun _ _ _ _ _ => pts_nil) (fun _ _ _ _ _ => (pe_cmp (pc_din (hu_of hr) (pv 4) (pv 2)) rfl))) pa_nil)))
      (pss_one (ps_set (i := 3) sc_missing.nd rfl (.inl rfl) (pe_cl c_longer hr (by first | decide | omega) (by rfl) (pa_cons (pv 3) (pa_cons (pv 1) pa_nil))))))
      (pss_one (ps_ret (pe_ix (kI K rIxL ix_list) (pe_lc (own := [("word", 4)]) (g := gName 4) rfl sc_missing.nd (pi_listK K (pv 3)) (blkOk_by (N := ["text", "letters", "there", "words", "word"]) (sc := defScope s_missing) (by decide +kernel)) (fun _ _ _ _ _ => (pg_name (i := 4) sc_missing.nd rfl (Or.inl rfl))) (fun _ _ _ _ _ => (pts_one (pt_cmp (pc_dnotin (hu_of hr) (pv 4) (pv 2))))) (fun _ _ _ _ _ => (pv 4))) pe_int (fun _ _ => rfl))))))), ?_⟩
    refine q_asgT (edt_call (ea_cons (ev_var rfl) ea_nil) (sdt_all (by omega))) fun d H1 hd e1 h1 => ?_
    refine q_asgN (en_lst (ds := [.str (S [])]) (ead_cons (ed_str (ev_is ev_c rfl)) ead_nil) (Nat.le_of_ble_eq_true rfl)) fun p xs H2 hp e2 h2 hx => ?_
    refine q_while (fun ms σ' H' => ∃ k pw, ms = n - k ∧ k ≤ n ∧ Ex H1 H' ∧ H' pw = some (.lst ((wordsV a k).map strV)) ∧ ∃ y, σ' = [some (.str (S l)), some (.str (S a)), some (.ref d), some (.ref pw), y]) n ⟨0, p, by omega, Nat.zero_le _, e2, ?_, none, rfl⟩ ?_
    · rw [h2]
      have := strs_of (ls := [[]]) hx
      rw [this]
      rfl
    · rintro ms σ' H' ⟨k, pw, rfl, hk, e3, h3, y, rfl⟩
      have hb := words_bound has ha3 hl k (fun j hj => hin j (by omega))
      have hdd := e3 _ _ h1
      refine ⟨((wordsV a k).map fun w => decide (w ∈ allParts l)).all id, et_B (ev_all' (bs := (wordsV a k).map fun w => decide (w ∈ allParts l)) ?_), fun hbt H4 e4 => ?_, fun hbf H4 e4 => ?_⟩
      · have e0 : ((wordsV a k).map fun w => decide (w ∈ allParts l)).map PyData.bool = ((wordsV a k).filter fun _ => true).map fun w => PyData.bool (decide (w ∈ allParts l)) := by
          rw [List.filter_eq_self.mpr (fun _ _ => rfl), List.map_map]
          rfl
        rw [e0]
        exact en_lcS (wordsV a k) (fun _ => true) _ (ei_lst (ev_var rfl) h3 (td_strs H' _)) (by omega) fun u hu H4 e4 => ⟨et_yes, fun _ => ed_bl (ev_inD (ev_var rfl) (ev_var rfl) (.inl (e4 _ _ hdd)))⟩
      · have hall : AllIn a l k := fun u hu => by
          rw [List.all_map, List.all_eq_true] at hbt
          exact of_decide_eq_true (hbt u hu)
        have hkn : k ≠ n := fun z => hout (by rw [← z]; exact hall)
        refine ⟨fun σ2 H5 => ∃ pw, Ex H1 H5 ∧ H5 pw = some (.lst ((wordsV a (k + 1)).map strV)) ∧ ∃ y, σ2 = [some (.str (S l)), some (.str (S a)), some (.ref d), some (.ref pw), y], fun σ2 H5 ⟨pw2, h5, h6, h7⟩ => ⟨n - (k + 1), by omega, k + 1, pw2, rfl, by omega, h5, h6, h7⟩, ?_⟩
        refine s_asgC (ea_cons (ev_var rfl) (ea_cons (ev_var rfl) ea_nil)) fun H5 e5 => ⟨pw, wordsV a k, a, rfl, (e4.trans e5) _ _ h3, ha3, by omega, fun u hu => ?_, fun r H6 hr6 e6 h6 => ⟨r, ((e3.trans e4).trans e5).trans e6, h6, _, rfl⟩⟩
        rw [words_len hu]
        have := allIn_small hne hall
        omega
      · have hnall : ¬ AllIn a l k := fun hall => by
          rw [← Bool.not_eq_true, List.all_map, List.all_eq_true] at hbf
          exact hbf fun u hu => decide_eq_true (hall u hu)
        have hkn : k = n := by
          by_cases z : k < n
          · exact absurd (hin k z) hnall
          · omega
        subst hkn
        have h4 := e4 _ _ h3
        have hd4 := e4 _ _ hdd
        have hm0 : ((outV a l k).map strD)[0]? = some (.str (S m)) := by
          rw [List.getElem?_map, hm]
          rfl
        exact s_ret (v := .str (S m)) (EvD.str (ed_ixN (j := 0) (en_lcS (wordsV a k) (fun w => !decide (w ∈ allParts l)) (fun w => .str (S w)) (ei_lst (ev_var rfl) h4 (td_strs H4 _)) (by omega) fun u hu H5 e5 => ⟨et_test (ev_niD (ev_var rfl) (ev_var rfl) (.inl (e5 _ _ hd4))), fun _ => ed_str (ev_var rfl)⟩) (ev_is ev_c rfl) hm0)) fun H5 e5 => q H5 (((e1.trans e3).trans e4).trans e5)
end

end TY
namespace TY
open PySem PySem.Spec PyProof.Rows L2 Evl
/-! ### texts as data -/
theorem can_strs : ∀ ls : List (List Nat), (∀ l ∈ ls, ∀ c ∈ l, c < 0x110000) → PyData.canLayAll0 (ls.map fun l => .str (S l)) = true
  | [], _ => by simp [PyData.canLayAll0]
  | l :: ls, h => by
    have h1 : PyData.strOk (S l) = true := by
      unfold PyData.strOk
      show l.toArray.all (· < 0x110000) = true
      simp only [List.all_toArray, List.all_eq_true, decide_eq_true_eq]
      exact h l (List.mem_cons_self)
    simp [PyData.canLayAll0, PyData.canLay0, h1, can_strs ls (fun l hl => h l (List.mem_cons_of_mem _ hl))]
theorem strOk_S {l : List Nat} (h : ∀ c ∈ l, c < 0x110000) : PyData.strOk (S l) = true := by
  unfold PyData.strOk
  show l.toArray.all (· < 0x110000) = true
  simp only [List.all_toArray, List.all_eq_true, decide_eq_true_eq]
  exact h
theorem dep_strs : ∀ ls : List (List Nat), PyData.depthAll (ls.map fun l => .str (S l)) = 0
  | [] => by simp [PyData.depthAll]
  | l :: ls => by simp [PyData.depthAll, PyData.depth, dep_strs ls]
theorem shaped_strsT {ls : List (List Nat)} (h : ∀ l ∈ ls, ∀ c ∈ l, c < 0x110000) : SeqAt.shaped (.tuple (ls.map fun l => .str (S l))) = true := by
  simp [SeqAt.shaped, PyData.canLay0, PyData.depth, can_strs ls h, dep_strs]
theorem shaped_strsL {ls : List (List Nat)} (h : ∀ l ∈ ls, ∀ c ∈ l, c < 0x110000) : SeqAt.shaped (.list (ls.map fun l => .str (S l))) = true := by
  simp [SeqAt.shaped, PyData.canLay0, PyData.depth, can_strs ls h, dep_strs]
theorem shaped_str {l : List Nat} (h : ∀ c ∈ l, c < 0x110000) : SeqAt.shaped (.str (S l)) = true := by
  simp [SeqAt.shaped, PyData.canLay0, PyData.depth, strOk_S h]
theorem shaped_si {l : List Nat} {i : Int} (h : ∀ c ∈ l, c < 0x110000) : SeqAt.shaped (.tuple [.str (S l), .int i]) = true := by
  simp [SeqAt.shaped, PyData.canLay0, PyData.canLayAll0, PyData.depth, PyData.depthAll, strOk_S h]
theorem eqv_str (a b : List Nat) : PyData.eqv (.str (S a)) (.str (S b)) = decide (a = b) := by
  rw [PyData.eqv]
  by_cases h : a = b
  · rw [h]
    simp
  · rw [decide_eq_false h, beq_eq_false_iff_ne]
    intro z
    exact h (S_inj z)
theorem eqv_si (a b : List Nat) (i j : Int) : PyData.eqv (.tuple [.str (S a), .int i]) (.tuple [.str (S b), .int j]) = (decide (a = b) && decide (i = j)) := by
  rw [PyData.eqv, PyData.eqvAll, PyData.eqvAll, PyData.eqvAll, eqv_str, PyData.eqv]
  by_cases h : i = j
  · rw [h]
    simp
  · rw [decide_eq_false h]
    simp [h]
section
variable {K : PySem.W.Frag} {σ : L2.St} {H : Hp} {ta tb te : TE} {tA : TA}
theorem ev_ltS {a b : List Nat} (h : Ev ta σ H (.str (S a))) (h2 : Ev tb σ H (.str (S b))) : Ev (tOp (fun x y H Q => ∃ i j, x = .str i ∧ y = .str j ∧ Q (.bl (decide (i.cps.toList < j.cps.toList))) H) ta tb) σ H (.bl (decide (a < b))) := fun H1 e Q q =>
  h H1 e _ fun H2 e2 => h2 H2 (e.trans e2) _ fun H3 e3 => ⟨S a, S b, rfl, rfl, q H3 (e2.trans e3)⟩
/-- the last sign -/
theorem ev_ixLast {a : List Nat} {c : Nat} (h : Ev ta σ H (.str (S (a ++ [c])))) (h2 : Ev tb σ H (.int (-1))) (hz : a.length < 100000) : Ev (tOp rIxS ta tb) σ H (.str (S [c])) := fun H1 e Q q =>
  h H1 e _ fun H2 e2 => h2 H2 (e.trans e2) _ fun H3 e3 => ⟨S (a ++ [c]), -1, c, rfl, rfl, by rw [S_len, List.length_append]; exact sz_of (by simp; omega), by
    rw [S_cps]
    unfold atI ixN
    rw [if_neg (by decide), if_pos (by simp; omega)]
    show (a ++ [c])[(-1 + ((a ++ [c]).length : Int)).toNat]? = some c
    have e0 : (-1 + ((a ++ [c]).length : Int)).toNat = a.length := by simp; omega
    rw [e0]
    simp, q H3 (e2.trans e3)⟩
theorem s_retEqC {D : Ends} {sp : Sp} {vs : List V} {E : XK} (h : EvA tA σ H vs) (k : ∀ H1, Ex H H1 → sp vs H1 (fun x H2 => te σ H2 fun y H3 => rEq x y H3 D.rt) E) : tRet (tOp rEq (tCall sp [] E tA) te) D σ H :=
  h H (Ex.refl H) _ fun H1 e1 => by
    show sp (vs ++ []) H1 _ E
    rw [List.append_nil]
    exact k H1 e1
end
theorem ps_never {X : Cx} {e c : Option Expr} {pos : Pos} : PS X (.Raise e c pos) (fun _ _ _ => False) := ⟨fun pins s σ H D I h => h.elim⟩
theorem hu65 {A : Around} {k : Nat} (hr : Room k A) : A.units + 65 < cLine := by
  have := hr.un
  omega
theorem ev_chain {r r' : R2} {ta tb tc : TE} {σ : L2.St} {H : Hp} {x y z : V} {a b : Bool} (h1 : Ev ta σ H x) (h2 : Ev tb σ H y) (q1 : RV r x y H (.bl a)) (h3 : a = true → Ev tc σ H z) (q2 : a = true → RV r' y z H (.bl b)) : Ev (tChain r r' ta tb tc) σ H (.bl (a && b)) := fun H1 e Q q =>
  h1 H1 e _ fun H2 e2 => h2 H2 (e.trans e2) _ fun H3 e3 => q1 H3 ((e.trans e2).trans e3) _ fun H4 e4 => by
    have e14 := (e2.trans e3).trans e4
    refine ⟨a, rfl, ?_⟩
    cases a with
    | false => exact q H4 e14
    | true => exact h3 rfl H4 (e.trans e14) _ fun H5 e5 => q2 rfl H5 ((e.trans e14).trans e5) Q fun H6 e6 => q H6 ((e14.trans e5).trans e6)

end TY
namespace TY
open PySem PySem.Spec PyProof.Rows L2 Evl
def spLfl : Sp := fun vs H Q _ => ∃ (p : Addr) (ls : List (List Nat)) (m : List Nat), vs = [.str (S m), .ref p] ∧ H p = some (.lst (ls.map strV)) ∧ FirstOf m ls ∧ m.length ≤ 1000 ∧ ∀ H', Ex H H' → Q (.bl true) H'
def spW : Nat → Sp
  | 0 => fun _ _ _ _ => False
  | N + 1 => fun vs H Q _ => ∃ (a : List Nat) (k : Nat), vs = [.str (S a), .int (k : Int)] ∧ k ≤ N ∧ a.length ≤ 3 ∧ (∀ j, j ≤ k → (wordsV a j).length ≤ 2000) ∧ k ≤ 100 ∧ ∀ r H', H r = none → Ex H H' → H' r = some (.lst ((wordsV a k).map strV)) → Q (.ref r) H'
theorem sn_words {H : Hp} {a : List Nat} {k N : Nat} (hk : k ≤ N) (ha : a.length ≤ 3) (hb : ∀ j, j ≤ k → (wordsV a j).length ≤ 2000) (hz : k ≤ 100) : SpN (spW (N + 1)) [.str (S a), .int (k : Int)] H ((wordsV a k).map strD) := fun H1 e Q q E => ⟨a, k, rfl, hk, ha, hb, hz, fun r H' hr e' h' => q r _ H' hr e' h' (td_strs H' _)⟩
theorem wordsV_succ (a : List Nat) (k : Nat) : wordsV a (k + 1) = growV a (wordsV a k) := rfl
theorem ev_callVN {σ : L2.St} {H : Hp} {ta tb : TE} {x z : V} {ds : List PyData} {sp : Sp} {E : XK} (h : Ev ta σ H x) (h2 : EvN tb σ H ds) (hs : ∀ p xs H1, Ex H H1 → H1 p = some (.lst xs) → TdAll H1 xs ds → SpV sp [x, .ref p] H1 z) : Ev (tCall sp [] E (tCons ta (tCons tb tNil))) σ H z := fun H1 e Q q =>
  h H1 e _ fun H2 e2 => h2 H2 (e.trans e2) _ fun p xs H3 hp e3 h3 hx => by
    show sp ([x, V.ref p] ++ []) H3 Q E
    exact hs p xs H3 ((e.trans e2).trans e3) h3 hx H3 (Ex.refl H3) Q (fun H4 e4 => q H4 ((e2.trans e3).trans e4)) E
theorem eqv_nn : PyData.eqv (.list []) (.list []) = true := by
  rw [eqv_nil]
  simp
theorem shaped_nilL : SeqAt.shaped (.list []) = true := shaped_nil
theorem leastN {p : Nat → Prop} : ∀ k, ¬ p k → ∃ n, (∀ j, j < n → p j) ∧ ¬ p n := by
  intro k
  induction k using Nat.strongRecOn with
  | _ k ih =>
    intro h
    by_cases q : ∀ j, j < k → p j
    · exact ⟨k, q, h⟩
    · obtain ⟨j, hj⟩ := Classical.not_forall.mp q
      obtain ⟨h1, h2⟩ := Classical.not_imp.mp hj
      exact ih j h1 h2
theorem miss_ex {a : List Nat} (l : List Nat) (ha : a ≠ []) : ∃ n m, (∀ j, j < n → AllIn a l j) ∧ ¬ AllIn a l n ∧ (outV a l n)[0]? = some m ∧ n ≤ l.length + 1 := by
  obtain ⟨n, h1, h2⟩ := leastN (p := AllIn a l) (l.length + 1) fun h => by
    have := allIn_small ha h
    omega
  obtain ⟨m, hm⟩ := out_some h2
  refine ⟨n, m, h1, h2, hm, ?_⟩
  cases n with
  | zero => omega
  | succ n =>
    have := allIn_small ha (h1 n (Nat.lt_succ_self n))
    omega
def letsL : List (List Nat) := [[97], [97, 98], [97, 98, 99], [98, 99], [109, 120]]
theorem lets_ok : ∀ a ∈ letsL, a ≠ [] ∧ a.length ≤ 3 ∧ a.Pairwise (· < ·) := by decide +kernel
theorem twice_same (l : List Nat) (x : List Nat) : x ∈ (sortedParts l).filter (fun p => decide (p = []) || decide ((1 : Int) < ((whereV l p).length : Int))) ↔ x ∈ twiceP l := by
  unfold twiceP
  rw [List.mem_filter, List.mem_cons, List.mem_filter]
  have hm : x ∈ sortedParts l ↔ x ∈ allParts l := ranked_mem
  rw [hm]
  by_cases h : x = []
  · subst h
    simp [allParts_nil]
  · simp [h]
theorem shared_same (a b : List Nat) (x : List Nat) : x ∈ (sortedParts a).filter (fun p => decide (p ∈ sortedParts b)) ↔ x ∈ sharedP a b := by
  unfold sharedP
  rw [List.mem_filter, List.mem_filter]
  have hm : ∀ l, x ∈ sortedParts l ↔ x ∈ allParts l := fun l => ranked_mem
  simp [hm]
abbrev s__law_first_of_longest : Stmt := topS 15
theorem sc__law_first_of_longest : FnScope ["_law_found", "_law_some", "_law_part"] ["_law_found", "_law_some"] (defScope s__law_first_of_longest) := ⟨rfl, rfl, rfl, by decide +kernel, rfl, by decide +kernel, by decide +kernel⟩
abbrev s__law_words : Stmt := topS 16
theorem sc__law_words : FnScope ["_law_letters", "_law_size", "_law_found", "_law_word", "_law_letter"] ["_law_letters", "_law_size"] (defScope s__law_words) := ⟨rfl, rfl, rfl, by decide +kernel, rfl, by decide +kernel, by decide +kernel⟩
abbrev s_law : Stmt := topS 17
theorem sc_law : FnScope ["_law_script", "_law_one", "_law_other", "_law_ones", "_law_twice", "_law_there", "_law_letters", "_law_found", "_law_size", "_law_part", "_law_word", "_law_sign"] ["_law_script"] (defScope s_law) := ⟨rfl, rfl, rfl, by decide +kernel, rfl, by decide +kernel, by decide +kernel⟩
def spLaw (K : PySem.W.Frag) : Sp := fun vs H Q _ => ∃ (a : Addr) (ns : List Int), vs = [.ref a] ∧ SqL K H a (ns.map V.int) ∧ ns.length ≤ 63 ∧ ∀ H', Q (.bl true) H'
section
variable {P : Program} {w : World} {K : PySem.W.Frag} {mg : Str → Option Value} {base : Heap}
theorem ok__law_first_of_longest {f : Addr} {fd : FuncData} (F : Fun K "_law_first_of_longest" "_law_first_of_longest" s__law_first_of_longest f fd) (T_ : Nm mg) : FnOk P w K mg base CX0 1 f fd ["_law_found", "_law_some"] spLfl := by
  refine F.ok sc__law_first_of_longest (fun vs H Q E h => ?_) (fun cdv A outer s H vs Q E hr h => ?_)
  · obtain ⟨p, ls, m, rfl, _⟩ := h
    rfl
  · obtain ⟨p, ls, m, rfl, hp, hf, hml, q⟩ := h
    refine ⟨_, (pss_cons (ps_if (pt_cmpR (kO K (fun K => rIn K true) op_notIn_seq) (pv 0) (pv 1) rfl)
      (pss_one (ps_ret pe_bl))
      pss_nil)
      (pss_cons (ps_for PassesOwn.never rfl (pi_listK K (pv 1)) (pg_name (i := 2) sc__law_first_of_longest.nd rfl (.inl rfl))
      (pss_one (ps_if (PW.pt (pw_or (pt_cmpR op_gt (pe_callB call_len_str (by rfl) T_.n_len PySem.boot_len (pa_cons (pv 2) pa_nil)) (pe_callB call_len_str (by rfl) T_.n_len PySem.boot_len (pa_cons (pv 0) pa_nil)) (nomark _)) (pw_or1 (PW.pt (pw_and (pt_cmpR op_eq (pe_callB call_len_str (by rfl) T_.n_len PySem.boot_len (pa_cons (pv 2) pa_nil)) (pe_callB call_len_str (by rfl) T_.n_len PySem.boot_len (pa_cons (pv 0) pa_nil)) (nomark _)) (pw_and1 (pt_cmpR op_lt_str (pv 2) (pv 0) (nomark _))))))))
      (pss_one (ps_ret pe_bl))
      pss_nil)))
      (pss_one (ps_ret pe_bl)))), ?_⟩
    refine q_when (b := false) (et_is (et_test (ev_niL (ls := ls) (ev_var rfl) (ev_var rfl) hp (td_strs H ls))) (by simp [hf.1])) (fun hb => by cases hb) fun _ H1 e1 => ?_
    refine q_forI (es := ls.map strD) (ei_lst (ev_var rfl) (e1 _ _ hp) (td_strs H1 ls)) (fun Hs t σ' H' => Ex Hs H' ∧ ∃ y, σ' = [some (.str (S m)), some (.ref p), y]) (fun H2 e2 => ⟨Ex.refl _, none, rfl⟩) (fun _ _ _ _ h => h.1) ?_ ?_
    · rintro Hs t x0 x σ' H2 H3 es he ⟨e2, y, rfl⟩ e3 hx
      rw [List.getElem?_map] at he
      cases hq : ls[t]? with
      | none =>
        rw [hq] at he
        cases he
      | some u =>
        rw [hq] at he
        cases he
        cases hx.str_
        have hu := List.mem_of_getElem? hq
        have hul := hf.2.1 u hu
        refine s_when (b := false) (et_is (et_or (et_test (ev_op (ev_lenStr (ev_var rfl) (by omega)) (ev_lenStr (ev_var rfl) (by omega)) rv_I0)) (fun _ => et_and (et_test (ev_eqI (ev_lenStr (ev_var rfl) (by omega)) (ev_lenStr (ev_var rfl) (by omega)))) (fun _ => et_test (ev_ltS (ev_var rfl) (ev_var rfl))))) ?_) (fun hb => by cases hb) fun _ H4 e4 => ⟨(e2.trans e3).trans e4, _, rfl⟩
        rw [decide_eq_false (show ¬ ((m.length : Int) < (u.length : Int)) by omega), Bool.false_or]
        by_cases h : u.length = m.length
        · have h2 : ¬ u < m := hf.2.2 u hu h
          rw [decide_eq_false h2, Bool.and_false]
        · rw [decide_eq_false (show ¬ ((u.length : Int) = (m.length : Int)) by omega), Bool.false_and]
    · rintro Hs σ' H2 es ⟨e2, y, rfl⟩
      exact s_ret (v := .bl true) ev_c fun H3 e3 => q H3 (((e1.trans es).trans e2).trans e3)
theorem ok__law_words {f : Addr} {fd : FuncData} (F : Fun K "_law_words" "_law_words" s__law_words f fd) (T_ : Nm mg) (hm : mg "_law_words" = some (.ref f)) (kp : PySem.W.keepIn K (.ref f) = true) (hbd : Binds K fd ["_law_letters", "_law_size"] []) : ∀ {N : Nat}, FnOk P w K mg base CX0 N f fd ["_law_letters", "_law_size"] (spW N)
  | 0 => ⟨fun vs H Q E h => h.elim, fun A outer s H args us vs Q E hr he hb hv h => h.elim⟩
  | N + 1 => by
    have c__law_words : Cl P w K mg base N "_law_words" (spW N) := ⟨f, fd, _, ok__law_words F T_ hm kp hbd (N := N), hm, kp, hbd⟩
    refine F.ok sc__law_words (fun vs H Q E h => ?_) (fun cdv A outer s H vs Q E hr h => ?_)
    · obtain ⟨a, k, rfl, _⟩ := h
      rfl
    · obtain ⟨a, k, rfl, hk, ha, hb, hz, q⟩ := h
      refine ⟨_, (pss_cons (ps_if (pt_cmpR op_eq (pv 1) pe_int (nomark _))
      (pss_one (ps_ret (pe_lst (pa_cons pe_str pa_nil))))
      pss_nil)
      (pss_cons (ps_set (i := 2) sc__law_words.nd rfl (.inl rfl) (pe_lst pa_nil))
      (pss_cons (ps_for PassesOwn.never rfl (pi_listK K (pe_cl c__law_words hr (by first | decide | omega) (by rfl) (pa_cons (pv 0) (pa_cons (pe_op op_sub (pv 1) pe_int) pa_nil)))) (pg_name (i := 3) sc__law_words.nd rfl (.inr rfl))
      (pss_one (ps_set (i := 2) sc__law_words.nd rfl (.inl rfl) (pe_op op_cat (pv 2) (pe_lc (own := [("_law_letter", 4)]) (g := gName 4) (tt := tYes) rfl sc__law_words.nd (pi_str (pv 0)) (blkOk_by (N := ["_law_letters", "_law_size", "_law_found", "_law_word", "_law_letter"]) (sc := defScope s__law_words) (by decide +kernel)) (fun _ _ _ _ _ => (pg_name (i := 4) sc__law_words.nd rfl (Or.inl rfl))) (fun _ _ _ _ _ => pts_nil) (fun _ _ _ _ _ => (pe_op op_add_str (pv 3) (pv 4))))))))
      (pss_one (ps_ret (pv 2)))))), ?_⟩
      refine q_when (b := decide ((k : Int) = 0)) (et_test (ev_eqI (ev_var rfl) ev_c)) (fun hb0 H1 e1 => ?_) (fun hb0 H1 e1 => ?_)
      · have hk0 := of_decide_eq_true hb0
        have hk0 : k = 0 := by omega
        subst hk0
        exact s_retN (ds := [.str (S [])]) (en_lst (ead_cons (ed_str (ev_is ev_c rfl)) ead_nil) (Nat.le_of_ble_eq_true rfl)) fun r xs H2 hr2 e2 h2 hx => q r H2 (fresh_back e1 hr2) (e1.trans e2) (by rw [h2, strs_of (ls := [[]]) hx]; rfl)
      · have hk0 := of_decide_eq_false hb0
        obtain ⟨k', rfl⟩ : ∃ k', k = k' + 1 := ⟨k - 1, by omega⟩
        obtain ⟨N', rfl⟩ : ∃ N', N = N' + 1 := ⟨N - 1, by omega⟩
        refine q_asgN (en_lst ead_nil (by decide)) fun r xs H2 hr2 e2 h2 hx => ?_
        cases hx
        have hws := hb k' (by omega)
        refine q_forI (es := (wordsV a k').map strD) (ei_new (en_call (ea_cons (ev_var rfl) (ea_cons (ev_is (ev_op (ev_var rfl) ev_c rv_I0) (congrArg V.int (by omega))) ea_nil)) (sn_words (N := N') (by omega) ha (fun j hj => hb j (by omega)) (by omega))))
          (fun Hs t σ' H' => Ex Hs H' ∧ ∃ r y z, σ' = [some (.str (S a)), some (.int ((k' + 1 : Nat) : Int)), some (.ref r), y, z] ∧ H' r = some (.lst ((growV a ((wordsV a k').take t)).map strV)) ∧ H1 r = none)
          (fun H3 e3 => ⟨Ex.refl _, r, none, none, rfl, e3 _ _ h2, hr2⟩) (fun _ _ _ _ h => h.1) ?_ ?_
        · rintro Hs t x0 x σ' H3 H4 es he ⟨e3, r3, y, z, rfl, h3, hr3⟩ e4 hxx
          rw [List.getElem?_map] at he
          cases hq : (wordsV a k')[t]? with
          | none =>
            rw [hq] at he
            cases he
          | some u =>
            rw [hq] at he
            cases he
            cases hxx.str_
            have hul := words_len (List.mem_of_getElem? hq)
            have hgl := growV_len a ((wordsV a k').take t)
            have hbb : ((wordsV a k').take t).length * a.length ≤ 2000 * 3 := Nat.mul_le_mul (by rw [List.length_take]; omega) ha
            refine s_asgN (en_catL (ds := (growV a ((wordsV a k').take t)).map strD) (ev_var rfl) (e4 _ _ h3) (td_strs H4 _) (en_letters (w := u) (ei_str (ev_var rfl)) (by omega) fun c hc H5 e5 => ev_addS (ev_var rfl) (ev_var rfl) (by rw [List.length_singleton]; omega)) (by rw [List.length_map, List.length_map, List.length_map]; omega)) fun r5 xs5 H5 hr5 e5 h5 hx5 => ⟨(e3.trans e4).trans e5, r5, _, _, rfl, ?_, fresh_back ((e2.trans (es.trans e3)).trans e4) hr5⟩
            have hx6 : TdAll H5 xs5 ((growV a ((wordsV a k').take t) ++ a.map fun c => u ++ [c]).map strD) := by
              rw [List.map_append]
              exact hx5
            rw [h5, growV_take hq, strs_of hx6]
        · rintro Hs σ' H3 es ⟨e3, r3, y, z, rfl, h3, hr3⟩
          rw [List.length_map, List.take_length] at h3
          have e13 := (e2.trans es).trans e3
          exact s_ret (ev_var rfl) fun H5 e5 => q r3 H5 (fresh_back e1 hr3) ((e1.trans e13).trans e5) (e5 _ _ h3)
theorem ok_law {f : Addr} {fd : FuncData} (F : Fun K "law" "law" s_law f fd) (T_ : Nm mg) (c__law_mixed : Cl P w K mg base 2 "_law_mixed" (spMixed K)) (c__law_text : Cl P w K mg base 2 "_law_text" spText)
    (c_longest_twice : Cl P w K mg base 2 "longest_twice" spTwice) (c_longest_shared : Cl P w K mg base 2 "longest_shared" spShared) (c_missing : Cl P w K mg base 2 "missing" spMissing) (c__law_parts : Cl P w K mg base 1 "_law_parts" (spList sortedParts)) (c__law_where : Cl P w K mg base 1 "_law_where" spWhere)
    (c__law_first_of_longest : Cl P w K mg base 1 "_law_first_of_longest" spLfl) (c__law_words : Cl P w K mg base 17 "_law_words" (spW 17)) : FnOk P w K mg base CX0 18 f fd ["_law_script"] (spLaw K) := by
  refine F.ok sc_law (fun vs H Q E h => ?_) (fun cdv A outer s H vs Q E hr h => ?_)
  · obtain ⟨a, ns, rfl, _⟩ := h
    rfl
  · obtain ⟨a, ns, rfl, hS, hlen, q⟩ := h
    refine ⟨_, (pss_cons (ps_set (i := 1) sc_law.nd rfl (.inr rfl) (pe_cl c__law_text hr (by first | decide | omega) (by rfl) (pa_cons (pe_cl c__law_mixed hr (by first | decide | omega) (by rfl) (pa_cons (pv 0) (pa_cons pe_int pa_nil))) (pa_cons pe_int pa_nil))))
      (pss_cons (ps_set (i := 2) sc_law.nd rfl (.inl rfl) (pe_cl c__law_text hr (by first | decide | omega) (by rfl) (pa_cons (pe_cl c__law_mixed hr (by first | decide | omega) (by rfl) (pa_cons (pv 0) (pa_cons pe_int pa_nil))) (pa_cons pe_int pa_nil))))
      (pss_cut (ps_if (pt_cmpR op_eq (pe_op op_mod (pe_cl c__law_mixed hr (by first | decide | omega) (by rfl) (pa_cons (pv 0) (pa_cons pe_int pa_nil))) pe_int) pe_int (nomark _))
      (pss_one (ps_set (i := 2) sc_law.nd rfl (.inl rfl) (pe_op op_add_str (pe_slice sl_str (pv 2) po_none (po_some pe_int)) (pe_slice sl_str (pe_slice sl_str (pv 1) (po_some (pe_op op_mod (pe_op op_fdiv (pe_cl c__law_mixed hr (by first | decide | omega) (by rfl) (pa_cons (pv 0) (pa_cons pe_int pa_nil))) pe_int) pe_int)) po_none) po_none (po_some pe_int)))))
      pss_nil)
      (pss_cons (ps_set (i := 3) sc_law.nd rfl (.inr rfl) (pe_cl c__law_parts hr (by first | decide | omega) (by rfl) (pa_cons (pv 1) pa_nil)))
      (pss_cons (ps_setLc (i := 4) (own := [("_law_part", 9)]) (g := gName 9) rfl sc_law.nd rfl rfl (sw_true rfl rfl rfl (by decide +kernel)) (pi_listK K (pv 3)) (blkOk_by (N := ["_law_script", "_law_one", "_law_other", "_law_ones", "_law_twice", "_law_there", "_law_letters", "_law_found", "_law_size", "_law_part", "_law_word", "_law_sign"]) (sc := defScope s_law) (by decide +kernel)) (fun _ _ _ _ _ => (pg_name (i := 9) sc_law.nd rfl (Or.inl rfl))) (fun _ _ _ _ _ => (pts_one (PW.pt (pw_or (pt_cmpR op_eq (pv 9) pe_str (nomark _)) (pw_or1 (pt_cmpR op_gt (pe_callB (kC K rLenS call_len_seq) (by rfl) T_.n_len PySem.boot_len (pa_cons (pe_cl c__law_where hr (by first | decide | omega) (by rfl) (pa_cons (pv 1) (pa_cons (pv 9) pa_nil))) pa_nil)) pe_int (nomark _))))))) (fun _ _ _ _ _ => (pv 9)))
      (pss_cons (ps_if (pt_not (pt_val (pe_cl c__law_first_of_longest hr (by first | decide | omega) (by rfl) (pa_cons (pe_cl c_longest_twice hr (by first | decide | omega) (by rfl) (pa_cons (pv 1) pa_nil)) (pa_cons (pv 4) pa_nil)))))
      (pss_one (ps_ret pe_bl))
      pss_nil)
      (pss_cons (ps_set (i := 5) sc_law.nd rfl (.inr rfl) (pe_cl c__law_parts hr (by first | decide | omega) (by rfl) (pa_cons (pv 2) pa_nil)))
      (pss_cons (ps_if (pt_not (pt_val (pe_cl c__law_first_of_longest hr (by first | decide | omega) (by rfl) (pa_cons (pe_cl c_longest_shared hr (by first | decide | omega) (by rfl) (pa_cons (pv 1) (pa_cons (pv 2) pa_nil))) (pa_cons (pe_lc (own := [("_law_part", 9)]) (g := gName 9) rfl sc_law.nd (pi_listK K (pv 3)) (blkOk_by (N := ["_law_script", "_law_one", "_law_other", "_law_ones", "_law_twice", "_law_there", "_law_letters", "_law_found", "_law_size", "_law_part", "_law_word", "_law_sign"]) (sc := defScope s_law) (by decide +kernel)) (fun _ _ _ _ _ => (pg_name (i := 9) sc_law.nd rfl (Or.inl rfl))) (fun _ _ _ _ _ => (pts_one (pt_cmpR (kO K (fun K => rIn K false) op_in_seq) (pv 9) (pv 5) rfl))) (fun _ _ _ _ _ => (pv 9))) pa_nil)))))
      (pss_one (ps_ret pe_bl))
      pss_nil)
      (pss_cons (ps_set (i := 6) sc_law.nd rfl (.inr rfl) (pe_ix (kI K rIxT ix_tup) (pe_tup (pa_cons pe_str (pa_cons pe_str (pa_cons pe_str (pa_cons pe_str (pa_cons pe_str pa_nil)))))) (pe_op op_mod (pe_cl c__law_mixed hr (by first | decide | omega) (by rfl) (pa_cons (pv 0) (pa_cons pe_int pa_nil))) pe_int) (fun _ _ => rfl)))
      (pss_cons (ps_set (i := 7) sc_law.nd rfl (.inr rfl) (pe_cl c_missing hr (by first | decide | omega) (by rfl) (pa_cons (pv 1) (pa_cons (pv 6) pa_nil))))
      (pss_cons (ps_if (PW.pt (pw_or (pt_not (pt_val (pe_callB (kC K rIsi call_isi) (by rfl) T_.n_isinstance bt_isinstance (pa_cons (pv 7) (pa_cons (pe_bltn (v := .ty "str") (by rfl) T_.n_str bt_str rfl) pa_nil))))) (pw_or (pt_cmpR (kO K (fun K => rIn K false) op_in_seq) (pv 7) (pv 3) rfl) (pw_or1 (pt_cmpR (kO K rNeD (op_neD (hu64 hr))) (pe_lc (own := [("_law_sign", 11)]) (g := gName 11) rfl sc_law.nd (pi_str (pv 7)) (blkOk_by (N := ["_law_script", "_law_one", "_law_other", "_law_ones", "_law_twice", "_law_there", "_law_letters", "_law_found", "_law_size", "_law_part", "_law_word", "_law_sign"]) (sc := defScope s_law) (by decide +kernel)) (fun _ _ _ _ _ => (pg_name (i := 11) sc_law.nd rfl (Or.inl rfl))) (fun _ _ _ _ _ => (pts_one (pt_cmpR op_notIn_sign (pv 11) (pv 6) rfl))) (fun _ _ _ _ _ => (pv 11))) (pe_lst pa_nil) (nomark _))))))
      (pss_one (ps_ret pe_bl))
      pss_nil)
      (pss_cons (ps_set (i := 8) sc_law.nd rfl (.inl rfl) pe_int)
      (pss_cons (ps_while PassesOwn.never (PW.pt (pw_and (pt_cmpR op_lt (pv 8) (pe_callB call_len_str (by rfl) T_.n_len PySem.boot_len (pa_cons (pv 7) pa_nil)) (nomark _)) (pw_and1 (pt_cmpR op_lt (pv 8) pe_int (nomark _)))))
      (pss_cons (ps_if (pt_cmpR (kO K rNeD (op_neD (hu64 hr))) (pe_lc (own := [("_law_word", 10)]) (g := gName 10) rfl sc_law.nd (pi_listK K (pe_cl c__law_words hr (by first | decide | omega) (by rfl) (pa_cons (pv 6) (pa_cons (pv 8) pa_nil)))) (blkOk_by (N := ["_law_script", "_law_one", "_law_other", "_law_ones", "_law_twice", "_law_there", "_law_letters", "_law_found", "_law_size", "_law_part", "_law_word", "_law_sign"]) (sc := defScope s_law) (by decide +kernel)) (fun _ _ _ _ _ => (pg_name (i := 10) sc_law.nd rfl (Or.inl rfl))) (fun _ _ _ _ _ => (pts_one (pt_cmpR (kO K (fun K => rIn K true) op_notIn_seq) (pv 10) (pv 3) rfl))) (fun _ _ _ _ _ => (pv 10))) (pe_lst pa_nil) (nomark _))
      (pss_one (ps_ret pe_bl))
      pss_nil)
      (pss_one (ps_set (i := 8) sc_law.nd rfl (.inl rfl) (pe_op op_add (pv 8) pe_int)))))
      (pss_one (ps_ret (pe_cmpR (kO K rEqD (op_eqD (hu64 hr))) (pe_lc (own := [("_law_word", 10)]) (g := gName 10) rfl sc_law.nd (pi_listK K (pe_cl c__law_words hr (by first | decide | omega) (by rfl) (pa_cons (pv 6) (pa_cons (pv 8) pa_nil)))) (blkOk_by (N := ["_law_script", "_law_one", "_law_other", "_law_ones", "_law_twice", "_law_there", "_law_letters", "_law_found", "_law_size", "_law_part", "_law_word", "_law_sign"]) (sc := defScope s_law) (by decide +kernel)) (fun _ _ _ _ _ => (pg_name (i := 10) sc_law.nd rfl (Or.inl rfl))) (fun _ _ _ _ _ => (pts_one (PW.pt (pw_and (pt_cmpR op_lt_str (pv 10) (pv 7) (nomark _)) (pw_and1 (pt_cmpR (kO K (fun K => rIn K true) op_notIn_seq) (pv 10) (pv 3) rfl)))))) (fun _ _ _ _ _ => (pv 10))) (pe_lst pa_nil) (nomark _))))))))))))))))), ?_⟩
    have mx : ∀ (k : Nat), k ≤ 1000 → ∀ H1, Ex H H1 → SpV (spMixed K) [.ref a, .int (k : Int)] H1 (.int (mixV ns k)) := fun k hk H1 e => sv_mixed (ex_l e hS) hk
    have tx : ∀ (k : Nat) {H1 : Hp} {σ : L2.St}, k ≤ 1000 → σ[0]? = some (some (.ref a)) → Ex H H1 → Ev (tCall spText [] E0 (tCons (tCall (spMixed K) [] E0 (tCons (tVar 0) (tCons (tC (.int (k : Int))) tNil))) (tCons (tC (.int 14)) tNil))) σ H1 (.str (S (textV (mixV ns k) 14))) := fun k H1 σ hk h0 e =>
      ev_cl (ea_cons (ev_cl (ea_cons (ev_var h0) (ea_cons ev_c ea_nil)) (mx k hk _ e)) (ea_cons ev_c ea_nil)) (sv_text (m := 14) (mixV_pos _ _) (by decide))
    refine q_asg (v := .str (S (textV (mixV ns 0) 14))) (tx 0 (by decide) rfl (Ex.refl _)) fun H1 e1 => ?_
    have hl := textV_len (mixV_pos ns 0) 14
    have hlow := textV_low (mixV_pos ns 0) 14
    generalize textV (mixV ns 0) 14 = l at hl hlow
    refine q_asg (v := .str (S (textV (mixV ns 1) 14))) (tx 1 (by decide) rfl e1) fun H2 e2 => ?_
    have ho := textV_len (mixV_pos ns 1) 14
    generalize textV (mixV ns 1) 14 = o0 at ho
    refine ⟨fun σ' H' => ∃ o : List Nat, o.length ≤ 20 ∧ Ex H H' ∧ σ' = [some (.ref a), some (.str (S l)), some (.str (S o)), none, none, none, none, none, none, none, none, none], ?_, ?_⟩
    · refine s_when (b := decide (mixV ns 2 % 3 = 1)) (et_test (ev_eqI (ev_op (ev_cl (ea_cons (ev_var rfl) (ea_cons ev_c ea_nil)) (mx 2 (by decide) _ (e1.trans e2))) ev_c (rv_I (by decide))) ev_c)) (fun hb H3 e3 => ?_) (fun hb H3 e3 => ⟨o0, by omega, (e1.trans e2).trans e3, rfl⟩)
      have s1 : 0 ≤ mixV ns 2 / 3 % 15 := Int.emod_nonneg _ (by decide)
      obtain ⟨r, hr2⟩ : ∃ r : Nat, mixV ns 2 / 3 % 15 = (r : Int) := ⟨(mixV ns 2 / 3 % 15).toNat, by omega⟩
      refine s_asg (v := .str (S (o0.take 4 ++ (l.drop r).take 9))) (ev_addS (ev_to (k := 4) (ev_var rfl) (ev_is ev_c rfl) (by omega)) (ev_to (k := 9) (ev_from (ev_var rfl) (ev_is (ev_op (ev_op (ev_cl (ea_cons (ev_var rfl) (ea_cons ev_c ea_nil)) (mx 2 (by decide) _ ((e1.trans e2).trans e3))) ev_c (rv_I ⟨by decide, by decide⟩)) ev_c (rv_I (by decide))) (congrArg V.int hr2)) (by omega)) (ev_is ev_c rfl) (by rw [List.length_drop]; omega)) (by rw [List.length_take, List.length_take]; omega)) fun H4 e4 => ⟨_, by rw [List.length_append, List.length_take, List.length_take]; omega, ((e1.trans e2).trans e3).trans e4, rfl⟩
    rintro σ' H3 ⟨o, hol, e3, rfl⟩
    refine q_asgN (en_call (ea_cons (ev_var rfl) ea_nil) (sn_list (by omega))) fun p xs H4 hp e4 h4 hx => ?_
    have hz := allParts_len (l := l) (by omega)
    have hzs : (sortedParts l).length < 30000 := by
      unfold sortedParts
      rw [ranked_len]
      exact hz
    have hsm : ∀ u ∈ sortedParts l, u.length ≤ 14 := fun u hu => by
      have := allParts_le (ranked_mem.mp hu)
      omega
    refine q_asgN (ds := ((sortedParts l).filter fun p => decide (p = []) || decide ((1 : Int) < ((whereV l p).length : Int))).map strD) (en_lcS (sortedParts l) _ (fun p => .str (S p)) (ei_lst (ev_var rfl) h4 hx) (by omega) fun u hu H5 e5 => ⟨?_, fun _ => ed_str (ev_var rfl)⟩) fun pt xt H5 hpt e5 h5 hxt => ?_
    · have := hsm u hu
      exact et_or (et_test (ev_eqS (b := []) (ev_var rfl) (ev_is ev_c rfl))) (fun _ => et_test (ev_op (ev_is (ev_lenT (ed_call (ea_cons (ev_var rfl) (ea_cons (ev_var rfl) ea_nil)) (sd_where (by omega) (by omega)))) (congrArg (fun n : Nat => V.int (n : Int)) (List.length_map _))) ev_c rv_I0))
    rw [strs_of hxt] at h5
    obtain ⟨mt, hmt⟩ := first_ex (ls := twiceP l) (by simp [twiceP])
    have hmt' := hmt.congr (twice_same l)
    have hmtl : mt.length ≤ 14 := hsm mt (List.mem_filter.mp hmt'.1).1
    refine q_when (b := false) (et_not (a := true) (et_B (ev_cl (ea_cons (x := .str (S mt)) (ev_cl (ea_cons (ev_var rfl) ea_nil) fun H6 e6 Q2 q2 E2 => ⟨l, mt, rfl, by omega, hmt, q2⟩) (ea_cons (ev_var rfl) ea_nil)) fun H6 e6 Q2 q2 E2 => ⟨pt, _, mt, rfl, e6 _ _ h5, hmt', by omega, q2⟩))) (fun hb => by cases hb) fun _ H6 e6 => ?_
    refine q_asgN (en_call (ea_cons (ev_var rfl) ea_nil) (sn_list (by omega))) fun po xo H7 hpo e7 h7 hxo => ?_
    have h47 := ((e5.trans e6).trans e7) _ _ h4
    have hx7 := TdAll.ex ((e5.trans e6).trans e7) hx
    obtain ⟨msh, hms⟩ := first_ex (ls := sharedP l o) (List.ne_nil_of_mem (a := []) (List.mem_filter.mpr ⟨allParts_nil l, decide_eq_true (allParts_nil o)⟩))
    have hms' := hms.congr (shared_same l o)
    have hmsl : msh.length ≤ 14 := hsm msh (List.mem_filter.mp hms'.1).1
    refine q_when (b := false) (et_not (a := true) (et_B (ev_callVN (x := .str (S msh)) (z := .bl true) (ds := ((sortedParts l).filter fun p => decide (p ∈ sortedParts o)).map strD) (ev_cl (ea_cons (ev_var rfl) (ea_cons (ev_var rfl) ea_nil)) fun H8 e8 Q2 q2 E2 => ⟨l, o, msh, rfl, by omega, by omega, hms, q2⟩)
      (en_lcS (sortedParts l) (fun p => decide (p ∈ sortedParts o)) (fun p => .str (S p)) (ei_lst (ev_var rfl) h47 hx7) (by omega) fun u hu H8 e8 => ⟨et_test (ev_inL (ls := sortedParts o) (ev_var rfl) (ev_var rfl) (e8 _ _ h7) (TdAll.ex e8 hxo)), fun _ => ed_str (ev_var rfl)⟩)
      fun pp xx H8 e8 h8 hx8 => ?_))) (fun hb => by cases hb) fun _ H8 e8 => ?_
    · rw [strs_of hx8] at h8
      exact fun H9 e9 Q2 q2 E2 => ⟨pp, _, msh, rfl, e9 _ _ h8, hms', by omega, q2⟩
    have e18 := (((((e3.trans e4).trans e5).trans e6).trans e7).trans e8)
    have s1 : 0 ≤ mixV ns 3 % 5 := Int.emod_nonneg _ (by decide)
    have s2 : mixV ns 3 % 5 < 5 := Int.emod_lt_of_pos _ (by decide)
    obtain ⟨j, hj⟩ : ∃ j : Nat, mixV ns 3 % 5 = (j : Int) := ⟨(mixV ns 3 % 5).toNat, by omega⟩
    have hjl : j < letsL.length := by
      show j < 5
      omega
    obtain ⟨hne, ha3, has⟩ := lets_ok _ (List.getElem_mem hjl)
    refine q_asg (v := .str (S letsL[j])) (EvD.str (ed_ixT (ds := letsL.map strD) (j := j) (ed_tup (ead_cons (ed_str (ev_is ev_c rfl)) (ead_cons (ed_str (ev_is ev_c rfl)) (ead_cons (ed_str (ev_is ev_c rfl)) (ead_cons (ed_str (ev_is ev_c rfl)) (ead_cons (ed_str (ev_is ev_c rfl)) ead_nil))))) (by decide)) (ev_is (ev_op (ev_cl (ea_cons (ev_var rfl) (ea_cons ev_c ea_nil)) (mx 3 (by decide) _ e18)) ev_c (rv_I (by decide))) (congrArg V.int hj)) (by rw [List.getElem?_map, List.getElem?_eq_getElem hjl]; rfl))) fun H9 e9 => ?_
    generalize letsL[j] = av at hne ha3 has
    obtain ⟨n, m, hin, hout, hm, hnl⟩ := miss_ex l hne
    obtain ⟨hm1, hm2, hm3⟩ := out_first has hm
    have hml := words_len hm1
    refine q_asg (v := .str (S m)) (ev_cl (ea_cons (ev_var rfl) (ea_cons (ev_var rfl) ea_nil)) fun H10 e10 Q2 q2 E2 => ⟨l, av, n, m, rfl, by omega, hne, ha3, has, hin, hout, hm, q2⟩) fun H10 e10 => ?_
    have h4a := ((e8.trans e9).trans e10) _ _ h47
    have hxa := TdAll.ex ((e8.trans e9).trans e10) hx7
    have hms2 : m ∉ sortedParts l := fun z => hm2 (ranked_mem.mp z)
    have hsg : m.filter (fun c => !decide (c ∈ av)) = [] := by
      rw [List.filter_eq_nil_iff]
      intro c hc
      simp [words_sub hm1 c hc]
    refine q_when (b := false) (et_is (et_or (et_not (a := true) (et_B (ev_isi (T := "str") (b := true) (ea_cons (ev_var rfl) (ea_cons ev_c ea_nil)) (fun H' _ => .base (.str _)) (by decide +kernel) (.ty _)))) (fun _ => et_or (et_test (ev_inL (ls := sortedParts l) (ev_var rfl) (ev_var rfl) h4a hxa)) (fun _ => et_test (ev_is (ev_neD (a := .list ((m.filter fun c => !decide (c ∈ av)).map fun c => .str (S [c]))) (eq_n (en_lcA (fun c => PyData.str (S [c])) m (fun c => !decide (c ∈ av)) (fun c => .str (S [c])) (ei_str (ev_var rfl)) (by omega) fun c hc x H11 e11 hx11 => ?_)) (eq_n (en_lst ead_nil (by decide))) (by rw [hsg]; exact shaped_nil) shaped_nil) (show V.bl (!PyData.eqv (.list ((m.filter fun c => !decide (c ∈ av)).map fun c => .str (S [c]))) (.list [])) = V.bl false by rw [hsg, List.map_nil, eqv_nn]; rfl)))))
      (by simp [hms2])) (fun hb => by cases hb) fun _ H11 e11 => ?_
    · cases hx11.str_
      exact ⟨_, bnd_name, rfl, et_test (ev_niSign (ev_var rfl) (ev_var rfl)), fun _ => ed_str (ev_var rfl)⟩
    refine q_asg (v := .int ((0 : Nat) : Int)) (ev_is ev_c rfl) fun H12 e12 => ?_
    have h4c := (e11.trans e12) _ _ h4a
    have hxc := TdAll.ex (e11.trans e12) hxa
    have hbd : ∀ k, k ≤ n → ∀ i, i ≤ k → (wordsV av i).length ≤ 2000 := fun k hk i hi => by
      have := words_bound has ha3 (l := l) (by omega) i (fun i' hi' => hin i' (by omega))
      omega
    refine q_while (fun ms σ' H' => ∃ k, ms = n - k ∧ k ≤ n ∧ Ex H12 H' ∧ σ' = [some (.ref a), some (.str (S l)), some (.str (S o)), some (.ref p), some (.ref pt), some (.ref po), some (.str (S av)), some (.str (S m)), some (.int (k : Int)), none, none, none]) n ⟨0, by omega, Nat.zero_le _, Ex.refl _, rfl⟩ ?_
    rintro ms σ' H13 ⟨k, rfl, hk, e13, rfl⟩
    refine ⟨decide ((k : Int) < (m.length : Int)) && decide ((k : Int) < 15), et_and (et_test (ev_op (ev_var rfl) (ev_lenStr (ev_var rfl) (by omega)) rv_I0)) (fun _ => et_test (ev_op (ev_var rfl) ev_c rv_I0)), fun hbt H14 e14 => ?_, fun hbf H14 e14 => ?_⟩
    · rw [Bool.and_eq_true] at hbt
      have hkn := of_decide_eq_true hbt.1
      have hall := hin k (by omega)
      have hf0 : (wordsV av k).filter (fun u => !decide (u ∈ sortedParts l)) = [] := by
        rw [List.filter_eq_nil_iff]
        intro u hu
        have : u ∈ sortedParts l := ranked_mem.mpr (hall u hu)
        simp [this]
      refine ⟨fun σ2 H15 => Ex H12 H15 ∧ σ2 = [some (.ref a), some (.str (S l)), some (.str (S o)), some (.ref p), some (.ref pt), some (.ref po), some (.str (S av)), some (.str (S m)), some (.int ((k + 1 : Nat) : Int)), none, none, none], fun σ2 H15 ⟨h5, h6⟩ => ⟨n - (k + 1), by omega, k + 1, rfl, by omega, h5, h6⟩, ?_⟩
      refine q_when (b := false) (et_test (ev_is (ev_neD (a := .list (((wordsV av k).filter fun u => !decide (u ∈ sortedParts l)).map strD)) (eq_n (en_lcS (wordsV av k) (fun u => !decide (u ∈ sortedParts l)) (fun u => .str (S u)) (ei_new (en_call (ea_cons (ev_var rfl) (ea_cons (ev_var rfl) ea_nil)) (sn_words (N := 16) (by omega) ha3 (hbd k (by omega)) (by omega)))) (by have := hbd k (by omega) k (Nat.le_refl _); omega) fun u hu H15 e15 => ⟨et_test (ev_niL (ls := sortedParts l) (ev_var rfl) (ev_var rfl) (((e13.trans e14).trans e15) _ _ h4c) (TdAll.ex ((e13.trans e14).trans e15) hxc)), fun _ => ed_str (ev_var rfl)⟩)) (eq_n (en_lst ead_nil (by decide))) (by rw [hf0]; exact shaped_nil) shaped_nil) (congrArg V.bl (by rw [hf0]; exact congrArg not (eqv_nil []))))) (fun hb => by cases hb) fun _ H15 e15 => ?_
      exact s_asg (v := .int ((k + 1 : Nat) : Int)) (ev_is (ev_op (ev_var rfl) ev_c rv_I0) (congrArg V.int (by omega))) fun H16 e16 => ⟨((e13.trans e14).trans e15).trans e16, rfl⟩
    · have hkn : k = n := by
        by_cases h : k < n
        · rw [decide_eq_true (show (k : Int) < (m.length : Int) by omega), decide_eq_true (show (k : Int) < 15 by omega)] at hbf
          cases hbf
        · omega
      subst hkn
      have hf0 : (wordsV av k).filter (fun u => decide (u < m) && !decide (u ∈ sortedParts l)) = [] := by
        rw [← hm3]
        refine List.filter_congr fun u _ => ?_
        have : u ∈ sortedParts l ↔ u ∈ allParts l := ranked_mem
        simp [this]
      refine s_ret (v := .bl true) (ev_is (ev_eqD (a := .list (((wordsV av k).filter fun u => decide (u < m) && !decide (u ∈ sortedParts l)).map strD)) (eq_n (en_lcS (wordsV av k) (fun u => decide (u < m) && !decide (u ∈ sortedParts l)) (fun u => .str (S u)) (ei_new (en_call (ea_cons (ev_var rfl) (ea_cons (ev_var rfl) ea_nil)) (sn_words (N := 16) (by omega) ha3 (hbd k (by omega)) (by omega)))) (by have := hbd k (by omega) k (Nat.le_refl _); omega) fun u hu H15 e15 => ⟨et_and (et_test (ev_ltS (ev_var rfl) (ev_var rfl))) (fun _ => et_test (ev_niL (ls := sortedParts l) (ev_var rfl) (ev_var rfl) (((e13.trans e14).trans e15) _ _ h4c) (TdAll.ex ((e13.trans e14).trans e15) hxc))), fun _ => ed_str (ev_var rfl)⟩)) (eq_n (en_lst ead_nil (by decide))) (by rw [hf0]; exact shaped_nil) shaped_nil) (congrArg V.bl (by rw [hf0]; exact eqv_nil []))) fun H15 _ => q H15
end

end TY
namespace TY
open PySem PySem.Spec PyProof.Rows L2 Evl
theorem all_mk {l : PySem.W.OpenLaw} {w : World} {K : PySem.W.Frag} {h : Heap} {mg : Str → Option Value} {fa f1 f2 f3 f4 f5 f6 f7 f8 f9 f10 f11 f12 f13 f14 f15 f16 : Addr} (X : K.In h) (G : h.Ns mainGlobals mg) (hfa : mg "law" = some (.ref fa))
    {od1 an1 od2 an2 od3 an3 od4 an4 od5 an5 od6 an6 od7 an7 od8 an8 od9 an9 od10 an10 od11 an11 od12 an12 od13 an13 od14 an14 od15 an15 od16 an16 : Option Addr} {sl1 sl2 sl3 sl4 sl5 sl6 sl7 sl8 sl9 sl10 sl11 sl12 sl13 sl14 sl15 sl16 : Array (Option Value)} {oc1 kV1 dc1 pm1 cd1 ct1 oc2 kV2 dc2 pm2 cd2 ct2 oc3 kV3 dc3 pm3 cd3 ct3 oc4 kV4 dc4 pm4 cd4 ct4 oc5 kV5 dc5 pm5 cd5 ct5 oc6 kV6 dc6 pm6 cd6 ct6 oc7 kV7 dc7 pm7 cd7 ct7 oc8 kV8 dc8 pm8 cd8 ct8 oc9 kV9 dc9 pm9 cd9 ct9 oc10 kV10 dc10 pm10 cd10 ct10 oc11 kV11 dc11 pm11 cd11 ct11 oc12 kV12 dc12 pm12 cd12 ct12 oc13 kV13 dc13 pm13 cd13 ct13 oc14 kV14 dc14 pm14 cd14 ct14 oc15 kV15 dc15 pm15 cd15 ct15 oc16 kV16 dc16 pm16 cd16 ct16 : Value}
    (a1 : PySem.W.nsIn K mainGlobals "_law_cell_at" = some (some (.ref f1))) (l1 : K.lookup f1 = some ⟨oc1, od1, .func (PySem.W.fnOf "_law_cell_at" "_law_cell_at" (defArgs s__law_cell_at) (defBody s__law_cell_at) (defScope s__law_cell_at) .none kV1 dc1 pm1 an1 cd1 ct1), sl1⟩) (c1 : PySem.W.codeIn K cd1 "_law_cell_at" = true) (k1 : PySem.W.keepIn K (.ref f1) = true)
    (a2 : PySem.W.nsIn K mainGlobals "_law_mixed" = some (some (.ref f2))) (l2 : K.lookup f2 = some ⟨oc2, od2, .func (PySem.W.fnOf "_law_mixed" "_law_mixed" (defArgs s__law_mixed) (defBody s__law_mixed) (defScope s__law_mixed) .none kV2 dc2 pm2 an2 cd2 ct2), sl2⟩) (c2 : PySem.W.codeIn K cd2 "_law_mixed" = true) (k2 : PySem.W.keepIn K (.ref f2) = true)
    (a3 : PySem.W.nsIn K mainGlobals "_law_drawn" = some (some (.ref f3))) (l3 : K.lookup f3 = some ⟨oc3, od3, .func (PySem.W.fnOf "_law_drawn" "_law_drawn" (defArgs s__law_drawn) (defBody s__law_drawn) (defScope s__law_drawn) .none kV3 dc3 pm3 an3 cd3 ct3), sl3⟩) (c3 : PySem.W.codeIn K cd3 "_law_drawn" = true) (k3 : PySem.W.keepIn K (.ref f3) = true)
    (a4 : PySem.W.nsIn K mainGlobals "_law_text" = some (some (.ref f4))) (l4 : K.lookup f4 = some ⟨oc4, od4, .func (PySem.W.fnOf "_law_text" "_law_text" (defArgs s__law_text) (defBody s__law_text) (defScope s__law_text) .none kV4 dc4 pm4 an4 cd4 ct4), sl4⟩) (c4 : PySem.W.codeIn K cd4 "_law_text" = true) (k4 : PySem.W.keepIn K (.ref f4) = true)
    (a5 : PySem.W.nsIn K mainGlobals "all_parts" = some (some (.ref f5))) (l5 : K.lookup f5 = some ⟨oc5, od5, .func (PySem.W.fnOf "all_parts" "all_parts" (defArgs s_all_parts) (defBody s_all_parts) (defScope s_all_parts) .none kV5 dc5 pm5 an5 cd5 ct5), sl5⟩) (c5 : PySem.W.codeIn K cd5 "all_parts" = true) (k5 : PySem.W.keepIn K (.ref f5) = true)
    (a6 : PySem.W.nsIn K mainGlobals "where" = some (some (.ref f6))) (l6 : K.lookup f6 = some ⟨oc6, od6, .func (PySem.W.fnOf "where" "where" (defArgs s_where) (defBody s_where) (defScope s_where) .none kV6 dc6 pm6 an6 cd6 ct6), sl6⟩) (c6 : PySem.W.codeIn K cd6 "where" = true) (k6 : PySem.W.keepIn K (.ref f6) = true)
    (a7 : PySem.W.nsIn K mainGlobals "first_longest" = some (some (.ref f7))) (l7 : K.lookup f7 = some ⟨oc7, od7, .func (PySem.W.fnOf "first_longest" "first_longest" (defArgs s_first_longest) (defBody s_first_longest) (defScope s_first_longest) .none kV7 dc7 pm7 an7 cd7 ct7), sl7⟩) (c7 : PySem.W.codeIn K cd7 "first_longest" = true) (k7 : PySem.W.keepIn K (.ref f7) = true)
    (a8 : PySem.W.nsIn K mainGlobals "longest_twice" = some (some (.ref f8))) (l8 : K.lookup f8 = some ⟨oc8, od8, .func (PySem.W.fnOf "longest_twice" "longest_twice" (defArgs s_longest_twice) (defBody s_longest_twice) (defScope s_longest_twice) .none kV8 dc8 pm8 an8 cd8 ct8), sl8⟩) (c8 : PySem.W.codeIn K cd8 "longest_twice" = true) (k8 : PySem.W.keepIn K (.ref f8) = true)
    (a9 : PySem.W.nsIn K mainGlobals "longest_shared" = some (some (.ref f9))) (l9 : K.lookup f9 = some ⟨oc9, od9, .func (PySem.W.fnOf "longest_shared" "longest_shared" (defArgs s_longest_shared) (defBody s_longest_shared) (defScope s_longest_shared) .none kV9 dc9 pm9 an9 cd9 ct9), sl9⟩) (c9 : PySem.W.codeIn K cd9 "longest_shared" = true) (k9 : PySem.W.keepIn K (.ref f9) = true)
    (a10 : PySem.W.nsIn K mainGlobals "longer" = some (some (.ref f10))) (l10 : K.lookup f10 = some ⟨oc10, od10, .func (PySem.W.fnOf "longer" "longer" (defArgs s_longer) (defBody s_longer) (defScope s_longer) .none kV10 dc10 pm10 an10 cd10 ct10), sl10⟩) (c10 : PySem.W.codeIn K cd10 "longer" = true) (k10 : PySem.W.keepIn K (.ref f10) = true)
    (a11 : PySem.W.nsIn K mainGlobals "missing" = some (some (.ref f11))) (l11 : K.lookup f11 = some ⟨oc11, od11, .func (PySem.W.fnOf "missing" "missing" (defArgs s_missing) (defBody s_missing) (defScope s_missing) .none kV11 dc11 pm11 an11 cd11 ct11), sl11⟩) (c11 : PySem.W.codeIn K cd11 "missing" = true) (k11 : PySem.W.keepIn K (.ref f11) = true)
    (a12 : PySem.W.nsIn K mainGlobals "_law_parts" = some (some (.ref f12))) (l12 : K.lookup f12 = some ⟨oc12, od12, .func (PySem.W.fnOf "_law_parts" "_law_parts" (defArgs s__law_parts) (defBody s__law_parts) (defScope s__law_parts) .none kV12 dc12 pm12 an12 cd12 ct12), sl12⟩) (c12 : PySem.W.codeIn K cd12 "_law_parts" = true) (k12 : PySem.W.keepIn K (.ref f12) = true)
    (a13 : PySem.W.nsIn K mainGlobals "_law_where" = some (some (.ref f13))) (l13 : K.lookup f13 = some ⟨oc13, od13, .func (PySem.W.fnOf "_law_where" "_law_where" (defArgs s__law_where) (defBody s__law_where) (defScope s__law_where) .none kV13 dc13 pm13 an13 cd13 ct13), sl13⟩) (c13 : PySem.W.codeIn K cd13 "_law_where" = true) (k13 : PySem.W.keepIn K (.ref f13) = true)
    (a14 : PySem.W.nsIn K mainGlobals "_law_first_of_longest" = some (some (.ref f14))) (l14 : K.lookup f14 = some ⟨oc14, od14, .func (PySem.W.fnOf "_law_first_of_longest" "_law_first_of_longest" (defArgs s__law_first_of_longest) (defBody s__law_first_of_longest) (defScope s__law_first_of_longest) .none kV14 dc14 pm14 an14 cd14 ct14), sl14⟩) (c14 : PySem.W.codeIn K cd14 "_law_first_of_longest" = true) (k14 : PySem.W.keepIn K (.ref f14) = true)
    (a15 : PySem.W.nsIn K mainGlobals "_law_words" = some (some (.ref f15))) (l15 : K.lookup f15 = some ⟨oc15, od15, .func (PySem.W.fnOf "_law_words" "_law_words" (defArgs s__law_words) (defBody s__law_words) (defScope s__law_words) .none kV15 dc15 pm15 an15 cd15 ct15), sl15⟩) (c15 : PySem.W.codeIn K cd15 "_law_words" = true) (k15 : PySem.W.keepIn K (.ref f15) = true)
    (a16 : PySem.W.nsIn K mainGlobals "law" = some (some (.ref f16))) (l16 : K.lookup f16 = some ⟨oc16, od16, .func (PySem.W.fnOf "law" "law" (defArgs s_law) (defBody s_law) (defScope s_law) .none kV16 dc16 pm16 an16 cd16 ct16), sl16⟩) (c16 : PySem.W.codeIn K cd16 "law" = true) (k16 : PySem.W.keepIn K (.ref f16) = true)
    (z_len : PySem.W.nsIn K mainGlobals "len" = some none)    (z_range : PySem.W.nsIn K mainGlobals "range" = some none)    (z_tuple : PySem.W.nsIn K mainGlobals "tuple" = some none)    (z_list : PySem.W.nsIn K mainGlobals "list" = some none)    (z_isinstance : PySem.W.nsIn K mainGlobals "isinstance" = some none)    (z_sorted : PySem.W.nsIn K mainGlobals "sorted" = some none)    (z_int : PySem.W.nsIn K mainGlobals "int" = some none)    (z_str : PySem.W.nsIn K mainGlobals "str" = some none)    (z_bool : PySem.W.nsIn K mainGlobals "bool" = some none)    (z_max : PySem.W.nsIn K mainGlobals "max" = some none)    (z_min : PySem.W.nsIn K mainGlobals "min" = some none)    (z_sum : PySem.W.nsIn K mainGlobals "sum" = some none)    (z_all : PySem.W.nsIn K mainGlobals "all" = some none)    (z_zip : PySem.W.nsIn K mainGlobals "zip" = some none)    (z_enumerate : PySem.W.nsIn K mainGlobals "enumerate" = some none)
    : ∃ fd : FuncData, (∀ (s : Shared) (v : Value), BindsTo s fd ⟨[v], []⟩ [("_law_script", v)]) ∧ ∀ base : Heap, K.In base → base.Ns mainGlobals mg → FnOk l.prog w K mg base CX0 18 fa fd ["_law_script"] (spLaw K) := by
  have e := hfa.symm.trans (PySem.W.mg_of X G a16)
  cases e
  have T_ : Nm mg := ⟨PySem.W.mg_none_of X G z_len, PySem.W.mg_none_of X G z_range, PySem.W.mg_none_of X G z_tuple, PySem.W.mg_none_of X G z_list, PySem.W.mg_none_of X G z_isinstance, PySem.W.mg_none_of X G z_sorted, PySem.W.mg_none_of X G z_int, PySem.W.mg_none_of X G z_str, PySem.W.mg_none_of X G z_bool, PySem.W.mg_none_of X G z_max, PySem.W.mg_none_of X G z_min, PySem.W.mg_none_of X G z_sum, PySem.W.mg_none_of X G z_all, PySem.W.mg_none_of X G z_zip, PySem.W.mg_none_of X G z_enumerate⟩
  refine ⟨PySem.W.fnOf "law" "law" (defArgs s_law) (defBody s_law) (defScope s_law) .none kV16 dc16 pm16 an16 cd16 ct16, fun s v => .of_eq rfl, fun base _ _ => ?_⟩
  have F1 := fun_mk (st := s__law_cell_at) l1 c1 k1
  have c__law_cell_at : Cl l.prog w K mg base 1 "_law_cell_at" (spCell K) := ⟨f1, _, _, ok__law_cell_at F1 T_, PySem.W.mg_of X G a1, F1.kp, F1.binds (ps := ["_law_script", "_law_k"]) fun _ _ _ _ _ _ us hl => match us, hl with | [_, _], _ => rfl⟩
  have F2 := fun_mk (st := s__law_mixed) l2 c2 k2
  have c__law_mixed : Cl l.prog w K mg base 2 "_law_mixed" (spMixed K) := ⟨f2, _, _, ok__law_mixed F2 T_ c__law_cell_at, PySem.W.mg_of X G a2, F2.kp, F2.binds (ps := ["_law_script", "_law_k"]) fun _ _ _ _ _ _ us hl => match us, hl with | [_, _], _ => rfl⟩
  have F3 := fun_mk (st := s__law_drawn) l3 c3 k3
  have c__law_drawn : Cl l.prog w K mg base 1 "_law_drawn" spDrawn := ⟨f3, _, _, ok__law_drawn F3 T_, PySem.W.mg_of X G a3, F3.kp, F3.binds (ps := ["_law_number", "_law_k"]) fun _ _ _ _ _ _ us hl => match us, hl with | [_, _], _ => rfl⟩
  have F4 := fun_mk (st := s__law_text) l4 c4 k4
  have c__law_text : Cl l.prog w K mg base 2 "_law_text" spText := ⟨f4, _, _, ok__law_text F4 T_ c__law_drawn, PySem.W.mg_of X G a4, F4.kp, F4.binds (ps := ["_law_number", "_law_most"]) fun _ _ _ _ _ _ us hl => match us, hl with | [_, _], _ => rfl⟩
  have F5 := fun_mk (st := s_all_parts) l5 c5 k5
  have c_all_parts : Cl l.prog w K mg base 1 "all_parts" spAll := ⟨f5, _, _, ok_all_parts F5 T_, PySem.W.mg_of X G a5, F5.kp, F5.binds (ps := ["text"]) fun _ _ _ _ _ _ us hl => match us, hl with | [_], _ => rfl⟩
  have F6 := fun_mk (st := s_where) l6 c6 k6
  have c_where : Cl l.prog w K mg base 1 "where" spWhere := ⟨f6, _, _, ok_where F6 T_, PySem.W.mg_of X G a6, F6.kp, F6.binds (ps := ["text", "part"]) fun _ _ _ _ _ _ us hl => match us, hl with | [_, _], _ => rfl⟩
  have F7 := fun_mk (st := s_first_longest) l7 c7 k7
  have c_first_longest : Cl l.prog w K mg base 1 "first_longest" spFirst := ⟨f7, _, _, ok_first_longest F7 T_, PySem.W.mg_of X G a7, F7.kp, F7.binds (ps := ["some"]) fun _ _ _ _ _ _ us hl => match us, hl with | [_], _ => rfl⟩
  have F8 := fun_mk (st := s_longest_twice) l8 c8 k8
  have c_longest_twice : Cl l.prog w K mg base 2 "longest_twice" spTwice := ⟨f8, _, _, ok_longest_twice F8 T_ c_all_parts c_where c_first_longest, PySem.W.mg_of X G a8, F8.kp, F8.binds (ps := ["text"]) fun _ _ _ _ _ _ us hl => match us, hl with | [_], _ => rfl⟩
  have F9 := fun_mk (st := s_longest_shared) l9 c9 k9
  have c_longest_shared : Cl l.prog w K mg base 2 "longest_shared" spShared := ⟨f9, _, _, ok_longest_shared F9 T_ c_all_parts c_first_longest, PySem.W.mg_of X G a9, F9.kp, F9.binds (ps := ["one", "other"]) fun _ _ _ _ _ _ us hl => match us, hl with | [_, _], _ => rfl⟩
  have F10 := fun_mk (st := s_longer) l10 c10 k10
  have c_longer : Cl l.prog w K mg base 1 "longer" spLonger := ⟨f10, _, _, ok_longer F10 T_, PySem.W.mg_of X G a10, F10.kp, F10.binds (ps := ["words", "letters"]) fun _ _ _ _ _ _ us hl => match us, hl with | [_, _], _ => rfl⟩
  have F11 := fun_mk (st := s_missing) l11 c11 k11
  have c_missing : Cl l.prog w K mg base 2 "missing" spMissing := ⟨f11, _, _, ok_missing F11 T_ c_all_parts c_longer, PySem.W.mg_of X G a11, F11.kp, F11.binds (ps := ["text", "letters"]) fun _ _ _ _ _ _ us hl => match us, hl with | [_, _], _ => rfl⟩
  have F12 := fun_mk (st := s__law_parts) l12 c12 k12
  have c__law_parts : Cl l.prog w K mg base 1 "_law_parts" (spList sortedParts) := ⟨f12, _, _, ok__law_parts F12 T_, PySem.W.mg_of X G a12, F12.kp, F12.binds (ps := ["_law_text_here"]) fun _ _ _ _ _ _ us hl => match us, hl with | [_], _ => rfl⟩
  have F13 := fun_mk (st := s__law_where) l13 c13 k13
  have c__law_where : Cl l.prog w K mg base 1 "_law_where" spWhere := ⟨f13, _, _, ok__law_where F13 T_, PySem.W.mg_of X G a13, F13.kp, F13.binds (ps := ["_law_text_here", "_law_part"]) fun _ _ _ _ _ _ us hl => match us, hl with | [_, _], _ => rfl⟩
  have F14 := fun_mk (st := s__law_first_of_longest) l14 c14 k14
  have c__law_first_of_longest : Cl l.prog w K mg base 1 "_law_first_of_longest" spLfl := ⟨f14, _, _, ok__law_first_of_longest F14 T_, PySem.W.mg_of X G a14, F14.kp, F14.binds (ps := ["_law_found", "_law_some"]) fun _ _ _ _ _ _ us hl => match us, hl with | [_, _], _ => rfl⟩
  have F15 := fun_mk (st := s__law_words) l15 c15 k15
  have c__law_words : Cl l.prog w K mg base 17 "_law_words" (spW 17) := ⟨f15, _, _, ok__law_words F15 T_ (PySem.W.mg_of X G a15) F15.kp (F15.binds (ps := ["_law_letters", "_law_size"]) fun _ _ _ _ _ _ us hl => match us, hl with | [_, _], _ => rfl), PySem.W.mg_of X G a15, F15.kp, F15.binds (ps := ["_law_letters", "_law_size"]) fun _ _ _ _ _ _ us hl => match us, hl with | [_, _], _ => rfl⟩
  have F16 := fun_mk (st := s_law) l16 c16 k16
  exact ok_law F16 T_ c__law_mixed c__law_text c_longest_twice c_longest_shared c_missing c__law_parts c__law_where c__law_first_of_longest c__law_words
end TY
open PySem PySem.W PyProof.Rows
set_option maxHeartbeats 0 in
theorem PySem.Challenge.cw_tailyard_k11_whole_longest_and_missing_holds : PySem.Challenge.rw_tailyard_k11_whole_longest_and_missing.Holds := by
  w_on; o_law; k_head; (case hw => w_witness2)
  k_fill
  refine L2.walk_of (l := PySem.Challenge.rw_tailyard_k11_whole_longest_and_missing) (n := 63) (k := 18) (x := "_law_script") (CX := fun _ => L2.CX0) (sp := fun w => TY.spLaw _) rfl (by decide) rfl ⟨rfl, by decide, by decide⟩ (fun w h Y => PySem.W.kIn_of Y) ?F (fun _ _ a ns hl _ hS => ⟨a, ns, rfl, hS, hl, fun _ => rfl⟩) (fun _ _ _ _ _ h => h)
  case F =>
    intro w mg fa h KX G hmg
    refine' TY.all_mk KX G hmg ?a1 ?l1 ?c1 ?k1 ?a2 ?l2 ?c2 ?k2 ?a3 ?l3 ?c3 ?k3 ?a4 ?l4 ?c4 ?k4 ?a5 ?l5 ?c5 ?k5 ?a6 ?l6 ?c6 ?k6 ?a7 ?l7 ?c7 ?k7 ?a8 ?l8 ?c8 ?k8 ?a9 ?l9 ?c9 ?k9 ?a10 ?l10 ?c10 ?k10 ?a11 ?l11 ?c11 ?k11 ?a12 ?l12 ?c12 ?k12 ?a13 ?l13 ?c13 ?k13 ?a14 ?l14 ?c14 ?k14 ?a15 ?l15 ?c15 ?k15 ?a16 ?l16 ?c16 ?k16 ?z_len ?z_range ?z_tuple ?z_list ?z_isinstance ?z_sorted ?z_int ?z_str ?z_bool ?z_max ?z_min ?z_sum ?z_all ?z_zip ?z_enumerate
    (case a1 => k_is)
    (case l1 => k_is)
    (case c1 => k_is)
    (case k1 => k_is)
    (case a2 => k_is)
    (case l2 => k_is)
    (case c2 => k_is)
    (case k2 => k_is)
    (case a3 => k_is)
    (case l3 => k_is)
    (case c3 => k_is)
    (case k3 => k_is)
    (case a4 => k_is)
    (case l4 => k_is)
    (case c4 => k_is)
    (case k4 => k_is)
    (case a5 => k_is)
    (case l5 => k_is)
    (case c5 => k_is)
    (case k5 => k_is)
    (case a6 => k_is)
    (case l6 => k_is)
    (case c6 => k_is)
    (case k6 => k_is)
    (case a7 => k_is)
    (case l7 => k_is)
    (case c7 => k_is)
    (case k7 => k_is)
    (case a8 => k_is)
    (case l8 => k_is)
    (case c8 => k_is)
    (case k8 => k_is)
    (case a9 => k_is)
    (case l9 => k_is)
    (case c9 => k_is)
    (case k9 => k_is)
    (case a10 => k_is)
    (case l10 => k_is)
    (case c10 => k_is)
    (case k10 => k_is)
    (case a11 => k_is)
    (case l11 => k_is)
    (case c11 => k_is)
    (case k11 => k_is)
    (case a12 => k_is)
    (case l12 => k_is)
    (case c12 => k_is)
    (case k12 => k_is)
    (case a13 => k_is)
    (case l13 => k_is)
    (case c13 => k_is)
    (case k13 => k_is)
    (case a14 => k_is)
    (case l14 => k_is)
    (case c14 => k_is)
    (case k14 => k_is)
    (case a15 => k_is)
    (case l15 => k_is)
    (case c15 => k_is)
    (case k15 => k_is)
    (case a16 => k_is)
    (case l16 => k_is)
    (case c16 => k_is)
    (case k16 => k_is)
    (case z_len => k_is)
    (case z_range => k_is)
    (case z_tuple => k_is)
    (case z_list => k_is)
    (case z_isinstance => k_is)
    (case z_sorted => k_is)
    (case z_int => k_is)
    (case z_str => k_is)
    (case z_bool => k_is)
    (case z_max => k_is)
    (case z_min => k_is)
    (case z_sum => k_is)
    (case z_all => k_is)
    (case z_zip => k_is)
    (case z_enumerate => k_is)
#print axioms PySem.Challenge.cw_tailyard_k11_whole_longest_and_missing_holds
