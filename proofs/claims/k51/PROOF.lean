import PyProof.Rows.All
import Wide.All
import OpenK.AllK
import Wide.FinOn
import HandS.ForMost
import HandS.Evl
import HandS.Walk
import HandS.Conv
import HandS.TupAny
import HandS.IsInst
import PySem.Challenge.RW_tailyard_k51_whole_two_periods
set_option Elab.async false
set_option linter.all false
set_option maxRecDepth 100000
set_option maxHeartbeats 4000000
namespace TY
open PySem PySem.Spec PyProof.Rows L2 Evl

/-! ### texts by their signs -/
def S (l : List Nat) : Str := ⟨l.toArray⟩
theorem S_cps (l : List Nat) : (S l).cps.toList = l := rfl
theorem S_len (l : List Nat) : (S l).length = l.length := by
  show l.toArray.size = l.length
  exact List.size_toArray
theorem S_inj {a b : List Nat} (h : S a = S b) : a = b := congrArg (fun x : Str => x.cps.toList) h
theorem S_eq (x : Str) : x = S x.cps.toList := rfl
theorem S_app (a b : List Nat) : S a ++ S b = S (a ++ b) := by
  show (⟨a.toArray ++ b.toArray⟩ : Str) = ⟨(a ++ b).toArray⟩
  rw [List.append_toArray]
theorem S_dec (a b : List Nat) : decide (V.str (S a) = V.str (S b)) = decide (a = b) := by
  by_cases h : a = b
  · subst h
    simp
  · rw [decide_eq_false h, decide_eq_false]
    intro q
    exact h (S_inj (V.str.inj q))
theorem S_cut (l : List Nat) (lo hi : Option Int) : cutS (S l) lo hi = S ((l.drop (HT.sIx l.length 0 lo)).take (HT.sIx l.length l.length hi - HT.sIx l.length 0 lo)) := by
  unfold cutS
  rw [S_cps, S_len]
  rfl
theorem S_from (l : List Nat) (k : Nat) : cutS (S l) (some (k : Int)) none = S (l.drop k) := by
  rw [S_cut, HT.sIx_nat, HT.sIx_none]
  congr 1
  by_cases h : k ≤ l.length
  · rw [Nat.min_eq_left h]
    exact List.take_of_length_le (by rw [List.length_drop]; omega)
  · rw [Nat.min_eq_right (by omega), List.drop_of_length_le (Nat.le_refl _), List.drop_of_length_le (by omega), List.take_nil]
theorem S_to (l : List Nat) (k : Nat) : cutS (S l) none (some (k : Int)) = S (l.take k) := by
  rw [S_cut, HT.sIx_nat, HT.sIx_none, List.drop_zero, Nat.sub_zero]
  congr 1
  by_cases h : k ≤ l.length
  · rw [Nat.min_eq_left h]
  · rw [Nat.min_eq_right (by omega), List.take_of_length_le (Nat.le_refl _), List.take_of_length_le (by omega)]
theorem S_mid (l : List Nat) (i j : Nat) : cutS (S l) (some (i : Int)) (some (j : Int)) = S ((l.drop i).take (j - i)) := by
  rw [S_cut, HT.sIx_nat, HT.sIx_nat]
  congr 1
  by_cases h : i ≤ l.length
  · rw [Nat.min_eq_left h]
    by_cases h2 : j ≤ l.length
    · rw [Nat.min_eq_left h2]
    · rw [Nat.min_eq_right (by omega), List.take_of_length_le (by rw [List.length_drop]; omega), List.take_of_length_le (by rw [List.length_drop]; omega)]
  · rw [Nat.min_eq_right (a := i) (by omega), List.drop_of_length_le (Nat.le_refl _), List.drop_of_length_le (by omega), List.take_nil, List.take_nil]

/-! ### data made of tuples alone: no store ends it -/
def ExT (H H' : Hp) : Prop := ∀ a xs, H a = some (.tup xs) → H' a = some (.tup xs)
theorem ExT.of {H H' : Hp} (e : Ex H H') : ExT H H' := fun a xs h => e a _ h
theorem ExT.trans {H H1 H2 : Hp} (a : ExT H H1) (b : ExT H1 H2) : ExT H H2 := fun c xs h => b c xs (a c xs h)
theorem ExT.upd {H : Hp} {p : Addr} {o u : HO} (h : H p = some o) (hn : ∀ xs, o ≠ .tup xs) : ExT H (upd H p u) := fun a xs q => by
  have hne : a ≠ p := ne_of q h (fun e => hn xs e.symm)
  rw [upd_ne hne]
  exact q
theorem ExT.updL {H : Hp} {p : Addr} {xs : List V} {u : HO} (h : H p = some (.lst xs)) : ExT H (L2.upd H p u) := ExT.upd h (fun _ e => by cases e)
mutual
inductive Td (H : Hp) : V → PyData → Prop
  | non : Td H .non .none
  | bl (b : Bool) : Td H (.bl b) (.bool b)
  | int (i : Int) : Td H (.int i) (.int i)
  | str (x : Str) : Td H (.str x) (.str x)
  | tup {a : Addr} {xs : List V} {ds : List PyData} : H a = some (.tup xs) → TdAll H xs ds → Td H (.ref a) (.tuple ds)
inductive TdAll (H : Hp) : List V → List PyData → Prop
  | nil : TdAll H [] []
  | cons {v : V} {vs : List V} {d : PyData} {ds : List PyData} : Td H v d → TdAll H vs ds → TdAll H (v :: vs) (d :: ds)
end
mutual
theorem Td.ext {H H' : Hp} (e : ExT H H') : ∀ {v : V} {d : PyData}, Td H v d → Td H' v d
  | _, _, .non => .non
  | _, _, .bl b => .bl b
  | _, _, .int i => .int i
  | _, _, .str x => .str x
  | _, _, .tup h hs => .tup (e _ _ h) (TdAll.ext e hs)
theorem TdAll.ext {H H' : Hp} (e : ExT H H') : ∀ {vs : List V} {ds : List PyData}, TdAll H vs ds → TdAll H' vs ds
  | _, _, .nil => .nil
  | _, _, .cons h hs => .cons (Td.ext e h) (TdAll.ext e hs)
end
mutual
theorem Td.dp {K : PySem.W.Frag} {H : Hp} : ∀ {v : V} {d : PyData}, Td H v d → Dp K H v d
  | _, _, .non => .non
  | _, _, .bl b => .bl b
  | _, _, .int i => .int i
  | _, _, .str x => .str x
  | _, _, .tup h hs => .tup (st_of h) (TdAll.dp hs)
theorem TdAll.dp {K : PySem.W.Frag} {H : Hp} : ∀ {vs : List V} {ds : List PyData}, TdAll H vs ds → DpAll K H vs ds
  | _, _, .nil => .nil
  | _, _, .cons h hs => .cons (Td.dp h) (TdAll.dp hs)
end
mutual
theorem Dp.ext {K : PySem.W.Frag} {H H' : Hp} (e : Ex H H') : ∀ {v : V} {d : PyData}, Dp K H v d → Dp K H' v d
  | _, _, .non => .non
  | _, _, .bl b => .bl b
  | _, _, .int i => .int i
  | _, _, .str x => .str x
  | _, _, .lst h hs => .lst (ex_l e h) (DpAll.ext e hs)
  | _, _, .tup h hs => .tup (ex_t e h) (DpAll.ext e hs)
theorem DpAll.ext {K : PySem.W.Frag} {H H' : Hp} (e : Ex H H') : ∀ {vs : List V} {ds : List PyData}, DpAll K H vs ds → DpAll K H' vs ds
  | _, _, .nil => .nil
  | _, _, .cons h hs => .cons (Dp.ext e h) (DpAll.ext e hs)
end
section
variable {H H' : Hp} {v : V} {vs ws : List V} {ds es : List PyData} {d : PyData}
theorem Td.ex (e : Ex H H') (h : Td H v d) : Td H' v d := Td.ext (ExT.of e) h
theorem TdAll.ex (e : Ex H H') (h : TdAll H vs ds) : TdAll H' vs ds := TdAll.ext (ExT.of e) h
theorem Td.int_ {i : Int} (h : Td H v (.int i)) : v = .int i := by cases h; rfl
theorem Td.str_ {x : Str} (h : Td H v (.str x)) : v = .str x := by cases h; rfl
theorem Td.bl_ {b : Bool} (h : Td H v (.bool b)) : v = .bl b := by cases h; rfl
theorem Td.non_ (h : Td H v .none) : v = .non := by cases h; rfl
theorem Td.tup_ (h : Td H v (.tuple ds)) : ∃ a xs, v = .ref a ∧ H a = some (.tup xs) ∧ TdAll H xs ds := by
  cases h with
  | tup h hs => exact ⟨_, _, rfl, h, hs⟩
theorem TdAll.len : ∀ {vs : List V} {ds : List PyData}, TdAll H vs ds → vs.length = ds.length
  | _, _, .nil => rfl
  | _, _, .cons _ hs => congrArg (· + 1) (TdAll.len hs)
theorem TdAll.append : ∀ {vs ws : List V} {ds es : List PyData}, TdAll H vs ds → TdAll H ws es → TdAll H (vs ++ ws) (ds ++ es)
  | _, _, _, _, .nil, h2 => h2
  | _, _, _, _, .cons h hs, h2 => .cons h (TdAll.append hs h2)
theorem TdAll.one (h : Td H v d) : TdAll H [v] [d] := .cons h .nil
theorem TdAll.get : ∀ {vs : List V} {ds : List PyData} {i : Nat} {x : V}, TdAll H vs ds → vs[i]? = some x → ∃ d, ds[i]? = some d ∧ Td H x d
  | _, _, i, x, .nil, h => by simp at h
  | _, _, 0, x, .cons h hs, e => by
    simp at e
    subst e
    exact ⟨_, rfl, h⟩
  | _, _, i + 1, x, .cons h hs, e => by
    simp only [List.getElem?_cons_succ] at e
    obtain ⟨d, h1, h2⟩ := TdAll.get hs e
    exact ⟨d, by simpa using h1, h2⟩
theorem TdAll.get' {vs : List V} {ds : List PyData} {i : Nat} {d : PyData} (h : TdAll H vs ds) (e : ds[i]? = some d) : ∃ x, vs[i]? = some x ∧ Td H x d := by
  have hl := h.len
  have hi : i < vs.length := by
    have := (List.getElem?_eq_some_iff.mp e).1
    omega
  obtain ⟨d', h1, h2⟩ := h.get (List.getElem?_eq_getElem hi)
  rw [e] at h1
  cases h1
  exact ⟨_, List.getElem?_eq_getElem hi, h2⟩
theorem TdAll.take : ∀ {vs : List V} {ds : List PyData} (n : Nat), TdAll H vs ds → TdAll H (vs.take n) (ds.take n)
  | _, _, 0, _ => .nil
  | _, _, n + 1, .nil => .nil
  | _, _, n + 1, .cons h hs => .cons h (TdAll.take n hs)
theorem TdAll.drop : ∀ {vs : List V} {ds : List PyData} (n : Nat), TdAll H vs ds → TdAll H (vs.drop n) (ds.drop n)
  | _, _, 0, h => h
  | _, _, n + 1, .nil => .nil
  | _, _, n + 1, .cons h hs => TdAll.drop n hs
theorem TdAll.ints : ∀ {vs : List V} {ns : List Int}, TdAll H vs (ns.map .int) → vs = ns.map V.int
  | _, [], h => by
    cases h
    rfl
  | _, n :: ns, h => by
    cases h with
    | cons h hs =>
      rw [Td.int_ h, TdAll.ints hs]
      rfl
theorem TdAll.of_ints : ∀ (ns : List Int), TdAll H (ns.map V.int) (ns.map .int)
  | [] => .nil
  | n :: ns => .cons (.int n) (TdAll.of_ints ns)
theorem TdAll.strs : ∀ {vs : List V} {ns : List Str}, TdAll H vs (ns.map .str) → vs = ns.map V.str
  | _, [], h => by
    cases h
    rfl
  | _, n :: ns, h => by
    cases h with
    | cons h hs =>
      rw [Td.str_ h, TdAll.strs hs]
      rfl
theorem TdAll.of_strs : ∀ (ns : List Str), TdAll H (ns.map V.str) (ns.map .str)
  | [] => .nil
  | n :: ns => .cons (.str n) (TdAll.of_strs ns)
theorem TdAll.bls : ∀ {vs : List V} {ns : List Bool}, TdAll H vs (ns.map .bool) → vs = ns.map V.bl
  | _, [], h => by
    cases h
    rfl
  | _, n :: ns, h => by
    cases h with
    | cons h hs =>
      rw [Td.bl_ h, TdAll.bls hs]
      rfl
end

/-! ### what evaluates to data -/
def EvD (te : TE) (σ : L2.St) (H : Hp) (d : PyData) : Prop := ∀ H1, Ex H H1 → ∀ Q : VK, (∀ v H2, Ex H1 H2 → Td H2 v d → Q v H2) → te σ H1 Q
/-- a new list of such -/
def EvN (te : TE) (σ : L2.St) (H : Hp) (ds : List PyData) : Prop := ∀ H1, Ex H H1 → ∀ Q : VK, (∀ p xs H2, H1 p = none → Ex H1 H2 → H2 p = some (.lst xs) → TdAll H2 xs ds → Q (.ref p) H2) → te σ H1 Q
def EvAD (ta : TA) (σ : L2.St) (H : Hp) (ds : List PyData) : Prop := ∀ H1, Ex H H1 → ∀ Q : List V → Hp → Prop, (∀ vs H2, Ex H1 H2 → TdAll H2 vs ds → Q vs H2) → ta σ H1 Q
/-- data that may be read, lists too -/
def EvQ (K : PySem.W.Frag) (te : TE) (σ : L2.St) (H : Hp) (d : PyData) : Prop := ∀ H1, Ex H H1 → ∀ Q : VK, (∀ v H2, Ex H1 H2 → Dp K H2 v d → Q v H2) → te σ H1 Q
/-- what a for or a comprehension walks: its items -/
def EvI (wi : TI) (σ : L2.St) (H : Hp) (es : List PyData) : Prop := ∀ H1, Ex H H1 → ∀ R : It → Hp → Prop,
  (∀ (J : It) (G : Hp → Prop) H2, Ex H1 H2 → (∀ H3, Ex H2 H3 → G H3) → Walk J es.length G (fun i H x H' => Ex H H' ∧ ∃ e, es[i]? = some e ∧ Td H' x e) → R J H2) → wi σ H1 R
/-- .. that no store ends -/
def EvIT (wi : TI) (σ : L2.St) (H : Hp) (es : List PyData) : Prop := ∀ H1, Ex H H1 → ∀ R : It → Hp → Prop,
  (∀ (J : It) (G : Hp → Prop) H2, Ex H1 H2 → (∀ H3, ExT H2 H3 → G H3) → Walk J es.length G (fun i H x H' => Ex H H' ∧ ∃ e, es[i]? = some e ∧ Td H' x e) → R J H2) → wi σ H1 R
theorem EvIT.i {wi : TI} {σ : L2.St} {H : Hp} {es : List PyData} (h : EvIT wi σ H es) : EvI wi σ H es := fun H1 e R q => h H1 e R fun J G H2 e2 hG hW => q J G H2 e2 (fun H3 e3 => hG H3 (ExT.of e3)) hW
section
variable {K : PySem.W.Frag} {σ : L2.St} {H H' : Hp} {ta tb te tx : TE} {tA tB : TA} {t u : TT} {x y z v : V} {d : PyData} {ds es : List PyData}
theorem EvD.mono (e : Ex H H') (h : EvD te σ H d) : EvD te σ H' d := fun H1 a Q q => h H1 (e.trans a) Q q
theorem EvN.mono (e : Ex H H') (h : EvN te σ H ds) : EvN te σ H' ds := fun H1 a Q q => h H1 (e.trans a) Q q
theorem EvI.mono {wi : TI} (e : Ex H H') (h : EvI wi σ H ds) : EvI wi σ H' ds := fun H1 a Q q => h H1 (e.trans a) Q q
theorem ed_of (h : Ev te σ H v) (hd : Td H v d) : EvD te σ H d := fun H1 e Q q => h H1 e Q fun H2 e2 => q v H2 e2 (Td.ex (e.trans e2) hd)
theorem ed_int {i : Int} (h : Ev te σ H (.int i)) : EvD te σ H (.int i) := ed_of h (.int i)
theorem ed_str {x : Str} (h : Ev te σ H (.str x)) : EvD te σ H (.str x) := ed_of h (.str x)
theorem ed_bl {b : Bool} (h : Ev te σ H (.bl b)) : EvD te σ H (.bool b) := ed_of h (.bl b)
theorem ed_var {i : Nat} (h : σ[i]? = some (some v)) (hd : Td H v d) : EvD (tVar i) σ H d := ed_of (ev_var h) hd
theorem EvD.int {i : Int} (h : EvD te σ H (.int i)) : Ev te σ H (.int i) := fun H1 e Q q => h H1 e Q fun v H2 e2 hd => by
  rw [Td.int_ hd]
  exact q H2 e2
theorem EvD.str {x : Str} (h : EvD te σ H (.str x)) : Ev te σ H (.str x) := fun H1 e Q q => h H1 e Q fun v H2 e2 hd => by
  rw [Td.str_ hd]
  exact q H2 e2
theorem EvD.bl {b : Bool} (h : EvD te σ H (.bool b)) : Ev te σ H (.bl b) := fun H1 e Q q => h H1 e Q fun v H2 e2 hd => by
  rw [Td.bl_ hd]
  exact q H2 e2
theorem eq_d (h : EvD te σ H d) : EvQ K te σ H d := fun H1 e Q q => h H1 e Q fun v H2 e2 hd => q v H2 e2 hd.dp
theorem eq_n (h : EvN te σ H ds) : EvQ K te σ H (.list ds) := fun H1 e Q q => h H1 e Q fun p xs H2 hp e2 h2 hd => q _ H2 e2 (.lst (sq_of h2) hd.dp)
theorem ead_nil : EvAD tNil σ H [] := fun H1 e Q q => q [] H1 (Ex.refl H1) .nil
theorem ead_cons (h : EvD te σ H d) (hs : EvAD tA σ H ds) : EvAD (tCons te tA) σ H (d :: ds) := fun H1 e Q q =>
  h H1 e _ fun v H2 e2 hv => hs H2 (e.trans e2) _ fun vs H3 e3 hvs => q (v :: vs) H3 (e2.trans e3) (.cons (Td.ex e3 hv) hvs)
theorem ed_tup (h : EvAD tA σ H ds) (hz : ds.length ≤ 100000) : EvD (tTup tA) σ H (.tuple ds) := fun H1 e Q q =>
  h H1 e _ fun vs H2 e2 hvs => ⟨sz_of (by rw [hvs.len]; exact hz), fun p hp => q _ _ (e2.trans (Ex.new hp)) (.tup upd_same (TdAll.ex (Ex.new hp) hvs))⟩
theorem en_lst (h : EvAD tA σ H ds) (hz : ds.length ≤ 100000) : EvN (tLst tA) σ H ds := fun H1 e Q q =>
  h H1 e _ fun vs H2 e2 hvs => ⟨sz_of (by rw [hvs.len]; exact hz), fun p hp => q p vs _ (fresh_back e2 hp) (e2.trans (Ex.new hp)) upd_same (TdAll.ex (Ex.new hp) hvs)⟩
/-- tuple(a new list) -/
theorem ed_tupOf (h : EvN te σ H ds) : EvD (tThen te (kTup K)) σ H (.tuple ds) := fun H1 e Q q =>
  h H1 e _ fun p xs H2 hp e2 h2 hd => .inl ⟨p, xs, rfl, sq_of h2, fun r hr => q _ _ (e2.trans (Ex.new hr)) (.tup upd_same (TdAll.ex (Ex.new hr) hd))⟩
/-- list(a tuple) -/
theorem en_listOf (h : EvD te σ H (.tuple ds)) : EvN (tCB (rListS K) (tCons te tNil)) σ H ds := fun H1 e Q q =>
  h H1 e _ fun v H2 e2 hd => by
    obtain ⟨a, xs, rfl, h1, h2⟩ := hd.tup_
    exact ⟨a, xs, rfl, .inr (st_of h1), fun l hl => q l xs _ (fresh_back e2 hl) (e2.trans (Ex.new hl)) upd_same (TdAll.ex (Ex.new hl) h2)⟩
theorem ev_lenT (h : EvD te σ H (.tuple ds)) : Ev (tCB (rLenS K) (tCons te tNil)) σ H (.int (ds.length : Int)) := fun H1 e Q q =>
  h H1 e _ fun v H2 e2 hd => by
    obtain ⟨a, xs, rfl, h1, h2⟩ := hd.tup_
    refine ⟨a, xs, rfl, .inr (st_of h1), ?_⟩
    rw [h2.len]
    exact q H2 e2
theorem ev_lenD (h : EvN te σ H ds) : Ev (tCB (rLenS K) (tCons te tNil)) σ H (.int (ds.length : Int)) := fun H1 e Q q =>
  h H1 e _ fun p xs H2 hp e2 h2 hd => by
    refine ⟨p, xs, rfl, .inl (sq_of h2), ?_⟩
    rw [hd.len]
    exact q H2 e2
/-- an item of a tuple -/
theorem ed_ixT {j : Nat} (h : EvD ta σ H (.tuple ds)) (hi : Ev tb σ H (.int (j : Int))) (hj : ds[j]? = some d) : EvD (tOp (rIxT K) ta tb) σ H d := fun H1 e Q q =>
  h H1 e _ fun v H2 e2 hd => hi H2 (e.trans e2) _ fun H3 e3 => by
    obtain ⟨a, xs, rfl, h1, h2⟩ := hd.tup_
    obtain ⟨x, hx, hxd⟩ := h2.get' hj
    exact ⟨a, xs, (j : Int), x, rfl, rfl, st_of (e3 _ _ h1), atI_nat hx, q x H3 (e2.trans e3) (Td.ex e3 hxd)⟩
theorem ed_ixN {j : Nat} (h : EvN ta σ H ds) (hi : Ev tb σ H (.int (j : Int))) (hj : ds[j]? = some d) : EvD (tOp (rIxL K) ta tb) σ H d := fun H1 e Q q =>
  h H1 e _ fun p xs H2 hp e2 h1 h2 => hi H2 (e.trans e2) _ fun H3 e3 => by
    obtain ⟨x, hx, hxd⟩ := h2.get' hj
    exact ⟨p, xs, (j : Int), x, rfl, rfl, sq_of (e3 _ _ h1), atI_nat hx, q x H3 (e2.trans e3) (Td.ex e3 hxd)⟩
/-- == and != of data -/
theorem ev_eqD {a b : PyData} (h : EvQ K ta σ H a) (h2 : EvQ K tb σ H b) (sa : SeqAt.shaped a = true) (sb : SeqAt.shaped b = true) : Ev (tOp (rEqD K) ta tb) σ H (.bl (PyData.eqv a b)) := fun H1 e Q q =>
  h H1 e _ fun v H2 e2 hd => h2 H2 (e.trans e2) _ fun w H3 e3 he => ⟨a, b, Dp.ext e3 hd, he, sa, sb, q H3 (e2.trans e3)⟩
theorem ev_neD {a b : PyData} (h : EvQ K ta σ H a) (h2 : EvQ K tb σ H b) (sa : SeqAt.shaped a = true) (sb : SeqAt.shaped b = true) : Ev (tOp (rNeD K) ta tb) σ H (.bl (!PyData.eqv a b)) := fun H1 e Q q =>
  h H1 e _ fun v H2 e2 hd => h2 H2 (e.trans e2) _ fun w H3 e3 he => ⟨a, b, Dp.ext e3 hd, he, sa, sb, q H3 (e2.trans e3)⟩

/-! ### texts -/
theorem ev_addS {a b : List Nat} (h : Ev ta σ H (.str (S a))) (h2 : Ev tb σ H (.str (S b))) (hz : a.length + b.length ≤ 100000) :
    Ev (tOp (fun x y H Q => ∃ i j, x = .str i ∧ y = .str j ∧ i.length + j.length ≤ sizeLine ∧ Q (.str (i ++ j)) H) ta tb) σ H (.str (S (a ++ b))) := fun H1 e Q q =>
  h H1 e _ fun H2 e2 => h2 H2 (e.trans e2) _ fun H3 e3 => ⟨_, _, rfl, rfl, by rw [S_len, S_len]; exact sz_of hz, by rw [S_app]; exact q H3 (e2.trans e3)⟩
theorem ev_ixS {a : List Nat} {j c : Nat} (h : Ev ta σ H (.str (S a))) (h2 : Ev tb σ H (.int (j : Int))) (hz : a.length ≤ 100000) (hj : a[j]? = some c) : Ev (tOp rIxS ta tb) σ H (.str (S [c])) := fun H1 e Q q =>
  h H1 e _ fun H2 e2 => h2 H2 (e.trans e2) _ fun H3 e3 => ⟨S a, (j : Int), c, rfl, rfl, by rw [S_len]; exact sz_of hz, by rw [S_cps]; exact atI_nat hj, q H3 (e2.trans e3)⟩
theorem ev_cut {a : List Nat} {tl th : TO} {lo hi : Option Int} {b : List Nat} (h : Ev te σ H (.str (S a))) (h1 : EvO tl σ H lo) (h2 : EvO th σ H hi) (hz : a.length ≤ 100000) (hb : cutS (S a) lo hi = S b) : Ev (tSl rSlS te tl th) σ H (.str (S b)) := fun H1 e Q q =>
  h H1 e _ fun H2 e2 => h1 H2 (e.trans e2) _ fun H3 e3 => h2 H3 ((e.trans e2).trans e3) _ fun H4 e4 => ⟨S a, rfl, by rw [S_len]; exact sz_of hz, by rw [hb]; exact q H4 ((e2.trans e3).trans e4)⟩
theorem ev_from {a : List Nat} {k : Nat} {tl : TE} (h : Ev te σ H (.str (S a))) (h1 : Ev tl σ H (.int (k : Int))) (hz : a.length ≤ 100000) : Ev (tSl rSlS te (tPart tl) tNoPart) σ H (.str (S (a.drop k))) := ev_cut h (eo_some h1) eo_none hz (S_from a k)
theorem ev_to {a : List Nat} {k : Nat} {tl : TE} (h : Ev te σ H (.str (S a))) (h1 : Ev tl σ H (.int (k : Int))) (hz : a.length ≤ 100000) : Ev (tSl rSlS te tNoPart (tPart tl)) σ H (.str (S (a.take k))) := ev_cut h eo_none (eo_some h1) hz (S_to a k)
theorem ev_mid {a : List Nat} {i j : Nat} {tl th : TE} (h : Ev te σ H (.str (S a))) (h1 : Ev tl σ H (.int (i : Int))) (h2 : Ev th σ H (.int (j : Int))) (hz : a.length ≤ 100000) : Ev (tSl rSlS te (tPart tl) (tPart th)) σ H (.str (S ((a.drop i).take (j - i)))) := ev_cut h (eo_some h1) (eo_some h2) hz (S_mid a i j)
def rLenStr : List V → Hp → VK → Prop := fun xs H Q => ∃ z, xs = [.str z] ∧ z.length ≤ sizeLine ∧ Q (.int z.length) H
theorem ev_lenStr {a : List Nat} (h : Ev te σ H (.str (S a))) (hz : a.length ≤ 100000) : Ev (tCB rLenStr (tCons te tNil)) σ H (.int (a.length : Int)) := fun H1 e Q q =>
  h H1 e _ fun H2 e2 => ⟨S a, rfl, by rw [S_len]; exact sz_of hz, by rw [S_len]; exact q H2 e2⟩
theorem ev_eqS {a b : List Nat} (h : Ev ta σ H (.str (S a))) (h2 : Ev tb σ H (.str (S b))) : Ev (tOp rEq ta tb) σ H (.bl (decide (a = b))) := by
  rw [← S_dec]
  exact ev_op h h2 (rv_eq rfl)
theorem ev_neS {a b : List Nat} (h : Ev ta σ H (.str (S a))) (h2 : Ev tb σ H (.str (S b))) : Ev (tOp rNe ta tb) σ H (.bl (!decide (a = b))) := by
  rw [← S_dec]
  exact ev_op h h2 (rv_ne rfl)
theorem dec_int (i j : Int) : decide (V.int i = V.int j) = decide (i = j) := by
  by_cases h : i = j
  · subst h
    simp
  · rw [decide_eq_false h, decide_eq_false]
    intro q
    exact h (V.int.inj q)
theorem ev_eqI {i j : Int} (h : Ev ta σ H (.int i)) (h2 : Ev tb σ H (.int j)) : Ev (tOp rEq ta tb) σ H (.bl (decide (i = j))) := by
  rw [← dec_int]
  exact ev_op h h2 (rv_eq rfl)
theorem ev_neI {i j : Int} (h : Ev ta σ H (.int i)) (h2 : Ev tb σ H (.int j)) : Ev (tOp rNe ta tb) σ H (.bl (!decide (i = j))) := by
  rw [← dec_int]
  exact ev_op h h2 (rv_ne rfl)

/-! ### what is walked -/
theorem eit_rng1 {n : Nat} (h : EvA tA σ H [.int (n : Int)]) (hn : n ≤ 40000) : EvIT (iRng1 tA) σ H ((List.range n).map fun (i : Nat) => PyData.int (i : Int)) := fun H1 e R q =>
  h H1 e _ fun H2 e2 => ⟨(n : Int), rfl, by omega, by omega, by
    refine q _ (fun _ => True) H2 e2 (fun _ _ => trivial) ?_
    have hl : ((List.range n).map fun (i : Nat) => PyData.int (i : Int)).length = (n : Int).toNat := by simp
    rw [hl]
    refine walk_range.mono (fun _ _ => trivial) fun i H x H' hi _ y => ?_
    obtain ⟨rfl, rfl⟩ := y
    have hi' : i < n := by simpa using hi
    refine ⟨Ex.refl _, .int (i : Int), by simp [hi'], ?_⟩
    have e0 : (0 : Int) + (i : Int) = (i : Int) := Int.zero_add _
    show Td H' (.int ((0 : Int) + (i : Int))) (.int (i : Int))
    rw [e0]
    exact .int _⟩
theorem eit_rng2 {a b : Int} (h : EvA tA σ H [.int a, .int b]) (ha : -40000 ≤ a ∧ a ≤ 40000) (hb : -40000 ≤ b ∧ b ≤ 40000) : EvIT (iRng2 tA) σ H ((List.range (b - a).toNat).map fun (i : Nat) => PyData.int (a + (i : Int))) := fun H1 e R q =>
  h H1 e _ fun H2 e2 => ⟨a, b, rfl, ⟨by omega, by omega, by omega, by omega⟩, by
    refine q _ (fun _ => True) H2 e2 (fun _ _ => trivial) ?_
    have hl : ((List.range (b - a).toNat).map fun (i : Nat) => PyData.int (a + (i : Int))).length = (b - a).toNat := by simp
    rw [hl]
    refine walk_range.mono (fun _ _ => trivial) fun i H x H' hi _ y => ?_
    obtain ⟨rfl, rfl⟩ := y
    exact ⟨Ex.refl _, .int (a + (i : Int)), by simp [hi], .int _⟩⟩
/-- down by ones -/
theorem eit_down {a b : Int} (h : EvA tA σ H [.int a, .int b, .int (-1)]) (ha : -40000 ≤ a ∧ a ≤ 40000) (hb : -40000 ≤ b ∧ b ≤ 40000) : EvIT (iRng3 tA) σ H ((List.range (a - b).toNat).map fun (i : Nat) => PyData.int (a - (i : Int))) := fun H1 e R q =>
  h H1 e _ fun H2 e2 => ⟨a, b, -1, (a - b).toNat, rfl, RgC.neg (by omega) (by omega) (by omega) (by omega), by
    refine q _ (fun _ => True) H2 e2 (fun _ _ => trivial) ?_
    have hl : ((List.range (a - b).toNat).map fun (i : Nat) => PyData.int (a - (i : Int))).length = (a - b).toNat := by simp
    rw [hl]
    refine walk_rangeC.mono (fun _ _ => trivial) fun i H x H' hi _ y => ?_
    obtain ⟨rfl, rfl⟩ := y
    refine ⟨Ex.refl _, .int (a - (i : Int)), by simp [hi], ?_⟩
    have e0 : a + ((i : Nat) : Int) * (-1) = a - (i : Int) := by omega
    show Td H' (.int (a + ((i : Nat) : Int) * (-1))) (.int (a - (i : Int)))
    rw [e0]
    exact .int _⟩
theorem ei_new (h : EvN te σ H ds) : EvI (iList K te) σ H ds := fun H1 e R q =>
  h H1 e _ fun p xs H2 hp e2 h2 hd => ⟨p, rfl, ⟨xs, sq_of h2⟩, by
    refine q _ (fun H3 => H3 p = some (.lst xs) ∧ TdAll H3 xs ds) H2 e2 (fun H3 e3 => ⟨e3 _ _ h2, TdAll.ex e3 hd⟩) ?_
    refine ⟨fun i H3 hi g => ⟨xs, xs[i]'(by rw [hd.len]; exact hi), sq_of g.1, by simp⟩, fun H3 g => ⟨xs, sq_of g.1, by rw [hd.len]; exact Nat.le_refl _⟩, fun i H3 x H4 hi g y => ?_⟩
    obtain ⟨rfl, hy⟩ := y
    obtain ⟨d, h3, h4⟩ := g.2.get (hy xs (sq_of g.1))
    exact ⟨Ex.refl _, d, h3, h4⟩⟩
theorem eit_tup (h : EvD te σ H (.tuple ds)) : EvIT (iTup K te) σ H ds := fun H1 e R q =>
  h H1 e _ fun v H2 e2 hd => by
    obtain ⟨p, xs, rfl, h2, hd⟩ := hd.tup_
    refine ⟨p, rfl, ⟨xs, st_of h2⟩, ?_⟩
    refine q _ (fun H3 => H3 p = some (.tup xs) ∧ TdAll H3 xs ds) H2 e2 (fun H3 e3 => ⟨e3 _ _ h2, TdAll.ext e3 hd⟩) ?_
    refine ⟨fun i H3 hi g => ⟨xs, xs[i]'(by rw [hd.len]; exact hi), st_of g.1, by simp⟩, fun H3 g => ⟨xs, st_of g.1, by rw [hd.len]; exact Nat.le_refl _⟩, fun i H3 x H4 hi g y => ?_⟩
    obtain ⟨rfl, hy⟩ := y
    obtain ⟨d, h3, h4⟩ := g.2.get (hy xs (st_of g.1))
    exact ⟨Ex.refl _, d, h3, h4⟩
theorem eit_str {a : List Nat} (h : Ev te σ H (.str (S a))) : EvIT (iStr te) σ H (a.map fun c => .str (S [c])) := fun H1 e R q =>
  h H1 e _ fun H2 e2 => ⟨S a, rfl, by
    refine q _ (fun _ => True) H2 e2 (fun _ _ => trivial) ?_
    have hl : (a.map fun c => PyData.str (S [c])).length = (S a).cps.size := by
      rw [List.length_map]
      exact List.size_toArray.symm
    rw [hl]
    refine walk_str.mono (fun _ _ => trivial) fun i H x H' hi _ y => ?_
    obtain ⟨rfl, c, hc, rfl⟩ := y
    have hc' : a[i]? = some c := by
      rw [← hc]
      exact List.getElem?_toArray.symm
    exact ⟨Ex.refl _, .str (S [c]), by rw [List.getElem?_map, hc']; rfl, .str _⟩⟩

theorem ei_rng1 {n : Nat} (h : EvA tA σ H [.int (n : Int)]) (hn : n ≤ 40000) : EvI (iRng1 tA) σ H ((List.range n).map fun (i : Nat) => PyData.int (i : Int)) := (eit_rng1 h hn).i
theorem ei_rng2 {a b : Int} (h : EvA tA σ H [.int a, .int b]) (ha : -40000 ≤ a ∧ a ≤ 40000) (hb : -40000 ≤ b ∧ b ≤ 40000) : EvI (iRng2 tA) σ H ((List.range (b - a).toNat).map fun (i : Nat) => PyData.int (a + (i : Int))) := (eit_rng2 h ha hb).i
theorem ei_down {a b : Int} (h : EvA tA σ H [.int a, .int b, .int (-1)]) (ha : -40000 ≤ a ∧ a ≤ 40000) (hb : -40000 ≤ b ∧ b ≤ 40000) : EvI (iRng3 tA) σ H ((List.range (a - b).toNat).map fun (i : Nat) => PyData.int (a - (i : Int))) := (eit_down h ha hb).i
theorem ei_tup (h : EvD te σ H (.tuple ds)) : EvI (iTup K te) σ H ds := (eit_tup h).i
theorem ei_str {a : List Nat} (h : Ev te σ H (.str (S a))) : EvI (iStr te) σ H (a.map fun c => .str (S [c])) := (eit_str h).i
/-! ### for -/
theorem s_forI {wi : TI} {g : TG} {tu : TS} {D : Ends} (h : EvI wi σ H es) (Pv : Hp → Nat → L2.St → Hp → Prop) (h0 : ∀ H1, Ex H H1 → Pv H1 0 σ H1) (hx : ∀ H1 i σ' H', Pv H1 i σ' H' → Ex H1 H')
    (hs : ∀ H1 i e x σ' H' H'', Ex H H1 → es[i]? = some e → Pv H1 i σ' H' → Ex H' H'' → Td H'' x e → g x σ' H'' fun σ2 H2 => tu { D with nx := Pv H1 (i + 1), ct := Pv H1 (i + 1), bk := D.nx } σ2 H2)
    (hd : ∀ H1 σ' H', Ex H H1 → Pv H1 es.length σ' H' → D.nx σ' H') : tFor wi g tu D σ H := h H (Ex.refl H) _ fun J G H1 e1 hG hW =>
  for_it hW (Pv H1) (h0 H1 e1) (fun i σ' H' _ p => hG H' (hx _ _ _ _ p)) (fun i x σ' H' H'' _ p y => by
    obtain ⟨e2, e, he, hxe⟩ := y
    exact hs H1 i e x σ' H' H'' e1 he p e2 hxe) (fun σ' H' p => hd H1 σ' H' e1 p)
theorem s_forIT {wi : TI} {g : TG} {tu : TS} {D : Ends} (h : EvIT wi σ H es) (Pv : Hp → Nat → L2.St → Hp → Prop) (h0 : ∀ H1, Ex H H1 → Pv H1 0 σ H1) (hx : ∀ H1 i σ' H', Pv H1 i σ' H' → ExT H1 H')
    (hs : ∀ H1 i e x σ' H' H'', Ex H H1 → es[i]? = some e → Pv H1 i σ' H' → Ex H' H'' → Td H'' x e → g x σ' H'' fun σ2 H2 => tu { D with nx := Pv H1 (i + 1), ct := Pv H1 (i + 1), bk := D.nx } σ2 H2)
    (hd : ∀ H1 σ' H', Ex H H1 → Pv H1 es.length σ' H' → D.nx σ' H') : tFor wi g tu D σ H := h H (Ex.refl H) _ fun J G H1 e1 hG hW =>
  for_it hW (Pv H1) (h0 H1 e1) (fun i σ' H' _ p => hG H' (hx _ _ _ _ p)) (fun i x σ' H' H'' _ p y => by
    obtain ⟨e2, e, he, hxe⟩ := y
    exact hs H1 i e x σ' H' H'' e1 he p e2 hxe) (fun σ' H' p => hd H1 σ' H' e1 p)
theorem q_forI {wi : TI} {g : TG} {tu tz : TS} {D : Ends} (h : EvI wi σ H es) (Pv : Hp → Nat → L2.St → Hp → Prop) (h0 : ∀ H1, Ex H H1 → Pv H1 0 σ H1) (hx : ∀ H1 i σ' H', Pv H1 i σ' H' → Ex H1 H')
    (hs : ∀ H1 i e x σ' H' H'', Ex H H1 → es[i]? = some e → Pv H1 i σ' H' → Ex H' H'' → Td H'' x e → g x σ' H'' fun σ2 H2 => tu { D with nx := Pv H1 (i + 1), ct := Pv H1 (i + 1), bk := tz D } σ2 H2)
    (hd : ∀ H1 σ' H', Ex H H1 → Pv H1 es.length σ' H' → tz D σ' H') : tSeq (tFor wi g tu) tz D σ H := s_forI (D := { D with nx := tz D }) h Pv h0 hx hs hd
theorem q_forIT {wi : TI} {g : TG} {tu tz : TS} {D : Ends} (h : EvIT wi σ H es) (Pv : Hp → Nat → L2.St → Hp → Prop) (h0 : ∀ H1, Ex H H1 → Pv H1 0 σ H1) (hx : ∀ H1 i σ' H', Pv H1 i σ' H' → ExT H1 H')
    (hs : ∀ H1 i e x σ' H' H'', Ex H H1 → es[i]? = some e → Pv H1 i σ' H' → Ex H' H'' → Td H'' x e → g x σ' H'' fun σ2 H2 => tu { D with nx := Pv H1 (i + 1), ct := Pv H1 (i + 1), bk := tz D } σ2 H2)
    (hd : ∀ H1 σ' H', Ex H H1 → Pv H1 es.length σ' H' → tz D σ' H') : tSeq (tFor wi g tu) tz D σ H := s_forIT (D := { D with nx := tz D }) h Pv h0 hx hs hd
/-! ### comprehensions -/
/-- what a target makes of an item -/
def Bnd (g : TG) (x : V) (σ : L2.St) (H : Hp) (σ2 : L2.St) : Prop := ∀ Q : L2.St → Hp → Prop, Q σ2 H → g x σ H Q
theorem bnd_name {j : Nat} {σ : L2.St} : Bnd (gName j) x σ H (σ.set j (some x)) := fun Q q => q
theorem bnd_pair {i j : Nat} {a : Addr} (h : H a = some (.tup [x, y])) : Bnd (gTup K 2 (gCons (gName i) (gCons (gName j) gNil))) (.ref a) σ H ((σ.set i (some x)).set j (some y)) := fun Q q =>
  ⟨a, [x, y], rfl, st_of h, rfl, x, [y], rfl, y, [], rfl, rfl, q⟩
theorem en_lcA {α : Type} {wi : TI} {g : TG} {tt : TT} {vs : List Nat} (enc : α → PyData) (as : List α) (f : α → Bool) (w : α → PyData) (h : EvI wi σ H (as.map enc)) (hz : as.length ≤ 40000)
    (hb : ∀ a ∈ as, ∀ x H1, Ex H H1 → Td H1 x (enc a) → ∃ σ2, Bnd g x (wipe σ vs) H1 σ2 ∧ wipe σ2 vs = wipe σ vs ∧ EvT tt σ2 H1 (f a) ∧ (f a = true → EvD te σ2 H1 (w a))) :
    EvN (tLc wi g tt te vs) σ H ((as.filter f).map w) := fun H0 e Q q => h H0 e _ fun J G H1 e1 hG hW D hD => by
  rw [List.length_map] at hW
  have key : ∀ n, n ≤ as.length → (((as.take n).filter f).map w).length ≤ 40000 := fun n hn => by
    rw [List.length_map]
    have := List.length_filter_le f (as.take n)
    rw [List.length_take] at this
    omega
  refine lc_it hW (fun i H' => Ex H1 H' ∧ ∃ acc, H' D = some (.lst acc) ∧ TdAll H' acc (((as.take i).filter f).map w)) ⟨Ex.new hD, [], upd_same, .nil⟩ (fun i H' hi p => hG H' p.1) ?_ ?_
  · rintro i x H2 H3 hi ⟨e2, acc, ha, hacc⟩ ⟨e3, d, hd, hx⟩
    obtain ⟨b, hbm, rfl⟩ : ∃ b, as[i]? = some b ∧ d = enc b := by
      rw [List.getElem?_map] at hd
      cases hq : as[i]? with
      | none =>
        rw [hq] at hd
        cases hd
      | some b =>
        rw [hq] at hd
        exact ⟨b, rfl, (Option.some.inj hd).symm⟩
    have hmem : b ∈ as := List.mem_of_getElem? hbm
    obtain ⟨σ2, b1, b2, b3, b4⟩ := hb b hmem x H3 (((e.trans e1).trans e2).trans e3) hx
    refine b1 _ ⟨b2, ?_⟩
    have htake : as.take (i + 1) = as.take i ++ [b] := by
      rw [List.take_add_one, hbm]
      rfl
    refine b3 H3 (Ex.refl _) _ fun H4 e4 => ?_
    cases hf : f b with
    | true =>
      show te σ2 H4 _
      refine b4 hf H4 e4 _ fun v H5 e5 hv => ?_
      have haD : H5 D = some (.lst acc) := e5 _ _ (e4 _ _ (e3 _ _ ha))
      refine ⟨acc, haD, ?_, ?_, acc ++ [v], upd_same, ?_⟩
      · have h1 := hacc.len
        have h2 := key i (Nat.le_of_lt hi)
        exact sz_lt (by omega)
      · exact Ex.mut (((e2.trans e3).trans e4).trans e5) hD
      · rw [htake, List.filter_append, List.map_append]
        have h1 : ([b].filter f).map w = [w b] := by
          rw [List.filter_cons, if_pos hf]
          rfl
        rw [h1]
        have eT : ExT H5 (upd H5 D (.lst (acc ++ [v]))) := ExT.updL haD
        exact TdAll.append (TdAll.ext eT (TdAll.ex ((e3.trans e4).trans e5) hacc)) (TdAll.one (Td.ext eT hv))
    | false =>
      show Ex H1 H4 ∧ _
      refine ⟨(e2.trans e3).trans e4, acc, e4 _ _ (e3 _ _ ha), ?_⟩
      rw [htake, List.filter_append, List.map_append]
      have h1 : ([b].filter f).map w = [] := by
        rw [List.filter_cons, if_neg (by rw [hf]; decide)]
        rfl
      rw [h1, List.append_nil]
      exact TdAll.ex (e3.trans e4) hacc
  · rintro H2 ⟨e2, acc, ha, hacc⟩
    rw [List.take_of_length_le (Nat.le_refl _)] at hacc
    exact q D acc H2 (fresh_back e1 hD) (e1.trans e2) ha hacc
theorem et_yes : EvT tYes σ H true := fun H1 _ _ q => q H1 (Ex.refl H1)
/-- over ints, a name the target -/
theorem en_lcI {wi : TI} {j : Nat} {tt : TT} {vs : List Nat} (ns : List Int) (f : Int → Bool) (w : Int → PyData) (h : EvI wi σ H (ns.map .int)) (hz : ns.length ≤ 40000)
    (hb : ∀ n ∈ ns, ∀ H1, Ex H H1 → EvT tt ((wipe σ vs).set j (some (.int n))) H1 (f n) ∧ (f n = true → EvD te ((wipe σ vs).set j (some (.int n))) H1 (w n)))
    (hw : ∀ x, wipe ((wipe σ vs).set j (some x)) vs = wipe σ vs := by intro _; rfl) : EvN (tLc wi (gName j) tt te vs) σ H ((ns.filter f).map w) :=
  en_lcA PyData.int ns f w h hz fun n hn x H1 e hx => by
    cases Td.int_ hx
    exact ⟨_, bnd_name, hw _, (hb n hn H1 e).1, (hb n hn H1 e).2⟩
/-- over texts -/
theorem en_lcS {wi : TI} {j : Nat} {tt : TT} {vs : List Nat} (ls : List (List Nat)) (f : List Nat → Bool) (w : List Nat → PyData) (h : EvI wi σ H (ls.map fun l => .str (S l))) (hz : ls.length ≤ 40000)
    (hb : ∀ l ∈ ls, ∀ H1, Ex H H1 → EvT tt ((wipe σ vs).set j (some (.str (S l)))) H1 (f l) ∧ (f l = true → EvD te ((wipe σ vs).set j (some (.str (S l)))) H1 (w l)))
    (hw : ∀ x, wipe ((wipe σ vs).set j (some x)) vs = wipe σ vs := by intro _; rfl) : EvN (tLc wi (gName j) tt te vs) σ H ((ls.filter f).map w) :=
  en_lcA (fun l => PyData.str (S l)) ls f w h hz fun l hl x H1 e hx => by
    cases Td.str_ hx
    exact ⟨_, bnd_name, hw _, (hb l hl H1 e).1, (hb l hl H1 e).2⟩
end
end TY
namespace TY
open PySem PySem.Spec PyProof.Rows L2 Evl
/-! ### a def of the text that may be called by its name -/
structure Cl (P : Program) (w : World) (K : PySem.W.Frag) (mg : Str → Option Value) (base : Heap) (k : Nat) (x : Str) (sp : Sp) : Prop where
  ex : ∃ (f : Addr) (fd : FuncData) (ps : List Str), FnOk P w K mg base CX0 k f fd ps sp ∧ mg x = some (.ref f) ∧ PySem.W.keepIn K (.ref f) = true ∧ Binds K fd ps []
section
variable {X : Cx} {k j : Nat} {x : Str} {sp : Sp} {p pos : Pos} {e : Expr} {es : List Expr} {t : TA}
theorem pe_cl (c : Cl X.prog X.w X.K X.mg X.base k x sp) (hr : Room j X.A) (hk : k ≤ j) (hg : Gl X x) (ha : PA X (e :: es) t)
    (hdb : (x == ("__debug__" : Str)) = false := by decide) (he : starEach (e :: es) X.env = (false, eval e X.env) :: starEach es X.env := by rfl) (hpl : (backTo pos (starEach es X.env)).any (·.1) = false := by rfl) :
    PE X (.Call (.Name x p) (e :: es) [] pos) (tCall sp [] E0 t) := by
  obtain ⟨f, fd, ps, F, hm, kp, b⟩ := c.ex
  exact pe_call F (hr.mono hk) hg hm kp b .nil pass0 ha hdb he hpl
theorem pe_gc {v : V} (hg : Gl X x) (h : ∃ u, X.mg x = some u ∧ RelV v u) (hd : (x == ("__debug__" : Str)) = false := by decide) : PE X (.Name x pos) (tC v) := by
  obtain ⟨u, hm, r⟩ := h
  exact pe_glob hg hm r hd
end
theorem hu64 {A : Around} {k : Nat} (hr : Room k A) : A.units + 64 < cLine := hr.units
/-- a call's promise: data in, data out -/
def SpD (sp : Sp) (vs : List V) (H : Hp) (d : PyData) : Prop := ∀ H1, Ex H H1 → ∀ Q : VK, (∀ v H2, Ex H1 H2 → Td H2 v d → Q v H2) → ∀ E : XK, sp vs H1 Q E
def SpN (sp : Sp) (vs : List V) (H : Hp) (ds : List PyData) : Prop := ∀ H1, Ex H H1 → ∀ Q : VK, (∀ p xs H2, H1 p = none → Ex H1 H2 → H2 p = some (.lst xs) → TdAll H2 xs ds → Q (.ref p) H2) → ∀ E : XK, sp vs H1 Q E
section
variable {K : PySem.W.Frag} {σ : L2.St} {H : Hp} {tA : TA} {sp : Sp} {vs : List V} {d : PyData} {ds : List PyData} {E : XK} {z : V}
theorem ed_call (h : EvA tA σ H vs) (hs : SpD sp vs H d) : EvD (tCall sp [] E tA) σ H d := fun H1 e Q q =>
  h H1 e _ fun H2 e2 => by
    show sp (vs ++ []) H2 Q E
    rw [List.append_nil]
    exact hs H2 (e.trans e2) Q (fun v H3 e3 hd => q v H3 (e2.trans e3) hd) E
theorem en_call (h : EvA tA σ H vs) (hs : SpN sp vs H ds) : EvN (tCall sp [] E tA) σ H ds := fun H1 e Q q =>
  h H1 e _ fun H2 e2 => by
    show sp (vs ++ []) H2 Q E
    rw [List.append_nil]
    exact hs H2 (e.trans e2) Q (fun p xs H3 hp e3 h3 hd => q p xs H3 (fresh_back e2 hp) (e2.trans e3) h3 hd) E
theorem ev_cl (h : EvA tA σ H vs) (hs : SpV sp vs H z) : Ev (tCall sp [] E tA) σ H z := ev_call h (by rw [List.append_nil]; exact hs)
/-- .. where an argument is new data: its value is not known ahead -/
theorem ed_callD {es : List PyData} (h : EvAD tA σ H es) (hs : ∀ vs H1, Ex H H1 → TdAll H1 vs es → SpD sp vs H1 d) : EvD (tCall sp [] E tA) σ H d := fun H1 e Q q =>
  h H1 e _ fun vs H2 e2 hv => by
    show sp (vs ++ []) H2 Q E
    rw [List.append_nil]
    exact hs vs H2 (e.trans e2) hv H2 (Ex.refl H2) Q (fun v H3 e3 hd => q v H3 (e2.trans e3) hd) E
/-- a statement that stores data -/
theorem s_asgD {D : Ends} {te : TE} {i : Nat} (h : EvD te σ H d) (k : ∀ v H1, Ex H H1 → Td H1 v d → D.nx (σ.set i (some v)) H1) : tAsg te (gName i) D σ H := h H (Ex.refl H) _ fun v H1 e hv => k v H1 e hv
theorem q_asgD {D : Ends} {te : TE} {tz : TS} {i : Nat} (h : EvD te σ H d) (k : ∀ v H1, Ex H H1 → Td H1 v d → tz D (σ.set i (some v)) H1) : tSeq (tAsg te (gName i)) tz D σ H := s_asgD (D := { D with nx := tz D }) h k
theorem s_asgN {D : Ends} {te : TE} {i : Nat} (h : EvN te σ H ds) (k : ∀ p xs H1, H p = none → Ex H H1 → H1 p = some (.lst xs) → TdAll H1 xs ds → D.nx (σ.set i (some (.ref p))) H1) : tAsg te (gName i) D σ H := h H (Ex.refl H) _ fun p xs H1 hp e h1 hv => k p xs H1 hp e h1 hv
theorem q_asgN {D : Ends} {te : TE} {tz : TS} {i : Nat} (h : EvN te σ H ds) (k : ∀ p xs H1, H p = none → Ex H H1 → H1 p = some (.lst xs) → TdAll H1 xs ds → tz D (σ.set i (some (.ref p))) H1) : tSeq (tAsg te (gName i)) tz D σ H := s_asgN (D := { D with nx := tz D }) h k
theorem s_retD {D : Ends} {te : TE} (h : EvD te σ H d) (k : ∀ v H1, Ex H H1 → Td H1 v d → D.rt v H1) : tRet te D σ H := h H (Ex.refl H) _ k
theorem s_retN {D : Ends} {te : TE} (h : EvN te σ H ds) (k : ∀ p xs H1, H p = none → Ex H H1 → H1 p = some (.lst xs) → TdAll H1 xs ds → D.rt (.ref p) H1) : tRet te D σ H := h H (Ex.refl H) _ k
end
section
variable {K : PySem.W.Frag} {σ : L2.St} {H : Hp} {te ta tb : TE} {p : Addr} {xs : List V} {ds : List PyData} {d : PyData}
/-- tuple(a list that stands) -/
theorem ed_tupL (h : Ev te σ H (.ref p)) (hp : H p = some (.lst xs)) (hd : TdAll H xs ds) : EvD (tThen te (kTup K)) σ H (.tuple ds) := fun H1 e Q q =>
  h H1 e _ fun H2 e2 => .inl ⟨p, xs, rfl, sq_of ((e.trans e2) _ _ hp), fun r hr => q _ _ (e2.trans (Ex.new hr)) (.tup upd_same (TdAll.ex ((e.trans e2).trans (Ex.new hr)) hd))⟩
/-- a list that stands, read as data -/
theorem eq_l (h : Ev te σ H (.ref p)) (hp : H p = some (.lst xs)) (hd : TdAll H xs ds) : EvQ K te σ H (.list ds) := fun H1 e Q q =>
  h H1 e _ fun H2 e2 => q _ H2 e2 (.lst (sq_of ((e.trans e2) _ _ hp)) (TdAll.ex (e.trans e2) hd).dp)
theorem ei_lst (h : Ev te σ H (.ref p)) (hp : H p = some (.lst xs)) (hd : TdAll H xs ds) : EvI (iList K te) σ H ds := fun H1 e R q =>
  h H1 e _ fun H2 e2 => ⟨p, rfl, ⟨xs, sq_of ((e.trans e2) _ _ hp)⟩, by
    refine q _ (fun H3 => H3 p = some (.lst xs) ∧ TdAll H3 xs ds) H2 e2 (fun H3 e3 => ⟨((e.trans e2).trans e3) _ _ hp, TdAll.ex ((e.trans e2).trans e3) hd⟩) ?_
    refine ⟨fun i H3 hi g => ⟨xs, xs[i]'(by rw [hd.len]; exact hi), sq_of g.1, by simp⟩, fun H3 g => ⟨xs, sq_of g.1, by rw [hd.len]; exact Nat.le_refl _⟩, fun i H3 x H4 hi g y => ?_⟩
    obtain ⟨rfl, hy⟩ := y
    obtain ⟨d, h3, h4⟩ := g.2.get (hy xs (sq_of g.1))
    exact ⟨Ex.refl _, d, h3, h4⟩⟩
/-- a tuple and a tuple -/
theorem ed_catA {es : List PyData} (h : EvD ta σ H (.tuple ds)) (h2 : EvD tb σ H (.tuple es)) (hz : ds.length + es.length ≤ 100000) : EvD (tOp (rCatA K) ta tb) σ H (.tuple (ds ++ es)) := fun H1 e Q q =>
  h H1 e _ fun v H2 e2 hv => h2 H2 (e.trans e2) _ fun w H3 e3 hw => by
    obtain ⟨a, xs, rfl, h3, h4⟩ := hv.tup_
    obtain ⟨b, ys, rfl, h5, h6⟩ := hw.tup_
    have h4' := TdAll.ex e3 h4
    have hl1 := h4'.len
    have hl2 := h6.len
    refine ⟨a, b, xs, ys, rfl, rfl, st_of (e3 _ _ h3), st_of h5, sz_of (by omega), fun z => ?_, fun _ z => ?_, fun _ _ p hp => ?_⟩
    · subst z
      cases h4
      exact q _ H3 (e2.trans e3) (.tup h5 h6)
    · subst z
      cases h6
      rw [List.append_nil] at q
      exact q _ H3 (e2.trans e3) (.tup (e3 _ _ h3) h4')
    · exact q _ _ ((e2.trans e3).trans (Ex.new hp)) (.tup upd_same (TdAll.ex (Ex.new hp) (TdAll.append h4' h6)))
end
section
variable {σ : L2.St} {H : Hp} {tA : TA} {sp : Sp} {vs : List V} {E : XK} {D : Ends} {tz : TS}
/-- a call whose value is told by its promise alone -/
theorem s_asgC {i : Nat} (h : EvA tA σ H vs) (k : ∀ H1, Ex H H1 → sp vs H1 (fun v H2 => D.nx (σ.set i (some v)) H2) E) : tAsg (tCall sp [] E tA) (gName i) D σ H :=
  h H (Ex.refl H) _ fun H1 e1 => by
    show sp (vs ++ []) H1 _ E
    rw [List.append_nil]
    exact k H1 e1
theorem q_asgC {i : Nat} (h : EvA tA σ H vs) (k : ∀ H1, Ex H H1 → sp vs H1 (fun v H2 => tz D (σ.set i (some v)) H2) E) : tSeq (tAsg (tCall sp [] E tA) (gName i)) tz D σ H := s_asgC (D := { D with nx := tz D }) h k
theorem s_retC (h : EvA tA σ H vs) (k : ∀ H1, Ex H H1 → sp vs H1 D.rt E) : tRet (tCall sp [] E tA) D σ H :=
  h H (Ex.refl H) _ fun H1 e1 => by
    show sp (vs ++ []) H1 _ E
    rw [List.append_nil]
    exact k H1 e1
end
/-! ### rules that speak of the written part, by its name -/
section
variable {X : Cx}
theorem kC {f : Value} (K : PySem.W.Frag) (r : PySem.W.Frag → List V → Hp → VK → Prop) (h : CallR X f (r X.K)) (hK : X.K = K := by rfl) : CallR X f (r K) := hK ▸ h
theorem kO {f : Value → Value → Sem Value} (K : PySem.W.Frag) (r : PySem.W.Frag → R2) (h : OpR X f (r X.K)) (hK : X.K = K := by rfl) : OpR X f (r K) := hK ▸ h
theorem kI (K : PySem.W.Frag) (r : PySem.W.Frag → R2) (h : IxR X (r X.K)) (hK : X.K = K := by rfl) : IxR X (r K) := hK ▸ h
theorem kL (K : PySem.W.Frag) (r : PySem.W.Frag → V → Option Int → Option Int → Hp → VK → Prop) (h : SlR X (r X.K)) (hK : X.K = K := by rfl) : SlR X (r K) := hK ▸ h
theorem kM {id : String} (K : PySem.W.Frag) (r : PySem.W.Frag → V → List V → Hp → VK → Prop) (h : MtR X id (r X.K)) (hK : X.K = K := by rfl) : MtR X id (r K) := hK ▸ h
theorem kE {e : Expr} (K : PySem.W.Frag) (t : PySem.W.Frag → TE) (h : PE X e (t X.K)) (hK : X.K = K := by rfl) : PE X e (t K) := hK ▸ h
theorem kP {tg e : Expr} (K : PySem.W.Frag) (t : PySem.W.Frag → TI) (h : PI X tg e (t X.K)) (hK : X.K = K := by rfl) : PI X tg e (t K) := hK ▸ h
theorem pe_tupleOfK {a : Expr} {ta : TE} {p pos : Pos} (K : PySem.W.Frag) (hg : Gl X "tuple") (hm : X.mg "tuple" = none) (ha : PE X a ta) (hK : X.K = K := by rfl)
    (na : starEach [a] X.env = (false, eval a X.env) :: starEach [] X.env := by rfl) : PE X (.Call (.Name "tuple" p) [a] [] pos) (tThen ta (kTup K)) := by
  subst hK
  exact pe_tupleOf hg hm ha na
theorem pi_listK {tg l : Expr} {tl : TE} (K : PySem.W.Frag) (hl : PE X l tl) (hK : X.K = K := by rfl) : PI X tg l (iList K tl) := by
  subst hK
  exact pi_list hl
theorem pi_tupK {tg l : Expr} {tl : TE} (K : PySem.W.Frag) (hl : PE X l tl) (hK : X.K = K := by rfl) : PI X tg l (iTup K tl) := by
  subst hK
  exact pi_tup hl
end
theorem bt_len : bootBuiltins "len" = some (.builtin "len") := by decide +kernel
theorem bt_isinstance : bootBuiltins "isinstance" = some (.builtin "isinstance") := by decide +kernel
theorem bt_sorted : bootBuiltins "sorted" = some (.builtin "sorted") := by decide +kernel
theorem bt_all : bootBuiltins "all" = some (.builtin "all") := by decide +kernel
theorem bt_any : bootBuiltins "any" = some (.builtin "any") := by decide +kernel
theorem bt_sum : bootBuiltins "sum" = some (.builtin "sum") := by decide +kernel
theorem bt_max : bootBuiltins "max" = some (.builtin "max") := by decide +kernel
theorem bt_min : bootBuiltins "min" = some (.builtin "min") := by decide +kernel
theorem bt_tuple : bootBuiltins "tuple" = some (.type "tuple") := by decide +kernel
theorem bt_list : bootBuiltins "list" = some (.type "list") := by decide +kernel
theorem bt_int : bootBuiltins "int" = some (.type "int") := by decide +kernel
theorem bt_str : bootBuiltins "str" = some (.type "str") := by decide +kernel
theorem bt_bool : bootBuiltins "bool" = some (.type "bool") := by decide +kernel
theorem bt_zip : bootBuiltins "zip" = some (.type "zip") := by decide +kernel
theorem bt_enumerate : bootBuiltins "enumerate" = some (.type "enumerate") := by decide +kernel
theorem bt_range : bootBuiltins "range" = some (.type "range") := by decide +kernel
/-- the built-in names that the text does not bind -/
structure Nm (mg : Str → Option Value) : Prop where
  n_len : mg "len" = none
  n_range : mg "range" = none
  n_tuple : mg "tuple" = none
  n_list : mg "list" = none
  n_isinstance : mg "isinstance" = none
  n_sorted : mg "sorted" = none
  n_int : mg "int" = none
  n_str : mg "str" = none
  n_bool : mg "bool" = none
  n_max : mg "max" = none
  n_min : mg "min" = none
  n_sum : mg "sum" = none
  n_all : mg "all" = none
  n_zip : mg "zip" = none
  n_enumerate : mg "enumerate" = none
/-! ### a text again and again -/
theorem foldl_reps (a : Array Nat) : ∀ (n : Nat) (z : Array Nat), (List.replicate n a).foldl (· ++ ·) z = z ++ (List.replicate n a).foldl (· ++ ·) #[]
  | 0, z => by simp
  | n + 1, z => by
    rw [List.replicate_succ, List.foldl_cons, List.foldl_cons, foldl_reps a n (z ++ a), foldl_reps a n (#[] ++ a)]
    simp [Array.append_assoc]
theorem reps_list (l : List Nat) : ∀ n : Nat, ((List.replicate n l.toArray).foldl (· ++ ·) #[]).toList = (List.replicate n l).flatten
  | 0 => rfl
  | n + 1 => by
    rw [List.replicate_succ, List.foldl_cons, foldl_reps, List.replicate_succ, List.flatten_cons, ← reps_list l n]
    simp
theorem S_mul (l : List Nat) (n : Nat) : Txt.mul (S l) (n : Int) = S (List.replicate n l).flatten := by
  unfold Txt.mul
  by_cases h1 : (n : Int) < 1
  · rw [if_pos h1]
    have e : n = 0 := by omega
    subst e
    rfl
  · rw [if_neg h1]
    by_cases h2 : (((n : Int) == 1 || (S l).length == 0)) = true
    · rw [if_pos h2]
      rw [Bool.or_eq_true, beq_iff_eq, beq_iff_eq, S_len] at h2
      rcases h2 with h2 | h2
      · have e : n = 1 := by omega
        subst e
        show S l = S (List.replicate 1 l).flatten
        rw [show (List.replicate 1 l).flatten = l by simp]
      · have e : l = [] := List.eq_nil_of_length_eq_zero h2
        subst e
        show S [] = S (List.replicate n []).flatten
        rw [show (List.replicate n ([] : List Nat)).flatten = [] by simp]
    · rw [if_neg h2, Int.toNat_natCast]
      show (⟨(List.replicate n l.toArray).foldl (· ++ ·) #[]⟩ : Str) = S (List.replicate n l).flatten
      rw [S_eq ⟨(List.replicate n l.toArray).foldl (· ++ ·) #[]⟩, reps_list]
theorem mul_ok {l : List Nat} {n : Nat} (hl : l.length ≤ 1000) (hn : n ≤ 1000) : MulOk (S l) (n : Int) := by
  refine ⟨?_, fun h1 _ => ?_, fun h1 _ => ?_⟩
  · simp
    omega
  · rw [S_len]
    have h2 : (1 : Int) ≤ n := by omega
    have h3 : (1000 : Int) ≤ (2 ^ 63 - 1) / n := by
      rw [Int.le_ediv_iff_mul_le (by omega)]
      omega
    omega
  · rw [S_len, Int.toNat_natCast]
    have h3 : l.length * n ≤ 1000 * 1000 := Nat.mul_le_mul hl hn
    have h2 : sizeLine = 16777216 := sizeLine_eq
    show decide (l.length * n > sizeLine) = false
    exact decide_eq_false (by omega)
theorem op_mulS {X : Cx} : OpR X (binaryOp .Mult) (fun x y H Q => ∃ (l : List Nat) (n : Nat), x = .str (S l) ∧ y = .int (n : Int) ∧ l.length ≤ 1000 ∧ n ≤ 1000 ∧ Q (.str (S (List.replicate n l).flatten)) H) := by
  intro pins s σ H x y v u Q I rx ry h
  obtain ⟨l, n, rfl, rfl, h1, h2, q⟩ := h
  obtain ⟨t, rfl⟩ := rx
  obtain ⟨t', rfl⟩ := ry
  refine SB.mul (mul_ok h1 h2) fun t' k => ⟨.str (Txt.mul (S l) (n : Int)), H, I.tok _, ⟨_, rfl⟩, ?_⟩
  rw [S_mul]
  exact q
theorem ev_mulS {σ : L2.St} {H : Hp} {ta tb : TE} {l : List Nat} {n : Nat} (h : Ev ta σ H (.str (S l))) (h2 : Ev tb σ H (.int (n : Int))) (hl : l.length ≤ 1000) (hn : n ≤ 1000) :
    Ev (tOp (fun x y H Q => ∃ (l : List Nat) (n : Nat), x = .str (S l) ∧ y = .int (n : Int) ∧ l.length ≤ 1000 ∧ n ≤ 1000 ∧ Q (.str (S (List.replicate n l).flatten)) H) ta tb) σ H (.str (S (List.replicate n l).flatten)) := fun H1 e Q q =>
  h H1 e _ fun H2 e2 => h2 H2 (e.trans e2) _ fun H3 e3 => ⟨l, n, rfl, rfl, hl, hn, q H3 (e2.trans e3)⟩
end TY
namespace TY
open PySem PySem.Spec PyProof.Rows L2 Evl
/-! ### what the laws draw -/
def cellV (ns : List Int) (k : Nat) : Int := ns.getD k 0
def mixV (ns : List Int) (k : Nat) : Int :=
  ((cellV ns k + 7919 * (k : Int) + 1) * 48271 % 2147483647 * ((cellV ns k + 7919 * (k : Int) + 1) * 48271 % 2147483647) + 7 * ((cellV ns k + 7919 * (k : Int) + 1) * 48271 % 2147483647) + (k : Int)) % 2147483629
def drawV (n : Int) (k : Nat) : Int :=
  ((n + 104729 * (k : Int) + 17) * 69621 % 2147483647 * ((n + 104729 * (k : Int) + 17) * 69621 % 2147483647) + 3 * ((n + 104729 * (k : Int) + 17) * 69621 % 2147483647) + (k : Int)) % 2147483629
theorem mixV_pos (ns : List Int) (k : Nat) : 0 ≤ mixV ns k := Int.emod_nonneg _ (by decide)
theorem mixV_lt (ns : List Int) (k : Nat) : mixV ns k < 2147483629 := Int.emod_lt_of_pos _ (by decide)
theorem drawV_pos (n : Int) (k : Nat) : 0 ≤ drawV n k := Int.emod_nonneg _ (by decide)
def tbl : List Str := ["a", "ab", "ab", "abc", "abcd", "xyz", "bm", "abcdefghijklmnopqrstuvwxyz"]
/-- letters a to z -/
def Low (l : List Nat) : Prop := ∀ c ∈ l, 97 ≤ c ∧ c ≤ 122
def lettersV (n : Int) : List Nat := (tbl.getD (n % 8).toNat "").cps.toList
def manyV (n : Int) (m : Nat) : Nat := (n / 8 % ((m : Int) + 1)).toNat
def baseV (n : Int) (c : Nat) : List Nat := (List.range c).map fun k => (lettersV n).getD (drawV n k % ((lettersV n).length : Int)).toNat 0
def byV (n : Int) (c : Nat) : Nat := (1 + n / 2400 % ((c : Int) - 1)).toNat
def textV (n : Int) (m : Nat) : List Nat :=
  if (decide (n / 800 % 3 = 1) && decide ((1 : Int) < (manyV n m : Int))) = true then ((List.replicate (manyV n m) ((baseV n (manyV n m)).take (byV n (manyV n m)))).flatten).take (manyV n m) else baseV n (manyV n m)
theorem tbl_ok : ∀ x ∈ tbl, 0 < x.cps.toList.length ∧ x.cps.toList.length ≤ 26 ∧ ∀ c ∈ x.cps.toList, 97 ≤ c ∧ c ≤ 122 := by decide +kernel
theorem tbl_at {n : Int} (hn : 0 ≤ n) : tbl[(n % 8).toNat]? = some (S (lettersV n)) := by
  have h1 : (n % 8).toNat < 8 := by omega
  have h2 : (n % 8).toNat < tbl.length := h1
  have h3 : tbl[(n % 8).toNat]? = some (tbl[(n % 8).toNat]) := List.getElem?_eq_getElem h2
  rw [h3]
  show some _ = some (⟨((tbl.getD (n % 8).toNat "").cps.toList).toArray⟩ : Str)
  rw [List.getD_eq_getElem?_getD, h3]
  rfl
theorem letters_ok {n : Int} (hn : 0 ≤ n) : 0 < (lettersV n).length ∧ (lettersV n).length ≤ 26 ∧ Low (lettersV n) := tbl_ok _ (List.mem_of_getElem? (tbl_at hn))
theorem baseV_len (n : Int) (c : Nat) : (baseV n c).length = c := by simp [baseV]
theorem draw_ix {n : Int} (hn : 0 ≤ n) (k : Nat) : ∃ j : Nat, drawV n k % ((lettersV n).length : Int) = (j : Int) ∧ (lettersV n)[j]? = some ((lettersV n).getD (drawV n k % ((lettersV n).length : Int)).toNat 0) := by
  have h := letters_ok hn
  have h1 : 0 ≤ drawV n k % ((lettersV n).length : Int) := Int.emod_nonneg _ (by omega)
  have h2 : drawV n k % ((lettersV n).length : Int) < ((lettersV n).length : Int) := Int.emod_lt_of_pos _ (by omega)
  refine ⟨(drawV n k % ((lettersV n).length : Int)).toNat, by omega, ?_⟩
  have h3 : (drawV n k % ((lettersV n).length : Int)).toNat < (lettersV n).length := by omega
  rw [List.getD_eq_getElem?_getD, List.getElem?_eq_getElem h3]
  rfl
theorem baseV_low {n : Int} (hn : 0 ≤ n) (c : Nat) : Low (baseV n c) := by
  intro x hx
  obtain ⟨k, _, rfl⟩ := List.mem_map.mp hx
  obtain ⟨j, _, hj⟩ := draw_ix hn k
  exact (letters_ok hn).2.2 _ (List.mem_of_getElem? hj)
theorem manyV_le {n : Int} (hn : 0 ≤ n) (m : Nat) : manyV n m ≤ m := by
  have h2 : n / 8 % ((m : Int) + 1) < (m : Int) + 1 := Int.emod_lt_of_pos _ (by omega)
  unfold manyV
  omega
theorem manyV_int {n : Int} (hn : 0 ≤ n) (m : Nat) : n / 8 % ((m : Int) + 1) = (manyV n m : Int) := by
  have h1 : 0 ≤ n / 8 % ((m : Int) + 1) := Int.emod_nonneg _ (by omega)
  unfold manyV
  omega
theorem byV_int {n : Int} (hn : 0 ≤ n) {c : Nat} (hc : 1 < c) : 1 + n / 2400 % ((c : Int) - 1) = (byV n c : Int) := by
  have h1 : 0 ≤ n / 2400 % ((c : Int) - 1) := Int.emod_nonneg _ (by omega)
  unfold byV
  omega
theorem textV_len {n : Int} (hn : 0 ≤ n) (m : Nat) : (textV n m).length ≤ m := by
  have h := manyV_le hn m
  unfold textV
  split
  · rw [List.length_take]
    omega
  · rw [baseV_len]
    exact h
theorem textV_low {n : Int} (hn : 0 ≤ n) (m : Nat) : Low (textV n m) := by
  unfold textV
  split
  · intro x hx
    have h1 := List.mem_of_mem_take hx
    obtain ⟨l, hl, hx⟩ := List.mem_flatten.mp h1
    rw [List.eq_of_mem_replicate hl] at hx
    exact baseV_low hn _ x (List.mem_of_mem_take hx)
  · exact baseV_low hn _
/-- numbers of up to 63 cells, as the laws ask them -/
def spCell (K : PySem.W.Frag) : Sp := fun vs H Q _ => ∃ (a : Addr) (ns : List Int) (k : Nat), vs = [.ref a, .int (k : Int)] ∧ SqL K H a (ns.map V.int) ∧ ∀ H', Ex H H' → Q (.int (cellV ns k)) H'
def spMixed (K : PySem.W.Frag) : Sp := fun vs H Q _ => ∃ (a : Addr) (ns : List Int) (k : Nat), vs = [.ref a, .int (k : Int)] ∧ SqL K H a (ns.map V.int) ∧ k ≤ 1000 ∧ ∀ H', Ex H H' → Q (.int (mixV ns k)) H'
def spDrawn : Sp := fun vs H Q _ => ∃ (n : Int) (k : Nat), vs = [.int n, .int (k : Int)] ∧ k ≤ 1000 ∧ ∀ H', Ex H H' → Q (.int (drawV n k)) H'
def spText : Sp := fun vs H Q _ => ∃ (n : Int) (m : Nat), vs = [.int n, .int (m : Int)] ∧ 0 ≤ n ∧ m ≤ 100 ∧ ∀ H', Ex H H' → Q (.str (S (textV n m))) H'
section
variable {K : PySem.W.Frag} {H : Hp} {a : Addr} {ns : List Int}
theorem sv_cell {k : Nat} (h : SqL K H a (ns.map V.int)) : SpV (spCell K) [.ref a, .int (k : Int)] H (.int (cellV ns k)) := fun H1 e Q q E => ⟨a, ns, k, rfl, ex_l e h, q⟩
theorem sv_mixed {k : Nat} (h : SqL K H a (ns.map V.int)) (hk : k ≤ 1000) : SpV (spMixed K) [.ref a, .int (k : Int)] H (.int (mixV ns k)) := fun H1 e Q q E => ⟨a, ns, k, rfl, ex_l e h, hk, q⟩
theorem sv_drawn {n : Int} {k : Nat} (hk : k ≤ 1000) : SpV spDrawn [.int n, .int (k : Int)] H (.int (drawV n k)) := fun H1 e Q q E => ⟨n, k, rfl, hk, q⟩
theorem sv_text {n : Int} {m : Nat} (hn : 0 ≤ n) (hm : m ≤ 100) : SpV spText [.int n, .int (m : Int)] H (.str (S (textV n m))) := fun H1 e Q q E => ⟨n, m, rfl, hn, hm, q⟩
theorem cell_in {k : Nat} (h : k < ns.length) : atI (ns.map V.int) ((k : Nat) : Int) = some (V.int (cellV ns k)) := by
  refine atI_nat ?_
  rw [List.getElem?_map, List.getElem?_eq_getElem h]
  unfold cellV
  rw [List.getD_eq_getElem?_getD, List.getElem?_eq_getElem h]
  rfl
end
end TY
namespace TY
open PySem PySem.Spec PyProof.Rows L2 Evl
/-! ### data of ints and texts -/
def dI : PyData → Int | .int i => i | _ => 0
def dN (d : PyData) : Nat := (dI d).toNat
def dS : PyData → List Nat | .str x => x.cps.toList | _ => []
def DIs (ns : List Int) : List PyData := ns.map .int
theorem can_ints : ∀ ns : List Int, PyData.canLayAll0 (ns.map .int) = true
  | [] => by simp [PyData.canLayAll0]
  | n :: ns => by simp [PyData.canLayAll0, PyData.canLay0, can_ints ns]
theorem dep_ints : ∀ ns : List Int, PyData.depthAll (ns.map .int) = 0
  | [] => by simp [PyData.depthAll]
  | n :: ns => by simp [PyData.depthAll, PyData.depth, dep_ints ns]
theorem shaped_ints (ns : List Int) : SeqAt.shaped (.tuple (ns.map .int)) = true := by
  simp [SeqAt.shaped, PyData.canLay0, PyData.depth, can_ints, dep_ints]
theorem shaped_intsL (ns : List Int) : SeqAt.shaped (.list (ns.map .int)) = true := by
  simp [SeqAt.shaped, PyData.canLay0, PyData.depth, can_ints, dep_ints]
theorem shaped_nil : SeqAt.shaped (.list []) = true := shaped_intsL []
theorem eqv_ints : ∀ xs ys : List Int, PyData.eqvAll (xs.map .int) (ys.map .int) = decide (xs = ys)
  | [], [] => by simp [PyData.eqvAll]
  | [], y :: ys => by simp [PyData.eqvAll]
  | x :: xs, [] => by simp [PyData.eqvAll]
  | x :: xs, y :: ys => by
    rw [List.map_cons, List.map_cons, PyData.eqvAll, eqv_ints xs ys, PyData.eqv]
    by_cases h1 : x = y
    · by_cases h2 : xs = ys
      · simp [h1, h2]
      · simp [h1, h2]
    · simp [h1]
theorem eqv_tints (xs ys : List Int) : PyData.eqv (.tuple (xs.map .int)) (.tuple (ys.map .int)) = decide (xs = ys) := by
  rw [PyData.eqv, eqv_ints]
theorem eqv_nil (xs : List PyData) : PyData.eqv (.list xs) (.list []) = decide (xs = []) := by
  rw [PyData.eqv]
  cases xs with
  | nil => simp [PyData.eqvAll]
  | cons x r => simp [PyData.eqvAll]
/-! ### texts -/
theorem endswith_S (a b : List Nat) : Txt.endswith (S a) (S b) = decide (b.length ≤ a.length ∧ a.drop (a.length - b.length) = b) := by
  unfold Txt.endswith
  rw [S_len, S_len, Nat.zero_add]
  by_cases h : b.length ≤ a.length
  · have e : Builtin.Str.subAt (S a) (S b) (a.length - b.length) = decide (a.drop (a.length - b.length) = b) := by
      unfold Builtin.Str.subAt
      rw [S_len]
      have e1 : (S a).cps.extract (a.length - b.length) (a.length - b.length + b.length) = (a.drop (a.length - b.length)).toArray := by
        show a.toArray.extract (a.length - b.length) (a.length - b.length + b.length) = _
        rw [Nat.sub_add_cancel h, List.extract_toArray]
        congr 1
        rw [List.extract_eq_take_drop, List.take_of_length_le (by rw [List.length_drop]; omega)]
      rw [e1]
      show ((a.drop (a.length - b.length)).toArray == b.toArray) = _
      by_cases h2 : a.drop (a.length - b.length) = b
      · rw [h2]
        simp
      · rw [decide_eq_false h2, beq_eq_false_iff_ne]
        intro q
        exact h2 (by have := congrArg Array.toList q; simpa using this)
    rw [e, decide_eq_true h]
    by_cases h2 : a.drop (a.length - b.length) = b
    · simp [h, h2]
    · simp [h2]
  · simp [h]
section
variable {K : PySem.W.Frag} {σ : L2.St} {H : Hp} {ta tb te : TE} {tA : TA} {x : V}
theorem ev_ends {a b : List Nat} (h : Ev ta σ H (.str (S a))) (h2 : Ev tb σ H (.str (S b))) : Ev (tM1 (fun x xs H Q => ∃ a b, x = .str a ∧ xs = [.str b] ∧ Q (.bl (Txt.endswith a b)) H) ta tb) σ H (.bl (decide (b.length ≤ a.length ∧ a.drop (a.length - b.length) = b))) := fun H1 e Q q =>
  h H1 e _ fun H2 e2 => ⟨⟨_, rfl⟩, h2 H2 (e.trans e2) _ fun H3 e3 => ⟨_, _, rfl, rfl, by rw [endswith_S]; exact q H3 (e2.trans e3)⟩⟩
/-! ### isinstance -/
theorem ev_isi {T C : String} {b : Bool} (h : EvA tA σ H [x, .ty C]) (ht : ∀ H', Ex H H' → TyX K H' x (.type T)) (hb : kitB T C = some b) (hc : ClsV (.ty C) (.type C)) : Ev (tCB (rIsi K) tA) σ H (.bl b) := fun H1 e Q q =>
  h H1 e _ fun H2 e2 => ⟨x, .ty C, .type T, .type C, b, rfl, hc, ht H2 (e.trans e2), kit_ty hb, q H2 e2⟩
theorem ev_intB {b : Bool} (h : Ev te σ H (.bl b)) : Ev (tCB (fun xs H Q => (∃ i, xs = [.int i] ∧ Q (.int i) H) ∨ ∃ k, xs = [.bl k] ∧ Q (.int (if k then 1 else 0)) H) (tCons te tNil)) σ H (.int (if b then 1 else 0)) := fun H1 e Q q =>
  h H1 e _ fun H2 e2 => .inr ⟨b, rfl, q H2 e2⟩
/-! ### a number among numbers, a text among texts -/
theorem inV_ints (x : Int) : ∀ ns : List Int, inV (.int x) (ns.map V.int) = decide (x ∈ ns)
  | [] => by simp [inV]
  | n :: ns => by
    have ih := inV_ints x ns
    unfold inV at ih ⊢
    rw [List.map_cons, List.any_cons, ih]
    show ((n == x) || _) = _
    by_cases h : n = x
    · subst h
      simp
    · have h2 : ¬ x = n := fun z => h z.symm
      simp [h, h2]
theorem flat_ints : ∀ ns : List Int, (ns.map V.int).all flatV = true
  | [] => rfl
  | n :: ns => by
    rw [List.map_cons, List.all_cons, flat_ints ns]
    rfl
theorem inV_strs (x : Str) : ∀ ns : List Str, inV (.str x) (ns.map V.str) = decide (x ∈ ns)
  | [] => by simp [inV]
  | n :: ns => by
    have ih := inV_strs x ns
    unfold inV at ih ⊢
    rw [List.map_cons, List.any_cons, ih]
    show ((n == x) || _) = _
    by_cases h : n = x
    · subst h
      simp
    · have h2 : ¬ x = n := fun z => h z.symm
      simp [h, h2]
theorem flat_strs : ∀ ns : List Str, (ns.map V.str).all flatV = true
  | [] => rfl
  | n :: ns => by
    rw [List.map_cons, List.all_cons, flat_strs ns]
    rfl
theorem ev_inTI {x : Int} {ns : List Int} (h : Ev ta σ H (.int x)) (h2 : EvD tb σ H (.tuple (ns.map .int))) : Ev (tOp (rIn K false) ta tb) σ H (.bl (decide (x ∈ ns))) := fun H1 e Q q =>
  h H1 e _ fun H2 e2 => h2 H2 (e.trans e2) _ fun v H3 e3 hv => by
    obtain ⟨a, xs, rfl, h3, h4⟩ := hv.tup_
    cases h4.ints
    exact ⟨a, _, rfl, .inr (st_of h3), rfl, flat_ints ns, by
      show Q (.bl (inV (.int x) (ns.map V.int))) H3
      rw [inV_ints]
      exact q H3 (e2.trans e3)⟩
theorem ev_niTI {x : Int} {ns : List Int} (h : Ev ta σ H (.int x)) (h2 : EvD tb σ H (.tuple (ns.map .int))) : Ev (tOp (rIn K true) ta tb) σ H (.bl (!decide (x ∈ ns))) := fun H1 e Q q =>
  h H1 e _ fun H2 e2 => h2 H2 (e.trans e2) _ fun v H3 e3 hv => by
    obtain ⟨a, xs, rfl, h3, h4⟩ := hv.tup_
    cases h4.ints
    exact ⟨a, _, rfl, .inr (st_of h3), rfl, flat_ints ns, by
      show Q (.bl (!inV (.int x) (ns.map V.int))) H3
      rw [inV_ints]
      exact q H3 (e2.trans e3)⟩
theorem ev_inLS {x : Str} {ns : List Str} {p : Addr} (h : Ev ta σ H (.str x)) (h2 : Ev tb σ H (.ref p)) (hp : H p = some (.lst (ns.map V.str))) : Ev (tOp (rIn K false) ta tb) σ H (.bl (decide (x ∈ ns))) := fun H1 e Q q =>
  h H1 e _ fun H2 e2 => h2 H2 (e.trans e2) _ fun H3 e3 => ⟨p, _, rfl, .inl (sq_of (((e.trans e2).trans e3) _ _ hp)), rfl, flat_strs ns, by
      show Q (.bl (inV (.str x) (ns.map V.str))) H3
      rw [inV_strs]
      exact q H3 (e2.trans e3)⟩
theorem ev_niLS {x : Str} {ns : List Str} {p : Addr} (h : Ev ta σ H (.str x)) (h2 : Ev tb σ H (.ref p)) (hp : H p = some (.lst (ns.map V.str))) : Ev (tOp (rIn K true) ta tb) σ H (.bl (!decide (x ∈ ns))) := fun H1 e Q q =>
  h H1 e _ fun H2 e2 => h2 H2 (e.trans e2) _ fun H3 e3 => ⟨p, _, rfl, .inl (sq_of (((e.trans e2).trans e3) _ _ hp)), rfl, flat_strs ns, by
      show Q (.bl (!inV (.str x) (ns.map V.str))) H3
      rw [inV_strs]
      exact q H3 (e2.trans e3)⟩
/-! ### texts put together -/
theorem foldl_glue : ∀ (ls : List (List Nat)) (z : List Nat), (ls.map S).foldl (fun acc p => acc ++ (S []).cps ++ p.cps) z.toArray = (z ++ ls.flatten).toArray
  | [], z => by simp
  | l :: ls, z => by
    rw [List.map_cons, List.foldl_cons]
    have e : z.toArray ++ (S []).cps ++ (S l).cps = (z ++ l).toArray := by
      show z.toArray ++ ([] : List Nat).toArray ++ l.toArray = _
      simp
    rw [e, foldl_glue ls (z ++ l)]
    simp
theorem join_S : ∀ ls : List (List Nat), Txt.join (S []) (ls.map S) = S ls.flatten
  | [] => rfl
  | l :: ls => by
    show (⟨(ls.map S).foldl (fun acc p => acc ++ (S []).cps ++ p.cps) l.toArray⟩ : Str) = S (l :: ls).flatten
    rw [foldl_glue]
    rfl
theorem ev_join {ls : List (List Nat)} (h : Ev te σ H (.str (S []))) (h2 : EvN tb σ H (ls.map fun l => .str (S l))) (hz : ls.flatten.length ≤ 100000) : Ev (tM1 (fun x xs H Q => ∃ a p, ∃ ys : List Str, x = .str a ∧ xs = [.ref p] ∧ (SqL K H p (ys.map V.str) ∨ SqT K H p (ys.map V.str)) ∧
      (ys.map (·.length)).sum + ys.length * a.length ≤ 16777216 ∧ Q (.str (Txt.join a ys)) H) te tb) σ H (.str (S ls.flatten)) := fun H1 e Q q =>
  h H1 e _ fun H2 e2 => ⟨⟨_, rfl⟩, h2 H2 (e.trans e2) _ fun p xs H3 hp e3 h3 h4 => by
    have h5 : TdAll H3 xs ((ls.map S).map PyData.str) := by
      rw [List.map_map]
      exact h4
    cases h5.strs
    refine ⟨S [], p, ls.map S, rfl, rfl, .inl (sq_of h3), ?_, by rw [join_S]; exact q H3 (e2.trans e3)⟩
    have e5 : ((ls.map S).map (·.length)).sum = ls.flatten.length := by
      rw [List.length_flatten, List.map_map]
      congr 1
    rw [e5]
    have e6 : (S []).length = 0 := rfl
    rw [e6]
    omega⟩
/-! ### a range with a step -/
theorem ei_step {tA : TA} {a b c m : Nat} (h : EvA tA σ H [.int (a : Int), .int (b : Int), .int (c : Int)]) (hc : 0 < c) (hb : b ≤ 40000) (ha : a ≤ 40000) (hcz : c ≤ 40000) (hm : m = if a < b then (b - a - 1) / c + 1 else 0) :
    EvI (iRng3 tA) σ H ((List.range m).map fun (i : Nat) => PyData.int ((a : Int) + (i : Int) * (c : Int))) := fun H1 e R q =>
  h H1 e _ fun H2 e2 => by
    have hsz : Builtin.Range.rangeSize (a : Int) (b : Int) (c : Int) = (m : Int) := by
      unfold Builtin.Range.rangeSize
      rw [if_pos (by omega), hm]
      by_cases hab : a < b
      · rw [if_pos hab, if_pos (by omega)]
        have e0 : (b : Int) - (a : Int) - 1 = ((b - a - 1 : Nat) : Int) := by omega
        rw [e0]
        rfl
      · rw [if_neg hab, if_neg (by omega)]
        rfl
    have hm40 : m ≤ 40001 := by
      rw [hm]
      split
      · have := Nat.div_le_self (b - a - 1) c
        omega
      · omega
    refine ⟨(a : Int), (b : Int), (c : Int), m, rfl, ⟨by omega, by omega, ?_, hsz⟩, ?_⟩
    · unfold Builtin.Range.small
      rw [hsz]
      simp only [Builtin.Range.rangeFitsLong, Bool.and_eq_true, Bool.or_eq_true, decide_eq_true_eq, beq_iff_eq]
      rw [if_pos (by omega)]
      refine ⟨⟨⟨⟨⟨by omega, by omega⟩, ⟨by omega, by omega⟩⟩, ⟨by omega, by omega⟩⟩, ⟨by omega, by omega⟩⟩, ?_⟩
      first
        | exact .inr (by omega)
        | (right; simp; omega)
    · refine q _ (fun _ => True) H2 e2 (fun _ _ => trivial) ?_
      have hl : ((List.range m).map fun (i : Nat) => PyData.int ((a : Int) + (i : Int) * (c : Int))).length = m := by simp
      rw [hl]
      refine walk_rangeC.mono (fun _ _ => trivial) fun i H x H' hi _ y => ?_
      obtain ⟨rfl, rfl⟩ := y
      exact ⟨Ex.refl _, .int ((a : Int) + (i : Int) * (c : Int)), by simp [hi], .int _⟩
end
end TY
namespace TY
def Per (f : Nat → Nat) (n p : Nat) : Prop := ∀ i, i + p < n → f i = f (i + p)
theorem per_mul {f : Nat → Nat} {n d : Nat} (h : Per f n d) : ∀ k i, i + k * d < n → f i = f (i + k * d)
  | 0, i, _ => by simp
  | k + 1, i, hi => by
    have e : (k + 1) * d = k * d + d := Nat.succ_mul k d
    rw [e] at hi ⊢
    rw [per_mul h k i (by omega), h (i + k * d) (by omega)]
    congr 1
    omega
/-- a period of a head that is long enough, and one of the whole that it divides -/
theorem per_head {f : Nat → Nat} {n m q d : Nat} (hq : Per f n q) (hd : Per f m d) (hm : q ≤ m) (hdq : ∃ k, q = d + k * d) (hn : n ≤ m + q) : Per f n d := by
  obtain ⟨k, hk⟩ := hdq
  intro i
  induction i using Nat.strongRecOn with
  | ind i ih =>
    intro hi
    by_cases h1 : i + d < m
    · exact hd i h1
    · by_cases h2 : q ≤ i
      · by_cases hz : q = 0
        · exfalso
          omega
        · have a1 := ih (i - q) (by omega) (by omega)
          have a2 := hq (i - q) (by omega)
          have a3 := hq (i - q + d) (by omega)
          have e1 : i - q + q = i := by omega
          have e2 : i - q + d + q = i + d := by omega
          rw [e1] at a2
          rw [e2] at a3
          rw [← a2, ← a3]
          exact a1
      · have a1 := per_mul hd k (i + d - q) (by omega)
        have a2 := hq (i + d - q) (by omega)
        have e1 : i + d - q + k * d = i := by omega
        have e2 : i + d - q + q = i + d := by omega
        rw [e1] at a1
        rw [e2] at a2
        rw [← a1, ← a2]
theorem gcd_sub {p q : Nat} (h : q ≤ p) : Nat.gcd (p - q) q = Nat.gcd p q := by
  have e : p = p - q + q := by omega
  conv => rhs; rw [e]
  rw [Nat.gcd_comm (p - q + q) q, Nat.gcd_add_self_right, Nat.gcd_comm]
theorem mul_of_dvd {d q : Nat} (hq : 0 < q) (h : d ∣ q) : ∃ k, q = d + k * d := by
  obtain ⟨k, rfl⟩ := h
  cases k with
  | zero => simp at hq
  | succ k => exact ⟨k, by rw [Nat.mul_succ, Nat.mul_comm, Nat.add_comm]⟩
theorem fine_wilf {f : Nat → Nat} : ∀ s p q n, p + q ≤ s → 0 < p → 0 < q → Per f n p → Per f n q → p + q ≤ n + Nat.gcd p q → Per f n (Nat.gcd p q) := by
  intro s
  induction s with
  | zero => intro p q n h hp; omega
  | succ s ih =>
    have key : ∀ p q n, p + q ≤ s + 1 → 0 < q → q < p → Per f n p → Per f n q → p + q ≤ n + Nat.gcd p q → Per f n (Nat.gcd p q) := by
      intro p q n hs hq hlt h1 h2 hn
      have eg := gcd_sub (Nat.le_of_lt hlt)
      have hd1 : Nat.gcd p q ∣ q := Nat.gcd_dvd_right p q
      have hd2 : Nat.gcd p q ∣ p := Nat.gcd_dvd_left p q
      have hle : Nat.gcd p q ≤ q := Nat.le_of_dvd hq hd1
      have hd3 : Nat.gcd p q ∣ p - q := Nat.dvd_sub hd2 hd1
      have hle2 : Nat.gcd p q ≤ p - q := Nat.le_of_dvd (by omega) hd3
      have hh : Per f (n - q) (Nat.gcd p q) := by
        rw [← eg]
        refine ih (p - q) q (n - q) (by omega) (by omega) hq (fun i hi => ?_) (fun i hi => h2 i (by omega)) (by rw [eg]; omega)
        have a1 := h1 i (by omega)
        have a2 := h2 (i + (p - q)) (by omega)
        have e1 : i + (p - q) + q = i + p := by omega
        rw [e1] at a2
        rw [a1, a2]
      exact per_head h2 hh (by omega) (mul_of_dvd hq hd1) (by omega)
    intro p q n hs hp hq h1 h2 hn
    by_cases h : p = q
    · subst h
      rw [Nat.gcd_self]
      exact h1
    · by_cases hlt : q < p
      · exact key p q n hs hq hlt h1 h2 hn
      · rw [Nat.gcd_comm] at hn ⊢
        exact key q p n (by omega) hp (by omega) h2 h1 (by omega)
end TY
namespace TY
open PySem PySem.Spec PyProof.Rows L2 Evl
/-! ### the laws' own helpers -/
def topS (i : Nat) : Stmt := PySem.Challenge.pw_tailyard_k51_whole_two_periods.main.body.getD i (.Pass ⟨0, 0, 0, 0⟩)
abbrev s__law_cell_at : Stmt := topS 3
theorem sc__law_cell_at : FnScope ["_law_script", "_law_k"] ["_law_script", "_law_k"] (defScope s__law_cell_at) := ⟨rfl, rfl, rfl, by decide +kernel, rfl, by decide +kernel, by decide +kernel⟩
abbrev s__law_mixed : Stmt := topS 4
theorem sc__law_mixed : FnScope ["_law_script", "_law_k", "_law_drawn_here"] ["_law_script", "_law_k"] (defScope s__law_mixed) := ⟨rfl, rfl, rfl, by decide +kernel, rfl, by decide +kernel, by decide +kernel⟩
abbrev s__law_drawn : Stmt := topS 5
theorem sc__law_drawn : FnScope ["_law_number", "_law_k", "_law_drawn_here"] ["_law_number", "_law_k"] (defScope s__law_drawn) := ⟨rfl, rfl, rfl, by decide +kernel, rfl, by decide +kernel, by decide +kernel⟩
abbrev s__law_text : Stmt := topS 6
theorem sc__law_text : FnScope ["_law_number", "_law_most", "_law_letters", "_law_many", "_law_found", "_law_k", "_law_by"] ["_law_number", "_law_most"] (defScope s__law_text) := ⟨rfl, rfl, rfl, by decide +kernel, rfl, by decide +kernel, by decide +kernel⟩
section
variable {P : Program} {w : World} {K : PySem.W.Frag} {mg : Str → Option Value} {base : Heap}
theorem ok__law_cell_at {f : Addr} {fd : FuncData} (F : Fun K "_law_cell_at" "_law_cell_at" s__law_cell_at f fd) (T_ : Nm mg) : FnOk P w K mg base CX0 1 f fd ["_law_script", "_law_k"] (spCell K) := by
  refine F.ok sc__law_cell_at (fun vs H Q E h => ?_) (fun cdv A outer s H vs Q E hr h => ?_)
  · obtain ⟨a, ns, k, rfl, _⟩ := h
    rfl
  · obtain ⟨a, ns, k, rfl, hS, q⟩ := h
    refine ⟨_, (pss_cons (ps_if (pt_cmpR op_lt (pv 1) (pe_callB (kC K rLenS call_len_seq) (by rfl) T_.n_len PySem.boot_len (pa_cons (pv 0) pa_nil)) (nomark _))
      (pss_one (ps_ret (pe_ix (kI K rIxL ix_list) (pv 0) (pv 1) (fun _ _ => rfl))))
      pss_nil)
      (pss_one (ps_ret pe_int))), ?_⟩
    refine q_when (b := decide ((k : Int) < ((ns.map V.int).length : Int))) (et_test (ev_op (ev_var rfl) (ev_len (ev_var rfl) hS) rv_I0)) (fun hb H1 e1 => ?_) (fun hb H1 e1 => ?_)
    · have hk := of_decide_eq_true hb
      rw [List.length_map] at hk
      exact s_ret (v := .int (cellV ns k)) (ev_op (ev_var rfl) (ev_var rfl) (rv_ixL (ex_l e1 hS) (cell_in (by omega)))) fun H2 e2 => q _ (e1.trans e2)
    · have hk := of_decide_eq_false hb
      rw [List.length_map] at hk
      have e0 : cellV ns k = 0 := by
        unfold cellV
        rw [List.getD_eq_getElem?_getD, List.getElem?_eq_none (by omega)]
        rfl
      exact s_ret (v := .int (cellV ns k)) (by rw [e0]; exact ev_c) fun H2 e2 => q _ (e1.trans e2)
theorem ok__law_mixed {f : Addr} {fd : FuncData} (F : Fun K "_law_mixed" "_law_mixed" s__law_mixed f fd) (T_ : Nm mg) (c__law_cell_at : Cl P w K mg base 1 "_law_cell_at" (spCell K)) : FnOk P w K mg base CX0 2 f fd ["_law_script", "_law_k"] (spMixed K) := by
  refine F.ok sc__law_mixed (fun vs H Q E h => ?_) (fun cdv A outer s H vs Q E hr h => ?_)
  · obtain ⟨a, ns, k, rfl, _⟩ := h
    rfl
  · obtain ⟨a, ns, k, rfl, hS, hk, q⟩ := h
    refine ⟨_, (pss_cons (ps_set (i := 2) sc__law_mixed.nd rfl (.inl rfl) (pe_op op_mod (pe_op op_mul (pe_op op_add (pe_op op_add (pe_cl c__law_cell_at hr (by decide) (by rfl) (pa_cons (pv 0) (pa_cons (pv 1) pa_nil))) (pe_op op_mul pe_int (pv 1))) pe_int) pe_int) pe_int))
      (pss_one (ps_ret (pe_op op_mod (pe_op op_add (pe_op op_add (pe_op op_mul (pv 2) (pv 2)) (pe_op op_mul pe_int (pv 2))) (pv 1)) pe_int)))), ?_⟩
    have hm : ∀ x : Int, 0 ≤ x % 2147483647 ∧ x % 2147483647 < 2147483647 := fun x => ⟨Int.emod_nonneg _ (by decide), Int.emod_lt_of_pos _ (by decide)⟩
    refine q_asg (v := .int ((cellV ns k + 7919 * (k : Int) + 1) * 48271 % 2147483647)) (ev_op (ev_op (ev_op (ev_op (ev_cl (ea_cons (ev_var rfl) (ea_cons (ev_var rfl) ea_nil)) (sv_cell hS)) (ev_op ev_c (ev_var rfl) (rv_I (.inl ⟨by decide, by decide⟩))) rv_I0) ev_c rv_I0) ev_c (rv_I (.inr ⟨by decide, by decide⟩))) ev_c (rv_I (by decide))) fun H1 e1 => ?_
    exact s_ret (v := .int (mixV ns k)) (ev_op (ev_op (ev_op (ev_op (ev_var rfl) (ev_var rfl) (rv_I (.inl ⟨by have := hm ((cellV ns k + 7919 * (k : Int) + 1) * 48271); omega, by have := hm ((cellV ns k + 7919 * (k : Int) + 1) * 48271); omega⟩))) (ev_op ev_c (ev_var rfl) (rv_I (.inl ⟨by decide, by decide⟩))) rv_I0) (ev_var rfl) rv_I0) ev_c (rv_I (by decide))) fun H2 e2 => q _ (e1.trans e2)
theorem ok__law_drawn {f : Addr} {fd : FuncData} (F : Fun K "_law_drawn" "_law_drawn" s__law_drawn f fd) (T_ : Nm mg) : FnOk P w K mg base CX0 1 f fd ["_law_number", "_law_k"] spDrawn := by
  refine F.ok sc__law_drawn (fun vs H Q E h => ?_) (fun cdv A outer s H vs Q E hr h => ?_)
  · obtain ⟨n, k, rfl, _⟩ := h
    rfl
  · obtain ⟨n, k, rfl, hk, q⟩ := h
    refine ⟨_, (pss_cons (ps_set (i := 2) sc__law_drawn.nd rfl (.inl rfl) (pe_op op_mod (pe_op op_mul (pe_op op_add (pe_op op_add (pv 0) (pe_op op_mul pe_int (pv 1))) pe_int) pe_int) pe_int))
      (pss_one (ps_ret (pe_op op_mod (pe_op op_add (pe_op op_add (pe_op op_mul (pv 2) (pv 2)) (pe_op op_mul pe_int (pv 2))) (pv 1)) pe_int)))), ?_⟩
    have hm : ∀ x : Int, 0 ≤ x % 2147483647 ∧ x % 2147483647 < 2147483647 := fun x => ⟨Int.emod_nonneg _ (by decide), Int.emod_lt_of_pos _ (by decide)⟩
    refine q_asg (v := .int ((n + 104729 * (k : Int) + 17) * 69621 % 2147483647)) (ev_op (ev_op (ev_op (ev_op (ev_var rfl) (ev_op ev_c (ev_var rfl) (rv_I (.inl ⟨by decide, by decide⟩))) rv_I0) ev_c rv_I0) ev_c (rv_I (.inr ⟨by decide, by decide⟩))) ev_c (rv_I (by decide))) fun H1 e1 => ?_
    exact s_ret (v := .int (drawV n k)) (ev_op (ev_op (ev_op (ev_op (ev_var rfl) (ev_var rfl) (rv_I (.inl ⟨by have := hm ((n + 104729 * (k : Int) + 17) * 69621); omega, by have := hm ((n + 104729 * (k : Int) + 17) * 69621); omega⟩))) (ev_op ev_c (ev_var rfl) (rv_I (.inl ⟨by decide, by decide⟩))) rv_I0) (ev_var rfl) rv_I0) ev_c (rv_I (by decide))) fun H2 e2 => q _ (e1.trans e2)
theorem ok__law_text {f : Addr} {fd : FuncData} (F : Fun K "_law_text" "_law_text" s__law_text f fd) (T_ : Nm mg) (c__law_drawn : Cl P w K mg base 1 "_law_drawn" spDrawn) : FnOk P w K mg base CX0 2 f fd ["_law_number", "_law_most"] spText := by
  refine F.ok sc__law_text (fun vs H Q E h => ?_) (fun cdv A outer s H vs Q E hr h => ?_)
  · obtain ⟨n, m, rfl, _⟩ := h
    rfl
  · obtain ⟨n, m, rfl, hn, hm, q⟩ := h
    refine ⟨_, (pss_cons (ps_set (i := 2) sc__law_text.nd rfl (.inl rfl) (pe_ix (kI K rIxT ix_tup) (pe_tup (pa_cons pe_str (pa_cons pe_str (pa_cons pe_str (pa_cons pe_str (pa_cons pe_str (pa_cons pe_str (pa_cons pe_str (pa_cons pe_str pa_nil))))))))) (pe_op op_mod (pv 0) pe_int) (fun _ _ => rfl)))
      (pss_cons (ps_set (i := 3) sc__law_text.nd rfl (.inl rfl) (pe_op op_mod (pe_op op_fdiv (pv 0) pe_int) (pe_op op_add (pv 1) pe_int)))
      (pss_cons (ps_set (i := 4) sc__law_text.nd rfl (.inl rfl) pe_str)
      (pss_cons (ps_for PassesOwn.never rfl (pi_range1 (by rfl) T_.n_range (pa_cons (pv 3) pa_nil)) (pg_name (i := 5) sc__law_text.nd rfl (.inl rfl))
      (pss_one (ps_set (i := 4) sc__law_text.nd rfl (.inl rfl) (pe_op op_add_str (pv 4) (pe_ix ix_str (pv 2) (pe_op op_mod (pe_cl c__law_drawn hr (by decide) (by rfl) (pa_cons (pv 0) (pa_cons (pv 5) pa_nil))) (pe_callB call_len_str (by rfl) T_.n_len PySem.boot_len (pa_cons (pv 2) pa_nil))) (fun _ _ => rfl))))))
      (pss_cons (ps_if (PW.pt (pw_and (pt_cmpR op_eq (pe_op op_mod (pe_op op_fdiv (pv 0) pe_int) pe_int) pe_int (nomark _)) (pw_and1 (pt_cmpR op_gt (pv 3) pe_int (nomark _)))))
      (pss_cons (ps_set (i := 6) sc__law_text.nd rfl (.inl rfl) (pe_op op_add pe_int (pe_op op_mod (pe_op op_fdiv (pv 0) pe_int) (pe_op op_sub (pv 3) pe_int))))
      (pss_one (ps_set (i := 4) sc__law_text.nd rfl (.inl rfl) (pe_slice sl_str (pe_op op_mulS (pe_slice sl_str (pv 4) po_none (po_some (pv 6))) (pv 3)) po_none (po_some (pv 3))))))
      pss_nil)
      (pss_one (ps_ret (pv 4)))))))), ?_⟩
    have hl := letters_ok hn
    have hc := manyV_le hn m
    have h8 : n % 8 = ((n % 8).toNat : Int) := by omega
    have ht : (tbl.map PyData.str)[(n % 8).toNat]? = some (.str (S (lettersV n))) := by
      rw [List.getElem?_map, tbl_at hn]
      rfl
    refine q_asg (v := .str (S (lettersV n))) (EvD.str (ed_ixT (ds := tbl.map PyData.str) (j := (n % 8).toNat) (ed_tup (ead_cons (ed_str ev_c) (ead_cons (ed_str ev_c) (ead_cons (ed_str ev_c) (ead_cons (ed_str ev_c) (ead_cons (ed_str ev_c) (ead_cons (ed_str ev_c) (ead_cons (ed_str ev_c) (ead_cons (ed_str ev_c) ead_nil)))))))) (by decide)) (ev_is (ev_op (ev_var rfl) ev_c (rv_I (by decide))) (congrArg V.int h8)) ht)) fun H1 e1 => ?_
    refine q_asg (v := .int (manyV n m : Int)) (ev_is (ev_op (ev_op (ev_var rfl) ev_c (rv_I ⟨by decide, by decide⟩)) (ev_op (ev_var rfl) ev_c rv_I0) (rv_I (by show (0 : Int) < (m : Int) + 1; omega))) (congrArg V.int (manyV_int hn m))) fun H2 e2 => ?_
    refine q_asg (v := .str (S [])) (ev_is ev_c rfl) fun H3 e3 => ?_
    refine q_forR1 (n := (manyV n m : Int)) (ea_cons (ev_var rfl) ea_nil) (by omega) (fun i σ' H' => (∃ y, σ' = [some (.int n), some (.int (m : Int)), some (.str (S (lettersV n))), some (.int (manyV n m : Int)), some (.str (S (baseV n i))), y, none]) ∧ Ex H3 H')
      (fun H4 e4 => ⟨⟨none, rfl⟩, e4⟩) ?_ ?_
    · rintro i σ' H' hi ⟨⟨y, rfl⟩, e4⟩
      obtain ⟨j, hj, hx⟩ := draw_ix hn i
      have hi2 : i < manyV n m := by omega
      refine s_asg (v := .str (S (baseV n (i + 1)))) ?_ fun H5 e5 => ⟨⟨_, rfl⟩, e4.trans e5⟩
      have e0 : baseV n (i + 1) = baseV n i ++ [(lettersV n).getD (drawV n i % ((lettersV n).length : Int)).toNat 0] := by
        unfold baseV
        rw [List.range_succ, List.map_append]
        rfl
      rw [e0]
      refine ev_addS (ev_var rfl) (ev_ixS (j := j) (ev_var rfl) (ev_is (ev_op (ev_cl (ea_cons (ev_var rfl) (ea_cons (ev_var rfl) ea_nil)) (sv_drawn (by omega))) (ev_lenStr (ev_var rfl) (by omega)) (rv_I (by show (0 : Int) < _; omega))) (congrArg V.int hj)) (by omega) hx) (by rw [baseV_len]; show i + 1 ≤ 100000; omega)
    · rintro σ' H' ⟨⟨y, rfl⟩, e4⟩
      rw [Int.toNat_natCast]
      have e03 : Ex H H' := ((e1.trans e2).trans e3).trans e4
      refine q_when (b := decide (n / 800 % 3 = 1) && decide ((1 : Int) < (manyV n m : Int))) (et_and (et_test (ev_eqI (ev_op (ev_op (ev_var rfl) ev_c (rv_I ⟨by decide, by decide⟩)) ev_c (rv_I (by decide))) ev_c)) (fun _ => et_test (ev_op (ev_var rfl) ev_c rv_I0))) (fun hb H5 e5 => ?_) (fun hb H5 e5 => ?_)
      · have hc1 : 1 < manyV n m := by
          rw [Bool.and_eq_true] at hb
          have := of_decide_eq_true hb.2
          omega
        refine q_asg (v := .int (byV n (manyV n m) : Int)) (ev_is (ev_op ev_c (ev_op (ev_op (ev_var rfl) ev_c (rv_I ⟨by decide, by decide⟩)) (ev_op (ev_var rfl) ev_c rv_I0) (rv_I (by show (0 : Int) < (manyV n m : Int) - 1; omega))) rv_I0) (congrArg V.int (byV_int hn hc1))) fun H6 e6 => ?_
        have hb1 : (baseV n (manyV n m)).length ≤ 100 := by rw [baseV_len]; omega
        have hb2 : ((baseV n (manyV n m)).take (byV n (manyV n m))).length ≤ 100 := by rw [List.length_take]; omega
        refine s_asg (v := .str (S (textV n m))) ?_ fun H7 e7 => ?_
        · have e0 : textV n m = ((List.replicate (manyV n m) ((baseV n (manyV n m)).take (byV n (manyV n m)))).flatten).take (manyV n m) := by
            unfold textV
            rw [if_pos hb]
          rw [e0]
          refine ev_to (ev_mulS (ev_to (ev_var rfl) (ev_var rfl) (by omega)) (ev_var rfl) (by omega) (by omega)) (ev_var rfl) ?_
          rw [List.length_flatten, List.map_replicate, List.sum_replicate_nat]
          have : manyV n m * ((baseV n (manyV n m)).take (byV n (manyV n m))).length ≤ 100 * 100 := Nat.mul_le_mul (by omega) hb2
          omega
        · exact s_ret (v := .str (S (textV n m))) (ev_var rfl) fun H8 e8 => q _ (((e03.trans e5).trans (e6.trans e7)).trans e8)
      · have e0 : baseV n (manyV n m) = textV n m := by
          unfold textV
          rw [if_neg (by rw [hb]; decide)]
        rw [e0]
        exact s_ret (v := .str (S (textV n m))) (ev_var rfl) fun H8 e8 => q _ ((e03.trans e5).trans e8)
end

end TY
namespace TY
open PySem PySem.Spec PyProof.Rows L2 Evl
/-! ### borders, periods -/
def downV (n : Nat) : List Int := (List.range n).map fun (i : Nat) => (n : Int) - 1 - (i : Int)
def upV (n : Nat) : List Int := (List.range n).map fun (i : Nat) => 1 + (i : Int)
def bordersV (l : List Nat) : List Int := (downV l.length).filter fun s => decide (l.take s.toNat = l.drop (l.length - s.toNat))
def periodsV (l : List Nat) : List Int := (upV l.length).filter fun b => decide (l.drop b.toNat = l.take (l.length - b.toNat))
theorem downV_mem {n : Nat} {x : Int} (h : x ∈ downV n) : 0 ≤ x ∧ x < n := by
  obtain ⟨i, hi, rfl⟩ := List.mem_map.mp h
  have := List.mem_range.mp hi
  omega
theorem upV_mem {n : Nat} {x : Int} (h : x ∈ upV n) : 1 ≤ x ∧ x ≤ n := by
  obtain ⟨i, hi, rfl⟩ := List.mem_map.mp h
  have := List.mem_range.mp hi
  omega
theorem downV_len (n : Nat) : (downV n).length = n := by simp [downV]
theorem upV_len (n : Nat) : (upV n).length = n := by simp [upV]
def spInts (f : List Nat → List Int) : Sp := fun vs H Q _ => ∃ l : List Nat, vs = [.str (S l)] ∧ l.length ≤ 100 ∧ ∀ v H', Ex H H' → Td H' v (.tuple ((f l).map .int)) → Q v H'
theorem sd_ints {f : List Nat → List Int} {H : Hp} {l : List Nat} (hl : l.length ≤ 100) : SpD (spInts f) [.str (S l)] H (.tuple ((f l).map .int)) := fun H1 e Q q E => ⟨l, rfl, hl, q⟩
section
variable {K : PySem.W.Frag} {σ : L2.St} {H : Hp} {tA : TA}
theorem ei_downV {n : Nat} (h : EvA tA σ H [.int ((n : Int) - 1), .int (-1), .int (-1)]) (hn : n ≤ 100) : EvI (iRng3 tA) σ H ((downV n).map .int) := by
  have q := ei_down h (by omega) (by omega)
  have e : ((n : Int) - 1 - -1).toNat = n := by omega
  rw [e] at q
  unfold downV
  rw [List.map_map]
  exact q
theorem ei_upV {n : Nat} (h : EvA tA σ H [.int 1, .int ((n : Int) + 1)]) (hn : n ≤ 100) : EvI (iRng2 tA) σ H ((upV n).map .int) := by
  have q := ei_rng2 h (by omega) (by omega)
  have e : ((n : Int) + 1 - 1).toNat = n := by omega
  rw [e] at q
  unfold upV
  rw [List.map_map]
  exact q
end
abbrev s_periods : Stmt := topS 1
theorem sc_periods : FnScope ["text", "by"] ["text"] (defScope s_periods) := ⟨rfl, rfl, rfl, by decide +kernel, rfl, by decide +kernel, by decide +kernel⟩
section
variable {P : Program} {w : World} {K : PySem.W.Frag} {mg : Str → Option Value} {base : Heap}
theorem ok_periods {f : Addr} {fd : FuncData} (F : Fun K "periods" "periods" s_periods f fd) (T_ : Nm mg) : FnOk P w K mg base CX0 1 f fd ["text"] (spInts periodsV) := by
  refine F.ok sc_periods (fun vs H Q E h => ?_) (fun cdv A outer s H vs Q E hr h => ?_)
  · obtain ⟨l, rfl, _⟩ := h
    rfl
  · obtain ⟨l, rfl, hl, q⟩ := h
    refine ⟨_, (pss_one (ps_ret (pe_tupleOfK K (by rfl) T_.n_tuple (pe_lc (own := [("by", 1)]) (g := gName 1) rfl sc_periods.nd (pi_range2 (by rfl) T_.n_range (pa_cons pe_int (pa_cons (pe_op op_add (pe_callB call_len_str (by rfl) T_.n_len PySem.boot_len (pa_cons (pv 0) pa_nil)) pe_int) pa_nil))) (blkOk_by (N := ["text", "by"]) (sc := defScope s_periods) (by decide +kernel)) (fun _ _ _ _ _ => (pg_name (i := 1) sc_periods.nd rfl (Or.inl rfl))) (fun _ _ _ _ _ => (pts_one (pt_cmpR op_eq (pe_slice sl_str (pv 0) (po_some (pv 1)) po_none) (pe_slice sl_str (pv 0) po_none (po_some (pe_op op_sub (pe_callB call_len_str (by rfl) T_.n_len PySem.boot_len (pa_cons (pv 0) pa_nil)) (pv 1)))) (nomark _)))) (fun _ _ _ _ _ => (pv 1)))))), ?_⟩
    refine s_retD (d := .tuple ((periodsV l).map .int)) (ed_tupOf (en_lcI (upV l.length) (fun b => decide (l.drop b.toNat = l.take (l.length - b.toNat))) .int (ei_upV (ea_cons ev_c (ea_cons (ev_op (ev_lenStr (ev_var rfl) (by omega)) ev_c rv_I0) ea_nil)) hl) (by rw [upV_len]; omega) fun s hs H1 e1 => ?_)) q
    have h1 := upV_mem hs
    obtain ⟨k, rfl⟩ : ∃ k : Nat, s = (k : Int) := ⟨s.toNat, by omega⟩
    refine ⟨et_test (ev_eqS (ev_from (ev_var rfl) (ev_var rfl) (by omega)) (ev_to (ev_var rfl) (ev_is (ev_op (ev_lenStr (ev_var rfl) (by omega)) (ev_var rfl) rv_I0) (congrArg V.int ?_)) (by omega))), fun _ => ed_int (ev_var rfl)⟩
    rw [Int.toNat_natCast]
    omega
end

end TY
namespace TY
open PySem PySem.Spec PyProof.Rows L2 Evl
/-! ### k51 -/
def atV (l : List Nat) (i : Nat) : Nat := l.getD i 0
theorem atV_some {l : List Nat} {i : Nat} (h : i < l.length) : l[i]? = some (atV l i) := by
  unfold atV
  rw [List.getD_eq_getElem?_getD, List.getElem?_eq_getElem h]
  rfl
theorem per_iff (l : List Nat) (p : Nat) (hp : p ≤ l.length) : l.drop p = l.take (l.length - p) ↔ Per (atV l) l.length p := by
  constructor
  · intro h i hi
    have h1 : (l.drop p)[i]? = (l.take (l.length - p))[i]? := by rw [h]
    rw [List.getElem?_drop, List.getElem?_take, if_pos (by omega), atV_some (by omega), atV_some (by omega), Nat.add_comm p i] at h1
    exact (Option.some.inj h1).symm
  · intro h
    refine List.ext_getElem? fun i => ?_
    rw [List.getElem?_drop, List.getElem?_take]
    by_cases hi : i < l.length - p
    · rw [if_pos hi, atV_some (by omega), atV_some (by omega), h i (by omega), Nat.add_comm p i]
    · rw [if_neg hi, List.getElem?_eq_none (by omega)]
theorem periodsV_mem (l : List Nat) (x : Int) : x ∈ periodsV l ↔ ∃ p : Nat, x = (p : Int) ∧ 1 ≤ p ∧ p ≤ l.length ∧ Per (atV l) l.length p := by
  unfold periodsV
  rw [List.mem_filter, decide_eq_true_eq]
  constructor
  · rintro ⟨h1, h2⟩
    have h3 := upV_mem h1
    obtain ⟨p, rfl⟩ : ∃ p : Nat, x = (p : Int) := ⟨x.toNat, by omega⟩
    rw [Int.toNat_natCast] at h2
    exact ⟨p, rfl, by omega, by omega, (per_iff l p (by omega)).mp h2⟩
  · rintro ⟨p, rfl, h1, h2, h3⟩
    rw [Int.toNat_natCast]
    refine ⟨?_, (per_iff l p h2).mpr h3⟩
    exact List.mem_map.mpr ⟨p - 1, List.mem_range.mpr (by omega), by omega⟩
theorem periodsV_len (l : List Nat) : (periodsV l).length ≤ l.length := by
  have := List.length_filter_le (fun b : Int => decide (l.drop b.toNat = l.take (l.length - b.toNat))) (upV l.length)
  rw [upV_len] at this
  exact this
theorem two_periods {l : List Nat} {p q : Nat} (hp : (p : Int) ∈ periodsV l) (hq : (q : Int) ∈ periodsV l) (h : (p : Int) + (q : Int) - (Nat.gcd p q : Int) ≤ (l.length : Int)) : (Nat.gcd p q : Int) ∈ periodsV l := by
  obtain ⟨p', e1, p1, p2, p3⟩ := (periodsV_mem l _).mp hp
  obtain ⟨q', e2, q1, q2, q3⟩ := (periodsV_mem l _).mp hq
  have e1 : p = p' := by omega
  have e2 : q = q' := by omega
  subst e1
  subst e2
  refine (periodsV_mem l _).mpr ⟨Nat.gcd p q, rfl, Nat.gcd_pos_of_pos_left q p1, Nat.le_trans (Nat.le_of_dvd p1 (Nat.gcd_dvd_left p q)) p2, ?_⟩
  exact fine_wilf (p + q) p q l.length (Nat.le_refl _) p1 q1 p3 q3 (by omega)
theorem more_periods {l : List Nat} {p : Nat} (hp : (p : Int) ∈ periodsV l) {i : Nat} (h : p + i * p ≤ l.length) : ((p : Int) + (i : Int) * (p : Int)) ∈ periodsV l := by
  obtain ⟨p', e1, p1, p2, p3⟩ := (periodsV_mem l _).mp hp
  have e1 : p = p' := by omega
  subst e1
  refine (periodsV_mem l _).mpr ⟨p + i * p, by rw [Int.natCast_add, Int.natCast_mul], by omega, h, fun j hj => ?_⟩
  have e : p + i * p = (i + 1) * p := by rw [Nat.succ_mul, Nat.add_comm]
  rw [e] at hj ⊢
  exact per_mul p3 (i + 1) j hj
theorem twice_period {l : List Nat} (h : l ≠ []) : (l.length : Int) ∈ periodsV (l ++ l) := by
  have h0 : 0 < l.length := List.length_pos_iff.mpr h
  unfold periodsV
  rw [List.mem_filter, decide_eq_true_eq, Int.toNat_natCast, List.length_append]
  refine ⟨List.mem_map.mpr ⟨l.length - 1, List.mem_range.mpr (by omega), by omega⟩, ?_⟩
  rw [Nat.add_sub_cancel, List.drop_left, List.take_left]
def spDivisor : Sp := fun vs H Q _ => ∃ a b : Nat, vs = [.int (a : Int), .int (b : Int)] ∧ ∀ H', Ex H H' → Q (.int (Nat.gcd a b : Nat)) H'
theorem sv_divisor {H : Hp} {a b : Nat} : SpV spDivisor [.int (a : Int), .int (b : Int)] H (.int (Nat.gcd a b : Nat)) := fun H1 e Q q E => ⟨a, b, rfl, q⟩
def spMade : Sp := fun vs H Q _ => ∃ s a b : Nat, vs = [.int (s : Int), .int (a : Int), .int (b : Int)] ∧ s ≤ 24 ∧ a ≤ s ∧ b ≤ s ∧ ∀ l : List Nat, l.length = s → ∀ H', Ex H H' → Q (.str (S l)) H'
abbrev s__law_divisor : Stmt := topS 7
theorem sc__law_divisor : FnScope ["_law_one", "_law_other", "_law_left", "_law_rest"] ["_law_one", "_law_other"] (defScope s__law_divisor) := ⟨rfl, rfl, rfl, by decide +kernel, rfl, by decide +kernel, by decide +kernel⟩
abbrev s__law_made : Stmt := topS 8
theorem sc__law_made : FnScope ["_law_size", "_law_one", "_law_other", "_law_groups", "_law_by", "_law_at", "_law_old", "_law_group"] ["_law_size", "_law_one", "_law_other"] (defScope s__law_made) := ⟨rfl, rfl, rfl, by decide +kernel, rfl, by decide +kernel, by decide +kernel⟩
abbrev s_law : Stmt := topS 9
theorem sc_law : FnScope ["_law_script", "_law_text_here", "_law_number", "_law_size", "_law_some", "_law_one", "_law_other", "_law_both", "_law_whole", "_law_many"] ["_law_script"] (defScope s_law) := ⟨rfl, rfl, rfl, by decide +kernel, rfl, by decide +kernel, by decide +kernel⟩
def spLaw (K : PySem.W.Frag) : Sp := fun vs H Q _ => ∃ (a : Addr) (ns : List Int), vs = [.ref a] ∧ SqL K H a (ns.map V.int) ∧ ns.length ≤ 63 ∧ ∀ H', Q (.bl true) H'
section
variable {P : Program} {w : World} {K : PySem.W.Frag} {mg : Str → Option Value} {base : Heap}
theorem ok__law_divisor {f : Addr} {fd : FuncData} (F : Fun K "_law_divisor" "_law_divisor" s__law_divisor f fd) (T_ : Nm mg) : FnOk P w K mg base CX0 1 f fd ["_law_one", "_law_other"] spDivisor := by
  refine F.ok sc__law_divisor (fun vs H Q E h => ?_) (fun cdv A outer s H vs Q E hr h => ?_)
  · obtain ⟨a, b, rfl, _⟩ := h
    rfl
  · obtain ⟨a, b, rfl, q⟩ := h
    refine ⟨_, (pss_cons (ps_set (i := 2) sc__law_divisor.nd rfl (.inl rfl) (pv 0))
      (pss_cons (ps_set (i := 3) sc__law_divisor.nd rfl (.inl rfl) (pv 1))
      (pss_cons (ps_while PassesOwn.never (pt_cmpR op_gt (pv 3) pe_int (nomark _))
      (pss_one (ps_par (i := 2) (j := 3) rfl sc__law_divisor.nd rfl rfl (by decide) rfl rfl (pa_cons (pv 3) (pa_cons (pe_op op_mod (pv 2) (pv 3)) pa_nil)) rfl)))
      (pss_one (ps_ret (pv 2)))))), ?_⟩
    refine q_asg (v := .int (a : Int)) (ev_var rfl) fun H1 e1 => ?_
    refine q_asg (v := .int (b : Int)) (ev_var rfl) fun H2 e2 => ?_
    refine s_while (D := { nx := _, rt := _ }) (fun m σ' H' => ∃ x y : Nat, σ' = [some (.int (a : Int)), some (.int (b : Int)), some (.int (x : Int)), some (.int (y : Int))] ∧ Nat.gcd x y = Nat.gcd a b ∧ m = y ∧ Ex H H') b ⟨a, b, rfl, rfl, rfl, e1.trans e2⟩ ?_
    rintro m σ' H' ⟨x, y, rfl, hg, rfl, e3⟩
    refine ⟨decide ((0 : Int) < (m : Int)), et_test (ev_op (ev_var rfl) ev_c rv_I0), fun hb H4 e4 => ?_, fun hb H4 e4 => ?_⟩
    · have hm : 0 < m := by
        have := of_decide_eq_true hb
        omega
      refine ⟨fun σ2 H2 => ∃ x y : Nat, σ2 = [some (.int (a : Int)), some (.int (b : Int)), some (.int (x : Int)), some (.int (y : Int))] ∧ Nat.gcd x y = Nat.gcd a b ∧ y < m ∧ Ex H H2, fun σ2 H2 h => ?_, ?_⟩
      · obtain ⟨x', y', h1, h2, h3, h4⟩ := h
        exact ⟨y', h3, x', y', h1, h2, rfl, h4⟩
      · refine ea_cons (ev_var rfl) (ea_cons (ev_op (ev_var rfl) (ev_var rfl) (rv_I (by show (0 : Int) < (m : Int); omega))) ea_nil) H4 (Ex.refl H4) _ fun H5 e5 => ⟨_, _, rfl, m, x % m, ?_, ?_, Nat.mod_lt x hm, (e3.trans e4).trans e5⟩
        · rw [Int.natCast_emod]
          rfl
        · rw [← hg, Nat.gcd_comm m, ← Nat.gcd_rec, Nat.gcd_comm]
    · have hm : m = 0 := by
        have := of_decide_eq_false hb
        omega
      subst hm
      rw [Nat.gcd_zero_right] at hg
      subst hg
      exact s_ret (v := .int (Nat.gcd a b : Nat)) (ev_var rfl) fun H5 e5 => q H5 ((e3.trans e4).trans e5)
theorem ok__law_made {f : Addr} {fd : FuncData} (F : Fun K "_law_made" "_law_made" s__law_made f fd) (T_ : Nm mg) : FnOk P w K mg base CX0 1 f fd ["_law_size", "_law_one", "_law_other"] spMade := by
  refine F.ok sc__law_made (fun vs H Q E h => ?_) (fun cdv A outer s H vs Q E hr h => ?_)
  · obtain ⟨s, a, b, rfl, _⟩ := h
    rfl
  · obtain ⟨s, a, b, rfl, hs, ha, hb, q⟩ := h
    refine ⟨_, (pss_cons (ps_set (i := 3) sc__law_made.nd rfl (.inr rfl) (pe_listRg rfl (by rfl) T_.n_list (prg_1 (by rfl) T_.n_range (pv 0))))
      (pss_cons (ps_for PassesOwn.never rfl (pi_tupK K (pe_tup (pa_cons (pv 1) (pa_cons (pv 2) pa_nil)))) (pg_name (i := 4) sc__law_made.nd rfl (.inl rfl))
      (pss_one (ps_for PassesOwn.never rfl (pi_range1 (by rfl) T_.n_range (pa_cons (pe_op op_sub (pv 0) (pv 4)) pa_nil)) (pg_name (i := 5) sc__law_made.nd rfl (.inr rfl))
      (pss_cons (ps_set (i := 6) sc__law_made.nd rfl (.inr rfl) (pe_ix (kI K rIxL ix_list) (pv 3) (pe_op op_add (pv 5) (pv 4)) (fun _ _ => rfl)))
      (pss_one (ps_set (i := 3) sc__law_made.nd rfl (.inr rfl) (pe_lc (own := [("_law_group", 7)]) (g := gName 7) (tt := tYes) rfl sc__law_made.nd (pi_listK K (pv 3)) (blkOk_by (N := ["_law_size", "_law_one", "_law_other", "_law_groups", "_law_by", "_law_at", "_law_old", "_law_group"]) (sc := defScope s__law_made) (by decide +kernel)) (fun _ _ _ _ _ => (pg_name (i := 7) sc__law_made.nd rfl (Or.inl rfl))) (fun _ _ _ _ _ => pts_nil) (fun _ _ _ _ _ => (pe_ix (kI K rIxL ix_list) (pe_lst (pa_cons (pv 7) (pa_cons (pe_ix (kI K rIxL ix_list) (pv 3) (pv 5) (fun _ _ => rfl)) pa_nil))) (pe_callTy call_int1 (by rfl) T_.n_int bt_int (pa_cons (pe_cmpR op_eq (pv 7) (pv 6) (nomark _)) pa_nil)) (fun _ _ => rfl))))))))))
      (pss_one (ps_ret (pe_join pe_str (pe_lc (own := [("_law_group", 7)]) (g := gName 7) (tt := tYes) rfl sc__law_made.nd (pi_listK K (pv 3)) (blkOk_by (N := ["_law_size", "_law_one", "_law_other", "_law_groups", "_law_by", "_law_at", "_law_old", "_law_group"]) (sc := defScope s__law_made) (by decide +kernel)) (fun _ _ _ _ _ => (pg_name (i := 7) sc__law_made.nd rfl (Or.inl rfl))) (fun _ _ _ _ _ => pts_nil) (fun _ _ _ _ _ => (pe_ix ix_str pe_str (pv 7) (fun _ _ => rfl))))))))), ?_⟩
    refine q_asgN (ds := (((List.range s).map fun (i : Nat) => (i : Int))).map .int) (fun H1 e1 Q q => ⟨.int (s : Int), rfl, (s : Int), rfl, ⟨by omega, by omega, by omega, by omega, by omega⟩, fun p hp => ?_⟩) fun p xs H1 hp e1 h1 hx => ?_
    · refine q p _ _ hp (Ex.new hp) upd_same ?_
      have e0 : rgV 0 (s : Int) = ((List.range s).map fun (i : Nat) => (i : Int)).map V.int := by
        unfold rgV
        rw [List.map_map, Int.sub_zero, Int.toNat_natCast]
        refine List.map_congr_left fun i _ => ?_
        show V.int (0 + (i : Int)) = V.int (i : Int)
        rw [Int.zero_add]
      rw [e0]
      exact TdAll.of_ints _
    have hxi := hx.ints
    subst hxi
    have eT := eit_tup (K := K) (ed_tup (ead_cons (ed_int (ev_var (σ := ((start ["_law_size", "_law_one", "_law_other", "_law_groups", "_law_by", "_law_at", "_law_old", "_law_group"] [V.int (s : Int), V.int (a : Int), V.int (b : Int)]).set 3 (some (V.ref p)))) (i := 1) (H := H1) rfl)) (ead_cons (ed_int (ev_var (i := 2) rfl)) ead_nil)) (Nat.le_of_ble_eq_true rfl))
    refine q_forIT eT (fun H2 i σ' H' => (∃ (r : Addr) (gs : List Int) (y4 y5 y6 : Option V), σ' = [some (.int (s : Int)), some (.int (a : Int)), some (.int (b : Int)), some (.ref r), y4, y5, y6, none] ∧ H' r = some (.lst (gs.map V.int)) ∧ gs.length = s ∧ ∀ g ∈ gs, (0 : Int) ≤ g ∧ g < 24) ∧ Ex H H' ∧ Ex H2 H') ?_ (fun H2 i σ' H' p => ExT.of p.2.2) ?_ ?_
    · intro H2 e2
      refine ⟨⟨p, _, none, none, none, rfl, e2 _ _ h1, by simp, fun g hg => ?_⟩, e1.trans e2, Ex.refl _⟩
      obtain ⟨i, hi, rfl⟩ := List.mem_map.mp hg
      have := List.mem_range.mp hi
      omega
    · rintro H2 i e x σ' H' H'' e2 he ⟨⟨r, gs, y4, y5, y6, rfl, hr0, hgl, hgs⟩, e3, e4⟩ e5 hx
      obtain ⟨c, rfl, hc⟩ : ∃ c : Nat, e = .int (c : Int) ∧ c ≤ s := by
        have hm := List.mem_of_getElem? he
        simp only [List.mem_cons, List.mem_nil_iff, or_false] at hm
        rcases hm with rfl | rfl
        · exact ⟨a, rfl, ha⟩
        · exact ⟨b, rfl, hb⟩
      cases hx.int_
      refine s_forR1 (n := ((s - c : Nat) : Int)) (ea_cons (ev_is (ev_op (ev_var rfl) (ev_var rfl) rv_I0) (congrArg V.int (by omega))) ea_nil) (by omega) (fun k σ' H' => (∃ (r : Addr) (gs : List Int) (y5 y6 : Option V), σ' = [some (.int (s : Int)), some (.int (a : Int)), some (.int (b : Int)), some (.ref r), some (.int (c : Int)), y5, y6, none] ∧ H' r = some (.lst (gs.map V.int)) ∧ gs.length = s ∧ ∀ g ∈ gs, (0 : Int) ≤ g ∧ g < 24) ∧ Ex H'' H') ?_ ?_ ?_
      · intro H6 e6
        exact ⟨⟨r, gs, _, _, rfl, e6 _ _ (e5 _ _ hr0), hgl, hgs⟩, e6⟩
      · rintro k σ' H6 hk ⟨⟨r, gs, y5, y6, rfl, hr0, hgl, hgs⟩, e6⟩
        have hk2 : k + c < gs.length := by omega
        have g1 : gs[k + c]? = some (gs[k + c]) := List.getElem?_eq_getElem hk2
        have g2 : gs[k]? = some (gs[k]'(by omega)) := List.getElem?_eq_getElem _
        refine q_asg (v := .int (gs[k + c])) (ev_op (ev_var rfl) (ev_is (ev_op (ev_var rfl) (ev_var rfl) rv_I0) (show V.int ((k : Int) + (c : Int)) = V.int ((k + c : Nat) : Int) by rw [Int.natCast_add])) (rv_ixL (sq_of hr0) (atI_nat (by rw [List.getElem?_map, g1]; rfl)))) fun H7 e7 => ?_
        refine s_asgN (ds := (gs.map fun g => [g, gs[k]'(by omega)].getD (if decide (g = gs[k + c]) = true then 1 else 0) 0).map .int) ?_ fun p2 xs2 H8 hp2 e8 h8 hx8 => ?_
        · have e0 : (gs.map fun g => [g, gs[k]'(by omega)].getD (if decide (g = gs[k + c]) = true then 1 else 0) 0).map PyData.int = (gs.filter fun _ => true).map fun g => PyData.int ([g, gs[k]'(by omega)].getD (if decide (g = gs[k + c]) = true then 1 else 0) 0) := by
            rw [List.map_map, List.filter_eq_self.mpr (fun _ _ => rfl)]
            rfl
          rw [e0]
          refine en_lcI gs (fun _ => true) _ (ei_lst (ev_var rfl) (e7 _ _ hr0) (TdAll.of_ints _)) (by omega) fun g hg H9 e9 => ⟨et_yes, fun _ => ?_⟩
          have hrr := (e7.trans e9) _ _ hr0
          refine ed_ixN (ds := [.int g, .int (gs[k]'(by omega))]) (j := if decide (g = gs[k + c]) = true then 1 else 0) (en_lst (ead_cons (ed_int (ev_var rfl)) (ead_cons (ed_int (ev_op (ev_var rfl) (ev_var rfl) (rv_ixL (sq_of hrr) (atI_nat (by rw [List.getElem?_map, g2]; rfl))))) ead_nil)) (Nat.le_of_ble_eq_true rfl)) (ev_is (ev_intB (ev_eqI (ev_var rfl) (ev_var rfl))) ?_) ?_
          · by_cases h : g = gs[k + c] <;> simp [h]
          · by_cases h : g = gs[k + c] <;> simp [h]
        · have hxi := hx8.ints
          subst hxi
          refine ⟨⟨p2, _, _, _, rfl, h8, by rw [List.length_map]; exact hgl, fun g hg => ?_⟩, (e6.trans e7).trans e8⟩
          obtain ⟨g0, hg0, rfl⟩ := List.mem_map.mp hg
          have b1 := hgs g0 hg0
          have b2 := hgs _ (List.getElem_mem (show k < gs.length by omega))
          by_cases h : g0 = gs[k + c]
          · rw [decide_eq_true h]
            exact b2
          · rw [decide_eq_false h]
            exact b1
      · rintro σ' H6 ⟨⟨r, gs, y5, y6, rfl, hr0, hgl, hgs⟩, e6⟩
        exact ⟨⟨r, gs, _, _, _, rfl, hr0, hgl, hgs⟩, (e3.trans e5).trans e6, (e4.trans e5).trans e6⟩
    · rintro H2 σ' H' e2 ⟨⟨r, gs, y4, y5, y6, rfl, hr0, hgl, hgs⟩, e3, e4⟩
      refine s_ret (v := .str (S ((gs.map fun g => [97 + g.toNat]).flatten))) (ev_join (ev_is ev_c rfl) ?_ ?_) fun H5 e5 => q _ ?_ H5 (e3.trans e5)
      · have e0 : (gs.map fun g => [97 + g.toNat]).map (fun l => PyData.str (S l)) = (gs.filter fun _ => true).map fun g => PyData.str (S [97 + g.toNat]) := by
          rw [List.map_map, List.filter_eq_self.mpr (fun _ _ => rfl)]
          rfl
        rw [e0]
        refine en_lcI gs (fun _ => true) _ (ei_lst (ev_var rfl) hr0 (TdAll.of_ints _)) (by omega) fun g hg H9 e9 => ⟨et_yes, fun _ => ?_⟩
        have b1 := hgs g hg
        have ha0 : ∀ k : Nat, k < 26 → (("abcdefghijklmnopqrstuvwxyz" : Str).cps.toList)[k]? = some (97 + k) := by decide +kernel
        exact ed_str (ev_ixS (a := ("abcdefghijklmnopqrstuvwxyz" : Str).cps.toList) (j := g.toNat) (ev_is ev_c rfl) (ev_is (ev_var rfl) (congrArg V.int (by omega))) (by decide +kernel) (ha0 _ (by omega)))
      · rw [List.length_flatten, List.map_map]
        have : (gs.map (List.length ∘ fun g => [97 + g.toNat])).sum = gs.length := by
          clear hgs hgl hr0
          induction gs with
          | nil => rfl
          | cons g gs ih =>
            rw [List.map_cons, List.sum_cons, ih, List.length_cons]
            show 1 + gs.length = gs.length + 1
            omega
        omega
      · rw [List.length_flatten, List.map_map]
        have : (gs.map (List.length ∘ fun g => [97 + g.toNat])).sum = gs.length := by
          clear hgs hgl hr0
          induction gs with
          | nil => rfl
          | cons g gs ih =>
            rw [List.map_cons, List.sum_cons, ih, List.length_cons]
            show 1 + gs.length = gs.length + 1
            omega
        omega
theorem ok_law {f : Addr} {fd : FuncData} (F : Fun K "law" "law" s_law f fd) (T_ : Nm mg) (c__law_mixed : Cl P w K mg base 2 "_law_mixed" (spMixed K)) (c__law_text : Cl P w K mg base 2 "_law_text" spText)
    (c_periods : Cl P w K mg base 1 "periods" (spInts periodsV)) (c__law_divisor : Cl P w K mg base 1 "_law_divisor" spDivisor) (c__law_made : Cl P w K mg base 1 "_law_made" spMade) :
    FnOk P w K mg base CX0 3 f fd ["_law_script"] (spLaw K) := by
  refine F.ok sc_law (fun vs H Q E h => ?_) (fun cdv A outer s H vs Q E hr h => ?_)
  · obtain ⟨a, ns, rfl, _⟩ := h
    rfl
  · obtain ⟨a, ns, rfl, hS, hlen, q⟩ := h
    refine ⟨_, (pss_cons (ps_set (i := 1) sc_law.nd rfl (.inl rfl) (pe_cl c__law_text hr (by decide) (by rfl) (pa_cons (pe_cl c__law_mixed hr (by decide) (by rfl) (pa_cons (pv 0) (pa_cons pe_int pa_nil))) (pa_cons pe_int pa_nil))))
      (pss_cons (ps_set (i := 2) sc_law.nd rfl (.inl rfl) (pe_cl c__law_mixed hr (by decide) (by rfl) (pa_cons (pv 0) (pa_cons pe_int pa_nil))))
      (pss_cut (ps_if (pt_cmpR op_eq (pe_op op_mod (pv 2) pe_int) pe_int (nomark _))
      (pss_cons (ps_set (i := 3) sc_law.nd rfl (.inl rfl) (pe_op op_add pe_int (pe_op op_mod (pe_op op_fdiv (pv 2) pe_int) pe_int)))
      (pss_one (ps_set (i := 1) sc_law.nd rfl (.inl rfl) (pe_cl c__law_made hr (by decide) (by rfl) (pa_cons (pv 3) (pa_cons (pe_op op_add pe_int (pe_op op_mod (pe_op op_fdiv (pv 2) pe_int) (pv 3))) (pa_cons (pe_op op_add pe_int (pe_op op_mod (pe_op op_fdiv (pv 2) pe_int) (pv 3))) pa_nil)))))))
      pss_nil)
      (pss_cons (ps_set (i := 4) sc_law.nd rfl (.inr rfl) (pe_cl c_periods hr (by decide) (by rfl) (pa_cons (pv 1) pa_nil)))
      (pss_cons (ps_for PassesOwn.never rfl (pi_tupK K (pv 4)) (pg_name (i := 5) sc_law.nd rfl (.inl rfl))
      (pss_cons (ps_for PassesOwn.never rfl (pi_tupK K (pv 4)) (pg_name (i := 6) sc_law.nd rfl (.inl rfl))
      (pss_cons (ps_set (i := 7) sc_law.nd rfl (.inl rfl) (pe_cl c__law_divisor hr (by decide) (by rfl) (pa_cons (pv 5) (pa_cons (pv 6) pa_nil))))
      (pss_one (ps_if (PW.pt (pw_and (pt_cmpR op_le (pe_op op_sub (pe_op op_add (pv 5) (pv 6)) (pv 7)) (pe_callB call_len_str (by rfl) T_.n_len PySem.boot_len (pa_cons (pv 1) pa_nil)) (nomark _)) (pw_and1 (pt_cmpR (kO K (fun K => rIn K true) op_notIn_seq) (pv 7) (pv 4) rfl))))
      (pss_one (ps_ret pe_bl))
      pss_nil))))
      (pss_one (ps_if (pt_cmpR (kO K rNeD (op_neD (hu64 hr))) (pe_lc (own := [("_law_many", 9)]) (g := gName 9) rfl sc_law.nd (pi_range3 (by rfl) T_.n_range (pa_cons (pv 5) (pa_cons (pe_op op_add (pe_callB call_len_str (by rfl) T_.n_len PySem.boot_len (pa_cons (pv 1) pa_nil)) pe_int) (pa_cons (pv 5) pa_nil)))) (blkOk_by (N := ["_law_script", "_law_text_here", "_law_number", "_law_size", "_law_some", "_law_one", "_law_other", "_law_both", "_law_whole", "_law_many"]) (sc := defScope s_law) (by decide +kernel)) (fun _ _ _ _ _ => (pg_name (i := 9) sc_law.nd rfl (Or.inl rfl))) (fun _ _ _ _ _ => (pts_one (pt_cmpR (kO K (fun K => rIn K true) op_notIn_seq) (pv 9) (pv 4) rfl))) (fun _ _ _ _ _ => (pv 9))) (pe_lst pa_nil) (nomark _))
      (pss_one (ps_ret pe_bl))
      pss_nil))))
      (pss_cons (ps_set (i := 8) sc_law.nd rfl (.inl rfl) (pe_op op_add_str (pv 1) (pv 1)))
      (pss_one (ps_ret (pe_or (pe_cmpR op_eq (pv 1) pe_str (nomark _)) (pe_or (pe_cmpR op_gt (pe_callB call_len_str (by rfl) T_.n_len PySem.boot_len (pa_cons (pv 8) pa_nil)) pe_int (nomark _)) (pe_one (pe_cmpR (kO K (fun K => rIn K false) op_in_seq) (pe_callB call_len_str (by rfl) T_.n_len PySem.boot_len (pa_cons (pv 1) pa_nil)) (pe_cl c_periods hr (by decide) (by rfl) (pa_cons (pv 8) pa_nil)) rfl)))))))))))), ?_⟩
    refine q_asg (v := .str (S (textV (mixV ns 0) 24))) (ev_cl (ea_cons (ev_cl (ea_cons (ev_var rfl) (ea_cons ev_c ea_nil)) (sv_mixed (k := 0) hS (by decide))) (ea_cons ev_c ea_nil)) (sv_text (m := 24) (mixV_pos _ _) (by decide))) fun H1 e1 => ?_
    have hl := textV_len (mixV_pos ns 0) 24
    generalize textV (mixV ns 0) 24 = l0 at hl
    refine q_asg (v := .int (mixV ns 1)) (ev_cl (ea_cons (ev_var rfl) (ea_cons ev_c ea_nil)) (sv_mixed (k := 1) (ex_l e1 hS) (by decide))) fun H2 e2 => ?_
    have hn0 := mixV_pos ns 1
    generalize mixV ns 1 = n at hn0
    refine ⟨fun σ' H' => ∃ l y, l.length ≤ 24 ∧ σ' = [some (.ref a), some (.str (S l)), some (.int n), y, none, none, none, none, none, none], ?_, ?_⟩
    · refine s_when (b := decide (n % 2 = 1)) (et_test (ev_eqI (ev_op (ev_var rfl) ev_c (rv_I (by decide))) ev_c)) (fun hb H3 e3 => ?_) (fun hb H3 e3 => ⟨l0, _, hl, rfl⟩)
      have z1 : 0 ≤ n / 2 % 24 := Int.emod_nonneg _ (by decide)
      have z2 : n / 2 % 24 < 24 := Int.emod_lt_of_pos _ (by decide)
      obtain ⟨z, hz⟩ : ∃ z : Nat, 1 + n / 2 % 24 = (z : Int) := ⟨(1 + n / 2 % 24).toNat, by omega⟩
      have z3 : 0 ≤ n / 48 % (z : Int) := Int.emod_nonneg _ (by omega)
      have z4 : n / 48 % (z : Int) < (z : Int) := Int.emod_lt_of_pos _ (by omega)
      have z5 : 0 ≤ n / 1200 % (z : Int) := Int.emod_nonneg _ (by omega)
      have z6 : n / 1200 % (z : Int) < (z : Int) := Int.emod_lt_of_pos _ (by omega)
      obtain ⟨u, hu⟩ : ∃ u : Nat, 1 + n / 48 % (z : Int) = (u : Int) := ⟨(1 + n / 48 % (z : Int)).toNat, by omega⟩
      obtain ⟨v, hv⟩ : ∃ v : Nat, 1 + n / 1200 % (z : Int) = (v : Int) := ⟨(1 + n / 1200 % (z : Int)).toNat, by omega⟩
      refine q_asg (v := .int (z : Int)) (ev_is (ev_op ev_c (ev_op (ev_op (ev_var rfl) ev_c (rv_I ⟨by decide, by decide⟩)) ev_c (rv_I (by decide))) rv_I0) (congrArg V.int hz)) fun H4 e4 => ?_
      refine s_asgC (ea_cons (ev_var rfl) (ea_cons (ev_is (ev_op ev_c (ev_op (ev_op (ev_var rfl) ev_c (rv_I ⟨by decide, by decide⟩)) (ev_var rfl) (rv_I (by show (0 : Int) < (z : Int); omega))) rv_I0) (congrArg V.int hu)) (ea_cons (ev_is (ev_op ev_c (ev_op (ev_op (ev_var rfl) ev_c (rv_I ⟨by decide, by decide⟩)) (ev_var rfl) (rv_I (by show (0 : Int) < (z : Int); omega))) rv_I0) (congrArg V.int hv)) ea_nil))) fun H5 e5 => ?_
      exact ⟨z, u, v, rfl, by omega, by omega, by omega, fun l hl H6 e6 => ⟨l, _, by omega, rfl⟩⟩
    · rintro σ' H' ⟨l, y, hl, rfl⟩
      refine q_asgD (ed_call (ea_cons (ev_var rfl) ea_nil) (sd_ints (by omega))) fun v4 H4 e4 h4 => ?_
      refine q_forIT (eit_tup (ed_var rfl h4)) (fun H5 i σ' H' => (∃ y5 y6 y7, σ' = [some (.ref a), some (.str (S l)), some (.int n), y, some v4, y5, y6, y7, none, none]) ∧ Ex H4 H' ∧ Ex H5 H') (fun H5 e5 => ⟨⟨_, _, _, rfl⟩, e5, Ex.refl _⟩) (fun H5 i σ' H' p => ExT.of p.2.2) ?_ ?_
      · rintro H5 i e x σ' H6 H7 e5 he ⟨⟨y5, y6, y7, rfl⟩, e6, e6'⟩ e7 hx
        obtain ⟨p0, hp0, rfl⟩ := List.mem_map.mp (List.mem_of_getElem? he)
        obtain ⟨p, rfl, hp1, hp2, hp3⟩ := (periodsV_mem l p0).mp hp0
        cases hx.int_
        have h7 := Td.ex (e6.trans e7) h4
        refine q_forIT (eit_tup (ed_var rfl h7)) (fun H5 i σ' H' => (∃ y6 y7, σ' = [some (.ref a), some (.str (S l)), some (.int n), y, some v4, some (.int (p : Int)), y6, y7, none, none]) ∧ Ex H7 H' ∧ Ex H5 H') (fun H5 e5 => ⟨⟨_, _, rfl⟩, e5, Ex.refl _⟩) (fun H5 i σ' H' p => ExT.of p.2.2) ?_ ?_
        · rintro H8 j e x σ' H9 H10 e8 he ⟨⟨y6, y7, rfl⟩, e9, e9'⟩ e10 hx
          obtain ⟨q0, hq0, rfl⟩ := List.mem_map.mp (List.mem_of_getElem? he)
          obtain ⟨r, rfl, hr1, hr2, hr3⟩ := (periodsV_mem l q0).mp hq0
          cases hx.int_
          refine q_asg (v := .int (Nat.gcd p r : Nat)) (ev_cl (ea_cons (ev_var rfl) (ea_cons (ev_var rfl) ea_nil)) sv_divisor) fun H11 e11 => ?_
          have h11 := Td.ex ((e9.trans e10).trans e11) h7
          refine s_when (b := decide ((p : Int) + (r : Int) - (Nat.gcd p r : Nat) ≤ (l.length : Int)) && !decide (((Nat.gcd p r : Nat) : Int) ∈ periodsV l)) (et_and (et_test (ev_op (ev_op (ev_op (ev_var rfl) (ev_var rfl) rv_I0) (ev_var rfl) rv_I0) (ev_lenStr (ev_var rfl) (by omega)) rv_I0)) fun _ => et_test (ev_niTI (ev_var rfl) (ed_var rfl h11))) (fun hb H12 e12 => ?_) (fun hb H12 e12 => ⟨⟨_, _, rfl⟩, ((e9.trans e10).trans e11).trans e12, ((e9'.trans e10).trans e11).trans e12⟩)
          exfalso
          rw [Bool.and_eq_true, Bool.not_eq_true', decide_eq_true_eq, decide_eq_false_iff_not] at hb
          exact hb.2 (two_periods hp0 hq0 hb.1)
        · rintro H8 σ' H9 e8 ⟨⟨y6, y7, rfl⟩, e9, e9'⟩
          have h9 := Td.ex e9 h7
          refine s_when (b := false) (et_is (et_test (ev_is (ev_neD (eq_n (en_lcI ((List.range (if p < l.length + 1 then (l.length + 1 - p - 1) / p + 1 else 0)).map fun (i : Nat) => (p : Int) + (i : Int) * (p : Int)) (fun _ => false) .int (by rw [List.map_map]; exact ei_step (a := p) (b := l.length + 1) (c := p) (ea_cons (ev_var rfl) (ea_cons (ev_is (ev_op (ev_lenStr (ev_var rfl) (by omega)) ev_c rv_I0) (congrArg V.int (by omega))) (ea_cons (ev_var rfl) ea_nil))) (by omega) (by omega) (by omega) (by omega) rfl) ?_ fun m hm H10 e10 => ?_)) (eq_n (en_lst ead_nil (by decide))) (shaped_intsL _) shaped_nil) (congrArg V.bl (by rw [eqv_nil])))) (by simp)) (fun hb => by cases hb) (fun hb H12 e12 => ⟨⟨_, _, _, rfl⟩, ((e6.trans e7).trans e9).trans e12, ((e6'.trans e7).trans e9).trans e12⟩)
          · rw [List.length_map, List.length_range]
            split
            · have := Nat.div_le_self (l.length + 1 - p - 1) p
              omega
            · omega
          · obtain ⟨k, hk, rfl⟩ := List.mem_map.mp hm
            have hk := List.mem_range.mp hk
            rw [if_pos (by omega)] at hk
            have hk2 : k ≤ (l.length - p) / p := by
              have e0 : l.length + 1 - p - 1 = l.length - p := by omega
              rw [e0] at hk
              omega
            have hk3 : k * p ≤ l.length - p := Nat.le_trans (Nat.mul_le_mul_right p hk2) (Nat.div_mul_le_self _ _)
            have hin := more_periods hp0 (i := k) (by omega)
            refine ⟨et_is (et_test (ev_niTI (ev_var rfl) (ed_var rfl (Td.ex e10 h9)))) (by rw [decide_eq_true hin]; rfl), fun z => by cases z⟩
      · rintro H5 σ' H6 e5 ⟨⟨y5, y6, y7, rfl⟩, e6, e6'⟩
        refine q_asg (v := .str (S (l ++ l))) (ev_addS (ev_var rfl) (ev_var rfl) (by omega)) fun H7 e7 => ?_
        refine s_ret (v := .bl true) (ev_is (ev_orV (ev_eqS (b := []) (ev_var rfl) (ev_is ev_c rfl)) fun hz => ev_orV (ev_op (ev_lenStr (ev_var rfl) (by rw [List.length_append]; omega)) ev_c rv_I0) fun hz2 => ev_inTI (ns := periodsV (l ++ l)) (ev_lenStr (ev_var rfl) (by omega)) (ed_call (ea_cons (ev_var rfl) ea_nil) (sd_ints (by rw [List.length_append]; omega)))) (congrArg V.bl ?_)) fun H8 _ => q H8
        by_cases hz : l = []
        · simp [hz]
        · rw [decide_eq_true (twice_period hz)]
          simp
end

end TY
namespace TY
open PySem PySem.Spec PyProof.Rows L2 Evl
theorem all_mk {l : PySem.W.OpenLaw} {w : World} {K : PySem.W.Frag} {h : Heap} {mg : Str → Option Value} {fa f1 f2 f3 f4 f5 f6 f7 f8 : Addr} (X : K.In h) (G : h.Ns mainGlobals mg) (hfa : mg "law" = some (.ref fa))
    {od1 an1 od2 an2 od3 an3 od4 an4 od5 an5 od6 an6 od7 an7 od8 an8 : Option Addr} {sl1 sl2 sl3 sl4 sl5 sl6 sl7 sl8 : Array (Option Value)} {oc1 kV1 dc1 pm1 cd1 ct1 oc2 kV2 dc2 pm2 cd2 ct2 oc3 kV3 dc3 pm3 cd3 ct3 oc4 kV4 dc4 pm4 cd4 ct4 oc5 kV5 dc5 pm5 cd5 ct5 oc6 kV6 dc6 pm6 cd6 ct6 oc7 kV7 dc7 pm7 cd7 ct7 oc8 kV8 dc8 pm8 cd8 ct8 : Value}
    (a1 : PySem.W.nsIn K mainGlobals "_law_cell_at" = some (some (.ref f1))) (l1 : K.lookup f1 = some ⟨oc1, od1, .func (PySem.W.fnOf "_law_cell_at" "_law_cell_at" (defArgs s__law_cell_at) (defBody s__law_cell_at) (defScope s__law_cell_at) .none kV1 dc1 pm1 an1 cd1 ct1), sl1⟩) (c1 : PySem.W.codeIn K cd1 "_law_cell_at" = true) (k1 : PySem.W.keepIn K (.ref f1) = true)
    (a2 : PySem.W.nsIn K mainGlobals "_law_mixed" = some (some (.ref f2))) (l2 : K.lookup f2 = some ⟨oc2, od2, .func (PySem.W.fnOf "_law_mixed" "_law_mixed" (defArgs s__law_mixed) (defBody s__law_mixed) (defScope s__law_mixed) .none kV2 dc2 pm2 an2 cd2 ct2), sl2⟩) (c2 : PySem.W.codeIn K cd2 "_law_mixed" = true) (k2 : PySem.W.keepIn K (.ref f2) = true)
    (a3 : PySem.W.nsIn K mainGlobals "_law_drawn" = some (some (.ref f3))) (l3 : K.lookup f3 = some ⟨oc3, od3, .func (PySem.W.fnOf "_law_drawn" "_law_drawn" (defArgs s__law_drawn) (defBody s__law_drawn) (defScope s__law_drawn) .none kV3 dc3 pm3 an3 cd3 ct3), sl3⟩) (c3 : PySem.W.codeIn K cd3 "_law_drawn" = true) (k3 : PySem.W.keepIn K (.ref f3) = true)
    (a4 : PySem.W.nsIn K mainGlobals "_law_text" = some (some (.ref f4))) (l4 : K.lookup f4 = some ⟨oc4, od4, .func (PySem.W.fnOf "_law_text" "_law_text" (defArgs s__law_text) (defBody s__law_text) (defScope s__law_text) .none kV4 dc4 pm4 an4 cd4 ct4), sl4⟩) (c4 : PySem.W.codeIn K cd4 "_law_text" = true) (k4 : PySem.W.keepIn K (.ref f4) = true)
    (a5 : PySem.W.nsIn K mainGlobals "periods" = some (some (.ref f5))) (l5 : K.lookup f5 = some ⟨oc5, od5, .func (PySem.W.fnOf "periods" "periods" (defArgs s_periods) (defBody s_periods) (defScope s_periods) .none kV5 dc5 pm5 an5 cd5 ct5), sl5⟩) (c5 : PySem.W.codeIn K cd5 "periods" = true) (k5 : PySem.W.keepIn K (.ref f5) = true)
    (a6 : PySem.W.nsIn K mainGlobals "_law_divisor" = some (some (.ref f6))) (l6 : K.lookup f6 = some ⟨oc6, od6, .func (PySem.W.fnOf "_law_divisor" "_law_divisor" (defArgs s__law_divisor) (defBody s__law_divisor) (defScope s__law_divisor) .none kV6 dc6 pm6 an6 cd6 ct6), sl6⟩) (c6 : PySem.W.codeIn K cd6 "_law_divisor" = true) (k6 : PySem.W.keepIn K (.ref f6) = true)
    (a7 : PySem.W.nsIn K mainGlobals "_law_made" = some (some (.ref f7))) (l7 : K.lookup f7 = some ⟨oc7, od7, .func (PySem.W.fnOf "_law_made" "_law_made" (defArgs s__law_made) (defBody s__law_made) (defScope s__law_made) .none kV7 dc7 pm7 an7 cd7 ct7), sl7⟩) (c7 : PySem.W.codeIn K cd7 "_law_made" = true) (k7 : PySem.W.keepIn K (.ref f7) = true)
    (a8 : PySem.W.nsIn K mainGlobals "law" = some (some (.ref f8))) (l8 : K.lookup f8 = some ⟨oc8, od8, .func (PySem.W.fnOf "law" "law" (defArgs s_law) (defBody s_law) (defScope s_law) .none kV8 dc8 pm8 an8 cd8 ct8), sl8⟩) (c8 : PySem.W.codeIn K cd8 "law" = true) (k8 : PySem.W.keepIn K (.ref f8) = true)
    (z_len : PySem.W.nsIn K mainGlobals "len" = some none)    (z_range : PySem.W.nsIn K mainGlobals "range" = some none)    (z_tuple : PySem.W.nsIn K mainGlobals "tuple" = some none)    (z_list : PySem.W.nsIn K mainGlobals "list" = some none)    (z_isinstance : PySem.W.nsIn K mainGlobals "isinstance" = some none)    (z_sorted : PySem.W.nsIn K mainGlobals "sorted" = some none)    (z_int : PySem.W.nsIn K mainGlobals "int" = some none)    (z_str : PySem.W.nsIn K mainGlobals "str" = some none)    (z_bool : PySem.W.nsIn K mainGlobals "bool" = some none)    (z_max : PySem.W.nsIn K mainGlobals "max" = some none)    (z_min : PySem.W.nsIn K mainGlobals "min" = some none)    (z_sum : PySem.W.nsIn K mainGlobals "sum" = some none)    (z_all : PySem.W.nsIn K mainGlobals "all" = some none)    (z_zip : PySem.W.nsIn K mainGlobals "zip" = some none)    (z_enumerate : PySem.W.nsIn K mainGlobals "enumerate" = some none)
    : ∃ fd : FuncData, (∀ (s : Shared) (v : Value), BindsTo s fd ⟨[v], []⟩ [("_law_script", v)]) ∧ ∀ base : Heap, K.In base → base.Ns mainGlobals mg → FnOk l.prog w K mg base CX0 3 fa fd ["_law_script"] (spLaw K) := by
  have e := hfa.symm.trans (PySem.W.mg_of X G a8)
  cases e
  have T_ : Nm mg := ⟨PySem.W.mg_none_of X G z_len, PySem.W.mg_none_of X G z_range, PySem.W.mg_none_of X G z_tuple, PySem.W.mg_none_of X G z_list, PySem.W.mg_none_of X G z_isinstance, PySem.W.mg_none_of X G z_sorted, PySem.W.mg_none_of X G z_int, PySem.W.mg_none_of X G z_str, PySem.W.mg_none_of X G z_bool, PySem.W.mg_none_of X G z_max, PySem.W.mg_none_of X G z_min, PySem.W.mg_none_of X G z_sum, PySem.W.mg_none_of X G z_all, PySem.W.mg_none_of X G z_zip, PySem.W.mg_none_of X G z_enumerate⟩
  refine ⟨PySem.W.fnOf "law" "law" (defArgs s_law) (defBody s_law) (defScope s_law) .none kV8 dc8 pm8 an8 cd8 ct8, fun s v => .of_eq rfl, fun base _ _ => ?_⟩
  have F1 := fun_mk (st := s__law_cell_at) l1 c1 k1
  have c__law_cell_at : Cl l.prog w K mg base 1 "_law_cell_at" (spCell K) := ⟨f1, _, _, ok__law_cell_at F1 T_, PySem.W.mg_of X G a1, F1.kp, F1.binds (ps := ["_law_script", "_law_k"]) fun _ _ _ _ _ _ us hl => match us, hl with | [_, _], _ => rfl⟩
  have F2 := fun_mk (st := s__law_mixed) l2 c2 k2
  have c__law_mixed : Cl l.prog w K mg base 2 "_law_mixed" (spMixed K) := ⟨f2, _, _, ok__law_mixed F2 T_ c__law_cell_at, PySem.W.mg_of X G a2, F2.kp, F2.binds (ps := ["_law_script", "_law_k"]) fun _ _ _ _ _ _ us hl => match us, hl with | [_, _], _ => rfl⟩
  have F3 := fun_mk (st := s__law_drawn) l3 c3 k3
  have c__law_drawn : Cl l.prog w K mg base 1 "_law_drawn" spDrawn := ⟨f3, _, _, ok__law_drawn F3 T_, PySem.W.mg_of X G a3, F3.kp, F3.binds (ps := ["_law_number", "_law_k"]) fun _ _ _ _ _ _ us hl => match us, hl with | [_, _], _ => rfl⟩
  have F4 := fun_mk (st := s__law_text) l4 c4 k4
  have c__law_text : Cl l.prog w K mg base 2 "_law_text" spText := ⟨f4, _, _, ok__law_text F4 T_ c__law_drawn, PySem.W.mg_of X G a4, F4.kp, F4.binds (ps := ["_law_number", "_law_most"]) fun _ _ _ _ _ _ us hl => match us, hl with | [_, _], _ => rfl⟩
  have F5 := fun_mk (st := s_periods) l5 c5 k5
  have c_periods : Cl l.prog w K mg base 1 "periods" (spInts periodsV) := ⟨f5, _, _, ok_periods F5 T_, PySem.W.mg_of X G a5, F5.kp, F5.binds (ps := ["text"]) fun _ _ _ _ _ _ us hl => match us, hl with | [_], _ => rfl⟩
  have F6 := fun_mk (st := s__law_divisor) l6 c6 k6
  have c__law_divisor : Cl l.prog w K mg base 1 "_law_divisor" spDivisor := ⟨f6, _, _, ok__law_divisor F6 T_, PySem.W.mg_of X G a6, F6.kp, F6.binds (ps := ["_law_one", "_law_other"]) fun _ _ _ _ _ _ us hl => match us, hl with | [_, _], _ => rfl⟩
  have F7 := fun_mk (st := s__law_made) l7 c7 k7
  have c__law_made : Cl l.prog w K mg base 1 "_law_made" spMade := ⟨f7, _, _, ok__law_made F7 T_, PySem.W.mg_of X G a7, F7.kp, F7.binds (ps := ["_law_size", "_law_one", "_law_other"]) fun _ _ _ _ _ _ us hl => match us, hl with | [_, _, _], _ => rfl⟩
  have F8 := fun_mk (st := s_law) l8 c8 k8
  exact ok_law F8 T_ c__law_mixed c__law_text c_periods c__law_divisor c__law_made
end TY
open PySem PySem.W PyProof.Rows
set_option maxHeartbeats 0 in
theorem PySem.Challenge.cw_tailyard_k51_whole_two_periods_holds : PySem.Challenge.rw_tailyard_k51_whole_two_periods.Holds := by
  w_on; o_law; k_head; (case hw => w_witness2)
  k_fill
  refine L2.walk_of (l := PySem.Challenge.rw_tailyard_k51_whole_two_periods) (n := 63) (k := 3) (x := "_law_script") (CX := fun _ => L2.CX0) (sp := fun w => TY.spLaw _) rfl (by decide) rfl ⟨rfl, by decide, by decide⟩ (fun w h Y => PySem.W.kIn_of Y) ?F (fun _ _ a ns hl _ hS => ⟨a, ns, rfl, hS, hl, fun _ => rfl⟩) (fun _ _ _ _ _ h => h)
  case F =>
    intro w mg fa h KX G hmg
    refine' TY.all_mk KX G hmg ?a1 ?l1 ?c1 ?k1 ?a2 ?l2 ?c2 ?k2 ?a3 ?l3 ?c3 ?k3 ?a4 ?l4 ?c4 ?k4 ?a5 ?l5 ?c5 ?k5 ?a6 ?l6 ?c6 ?k6 ?a7 ?l7 ?c7 ?k7 ?a8 ?l8 ?c8 ?k8 ?z_len ?z_range ?z_tuple ?z_list ?z_isinstance ?z_sorted ?z_int ?z_str ?z_bool ?z_max ?z_min ?z_sum ?z_all ?z_zip ?z_enumerate
    (case a1 => k_is)
    (case l1 => k_is)
    (case c1 => k_is)
    (case k1 => k_is)
    (case a2 => k_is)
    (case l2 => k_is)
    (case c2 => k_is)
    (case k2 => k_is)
    (case a3 => k_is)
    (case l3 => k_is)
    (case c3 => k_is)
    (case k3 => k_is)
    (case a4 => k_is)
    (case l4 => k_is)
    (case c4 => k_is)
    (case k4 => k_is)
    (case a5 => k_is)
    (case l5 => k_is)
    (case c5 => k_is)
    (case k5 => k_is)
    (case a6 => k_is)
    (case l6 => k_is)
    (case c6 => k_is)
    (case k6 => k_is)
    (case a7 => k_is)
    (case l7 => k_is)
    (case c7 => k_is)
    (case k7 => k_is)
    (case a8 => k_is)
    (case l8 => k_is)
    (case c8 => k_is)
    (case k8 => k_is)
    (case z_len => k_is)
    (case z_range => k_is)
    (case z_tuple => k_is)
    (case z_list => k_is)
    (case z_isinstance => k_is)
    (case z_sorted => k_is)
    (case z_int => k_is)
    (case z_str => k_is)
    (case z_bool => k_is)
    (case z_max => k_is)
    (case z_min => k_is)
    (case z_sum => k_is)
    (case z_all => k_is)
    (case z_zip => k_is)
    (case z_enumerate => k_is)
#print axioms PySem.Challenge.cw_tailyard_k51_whole_two_periods_holds
