import PyProof.Rows.All
import Wide.All
import OpenK.AllK
import Wide.FinOn
import HandS.ForMost
import HandS.Evl
import HandS.Walk
import HandS.Conv
import HandS.TupAny
import HandS.IsInst
import PyProof.CollectStr
import KE.KDictList
import KE.SortKeyHeap
import KE.SortLaws
import HandS.SortKw
import HandS.More
import HandS.Iter
import HandS.WordsDict
import KE.DataMinMax
import HandS.Lambda
import HandS.Nested
import HandS.NestedK
import HandS.EndTab
import HandS.EndOwn
import HandS.Deep
import HandS.Zip
import KE.GoesEnum
import KE.KDictDisplayH
import HandS.SetKeys
import HandS.TupLen
import HandS.Exc
import HandS.ExcOwn
import HandS.ExcIs
import HandS.WordsExc
import HandS.TupMul
import PySem.Challenge.RW_tailyard_k43_whole_text_of
set_option Elab.async false
set_option linter.all false
set_option maxRecDepth 100000
set_option maxHeartbeats 4000000
namespace TY
open PySem PySem.Spec PyProof.Rows L2 Evl

/-! ### texts by their signs -/
def S (l : List Nat) : Str := ⟨l.toArray⟩
theorem S_cps (l : List Nat) : (S l).cps.toList = l := rfl
theorem S_len (l : List Nat) : (S l).length = l.length := by
  show l.toArray.size = l.length
  exact List.size_toArray
theorem S_inj {a b : List Nat} (h : S a = S b) : a = b := congrArg (fun x : Str => x.cps.toList) h
theorem S_eq (x : Str) : x = S x.cps.toList := rfl
theorem S_app (a b : List Nat) : S a ++ S b = S (a ++ b) := by
  show (⟨a.toArray ++ b.toArray⟩ : Str) = ⟨(a ++ b).toArray⟩
  rw [List.append_toArray]
theorem S_dec (a b : List Nat) : decide (V.str (S a) = V.str (S b)) = decide (a = b) := by
  by_cases h : a = b
  · subst h
    simp
  · rw [decide_eq_false h, decide_eq_false]
    intro q
    exact h (S_inj (V.str.inj q))
theorem S_cut (l : List Nat) (lo hi : Option Int) : cutS (S l) lo hi = S ((l.drop (HT.sIx l.length 0 lo)).take (HT.sIx l.length l.length hi - HT.sIx l.length 0 lo)) := by
  unfold cutS
  rw [S_cps, S_len]
  rfl
theorem S_from (l : List Nat) (k : Nat) : cutS (S l) (some (k : Int)) none = S (l.drop k) := by
  rw [S_cut, HT.sIx_nat, HT.sIx_none]
  congr 1
  by_cases h : k ≤ l.length
  · rw [Nat.min_eq_left h]
    exact List.take_of_length_le (by rw [List.length_drop]; omega)
  · rw [Nat.min_eq_right (by omega), List.drop_of_length_le (Nat.le_refl _), List.drop_of_length_le (by omega), List.take_nil]
theorem S_to (l : List Nat) (k : Nat) : cutS (S l) none (some (k : Int)) = S (l.take k) := by
  rw [S_cut, HT.sIx_nat, HT.sIx_none, List.drop_zero, Nat.sub_zero]
  congr 1
  by_cases h : k ≤ l.length
  · rw [Nat.min_eq_left h]
  · rw [Nat.min_eq_right (by omega), List.take_of_length_le (Nat.le_refl _), List.take_of_length_le (by omega)]
theorem S_mid (l : List Nat) (i j : Nat) : cutS (S l) (some (i : Int)) (some (j : Int)) = S ((l.drop i).take (j - i)) := by
  rw [S_cut, HT.sIx_nat, HT.sIx_nat]
  congr 1
  by_cases h : i ≤ l.length
  · rw [Nat.min_eq_left h]
    by_cases h2 : j ≤ l.length
    · rw [Nat.min_eq_left h2]
    · rw [Nat.min_eq_right (by omega), List.take_of_length_le (by rw [List.length_drop]; omega), List.take_of_length_le (by rw [List.length_drop]; omega)]
  · rw [Nat.min_eq_right (a := i) (by omega), List.drop_of_length_le (Nat.le_refl _), List.drop_of_length_le (by omega), List.take_nil, List.take_nil]

/-! ### data made of tuples alone: no store ends it -/
def ExT (H H' : Hp) : Prop := ∀ a xs, H a = some (.tup xs) → H' a = some (.tup xs)
theorem ExT.of {H H' : Hp} (e : Ex H H') : ExT H H' := fun a xs h => e a _ h
theorem ExT.trans {H H1 H2 : Hp} (a : ExT H H1) (b : ExT H1 H2) : ExT H H2 := fun c xs h => b c xs (a c xs h)
theorem ExT.upd {H : Hp} {p : Addr} {o u : HO} (h : H p = some o) (hn : ∀ xs, o ≠ .tup xs) : ExT H (upd H p u) := fun a xs q => by
  have hne : a ≠ p := ne_of q h (fun e => hn xs e.symm)
  rw [upd_ne hne]
  exact q
theorem ExT.updL {H : Hp} {p : Addr} {xs : List V} {u : HO} (h : H p = some (.lst xs)) : ExT H (L2.upd H p u) := ExT.upd h (fun _ e => by cases e)
mutual
inductive Td (H : Hp) : V → PyData → Prop
  | non : Td H .non .none
  | bl (b : Bool) : Td H (.bl b) (.bool b)
  | int (i : Int) : Td H (.int i) (.int i)
  | str (x : Str) : Td H (.str x) (.str x)
  | tup {a : Addr} {xs : List V} {ds : List PyData} : H a = some (.tup xs) → TdAll H xs ds → Td H (.ref a) (.tuple ds)
inductive TdAll (H : Hp) : List V → List PyData → Prop
  | nil : TdAll H [] []
  | cons {v : V} {vs : List V} {d : PyData} {ds : List PyData} : Td H v d → TdAll H vs ds → TdAll H (v :: vs) (d :: ds)
end
mutual
theorem Td.ext {H H' : Hp} (e : ExT H H') : ∀ {v : V} {d : PyData}, Td H v d → Td H' v d
  | _, _, .non => .non
  | _, _, .bl b => .bl b
  | _, _, .int i => .int i
  | _, _, .str x => .str x
  | _, _, .tup h hs => .tup (e _ _ h) (TdAll.ext e hs)
theorem TdAll.ext {H H' : Hp} (e : ExT H H') : ∀ {vs : List V} {ds : List PyData}, TdAll H vs ds → TdAll H' vs ds
  | _, _, .nil => .nil
  | _, _, .cons h hs => .cons (Td.ext e h) (TdAll.ext e hs)
end
mutual
theorem Td.dp {K : PySem.W.Frag} {H : Hp} : ∀ {v : V} {d : PyData}, Td H v d → Dp K H v d
  | _, _, .non => .non
  | _, _, .bl b => .bl b
  | _, _, .int i => .int i
  | _, _, .str x => .str x
  | _, _, .tup h hs => .tup (st_of h) (TdAll.dp hs)
theorem TdAll.dp {K : PySem.W.Frag} {H : Hp} : ∀ {vs : List V} {ds : List PyData}, TdAll H vs ds → DpAll K H vs ds
  | _, _, .nil => .nil
  | _, _, .cons h hs => .cons (Td.dp h) (TdAll.dp hs)
end
mutual
theorem Dp.ext {K : PySem.W.Frag} {H H' : Hp} (e : Ex H H') : ∀ {v : V} {d : PyData}, Dp K H v d → Dp K H' v d
  | _, _, .non => .non
  | _, _, .bl b => .bl b
  | _, _, .int i => .int i
  | _, _, .str x => .str x
  | _, _, .lst h hs => .lst (ex_l e h) (DpAll.ext e hs)
  | _, _, .tup h hs => .tup (ex_t e h) (DpAll.ext e hs)
theorem DpAll.ext {K : PySem.W.Frag} {H H' : Hp} (e : Ex H H') : ∀ {vs : List V} {ds : List PyData}, DpAll K H vs ds → DpAll K H' vs ds
  | _, _, .nil => .nil
  | _, _, .cons h hs => .cons (Dp.ext e h) (DpAll.ext e hs)
end
section
variable {H H' : Hp} {v : V} {vs ws : List V} {ds es : List PyData} {d : PyData}
theorem Td.ex (e : Ex H H') (h : Td H v d) : Td H' v d := Td.ext (ExT.of e) h
theorem TdAll.ex (e : Ex H H') (h : TdAll H vs ds) : TdAll H' vs ds := TdAll.ext (ExT.of e) h
theorem Td.int_ {i : Int} (h : Td H v (.int i)) : v = .int i := by cases h; rfl
theorem Td.str_ {x : Str} (h : Td H v (.str x)) : v = .str x := by cases h; rfl
theorem Td.bl_ {b : Bool} (h : Td H v (.bool b)) : v = .bl b := by cases h; rfl
theorem Td.non_ (h : Td H v .none) : v = .non := by cases h; rfl
theorem Td.tup_ (h : Td H v (.tuple ds)) : ∃ a xs, v = .ref a ∧ H a = some (.tup xs) ∧ TdAll H xs ds := by
  cases h with
  | tup h hs => exact ⟨_, _, rfl, h, hs⟩
theorem TdAll.len : ∀ {vs : List V} {ds : List PyData}, TdAll H vs ds → vs.length = ds.length
  | _, _, .nil => rfl
  | _, _, .cons _ hs => congrArg (· + 1) (TdAll.len hs)
theorem TdAll.append : ∀ {vs ws : List V} {ds es : List PyData}, TdAll H vs ds → TdAll H ws es → TdAll H (vs ++ ws) (ds ++ es)
  | _, _, _, _, .nil, h2 => h2
  | _, _, _, _, .cons h hs, h2 => .cons h (TdAll.append hs h2)
theorem TdAll.one (h : Td H v d) : TdAll H [v] [d] := .cons h .nil
theorem TdAll.get : ∀ {vs : List V} {ds : List PyData} {i : Nat} {x : V}, TdAll H vs ds → vs[i]? = some x → ∃ d, ds[i]? = some d ∧ Td H x d
  | _, _, i, x, .nil, h => by simp at h
  | _, _, 0, x, .cons h hs, e => by
    simp at e
    subst e
    exact ⟨_, rfl, h⟩
  | _, _, i + 1, x, .cons h hs, e => by
    simp only [List.getElem?_cons_succ] at e
    obtain ⟨d, h1, h2⟩ := TdAll.get hs e
    exact ⟨d, by simpa using h1, h2⟩
theorem TdAll.get' {vs : List V} {ds : List PyData} {i : Nat} {d : PyData} (h : TdAll H vs ds) (e : ds[i]? = some d) : ∃ x, vs[i]? = some x ∧ Td H x d := by
  have hl := h.len
  have hi : i < vs.length := by
    have := (List.getElem?_eq_some_iff.mp e).1
    omega
  obtain ⟨d', h1, h2⟩ := h.get (List.getElem?_eq_getElem hi)
  rw [e] at h1
  cases h1
  exact ⟨_, List.getElem?_eq_getElem hi, h2⟩
theorem TdAll.take : ∀ {vs : List V} {ds : List PyData} (n : Nat), TdAll H vs ds → TdAll H (vs.take n) (ds.take n)
  | _, _, 0, _ => .nil
  | _, _, n + 1, .nil => .nil
  | _, _, n + 1, .cons h hs => .cons h (TdAll.take n hs)
theorem TdAll.drop : ∀ {vs : List V} {ds : List PyData} (n : Nat), TdAll H vs ds → TdAll H (vs.drop n) (ds.drop n)
  | _, _, 0, h => h
  | _, _, n + 1, .nil => .nil
  | _, _, n + 1, .cons h hs => TdAll.drop n hs
theorem TdAll.ints : ∀ {vs : List V} {ns : List Int}, TdAll H vs (ns.map .int) → vs = ns.map V.int
  | _, [], h => by
    cases h
    rfl
  | _, n :: ns, h => by
    cases h with
    | cons h hs =>
      rw [Td.int_ h, TdAll.ints hs]
      rfl
theorem TdAll.of_ints : ∀ (ns : List Int), TdAll H (ns.map V.int) (ns.map .int)
  | [] => .nil
  | n :: ns => .cons (.int n) (TdAll.of_ints ns)
theorem TdAll.strs : ∀ {vs : List V} {ns : List Str}, TdAll H vs (ns.map .str) → vs = ns.map V.str
  | _, [], h => by
    cases h
    rfl
  | _, n :: ns, h => by
    cases h with
    | cons h hs =>
      rw [Td.str_ h, TdAll.strs hs]
      rfl
theorem TdAll.of_strs : ∀ (ns : List Str), TdAll H (ns.map V.str) (ns.map .str)
  | [] => .nil
  | n :: ns => .cons (.str n) (TdAll.of_strs ns)
theorem TdAll.bls : ∀ {vs : List V} {ns : List Bool}, TdAll H vs (ns.map .bool) → vs = ns.map V.bl
  | _, [], h => by
    cases h
    rfl
  | _, n :: ns, h => by
    cases h with
    | cons h hs =>
      rw [Td.bl_ h, TdAll.bls hs]
      rfl
end

/-! ### what evaluates to data -/
def EvD (te : TE) (σ : L2.St) (H : Hp) (d : PyData) : Prop := ∀ H1, Ex H H1 → ∀ Q : VK, (∀ v H2, Ex H1 H2 → Td H2 v d → Q v H2) → te σ H1 Q
/-- a new list of such -/
def EvN (te : TE) (σ : L2.St) (H : Hp) (ds : List PyData) : Prop := ∀ H1, Ex H H1 → ∀ Q : VK, (∀ p xs H2, H1 p = none → Ex H1 H2 → H2 p = some (.lst xs) → TdAll H2 xs ds → Q (.ref p) H2) → te σ H1 Q
def EvAD (ta : TA) (σ : L2.St) (H : Hp) (ds : List PyData) : Prop := ∀ H1, Ex H H1 → ∀ Q : List V → Hp → Prop, (∀ vs H2, Ex H1 H2 → TdAll H2 vs ds → Q vs H2) → ta σ H1 Q
/-- data that may be read, lists too -/
def EvQ (K : PySem.W.Frag) (te : TE) (σ : L2.St) (H : Hp) (d : PyData) : Prop := ∀ H1, Ex H H1 → ∀ Q : VK, (∀ v H2, Ex H1 H2 → Dp K H2 v d → Q v H2) → te σ H1 Q
/-- what a for or a comprehension walks: its items -/
def EvI (wi : TI) (σ : L2.St) (H : Hp) (es : List PyData) : Prop := ∀ H1, Ex H H1 → ∀ R : It → Hp → Prop,
  (∀ (J : It) (G : Hp → Prop) H2, Ex H1 H2 → (∀ H3, Ex H2 H3 → G H3) → Walk J es.length G (fun i H x H' => Ex H H' ∧ ∃ e, es[i]? = some e ∧ Td H' x e) → R J H2) → wi σ H1 R
/-- .. that no store ends -/
def EvIT (wi : TI) (σ : L2.St) (H : Hp) (es : List PyData) : Prop := ∀ H1, Ex H H1 → ∀ R : It → Hp → Prop,
  (∀ (J : It) (G : Hp → Prop) H2, Ex H1 H2 → (∀ H3, ExT H2 H3 → G H3) → Walk J es.length G (fun i H x H' => Ex H H' ∧ ∃ e, es[i]? = some e ∧ Td H' x e) → R J H2) → wi σ H1 R
theorem EvIT.i {wi : TI} {σ : L2.St} {H : Hp} {es : List PyData} (h : EvIT wi σ H es) : EvI wi σ H es := fun H1 e R q => h H1 e R fun J G H2 e2 hG hW => q J G H2 e2 (fun H3 e3 => hG H3 (ExT.of e3)) hW
section
variable {K : PySem.W.Frag} {σ : L2.St} {H H' : Hp} {ta tb te tx : TE} {tA tB : TA} {t u : TT} {x y z v : V} {d : PyData} {ds es : List PyData}
theorem EvD.mono (e : Ex H H') (h : EvD te σ H d) : EvD te σ H' d := fun H1 a Q q => h H1 (e.trans a) Q q
theorem EvN.mono (e : Ex H H') (h : EvN te σ H ds) : EvN te σ H' ds := fun H1 a Q q => h H1 (e.trans a) Q q
theorem EvI.mono {wi : TI} (e : Ex H H') (h : EvI wi σ H ds) : EvI wi σ H' ds := fun H1 a Q q => h H1 (e.trans a) Q q
theorem ed_of (h : Ev te σ H v) (hd : Td H v d) : EvD te σ H d := fun H1 e Q q => h H1 e Q fun H2 e2 => q v H2 e2 (Td.ex (e.trans e2) hd)
theorem ed_int {i : Int} (h : Ev te σ H (.int i)) : EvD te σ H (.int i) := ed_of h (.int i)
theorem ed_str {x : Str} (h : Ev te σ H (.str x)) : EvD te σ H (.str x) := ed_of h (.str x)
theorem ed_bl {b : Bool} (h : Ev te σ H (.bl b)) : EvD te σ H (.bool b) := ed_of h (.bl b)
theorem ed_var {i : Nat} (h : σ[i]? = some (some v)) (hd : Td H v d) : EvD (tVar i) σ H d := ed_of (ev_var h) hd
theorem EvD.int {i : Int} (h : EvD te σ H (.int i)) : Ev te σ H (.int i) := fun H1 e Q q => h H1 e Q fun v H2 e2 hd => by
  rw [Td.int_ hd]
  exact q H2 e2
theorem EvD.str {x : Str} (h : EvD te σ H (.str x)) : Ev te σ H (.str x) := fun H1 e Q q => h H1 e Q fun v H2 e2 hd => by
  rw [Td.str_ hd]
  exact q H2 e2
theorem EvD.bl {b : Bool} (h : EvD te σ H (.bool b)) : Ev te σ H (.bl b) := fun H1 e Q q => h H1 e Q fun v H2 e2 hd => by
  rw [Td.bl_ hd]
  exact q H2 e2
theorem eq_d (h : EvD te σ H d) : EvQ K te σ H d := fun H1 e Q q => h H1 e Q fun v H2 e2 hd => q v H2 e2 hd.dp
theorem eq_n (h : EvN te σ H ds) : EvQ K te σ H (.list ds) := fun H1 e Q q => h H1 e Q fun p xs H2 hp e2 h2 hd => q _ H2 e2 (.lst (sq_of h2) hd.dp)
theorem ead_nil : EvAD tNil σ H [] := fun H1 e Q q => q [] H1 (Ex.refl H1) .nil
theorem ead_cons (h : EvD te σ H d) (hs : EvAD tA σ H ds) : EvAD (tCons te tA) σ H (d :: ds) := fun H1 e Q q =>
  h H1 e _ fun v H2 e2 hv => hs H2 (e.trans e2) _ fun vs H3 e3 hvs => q (v :: vs) H3 (e2.trans e3) (.cons (Td.ex e3 hv) hvs)
theorem ed_tup (h : EvAD tA σ H ds) (hz : ds.length ≤ 100000) : EvD (tTup tA) σ H (.tuple ds) := fun H1 e Q q =>
  h H1 e _ fun vs H2 e2 hvs => ⟨sz_of (by rw [hvs.len]; exact hz), fun p hp => q _ _ (e2.trans (Ex.new hp)) (.tup upd_same (TdAll.ex (Ex.new hp) hvs))⟩
theorem en_lst (h : EvAD tA σ H ds) (hz : ds.length ≤ 100000) : EvN (tLst tA) σ H ds := fun H1 e Q q =>
  h H1 e _ fun vs H2 e2 hvs => ⟨sz_of (by rw [hvs.len]; exact hz), fun p hp => q p vs _ (fresh_back e2 hp) (e2.trans (Ex.new hp)) upd_same (TdAll.ex (Ex.new hp) hvs)⟩
/-- tuple(a new list) -/
theorem ed_tupOf (h : EvN te σ H ds) : EvD (tThen te (kTup K)) σ H (.tuple ds) := fun H1 e Q q =>
  h H1 e _ fun p xs H2 hp e2 h2 hd => .inl ⟨p, xs, rfl, sq_of h2, fun r hr => q _ _ (e2.trans (Ex.new hr)) (.tup upd_same (TdAll.ex (Ex.new hr) hd))⟩
/-- list(a tuple) -/
theorem en_listOf (h : EvD te σ H (.tuple ds)) : EvN (tCB (rListS K) (tCons te tNil)) σ H ds := fun H1 e Q q =>
  h H1 e _ fun v H2 e2 hd => by
    obtain ⟨a, xs, rfl, h1, h2⟩ := hd.tup_
    exact ⟨a, xs, rfl, .inr (st_of h1), fun l hl => q l xs _ (fresh_back e2 hl) (e2.trans (Ex.new hl)) upd_same (TdAll.ex (Ex.new hl) h2)⟩
theorem ev_lenT (h : EvD te σ H (.tuple ds)) : Ev (tCB (rLenS K) (tCons te tNil)) σ H (.int (ds.length : Int)) := fun H1 e Q q =>
  h H1 e _ fun v H2 e2 hd => by
    obtain ⟨a, xs, rfl, h1, h2⟩ := hd.tup_
    refine ⟨a, xs, rfl, .inr (st_of h1), ?_⟩
    rw [h2.len]
    exact q H2 e2
theorem ev_lenD (h : EvN te σ H ds) : Ev (tCB (rLenS K) (tCons te tNil)) σ H (.int (ds.length : Int)) := fun H1 e Q q =>
  h H1 e _ fun p xs H2 hp e2 h2 hd => by
    refine ⟨p, xs, rfl, .inl (sq_of h2), ?_⟩
    rw [hd.len]
    exact q H2 e2
/-- an item of a tuple -/
theorem ed_ixT {j : Nat} (h : EvD ta σ H (.tuple ds)) (hi : Ev tb σ H (.int (j : Int))) (hj : ds[j]? = some d) : EvD (tOp (rIxT K) ta tb) σ H d := fun H1 e Q q =>
  h H1 e _ fun v H2 e2 hd => hi H2 (e.trans e2) _ fun H3 e3 => by
    obtain ⟨a, xs, rfl, h1, h2⟩ := hd.tup_
    obtain ⟨x, hx, hxd⟩ := h2.get' hj
    exact ⟨a, xs, (j : Int), x, rfl, rfl, st_of (e3 _ _ h1), atI_nat hx, q x H3 (e2.trans e3) (Td.ex e3 hxd)⟩
theorem ed_ixN {j : Nat} (h : EvN ta σ H ds) (hi : Ev tb σ H (.int (j : Int))) (hj : ds[j]? = some d) : EvD (tOp (rIxL K) ta tb) σ H d := fun H1 e Q q =>
  h H1 e _ fun p xs H2 hp e2 h1 h2 => hi H2 (e.trans e2) _ fun H3 e3 => by
    obtain ⟨x, hx, hxd⟩ := h2.get' hj
    exact ⟨p, xs, (j : Int), x, rfl, rfl, sq_of (e3 _ _ h1), atI_nat hx, q x H3 (e2.trans e3) (Td.ex e3 hxd)⟩
/-- == and != of data -/
theorem ev_eqD {a b : PyData} (h : EvQ K ta σ H a) (h2 : EvQ K tb σ H b) (sa : SeqAt.shaped a = true) (sb : SeqAt.shaped b = true) : Ev (tOp (rEqD K) ta tb) σ H (.bl (PyData.eqv a b)) := fun H1 e Q q =>
  h H1 e _ fun v H2 e2 hd => h2 H2 (e.trans e2) _ fun w H3 e3 he => ⟨a, b, Dp.ext e3 hd, he, sa, sb, q H3 (e2.trans e3)⟩
theorem ev_neD {a b : PyData} (h : EvQ K ta σ H a) (h2 : EvQ K tb σ H b) (sa : SeqAt.shaped a = true) (sb : SeqAt.shaped b = true) : Ev (tOp (rNeD K) ta tb) σ H (.bl (!PyData.eqv a b)) := fun H1 e Q q =>
  h H1 e _ fun v H2 e2 hd => h2 H2 (e.trans e2) _ fun w H3 e3 he => ⟨a, b, Dp.ext e3 hd, he, sa, sb, q H3 (e2.trans e3)⟩

/-! ### texts -/
theorem ev_addS {a b : List Nat} (h : Ev ta σ H (.str (S a))) (h2 : Ev tb σ H (.str (S b))) (hz : a.length + b.length ≤ 100000) :
    Ev (tOp (fun x y H Q => ∃ i j, x = .str i ∧ y = .str j ∧ i.length + j.length ≤ sizeLine ∧ Q (.str (i ++ j)) H) ta tb) σ H (.str (S (a ++ b))) := fun H1 e Q q =>
  h H1 e _ fun H2 e2 => h2 H2 (e.trans e2) _ fun H3 e3 => ⟨_, _, rfl, rfl, by rw [S_len, S_len]; exact sz_of hz, by rw [S_app]; exact q H3 (e2.trans e3)⟩
theorem ev_ixS {a : List Nat} {j c : Nat} (h : Ev ta σ H (.str (S a))) (h2 : Ev tb σ H (.int (j : Int))) (hz : a.length ≤ 100000) (hj : a[j]? = some c) : Ev (tOp rIxS ta tb) σ H (.str (S [c])) := fun H1 e Q q =>
  h H1 e _ fun H2 e2 => h2 H2 (e.trans e2) _ fun H3 e3 => ⟨S a, (j : Int), c, rfl, rfl, by rw [S_len]; exact sz_of hz, by rw [S_cps]; exact atI_nat hj, q H3 (e2.trans e3)⟩
theorem ev_cut {a : List Nat} {tl th : TO} {lo hi : Option Int} {b : List Nat} (h : Ev te σ H (.str (S a))) (h1 : EvO tl σ H lo) (h2 : EvO th σ H hi) (hz : a.length ≤ 100000) (hb : cutS (S a) lo hi = S b) : Ev (tSl rSlS te tl th) σ H (.str (S b)) := fun H1 e Q q =>
  h H1 e _ fun H2 e2 => h1 H2 (e.trans e2) _ fun H3 e3 => h2 H3 ((e.trans e2).trans e3) _ fun H4 e4 => ⟨S a, rfl, by rw [S_len]; exact sz_of hz, by rw [hb]; exact q H4 ((e2.trans e3).trans e4)⟩
theorem ev_from {a : List Nat} {k : Nat} {tl : TE} (h : Ev te σ H (.str (S a))) (h1 : Ev tl σ H (.int (k : Int))) (hz : a.length ≤ 100000) : Ev (tSl rSlS te (tPart tl) tNoPart) σ H (.str (S (a.drop k))) := ev_cut h (eo_some h1) eo_none hz (S_from a k)
theorem ev_to {a : List Nat} {k : Nat} {tl : TE} (h : Ev te σ H (.str (S a))) (h1 : Ev tl σ H (.int (k : Int))) (hz : a.length ≤ 100000) : Ev (tSl rSlS te tNoPart (tPart tl)) σ H (.str (S (a.take k))) := ev_cut h eo_none (eo_some h1) hz (S_to a k)
theorem ev_mid {a : List Nat} {i j : Nat} {tl th : TE} (h : Ev te σ H (.str (S a))) (h1 : Ev tl σ H (.int (i : Int))) (h2 : Ev th σ H (.int (j : Int))) (hz : a.length ≤ 100000) : Ev (tSl rSlS te (tPart tl) (tPart th)) σ H (.str (S ((a.drop i).take (j - i)))) := ev_cut h (eo_some h1) (eo_some h2) hz (S_mid a i j)
def rLenStr : List V → Hp → VK → Prop := fun xs H Q => ∃ z, xs = [.str z] ∧ z.length ≤ sizeLine ∧ Q (.int z.length) H
theorem ev_lenStr {a : List Nat} (h : Ev te σ H (.str (S a))) (hz : a.length ≤ 100000) : Ev (tCB rLenStr (tCons te tNil)) σ H (.int (a.length : Int)) := fun H1 e Q q =>
  h H1 e _ fun H2 e2 => ⟨S a, rfl, by rw [S_len]; exact sz_of hz, by rw [S_len]; exact q H2 e2⟩
theorem ev_eqS {a b : List Nat} (h : Ev ta σ H (.str (S a))) (h2 : Ev tb σ H (.str (S b))) : Ev (tOp rEq ta tb) σ H (.bl (decide (a = b))) := by
  rw [← S_dec]
  exact ev_op h h2 (rv_eq rfl)
theorem ev_neS {a b : List Nat} (h : Ev ta σ H (.str (S a))) (h2 : Ev tb σ H (.str (S b))) : Ev (tOp rNe ta tb) σ H (.bl (!decide (a = b))) := by
  rw [← S_dec]
  exact ev_op h h2 (rv_ne rfl)
theorem dec_int (i j : Int) : decide (V.int i = V.int j) = decide (i = j) := by
  by_cases h : i = j
  · subst h
    simp
  · rw [decide_eq_false h, decide_eq_false]
    intro q
    exact h (V.int.inj q)
theorem ev_eqI {i j : Int} (h : Ev ta σ H (.int i)) (h2 : Ev tb σ H (.int j)) : Ev (tOp rEq ta tb) σ H (.bl (decide (i = j))) := by
  rw [← dec_int]
  exact ev_op h h2 (rv_eq rfl)
theorem ev_neI {i j : Int} (h : Ev ta σ H (.int i)) (h2 : Ev tb σ H (.int j)) : Ev (tOp rNe ta tb) σ H (.bl (!decide (i = j))) := by
  rw [← dec_int]
  exact ev_op h h2 (rv_ne rfl)

/-! ### what is walked -/
theorem eit_rng1 {n : Nat} (h : EvA tA σ H [.int (n : Int)]) (hn : n ≤ 40000) : EvIT (iRng1 tA) σ H ((List.range n).map fun (i : Nat) => PyData.int (i : Int)) := fun H1 e R q =>
  h H1 e _ fun H2 e2 => ⟨(n : Int), rfl, by omega, by omega, by
    refine q _ (fun _ => True) H2 e2 (fun _ _ => trivial) ?_
    have hl : ((List.range n).map fun (i : Nat) => PyData.int (i : Int)).length = (n : Int).toNat := by simp
    rw [hl]
    refine walk_range.mono (fun _ _ => trivial) fun i H x H' hi _ y => ?_
    obtain ⟨rfl, rfl⟩ := y
    have hi' : i < n := by simpa using hi
    refine ⟨Ex.refl _, .int (i : Int), by simp [hi'], ?_⟩
    have e0 : (0 : Int) + (i : Int) = (i : Int) := Int.zero_add _
    show Td H' (.int ((0 : Int) + (i : Int))) (.int (i : Int))
    rw [e0]
    exact .int _⟩
theorem eit_rng2 {a b : Int} (h : EvA tA σ H [.int a, .int b]) (ha : -40000 ≤ a ∧ a ≤ 40000) (hb : -40000 ≤ b ∧ b ≤ 40000) : EvIT (iRng2 tA) σ H ((List.range (b - a).toNat).map fun (i : Nat) => PyData.int (a + (i : Int))) := fun H1 e R q =>
  h H1 e _ fun H2 e2 => ⟨a, b, rfl, ⟨by omega, by omega, by omega, by omega⟩, by
    refine q _ (fun _ => True) H2 e2 (fun _ _ => trivial) ?_
    have hl : ((List.range (b - a).toNat).map fun (i : Nat) => PyData.int (a + (i : Int))).length = (b - a).toNat := by simp
    rw [hl]
    refine walk_range.mono (fun _ _ => trivial) fun i H x H' hi _ y => ?_
    obtain ⟨rfl, rfl⟩ := y
    exact ⟨Ex.refl _, .int (a + (i : Int)), by simp [hi], .int _⟩⟩
/-- down by ones -/
theorem eit_down {a b : Int} (h : EvA tA σ H [.int a, .int b, .int (-1)]) (ha : -40000 ≤ a ∧ a ≤ 40000) (hb : -40000 ≤ b ∧ b ≤ 40000) : EvIT (iRng3 tA) σ H ((List.range (a - b).toNat).map fun (i : Nat) => PyData.int (a - (i : Int))) := fun H1 e R q =>
  h H1 e _ fun H2 e2 => ⟨a, b, -1, (a - b).toNat, rfl, RgC.neg (by omega) (by omega) (by omega) (by omega), by
    refine q _ (fun _ => True) H2 e2 (fun _ _ => trivial) ?_
    have hl : ((List.range (a - b).toNat).map fun (i : Nat) => PyData.int (a - (i : Int))).length = (a - b).toNat := by simp
    rw [hl]
    refine walk_rangeC.mono (fun _ _ => trivial) fun i H x H' hi _ y => ?_
    obtain ⟨rfl, rfl⟩ := y
    refine ⟨Ex.refl _, .int (a - (i : Int)), by simp [hi], ?_⟩
    have e0 : a + ((i : Nat) : Int) * (-1) = a - (i : Int) := by omega
    show Td H' (.int (a + ((i : Nat) : Int) * (-1))) (.int (a - (i : Int)))
    rw [e0]
    exact .int _⟩
theorem ei_new (h : EvN te σ H ds) : EvI (iList K te) σ H ds := fun H1 e R q =>
  h H1 e _ fun p xs H2 hp e2 h2 hd => ⟨p, rfl, ⟨xs, sq_of h2⟩, by
    refine q _ (fun H3 => H3 p = some (.lst xs) ∧ TdAll H3 xs ds) H2 e2 (fun H3 e3 => ⟨e3 _ _ h2, TdAll.ex e3 hd⟩) ?_
    refine ⟨fun i H3 hi g => ⟨xs, xs[i]'(by rw [hd.len]; exact hi), sq_of g.1, by simp⟩, fun H3 g => ⟨xs, sq_of g.1, by rw [hd.len]; exact Nat.le_refl _⟩, fun i H3 x H4 hi g y => ?_⟩
    obtain ⟨rfl, hy⟩ := y
    obtain ⟨d, h3, h4⟩ := g.2.get (hy xs (sq_of g.1))
    exact ⟨Ex.refl _, d, h3, h4⟩⟩
theorem eit_tup (h : EvD te σ H (.tuple ds)) : EvIT (iTup K te) σ H ds := fun H1 e R q =>
  h H1 e _ fun v H2 e2 hd => by
    obtain ⟨p, xs, rfl, h2, hd⟩ := hd.tup_
    refine ⟨p, rfl, ⟨xs, st_of h2⟩, ?_⟩
    refine q _ (fun H3 => H3 p = some (.tup xs) ∧ TdAll H3 xs ds) H2 e2 (fun H3 e3 => ⟨e3 _ _ h2, TdAll.ext e3 hd⟩) ?_
    refine ⟨fun i H3 hi g => ⟨xs, xs[i]'(by rw [hd.len]; exact hi), st_of g.1, by simp⟩, fun H3 g => ⟨xs, st_of g.1, by rw [hd.len]; exact Nat.le_refl _⟩, fun i H3 x H4 hi g y => ?_⟩
    obtain ⟨rfl, hy⟩ := y
    obtain ⟨d, h3, h4⟩ := g.2.get (hy xs (st_of g.1))
    exact ⟨Ex.refl _, d, h3, h4⟩
theorem eit_str {a : List Nat} (h : Ev te σ H (.str (S a))) : EvIT (iStr te) σ H (a.map fun c => .str (S [c])) := fun H1 e R q =>
  h H1 e _ fun H2 e2 => ⟨S a, rfl, by
    refine q _ (fun _ => True) H2 e2 (fun _ _ => trivial) ?_
    have hl : (a.map fun c => PyData.str (S [c])).length = (S a).cps.size := by
      rw [List.length_map]
      exact List.size_toArray.symm
    rw [hl]
    refine walk_str.mono (fun _ _ => trivial) fun i H x H' hi _ y => ?_
    obtain ⟨rfl, c, hc, rfl⟩ := y
    have hc' : a[i]? = some c := by
      rw [← hc]
      exact List.getElem?_toArray.symm
    exact ⟨Ex.refl _, .str (S [c]), by rw [List.getElem?_map, hc']; rfl, .str _⟩⟩

theorem ei_rng1 {n : Nat} (h : EvA tA σ H [.int (n : Int)]) (hn : n ≤ 40000) : EvI (iRng1 tA) σ H ((List.range n).map fun (i : Nat) => PyData.int (i : Int)) := (eit_rng1 h hn).i
theorem ei_rng2 {a b : Int} (h : EvA tA σ H [.int a, .int b]) (ha : -40000 ≤ a ∧ a ≤ 40000) (hb : -40000 ≤ b ∧ b ≤ 40000) : EvI (iRng2 tA) σ H ((List.range (b - a).toNat).map fun (i : Nat) => PyData.int (a + (i : Int))) := (eit_rng2 h ha hb).i
theorem ei_down {a b : Int} (h : EvA tA σ H [.int a, .int b, .int (-1)]) (ha : -40000 ≤ a ∧ a ≤ 40000) (hb : -40000 ≤ b ∧ b ≤ 40000) : EvI (iRng3 tA) σ H ((List.range (a - b).toNat).map fun (i : Nat) => PyData.int (a - (i : Int))) := (eit_down h ha hb).i
theorem ei_tup (h : EvD te σ H (.tuple ds)) : EvI (iTup K te) σ H ds := (eit_tup h).i
theorem ei_str {a : List Nat} (h : Ev te σ H (.str (S a))) : EvI (iStr te) σ H (a.map fun c => .str (S [c])) := (eit_str h).i
/-! ### for -/
theorem s_forI {wi : TI} {g : TG} {tu : TS} {D : Ends} (h : EvI wi σ H es) (Pv : Hp → Nat → L2.St → Hp → Prop) (h0 : ∀ H1, Ex H H1 → Pv H1 0 σ H1) (hx : ∀ H1 i σ' H', Pv H1 i σ' H' → Ex H1 H')
    (hs : ∀ H1 i e x σ' H' H'', Ex H H1 → es[i]? = some e → Pv H1 i σ' H' → Ex H' H'' → Td H'' x e → g x σ' H'' fun σ2 H2 => tu { D with nx := Pv H1 (i + 1), ct := Pv H1 (i + 1), bk := D.nx } σ2 H2)
    (hd : ∀ H1 σ' H', Ex H H1 → Pv H1 es.length σ' H' → D.nx σ' H') : tFor wi g tu D σ H := h H (Ex.refl H) _ fun J G H1 e1 hG hW =>
  for_it hW (Pv H1) (h0 H1 e1) (fun i σ' H' _ p => hG H' (hx _ _ _ _ p)) (fun i x σ' H' H'' _ p y => by
    obtain ⟨e2, e, he, hxe⟩ := y
    exact hs H1 i e x σ' H' H'' e1 he p e2 hxe) (fun σ' H' p => hd H1 σ' H' e1 p)
theorem s_forIT {wi : TI} {g : TG} {tu : TS} {D : Ends} (h : EvIT wi σ H es) (Pv : Hp → Nat → L2.St → Hp → Prop) (h0 : ∀ H1, Ex H H1 → Pv H1 0 σ H1) (hx : ∀ H1 i σ' H', Pv H1 i σ' H' → ExT H1 H')
    (hs : ∀ H1 i e x σ' H' H'', Ex H H1 → es[i]? = some e → Pv H1 i σ' H' → Ex H' H'' → Td H'' x e → g x σ' H'' fun σ2 H2 => tu { D with nx := Pv H1 (i + 1), ct := Pv H1 (i + 1), bk := D.nx } σ2 H2)
    (hd : ∀ H1 σ' H', Ex H H1 → Pv H1 es.length σ' H' → D.nx σ' H') : tFor wi g tu D σ H := h H (Ex.refl H) _ fun J G H1 e1 hG hW =>
  for_it hW (Pv H1) (h0 H1 e1) (fun i σ' H' _ p => hG H' (hx _ _ _ _ p)) (fun i x σ' H' H'' _ p y => by
    obtain ⟨e2, e, he, hxe⟩ := y
    exact hs H1 i e x σ' H' H'' e1 he p e2 hxe) (fun σ' H' p => hd H1 σ' H' e1 p)
theorem q_forI {wi : TI} {g : TG} {tu tz : TS} {D : Ends} (h : EvI wi σ H es) (Pv : Hp → Nat → L2.St → Hp → Prop) (h0 : ∀ H1, Ex H H1 → Pv H1 0 σ H1) (hx : ∀ H1 i σ' H', Pv H1 i σ' H' → Ex H1 H')
    (hs : ∀ H1 i e x σ' H' H'', Ex H H1 → es[i]? = some e → Pv H1 i σ' H' → Ex H' H'' → Td H'' x e → g x σ' H'' fun σ2 H2 => tu { D with nx := Pv H1 (i + 1), ct := Pv H1 (i + 1), bk := tz D } σ2 H2)
    (hd : ∀ H1 σ' H', Ex H H1 → Pv H1 es.length σ' H' → tz D σ' H') : tSeq (tFor wi g tu) tz D σ H := s_forI (D := { D with nx := tz D }) h Pv h0 hx hs hd
theorem q_forIT {wi : TI} {g : TG} {tu tz : TS} {D : Ends} (h : EvIT wi σ H es) (Pv : Hp → Nat → L2.St → Hp → Prop) (h0 : ∀ H1, Ex H H1 → Pv H1 0 σ H1) (hx : ∀ H1 i σ' H', Pv H1 i σ' H' → ExT H1 H')
    (hs : ∀ H1 i e x σ' H' H'', Ex H H1 → es[i]? = some e → Pv H1 i σ' H' → Ex H' H'' → Td H'' x e → g x σ' H'' fun σ2 H2 => tu { D with nx := Pv H1 (i + 1), ct := Pv H1 (i + 1), bk := tz D } σ2 H2)
    (hd : ∀ H1 σ' H', Ex H H1 → Pv H1 es.length σ' H' → tz D σ' H') : tSeq (tFor wi g tu) tz D σ H := s_forIT (D := { D with nx := tz D }) h Pv h0 hx hs hd
/-! ### comprehensions -/
/-- what a target makes of an item -/
def Bnd (g : TG) (x : V) (σ : L2.St) (H : Hp) (σ2 : L2.St) : Prop := ∀ Q : L2.St → Hp → Prop, Q σ2 H → g x σ H Q
theorem bnd_name {j : Nat} {σ : L2.St} : Bnd (gName j) x σ H (σ.set j (some x)) := fun Q q => q
theorem bnd_pair {i j : Nat} {a : Addr} (h : H a = some (.tup [x, y])) : Bnd (gTup K 2 (gCons (gName i) (gCons (gName j) gNil))) (.ref a) σ H ((σ.set i (some x)).set j (some y)) := fun Q q =>
  ⟨a, [x, y], rfl, st_of h, rfl, x, [y], rfl, y, [], rfl, rfl, q⟩
theorem en_lcA {α : Type} {wi : TI} {g : TG} {tt : TT} {vs : List Nat} (enc : α → PyData) (as : List α) (f : α → Bool) (w : α → PyData) (h : EvI wi σ H (as.map enc)) (hz : as.length ≤ 40000)
    (hb : ∀ a ∈ as, ∀ x H1, Ex H H1 → Td H1 x (enc a) → ∃ σ2, Bnd g x (wipe σ vs) H1 σ2 ∧ wipe σ2 vs = wipe σ vs ∧ EvT tt σ2 H1 (f a) ∧ (f a = true → EvD te σ2 H1 (w a))) :
    EvN (tLc wi g tt te vs) σ H ((as.filter f).map w) := fun H0 e Q q => h H0 e _ fun J G H1 e1 hG hW D hD => by
  rw [List.length_map] at hW
  have key : ∀ n, n ≤ as.length → (((as.take n).filter f).map w).length ≤ 40000 := fun n hn => by
    rw [List.length_map]
    have := List.length_filter_le f (as.take n)
    rw [List.length_take] at this
    omega
  refine lc_it hW (fun i H' => Ex H1 H' ∧ ∃ acc, H' D = some (.lst acc) ∧ TdAll H' acc (((as.take i).filter f).map w)) ⟨Ex.new hD, [], upd_same, .nil⟩ (fun i H' hi p => hG H' p.1) ?_ ?_
  · rintro i x H2 H3 hi ⟨e2, acc, ha, hacc⟩ ⟨e3, d, hd, hx⟩
    obtain ⟨b, hbm, rfl⟩ : ∃ b, as[i]? = some b ∧ d = enc b := by
      rw [List.getElem?_map] at hd
      cases hq : as[i]? with
      | none =>
        rw [hq] at hd
        cases hd
      | some b =>
        rw [hq] at hd
        exact ⟨b, rfl, (Option.some.inj hd).symm⟩
    have hmem : b ∈ as := List.mem_of_getElem? hbm
    obtain ⟨σ2, b1, b2, b3, b4⟩ := hb b hmem x H3 (((e.trans e1).trans e2).trans e3) hx
    refine b1 _ ⟨b2, ?_⟩
    have htake : as.take (i + 1) = as.take i ++ [b] := by
      rw [List.take_add_one, hbm]
      rfl
    refine b3 H3 (Ex.refl _) _ fun H4 e4 => ?_
    cases hf : f b with
    | true =>
      show te σ2 H4 _
      refine b4 hf H4 e4 _ fun v H5 e5 hv => ?_
      have haD : H5 D = some (.lst acc) := e5 _ _ (e4 _ _ (e3 _ _ ha))
      refine ⟨acc, haD, ?_, ?_, acc ++ [v], upd_same, ?_⟩
      · have h1 := hacc.len
        have h2 := key i (Nat.le_of_lt hi)
        exact sz_lt (by omega)
      · exact Ex.mut (((e2.trans e3).trans e4).trans e5) hD
      · rw [htake, List.filter_append, List.map_append]
        have h1 : ([b].filter f).map w = [w b] := by
          rw [List.filter_cons, if_pos hf]
          rfl
        rw [h1]
        have eT : ExT H5 (upd H5 D (.lst (acc ++ [v]))) := ExT.updL haD
        exact TdAll.append (TdAll.ext eT (TdAll.ex ((e3.trans e4).trans e5) hacc)) (TdAll.one (Td.ext eT hv))
    | false =>
      show Ex H1 H4 ∧ _
      refine ⟨(e2.trans e3).trans e4, acc, e4 _ _ (e3 _ _ ha), ?_⟩
      rw [htake, List.filter_append, List.map_append]
      have h1 : ([b].filter f).map w = [] := by
        rw [List.filter_cons, if_neg (by rw [hf]; decide)]
        rfl
      rw [h1, List.append_nil]
      exact TdAll.ex (e3.trans e4) hacc
  · rintro H2 ⟨e2, acc, ha, hacc⟩
    rw [List.take_of_length_le (Nat.le_refl _)] at hacc
    exact q D acc H2 (fresh_back e1 hD) (e1.trans e2) ha hacc
theorem et_yes : EvT tYes σ H true := fun H1 _ _ q => q H1 (Ex.refl H1)
/-- over ints, a name the target -/
theorem en_lcI {wi : TI} {j : Nat} {tt : TT} {vs : List Nat} (ns : List Int) (f : Int → Bool) (w : Int → PyData) (h : EvI wi σ H (ns.map .int)) (hz : ns.length ≤ 40000)
    (hb : ∀ n ∈ ns, ∀ H1, Ex H H1 → EvT tt ((wipe σ vs).set j (some (.int n))) H1 (f n) ∧ (f n = true → EvD te ((wipe σ vs).set j (some (.int n))) H1 (w n)))
    (hw : ∀ x, wipe ((wipe σ vs).set j (some x)) vs = wipe σ vs := by intro _; rfl) : EvN (tLc wi (gName j) tt te vs) σ H ((ns.filter f).map w) :=
  en_lcA PyData.int ns f w h hz fun n hn x H1 e hx => by
    cases Td.int_ hx
    exact ⟨_, bnd_name, hw _, (hb n hn H1 e).1, (hb n hn H1 e).2⟩
/-- over texts -/
theorem en_lcS {wi : TI} {j : Nat} {tt : TT} {vs : List Nat} (ls : List (List Nat)) (f : List Nat → Bool) (w : List Nat → PyData) (h : EvI wi σ H (ls.map fun l => .str (S l))) (hz : ls.length ≤ 40000)
    (hb : ∀ l ∈ ls, ∀ H1, Ex H H1 → EvT tt ((wipe σ vs).set j (some (.str (S l)))) H1 (f l) ∧ (f l = true → EvD te ((wipe σ vs).set j (some (.str (S l)))) H1 (w l)))
    (hw : ∀ x, wipe ((wipe σ vs).set j (some x)) vs = wipe σ vs := by intro _; rfl) : EvN (tLc wi (gName j) tt te vs) σ H ((ls.filter f).map w) :=
  en_lcA (fun l => PyData.str (S l)) ls f w h hz fun l hl x H1 e hx => by
    cases Td.str_ hx
    exact ⟨_, bnd_name, hw _, (hb l hl H1 e).1, (hb l hl H1 e).2⟩
end
end TY
namespace TY
open PySem PySem.Spec PyProof.Rows L2 Evl
/-! ### a def of the text that may be called by its name -/
structure Cl (P : Program) (w : World) (K : PySem.W.Frag) (mg : Str → Option Value) (base : Heap) (k : Nat) (x : Str) (sp : Sp) : Prop where
  ex : ∃ (f : Addr) (fd : FuncData) (ps : List Str), FnOk P w K mg base CX0 k f fd ps sp ∧ mg x = some (.ref f) ∧ PySem.W.keepIn K (.ref f) = true ∧ Binds K fd ps []
section
variable {X : Cx} {k j : Nat} {x : Str} {sp : Sp} {p pos : Pos} {e : Expr} {es : List Expr} {t : TA}
theorem pe_cl (c : Cl X.prog X.w X.K X.mg X.base k x sp) (hr : Room j X.A) (hk : k ≤ j) (hg : Gl X x) (ha : PA X (e :: es) t)
    (hdb : (x == ("__debug__" : Str)) = false := by decide) (he : starEach (e :: es) X.env = (false, eval e X.env) :: starEach es X.env := by rfl) (hpl : (backTo pos (starEach es X.env)).any (·.1) = false := by rfl) :
    PE X (.Call (.Name x p) (e :: es) [] pos) (tCall sp [] E0 t) := by
  obtain ⟨f, fd, ps, F, hm, kp, b⟩ := c.ex
  exact pe_call F (hr.mono hk) hg hm kp b .nil pass0 ha hdb he hpl
theorem pe_gc {v : V} (hg : Gl X x) (h : ∃ u, X.mg x = some u ∧ RelV v u) (hd : (x == ("__debug__" : Str)) = false := by decide) : PE X (.Name x pos) (tC v) := by
  obtain ⟨u, hm, r⟩ := h
  exact pe_glob hg hm r hd
end
theorem hu64 {A : Around} {k : Nat} (hr : Room k A) : A.units + 64 < cLine := hr.units
/-- a call's promise: data in, data out -/
def SpD (sp : Sp) (vs : List V) (H : Hp) (d : PyData) : Prop := ∀ H1, Ex H H1 → ∀ Q : VK, (∀ v H2, Ex H1 H2 → Td H2 v d → Q v H2) → ∀ E : XK, sp vs H1 Q E
def SpN (sp : Sp) (vs : List V) (H : Hp) (ds : List PyData) : Prop := ∀ H1, Ex H H1 → ∀ Q : VK, (∀ p xs H2, H1 p = none → Ex H1 H2 → H2 p = some (.lst xs) → TdAll H2 xs ds → Q (.ref p) H2) → ∀ E : XK, sp vs H1 Q E
section
variable {K : PySem.W.Frag} {σ : L2.St} {H : Hp} {tA : TA} {sp : Sp} {vs : List V} {d : PyData} {ds : List PyData} {E : XK} {z : V}
theorem ed_call (h : EvA tA σ H vs) (hs : SpD sp vs H d) : EvD (tCall sp [] E tA) σ H d := fun H1 e Q q =>
  h H1 e _ fun H2 e2 => by
    show sp (vs ++ []) H2 Q E
    rw [List.append_nil]
    exact hs H2 (e.trans e2) Q (fun v H3 e3 hd => q v H3 (e2.trans e3) hd) E
theorem en_call (h : EvA tA σ H vs) (hs : SpN sp vs H ds) : EvN (tCall sp [] E tA) σ H ds := fun H1 e Q q =>
  h H1 e _ fun H2 e2 => by
    show sp (vs ++ []) H2 Q E
    rw [List.append_nil]
    exact hs H2 (e.trans e2) Q (fun p xs H3 hp e3 h3 hd => q p xs H3 (fresh_back e2 hp) (e2.trans e3) h3 hd) E
theorem ev_cl (h : EvA tA σ H vs) (hs : SpV sp vs H z) : Ev (tCall sp [] E tA) σ H z := ev_call h (by rw [List.append_nil]; exact hs)
/-- .. where an argument is new data: its value is not known ahead -/
theorem ed_callD {es : List PyData} (h : EvAD tA σ H es) (hs : ∀ vs H1, Ex H H1 → TdAll H1 vs es → SpD sp vs H1 d) : EvD (tCall sp [] E tA) σ H d := fun H1 e Q q =>
  h H1 e _ fun vs H2 e2 hv => by
    show sp (vs ++ []) H2 Q E
    rw [List.append_nil]
    exact hs vs H2 (e.trans e2) hv H2 (Ex.refl H2) Q (fun v H3 e3 hd => q v H3 (e2.trans e3) hd) E
/-- a statement that stores data -/
theorem s_asgD {D : Ends} {te : TE} {i : Nat} (h : EvD te σ H d) (k : ∀ v H1, Ex H H1 → Td H1 v d → D.nx (σ.set i (some v)) H1) : tAsg te (gName i) D σ H := h H (Ex.refl H) _ fun v H1 e hv => k v H1 e hv
theorem q_asgD {D : Ends} {te : TE} {tz : TS} {i : Nat} (h : EvD te σ H d) (k : ∀ v H1, Ex H H1 → Td H1 v d → tz D (σ.set i (some v)) H1) : tSeq (tAsg te (gName i)) tz D σ H := s_asgD (D := { D with nx := tz D }) h k
theorem s_asgN {D : Ends} {te : TE} {i : Nat} (h : EvN te σ H ds) (k : ∀ p xs H1, H p = none → Ex H H1 → H1 p = some (.lst xs) → TdAll H1 xs ds → D.nx (σ.set i (some (.ref p))) H1) : tAsg te (gName i) D σ H := h H (Ex.refl H) _ fun p xs H1 hp e h1 hv => k p xs H1 hp e h1 hv
theorem q_asgN {D : Ends} {te : TE} {tz : TS} {i : Nat} (h : EvN te σ H ds) (k : ∀ p xs H1, H p = none → Ex H H1 → H1 p = some (.lst xs) → TdAll H1 xs ds → tz D (σ.set i (some (.ref p))) H1) : tSeq (tAsg te (gName i)) tz D σ H := s_asgN (D := { D with nx := tz D }) h k
theorem s_retD {D : Ends} {te : TE} (h : EvD te σ H d) (k : ∀ v H1, Ex H H1 → Td H1 v d → D.rt v H1) : tRet te D σ H := h H (Ex.refl H) _ k
theorem s_retN {D : Ends} {te : TE} (h : EvN te σ H ds) (k : ∀ p xs H1, H p = none → Ex H H1 → H1 p = some (.lst xs) → TdAll H1 xs ds → D.rt (.ref p) H1) : tRet te D σ H := h H (Ex.refl H) _ k
end
section
variable {K : PySem.W.Frag} {σ : L2.St} {H : Hp} {te ta tb : TE} {p : Addr} {xs : List V} {ds : List PyData} {d : PyData}
/-- tuple(a list that stands) -/
theorem ed_tupL (h : Ev te σ H (.ref p)) (hp : H p = some (.lst xs)) (hd : TdAll H xs ds) : EvD (tThen te (kTup K)) σ H (.tuple ds) := fun H1 e Q q =>
  h H1 e _ fun H2 e2 => .inl ⟨p, xs, rfl, sq_of ((e.trans e2) _ _ hp), fun r hr => q _ _ (e2.trans (Ex.new hr)) (.tup upd_same (TdAll.ex ((e.trans e2).trans (Ex.new hr)) hd))⟩
/-- a list that stands, read as data -/
theorem eq_l (h : Ev te σ H (.ref p)) (hp : H p = some (.lst xs)) (hd : TdAll H xs ds) : EvQ K te σ H (.list ds) := fun H1 e Q q =>
  h H1 e _ fun H2 e2 => q _ H2 e2 (.lst (sq_of ((e.trans e2) _ _ hp)) (TdAll.ex (e.trans e2) hd).dp)
theorem ei_lst (h : Ev te σ H (.ref p)) (hp : H p = some (.lst xs)) (hd : TdAll H xs ds) : EvI (iList K te) σ H ds := fun H1 e R q =>
  h H1 e _ fun H2 e2 => ⟨p, rfl, ⟨xs, sq_of ((e.trans e2) _ _ hp)⟩, by
    refine q _ (fun H3 => H3 p = some (.lst xs) ∧ TdAll H3 xs ds) H2 e2 (fun H3 e3 => ⟨((e.trans e2).trans e3) _ _ hp, TdAll.ex ((e.trans e2).trans e3) hd⟩) ?_
    refine ⟨fun i H3 hi g => ⟨xs, xs[i]'(by rw [hd.len]; exact hi), sq_of g.1, by simp⟩, fun H3 g => ⟨xs, sq_of g.1, by rw [hd.len]; exact Nat.le_refl _⟩, fun i H3 x H4 hi g y => ?_⟩
    obtain ⟨rfl, hy⟩ := y
    obtain ⟨d, h3, h4⟩ := g.2.get (hy xs (sq_of g.1))
    exact ⟨Ex.refl _, d, h3, h4⟩⟩
/-- a tuple and a tuple -/
theorem ed_catA {es : List PyData} (h : EvD ta σ H (.tuple ds)) (h2 : EvD tb σ H (.tuple es)) (hz : ds.length + es.length ≤ 100000) : EvD (tOp (rCatA K) ta tb) σ H (.tuple (ds ++ es)) := fun H1 e Q q =>
  h H1 e _ fun v H2 e2 hv => h2 H2 (e.trans e2) _ fun w H3 e3 hw => by
    obtain ⟨a, xs, rfl, h3, h4⟩ := hv.tup_
    obtain ⟨b, ys, rfl, h5, h6⟩ := hw.tup_
    have h4' := TdAll.ex e3 h4
    have hl1 := h4'.len
    have hl2 := h6.len
    refine ⟨a, b, xs, ys, rfl, rfl, st_of (e3 _ _ h3), st_of h5, sz_of (by omega), fun z => ?_, fun _ z => ?_, fun _ _ p hp => ?_⟩
    · subst z
      cases h4
      exact q _ H3 (e2.trans e3) (.tup h5 h6)
    · subst z
      cases h6
      rw [List.append_nil] at q
      exact q _ H3 (e2.trans e3) (.tup (e3 _ _ h3) h4')
    · exact q _ _ ((e2.trans e3).trans (Ex.new hp)) (.tup upd_same (TdAll.ex (Ex.new hp) (TdAll.append h4' h6)))
end
section
variable {σ : L2.St} {H : Hp} {tA : TA} {sp : Sp} {vs : List V} {E : XK} {D : Ends} {tz : TS}
/-- a call whose value is told by its promise alone -/
theorem s_asgC {i : Nat} (h : EvA tA σ H vs) (k : ∀ H1, Ex H H1 → sp vs H1 (fun v H2 => D.nx (σ.set i (some v)) H2) E) : tAsg (tCall sp [] E tA) (gName i) D σ H :=
  h H (Ex.refl H) _ fun H1 e1 => by
    show sp (vs ++ []) H1 _ E
    rw [List.append_nil]
    exact k H1 e1
theorem q_asgC {i : Nat} (h : EvA tA σ H vs) (k : ∀ H1, Ex H H1 → sp vs H1 (fun v H2 => tz D (σ.set i (some v)) H2) E) : tSeq (tAsg (tCall sp [] E tA) (gName i)) tz D σ H := s_asgC (D := { D with nx := tz D }) h k
theorem s_retC (h : EvA tA σ H vs) (k : ∀ H1, Ex H H1 → sp vs H1 D.rt E) : tRet (tCall sp [] E tA) D σ H :=
  h H (Ex.refl H) _ fun H1 e1 => by
    show sp (vs ++ []) H1 _ E
    rw [List.append_nil]
    exact k H1 e1
end
/-! ### rules that speak of the written part, by its name -/
section
variable {X : Cx}
theorem kC {f : Value} (K : PySem.W.Frag) (r : PySem.W.Frag → List V → Hp → VK → Prop) (h : CallR X f (r X.K)) (hK : X.K = K := by rfl) : CallR X f (r K) := hK ▸ h
theorem kO {f : Value → Value → Sem Value} (K : PySem.W.Frag) (r : PySem.W.Frag → R2) (h : OpR X f (r X.K)) (hK : X.K = K := by rfl) : OpR X f (r K) := hK ▸ h
theorem kI (K : PySem.W.Frag) (r : PySem.W.Frag → R2) (h : IxR X (r X.K)) (hK : X.K = K := by rfl) : IxR X (r K) := hK ▸ h
theorem kL (K : PySem.W.Frag) (r : PySem.W.Frag → V → Option Int → Option Int → Hp → VK → Prop) (h : SlR X (r X.K)) (hK : X.K = K := by rfl) : SlR X (r K) := hK ▸ h
theorem kM {id : String} (K : PySem.W.Frag) (r : PySem.W.Frag → V → List V → Hp → VK → Prop) (h : MtR X id (r X.K)) (hK : X.K = K := by rfl) : MtR X id (r K) := hK ▸ h
theorem kE {e : Expr} (K : PySem.W.Frag) (t : PySem.W.Frag → TE) (h : PE X e (t X.K)) (hK : X.K = K := by rfl) : PE X e (t K) := hK ▸ h
theorem kP {tg e : Expr} (K : PySem.W.Frag) (t : PySem.W.Frag → TI) (h : PI X tg e (t X.K)) (hK : X.K = K := by rfl) : PI X tg e (t K) := hK ▸ h
theorem pe_tupleOfK {a : Expr} {ta : TE} {p pos : Pos} (K : PySem.W.Frag) (hg : Gl X "tuple") (hm : X.mg "tuple" = none) (ha : PE X a ta) (hK : X.K = K := by rfl)
    (na : starEach [a] X.env = (false, eval a X.env) :: starEach [] X.env := by rfl) : PE X (.Call (.Name "tuple" p) [a] [] pos) (tThen ta (kTup K)) := by
  subst hK
  exact pe_tupleOf hg hm ha na
theorem pi_listK {tg l : Expr} {tl : TE} (K : PySem.W.Frag) (hl : PE X l tl) (hK : X.K = K := by rfl) : PI X tg l (iList K tl) := by
  subst hK
  exact pi_list hl
theorem pi_tupK {tg l : Expr} {tl : TE} (K : PySem.W.Frag) (hl : PE X l tl) (hK : X.K = K := by rfl) : PI X tg l (iTup K tl) := by
  subst hK
  exact pi_tup hl
end
theorem bt_len : bootBuiltins "len" = some (.builtin "len") := by decide +kernel
theorem bt_isinstance : bootBuiltins "isinstance" = some (.builtin "isinstance") := by decide +kernel
theorem bt_sorted : bootBuiltins "sorted" = some (.builtin "sorted") := by decide +kernel
theorem bt_all : bootBuiltins "all" = some (.builtin "all") := by decide +kernel
theorem bt_any : bootBuiltins "any" = some (.builtin "any") := by decide +kernel
theorem bt_sum : bootBuiltins "sum" = some (.builtin "sum") := by decide +kernel
theorem bt_max : bootBuiltins "max" = some (.builtin "max") := by decide +kernel
theorem bt_min : bootBuiltins "min" = some (.builtin "min") := by decide +kernel
theorem bt_tuple : bootBuiltins "tuple" = some (.type "tuple") := by decide +kernel
theorem bt_list : bootBuiltins "list" = some (.type "list") := by decide +kernel
theorem bt_int : bootBuiltins "int" = some (.type "int") := by decide +kernel
theorem bt_str : bootBuiltins "str" = some (.type "str") := by decide +kernel
theorem bt_bool : bootBuiltins "bool" = some (.type "bool") := by decide +kernel
theorem bt_zip : bootBuiltins "zip" = some (.type "zip") := by decide +kernel
theorem bt_enumerate : bootBuiltins "enumerate" = some (.type "enumerate") := by decide +kernel
theorem bt_range : bootBuiltins "range" = some (.type "range") := by decide +kernel
/-- the built-in names that the text does not bind -/
structure Nm (mg : Str → Option Value) : Prop where
  n_len : mg "len" = none
  n_range : mg "range" = none
  n_tuple : mg "tuple" = none
  n_list : mg "list" = none
  n_isinstance : mg "isinstance" = none
  n_sorted : mg "sorted" = none
  n_int : mg "int" = none
  n_str : mg "str" = none
  n_bool : mg "bool" = none
  n_max : mg "max" = none
  n_min : mg "min" = none
  n_sum : mg "sum" = none
  n_all : mg "all" = none
  n_zip : mg "zip" = none
  n_enumerate : mg "enumerate" = none
/-! ### a text again and again -/
theorem foldl_reps (a : Array Nat) : ∀ (n : Nat) (z : Array Nat), (List.replicate n a).foldl (· ++ ·) z = z ++ (List.replicate n a).foldl (· ++ ·) #[]
  | 0, z => by simp
  | n + 1, z => by
    rw [List.replicate_succ, List.foldl_cons, List.foldl_cons, foldl_reps a n (z ++ a), foldl_reps a n (#[] ++ a)]
    simp [Array.append_assoc]
theorem reps_list (l : List Nat) : ∀ n : Nat, ((List.replicate n l.toArray).foldl (· ++ ·) #[]).toList = (List.replicate n l).flatten
  | 0 => rfl
  | n + 1 => by
    rw [List.replicate_succ, List.foldl_cons, foldl_reps, List.replicate_succ, List.flatten_cons, ← reps_list l n]
    simp
theorem S_mul (l : List Nat) (n : Nat) : Txt.mul (S l) (n : Int) = S (List.replicate n l).flatten := by
  unfold Txt.mul
  by_cases h1 : (n : Int) < 1
  · rw [if_pos h1]
    have e : n = 0 := by omega
    subst e
    rfl
  · rw [if_neg h1]
    by_cases h2 : (((n : Int) == 1 || (S l).length == 0)) = true
    · rw [if_pos h2]
      rw [Bool.or_eq_true, beq_iff_eq, beq_iff_eq, S_len] at h2
      rcases h2 with h2 | h2
      · have e : n = 1 := by omega
        subst e
        show S l = S (List.replicate 1 l).flatten
        rw [show (List.replicate 1 l).flatten = l by simp]
      · have e : l = [] := List.eq_nil_of_length_eq_zero h2
        subst e
        show S [] = S (List.replicate n []).flatten
        rw [show (List.replicate n ([] : List Nat)).flatten = [] by simp]
    · rw [if_neg h2, Int.toNat_natCast]
      show (⟨(List.replicate n l.toArray).foldl (· ++ ·) #[]⟩ : Str) = S (List.replicate n l).flatten
      rw [S_eq ⟨(List.replicate n l.toArray).foldl (· ++ ·) #[]⟩, reps_list]
theorem mul_ok {l : List Nat} {n : Nat} (hl : l.length ≤ 1000) (hn : n ≤ 1000) : MulOk (S l) (n : Int) := by
  refine ⟨?_, fun h1 _ => ?_, fun h1 _ => ?_⟩
  · simp
    omega
  · rw [S_len]
    have h2 : (1 : Int) ≤ n := by omega
    have h3 : (1000 : Int) ≤ (2 ^ 63 - 1) / n := by
      rw [Int.le_ediv_iff_mul_le (by omega)]
      omega
    omega
  · rw [S_len, Int.toNat_natCast]
    have h3 : l.length * n ≤ 1000 * 1000 := Nat.mul_le_mul hl hn
    have h2 : sizeLine = 16777216 := sizeLine_eq
    show decide (l.length * n > sizeLine) = false
    exact decide_eq_false (by omega)
theorem op_mulS {X : Cx} : OpR X (binaryOp .Mult) (fun x y H Q => ∃ (l : List Nat) (n : Nat), x = .str (S l) ∧ y = .int (n : Int) ∧ l.length ≤ 1000 ∧ n ≤ 1000 ∧ Q (.str (S (List.replicate n l).flatten)) H) := by
  intro pins s σ H x y v u Q I rx ry h
  obtain ⟨l, n, rfl, rfl, h1, h2, q⟩ := h
  obtain ⟨t, rfl⟩ := rx
  obtain ⟨t', rfl⟩ := ry
  refine SB.mul (mul_ok h1 h2) fun t' k => ⟨.str (Txt.mul (S l) (n : Int)), H, I.tok _, ⟨_, rfl⟩, ?_⟩
  rw [S_mul]
  exact q
theorem ev_mulS {σ : L2.St} {H : Hp} {ta tb : TE} {l : List Nat} {n : Nat} (h : Ev ta σ H (.str (S l))) (h2 : Ev tb σ H (.int (n : Int))) (hl : l.length ≤ 1000) (hn : n ≤ 1000) :
    Ev (tOp (fun x y H Q => ∃ (l : List Nat) (n : Nat), x = .str (S l) ∧ y = .int (n : Int) ∧ l.length ≤ 1000 ∧ n ≤ 1000 ∧ Q (.str (S (List.replicate n l).flatten)) H) ta tb) σ H (.str (S (List.replicate n l).flatten)) := fun H1 e Q q =>
  h H1 e _ fun H2 e2 => h2 H2 (e.trans e2) _ fun H3 e3 => ⟨l, n, rfl, rfl, hl, hn, q H3 (e2.trans e3)⟩
end TY
namespace TY
open PySem PySem.Spec PyProof.Rows L2 Evl
/-! ### what the laws draw -/
def cellV (ns : List Int) (k : Nat) : Int := ns.getD k 0
def mixV (ns : List Int) (k : Nat) : Int :=
  ((cellV ns k + 7919 * (k : Int) + 1) * 48271 % 2147483647 * ((cellV ns k + 7919 * (k : Int) + 1) * 48271 % 2147483647) + 7 * ((cellV ns k + 7919 * (k : Int) + 1) * 48271 % 2147483647) + (k : Int)) % 2147483629
def drawV (n : Int) (k : Nat) : Int :=
  ((n + 104729 * (k : Int) + 17) * 69621 % 2147483647 * ((n + 104729 * (k : Int) + 17) * 69621 % 2147483647) + 3 * ((n + 104729 * (k : Int) + 17) * 69621 % 2147483647) + (k : Int)) % 2147483629
theorem mixV_pos (ns : List Int) (k : Nat) : 0 ≤ mixV ns k := Int.emod_nonneg _ (by decide)
theorem mixV_lt (ns : List Int) (k : Nat) : mixV ns k < 2147483629 := Int.emod_lt_of_pos _ (by decide)
theorem drawV_pos (n : Int) (k : Nat) : 0 ≤ drawV n k := Int.emod_nonneg _ (by decide)
def tbl : List Str := ["a", "ab", "ab", "abc", "abcd", "xyz", "bm", "abcdefghijklmnopqrstuvwxyz"]
/-- letters a to z -/
def Low (l : List Nat) : Prop := ∀ c ∈ l, 97 ≤ c ∧ c ≤ 122
def lettersV (n : Int) : List Nat := (tbl.getD (n % 8).toNat "").cps.toList
def manyV (n : Int) (m : Nat) : Nat := (n / 8 % ((m : Int) + 1)).toNat
def baseV (n : Int) (c : Nat) : List Nat := (List.range c).map fun k => (lettersV n).getD (drawV n k % ((lettersV n).length : Int)).toNat 0
def byV (n : Int) (c : Nat) : Nat := (1 + n / 2400 % ((c : Int) - 1)).toNat
def textV (n : Int) (m : Nat) : List Nat :=
  if (decide (n / 800 % 3 = 1) && decide ((1 : Int) < (manyV n m : Int))) = true then ((List.replicate (manyV n m) ((baseV n (manyV n m)).take (byV n (manyV n m)))).flatten).take (manyV n m) else baseV n (manyV n m)
theorem tbl_ok : ∀ x ∈ tbl, 0 < x.cps.toList.length ∧ x.cps.toList.length ≤ 26 ∧ ∀ c ∈ x.cps.toList, 97 ≤ c ∧ c ≤ 122 := by decide +kernel
theorem tbl_at {n : Int} (hn : 0 ≤ n) : tbl[(n % 8).toNat]? = some (S (lettersV n)) := by
  have h1 : (n % 8).toNat < 8 := by omega
  have h2 : (n % 8).toNat < tbl.length := h1
  have h3 : tbl[(n % 8).toNat]? = some (tbl[(n % 8).toNat]) := List.getElem?_eq_getElem h2
  rw [h3]
  show some _ = some (⟨((tbl.getD (n % 8).toNat "").cps.toList).toArray⟩ : Str)
  rw [List.getD_eq_getElem?_getD, h3]
  rfl
theorem letters_ok {n : Int} (hn : 0 ≤ n) : 0 < (lettersV n).length ∧ (lettersV n).length ≤ 26 ∧ Low (lettersV n) := tbl_ok _ (List.mem_of_getElem? (tbl_at hn))
theorem baseV_len (n : Int) (c : Nat) : (baseV n c).length = c := by simp [baseV]
theorem draw_ix {n : Int} (hn : 0 ≤ n) (k : Nat) : ∃ j : Nat, drawV n k % ((lettersV n).length : Int) = (j : Int) ∧ (lettersV n)[j]? = some ((lettersV n).getD (drawV n k % ((lettersV n).length : Int)).toNat 0) := by
  have h := letters_ok hn
  have h1 : 0 ≤ drawV n k % ((lettersV n).length : Int) := Int.emod_nonneg _ (by omega)
  have h2 : drawV n k % ((lettersV n).length : Int) < ((lettersV n).length : Int) := Int.emod_lt_of_pos _ (by omega)
  refine ⟨(drawV n k % ((lettersV n).length : Int)).toNat, by omega, ?_⟩
  have h3 : (drawV n k % ((lettersV n).length : Int)).toNat < (lettersV n).length := by omega
  rw [List.getD_eq_getElem?_getD, List.getElem?_eq_getElem h3]
  rfl
theorem baseV_low {n : Int} (hn : 0 ≤ n) (c : Nat) : Low (baseV n c) := by
  intro x hx
  obtain ⟨k, _, rfl⟩ := List.mem_map.mp hx
  obtain ⟨j, _, hj⟩ := draw_ix hn k
  exact (letters_ok hn).2.2 _ (List.mem_of_getElem? hj)
theorem manyV_le {n : Int} (hn : 0 ≤ n) (m : Nat) : manyV n m ≤ m := by
  have h2 : n / 8 % ((m : Int) + 1) < (m : Int) + 1 := Int.emod_lt_of_pos _ (by omega)
  unfold manyV
  omega
theorem manyV_int {n : Int} (hn : 0 ≤ n) (m : Nat) : n / 8 % ((m : Int) + 1) = (manyV n m : Int) := by
  have h1 : 0 ≤ n / 8 % ((m : Int) + 1) := Int.emod_nonneg _ (by omega)
  unfold manyV
  omega
theorem byV_int {n : Int} (hn : 0 ≤ n) {c : Nat} (hc : 1 < c) : 1 + n / 2400 % ((c : Int) - 1) = (byV n c : Int) := by
  have h1 : 0 ≤ n / 2400 % ((c : Int) - 1) := Int.emod_nonneg _ (by omega)
  unfold byV
  omega
theorem textV_len {n : Int} (hn : 0 ≤ n) (m : Nat) : (textV n m).length ≤ m := by
  have h := manyV_le hn m
  unfold textV
  split
  · rw [List.length_take]
    omega
  · rw [baseV_len]
    exact h
theorem textV_low {n : Int} (hn : 0 ≤ n) (m : Nat) : Low (textV n m) := by
  unfold textV
  split
  · intro x hx
    have h1 := List.mem_of_mem_take hx
    obtain ⟨l, hl, hx⟩ := List.mem_flatten.mp h1
    rw [List.eq_of_mem_replicate hl] at hx
    exact baseV_low hn _ x (List.mem_of_mem_take hx)
  · exact baseV_low hn _
/-- numbers of up to 63 cells, as the laws ask them -/
def spCell (K : PySem.W.Frag) : Sp := fun vs H Q _ => ∃ (a : Addr) (ns : List Int) (k : Nat), vs = [.ref a, .int (k : Int)] ∧ SqL K H a (ns.map V.int) ∧ ∀ H', Ex H H' → Q (.int (cellV ns k)) H'
def spMixed (K : PySem.W.Frag) : Sp := fun vs H Q _ => ∃ (a : Addr) (ns : List Int) (k : Nat), vs = [.ref a, .int (k : Int)] ∧ SqL K H a (ns.map V.int) ∧ k ≤ 1000 ∧ ∀ H', Ex H H' → Q (.int (mixV ns k)) H'
def spDrawn : Sp := fun vs H Q _ => ∃ (n : Int) (k : Nat), vs = [.int n, .int (k : Int)] ∧ k ≤ 1000 ∧ ∀ H', Ex H H' → Q (.int (drawV n k)) H'
def spText : Sp := fun vs H Q _ => ∃ (n : Int) (m : Nat), vs = [.int n, .int (m : Int)] ∧ 0 ≤ n ∧ m ≤ 100 ∧ ∀ H', Ex H H' → Q (.str (S (textV n m))) H'
section
variable {K : PySem.W.Frag} {H : Hp} {a : Addr} {ns : List Int}
theorem sv_cell {k : Nat} (h : SqL K H a (ns.map V.int)) : SpV (spCell K) [.ref a, .int (k : Int)] H (.int (cellV ns k)) := fun H1 e Q q E => ⟨a, ns, k, rfl, ex_l e h, q⟩
theorem sv_mixed {k : Nat} (h : SqL K H a (ns.map V.int)) (hk : k ≤ 1000) : SpV (spMixed K) [.ref a, .int (k : Int)] H (.int (mixV ns k)) := fun H1 e Q q E => ⟨a, ns, k, rfl, ex_l e h, hk, q⟩
theorem sv_drawn {n : Int} {k : Nat} (hk : k ≤ 1000) : SpV spDrawn [.int n, .int (k : Int)] H (.int (drawV n k)) := fun H1 e Q q E => ⟨n, k, rfl, hk, q⟩
theorem sv_text {n : Int} {m : Nat} (hn : 0 ≤ n) (hm : m ≤ 100) : SpV spText [.int n, .int (m : Int)] H (.str (S (textV n m))) := fun H1 e Q q E => ⟨n, m, rfl, hn, hm, q⟩
theorem cell_in {k : Nat} (h : k < ns.length) : atI (ns.map V.int) ((k : Nat) : Int) = some (V.int (cellV ns k)) := by
  refine atI_nat ?_
  rw [List.getElem?_map, List.getElem?_eq_getElem h]
  unfold cellV
  rw [List.getD_eq_getElem?_getD, List.getElem?_eq_getElem h]
  rfl
end
end TY
namespace TY
open PySem PySem.Spec PyProof.Rows L2 Evl
/-! ### data of ints and texts -/
def dI : PyData → Int | .int i => i | _ => 0
def dN (d : PyData) : Nat := (dI d).toNat
def dS : PyData → List Nat | .str x => x.cps.toList | _ => []
def DIs (ns : List Int) : List PyData := ns.map .int
theorem can_ints : ∀ ns : List Int, PyData.canLayAll0 (ns.map .int) = true
  | [] => by simp [PyData.canLayAll0]
  | n :: ns => by simp [PyData.canLayAll0, PyData.canLay0, can_ints ns]
theorem dep_ints : ∀ ns : List Int, PyData.depthAll (ns.map .int) = 0
  | [] => by simp [PyData.depthAll]
  | n :: ns => by simp [PyData.depthAll, PyData.depth, dep_ints ns]
theorem shaped_ints (ns : List Int) : SeqAt.shaped (.tuple (ns.map .int)) = true := by
  simp [SeqAt.shaped, PyData.canLay0, PyData.depth, can_ints, dep_ints]
theorem shaped_intsL (ns : List Int) : SeqAt.shaped (.list (ns.map .int)) = true := by
  simp [SeqAt.shaped, PyData.canLay0, PyData.depth, can_ints, dep_ints]
theorem shaped_nil : SeqAt.shaped (.list []) = true := shaped_intsL []
theorem eqv_ints : ∀ xs ys : List Int, PyData.eqvAll (xs.map .int) (ys.map .int) = decide (xs = ys)
  | [], [] => by simp [PyData.eqvAll]
  | [], y :: ys => by simp [PyData.eqvAll]
  | x :: xs, [] => by simp [PyData.eqvAll]
  | x :: xs, y :: ys => by
    rw [List.map_cons, List.map_cons, PyData.eqvAll, eqv_ints xs ys, PyData.eqv]
    by_cases h1 : x = y
    · by_cases h2 : xs = ys
      · simp [h1, h2]
      · simp [h1, h2]
    · simp [h1]
theorem eqv_tints (xs ys : List Int) : PyData.eqv (.tuple (xs.map .int)) (.tuple (ys.map .int)) = decide (xs = ys) := by
  rw [PyData.eqv, eqv_ints]
theorem eqv_nil (xs : List PyData) : PyData.eqv (.list xs) (.list []) = decide (xs = []) := by
  rw [PyData.eqv]
  cases xs with
  | nil => simp [PyData.eqvAll]
  | cons x r => simp [PyData.eqvAll]
/-! ### texts -/
theorem endswith_S (a b : List Nat) : Txt.endswith (S a) (S b) = decide (b.length ≤ a.length ∧ a.drop (a.length - b.length) = b) := by
  unfold Txt.endswith
  rw [S_len, S_len, Nat.zero_add]
  by_cases h : b.length ≤ a.length
  · have e : Builtin.Str.subAt (S a) (S b) (a.length - b.length) = decide (a.drop (a.length - b.length) = b) := by
      unfold Builtin.Str.subAt
      rw [S_len]
      have e1 : (S a).cps.extract (a.length - b.length) (a.length - b.length + b.length) = (a.drop (a.length - b.length)).toArray := by
        show a.toArray.extract (a.length - b.length) (a.length - b.length + b.length) = _
        rw [Nat.sub_add_cancel h, List.extract_toArray]
        congr 1
        rw [List.extract_eq_take_drop, List.take_of_length_le (by rw [List.length_drop]; omega)]
      rw [e1]
      show ((a.drop (a.length - b.length)).toArray == b.toArray) = _
      by_cases h2 : a.drop (a.length - b.length) = b
      · rw [h2]
        simp
      · rw [decide_eq_false h2, beq_eq_false_iff_ne]
        intro q
        exact h2 (by have := congrArg Array.toList q; simpa using this)
    rw [e, decide_eq_true h]
    by_cases h2 : a.drop (a.length - b.length) = b
    · simp [h, h2]
    · simp [h2]
  · simp [h]
section
variable {K : PySem.W.Frag} {σ : L2.St} {H : Hp} {ta tb te : TE} {tA : TA} {x : V}
theorem ev_ends {a b : List Nat} (h : Ev ta σ H (.str (S a))) (h2 : Ev tb σ H (.str (S b))) : Ev (tM1 (fun x xs H Q => ∃ a b, x = .str a ∧ xs = [.str b] ∧ Q (.bl (Txt.endswith a b)) H) ta tb) σ H (.bl (decide (b.length ≤ a.length ∧ a.drop (a.length - b.length) = b))) := fun H1 e Q q =>
  h H1 e _ fun H2 e2 => ⟨⟨_, rfl⟩, h2 H2 (e.trans e2) _ fun H3 e3 => ⟨_, _, rfl, rfl, by rw [endswith_S]; exact q H3 (e2.trans e3)⟩⟩
/-! ### isinstance -/
theorem ev_isi {T C : String} {b : Bool} (h : EvA tA σ H [x, .ty C]) (ht : ∀ H', Ex H H' → TyX K H' x (.type T)) (hb : kitB T C = some b) (hc : ClsV (.ty C) (.type C)) : Ev (tCB (rIsi K) tA) σ H (.bl b) := fun H1 e Q q =>
  h H1 e _ fun H2 e2 => ⟨x, .ty C, .type T, .type C, b, rfl, hc, ht H2 (e.trans e2), kit_ty hb, q H2 e2⟩
theorem ev_intB {b : Bool} (h : Ev te σ H (.bl b)) : Ev (tCB (fun xs H Q => (∃ i, xs = [.int i] ∧ Q (.int i) H) ∨ ∃ k, xs = [.bl k] ∧ Q (.int (if k then 1 else 0)) H) (tCons te tNil)) σ H (.int (if b then 1 else 0)) := fun H1 e Q q =>
  h H1 e _ fun H2 e2 => .inr ⟨b, rfl, q H2 e2⟩
/-! ### a number among numbers, a text among texts -/
theorem inV_ints (x : Int) : ∀ ns : List Int, inV (.int x) (ns.map V.int) = decide (x ∈ ns)
  | [] => by simp [inV]
  | n :: ns => by
    have ih := inV_ints x ns
    unfold inV at ih ⊢
    rw [List.map_cons, List.any_cons, ih]
    show ((n == x) || _) = _
    by_cases h : n = x
    · subst h
      simp
    · have h2 : ¬ x = n := fun z => h z.symm
      simp [h, h2]
theorem flat_ints : ∀ ns : List Int, (ns.map V.int).all flatV = true
  | [] => rfl
  | n :: ns => by
    rw [List.map_cons, List.all_cons, flat_ints ns]
    rfl
theorem inV_strs (x : Str) : ∀ ns : List Str, inV (.str x) (ns.map V.str) = decide (x ∈ ns)
  | [] => by simp [inV]
  | n :: ns => by
    have ih := inV_strs x ns
    unfold inV at ih ⊢
    rw [List.map_cons, List.any_cons, ih]
    show ((n == x) || _) = _
    by_cases h : n = x
    · subst h
      simp
    · have h2 : ¬ x = n := fun z => h z.symm
      simp [h, h2]
theorem flat_strs : ∀ ns : List Str, (ns.map V.str).all flatV = true
  | [] => rfl
  | n :: ns => by
    rw [List.map_cons, List.all_cons, flat_strs ns]
    rfl
theorem ev_inTI {x : Int} {ns : List Int} (h : Ev ta σ H (.int x)) (h2 : EvD tb σ H (.tuple (ns.map .int))) : Ev (tOp (rIn K false) ta tb) σ H (.bl (decide (x ∈ ns))) := fun H1 e Q q =>
  h H1 e _ fun H2 e2 => h2 H2 (e.trans e2) _ fun v H3 e3 hv => by
    obtain ⟨a, xs, rfl, h3, h4⟩ := hv.tup_
    cases h4.ints
    exact ⟨a, _, rfl, .inr (st_of h3), rfl, flat_ints ns, by
      show Q (.bl (inV (.int x) (ns.map V.int))) H3
      rw [inV_ints]
      exact q H3 (e2.trans e3)⟩
theorem ev_niTI {x : Int} {ns : List Int} (h : Ev ta σ H (.int x)) (h2 : EvD tb σ H (.tuple (ns.map .int))) : Ev (tOp (rIn K true) ta tb) σ H (.bl (!decide (x ∈ ns))) := fun H1 e Q q =>
  h H1 e _ fun H2 e2 => h2 H2 (e.trans e2) _ fun v H3 e3 hv => by
    obtain ⟨a, xs, rfl, h3, h4⟩ := hv.tup_
    cases h4.ints
    exact ⟨a, _, rfl, .inr (st_of h3), rfl, flat_ints ns, by
      show Q (.bl (!inV (.int x) (ns.map V.int))) H3
      rw [inV_ints]
      exact q H3 (e2.trans e3)⟩
theorem ev_inLS {x : Str} {ns : List Str} {p : Addr} (h : Ev ta σ H (.str x)) (h2 : Ev tb σ H (.ref p)) (hp : H p = some (.lst (ns.map V.str))) : Ev (tOp (rIn K false) ta tb) σ H (.bl (decide (x ∈ ns))) := fun H1 e Q q =>
  h H1 e _ fun H2 e2 => h2 H2 (e.trans e2) _ fun H3 e3 => ⟨p, _, rfl, .inl (sq_of (((e.trans e2).trans e3) _ _ hp)), rfl, flat_strs ns, by
      show Q (.bl (inV (.str x) (ns.map V.str))) H3
      rw [inV_strs]
      exact q H3 (e2.trans e3)⟩
theorem ev_niLS {x : Str} {ns : List Str} {p : Addr} (h : Ev ta σ H (.str x)) (h2 : Ev tb σ H (.ref p)) (hp : H p = some (.lst (ns.map V.str))) : Ev (tOp (rIn K true) ta tb) σ H (.bl (!decide (x ∈ ns))) := fun H1 e Q q =>
  h H1 e _ fun H2 e2 => h2 H2 (e.trans e2) _ fun H3 e3 => ⟨p, _, rfl, .inl (sq_of (((e.trans e2).trans e3) _ _ hp)), rfl, flat_strs ns, by
      show Q (.bl (!inV (.str x) (ns.map V.str))) H3
      rw [inV_strs]
      exact q H3 (e2.trans e3)⟩
/-! ### texts put together -/
theorem foldl_glue : ∀ (ls : List (List Nat)) (z : List Nat), (ls.map S).foldl (fun acc p => acc ++ (S []).cps ++ p.cps) z.toArray = (z ++ ls.flatten).toArray
  | [], z => by simp
  | l :: ls, z => by
    rw [List.map_cons, List.foldl_cons]
    have e : z.toArray ++ (S []).cps ++ (S l).cps = (z ++ l).toArray := by
      show z.toArray ++ ([] : List Nat).toArray ++ l.toArray = _
      simp
    rw [e, foldl_glue ls (z ++ l)]
    simp
theorem join_S : ∀ ls : List (List Nat), Txt.join (S []) (ls.map S) = S ls.flatten
  | [] => rfl
  | l :: ls => by
    show (⟨(ls.map S).foldl (fun acc p => acc ++ (S []).cps ++ p.cps) l.toArray⟩ : Str) = S (l :: ls).flatten
    rw [foldl_glue]
    rfl
theorem ev_join {ls : List (List Nat)} (h : Ev te σ H (.str (S []))) (h2 : EvN tb σ H (ls.map fun l => .str (S l))) (hz : ls.flatten.length ≤ 100000) : Ev (tM1 (fun x xs H Q => ∃ a p, ∃ ys : List Str, x = .str a ∧ xs = [.ref p] ∧ (SqL K H p (ys.map V.str) ∨ SqT K H p (ys.map V.str)) ∧
      (ys.map (·.length)).sum + ys.length * a.length ≤ 16777216 ∧ Q (.str (Txt.join a ys)) H) te tb) σ H (.str (S ls.flatten)) := fun H1 e Q q =>
  h H1 e _ fun H2 e2 => ⟨⟨_, rfl⟩, h2 H2 (e.trans e2) _ fun p xs H3 hp e3 h3 h4 => by
    have h5 : TdAll H3 xs ((ls.map S).map PyData.str) := by
      rw [List.map_map]
      exact h4
    cases h5.strs
    refine ⟨S [], p, ls.map S, rfl, rfl, .inl (sq_of h3), ?_, by rw [join_S]; exact q H3 (e2.trans e3)⟩
    have e5 : ((ls.map S).map (·.length)).sum = ls.flatten.length := by
      rw [List.length_flatten, List.map_map]
      congr 1
    rw [e5]
    have e6 : (S []).length = 0 := rfl
    rw [e6]
    omega⟩
/-! ### a range with a step -/
theorem ei_step {tA : TA} {a b c m : Nat} (h : EvA tA σ H [.int (a : Int), .int (b : Int), .int (c : Int)]) (hc : 0 < c) (hb : b ≤ 40000) (ha : a ≤ 40000) (hcz : c ≤ 40000) (hm : m = if a < b then (b - a - 1) / c + 1 else 0) :
    EvI (iRng3 tA) σ H ((List.range m).map fun (i : Nat) => PyData.int ((a : Int) + (i : Int) * (c : Int))) := fun H1 e R q =>
  h H1 e _ fun H2 e2 => by
    have hsz : Builtin.Range.rangeSize (a : Int) (b : Int) (c : Int) = (m : Int) := by
      unfold Builtin.Range.rangeSize
      rw [if_pos (by omega), hm]
      by_cases hab : a < b
      · rw [if_pos hab, if_pos (by omega)]
        have e0 : (b : Int) - (a : Int) - 1 = ((b - a - 1 : Nat) : Int) := by omega
        rw [e0]
        rfl
      · rw [if_neg hab, if_neg (by omega)]
        rfl
    have hm40 : m ≤ 40001 := by
      rw [hm]
      split
      · have := Nat.div_le_self (b - a - 1) c
        omega
      · omega
    refine ⟨(a : Int), (b : Int), (c : Int), m, rfl, ⟨by omega, by omega, ?_, hsz⟩, ?_⟩
    · unfold Builtin.Range.small
      rw [hsz]
      simp only [Builtin.Range.rangeFitsLong, Bool.and_eq_true, Bool.or_eq_true, decide_eq_true_eq, beq_iff_eq]
      rw [if_pos (by omega)]
      refine ⟨⟨⟨⟨⟨by omega, by omega⟩, ⟨by omega, by omega⟩⟩, ⟨by omega, by omega⟩⟩, ⟨by omega, by omega⟩⟩, ?_⟩
      first
        | exact .inr (by omega)
        | (right; simp; omega)
    · refine q _ (fun _ => True) H2 e2 (fun _ _ => trivial) ?_
      have hl : ((List.range m).map fun (i : Nat) => PyData.int ((a : Int) + (i : Int) * (c : Int))).length = m := by simp
      rw [hl]
      refine walk_rangeC.mono (fun _ _ => trivial) fun i H x H' hi _ y => ?_
      obtain ⟨rfl, rfl⟩ := y
      exact ⟨Ex.refl _, .int ((a : Int) + (i : Int) * (c : Int)), by simp [hi], .int _⟩
end
end TY
namespace TY
open PySem PySem.Spec PyProof.Rows L2 Evl
/-! ### list(a text) -/
section
variable {prog : Program} {w : World} {A : Around} {E : Value → Shared → Prop} {s : Shared}
theorem list_str_raw {Q : Value → Shared → Prop} {x : Str} {t : Tok} (hh : A.handled = none) (hn : x.cps.size ≤ sizeLine)
    (hQ : ∀ (h' : Heap) (tk : Nat) (acc' : Array Value) (c' : Nat), (∀ b o, s.heap.get? b = some o → h'.get? b = some o) → h'.get? s.heap.objs.size = some { cls := .type "list", dict := none, data := .seq acc' c', slots := #[] } → ItemsOf (SignAt x) acc' x.cps.size → Q (.ref s.heap.objs.size) { s with heap := h', toks := tk }) :
    wpAny (model prog w) A (call (.type "list") [.str x t]) Q E s := by
  refine callType_codes (Q₁ := fun obj s₁ => obj = .ref s.heap.objs.size ∧ s₁ = { s with heap := s.heap.push { cls := .type "list", data := .seq #[] } }) PySem.F.called_list (PySem.F.typeCall_list_1 _) PySem.F.entry_list_init
    (code_list_new _ ⟨rfl, rfl⟩) fun obj s₁ h₁ => ?_
  obtain ⟨rfl, rfl⟩ := h₁
  have hS : (s.heap.push { cls := .type "list", data := .seq #[] }).get? s.heap.objs.size = some { cls := .type "list", data := .seq #[] } := Heap.get?_push_size _ rfl
  refine ⟨⟨_, hS, rfl⟩, PySem.F.args_list_init_2 _ _, ?_⟩
  show wpAny _ _ (do let old ← Builtin.List.listItems (.ref s.heap.objs.size); Builtin.List.listUpdate (.ref s.heap.objs.size) (fun _ => #[]); letGo old.toList.reverse; Builtin.List.listExtendWith (.ref s.heap.objs.size) (.str x t) .none) _ _ _
  refine wpAny_bind ?_
  unfold Builtin.List.listItems
  refine wpAny_bind (wpAny_seqItems hS rfl (wpAny_pure ?_))
  show wpAny _ _ (updateSeq s.heap.objs.size (fun _ => #[]) >>= fun _ => letGo (#[] : Array Value).toList.reverse >>= fun _ => Builtin.List.listExtendWith (.ref s.heap.objs.size) (.str x t) .none) _ _ _
  refine wpAny_bind (wpAny_updateSeq hS rfl ?_)
  have hS₂ := Heap.get?_update_self (Obj.mapSeq (fun _ => (#[] : Array Value))) hS rfl
  generalize hH : (s.heap.push { cls := .type "list", data := .seq #[] }).update s.heap.objs.size (Obj.mapSeq (fun _ => (#[] : Array Value))) = H at hS₂ ⊢
  have oth : ∀ b o, s.heap.get? b = some o → H.get? b = some o := fun b o e => by
    have hb : b ≠ s.heap.objs.size := Nat.ne_of_lt (Heap.lt_size e)
    rw [← hH]
    exact (Heap.get?_update_other _ _ (Ne.symm hb)).trans (Heap.get?_push_of_some _ e)
  refine wpAny_bind (wpAny_letGo ?_)
  unfold Builtin.List.listExtendWith
  refine wpAny_bind (wpAny_typeOf (T := "str") (v := .str x t) rfl ?_)
  have h1 : Builtin.List.listSameRef (.ref s.heap.objs.size) (.str x t) = false := rfl
  have h2 : (Value.type "str" == Value.type "list") = false := by decide
  have h3 : (Value.type "str" == Value.type "tuple") = false := by decide
  simp only [h1, h2, h3, Bool.or_false, Bool.false_eq_true, if_false]
  refine wpAny_bind (wpAny_pyIter_str fun o St W hst => ?_)
  refine wpAny_bind (wpAny_holding ?_)
  unfold Builtin.List.listLengthHint
  refine wpAny_bind (wpAny_specialOf (T := "str") (v := .str x t) rfl PySem.F.str_len ?_)
  wp_delta
  refine wpAny_bind (wpAny_isInstance (T := "str") (v := .str x t) (b := true) rfl (by rw [isSubtype_type]; kernel_rfl) ?_)
  show wpAny _ A.in1.in1 (typeOf (Value.str x t) >>= _) _ _ _
  refine wpAny_bind (wpAny_typeOf (T := "str") (v := .str x t) rfl ?_)
  refine wpAny_pure ?_
  rw [if_neg (by decide)]
  have hlt : s.heap.objs.size < H.objs.size := Heap.lt_size hS₂
  have hSf : s.heap.objs.size ∉ [H.objs.size] := fun hm => absurd hlt (by rw [← List.mem_singleton.mp hm]; exact Nat.lt_irrefl _)
  have hS₃ := Heap.get?_push_of_some o hS₂
  refine wpAny_pure ⟨plainId_quiet PySem.F.plain_extend_loop _, codeAny_extend_loopS (W A.in1.in1 hh).toS hn _ hSf _ x.cps.size 0 _ _ _ rfl (Nat.zero_le _) hst hS₃ (ItemsOf.nil _) fun s' acc' c' hm hS' hacc => ?_⟩
  rw [Moved.eq_with hm]
  refine ⟨rfl, hQ s'.heap s'.toks acc' c' (fun b ob e => hm.heap b ob (fun hb => ?_) (Heap.get?_push_of_some _ (oth b ob e))) hS' hacc⟩
  have hlt2 := Heap.lt_size e
  rcases List.mem_cons.mp hb with h | h
  · exact absurd hlt2 (h ▸ Nat.lt_irrefl _)
  · rw [List.mem_singleton.mp h] at hlt2
    exact absurd (Nat.lt_trans hlt2 hlt) (Nat.lt_irrefl _)
end
theorem vals_of_items {P : Nat → Value → Prop} {n : Nat} {acc : Array Value} {xs : List V} (h : ItemsOf P acc n) (hn : xs.length = n) (hP : ∀ (j : Nat) (u : Value) (x : V), xs[j]? = some x → P j u → RelV x u) : Vals xs acc.toList := by
  obtain ⟨h1, h2⟩ := h
  have hl : acc.toList.length = xs.length := by
    rw [Array.length_toList, h1, hn]
  have key : ∀ (xs : List V) (us : List Value), us.length = xs.length → (∀ (j : Nat) (u : Value) (x : V), us[j]? = some u → xs[j]? = some x → RelV x u) → Vals xs us := by
    intro xs
    induction xs with
    | nil =>
      intro us hu _
      cases us with
      | nil => exact .nil
      | cons _ _ => simp at hu
    | cons x xs ih =>
      intro us hu hr
      cases us with
      | nil => simp at hu
      | cons u us => exact .cons (hr 0 u x rfl rfl) (ih us (by simpa using hu) fun j u' x' a b => hr (j + 1) u' x' (by simpa using a) (by simpa using b))
  refine key xs acc.toList hl fun j u x hu hx => hP j u x hx (h2 j u ?_)
  rw [← hu]
  exact Array.getElem?_toList.symm
def rListStr : List V → Hp → VK → Prop := fun xs H Q => ∃ l : List Nat, xs = [.str (S l)] ∧ l.length ≤ 100000 ∧ ∀ p, H p = none → Q (.ref p) (upd H p (.lst (l.map fun c => .str (S [c]))))
theorem call_list_str {X : Cx} (hc : X.calm = true) : CallR X (.type "list") rListStr := by
  intro pins s σ H xs us Q I r h
  obtain ⟨l, rfl, hz, q⟩ := h
  obtain ⟨u, rfl, t, rfl⟩ := vals1 r
  refine list_str_raw (I.ok.hd hc) (by show l.toArray.size ≤ _; rw [List.size_toArray]; exact sz_of hz) fun h' tk acc' c' hk he hi => ?_
  refine ⟨.ref s.heap.objs.size, _, I.laid (t' := tk) hk (Nat.le_refl _) (show ObjOk X.prog X.w _ h' _ (.lst _) from ⟨by rw [List.length_map]; exact sz_of hz, acc'.toList, c', vals_of_items hi ?_ ?_, by rw [he]⟩), rfl, q _ (I.hok.fresh (Nat.le_refl _))⟩
  · rw [List.length_map]
    exact List.size_toArray.symm
  · intro j u x hx hu
    obtain ⟨c, t', hc, rfl⟩ := hu
    rw [List.getElem?_map] at hx
    have hc' : l[j]? = some c := by
      rw [← hc]
      exact List.getElem?_toArray.symm
    rw [hc'] at hx
    cases hx
    exact ⟨_, rfl⟩
theorem en_listStr {σ : L2.St} {H : Hp} {te : TE} {l : List Nat} (h : Ev te σ H (.str (S l))) (hz : l.length ≤ 100000) : EvN (tCB rListStr (tCons te tNil)) σ H (l.map fun c => .str (S [c])) := fun H1 e Q q =>
  h H1 e _ fun H2 e2 => ⟨l, rfl, hz, fun p hp => q p _ _ (fresh_back e2 hp) (e2.trans (Ex.new hp)) upd_same (by
    have := TdAll.of_strs (H := upd H2 p (.lst (l.map fun c => .str (S [c])))) (l.map fun c => S [c])
    rw [List.map_map, List.map_map] at this
    exact this)⟩
end TY
namespace TY
open PySem PySem.Spec PyProof.Rows L2 Evl
/-! ### addresses of one's own -/
section
variable {X : Cx} {pins : List (Addr × Obj)} {σ : L2.St} {H : Hp} {s : Shared}
def Own (X : Cx) (pins : List (Addr × Obj)) (b : Addr) : Prop := X.s_0.heap.objs.size ≤ b ∧ b ≠ X.env.locals ∧ (∀ x c, X.env.cells.lookup x = some c → c ≠ b) ∧ (∀ p ∈ X.pn ++ pins, p.1 ≠ b)
theorem own_new (I : Inv X pins σ H s) {b : Addr} (hb : s.heap.objs.size ≤ b) : Own X pins b ∧ H b = none ∧ b ∉ X.fs := by
  have lt : ∀ {c o}, s.heap.get? c = some o → c ≠ b := fun {c o} e z => by
    rw [z] at e
    exact absurd (Nat.lt_of_lt_of_le (Heap.lt_size e) hb) (Nat.lt_irrefl _)
  refine ⟨⟨Nat.le_trans I.sz hb, fun z => ?_, fun x c e => ?_, fun p hp => lt (I.pin p hp).1⟩, I.hok.fresh hb, I.nofs hb⟩
  · have h1 := I.lt
    rw [← z] at h1
    exact absurd (Nat.lt_of_lt_of_le h1 hb) (Nat.lt_irrefl _)
  · obtain ⟨v, o, ho, _⟩ := I.cell x c e
    exact lt ho
theorem inv_ch {ch : List Addr} {h' : Heap} {t' : Nat} (I : Inv X pins σ H s) (hch : ∀ b ∈ ch, H b = none ∧ Own X pins b) (k : ∀ b o, b ∉ ch → s.heap.get? b = some o → h'.get? b = some o) : Inv X pins σ H { s with heap := h', toks := t' } := by
  have nit : ∀ b u, H b = some u → b ∉ ch := fun b u e z => by
    rw [(hch b z).1] at e
    cases e
  refine I.step (g' := s.gens) (d' := s.drawn) (ch := ch) (fun b hb => ?_) (fun b o _ _ hc e _ => k b o hc e) (fun b o _ _ hc e _ => ⟨o.slots, k b o hc e⟩) (fun _ _ _ _ n => n)
    (fun b o hc e => ⟨o, k b o hc e⟩) (fun _ _ e => e) (fun _ _ _ e => e) (fun b ps e => ⟨#[], by rw [e]; simp⟩) (fun m hm => ?_) (fun b u e => ?_) I.bare
  · obtain ⟨_, h1, h2, h3, h4⟩ := hch b hb
    exact ⟨.inr h1, h2, h3, h4⟩
  · obtain ⟨o, es, ep, ho, r⟩ := hm
    exact ⟨o, es, ep, k _ o (fun z => (hch _ z).2.2.1 rfl) ho, r⟩
  · refine (I.hok b u e).stay (fun c v hc q => k c v ?_ q) (fun _ q => q) fun _ _ q => q
    rcases hc with z | z
    · rw [z]
      exact nit b u e
    · exact nit c _ z
theorem inv_track {a : Addr} {o : HO} (I : Inv X pins σ H s) (hn : H a = none) (ho : Own X pins a) (new : ObjOk X.prog X.w (upd H a o) s.heap a o) : Inv X pins σ (upd H a o) s := by
  have sm : ∀ b u, H b = some u → upd H a o b = some u := fun b u e => by
    rw [upd_ne (ne_of_none e hn)]
    exact e
  refine I.step (h' := s.heap) (g' := s.gens) (d' := s.drawn) (t' := s.toks) (ch := [a]) (fun b hb => ?_) (fun _ _ _ _ _ e _ => e) (fun b o _ _ _ e _ => ⟨o.slots, e⟩) (fun b o hc _ n => by rw [upd_ne (by simpa using hc)]; exact n)
    (fun b o _ e => ⟨o, e⟩) (fun b xs e => sm b _ e) (fun b o u e => sm b _ e) (fun b ps e => ⟨#[], by rw [sm b _ e]; simp⟩) (fun m hm => hm) (fun b u e => ?_) I.bare
  · obtain rfl : b = a := by simpa using hb
    exact ⟨.inr ho.1, ho.2.1, ho.2.2.1, ho.2.2.2⟩
  · by_cases hb : b = a
    · subst hb
      rw [upd_same] at e
      cases e
      exact new
    · rw [upd_ne hb] at e
      exact (I.hok b u e).stay (fun _ _ _ q => q) (fun c q => sm c _ q) fun c xs q => sm c _ q
/-- a def runs within calls of built-ins -/
theorem fn_sub {A' : Around} {k : Nat} {f : Addr} {fd : FuncData} {ps : List Str} {sp : Sp} {us : List Value} {vs : List V} {Q : VK} {E : Value → Shared → Prop}
    (F : FnOk X.prog X.w X.K X.mg X.base CX0 k f fd ps sp) (hr : Room k A') (hf : A'.frames = some X.stack) (hb : Binds X.K fd ps []) (I : Inv X pins σ H s) (r : Vals vs us) (h : sp vs H Q E0) :
    wpAny (model X.prog X.w) A' (call (.ref f) us) (EP X pins σ Q) E s := by
  have hl : us.length = ps.length := by rw [← r.length]; exact F.len _ _ _ _ h
  have e := I.env0
  have bt := hb s us I.kIn (by rw [List.append_nil]; exact hl)
  rw [List.append_nil] at bt
  refine wpAny_call (codeAny_mono (F.run A' X.stack s H ⟨us, []⟩ us vs Q E0 hr ⟨hf, e.mod, e.bs, e.bsz, e.funs, e.frf, e.hok, e.bare⟩ bt r h) fun r s' hq => ?_)
  cases r with
  | error e => exact (show False from hq).elim
  | ok fl =>
    cases fl with
    | ret u => exact I.after hq
    | next => exact False.elim hq
    | brk => exact False.elim hq
    | cont => exact False.elim hq
theorem each_reads (I : Inv X pins σ H s) : ∀ {ks : List V} {us : List Value} {ds : List PyData}, TdAll H ks ds → Vals ks us → PySem.W.EachIs (fun v d => ∃ as, Reads s.heap v d as) us ds
  | _, _, _, .nil, .nil => .nil
  | _, _, _, .cons h hs, .cons r rs => .cons (Dp.reads I _ _ _ h.dp r) (each_reads I hs rs)
theorem each_vals {β : Type} {val : β → V} : ∀ {us : List Value} {bs : List β}, PySem.W.EachIs (fun u b => RelV (val b) u) us bs → Vals (bs.map val) us
  | _, _, .nil => .nil
  | _, _, .cons h hs => .cons h (each_vals hs)
theorem vals_each {β : Type} {val : β → V} : ∀ {us : List Value} {bs : List β}, Vals (bs.map val) us → PySem.W.EachIs (fun u b => RelV (val b) u) us bs
  | _, [], h => by
    cases h
    exact .nil
  | _, b :: bs, h => by
    cases h with
    | cons h hs => exact .cons h (vals_each hs)
theorem seq_nocell {t : String} {vs : Array Value} {n : Nat} (v : Option Value) : (seqObj t vs n).data ≠ Data.cell v := fun z => by cases z
theorem Own.cons {p : Addr × Obj} {b : Addr} (h : Own X pins b) (hp : p.1 ≠ b) : Own X (p :: pins) b := ⟨h.1, h.2.1, h.2.2.1, fun q hq => by
  rcases List.mem_append.mp hq with z | z
  · exact h.2.2.2 q (List.mem_append_left _ z)
  · rcases List.mem_cons.mp z with z | z
    · rw [z]
      exact hp
    · exact h.2.2.2 q (List.mem_append_right _ z)⟩
theorem pins_drop {p : Addr × Obj} (I : Inv X (p :: pins) σ H s) : Inv X pins σ H s := I.pins_of fun q hq => I.pin q (List.mem_append_right _ (List.mem_cons_of_mem _ hq))
theorem pins_add {b : Addr} {o : Obj} (I : Inv X pins σ H s) (h : s.heap.get? b = some o) (hn : H b = none) (ho : Own X pins b) (nf : b ∉ X.fs) (nc : ∀ v, o.data ≠ .cell v) : Inv X ((b, o) :: pins) σ H s := I.pins_of fun q hq => by
  rcases List.mem_cons.mp hq with z | z
  · rw [z]
    exact ⟨h, hn, ho.2.1, nf, nc⟩
  · exact I.pin q (List.mem_append_right _ z)
open PySem.W in
/-- list.sort with a key that runs code of one's own; the list's own object is untracked -/
theorem sort_keyed {A' : Around} {β : Type} {val : β → V} {key : β → PyData} {bs : List β} {a : Addr} {n : Nat} {vs : List Value} {f : Value} {P : PySem.Fin → Shared → Prop} {E : Value → Shared → Prop}
    (I : Inv X pins σ H s) (ha : H a = none) (oa : Own X pins a) (na : a ∉ X.fs) (ho : s.heap.get? a = some (seqObj "list" vs.toArray n)) (rv : Vals (bs.map val) vs) (hZ : vs.length ≤ sizeLine)
    (hal : AllAlike (bs.map key)) (hsk : Sortable (bs.map key)) (hu : ∀ b ∈ bs, A'.units + (key b).depth < cLine)
    (turn : ∀ b ∈ bs, ∀ (pins' : List (Addr × Obj)) (s' : Shared) (H' : Hp) (u : Value), Inv X pins' σ H' s' → Ex H H' → RelV (val b) u → (∀ p ∈ pins, p ∈ pins') → wpAny (model X.prog X.w) A' (call f [u]) (EP X pins' σ fun v H2 => Ex H' H2 ∧ Td H2 v (key b)) (fun _ _ => False) s')
    (h : ∀ (s' : Shared) (H' : Hp) (out : List Value) (c : Nat), Inv X pins σ H' s' → Ex H H' → H' a = none → s'.heap.get? a = some (seqObj "list" out.toArray c) → Vals ((bs.mergeSort (dataLe false key)).map val) out → P (.done (.ret .none)) s') :
    wpAny (model X.prog X.w) A' (ksk_tree a f false) P E s := by
  have hlt : a < s.heap.objs.size := Heap.lt_size ho
  have hlen : bs.length = vs.length := by
    have e := rv.length
    rw [List.length_map] at e
    exact e
  obtain ⟨e1, ho1⟩ : ∃ e1, (s.heap.update a (Obj.mapSeq fun _ => (#[] : Array Value))).get? a = some (seqObj "list" #[] e1) := ⟨_, get?_update_seq ho fun _ => #[]⟩
  have hkS : ((s.heap.update a (Obj.mapSeq fun _ => (#[] : Array Value))).push (seqObj "tuple" vs.toArray 0)).objs.size = s.heap.objs.size + 1 := by rw [size_push', Heap.size_update]
  have sb := Heap.SameBut.update s.heap a (Obj.mapSeq fun _ => (#[] : Array Value))
  unfold ksk_tree
  refine wpAny_bind (listItems_at ho rfl ?_)
  refine wpAny_bind (listUpdate_at ho rfl ?_ (by rw [List.size_toArray]; exact hZ) (Nat.zero_le _))
  refine wpAny_bind (seqEpoch_at ho1 rfl ?_)
  refine wpAny_bind (wpAny_newTuple ?_ (by show vs.length ≤ _; exact hZ))
  refine wpAny_bind (wpAny_newList ?_ (Nat.zero_le _))
  refine wpAny_holding ?_
  have oK := own_new I (b := ((s.heap.update a (Obj.mapSeq fun _ => (#[] : Array Value))).push (seqObj "tuple" vs.toArray 0)).objs.size) (by rw [hkS]; exact Nat.le_succ _)
  have nk : (((s.heap.update a (Obj.mapSeq fun _ => (#[] : Array Value))).push (seqObj "tuple" vs.toArray 0)).push (seqObj "list" #[] 0)).get? ((s.heap.update a (Obj.mapSeq fun _ => (#[] : Array Value))).push (seqObj "tuple" vs.toArray 0)).objs.size = some (seqObj "list" #[] 0) := Heap.get?_push_size _ rfl
  have na1 : (((s.heap.update a (Obj.mapSeq fun _ => (#[] : Array Value))).push (seqObj "tuple" vs.toArray 0)).push (seqObj "list" #[] 0)).get? a = some (seqObj "list" #[] e1) := Heap.get?_push_of_some _ (Heap.get?_push_of_some _ ho1)
  have hka : ((s.heap.update a (Obj.mapSeq fun _ => (#[] : Array Value))).push (seqObj "tuple" vs.toArray 0)).objs.size ≠ a := by
    rw [hkS]
    exact Nat.ne_of_gt (Nat.lt_succ_of_lt hlt)
  have I1 : Inv X pins σ H { s with heap := ((s.heap.update a (Obj.mapSeq fun _ => (#[] : Array Value))).push (seqObj "tuple" vs.toArray 0)).push (seqObj "list" #[] 0) } :=
    inv_ch (t' := s.toks) (ch := [a]) I (fun b hb => by
      obtain rfl : b = a := by simpa using hb
      exact ⟨ha, oa⟩) fun b o hb e => Heap.get?_push_of_some _ (Heap.get?_push_of_some _ ((sb.2 b (by simpa using hb)).trans e))
  generalize ((s.heap.update a (Obj.mapSeq fun _ => (#[] : Array Value))).push (seqObj "tuple" vs.toArray 0)).objs.size = kS at oK nk hka ⊢
  generalize ((s.heap.update a (Obj.mapSeq fun _ => (#[] : Array Value))).push (seqObj "tuple" vs.toArray 0)).push (seqObj "list" #[] 0) = h1 at I1 nk na1 ⊢
  obtain ⟨oK, hK, nK⟩ := oK
  unfold ksk_rest
  refine wpAny_bind (wpAny_rule ?_)
  first
    | rw [List.forIn_toArray]
    | (rw [← Array.forIn_toList]; simp only [List.toList_toArray])
    | rw [← Array.forIn_toList]
  refine wpAny_bind (ksk_fold (fun j s' => ∃ H' kA e ks, Inv X ((a, seqObj "list" #[] e1) :: (kS, seqObj "list" kA e) :: pins) σ H' s' ∧ Ex H H' ∧ Vals ks kA.toList ∧ TdAll H' ks ((bs.map key).take j)) vs 0 _ ?init ?step ?done)
  case init =>
    refine ⟨H, #[], 0, [], ?_, Ex.refl H, .nil, .nil⟩
    exact pins_add (pins_add I1 nk hK oK nK seq_nocell) na1 ha (oa.cons hka) na seq_nocell
  case step =>
    rintro j x s' hx ⟨H', kA, e, ks, Iv, ex, rk, tk⟩
    simp only [Nat.zero_add] at tk ⊢
    have hj : j < bs.length := by
      have := (List.getElem?_eq_some_iff.mp hx).1
      omega
    have hm : (bs.map val)[j]? = some (val bs[j]) := by
      rw [List.getElem?_map, List.getElem?_eq_getElem hj]
      rfl
    obtain ⟨u, hu1, hu2⟩ := rv.get hm
    rw [hx] at hu1
    cases hu1
    have hz : kA.size ≤ vs.length := by
      have q1 := rk.length
      have q2 := tk.len
      rw [List.length_take, List.length_map] at q2
      have q3 : ks.length = kA.toList.length := q1
      have q4 : kA.toList.length = kA.size := Array.length_toList
      have q5 : vs.length = bs.length := hlen.symm
      have q6 : ks.length ≤ bs.length := by
        rw [q2]
        exact Nat.min_le_right _ _
      rw [← q4, ← q3, q5]
      exact q6
    refine wpAny_bind (wpAny_attempt (wpAny_mono (turn bs[j] (List.getElem_mem hj) _ s' H' x Iv ex hu2 (fun p hp => List.mem_cons_of_mem _ (List.mem_cons_of_mem _ hp))) (fun v s'' he => ?_) fun _ _ hF => hF.elim))
    obtain ⟨v2, H2, I2, rv2, e2, td⟩ := he
    try dsimp only
    have pa := I2.pin (a, seqObj "list" #[] e1) (List.mem_append_right _ List.mem_cons_self)
    have pk := I2.pin (kS, seqObj "list" kA e) (List.mem_append_right _ (List.mem_cons_of_mem _ List.mem_cons_self))
    have s1 := Heap.SameBut.update s''.heap kS (Obj.mapSeq (·.push v))
    obtain ⟨c2, hc2⟩ : ∃ c2, (s''.heap.update kS (Obj.mapSeq (·.push v))).get? kS = some (seqObj "list" (kA.push v) c2) := ⟨_, get?_update_seq pk.1 (·.push v)⟩
    have ek : (bs.map key).take (j + 1) = (bs.map key).take j ++ [key bs[j]] := by
      rw [List.take_add_one, List.getElem?_map, List.getElem?_eq_getElem hj]
      rfl
    have ea : (kA.push v).toList = kA.toList ++ [v] := by simp
    refine wpAny_bind (listUpdate_at pk.1 rfl ?_ (Nat.le_trans hz hZ) (Nat.le_trans (Nat.le_of_eq (Array.size_push ..)) (Nat.succ_le_succ (Nat.le_trans hz hZ))))
    refine wpAny_pure ⟨rfl, H2, kA.push v, c2, ks ++ [v2], ?_, ex.trans e2, ?_, ?_⟩
    · have I3 := inv_ch (h' := s''.heap.update kS (Obj.mapSeq (·.push v))) (t' := s''.toks) (ch := [kS]) (pins_drop (pins_drop I2)) (fun b hb => by
        obtain rfl : b = kS := by simpa using hb
        exact ⟨pk.2.1, oK⟩) fun b o hb e => (s1.2 b (by simpa using hb)).trans e
      exact pins_add (pins_add I3 hc2 pk.2.1 oK nK seq_nocell) ((s1.2 a hka.symm).trans pa.1) pa.2.1 (oa.cons hka) na seq_nocell
    · rw [ea]
      exact rk.append (.cons rv2 .nil)
    · rw [ek]
      exact TdAll.append (TdAll.ex e2 tk) (TdAll.one td)
  case done =>
    rintro s' ⟨H', kA, e, ks, Iv, ex, rk, tk⟩
    have tk' : TdAll H' ks (bs.map key) := by
      rw [List.take_of_length_le (by rw [List.length_map]; omega)] at tk
      exact tk
    have pa := Iv.pin (a, seqObj "list" #[] e1) (List.mem_append_right _ List.mem_cons_self)
    have pk := Iv.pin (kS, seqObj "list" kA e) (List.mem_append_right _ (List.mem_cons_of_mem _ List.mem_cons_self))
    have hk' : EachIs (fun v k => ∃ as, Reads s'.heap v k as) kA.toList (bs.map key) := each_reads Iv tk' rk
    have hsz : kA.size = vs.length := by
      have h1 := hk'.length
      rw [Array.length_toList, List.length_map] at h1
      omega
    try dsimp only
    refine wpAny_bind (listItems_at pk.1 rfl ?_)
    refine keyH_end (κ := dataKind s'.heap (bs.map key)) (h₁ := hideAll s'.heap [kS]) (fun b o _ e => of_hideAll _ e) (hideAll_none _ (by simp)) pk.1 pa.1 hka (SortsAt.data hk' hal hsk (fun d hd => ?_)) hsz hZ fun h3 tk3 c k3 n3 => ?_
    · obtain ⟨b, hb, rfl⟩ := List.mem_map.mp hd
      exact hu b hb
    · have ko : KeyedOut false (bs.map key) vs (sortVals (dataKind s'.heap (bs.map key)) false kA.toList vs) := ⟨s'.heap, kA.toList, hal, rfl, hk'⟩
      refine h _ H' _ c (inv_ch (ch := [a, kS]) (pins_drop (pins_drop Iv)) (fun b hb => ?_) fun b o hb e => k3 b o (fun z => hb (by rw [z]; exact List.mem_cons_self)) (hideAll_get _ e (fun z => hb (List.mem_cons_of_mem _ z)))) ex pa.2.1 n3 (each_vals (keyedOut_each key ko (vals_each rv)))
      rcases List.mem_cons.mp hb with z | z
      · rw [z]
        exact ⟨pa.2.1, oa⟩
      · obtain rfl : b = kS := by simpa using z
        exact ⟨pk.2.1, oK⟩
/-! ### what collects to known values -/
def Coll (X : Cx) (x : V) (H : Hp) (xs : List V) : Prop := ∀ (pins : List (Addr × Obj)) (σ : L2.St) (s : Shared) (u : Value), Inv X pins σ H s → RelV x u → ∀ (A' : Around) (E : Value → Shared → Prop) (R : List Value → Shared → Prop), A'.handled = none →
  (∀ (h' : Heap) (tk : Nat) (acc : List Value), (∀ b o, s.heap.get? b = some o → h'.get? b = some o) → Vals xs acc → R acc { s with heap := h', toks := tk }) → wpAny (model X.prog X.w) A' (collect u) R E s
theorem coll_list {p : Addr} {xs : List V} (h : SqL X.K H p xs) : Coll X (.ref p) H xs := fun pins σ s u I r A' E R hd q => by
  cases r
  obtain ⟨its, rv, hl, hz⟩ := I.list h
  refine collect_list hl.isList (q _ s.toks its (fun b o e => ?_) rv) (by rw [← rv.length]; exact hz)
  have hb : b < s.heap.objs.size := Heap.lt_size e
  rw [Heap.get?_update_ne _ _ _ _ (Nat.ne_of_lt hb)]
  exact Heap.get?_push_of_some _ e
theorem coll_dict {p : Addr} {kvs : List (Key × V)} (h : Rd H p (.dK kvs)) : Coll X (.ref p) H (kvs.map fun e => kV e.1) := fun pins σ s u I r A' E R hd q => by
  cases r
  obtain ⟨z, lo, vs, rel, dd⟩ := dk_rd I.hok h
  obtain ⟨ep, hat⟩ := dd.dictAt
  have h16 : vs.length ≤ sizeLine := by rw [← rel.length]; exact z
  refine PySem.W.kdu_collect (A := A') (PySem.W.kdl_dict (knd := mixKind X.prog X.w) (kvs := vs) (ep := ep) lo) hd hat h16 fun h' tk acc hk hacc => q h' tk acc.toList hk ?_
  have hk2 : vs.map (·.1) = kvs.map (·.1) := rel.keys.symm
  refine vals_of_items hacc (by rw [List.length_map]; exact rel.length) fun j u x hx hu => ?_
  obtain ⟨k, v, e1, e2⟩ := hu
  have e3 : (kvs.map (·.1))[j]? = some k := by
    rw [← hk2, List.getElem?_map, e1]
    rfl
  rw [List.getElem?_map] at hx e3
  cases hq : kvs[j]? with
  | none =>
    rw [hq] at hx
    cases hx
  | some w =>
    rw [hq] at hx e3
    cases hx
    cases e3
    show RelV (kV w.1) u
    rcases keyIs_shape e2 with ⟨i, t, e, rfl⟩ | ⟨y, t, e, rfl⟩
    · have e' : w.1 = Sum.inl i := e
      rw [e']
      exact ⟨t, rfl⟩
    · have e' : w.1 = Sum.inr y := e
      rw [e']
      exact ⟨t, rfl⟩
open PySem.W in
/-- sorted(x, key=f) -/
theorem sorted_keyed {x : V} {u : Value} {fa : Addr} {Q : VK} {β : Type} {val : β → V} {key : β → PyData} {bs : List β} (I : Inv X pins σ H s) (hd : X.A.handled = none) (rx : RelV x u) (hc : Coll X x H (bs.map val))
    (hal : AllAlike (bs.map key)) (hsk : Sortable (bs.map key)) (hz : bs.length ≤ 100000) (hu : ∀ b ∈ bs, X.A.units + 2 + (key b).depth < cLine)
    (turn : ∀ b ∈ bs, ∀ (pins' : List (Addr × Obj)) (s' : Shared) (H' : Hp) (u : Value), Inv X pins' σ H' s' → Ex H H' → RelV (val b) u → (∀ p ∈ pins, p ∈ pins') → wpAny (model X.prog X.w) X.A.in1.in1 (call (.ref fa) [u]) (EP X pins' σ fun v H2 => Ex H' H2 ∧ Td H2 v (key b)) (fun _ _ => False) s')
    (q : ∀ p H1, H p = none → Ex H H1 → H1 p = some (.lst ((bs.mergeSort (dataLe false key)).map val)) → Q (.ref p) H1) :
    wpAny (model X.prog X.w) X.A (call (.builtin "sorted") [u] [(Str.ofString "key", .ref fa)]) (EP X pins σ Q) X.xe s := by
  refine call_function_entry_kw kind_sorted plain_sorted entry_sorted (ksk_s1 _ _) ?_
  unfold Builtin.«sorted»
  refine wpAny_bind (m := checkCount "sorted" 1 1 _) (wpAny_pure ?_)
  refine wpAny_bind (hc pins σ s u I rx X.A.in1 _ _ hd fun h' tk acc hk rv => ?_)
  have I1 : Inv X pins σ H { s with heap := h', toks := tk } := I.kept hk
  have hl : acc.length = bs.length := by
    have e := rv.length
    rw [List.length_map] at e
    exact e.symm
  have hZ : acc.length ≤ sizeLine := by
    rw [hl]
    exact sz_of hz
  refine wpAny_bind (wpAny_newList ?_ hZ)
  have hoL : (h'.push (seqObj "list" acc.toArray 0)).get? h'.objs.size = some (seqObj "list" acc.toArray 0) := Heap.get?_push_size _ rfl
  have oA := own_new I1 (b := h'.objs.size) (Nat.le_refl _)
  have I2 : Inv X pins σ H { s with heap := h'.push (seqObj "list" acc.toArray 0), toks := tk } := I1.kept (t' := tk) fun b o e => Heap.get?_push_of_some _ e
  show wpAny _ _ _ _ _ { s with heap := h'.push (seqObj "list" acc.toArray 0), toks := tk }
  refine wpAny_bind (wpAny_holding (wpAny_call_entry_kw slot_list_sort ⟨_, hoL, rfl⟩ entry_list_sort ?body (ksk_l1 _ _)))
  case body =>
    rw [ksk_t1]
    show wpAny (model X.prog X.w) X.A.in1.in1 _ _ _ _
    refine sort_keyed I2 oA.2.1 oA.1 oA.2.2 hoL rv hZ hal hsk (fun b hb => hu b hb) turn fun s' H' out c I3 ex hn ho rv' => ?_
    have hlen : ((bs.mergeSort (dataLe false key)).map val).length ≤ sizeLine := by
      rw [List.length_map, List.length_mergeSort]
      exact sz_of hz
    exact ⟨.none, rfl, wpAny_pure ⟨_, rfl, .ref h'.objs.size, upd H' h'.objs.size (.lst ((bs.mergeSort (dataLe false key)).map val)), inv_track I3 hn oA.1 ⟨hlen, out, c, rv', ho⟩, rfl, q _ _ oA.2.1 (ex.trans (Ex.new hn)) upd_same⟩⟩
end
/-- .. the key a def -/
def rSortKey (X : Cx) (k : Nat) : List V → List V → Hp → VK → Prop := fun vs zs H Q => ∃ (x : V) (f : Addr) (fd : FuncData) (ps : List Str) (sp : Sp) (β : Type) (val : β → V) (key : β → PyData) (bs : List β), vs = [x] ∧ zs = [.ref f] ∧
  FnOk X.prog X.w X.K X.mg X.base CX0 k f fd ps sp ∧ Binds X.K fd ps [] ∧ Coll X x H (bs.map val) ∧ PySem.W.AllAlike (bs.map key) ∧ PySem.W.Sortable (bs.map key) ∧ bs.length ≤ 100000 ∧ (∀ b ∈ bs, (key b).depth ≤ 10) ∧ (∀ b ∈ bs, SpD sp [val b] H (key b)) ∧
  ∀ p H1, H p = none → Ex H H1 → H1 p = some (.lst ((bs.mergeSort (PySem.W.dataLe false key)).map val)) → Q (.ref p) H1
theorem cr_sortKey {X : Cx} {j k : Nat} (hr : Room j X.A) (hk : k + 2 ≤ j := by decide) : CallRK X (.builtin "sorted") [Str.ofString "key"] (rSortKey X k) := by
  intro pins s σ H vs zs us ws Q I r rz h
  obtain ⟨x, f, fd, ps, sp, β, val, key, bs, rfl, rfl, F, hb, hc, hal, hsk, hz, hdp, hsp, q⟩ := h
  obtain ⟨u, rfl, rx⟩ := vals1 r
  obtain ⟨w1, rfl, e1⟩ := vals1 rz
  obtain rfl : w1 = Value.ref f := e1
  have hr2 : Room (k + 2) X.A := hr.mono hk
  refine sorted_keyed I hr2.hd rx hc hal hsk hz (fun b hb => ?_) (fun b hb pins' s' H' u' I' e' ru _ => ?_) q
  · have h1 := hdp b hb
    have h2 := hr2.units
    omega
  · exact fn_sub F (Room.in1 (Room.in1 hr2)) I'.ok.frames ‹Binds X.K fd ps []› I' (.cons ru .nil) (hsp b hb H' e' _ (fun v H2 e2 td => ⟨e2, td⟩) E0)
/-! ### sorted lists of alike data -/
def rSortedA (K : PySem.W.Frag) : List V → Hp → VK → Prop := fun vs H Q => ∃ (a : Addr) (xs : List V) (ds : List PyData), vs = [.ref a] ∧ SqL K H a xs ∧ TdAll H xs ds ∧ PySem.W.AllAlike ds ∧ PySem.W.Sortable ds ∧ ds.length ≤ 100000 ∧ (∀ d ∈ ds, d.depth ≤ 10) ∧
  ∀ p ys, H p = none → TdAll H ys (ds.mergeSort (PySem.W.dataLe false id)) → Q (.ref p) (upd H p (.lst ys))
theorem td_zip {H : Hp} : ∀ {xs : List V} {ds : List PyData}, TdAll H xs ds → ∀ p ∈ xs.zip ds, Td H p.1 p.2
  | _, _, .nil, _, hp => absurd hp (by simp)
  | _, _, .cons h hs, p, hp => by
    rw [List.zip_cons_cons] at hp
    rcases List.mem_cons.mp hp with rfl | hp
    · exact h
    · exact td_zip hs p hp
theorem td_of_pairs {H : Hp} : ∀ {zs : List (V × PyData)}, (∀ p ∈ zs, Td H p.1 p.2) → TdAll H (zs.map Prod.fst) (zs.map Prod.snd)
  | [], _ => .nil
  | z :: zs, h => .cons (h z List.mem_cons_self) (td_of_pairs fun p hp => h p (List.mem_cons_of_mem _ hp))
open PySem.W in
theorem cr_sortedA {X : Cx} (hu : X.A.units + 64 < cLine) : CallR X (.builtin "sorted") (rSortedA X.K) := by
  intro pins s σ H vs us Q I r h
  obtain ⟨a, xs, ds, rfl, hs, ht, hal, hsk, hz, hdp, q⟩ := h
  obtain rfl := Vals.ref1 r
  obtain ⟨its, rv, hl, hzz⟩ := I.list hs
  have hlen := ht.len
  have e1 : (xs.zip ds).map Prod.fst = xs := List.map_fst_zip (by omega)
  have e2 : (xs.zip ds).map Prod.snd = ds := List.map_snd_zip (by omega)
  have rv' : Vals ((xs.zip ds).map Prod.fst) its := by rw [e1]; exact rv
  have hE : EachIs (fun u (b : V × PyData) => RelV b.1 u) its (xs.zip ds) := vals_each rv'
  have hER : EachIs (fun v (b : V × PyData) => ∃ as, Reads s.heap v b.2 as) its (xs.zip ds) := by
    refine EachIs.of_zip hE.length fun p hp => ?_
    have h1 := hE.zip p hp
    have h2 : p.2 ∈ xs.zip ds := (List.of_mem_zip hp).2
    exact Dp.reads I _ _ _ (td_zip ht p.2 h2).dp h1
  refine sorted_data (R := fun u (b : V × PyData) => RelV b.1 u) (enc := Prod.snd) (bs := xs.zip ds) hl.isList hE hER (by rw [e2]; exact hal) (by rw [e2]; exact hsk) (by rw [List.length_zip]; exact Nat.le_trans (Nat.min_le_right _ _) (sz_of hz)) (fun b hb => ?_) fun out hlo ho => ?_
  · have h1 := hdp b.2 (List.of_mem_zip hb).2
    omega
  · obtain ⟨ep, he'⟩ := sortedAll_at s.heap its (List.toArray out)
    have hv : Vals (((xs.zip ds).mergeSort (dataLe false Prod.snd)).map Prod.fst) out := each_vals ho
    have hlen2 : (((xs.zip ds).mergeSort (dataLe false Prod.snd)).map Prod.fst).length ≤ sizeLine := by
      rw [List.length_map, List.length_mergeSort, List.length_zip]
      exact Nat.le_trans (Nat.min_le_right _ _) (sz_of hz)
    have e3 : ((xs.zip ds).mergeSort (dataLe false Prod.snd)).map Prod.snd = ds.mergeSort (dataLe false id) := by
      rw [sort_maps (r := dataLe false Prod.snd) (s := dataLe false id) Prod.snd (fun _ _ _ _ => rfl), e2]
    have htd : TdAll H (((xs.zip ds).mergeSort (dataLe false Prod.snd)).map Prod.fst) (ds.mergeSort (dataLe false id)) := by
      rw [← e3]
      exact td_of_pairs fun p hp => td_zip ht p ((List.mergeSort_perm _ _).mem_iff.mp hp)
    exact ⟨.ref _, upd H (s.heap.objs.size + 1) (.lst (((xs.zip ds).mergeSort (dataLe false Prod.snd)).map Prod.fst)), I.laid (t' := s.toks) (fun _ _ => sortedAll_old) (Nat.le_succ _) ⟨hlen2, out, ep, hv, he'⟩, rfl, q _ _ (I.hok.fresh (Nat.le_succ _)) htd⟩
section
variable {K : PySem.W.Frag} {σ : L2.St} {H : Hp} {te : TE} {ds : List PyData}
theorem en_sortedA (h : EvN te σ H ds) (hal : PySem.W.AllAlike ds) (hsk : PySem.W.Sortable ds) (hz : ds.length ≤ 100000) (hdp : ∀ d ∈ ds, d.depth ≤ 10) : EvN (tCB (rSortedA K) (tCons te tNil)) σ H (ds.mergeSort (PySem.W.dataLe false id)) := fun H1 e Q q =>
  h H1 e _ fun p xs H2 hp e2 h2 hd => ⟨p, xs, ds, rfl, .inl (.inl h2), hd, hal, hsk, hz, hdp, fun r ys hr hy => q r ys _ (fresh_back e2 hr) (e2.trans (Ex.new hr)) upd_same (TdAll.ex (Ex.new hr) hy)⟩
end
end TY
namespace TY
open PySem PySem.Spec PyProof.Rows L2 Evl
/-! ### dicts of texts -/
def kvsT (ks : List (List Nat)) : List (Key × V) := ks.map fun l => ((Sum.inr (S l) : Key), V.bl true)
def addT (ks : List (List Nat)) (l : List Nat) : List (List Nat) := if l ∈ ks then ks else ks ++ [l]
theorem kvsT_any (l : List Nat) : ∀ ks : List (List Nat), ((kvsT ks).any fun kv => decide (kv.1 = (Sum.inr (S l) : Key))) = decide (l ∈ ks)
  | [] => by simp [kvsT]
  | k :: ks => by
    have ih := kvsT_any l ks
    unfold kvsT at ih ⊢
    rw [List.map_cons, List.any_cons, ih]
    by_cases h : k = l
    · subst h
      simp
    · have h2 : ¬ ((Sum.inr (S k) : Key) = Sum.inr (S l)) := fun z => h (S_inj (Sum.inr.inj z))
      have h3 : ¬ l = k := fun z => h z.symm
      simp [h2, h3]
theorem putK_T (ks : List (List Nat)) (l : List Nat) : putK (kvsT ks) (Sum.inr (S l)) (.bl true) = kvsT (addT ks l) := by
  unfold putK addT
  rw [kvsT_any]
  by_cases h : l ∈ ks
  · rw [if_pos (decide_eq_true h), if_pos h]
    unfold kvsT
    rw [List.map_map]
    refine List.map_congr_left fun k _ => ?_
    show (if (Sum.inr (S k) : Key) = Sum.inr (S l) then ((Sum.inr (S k) : Key), V.bl true) else ((Sum.inr (S k) : Key), V.bl true)) = _
    split <;> rfl
  · rw [if_neg (by simpa using h), if_neg h]
    unfold kvsT
    rw [List.map_append]
    rfl
theorem valV_T (ks : List (List Nat)) (l : List Nat) : valV (kvsT ks) (Sum.inr (S l)) = if l ∈ ks then some (.bl true) else none := by
  by_cases h : l ∈ ks
  · rw [if_pos h]
    have h1 := valV_any (Sum.inr (S l) : Key) (kvsT ks)
    rw [kvsT_any, decide_eq_true h] at h1
    obtain ⟨v, hv⟩ := Option.isSome_iff_exists.mp h1.symm
    rw [hv]
    unfold valV at hv
    obtain ⟨p, hp, rfl⟩ := Option.map_eq_some_iff.mp hv
    have hm := List.mem_of_find?_eq_some hp
    unfold kvsT at hm
    obtain ⟨k, _, rfl⟩ := List.mem_map.mp hm
    rfl
  · rw [if_neg h]
    have h1 := valV_any (Sum.inr (S l) : Key) (kvsT ks)
    rw [kvsT_any, decide_eq_false h] at h1
    cases q : valV (kvsT ks) (Sum.inr (S l)) with
    | none => rfl
    | some v =>
      rw [q] at h1
      cases h1
theorem kvsT_len (ks : List (List Nat)) : (kvsT ks).length = ks.length := by simp [kvsT]
theorem kvsT_keys (ks : List (List Nat)) : (kvsT ks).map (·.1) = (ks.map S).map Sum.inr := by
  unfold kvsT
  rw [List.map_map, List.map_map]
  rfl
theorem addT_len (ks : List (List Nat)) (l : List Nat) : (addT ks l).length ≤ ks.length + 1 := by
  unfold addT
  split
  · omega
  · simp
theorem addT_nodup {ks : List (List Nat)} (h : ks.Nodup) (l : List Nat) : (addT ks l).Nodup := by
  unfold addT
  split
  · exact h
  · rename_i hn
    exact List.nodup_append.mpr ⟨h, by simp, fun a ha b hb z => by
      rw [List.mem_singleton] at hb
      exact hn (by rw [← hb, ← z]; exact ha)⟩
theorem addT_mem {ks : List (List Nat)} {l x : List Nat} : x ∈ addT ks l ↔ x ∈ ks ∨ x = l := by
  unfold addT
  by_cases h : l ∈ ks
  · rw [if_pos h]
    constructor
    · exact .inl
    · rintro (z | z)
      · exact z
      · rw [z]
        exact h
  · rw [if_neg h, List.mem_append, List.mem_singleton]
section
variable {K : PySem.W.Frag} {σ : L2.St} {H : Hp} {td te ta tb : TE} {d : Addr} {od : Obj} {ks : List (List Nat)} {ds : List PyData}
/-- x in d -/
theorem ev_inD {l : List Nat} (h : Ev ta σ H (.str (S l))) (h2 : Ev td σ H (.ref d)) (hd : Rd H d (.dK (kvsT ks))) : Ev (tDIn ta td) σ H (.bl (decide (l ∈ ks))) := fun H1 e Q q =>
  h H1 e _ fun H2 e2 => h2 H2 (e.trans e2) _ fun H3 e3 => by
    have hd3 : Rd H3 d (.dK (kvsT ks)) := hd.elim (fun z => .inl (((e.trans e2).trans e3) _ _ z)) fun ⟨o, z⟩ => .inr ⟨o, ((e.trans e2).trans e3) _ _ z⟩
    refine ⟨d, valV (kvsT ks) (Sum.inr (S l)), rfl, .inl ⟨_, Sum.inr (S l), hd3, rfl, rfl⟩, ?_⟩
    have e0 : (valV (kvsT ks) (Sum.inr (S l))).isSome = decide (l ∈ ks) := by
      rw [valV_T]
      by_cases z : l ∈ ks
      · rw [if_pos z, decide_eq_true z]
        rfl
      · rw [if_neg z, decide_eq_false z]
        rfl
    rw [e0]
    exact q H3 (e2.trans e3)
theorem ev_niD {l : List Nat} (h : Ev ta σ H (.str (S l))) (h2 : Ev td σ H (.ref d)) (hd : Rd H d (.dK (kvsT ks))) : Ev (tDNotIn ta td) σ H (.bl (!decide (l ∈ ks))) := fun H1 e Q q =>
  h H1 e _ fun H2 e2 => h2 H2 (e.trans e2) _ fun H3 e3 => by
    have hd3 : Rd H3 d (.dK (kvsT ks)) := hd.elim (fun z => .inl (((e.trans e2).trans e3) _ _ z)) fun ⟨o, z⟩ => .inr ⟨o, ((e.trans e2).trans e3) _ _ z⟩
    refine ⟨d, valV (kvsT ks) (Sum.inr (S l)), rfl, .inl ⟨_, Sum.inr (S l), hd3, rfl, rfl⟩, ?_⟩
    have e0 : (valV (kvsT ks) (Sum.inr (S l))).isSome = decide (l ∈ ks) := by
      rw [valV_T]
      by_cases z : l ∈ ks
      · rw [if_pos z, decide_eq_true z]
        rfl
      · rw [if_neg z, decide_eq_false z]
        rfl
    rw [e0]
    exact q H3 (e2.trans e3)
/-- walking a dict -/
theorem ei_keys (h : Ev td σ H (.ref d)) (hd : H d = some (.frz od (.dK (kvsT ks)))) : EvI (iKeys td) σ H (ks.map fun l => .str (S l)) := fun H1 e R q =>
  h H1 e _ fun H2 e2 => ⟨d, od, rfl, .inl ⟨kvsT ks, (e.trans e2) _ _ hd, by
    refine q _ (fun H3 => H3 d = some (.frz od (.dK (kvsT ks)))) H2 e2 (fun H3 e3 => ((e.trans e2).trans e3) _ _ hd) ?_
    have hl : (ks.map fun l => PyData.str (S l)).length = (kvsT ks).length := by rw [kvsT_len, List.length_map]
    rw [hl]
    refine walk_keys.mono (fun _ q => q) fun i H x H' hi _ y => ?_
    obtain ⟨rfl, k, v, hk, rfl⟩ := y
    unfold kvsT at hk
    rw [List.getElem?_map] at hk
    cases hq : ks[i]? with
    | none =>
      rw [hq] at hk
      cases hk
    | some l =>
      rw [hq] at hk
      cases hk
      exact ⟨Ex.refl _, .str (S l), by rw [List.getElem?_map, hq]; rfl, .str _⟩⟩⟩
/-- .. under a lock -/
theorem en_lock {u : HO} (hd : H d = some u) (hm : Mut (some u)) (h : ∀ o, EvN te σ (upd H d (.frz o u)) ds) : EvN (tLockE te) σ H ds := fun H1 e Q q => by
  have hd1 := e _ _ hd
  refine ⟨d, u, hd1, hm, fun o => h o _ (fun a w hw => ?_) _ fun p xs H2 hp e2 h2 hv => ?_⟩
  · by_cases ha : a = d
    · subst ha
      rw [upd_same] at hw ⊢
      exact hw
    · rw [upd_ne ha] at hw ⊢
      exact e _ _ hw
  · have hpd : p ≠ d := fun z => by
      rw [z, upd_same] at hp
      cases hp
    have h2d : H2 d = some (.frz o u) := e2 _ _ upd_same
    rw [upd_ne hpd] at hp
    refine ⟨h2d, q p xs _ hp (fun a w hw => ?_) (by rw [upd_ne hpd]; exact h2) (TdAll.ext (ExT.upd h2d (fun _ z => by cases z)) hv)⟩
    by_cases ha : a = d
    · subst ha
      rw [upd_same, ← hd1]
      exact hw
    · rw [upd_ne ha]
      exact e2 _ _ (by rw [upd_ne ha]; exact hw)
/-- what gives a dict of texts -/
def EvDT (te : TE) (σ : L2.St) (H : Hp) (ks : List (List Nat)) : Prop := ∀ H1, Ex H H1 → ∀ Q : VK, (∀ p H2, H1 p = none → Ex H1 H2 → H2 p = some (.dK (kvsT ks)) → Q (.ref p) H2) → te σ H1 Q
def SpDT (sp : Sp) (vs : List V) (H : Hp) (ks : List (List Nat)) : Prop := ∀ H1, Ex H H1 → ∀ Q : VK, (∀ p H2, H1 p = none → Ex H1 H2 → H2 p = some (.dK (kvsT ks)) → Q (.ref p) H2) → ∀ E : XK, sp vs H1 Q E
theorem edt_call {tA : TA} {sp : Sp} {vs : List V} {E : XK} (h : EvA tA σ H vs) (hs : SpDT sp vs H ks) : EvDT (tCall sp [] E tA) σ H ks := fun H1 e Q q =>
  h H1 e _ fun H2 e2 => by
    show sp (vs ++ []) H2 Q E
    rw [List.append_nil]
    exact hs H2 (e.trans e2) Q (fun p H3 hp e3 h3 => q p H3 (fresh_back e2 hp) (e2.trans e3) h3) E
/-- a new dict {x: True} -/
theorem edt_one {t1 t2 : TE} {l : List Nat} (h1 : ∀ H', Ev t1 σ H' (.str (S l))) (h2 : ∀ H', Ev t2 σ H' (.bl true)) : EvDT (tDisp [(t1, t2)]) σ H [l] := fun H1 e Q q => fun p hp => by
  refine h1 _ _ (Ex.refl _) _ fun H2 e2 => h2 _ _ (Ex.refl _) _ fun H3 e3 => ?_
  have hd : H3 p = some (.dK []) := e3 _ _ (e2 _ _ upd_same)
  refine ⟨hd, [((Sum.inr (S l) : Key), V.bl true)], rfl, Nat.le_of_ble_eq_true rfl, q p _ hp ?_ upd_same⟩
  exact Ex.mut ((Ex.new hp).trans (e2.trans e3)) hp
theorem q_asgT {D : Ends} {tz : TS} {i : Nat} (h : EvDT te σ H ks) (k : ∀ p H1, H p = none → Ex H H1 → H1 p = some (.dK (kvsT ks)) → tz D (σ.set i (some (.ref p))) H1) : tSeq (tAsg te (gName i)) tz D σ H := h H (Ex.refl H) _ fun p H1 hp e h1 => k p H1 hp e h1
theorem s_asgT {D : Ends} {i : Nat} (h : EvDT te σ H ks) (k : ∀ p H1, H p = none → Ex H H1 → H1 p = some (.dK (kvsT ks)) → D.nx (σ.set i (some (.ref p))) H1) : tAsg te (gName i) D σ H := h H (Ex.refl H) _ fun p H1 hp e h1 => k p H1 hp e h1
theorem s_retT {D : Ends} (h : EvDT te σ H ks) (k : ∀ p H1, H p = none → Ex H H1 → H1 p = some (.dK (kvsT ks)) → D.rt (.ref p) H1) : tRet te D σ H := h H (Ex.refl H) _ k
theorem ev_lenDT (h : EvDT te σ H ks) : Ev (tCB (fun xs H Q => ∃ a kvs, xs = [V.ref a] ∧ H a = some (.dK kvs) ∧ Q (.int kvs.length) H) (tCons te tNil)) σ H (.int (ks.length : Int)) := fun H1 e Q q =>
  h H1 e _ fun p H2 hp e2 h2 => ⟨p, _, rfl, h2, by rw [kvsT_len]; exact q H2 e2⟩
/-- d[x] = True -/
theorem s_putT {D : Ends} {tx tv : TE} {l : List Nat} (h1 : Ev tv σ H (.bl true)) (h2 : Ev td σ H (.ref d)) (h3 : Ev tx σ H (.str (S l))) (hd : H d = some (.dK (kvsT ks))) (hz : ks.length < 100000)
    (k : ∀ H1, Ex H H1 → D.nx σ (upd H1 d (.dK (kvsT (addT ks l))))) : sDPut td tx tv D σ H := h1 H (Ex.refl H) _ fun H2 e2 => h2 H2 e2 _ fun H3 e3 => h3 H3 (e2.trans e3) _ fun H4 e4 => by
  have e := (e2.trans e3).trans e4
  refine ⟨d, _, rfl, .inl ⟨_, Sum.inr (S l), e _ _ hd, rfl, (kvsT_len ks).symm ▸ sz_lt hz, rfl⟩, ?_⟩
  rw [putK_T]
  exact k H4 e
end
end TY
namespace TY
open PySem PySem.Spec PyProof.Rows L2 Evl
/-! ### min of texts -/
def rMinS (K : PySem.W.Frag) : List V → Hp → VK → Prop := fun vs H Q => ∃ (a : Addr) (ls : List (List Nat)), vs = [.ref a] ∧ SqL K H a (ls.map fun l => V.str (S l)) ∧ ls ≠ [] ∧ ∀ m, m ∈ ls → (∀ y ∈ ls, m ≤ y) → Q (.str (S m)) H
theorem dataLt_S (a b : List Nat) : PySem.W.dataLt (.str (S a)) (.str (S b)) = decide (a < b) := by
  rw [PySem.W.dataLt_str]
  rfl
theorem minD_strs : ∀ (ls : List (List Nat)) (x : List Nat), ∃ m, PySem.W.minD (.str (S x)) (ls.map fun l => .str (S l)) = .str (S m) ∧ m ∈ x :: ls ∧ ∀ y ∈ x :: ls, m ≤ y
  | [], x => ⟨x, rfl, List.mem_cons_self, fun y hy => by
    rw [List.mem_singleton] at hy
    rw [hy]
    exact List.le_refl _⟩
  | l :: ls, x => by
    have e : PySem.W.minD (.str (S x)) ((l :: ls).map fun l => PyData.str (S l)) = PySem.W.minD (if decide (l < x) = true then .str (S l) else .str (S x)) (ls.map fun l => .str (S l)) := by
      unfold PySem.W.minD
      rw [List.map_cons, List.foldl_cons, dataLt_S]
    rw [e]
    by_cases h : l < x
    · rw [if_pos (decide_eq_true h)]
      obtain ⟨m, h1, h2, h3⟩ := minD_strs ls l
      refine ⟨m, h1, List.mem_cons_of_mem _ h2, fun y hy => ?_⟩
      rcases List.mem_cons.mp hy with z | z
      · rw [z]
        exact List.le_trans (h3 l List.mem_cons_self) (List.le_of_lt h)
      · exact h3 y z
    · rw [if_neg (by simpa using h)]
      obtain ⟨m, h1, h2, h3⟩ := minD_strs ls x
      refine ⟨m, h1, ?_, fun y hy => ?_⟩
      · rcases List.mem_cons.mp h2 with z | z
        · rw [z]
          exact List.mem_cons_self
        · exact List.mem_cons_of_mem _ (List.mem_cons_of_mem _ z)
      · rcases List.mem_cons.mp hy with z | z
        · exact h3 y (by rw [z]; exact List.mem_cons_self)
        · rcases List.mem_cons.mp z with z | z
          · rw [z]
            exact List.le_trans (h3 x List.mem_cons_self) h
          · exact h3 y (List.mem_cons_of_mem _ z)
theorem depthAll_strs : ∀ ls : List (List Nat), PyData.depthAll (ls.map fun l => .str (S l)) = 0
  | [] => by simp [PyData.depthAll]
  | l :: ls => by simp [PyData.depthAll, PyData.depth, depthAll_strs ls]
theorem cr_minS {X : Cx} (hc : X.calm = true) (hu : X.A.units + 64 < cLine) : CallR X (.builtin "min") (rMinS X.K) := by
  intro pins s σ H vs us Q I r h
  obtain ⟨a, ls, rfl, hs, hne, q⟩ := h
  obtain rfl := Vals.ref1 r
  obtain ⟨its, rv, hl, hz⟩ := I.list hs
  obtain ⟨x, rs, rfl⟩ := List.exists_cons_of_ne_nil hne
  have htd : TdAll H ((x :: rs).map fun l => V.str (S l)) ((x :: rs).map fun l => PyData.str (S l)) := by
    have := TdAll.of_strs (H := H) ((x :: rs).map S)
    rw [List.map_map, List.map_map] at this
    exact this
  obtain ⟨as, hr⟩ := Dp.readsAll I _ _ _ htd.dp rv
  have hr' : ReadsAll s.heap its.toArray.toList (PyData.str (S x) :: rs.map fun l => PyData.str (S l)) as := by simpa using hr
  obtain ⟨m, h1, h2, h3⟩ := minD_strs rs x
  refine PySem.W.min_list_data (I.ok.hd hc) hl.isList hr' ⟨?_, ?_⟩ ?_ fun i v h' tk bs hv hrd hk => ?_
  · intro y hy z hz
    obtain ⟨y', _, rfl⟩ := List.mem_map.mp (show y ∈ (x :: rs).map fun l => PyData.str (S l) from hy)
    obtain ⟨z', _, rfl⟩ := List.mem_map.mp (show z ∈ (x :: rs).map fun l => PyData.str (S l) from hz)
    simp [PySem.W.alike]
  · intro y hy z
    obtain ⟨y', _, rfl⟩ := List.mem_map.mp (show y ∈ (x :: rs).map fun l => PyData.str (S l) from hy)
    cases z
  · have e : PyData.depthAll (PyData.str (S x) :: rs.map fun l => PyData.str (S l)) = 0 := depthAll_strs (x :: rs)
    rw [e]
    omega
  · rw [h1] at hrd
    cases hrd
    exact ⟨.str (S m), H, I.kept hk, ⟨_, rfl⟩, q m h2 h3⟩
/-! ### walking a dict that was just made -/
def iKeysN (td : TE) : TI := fun σ H R => td σ H fun x H1 => ∃ d kvs, x = .ref d ∧ H1 d = some (.dK kvs) ∧ ∀ o, R (Itk d o kvs) (upd H1 d (.frz o (.dK kvs)))
theorem pi_keysN {X : Cx} {tg e : Expr} {td : TE} (he : PE X e td) : PI X tg e (iKeysN td) := by
  refine ⟨fun pins s σ H R I h => ?_⟩
  refine thn (he.run pins s σ H _ I h) fun u s1 ⟨x, H1, I1, rx, d, kvs, ex, hd, q⟩ => ?_
  subst ex
  obtain rfl : u = Value.ref d := rx
  obtain ⟨od, I2⟩ := I1.lock hd trivial
  obtain ⟨hs, hgd, hx, es, ep, vs, hdt, hsz, kv, hm⟩ := I2.frzK upd_same
  refine iter_keys hs hgd hx hdt (pi_one (tk := s1.toks) I2 _ (turn_keys _ hdt) ⟨_, Heap.get?_push_size _ rfl, rfl, ?_⟩ (q od))
  rw [hsz] <;> rfl
section
variable {K : PySem.W.Frag} {σ : L2.St} {H : Hp} {td te ta tb : TE} {ks : List (List Nat)} {ds es : List PyData}
theorem ei_keysN (h : EvDT td σ H ks) : EvI (iKeysN td) σ H (ks.map fun l => .str (S l)) := fun H1 e R q =>
  h H1 e _ fun d H2 hp e2 h2 => ⟨d, kvsT ks, rfl, h2, fun od => by
    refine q _ (fun H3 => H3 d = some (.frz od (.dK (kvsT ks)))) (upd H2 d (.frz od (.dK (kvsT ks)))) (Ex.mut e2 hp) (fun H3 e3 => e3 _ _ upd_same) ?_
    have hl : (ks.map fun l => PyData.str (S l)).length = (kvsT ks).length := by rw [kvsT_len, List.length_map]
    rw [hl]
    refine walk_keys.mono (fun _ q => q) fun i H x H' hi _ y => ?_
    obtain ⟨rfl, k, v, hk, rfl⟩ := y
    unfold kvsT at hk
    rw [List.getElem?_map] at hk
    cases hq : ks[i]? with
    | none =>
      rw [hq] at hk
      cases hk
    | some l =>
      rw [hq] at hk
      cases hk
      exact ⟨Ex.refl _, .str (S l), by rw [List.getElem?_map, hq]; rfl, .str _⟩⟩
/-- a new list and a new list -/
theorem en_cat (h : EvN ta σ H ds) (h2 : EvN tb σ H es) (hz : ds.length + es.length ≤ 100000) : EvN (tOp rCat ta tb) σ H (ds ++ es) := fun H1 e Q q =>
  h H1 e _ fun a xs H2 ha e2 h3 hx => h2 H2 (e.trans e2) _ fun b ys H3 hb e3 h4 hy => ⟨a, b, xs, ys, rfl, rfl, e3 _ _ h3, h4, sz_of (by rw [hx.len, hy.len]; exact hz), fun p hp => by
    have hp2 := fresh_back (e2.trans e3) hp
    exact q p _ _ hp2 ((e2.trans e3).trans (Ex.new hp)) upd_same (TdAll.append (TdAll.ex (e3.trans (Ex.new hp)) hx) (TdAll.ex (Ex.new hp) hy))⟩
/-- a list that stands and a new list -/
theorem en_catL {p : Addr} {xs : List V} (h : Ev ta σ H (.ref p)) (hp : H p = some (.lst xs)) (hx : TdAll H xs ds) (h2 : EvN tb σ H es) (hz : ds.length + es.length ≤ 100000) : EvN (tOp rCat ta tb) σ H (ds ++ es) := fun H1 e Q q =>
  h H1 e _ fun H2 e2 => h2 H2 (e.trans e2) _ fun b ys H3 hb e3 h4 hy => ⟨p, b, xs, ys, rfl, rfl, ((e.trans e2).trans e3) _ _ hp, h4, sz_of (by rw [hx.len, hy.len]; exact hz), fun r hr => by
    have hr2 := fresh_back (e2.trans e3) hr
    exact q r _ _ hr2 ((e2.trans e3).trans (Ex.new hr)) upd_same (TdAll.append (TdAll.ex (((e.trans e2).trans e3).trans (Ex.new hr)) hx) (TdAll.ex (Ex.new hr) hy))⟩
theorem ev_maxI {ns : List Int} {m : Int} (h : EvN te σ H (ns.map .int)) (hm : m ∈ ns) (hle : ∀ y ∈ ns, y ≤ m) : Ev (tCB (rMax K) (tCons te tNil)) σ H (.int m) := fun H1 e Q q =>
  h H1 e _ fun p xs H2 hp e2 h2 h3 => by
    cases h3.ints
    refine ⟨p, ns, rfl, sq_of h2, List.length_pos_of_mem hm, fun m' h4 h5 => ?_⟩
    have : m' = m := by
      have := h5 m hm
      have := hle m' h4
      omega
    rw [this]
    exact q H2 e2
theorem ev_minS {ls : List (List Nat)} {m : List Nat} (h : EvN te σ H (ls.map fun l => .str (S l))) (hm : m ∈ ls) (hle : ∀ y ∈ ls, m ≤ y) : Ev (tCB (rMinS K) (tCons te tNil)) σ H (.str (S m)) := fun H1 e Q q =>
  h H1 e _ fun p xs H2 hp e2 h2 h3 => by
    have h5 : TdAll H2 xs ((ls.map S).map PyData.str) := by
      rw [List.map_map]
      exact h3
    have h6 := h5.strs
    rw [List.map_map] at h6
    subst h6
    refine ⟨p, ls, rfl, sq_of h2, (fun z => by rw [z] at hm; cases hm), fun m' h4 h5 => ?_⟩
    have : m' = m := List.le_antisymm (h5 m hm) (hle m' h4)
    rw [this]
    exact q H2 e2
theorem ev_all' {bs : List Bool} (h : EvN te σ H (bs.map .bool)) : Ev (tCB (rAll K) (tCons te tNil)) σ H (.bl (bs.all id)) := fun H1 e Q q =>
  h H1 e _ fun p xs H2 hp e2 h2 h3 => by
    cases h3.bls
    exact ⟨p, bs, rfl, sq_of h2, q H2 e2⟩
theorem dec_map (l : List Nat) (ls : List (List Nat)) : decide (S l ∈ ls.map S) = decide (l ∈ ls) := by
  by_cases h : l ∈ ls
  · rw [decide_eq_true h, decide_eq_true (List.mem_map.mpr ⟨l, h, rfl⟩)]
  · rw [decide_eq_false h, decide_eq_false]
    intro z
    obtain ⟨m, hm, e⟩ := List.mem_map.mp z
    exact h (by rw [← S_inj e]; exact hm)
/-- a text among those of a list that stands -/
theorem ev_inL {l : List Nat} {ls : List (List Nat)} {p : Addr} {xs : List V} (h : Ev ta σ H (.str (S l))) (h2 : Ev tb σ H (.ref p)) (hp : H p = some (.lst xs)) (hx : TdAll H xs (ls.map fun l => .str (S l))) : Ev (tOp (rIn K false) ta tb) σ H (.bl (decide (l ∈ ls))) := by
  have h5 : TdAll H xs ((ls.map S).map PyData.str) := by
    rw [List.map_map]
    exact hx
  cases h5.strs
  rw [← dec_map]
  exact ev_inLS h h2 hp
theorem ev_niL {l : List Nat} {ls : List (List Nat)} {p : Addr} {xs : List V} (h : Ev ta σ H (.str (S l))) (h2 : Ev tb σ H (.ref p)) (hp : H p = some (.lst xs)) (hx : TdAll H xs (ls.map fun l => .str (S l))) : Ev (tOp (rIn K true) ta tb) σ H (.bl (!decide (l ∈ ls))) := by
  have h5 : TdAll H xs ((ls.map S).map PyData.str) := by
    rw [List.map_map]
    exact hx
  cases h5.strs
  rw [← dec_map]
  exact ev_niLS h h2 hp
/-- xs.extend(a new list) -/
theorem s_ext {D : Ends} {l : Addr} {xs : List V} (hl : H l = some (.lst xs)) (ha : Ev ta σ H (.ref l)) (h : EvN te σ H es) (hz : xs.length + es.length ≤ 100000) (k : ∀ zs H1, Ex H H1 → TdAll H1 zs es → D.nx σ (upd H1 l (.lst (xs ++ zs)))) :
    tDrop (tBM K "list" rExtend ta (tCons te tNil)) D σ H := ha H (Ex.refl H) _ fun H1 e1 =>
  ⟨Or.inl ⟨rfl, xs, sq_of (e1 l _ hl)⟩, h H1 e1 _ fun b zs H2 hb e2 h2 hz2 => ⟨l, b, xs, zs, rfl, rfl, (e1.trans e2) _ _ hl, h2, sz_of (by rw [hz2.len]; exact hz), k zs H2 (e1.trans e2) hz2⟩⟩
theorem ev_niSign {c : Nat} {l : List Nat} (h : Ev ta σ H (.str (S [c]))) (h2 : Ev tb σ H (.str (S l))) : Ev (tOp (fun x y H Q => ∃ (c : Nat) (z : Str), x = .str ⟨#[c]⟩ ∧ y = .str z ∧ Q (.bl (!decide (c ∈ z.cps.toList))) H) ta tb) σ H (.bl (!decide (c ∈ l))) := fun H1 e Q q =>
  h H1 e _ fun H2 e2 => h2 H2 (e.trans e2) _ fun H3 e3 => ⟨c, S l, rfl, rfl, q H3 (e2.trans e3)⟩
end
end TY
namespace TY
open PySem PySem.Spec PyProof.Rows L2 Evl LamX NdefX
/-! ### range(n) as a value -/
def rRng1 : List V → Hp → VK → Prop := fun vs H Q => ∃ i, vs = [V.int i] ∧ ∀ p, H p = none → Q (.ref p) (upd H p (.rng 0 i))
theorem cr_range1 {X : Cx} : CallR X (.type "range") rRng1 := by
  intro pins s σ H vs us Q I r h
  obtain ⟨i, rfl, q⟩ := h
  obtain ⟨u1, rfl, ri⟩ := vals1 r
  obtain ⟨t, rfl⟩ := ri
  refine call_range_1 ⟨.ref s.heap.objs.size, upd H s.heap.objs.size (.rng 0 i), I.laid (fun b o e => Heap.get?_push_of_some _ e) (Nat.le_refl _) ?_, rfl, q _ (I.hok.fresh (Nat.le_refl _))⟩
  exact ⟨_, _, _, Heap.get?_push_size _ rfl⟩
theorem coll_rng {X : Cx} {H : Hp} {p : Addr} {n : Nat} (h : H p = some (.rng 0 (n : Int))) (hn : n ≤ 100000) : Coll X (.ref p) H ((List.range n).map fun (i : Nat) => V.int (i : Int)) := fun pins σ s u I r A' E R hd q => by
  cases r
  obtain ⟨t, t2, t3, ho⟩ := I.hok p _ h
  have e0 : ((n : Int) - 0).toNat = n := by omega
  refine collect_range (n := ((n : Int) - 0).toNat) hd ho (small_one (by omega) (by omega) (by omega) (by omega)) (rangeSize_nat 0 (n : Int)) (by omega) fun h' tk acc hk hi => q h' tk acc.toList hk ?_
  have hv := vals_rg hi
  unfold rgV at hv
  rw [e0] at hv
  have e1 : ((List.range n).map fun (i : Nat) => V.int (0 + (i : Int))) = (List.range n).map fun (i : Nat) => V.int (i : Int) := List.map_congr_left fun i _ => by rw [Int.zero_add]
  rw [e1] at hv
  exact hv
/-! ### a lambda of one parameter -/
def FnL (f : Addr) (q : Str) (params : Arguments) (body : Expr) (scope : Scope) (cl : List (Str × Addr)) (c' : Addr) : HO := .ext fun h => ∃ pm ctv : Value, h.get? f = some (PySem.W.kla_obj "<lambda>" q params body scope cl pm c' ctv)
def TNew (P : Addr) (H : Hp) : Prop := H P = some (.tbl #[])
def TOld (P : Addr) (q : Str) (pos : Pos) (H : Hp) : Prop := ∃ c', H P = some (.tbl #[rawInt pos.line, rawInt pos.col, .ref c']) ∧ H c' = some (CodeO c' q)
theorem TOld.ex {P : Addr} {q : Str} {pos : Pos} {H H' : Hp} (e : Ex H H') (h : TOld P q pos H) : TOld P q pos H' := by
  obtain ⟨c', h1, h2⟩ := h
  exact ⟨c', e _ _ h1, e _ _ h2⟩
theorem TNew.not {P : Addr} {q : Str} {pos : Pos} {H : Hp} (h : TNew P H) : ¬ TOld P q pos H := fun ⟨c', h1, _⟩ => by
  have h2 : H P = some (.tbl #[]) := h
  rw [h2] at h1
  simp at h1
theorem ExtN.of_ex {H H' : Hp} (e : Ex H H') : ExtN H H' := fun b o h _ => e b o h
section
variable {X : Cx} {pins : List (Addr × Obj)} {σ : L2.St} {H : Hp} {s : Shared}
theorem inv_fnL {q : Str} {params : Arguments} {body : Expr} {scope : Scope} {cl : List (Str × Addr)} {c' : Addr} {pm ctv : Value} {t' : Nat} (I : Inv X pins σ H s) :
    Inv X pins σ (upd H s.heap.objs.size (FnL s.heap.objs.size q params body scope cl c')) { s with heap := s.heap.push (PySem.W.kla_obj "<lambda>" q params body scope cl pm c' ctv), toks := t' } := by
  refine I.laid (a := s.heap.objs.size) (fun b u e => Heap.get?_push_of_some _ e) (Nat.le_refl _) ?_
  have e : (s.heap.push (PySem.W.kla_obj "<lambda>" q params body scope cl pm c' ctv)).get? s.heap.objs.size = some (PySem.W.kla_obj "<lambda>" q params body scope cl pm c' ctv) := Heap.get?_push_size _ rfl
  exact ⟨⟨pm, ctv, e⟩, ⟨_, e⟩, fun h1 h2 ⟨p, t, z⟩ st => ⟨p, t, st _ z⟩⟩
theorem lam_mk {c P : Addr} {params : Arguments} {body : Expr} {scope : Scope} {pos : Pos} {E : Value → Shared → Prop} {Q : Value → Shared → Prop} (I : Inv X pins σ H s) (TB : TabB X.base X.mg c P) (hcode : X.env.code = .ref c) (hdef : defaultsOf params X.env = ([], []))
    (hfree : ∀ y ∈ scope.names, y.2 = .free → ∃ c, X.env.cells.lookup y.1 = some c) (hT : TNew P H ∨ TOld P (X.env.qual ++ "<lambda>") pos H)
    (h : ∀ (f c' : Addr) (H1 : Hp) (s' : Shared), Inv X pins σ (upd H1 f (FnL f (X.env.qual ++ "<lambda>") params body scope (cloFrom X.env.cells scope.names []) c')) s' → H1 f = none → H1 c' = some (CodeO c' (X.env.qual ++ "<lambda>")) → TOld P (X.env.qual ++ "<lambda>") pos H1 → ExtN H H1 → (TOld P (X.env.qual ++ "<lambda>") pos H → H1 = H) → Q (.ref f) s') :
    wpAny (model X.prog X.w) X.A (eval (.Lambda params body scope pos) X.env) Q E s := by
  refine PySem.W.kla_eval hdef ?_
  have bP : s.heap.BuiltinsAt X.mg P := TB.bm.keeps I.bk
  rcases hT with hP | ⟨c', hP, hco⟩
  · have hP : H P = some (.tbl #[]) := hP
    have hP' : s.heap.get? P = some { cls := .none, data := .fields #[] } := I.hok P _ hP
    refine PySem.W.kla_makeFunction (mg := X.mg) (c := c) (P := P) (ps := #[]) (closure_ok hfree) I.ok.glob (I.mod.glob.keeps I.bk) hcode (TB.code.keeps I.bk) hP' True.intro (by simp [codeAmong]) TB.gP bP fun c' ctv h' tk hx hge hlt hrec htb => ?_
    obtain ⟨c2, oc, vs, t, e2, hoc, hd, hv⟩ := hrec
    cases e2
    have nC : H c' = none := I.hok.fresh hge
    have I1 := inv_table (q := X.env.qual ++ "<lambda>") (t' := tk) (more := #[rawInt pos.line, rawInt pos.col, .ref c']) (h' := h') I hP (fun b o hb e => hx b o hb e) htb hge ⟨oc, vs, t, hoc, hd, hv⟩
    have I2 := inv_fnL (q := X.env.qual ++ "<lambda>") (params := params) (body := body) (scope := scope) (cl := cloFrom X.env.cells scope.names []) (c' := c') (pm := (X.mg "__name__").getD .none) (ctv := ctv) (t' := tk) I1
    have e0 : (#[] : Array Value) ++ #[rawInt pos.line, rawInt pos.col, .ref c'] = #[rawInt pos.line, rawInt pos.col, .ref c'] := Array.empty_append
    have nP : P ≠ c' := ne_of_none hP nC
    refine h h'.objs.size c' _ _ I2 (I1.hok.fresh (Nat.le_refl _)) upd_same ⟨c', by rw [upd_ne nP, upd_same, e0], upd_same⟩ (fun b o e n => ?_) fun z => absurd z (TNew.not hP)
    rw [upd_ne (ne_of_none e nC), upd_ne (fun z => n #[] (Option.some.inj (e.symm.trans (by rw [z]; exact hP))))]
    exact e
  · have hP' : s.heap.get? P = some { cls := .none, data := .fields #[rawInt pos.line, rawInt pos.col, .ref c'] } := I.hok P _ hP
    refine PySem.W.kla_makeFunctionHit (mg := X.mg) (c := c) (P := P) (ps := #[rawInt pos.line, rawInt pos.col, .ref c']) (cv := .ref c') (closure_ok hfree) I.ok.glob (I.mod.glob.keeps I.bk) hcode (TB.code.keeps I.bk) hP' (by simp [TriplesOk, rawInt]) (by simp [codeAmong, rawInt]) bP fun ctv h' tk hx hsz => ?_
    have I1 : Inv X pins σ H { s with heap := h', toks := tk } := I.kept (t' := tk) hx
    have I2 := inv_fnL (q := X.env.qual ++ "<lambda>") (params := params) (body := body) (scope := scope) (cl := cloFrom X.env.cells scope.names []) (c' := c') (pm := (X.mg "__name__").getD .none) (ctv := ctv) (t' := tk) I1
    exact h h'.objs.size c' H _ I2 (I1.hok.fresh (Nat.le_refl _)) hco ⟨c', hP, hco⟩ (ExtN.refl H) fun _ => rfl
/-- it runs within calls of built-ins -/
theorem run_lam {A' : Around} {k : Nat} {N fr : List Str} {x q : Str} {params : Arguments} {body : Expr} {scope : Scope} {cl : List (Str × Addr)} {f c' : Addr} {ws : List (Option V)} {v : V} {u : Value} {tb : TE} {Q : VK} {E : Value → Shared → Prop}
    (hr : Room (k + 1) A') (hf : A'.frames = some X.stack) (I : Inv X pins σ H s) (hF : H f = some (FnL f q params body scope cl c')) (hC : H c' = some (CodeO c' q)) (S : NScope N [x] fr scope)
    (hbind : ∀ (pm ctv u : Value), bindArgs (PySem.W.kla_fn "<lambda>" q params body scope cl pm (.ref c') ctv) ⟨[u], []⟩ = pure [(x, u)]) (C : CellsAt cl fr ws s.heap H) (r : RelV v u)
    (hbody : ∀ (A : Around) (outer : List Env) (s : Shared) (H : Hp) (E : XK), Room k (A.deeper (envF ⟨"<lambda>", q, params, [], scope, cl, c'⟩ f s.heap.objs.size)) → PE (ncx CX0 X.prog X.w X.K X.mg X.base N ⟨"<lambda>", q, params, [], scope, cl, c'⟩ f A outer s H E) body tb)
    (ht : tb (startF N [v] ws) H Q) : wpAny (model X.prog X.w) A' (call (.ref f) [u]) (EP X pins σ Q) E s := by
  obtain ⟨⟨pm, ctv, ho⟩, _, _⟩ := I.hok f _ hF
  have e := I.env0
  have rc : codeAny (model X.prog X.w) A' (.call (.ref f) ⟨[u], []⟩) (CR CX0 X.stack X.prog X.w H s Q E0) s := by
    refine PySem.W.kla_callFunE hr.depth ho rfl S.co S.gen rfl (codeO_at I.hok hC) ?_
    rw [hbind]
    refine wpAny_pure (wpAny_newFunctionEnv S.nocell (fun y hy => S.par y.1 (by rw [List.mem_singleton] at hy; rw [hy]; exact List.mem_singleton_self _)) (fun h₁ hns hsb => ⟨I.nolimit.fresh _ hsb, ?_⟩) S.kind)
    show codeAny _ _ (.expr body (envF ⟨"<lambda>", q, params, [], scope, cl, c'⟩ f s.heap.objs.size)) _ _
    have kp : ∀ b o, s.heap.get? b = some o → h₁.get? b = some o := fun b o e => hsb.extBut b o (Nat.ne_of_lt (Heap.lt_size e)) (Heap.get?_push_of_some _ e)
    have J : Inv (ncx CX0 X.prog X.w X.K X.mg X.base N ⟨"<lambda>", q, params, [], scope, cl, c'⟩ f A' X.stack s H E0) [] (startF N [v] ws) H { s with heap := h₁, toks := s.toks + [(x, u)].length } :=
      inv_startN (us := [u]) S hr.hd ⟨hf, e.mod, e.bs, e.bsz, e.funs, e.frf, e.hok, e.bare⟩ rfl (.cons r .nil) C hns kp
    refine PySem.W.kla_codeExpr (wpAny_mono ((hbody A' X.stack s H E0 (hr.deeper _)).run [] _ _ H Q J ht) (fun v s' hq => ?_) fun e s' hq => hq)
    obtain ⟨w', H', J', rv, q⟩ := hq
    exact ⟨w', H', J'.os, J'.bare, J'.base, J'.hok, rv, q⟩
  refine wpAny_call (codeAny_mono rc fun r s' hq => ?_)
  cases r with
  | error e => exact (show False from hq).elim
  | ok fl =>
    cases fl with
    | ret u => exact I.after hq
    | next => exact False.elim hq
    | brk => exact False.elim hq
    | cont => exact False.elim hq
end
/-- making it -/
def tLamE (P : Addr) (q : Str) (pos : Pos) (params : Arguments) (body : Expr) (scope : Scope) (cl : List (Str × Addr)) : TE := fun σ H Q => (TNew P H ∨ TOld P q pos H) ∧
  ∀ (f c' : Addr) (H1 : Hp), H1 f = none → H1 c' = some (CodeO c' q) → TOld P q pos H1 → ExtN H H1 → (TOld P q pos H → H1 = H) → Q (.ref f) (upd H1 f (FnL f q params body scope cl c'))
section
variable {X : Cx}
theorem pe_lamE {c P : Addr} {params : Arguments} {body : Expr} {scope : Scope} {pos : Pos} (TB : TabB X.base X.mg c P) (hcode : X.env.code = .ref c) (hdef : defaultsOf params X.env = ([], [])) {fr : List Str} (hnd : ndefB X.env.scope scope fr = true) :
    PE X (.Lambda params body scope pos) (tLamE P (X.env.qual ++ "<lambda>") pos params body scope (cloFrom X.env.cells scope.names [])) := by
  refine ⟨fun pins s σ H Q I h => ?_⟩
  have hfr := ndef_free hnd
  exact lam_mk I TB hcode hdef (fun y hy e => (hfr y hy e).elim (fun z => I.ok.has _ (.inl z)) fun z => I.ok.has _ (.inr z)) h.1 fun f c' H1 s' I1 h1 h2 h3 h4 h5 => ⟨.ref f, _, I1, rfl, h.2 f c' H1 h1 h2 h3 h4 h5⟩
/-- sorted(e, key=lambda x: body) -/
def gSort (X : Cx) (N : List Str) (js : List Nat) (tb : TE) (σ : L2.St) (Q : VK) (x : V) (H2 : Hp) : Prop :=
  ∃ (β : Type) (val : β → V) (key : β → PyData) (bs : List β), Coll X x H2 (bs.map val) ∧ PySem.W.AllAlike (bs.map key) ∧ PySem.W.Sortable (bs.map key) ∧ bs.length ≤ 100000 ∧ (∀ b ∈ bs, (key b).depth ≤ 10) ∧
    (∀ b ∈ bs, ∀ H3, Ex H2 H3 → tb (startF N [val b] (js.map (slotAt σ))) H3 fun v H4 => Ex H3 H4 ∧ Td H4 v (key b)) ∧
    ∀ p H3, H2 p = none → Ex H2 H3 → H3 p = some (.lst ((bs.mergeSort (PySem.W.dataLe false key)).map val)) → Q (.ref p) H3
def gLam (X : Cx) (P : Addr) (q : Str) (pos : Pos) (N : List Str) (js : List Nat) (tb : TE) (σ : L2.St) (Q : VK) (x : V) (H1 : Hp) : Prop := (TNew P H1 ∨ TOld P q pos H1) ∧ ∀ H2, ExtN H1 H2 → TOld P q pos H2 → (TOld P q pos H1 → Ex H1 H2) → gSort X N js tb σ Q x H2
def tSortLam (X : Cx) (P : Addr) (q : Str) (pos : Pos) (N : List Str) (js : List Nat) (te tb : TE) : TE := fun σ H Q => te σ H (gLam X P q pos N js tb σ Q)
def gl1 (g : V → Hp → Prop) : List V → Hp → Prop
  | [x], H => g x H
  | _, _ => False
theorem gl1_of {g : V → Hp → Prop} {vs : List V} {H : Hp} (h : gl1 g vs H) : ∃ x, vs = [x] ∧ g x H := by
  match vs, h with
  | [x], h => exact ⟨x, rfl, h⟩
theorem s_sortRng {P : Addr} {q : Str} {pos : Pos} {N : List Str} {js : List Nat} {te tb : TE} {σ : L2.St} {H : Hp} {Q : VK} {n : Int} (h : Ev te σ H (.int n)) (k : ∀ H1 r, Ex H H1 → H1 r = none → gLam X P q pos N js tb σ Q (.ref r) (upd H1 r (.rng 0 n))) :
    tSortLam X P q pos N js (tCB rRng1 (tCons te tNil)) tb σ H Q := h H (Ex.refl H) _ fun H1 e1 => ⟨n, rfl, fun r hr => k H1 r e1 hr⟩
theorem pe_sortLam {e : Expr} {te tb : TE} {x : Str} {c P : Addr} {params : Arguments} {body : Expr} {scope : Scope} {p pos lpos kpos : Pos} {N fr : List Str} {js : List Nat} {j k : Nat} (he : PE X e te) (hg : Gl X "sorted") (hm : X.mg "sorted" = none) (TB : TabB X.base X.mg c P) (hcode : X.env.code = .ref c)
    (hdef : defaultsOf params X.env = ([], [])) (hbind : ∀ (q : Str) (cl : List (Str × Addr)) (pm cv ctv u : Value), bindArgs (PySem.W.kla_fn "<lambda>" q params body scope cl pm cv ctv) ⟨[u], []⟩ = pure [(x, u)]) (S : NScope N [x] fr scope) (hnd : ndefB X.env.scope scope fr = true)
    (hjs : js.map (fun j => X.N[j]?) = fr.map some) (hr : Room j X.A) (hk : k + 3 ≤ j)
    (hbody : ∀ (q : Str) (cl : List (Str × Addr)) (c' f : Addr) (A : Around) (outer : List Env) (s : Shared) (H : Hp) (E : XK), Room k (A.deeper (envF ⟨"<lambda>", q, params, [], scope, cl, c'⟩ f s.heap.objs.size)) → PE (ncx CX0 X.prog X.w X.K X.mg X.base N ⟨"<lambda>", q, params, [], scope, cl, c'⟩ f A outer s H E) body tb)
    (hs : starEach [e] X.env = (false, eval e X.env) :: starEach [] X.env := by rfl)
    (hs2 : backTo pos (starEach [e] X.env) = (false, eval e X.env) :: backTo pos (starEach [] X.env) := by rfl) (hpl : (backTo pos (starEach [e] X.env)).any (·.1) = false := by rfl)
    (hall : (backToKw pos (keywordEach [⟨some "key", .Lambda params body scope lpos, kpos⟩] X.env)).all (·.1.isSome) = true := by rfl) (hnone : (backToKw pos (keywordEach [⟨some "key", .Lambda params body scope lpos, kpos⟩] X.env)).any (·.1.isNone) = false := by rfl)
    (hks : (backToKw pos (keywordEach [⟨some "key", .Lambda params body scope lpos, kpos⟩] X.env)).filterMap (·.1) = [Str.ofString "key"] := by rfl) :
    PE X (.Call (.Name "sorted" p) [e] [⟨some "key", .Lambda params body scope lpos, kpos⟩] pos) (tSortLam X P (X.env.qual ++ "<lambda>") lpos N js te tb) := by
  refine ⟨fun pins s σ H Q I h => ?_⟩
  have hr3 : Room (k + 1 + 2) X.A := hr.mono hk
  have ha : PA X [e] (tCons te tNil) := pa_cons he pa_nil hs
  have hkw : PK X [⟨some "key", .Lambda params body scope lpos, kpos⟩] (tCons (tLamE P (X.env.qual ++ "<lambda>") lpos params body scope (cloFrom X.env.cells scope.names [])) tNil) := pk_cons (pe_lamE TB hcode hdef hnd) pk_nil
  refine wpAny_Call_Name_kw (ld_blt I hg hm bt_sorted ?_ (by decide) (by decide))
  refine PyProof.Rows.callWith_kw (thn (ha.run pos pins s σ H (gl1 (gLam X P (X.env.qual ++ "<lambda>") lpos N js tb σ Q)) I h) fun us s1 ⟨vs, H1, I1, r1, q1⟩ => ?_) hs2 hpl hall hnone
  obtain ⟨x1, rfl, q1⟩ := gl1_of q1
  obtain ⟨u, rfl, rx⟩ := vals1 r1
  refine thn (hkw.run pos pins s1 σ H1 (fun zs H2 => ∃ f c', zs = [V.ref f] ∧ H2 f = some (FnL f (X.env.qual ++ "<lambda>") params body scope (cloFrom X.env.cells scope.names []) c') ∧ H2 c' = some (CodeO c' (X.env.qual ++ "<lambda>")) ∧ gSort X N js tb σ Q x1 H2) I1 ⟨q1.1, fun f c' H1' hf hc ho hE hH => ⟨f, c', rfl, upd_same, ?_, ?_⟩⟩) fun ws s2 ⟨zs, H2, I2, r2, f, c', hz, hF, hC, g⟩ => ?_
  · rw [upd_ne (ne_of_none hc hf)]
    exact hc
  · refine q1.2 _ (fun b o e n => ?_) (TOld.ex (Ex.new hf) ho) fun z => ?_
    · have e1 := hE b o e n
      rw [upd_ne (ne_of_none e1 hf)]
      exact e1
    · have e1 := hH z
      subst e1
      exact Ex.new hf
  · subst hz
    obtain ⟨w1, rfl, e1⟩ := vals1 r2
    obtain rfl : w1 = Value.ref f := e1
    rw [hks]
    obtain ⟨β, val, key, bs, hcoll, hal, hsk, hzz, hdp, ht, q⟩ := g
    have hfr := ndef_free hnd
    refine sorted_keyed I2 hr3.hd rx hcoll hal hsk hzz (fun b hb => ?_) (fun b hb pins' s' H' u' I' e' ru _ => ?_) q
    · have h1 := hdp b hb
      have h2 := hr3.units
      omega
    · exact run_lam (Room.in1 (Room.in1 hr3)) I'.ok.frames I' (e' _ _ hF) (e' _ _ hC) S (fun pm ctv u => hbind _ _ pm _ ctv u) (cells_of I' (Caps.made I'.ok hfr (ndef_fr hnd) hjs)) ru (fun A outer s H E hr' => hbody _ _ _ _ A outer s H E hr') (ht b hb H' e')
end
/-! ### the end of a law with tables -/
def tabO : Obj := { cls := .none, data := .fields #[] }
/-- the tables of the defs stand empty at the law's start -/
def OwnTabs (q : Program) (K : PySem.W.Frag) (mg : Str → Option Value) (h : Heap) : Prop := ∀ (x : Str) (fa : Addr), ((recsOf q).any fun e => e.name == x) = true → mg x = some (.ref fa) →
  ∀ (c P : Addr) (o : Obj) (fd : FuncData) (e : Value) (dd : Option Addr) (vs : Array Value) (sl : Array (Option Value)), K.lookup fa = some o → o.data = .func fd → fd.code = .ref c → K.lookup c = some ⟨e, dd, .fields vs, sl⟩ → vs[11]? = some (.ref P) → PySem.W.CodeHd h c P ∧ h.get? P = some { cls := .none, data := .fields #[] }
theorem walk_tabs {l : PySem.W.OpenLaw} {n k : Nat} {q : Program} {loose : List Str} {XP : (Str → Option Value) → Heap → Prop} {YP : World → Heap → Prop} {d : DefRec} {K : Params → PySem.W.Frag} {CX : World → CXT} {x : Str}
    (hn : l.most = some n) (hn2 : n ≤ sizeLine) (hdf : d.params.defaults = []) (hr : Room k callerA) (hY : ∀ (w : World) (h : Heap), YP w h → (K w.params).In h)
    (F : ∀ (w : World) (mg : Str → Option Value) (fa : Addr) (h : Heap), (K w.params).In h → h.Ns mainGlobals mg → mg d.name = some (.ref fa) → OwnTabs q (K w.params) mg h → LawAtS l w (K w.params) (CX w) k n x mg fa h)
    (hCX : ∀ (w : World) (H : Hp) (s : Shared) (e : Value) (s' : Shared), CX w [] H s (fun _ _ _ => False) e s' → False) :
    PySem.W.WalkO q loose XP YP l.row.toRowW d [] (fun f vs => PySem.call f vs) := by
  refine Att.attach_callB hn hdf fun w s₀ s₁ mg mb fa o pm cd doc a vs ns G Y ho hd hcd hmg hobj hints hlen hbits hg => ?_
  have KX := hY w _ Y
  have own : OwnTabs q (K w.params) mg s₁.heap := fun y fy hrec hmy c P o1 fd1 e dd vs1 sl k1 k2 k3 k4 k5 => by
    obtain ⟨dL, hm, hn1⟩ := List.any_eq_true.mp hrec
    have hn2 : dL.name = y := beq_iff_eq.mp hn1
    obtain ⟨a', o', fd', c', P', h1, h2, h3, h4, h5, h6⟩ := G.T.tab dL hm
    rw [hn2, hmy] at h1
    cases h1
    have g1 := KX _ _ k1
    rw [g1] at h2
    cases h2
    rw [k2] at h3
    cases h3
    rw [k3] at h4
    cases h4
    have h6' := h6
    obtain ⟨⟨oc, vc, e1, _, e3, e4⟩, hP⟩ := h6
    have g2 := KX _ _ k4
    rw [g2] at e1
    cases e1
    cases e3
    rw [k5] at e4
    cases e4
    exact ⟨PySem.W.CodeHd.of h5 h6', hP⟩
  obtain ⟨fd, cs, sp, hT, nT, C, hb, hsp, hF⟩ := F w mg fa _ KX G.T.g hmg own
  exact law_callTs KX G.T.g G.T.b G.T.builtins G.T.nolimit hg hT nT C G.T.bmain hobj hints (Nat.le_trans hlen hn2) hr hF hb (fun H hH hS => hsp H a ns hlen hbits hH hS) fun H e s' => hCX w H s₁ e s'
end TY
namespace TY
open PySem PySem.Spec PyProof.Rows L2 Evl
/-! ### zip of two texts -/
section
variable {prog : Program} {w : World} {A : Around} {E : Value → Shared → Prop} {s : Shared} {p q : Str} {tp tq : Tok} {z TI TO i1 i2 : Addr} {a b : Value} {k : Nat}
abbrev StrIt (h : Heap) (it : Addr) (x : Str) (t : Tok) (i : Nat) : Prop := h.IsStrIter it (strIterType x) x t i
theorem StrIt.ext {h h' : Heap} {it c : Addr} {x : Str} {t : Tok} {i : Nat} (y : StrIt h it x t i) (hs : Heap.SameBut c h h') (hne : it ≠ c) : StrIt h' it x t i := Heap.IsStrIter.extBut y hs.extBut hne
theorem nx_item {it : Addr} {x : Str} {t : Tok} {i c : Nat} {Q : Value → Shared → Prop} (hit : StrIt s.heap it x t i) (hx : x.cps[i]? = some c)
    (hQ : ∀ h', StrIt h' it x t (i + 1) → Heap.SameBut it s.heap h' → Q (.str ⟨#[c]⟩ s.toks) { s with heap := h', toks := s.toks + 1 }) :
    wpAny (model prog w) A (Builtin.SmallTypes.nextOf (.ref it)) Q E s := by
  cases h : x.cps.all (· < 128) with
  | true =>
    have e : strIterType x = "str_ascii_iterator" := if_pos h
    have f : ∀ h i, StrIt h it x t i = h.IsStrIter it "str_ascii_iterator" x t i := fun h i => by
      unfold StrIt
      rw [e]
    exact wpAny_nextOf_ascii_item (f _ _ ▸ hit) hx fun h' y => hQ h' (f _ _ ▸ y)
  | false =>
    have e : strIterType x = "str_iterator" := if_neg (by simp [h])
    have f : ∀ h i, StrIt h it x t i = h.IsStrIter it "str_iterator" x t i := fun h i => by
      unfold StrIt
      rw [e]
    exact wpAny_nextOf_wide_item (f _ _ ▸ hit) hx fun h' y => hQ h' (f _ _ ▸ y)
theorem nx_end {it : Addr} {x : Str} {t : Tok} {i : Nat} {Q : Value → Shared → Prop} (hh : A.handled = none) (hit : StrIt s.heap it x t i) (hx : x.cps[i]? = none)
    (hE : ∀ h' e, Heap.ExtBut it s.heap h' → (∃ o, h'.get? e = some o ∧ o.cls = .type "StopIteration") → E (.ref e) { s with heap := h' }) :
    wpAny (model prog w) A (Builtin.SmallTypes.nextOf (.ref it)) Q E s := by
  cases h : x.cps.all (· < 128) with
  | true =>
    have e : strIterType x = "str_ascii_iterator" := if_pos h
    have f : ∀ h i, StrIt h it x t i = h.IsStrIter it "str_ascii_iterator" x t i := fun h i => by
      unfold StrIt
      rw [e]
    exact wpAny_nextOf_ascii_end hh (f _ _ ▸ hit) hx hE
  | false =>
    have e : strIterType x = "str_iterator" := if_neg (by simp [h])
    have f : ∀ h i, StrIt h it x t i = h.IsStrIter it "str_iterator" x t i := fun h i => by
      unfold StrIt
      rw [e]
    exact wpAny_nextOf_wide_end hh (f _ _ ▸ hit) hx hE
structure Far (z TI TO i1 i2 : Addr) : Prop where
  a1 : TI ≠ z
  a2 : TO ≠ z
  a3 : i1 ≠ z
  a4 : i2 ≠ z
  a5 : TI ≠ TO
  a6 : TI ≠ i1
  a7 : TI ≠ i2
  a8 : TO ≠ i1
  a9 : TO ≠ i2
  a0 : i1 ≠ i2
/-- what stands outside the four objects that a turn writes at -/
def Out4 (z TO i1 i2 : Addr) (h h' : Heap) : Prop := ∀ c o, c ≠ z → c ≠ TO → c ≠ i1 → c ≠ i2 → h.get? c = some o → h'.get? c = some o
theorem zs_item {c d : Nat} {Q : Value → Shared → Prop} (D : Far z TI TO i1 i2) (hz : IsZip s.heap z TI TO .none) (hT : IsPair s.heap TI (.ref i1) (.ref i2)) (hO : IsPair s.heap TO a b)
    (h1 : StrIt s.heap i1 p tp k) (h2 : StrIt s.heap i2 q tq k) (hx : p.cps[k]? = some c) (hy : q.cps[k]? = some d)
    (hQ : ∀ h' u v tk, IsZip h' z TI TO (rawInt s.heap.objs.size) → IsPair h' TO (.str ⟨#[c]⟩ u) (.str ⟨#[d]⟩ v) → StrIt h' i1 p tp (k + 1) → StrIt h' i2 q tq (k + 1) → IsPair h' s.heap.objs.size (.str ⟨#[c]⟩ u) (.str ⟨#[d]⟩ v) → Out4 z TO i1 i2 s.heap h' → Q (.ref s.heap.objs.size) { s with heap := h', toks := tk }) :
    wpAny (model prog w) A (Builtin.«zip.__next__» ⟨[.ref z], []⟩) (fun fin s' => ∃ v, fin = .done (.ret v) ∧ Q v s') E s := by
  refine show wpAny _ _ (field (.ref z) 2 >>= _) _ _ _ from wpAny_bind (wpAny_field hz rfl (x := .bool false) rfl ?_)
  refine show wpAny _ _ (field (.ref z) 3 >>= _) _ _ _ from wpAny_bind (wpAny_field hz rfl (x := .ref TI) rfl (wpAny_bind (wpAny_seqItems hT rfl ?_)))
  refine show wpAny _ _ (Builtin.SmallTypes.ownedTupleIsFree (.ref z) >>= _) _ _ _ from wpAny_bind ?_
  unfold Builtin.SmallTypes.ownedTupleIsFree
  refine wpAny_bind (wpAny_field hz rfl (x := .none) rfl (wpAny_pure ?_))
  rw [if_pos rfl]
  refine wpAny_bind (wpAny_rule (wpAny_bind (wpAny_field hz rfl (x := .ref TO) rfl (wpAny_bind (wpAny_setField_rec hz (by simp) fun g1 y1 e1 => ?_)))))
  replace y1 : IsZip g1 z TI TO .ellipsis := y1
  refine wpAny_bind ?_
  simp only [List.zipIdx_cons, List.zipIdx_nil, List.forIn_cons, List.forIn_nil]
  refine wpAny_bind (wpAny_bind (wpAny_onRaise ?_))
  refine show wpAny _ _ (Builtin.SmallTypes.nextOf (.ref i1) >>= _) _ _ _ from wpAny_bind (nx_item (h1.ext e1 D.a3) hx fun g2 n1 e2 => wpAny_pure ?_)
  have o2 : IsPair g2 TO a b := e2.extBut _ _ D.a8 (e1.extBut _ _ D.a2 hO)
  refine wpAny_bind (wpAny_seqItems o2 rfl (wpAny_bind (wpAny_updateSeq_pair o2 fun g3 o3 e3 => wpAny_bind (wpAny_letGo (wpAny_pure ?_)))))
  replace o3 : IsPair g3 TO (.str ⟨#[c]⟩ _) b := o3
  refine wpAny_bind (wpAny_bind (wpAny_onRaise ?_))
  refine show wpAny _ _ (Builtin.SmallTypes.nextOf (.ref i2) >>= _) _ _ _ from wpAny_bind (nx_item (((h2.ext e1 D.a4).ext e2 D.a0.symm).ext e3 D.a9.symm) hy fun g4 n2 e4 => wpAny_pure ?_)
  have o4 : IsPair g4 TO (.str ⟨#[c]⟩ _) b := e4.extBut _ _ D.a9 o3
  refine wpAny_bind (wpAny_seqItems o4 rfl (wpAny_bind (wpAny_updateSeq_pair o4 fun g5 o5 e5 => wpAny_bind (wpAny_letGo (wpAny_pure (wpAny_pure ?_))))))
  replace o5 : IsPair g5 TO (.str ⟨#[c]⟩ _) (.str ⟨#[d]⟩ _) := o5
  refine wpAny_bind (wpAny_seqItems o5 rfl (wpAny_bind (wpAny_newTuple ?_)))
  have sz : g5.objs.size = s.heap.objs.size := by rw [e5.1, e4.1, e3.1, e2.1, e1.1]
  have y5 : IsZip g5 z TI TO .ellipsis := e5.extBut _ _ D.a2.symm (e4.extBut _ _ D.a4.symm (e3.extBut _ _ D.a2.symm (e2.extBut _ _ D.a3.symm y1)))
  have out : Out4 z TO i1 i2 s.heap g5 := fun c o c1 c2 c3 c4 e => e5.extBut _ _ c2 (e4.extBut _ _ c4 (e3.extBut _ _ c2 (e2.extBut _ _ c3 (e1.extBut _ _ c1 e))))
  have m1 : StrIt g5 i1 p tp (k + 1) := ((n1.ext e3 D.a8.symm).ext e4 D.a0).ext e5 D.a8.symm
  have m2 : StrIt g5 i2 q tq (k + 1) := n2.ext e5 D.a9.symm
  have zl : z < g5.objs.size := Heap.lt_size y5
  refine show wpAny _ _ (Builtin.SmallTypes.ownedTupleHandOut (.ref z) (.ref g5.objs.size) >>= _) _ _ _ from wpAny_bind ?_
  unfold Builtin.SmallTypes.ownedTupleHandOut
  generalize hg6 : g5.push _ = g6
  have up5 : ∀ c o, g5.get? c = some o → g6.get? c = some o := fun c o e => by
    rw [← hg6]
    exact Heap.get?_push_of_some _ e
  have nw : ∃ u v, g6.get? g5.objs.size = some { cls := .type "tuple", data := .seq #[.str ⟨#[c]⟩ u, .str ⟨#[d]⟩ v] } ∧ IsPair g5 TO (.str ⟨#[c]⟩ u) (.str ⟨#[d]⟩ v) := ⟨_, _, by rw [← hg6]; exact Heap.get?_push_size _ rfl, o5⟩
  obtain ⟨u, v, nw, o5⟩ := nw
  refine wpAny_bind (wpAny_setField_rec (up5 _ _ y5) (by simp) fun g7 y7 e7 => ?_)
  replace y7 : IsZip g7 z TI TO (rawInt g5.objs.size) := y7
  refine wpAny_setField_rec y7 (by simp) fun g8 y8 e8 => wpAny_pure ⟨_, rfl, ?_⟩
  replace y8 : IsZip g8 z TI TO (rawInt g5.objs.size) := y8
  have up : ∀ c o, c ≠ z → g6.get? c = some o → g8.get? c = some o := fun c o c1 e => e8.extBut _ _ c1 (e7.extBut _ _ c1 e)
  have n8 := up _ _ (Nat.ne_of_gt zl) nw
  rw [sz] at y8 n8
  refine show Q (.ref g5.objs.size) _ from ?_
  rw [sz]
  obtain ⟨ob1, f1, r1⟩ := m1
  obtain ⟨ob2, f2, r2⟩ := m2
  exact hQ g8 u v _ y8 (up _ _ D.a2 (up5 _ _ o5)) ⟨ob1, up _ _ D.a3 (up5 _ _ f1), r1⟩ ⟨ob2, up _ _ D.a4 (up5 _ _ f2), r2⟩ n8 fun c o c1 c2 c3 c4 e => up c o c1 (up5 _ _ (out c o c1 c2 c3 c4 e))
theorem zs_end {Q : Fin → Shared → Prop} (hh : A.handled = none) (D : Far z TI TO i1 i2) (hz : IsZip s.heap z TI TO .none) (hT : IsPair s.heap TI (.ref i1) (.ref i2)) (hO : IsPair s.heap TO a b)
    (h1 : StrIt s.heap i1 p tp k) (h2 : StrIt s.heap i2 q tq k) (hend : p.cps[k]? = none ∨ q.cps[k]? = none)
    (hE : ∀ h' e tk, Out4 z TO i1 i2 s.heap h' → (∃ o, h'.get? e = some o ∧ o.cls = .type "StopIteration") → E (.ref e) { s with heap := h', toks := tk }) :
    wpAny (model prog w) A (Builtin.«zip.__next__» ⟨[.ref z], []⟩) Q E s := by
  refine show wpAny _ _ (field (.ref z) 2 >>= _) _ _ _ from wpAny_bind (wpAny_field hz rfl (x := .bool false) rfl ?_)
  refine show wpAny _ _ (field (.ref z) 3 >>= _) _ _ _ from wpAny_bind (wpAny_field hz rfl (x := .ref TI) rfl (wpAny_bind (wpAny_seqItems hT rfl ?_)))
  refine show wpAny _ _ (Builtin.SmallTypes.ownedTupleIsFree (.ref z) >>= _) _ _ _ from wpAny_bind ?_
  unfold Builtin.SmallTypes.ownedTupleIsFree
  refine wpAny_bind (wpAny_field hz rfl (x := .none) rfl (wpAny_pure ?_))
  rw [if_pos rfl]
  refine wpAny_bind (wpAny_rule (wpAny_bind (wpAny_field hz rfl (x := .ref TO) rfl (wpAny_bind (wpAny_setField_rec hz (by simp) fun g1 y1 e1 => ?_)))))
  replace y1 : IsZip g1 z TI TO .ellipsis := y1
  refine wpAny_bind ?_
  simp only [List.zipIdx_cons, List.zipIdx_nil, List.forIn_cons, List.forIn_nil]
  refine wpAny_bind (wpAny_bind (wpAny_onRaise ?_))
  cases hx : p.cps[k]? with
  | none =>
    refine show wpAny _ _ (Builtin.SmallTypes.nextOf (.ref i1) >>= _) _ _ _ from wpAny_bind (nx_end hh (h1.ext e1 D.a3) hx fun g2 e e2 he => ?_)
    obtain ⟨oe, hoe, hce⟩ := he
    have y2 : IsZip g2 z TI TO .ellipsis := e2 _ _ D.a3.symm y1
    have hez : e ≠ z := fun x => by subst x; rw [y2] at hoe; cases hoe; simp at hce
    exact wpAny_setField_rec y2 (by simp) fun g3 _ e3 => hE g3 e _ (fun c o c1 _ c3 _ x => e3.extBut _ _ c1 (e2 _ _ c3 (e1.extBut _ _ c1 x))) ⟨oe, e3.extBut _ _ hez hoe, hce⟩
  | some x =>
    have hy : q.cps[k]? = none := by rcases hend with h | h; rw [hx] at h; cases h; exact h
    refine show wpAny _ _ (Builtin.SmallTypes.nextOf (.ref i1) >>= _) _ _ _ from wpAny_bind (nx_item (h1.ext e1 D.a3) hx fun g2 n1 e2 => wpAny_pure ?_)
    have o2 : IsPair g2 TO a b := e2.extBut _ _ D.a8 (e1.extBut _ _ D.a2 hO)
    refine wpAny_bind (wpAny_seqItems o2 rfl (wpAny_bind (wpAny_updateSeq_pair o2 fun g3 o3 e3 => wpAny_bind (wpAny_letGo (wpAny_pure ?_)))))
    refine wpAny_bind (wpAny_bind (wpAny_onRaise ?_))
    refine show wpAny _ _ (Builtin.SmallTypes.nextOf (.ref i2) >>= _) _ _ _ from wpAny_bind (nx_end hh (((h2.ext e1 D.a4).ext e2 D.a0.symm).ext e3 D.a9.symm) hy fun g4 e e4 he => ?_)
    obtain ⟨oe, hoe, hce⟩ := he
    have y4 : IsZip g4 z TI TO .ellipsis := e4 _ _ D.a4.symm (e3.extBut _ _ D.a2.symm (e2.extBut _ _ D.a3.symm y1))
    have hez : e ≠ z := fun x => by subst x; rw [y4] at hoe; cases hoe; simp at hce
    exact wpAny_setField_rec y4 (by simp) fun g5 _ e5 => hE g5 e _ (fun c o c1 c2 c3 c4 x => e5.extBut _ _ c1 (e4 _ _ c4 (e3.extBut _ _ c2 (e2.extBut _ _ c3 (e1.extBut _ _ c1 x))))) ⟨oe, e5.extBut _ _ hez hoe, hce⟩
end
section
variable {prog : Program} {w : World} {A : Around} {E : Value → Shared → Prop} {s : Shared} {p q : Str} {tp tq : Tok} {z TI TO i1 i2 : Addr} {a b : Value} {k : Nat}
theorem zs_next {c d : Nat} {Q : Option Value → Shared → Prop} (D : Far z TI TO i1 i2) (hz : IsZip s.heap z TI TO .none) (hT : IsPair s.heap TI (.ref i1) (.ref i2)) (hO : IsPair s.heap TO a b)
    (h1 : StrIt s.heap i1 p tp k) (h2 : StrIt s.heap i2 q tq k) (hx : p.cps[k]? = some c) (hy : q.cps[k]? = some d)
    (hQ : ∀ h' u v tk, IsZip h' z TI TO (rawInt s.heap.objs.size) → IsPair h' TO (.str ⟨#[c]⟩ u) (.str ⟨#[d]⟩ v) → StrIt h' i1 p tp (k + 1) → StrIt h' i2 q tq (k + 1) → IsPair h' s.heap.objs.size (.str ⟨#[c]⟩ u) (.str ⟨#[d]⟩ v) → Out4 z TO i1 i2 s.heap h' → Q (some (.ref s.heap.objs.size)) { s with heap := h', toks := tk }) :
    wpAny (model prog w) A (pyNext (.ref z)) Q E s := by
  have ty : s.TypeIs (.ref z) "zip" := ⟨_, hz, rfl⟩
  unfold pyNext
  refine wpAny_bind (wpAny_attempt (wpAny_callSpecial?_slot (name := Str.ofString "__next__") ty F.slot_zip_next (wpAny_call_entry F.slot_zip_next ty F.entry_zip_next ?_ (F.args_zip_next_1 _))))
  exact zs_item D hz hT hO h1 h2 hx hy fun h' u v tk a1 a2 a3 a4 a5 a6 => wpAny_pure (hQ h' u v tk a1 a2 a3 a4 a5 a6)
theorem zs_stop {Q : Option Value → Shared → Prop} (hh : A.handled = none) (D : Far z TI TO i1 i2) (hz : IsZip s.heap z TI TO .none) (hT : IsPair s.heap TI (.ref i1) (.ref i2)) (hO : IsPair s.heap TO a b)
    (h1 : StrIt s.heap i1 p tp k) (h2 : StrIt s.heap i2 q tq k) (hend : p.cps[k]? = none ∨ q.cps[k]? = none)
    (hQ : ∀ h' tk, Out4 z TO i1 i2 s.heap h' → Q none { s with heap := h', toks := tk }) :
    wpAny (model prog w) A (pyNext (.ref z)) Q E s := by
  have ty : s.TypeIs (.ref z) "zip" := ⟨_, hz, rfl⟩
  unfold pyNext
  refine wpAny_bind (wpAny_attempt (wpAny_callSpecial?_slot (name := Str.ofString "__next__") ty F.slot_zip_next (wpAny_call_entry F.slot_zip_next ty F.entry_zip_next ?_ (F.args_zip_next_1 _))))
  refine zs_end hh D hz hT hO h1 h2 hend fun h' e tk hk ⟨o, ho, hc⟩ => ?_
  exact wpAny_bind (wpAny_isInstance (T := "StopIteration") (b := true) ⟨o, ho, hc⟩ isSubtype_stop (wpAny_pure (hQ _ _ hk)))
end
abbrev itOb (x : Str) (t : Tok) : Obj := { cls := .type (strIterType x), data := .fields #[.str x t, .int 0 0] }
abbrev g1Z (h : Heap) (p : Str) (tp : Tok) : Heap := h.push (itOb p tp)
abbrev g2Z (h : Heap) (p q : Str) (tp tq : Tok) : Heap := (g1Z h p tp).push (itOb q tq)
abbrev g3Z (h : Heap) (p q : Str) (tp tq : Tok) : Heap := (g2Z h p q tp tq).push { cls := .type "tuple", data := .seq #[.ref h.objs.size, .ref (g1Z h p tp).objs.size] }
abbrev g4Z (h : Heap) (p q : Str) (tp tq : Tok) : Heap := (g3Z h p q tp tq).push { cls := .type "tuple", data := .seq #[.none, .none] }
abbrev g5Z (h : Heap) (p q : Str) (tp tq : Tok) : Heap := (g4Z h p q tp tq).push { cls := .type "zip", data := .fields #[.none, .bool false, .bool false, .ref (g2Z h p q tp tq).objs.size, .ref (g3Z h p q tp tq).objs.size] }
theorem meets_zipS (p q : Str) (tp tq : Tok) : Meets (Builtin.«zip.__new__» ⟨[.type "zip", .str p tp, .str q tq], []⟩) (fun _ R s => R (.ok (.ret (.ref (g4Z s.heap p q tp tq).objs.size))) { s with heap := g5Z s.heap p q tp tq }) :=
  .of_wp fun prog w A R s h => by
    obtain ⟨hp, g, d, tk, os⟩ := s
    have hsub := sub_zip
    wp_walk using wpAny_pyIter_strU
    exact ⟨_, rfl, h⟩
theorem call_zipS {prog : Program} {w : World} {A : Around} {E : Value → Shared → Prop} {s : Shared} {p q : Str} {tp tq : Tok} {Q : Value → Shared → Prop}
    (h : ∀ h' n, n = s.heap.objs.size → IsZip h' (n + 4) (n + 2) (n + 3) .none → IsPair h' (n + 2) (.ref n) (.ref (n + 1)) → IsPair h' (n + 3) .none .none → StrIt h' n p tp 0 → StrIt h' (n + 1) q tq 0 →
      (∀ c o, s.heap.get? c = some o → h'.get? c = some o) → Q (.ref (n + 4)) { s with heap := h' }) :
    wpAny (model prog w) A (call (.type "zip") [.str p tp, .str q tq]) Q E s := by
  refine callType_new F.called_zip (by decide) (F.typeCall_zip_2 _ _) (F.newCall_zip_2 _ _) (fun obj => F.args_object_init_3 obj _ _) F.entry_zip_new (meets_zipS p q tp tq) ?_
  refine show _ ∧ _ from ?_
  generalize hn : s.heap.objs.size = n at h
  have z1 : (g1Z s.heap p tp).objs.size = n + 1 := (Heap.size_push ..).trans (by rw [hn])
  have z2 : (g2Z s.heap p q tp tq).objs.size = n + 2 := (Heap.size_push ..).trans (by rw [z1])
  have z3 : (g3Z s.heap p q tp tq).objs.size = n + 3 := (Heap.size_push ..).trans (by rw [z2])
  have z4 : (g4Z s.heap p q tp tq).objs.size = n + 4 := (Heap.size_push ..).trans (by rw [z3])
  have u5 : ∀ c o, (g4Z s.heap p q tp tq).get? c = some o → (g5Z s.heap p q tp tq).get? c = some o := fun c o e => Heap.get?_push_of_some _ e
  have u4 : ∀ c o, (g3Z s.heap p q tp tq).get? c = some o → (g5Z s.heap p q tp tq).get? c = some o := fun c o e => u5 _ _ (Heap.get?_push_of_some _ e)
  have u3 : ∀ c o, (g2Z s.heap p q tp tq).get? c = some o → (g5Z s.heap p q tp tq).get? c = some o := fun c o e => u4 _ _ (Heap.get?_push_of_some _ e)
  have u2 : ∀ c o, (g1Z s.heap p tp).get? c = some o → (g5Z s.heap p q tp tq).get? c = some o := fun c o e => u3 _ _ (Heap.get?_push_of_some _ e)
  have u1 : ∀ c o, s.heap.get? c = some o → (g5Z s.heap p q tp tq).get? c = some o := fun c o e => u2 _ _ (Heap.get?_push_of_some _ e)
  have k1 : (g5Z s.heap p q tp tq).get? s.heap.objs.size = some (itOb p tp) := u2 _ _ (Heap.get?_push_size _ rfl)
  have k2 : (g5Z s.heap p q tp tq).get? (g1Z s.heap p tp).objs.size = some (itOb q tq) := u3 _ _ (Heap.get?_push_size _ rfl)
  have k3 : IsPair (g5Z s.heap p q tp tq) (g2Z s.heap p q tp tq).objs.size (.ref s.heap.objs.size) (.ref (g1Z s.heap p tp).objs.size) := u4 _ _ (Heap.get?_push_size _ rfl)
  have k4 : IsPair (g5Z s.heap p q tp tq) (g3Z s.heap p q tp tq).objs.size .none .none := u5 _ _ (Heap.get?_push_size _ rfl)
  have k5 : IsZip (g5Z s.heap p q tp tq) (g4Z s.heap p q tp tq).objs.size (g2Z s.heap p q tp tq).objs.size (g3Z s.heap p q tp tq).objs.size .none := Heap.get?_push_size _ rfl
  generalize g5Z s.heap p q tp tq = gg at *
  rw [z2, z3, z4] at k5
  rw [z1, z2, hn] at k3
  rw [z3] at k4
  rw [z1] at k2
  rw [hn] at k1
  rw [z4]
  exact ⟨⟨_, k5, rfl⟩, h gg n rfl k5 k3 k4 ⟨_, k1, rfl, rfl⟩ ⟨_, k2, rfl, rfl⟩ u1⟩
end TY
namespace TY
open PySem PySem.Spec PyProof.Rows L2 Evl
def ItzS (p q : Str) : It :=
  ⟨fun i _ => ∃ c d, p.cps[i]? = some c ∧ q.cps[i]? = some d, fun i H v H' => ∃ T c d, v = .ref T ∧ H T = none ∧ p.cps[i]? = some c ∧ q.cps[i]? = some d ∧ H' = upd H T (.tup [.str ⟨#[c]⟩, .str ⟨#[d]⟩]),
    fun i _ => p.cps[i]? = none ∨ q.cps[i]? = none⟩
theorem turn_zipS {P : Program} {w : World} {K : PySem.W.Frag} {elts : List Expr} {kk : Nat} {tpos : Pos} {p q : Str} {tp tq : Tok} {z TI TO i1 i2 : Addr} (D : Far z TI TO i1 i2) :
    Turn P w K (.Tuple elts kk tpos) (ItzS p q) [z, TI, TO, i1, i2] z (fun i h => IsZip h z TI TO .none ∧ IsPair h TI (.ref i1) (.ref i2) ∧ (∃ x y, IsPair h TO x y) ∧ StrIt h i1 p tp i ∧ StrIt h i2 q tq i) where
  mem := by simp
  obj := fun i h st c hc => by
    obtain ⟨hz, hT, ⟨x, y, hO⟩, ⟨o1, e1, _, d1⟩, ⟨o2, e2, _, d2⟩⟩ := st
    have e' : c = z ∨ c = TI ∨ c = TO ∨ c = i1 ∨ c = i2 := by simpa using hc
    rcases e' with r | r | r | r | r
    · subst r
      exact ⟨_, hz, fun v j => nomatch j⟩
    · subst r
      exact ⟨_, hT, fun v j => nomatch j⟩
    · subst r
      exact ⟨_, hO, fun v j => nomatch j⟩
    · refine ⟨o1, r ▸ e1, fun v j => ?_⟩
      rw [d1] at j
      cases j
    · refine ⟨o2, r ▸ e2, fun v j => ?_⟩
      rw [d2] at j
      cases j
  keep := fun i h h' st k => by
    obtain ⟨hz, hT, ⟨x, y, hO⟩, ⟨o1, e1, r1⟩, ⟨o2, e2, r2⟩⟩ := st
    exact ⟨k z (by simp) _ hz, k TI (by simp) _ hT, ⟨x, y, k TO (by simp) _ hO⟩, ⟨o1, k i1 (by simp) _ e1, r1⟩, ⟨o2, k i2 (by simp) _ e2, r2⟩⟩
  item := by
    intro X hP hw hK hc i pins s σ H E I hf st hg
    subst hP hw hK
    obtain ⟨hz, hT, ⟨x0, y0, hO⟩, h1, h2⟩ := st
    obtain ⟨c, d, hx, hy⟩ := hg
    have zl : z < s.heap.objs.size := Heap.lt_size hz
    refine zs_next D hz hT hO h1 h2 hx hy fun h' u v tk z' O' m1 m2 nT out => ⟨_, rfl, wpAny_letOwnedTupleGo_zip (s := { s with heap := h', toks := tk }) z' fun h'' z'' sb => ?_⟩
    have nT2 : h''.get? s.heap.objs.size = some { cls := .type "tuple", data := .seq #[.str ⟨#[c]⟩ u, .str ⟨#[d]⟩ v] } := (sb.2 _ (Nat.ne_of_gt zl)).trans nT
    have new : ObjOk X.prog X.w (upd H s.heap.objs.size (.tup [.str ⟨#[c]⟩, .str ⟨#[d]⟩])) h'' s.heap.objs.size (.tup [.str ⟨#[c]⟩, .str ⟨#[d]⟩]) :=
      ⟨by show 2 ≤ sizeLine; decide, [.str ⟨#[c]⟩ u, .str ⟨#[d]⟩ v], .cons ⟨_, rfl⟩ (.cons ⟨_, rfl⟩ .nil), ⟨_, nT2, rfl, _, rfl⟩⟩
    have ko : ∀ b o, b ∉ [z, TI, TO, i1, i2] → s.heap.get? b = some o → h''.get? b = some o := fun b o hb e => by
      simp only [List.mem_cons, List.not_mem_nil, or_false, not_or] at hb
      exact (sb.2 b hb.1).trans (out b o hb.1 hb.2.2.1 hb.2.2.2.1 hb.2.2.2.2 e)
    have I1 := I.turnedNew (t' := tk) ko hf (Nat.le_refl _) new
    refine ⟨.ref s.heap.objs.size, _, I1, rfl, ⟨_, c, d, rfl, I.hok.fresh (Nat.le_refl _), hx, hy, rfl⟩, ?_, fun b hb => ?_⟩
    · obtain ⟨o1, e1, r1⟩ := m1
      obtain ⟨o2, e2, r2⟩ := m2
      exact ⟨z'', (sb.2 _ D.a1).trans (out _ _ D.a1 D.a5 D.a6 D.a7 hT), ⟨_, _, (sb.2 _ D.a2).trans O'⟩, ⟨o1, (sb.2 _ D.a3).trans e1, r1⟩, ⟨o2, (sb.2 _ D.a4).trans e2, r2⟩⟩
    · have hlt : b < s.heap.objs.size := by
        have e' : b = z ∨ b = TI ∨ b = TO ∨ b = i1 ∨ b = i2 := by simpa using hb
        obtain ⟨_, f1, _⟩ := h1
        obtain ⟨_, f2, _⟩ := h2
        rcases e' with r | r | r | r | r <;> subst r
        · exact zl
        · exact Heap.lt_size hT
        · exact Heap.lt_size hO
        · exact Heap.lt_size f1
        · exact Heap.lt_size f2
      rw [upd_ne (Nat.ne_of_lt hlt)]
      exact (hf b hb).1
  done := by
    intro X hP hw hK hc i pins s σ H E I hf st hg
    subst hP hw hK
    obtain ⟨hz, hT, ⟨x0, y0, hO⟩, h1, h2⟩ := st
    refine zs_stop (I.ok.hd hc) D hz hT hO h1 h2 hg fun h' tk out => ⟨rfl, I.turnedL (ch := [z, TI, TO, i1, i2]) (fun b o hb e => ?_) hf⟩
    simp only [List.mem_cons, List.not_mem_nil, or_false, not_or] at hb
    exact out b o hb.1 hb.2.2.1 hb.2.2.2.1 hb.2.2.2.2 e
  self := fun A i s Q E st h => wpAny_pyIter_zip st.1 h
def iZipS (ta : TA) : TI := fun σ H R => ta σ H fun vs H1 => ∃ p q, vs = [.str p, .str q] ∧ R (ItzS p q) H1
theorem pi_zipS {X : Cx} {e e2 : Expr} {ta : TA} {p pos tpos : Pos} {elts : List Expr} {kk : Nat} (hg : Gl X "zip") (hm : X.mg "zip" = none) (ha : PA X [e, e2] ta)
    (hs : starEach [e, e2] X.env = (false, eval e X.env) :: starEach [e2] X.env := by rfl) (hpl : (backTo pos (starEach [e2] X.env)).any (·.1) = false := by rfl) :
    PI X (.Tuple elts kk tpos) (.Call (.Name "zip" p) [e, e2] [] pos) (iZipS ta) := by
  refine ⟨fun pins s σ H R I h => ?_⟩
  refine Call_ (ld_blt I hg hm PyProof.Rows.boot_zip (PyProof.Rows.callWith_type1 (thn (ha.run pos pins s σ H _ I h) fun us s1 ⟨vs, H1, I1, r1, q1⟩ => ?_) hs hpl))
  obtain ⟨x, y, rfl, q1⟩ := q1
  obtain ⟨tx, ty, rfl⟩ : ∃ tx ty, us = [.str x tx, .str y ty] := by
    cases r1 with
    | cons rx rr => cases rr with
      | cons ry rr =>
        cases rr
        obtain ⟨tx, rfl⟩ := rx
        obtain ⟨ty, rfl⟩ := ry
        exact ⟨tx, ty, rfl⟩
  refine call_zipS fun h' n hn hz hT hO h1 h2 hk => wpAny_pyIter_zip hz ?_
  have I2 : Inv X pins σ H1 { s1 with heap := h' } := I1.kept (t' := s1.toks) hk
  refine ⟨n + 4, [n + 4, n + 2, n + 3, n, n + 1], _, _, H1, rfl, I2, turn_zipS ⟨?_, ?_, ?_, ?_, ?_, ?_, ?_, ?_, ?_, ?_⟩, ⟨hz, hT, ⟨_, _, hO⟩, h1, h2⟩, fun c hc => ?_, q1⟩
  iterate 10 exact (by intro z; have : (_ : Nat) = _ := z; omega)
  have hle : s1.heap.objs.size ≤ c := by
    simp only [List.mem_cons, List.not_mem_nil, or_false] at hc
    rw [← hn]
    rcases hc with r | r | r | r | r <;> (rw [r]; show (n : Nat) ≤ _; omega)
  exact I1.fpOk hle (I1.hok.fresh hle)
end TY
namespace TY
open PySem PySem.Spec PyProof.Rows L2 Evl
/-! ### zip of tuples, in a comprehension -/
theorem pi_zipT {X : Cx} {e e2 : Expr} {ta : TA} {p pos tpos : Pos} {elts : List Expr} {kk : Nat} (K : PySem.W.Frag) (hg : Gl X "zip") (hm : X.mg "zip" = none) (ha : PA X [e, e2] ta) (hK : X.K = K := by rfl)
    (hs : starEach [e, e2] X.env = (false, eval e X.env) :: starEach [e2] X.env := by rfl) (hpl : (backTo pos (starEach [e2] X.env)).any (·.1) = false := by rfl) :
    PI X (.Tuple elts kk tpos) (.Call (.Name "zip" p) [e, e2] [] pos) (RZ.iZipA K ta) := by
  subst hK
  exact RZ.pi_zipA hg hm ha hs hpl
section
variable {K : PySem.W.Frag} {σ : L2.St} {H : Hp} {tA : TA} {te ta tb : TE} {ds es : List PyData}
def prs : List PyData → List PyData → List PyData
  | a :: ds, b :: es => .tuple [a, b] :: prs ds es
  | _, _ => []
theorem prs_get : ∀ {ds es : List PyData} {i : Nat} {a b : PyData}, ds[i]? = some a → es[i]? = some b → (prs ds es)[i]? = some (.tuple [a, b])
  | _ :: _, _ :: _, 0, _, _, h1, h2 => by
    cases h1
    cases h2
    rfl
  | _ :: ds, _ :: es, i + 1, _, _, h1, h2 => prs_get (ds := ds) (es := es) (i := i) h1 h2
  | [], _, _, _, _, h1, _ => by cases h1
  | _ :: _, [], _, _, _, _, h2 => by cases h2
theorem prs_len : ∀ {ds es : List PyData}, (prs ds es).length = min ds.length es.length
  | a :: ds, b :: es => by
    show (prs ds es).length + 1 = min (ds.length + 1) (es.length + 1)
    rw [prs_len]
    omega
  | [], _ => by simp [prs]
  | _ :: _, [] => by simp [prs]
theorem ei_zipS {a b : List Nat} (h : EvA tA σ H [.str (S a), .str (S b)]) : EvI (iZipS tA) σ H (prs (a.map fun c => .str (S [c])) (b.map fun c => .str (S [c]))) := fun H1 e R q =>
  h H1 e _ fun H2 e2 => ⟨S a, S b, rfl, by
    have g : ∀ (l : List Nat) (i : Nat), (S l).cps[i]? = l[i]? := fun l i => by
      show l.toArray[i]? = _
      simp
    have hl : (prs (a.map fun c => PyData.str (S [c])) (b.map fun c => PyData.str (S [c]))).length = min a.length b.length := by rw [prs_len, List.length_map, List.length_map]
    refine q _ (fun _ => True) H2 e2 (fun _ _ => trivial) ⟨fun i H3 hi _ => ?_, fun H3 _ => ?_, fun i H3 x H4 hi _ y => ?_⟩
    · rw [hl] at hi
      exact ⟨a[i], b[i], by rw [g, List.getElem?_eq_getElem (by omega)], by rw [g, List.getElem?_eq_getElem (by omega)]⟩
    · show (S a).cps[_]? = none ∨ (S b).cps[_]? = none
      rw [hl, g, g, List.getElem?_eq_none_iff, List.getElem?_eq_none_iff]
      omega
    · obtain ⟨T, c, d, rfl, hT, hc, hd, rfl⟩ := y
      rw [g] at hc hd
      exact ⟨Ex.new hT, _, prs_get (a := .str (S [c])) (b := .str (S [d])) (by rw [List.getElem?_map, hc]; rfl) (by rw [List.getElem?_map, hd]; rfl), .tup upd_same (.cons (.str _) (.cons (.str _) .nil))⟩⟩
/-- two tuples, the items of each -/
theorem ei_zipT (h1 : EvD ta σ H (.tuple ds)) (h2 : EvD tb σ H (.tuple es)) : EvI (RZ.iZipA K (tCons ta (tCons tb tNil))) σ H (prs ds es) := fun H1 e R q =>
  h1 H1 e _ fun v H2 e2 hv => h2 H2 (e.trans e2) _ fun u H3 e3 hu => by
    cases hv with
    | tup hp hx =>
      rename_i p xs
      cases hu with
      | tup hq hy =>
        rename_i r ys
        refine ⟨p, r, xs, ys, rfl, .inr ⟨st_of (e3 _ _ hp), st_of hq, ?_⟩⟩
        have hp3 := e3 _ _ hp
        have hx3 := TdAll.ex e3 hx
        refine q _ (fun H4 => Ex H3 H4) H3 (e2.trans e3) (fun H4 e4 => e4) ⟨fun i H4 hi g => ?_, fun H4 g => ?_, fun i H4 x H5 hi g y => ?_⟩
        · rw [prs_len] at hi
          have l1 := hx3.len
          have l2 := hy.len
          exact ⟨xs, ys, xs[i]'(by omega), ys[i]'(by omega), st_of (g _ _ hp3), st_of (g _ _ hq), by simp, by simp⟩
        · have l1 := hx3.len
          have l2 := hy.len
          refine ⟨xs, ys, st_of (g _ _ hp3), st_of (g _ _ hq), ?_⟩
          rw [prs_len]
          omega
        · obtain ⟨T, x1, y1, rfl, hT, rfl, f1, f2⟩ := y
          obtain ⟨d1, k1, t1⟩ := hx3.get (f1 xs (st_of (g _ _ hp3)))
          obtain ⟨d2, k2, t2⟩ := hy.get (f2 ys (st_of (g _ _ hq)))
          exact ⟨Ex.new hT, _, prs_get k1 k2, .tup upd_same (.cons (Td.ex (g.trans (Ex.new hT)) t1) (.cons (Td.ex (g.trans (Ex.new hT)) t2) .nil))⟩
theorem TdAll.cut : ∀ {xs : List V} {ds : List PyData}, TdAll H xs ds → ∀ i j, TdAll H ((xs.drop i).take j) ((ds.drop i).take j)
  | _, _, .nil, i, j => by
    rw [List.drop_nil, List.drop_nil, List.take_nil, List.take_nil]
    exact .nil
  | _, _, .cons h hs, 0, 0 => .nil
  | _, _, .cons h hs, 0, j + 1 => .cons h (TdAll.cut hs 0 j)
  | _, _, .cons h hs, i + 1, j => TdAll.cut hs i j
/-- a slice of a tuple -/
theorem ed_cutA {tl th : TO} {lo hi : Option Int} (h : EvD te σ H (.tuple ds)) (h1 : EvO tl σ H lo) (h2 : EvO th σ H hi) (he : es = (ds.drop (HT.sIx ds.length 0 lo)).take (HT.sIx ds.length ds.length hi - HT.sIx ds.length 0 lo)) : EvD (tSl (rSlA K) te tl th) σ H (.tuple es) := fun H1 e Q q =>
  h H1 e _ fun v H2 e2 hv => h1 H2 (e.trans e2) _ fun H3 e3 => h2 H3 ((e.trans e2).trans e3) _ fun H4 e4 => by
    cases hv with
    | tup hp hx =>
      rename_i p xs
      have e24 := e3.trans e4
      have hx4 := TdAll.ex e24 hx
      refine ⟨p, xs, rfl, st_of (e24 _ _ hp), fun hw => ?_, fun _ r hr => ?_⟩
      · refine q _ _ (e2.trans e24) ?_
        rw [hx4.len] at hw
        rw [he, hw.1, hw.2, List.drop_zero, Nat.sub_zero, List.take_of_length_le (Nat.le_refl _)]
        exact .tup (e24 _ _ hp) hx4
      · refine q _ _ (e2.trans (e24.trans (Ex.new hr))) (.tup upd_same ?_)
        rw [he]
        unfold cutV
        rw [hx4.len]
        exact TdAll.ex (Ex.new hr) (hx4.cut _ _)
theorem ed_initA (h : EvD te σ H (.tuple ds)) {th : TO} (h2 : EvO th σ H (some (-1))) : EvD (tSl (rSlA K) te tNoPart th) σ H (.tuple ds.dropLast) := ed_cutA h eo_none h2 (by
  rw [HT.sIx_none, List.drop_zero, Nat.sub_zero, List.dropLast_eq_take]
  congr 1
  unfold HT.sIx
  simp
  omega)
theorem ed_fromA {k : Nat} (h : EvD te σ H (.tuple ds)) {tl : TO} (h2 : EvO tl σ H (some (k : Int))) : EvD (tSl (rSlA K) te tl tNoPart) σ H (.tuple (ds.drop k)) := ed_cutA h h2 eo_none (by
  rw [HT.sIx_none, HT.sIx_nat]
  by_cases hk : k ≤ ds.length
  · rw [Nat.min_eq_left hk, List.take_of_length_le (by rw [List.length_drop]; omega)]
  · rw [Nat.min_eq_right (by omega), List.drop_of_length_le (by omega), List.drop_of_length_le (by omega), List.take_nil])
theorem ed_sum {ns : List Int} (h : EvN te σ H (ns.map .int)) : Ev (tCB (rSum K) (tCons te tNil)) σ H (.int ns.sum) := fun H1 e Q q =>
  h H1 e _ fun p xs H2 hp e2 h2 hd => ⟨p, ns, rfl, by rw [← hd.ints]; exact sq_of h2, q _ e2⟩
end
/-! ### sorted of what collects to ints -/
theorem coll_tup {X : Cx} {H : Hp} {p : Addr} {xs : List V} (h : SqT X.K H p xs) : Coll X (.ref p) H xs := fun pins σ s u I r A' E R hd q => by
  cases r
  obtain ⟨its, rv, hl, hz⟩ := I.tuple h
  obtain ⟨o, ho, hc, n, hdt⟩ := hl
  exact wpAny_collect_seq p (.inr rfl) ho hc hdt (fun h' hk => q h' s.toks its hk rv) (by rw [List.size_toArray, ← rv.length]; exact hz)
def rSortC (X : Cx) : List V → Hp → VK → Prop := fun vs H Q => ∃ (x : V) (ns : List Int), vs = [x] ∧ Coll X x H (ns.map V.int) ∧ ns.length < 64 ∧ ∀ (ns' : List Int) (p : Addr), ns'.Perm ns → ns'.Pairwise (· ≤ ·) → H p = none → Q (.ref p) (upd H p (.lst (ns'.map V.int)))
theorem cr_sortC {X : Cx} (hcalm : X.calm = true) : CallR X (.builtin "sorted") (rSortC X) := by
  intro pins s σ H vs us Q I r h
  obtain ⟨x, ns, rfl, hc, h64, q⟩ := h
  obtain ⟨u, rfl, rx⟩ := vals1 r
  refine Calls.call_function_entry PyProof.Rows.kind_sorted PyProof.Rows.plain_sorted PyProof.Rows.entry_sorted (PyProof.Rows.args_sorted1 _) ?_
  unfold Builtin.«sorted»
  refine wpAny_bind (m := checkCount "sorted" 1 1 _) (wpAny_pure (wpAny_bind (hc pins σ s u I rx X.A.in1 _ _ (I.ok.hd hcalm) fun h' tk acc hk rv => ?_)))
  have hi := rv.ints
  have I1 : Inv X pins σ H { s with heap := h', toks := tk } := I.kept hk
  refine wpAny_bind (wpAny_newList ?_ (by rw [hi.length, sizeLine_eq]; omega))
  have at1 : (h'.push (seqObj "list" acc.toArray 0)).get? h'.objs.size = some (seqObj "list" acc.toArray 0) := Heap.get?_push_size _ rfl
  refine show wpAny _ _ _ _ _ { s with heap := h'.push (seqObj "list" acc.toArray 0), toks := tk } from wpAny_bind (wpAny_holding (wpAny_call_entry PyProof.Rows.slot_list_sort ⟨_, at1, rfl⟩ PyProof.Rows.entry_list_sort ?_ (PyProof.Rows.args_list_sort _)))
  refine PyProof.Rows.list_sort_tree (s := { s with heap := h'.push (seqObj "list" acc.toArray 0), toks := tk }) at1 hi (by rw [hi.length]; exact h64) fun out ys g1 g2 g3 => ⟨_, rfl, ?_⟩
  obtain ⟨ep, he⟩ := PyProof.Rows.sortedHeap_at (vs := acc) (out := out) at1
  have small : (ys.map V.int).length ≤ sizeLine := by
    rw [List.length_map, g2.length_eq, sizeLine_eq]
    omega
  refine wpAny_pure ⟨_, rfl, .ref h'.objs.size, upd H h'.objs.size (.lst (ys.map V.int)), I1.laid (t' := tk) (fun b u e => ?_) (Nat.le_refl _) (show ObjOk X.prog X.w _ _ _ (.lst (ys.map V.int)) from ⟨small, out.toList, ep, vals_of_ints g1, by rw [Array.toArray_toList]; exact he⟩), rfl, q ys _ g2 g3 (I1.hok.fresh (Nat.le_refl _))⟩
  have lt : b < h'.objs.size := Heap.lt_size e
  exact (PyProof.Rows.sortedHeap_old (Nat.ne_of_lt lt) (by rw [size_push']; exact Nat.lt_succ_of_lt lt)).trans (Heap.get?_push_of_some _ e)
def rSortT (K : PySem.W.Frag) : List V → Hp → VK → Prop := fun vs H Q => ∃ (a : Addr) (ns : List Int), vs = [.ref a] ∧ SqT K H a (ns.map V.int) ∧ ns.length < 64 ∧ ∀ (ns' : List Int) (p : Addr), ns'.Perm ns → ns'.Pairwise (· ≤ ·) → H p = none → Q (.ref p) (upd H p (.lst (ns'.map V.int)))
theorem cr_sortT {X : Cx} (hcalm : X.calm = true) : CallR X (.builtin "sorted") (rSortT X.K) := by
  intro pins s σ H vs us Q I r h
  obtain ⟨a, ns, rfl, hs, h64, q⟩ := h
  exact cr_sortC hcalm pins s σ H _ us Q I r ⟨.ref a, ns, rfl, coll_tup hs, h64, q⟩
theorem en_sortT {K : PySem.W.Frag} {σ : L2.St} {H : Hp} {te : TE} {ns ms : List Int} (h : EvD te σ H (.tuple (ns.map .int))) (h64 : ns.length < 64) (hm : ∀ ns', ns'.Perm ns → ns'.Pairwise (· ≤ ·) → ns' = ms) : EvN (tCB (rSortT K) (tCons te tNil)) σ H (ms.map .int) := fun H1 e Q q =>
  h H1 e _ fun v H2 e2 hv => by
    cases hv with
    | tup hp hx =>
      rename_i p xs
      refine ⟨p, ns, rfl, by rw [← hx.ints]; exact st_of hp, h64, fun ns' r p1 p2 hr => ?_⟩
      have e0 := hm ns' p1 p2
      subst e0
      exact q r _ _ (fresh_back e2 hr) (e2.trans (Ex.new hr)) upd_same (TdAll.of_ints _)
/-! ### the sum of a tuple of ints -/
def rSumT (K : PySem.W.Frag) : List V → Hp → VK → Prop := fun vs H Q => ∃ (a : Addr) (ns : List Int), vs = [V.ref a] ∧ SqT K H a (ns.map V.int) ∧ Q (.int ns.sum) H
theorem cr_sumT {X : Cx} (hc : X.calm = true) : CallR X (.builtin "sum") (rSumT X.K) := by
  intro pins s σ H vs us Q I r h
  obtain ⟨a, ns, rfl, hs, q⟩ := h
  obtain ⟨its, rv, hl, _⟩ := I.tuple hs
  rw [Vals.ref1 r]
  obtain ⟨xs, e⟩ := rv.ints.allInts.items
  have hn : numsOf (intItems xs).toList = ns := by rw [← e]; exact rv.ints.numsOf
  rw [nums_intItems] at hn
  have hl : s.heap.IsTuple a its.toArray := hl
  rw [e] at hl
  have hlt : a < s.heap.objs.size := by
    obtain ⟨o, ho, _⟩ := hl
    exact Heap.lt_size ho
  have h2 : (s.heap.push { cls := .type "tuple_iterator", data := .fields #[.ref a, .int 0 0] }).IsTuple a (intItems xs) := hl.push _
  have h3 : (s.heap.push { cls := .type "tuple_iterator", data := .fields #[.ref a, .int 0 0] }).IsTupleIter s.heap.objs.size a 0 := ⟨_, Heap.get?_push_size _ rfl, rfl, rfl⟩
  refine call_sum_walkG (wpAny_pyIter_tuple hl ⟨s.heap.objs.size, _, _, _, _, _, numAt xs, rfl, Walks.tuple (A := X.A.in1) (I.ok.hd hc) _ a (Nat.ne_of_lt hlt) (intItems xs), ⟨h3, h2⟩, fun b hb => ?_, fun i v hv => intItems_at hv, fun h' tk t' hk => ?_⟩)
  · have hs2 : (s.heap.push { cls := .type "tuple_iterator", data := .fields #[.ref a, .int 0 0] }).objs.size = s.heap.objs.size + 1 := Heap.size_push ..
    show (b : Nat) < (s.heap.push { cls := .type "tuple_iterator", data := .fields #[.ref a, .int 0 0] }).objs.size
    rw [hs2]
    simp only [List.mem_cons, List.not_mem_nil, or_false] at hb
    rcases hb with r | r
    · rw [r]
      exact Nat.lt_succ_self _
    · rw [r]
      exact Nat.lt_succ_of_lt hlt
  · have e2 : preSum (numAt xs) (intItems xs).size = ns.sum := by
      have e3 : (intItems xs).size = xs.size := by simp [intItems]
      rw [preSum_eq, List.take_of_length_le (by rw [e3]; simp), hn]
    rw [e2]
    refine ⟨.int ns.sum, H, I.kept fun b o eb => hk b o (fun z => ?_) (Heap.get?_push_of_some _ eb), ⟨_, rfl⟩, q⟩
    have := Heap.lt_size eb
    rw [List.mem_singleton.mp z] at this
    exact Nat.lt_irrefl _ this
theorem ed_sumT {K : PySem.W.Frag} {σ : L2.St} {H : Hp} {te : TE} {ns : List Int} (h : EvD te σ H (.tuple (ns.map .int))) : Ev (tCB (rSumT K) (tCons te tNil)) σ H (.int ns.sum) := fun H1 e Q q =>
  h H1 e _ fun v H2 e2 hv => by
    cases hv with
    | tup hp hx => exact ⟨_, ns, rfl, by rw [← hx.ints]; exact st_of hp, q _ e2⟩
end TY
namespace TY
open PySem PySem.Spec PyProof.Rows L2 Evl
/-! ### enumerate of a dict with tuples as keys -/
section
variable {prog : Program} {w : World} {A : Around} {E : Value → Shared → Prop} {s : Shared} {it d : Addr} {i n ep : Nat} {od : Obj} {es : Array DictEntry}
theorem nk_item {en : DictEntry} {Q : Value → Shared → Prop} (hit : s.heap.IsKeyIter it d i n ep) (hod : s.heap.get? d = some od) (hdd : od.data = .dict es ep) (hsz : es.size = n) (hx : es[i]? = some en)
    (hQ : ∀ h', h'.IsKeyIter it d (i + 1) n ep → Heap.SameBut it s.heap h' → Q en.key { s with heap := h' }) : wpAny (model prog w) A (Builtin.SmallTypes.nextOf (.ref it)) Q E s := by
  obtain ⟨o, ho, hc, hd⟩ := id hit
  unfold Builtin.SmallTypes.nextOf
  refine wpAny_bind (wpAny_callSpecial?_slot (name := Str.ofString "__next__") hit.typeIs F.slot_dict_keyiterator_next (wpAny_call_entry F.slot_dict_keyiterator_next hit.typeIs F.entry_dict_keyiterator_next ?_ (F.args_dict_keyiterator_next_1 _)))
  refine wpAny_bind (wpAny_pure (wpAny_bind (wpAny_bind ?_)))
  refine wpAny_bind (wpAny_typeNameOfWhole_keyiter hit.typeIs (wpAny_pure ?_))
  refine wpAny_bind (wpAny_fieldsOf ho hd ?_)
  have own : Builtin.Dict_items.ownsTuple "dict_keyiterator" = false := by decide
  simp only [own, Bool.false_eq_true, if_false]
  refine show wpAny _ _ (if (Value.ref d == Value.none) = true then _ else _) _ _ s from ?_
  rw [if_neg (show ¬ ((Value.ref d == Value.none) = true) from Bool.false_ne_true)]
  refine wpAny_bind (wpAny_pure (wpAny_bind (wpAny_dictEntries hod hdd ?_)))
  rw [if_neg (by rw [hsz]; simp)]
  refine wpAny_bind (wpAny_pure (wpAny_bind (wpAny_dictEpoch hod hdd ?_)))
  rw [if_neg (by simp)]
  refine wpAny_pure ?_
  obtain ⟨lt, hen⟩ := Array.getElem?_eq_some_iff.mp hx
  simp only [show ¬ ((i : Int) < 0) from by omega, if_false, Int.toNat_natCast, Array.getElem?_eq_getElem lt]
  refine wpAny_bind (wpAny_bind (wpAny_typeNameOfWhole_keyiter hit.typeIs (wpAny_pure ?_)))
  refine wpAny_bind (wpAny_isOneOf_keyiter hit.typeIs ?_)
  refine show wpAny _ _ (setField (.ref it) 1 (rawInt ((i : Int) + 1)) >>= _) _ _ s from wpAny_bind (wpAny_setField ho hd (by simp) ?_)
  have it2 : (s.heap.update it (Obj.mapFields (·.setIfInBounds 1 (rawInt ((i : Int) + 1))))).IsKeyIter it d (i + 1) n ep :=
    ⟨_, Heap.get?_update_self _ ho (Obj.isFreed_of_fields (Obj.data_mapFields hd _)), (Obj.cls_mapFields ..).trans hc, by
      rw [Obj.data_mapFields hd]
      simp [rawInt]⟩
  refine wpAny_bind (wpAny_holding (wpAny_bind (wpAny_isOneOf_keyiter (s := { s with heap := s.heap.update it (Obj.mapFields (·.setIfInBounds 1 (rawInt ((i : Int) + 1)))) }) it2.typeIs ?_)))
  refine show wpAny _ _ (pure es[i].key) _ _ _ from ?_
  rw [hen]
  exact wpAny_pure (wpAny_pure ⟨_, rfl, wpAny_pure (hQ _ it2 (Heap.SameBut.update ..))⟩)
theorem nk_end {Q : Value → Shared → Prop} (hh : A.handled = none) (hit : s.heap.IsKeyIter it d i n ep) (hod : s.heap.get? d = some od) (hdd : od.data = .dict es ep) (hsz : es.size = n) (hge : n ≤ i)
    (hE : ∀ h' e, Heap.ExtBut it s.heap h' → (∃ o, h'.get? e = some o ∧ o.cls = .type "StopIteration") → E (.ref e) { s with heap := h' }) : wpAny (model prog w) A (Builtin.SmallTypes.nextOf (.ref it)) Q E s := by
  obtain ⟨o, ho, hc, hd⟩ := id hit
  unfold Builtin.SmallTypes.nextOf
  refine wpAny_bind (wpAny_callSpecial?_slot (name := Str.ofString "__next__") hit.typeIs F.slot_dict_keyiterator_next (wpAny_call_entry F.slot_dict_keyiterator_next hit.typeIs F.entry_dict_keyiterator_next ?_ (F.args_dict_keyiterator_next_1 _)))
  refine wpAny_bind (wpAny_pure (wpAny_bind (wpAny_bind ?_)))
  refine wpAny_bind (wpAny_typeNameOfWhole_keyiter hit.typeIs (wpAny_pure ?_))
  refine wpAny_bind (wpAny_fieldsOf ho hd ?_)
  have own : Builtin.Dict_items.ownsTuple "dict_keyiterator" = false := by decide
  simp only [own, Bool.false_eq_true, if_false]
  refine show wpAny _ _ (if (Value.ref d == Value.none) = true then _ else _) _ _ s from ?_
  rw [if_neg (show ¬ ((Value.ref d == Value.none) = true) from Bool.false_ne_true)]
  refine wpAny_bind (wpAny_pure (wpAny_bind (wpAny_dictEntries hod hdd ?_)))
  rw [if_neg (by rw [hsz]; simp)]
  refine wpAny_bind (wpAny_pure (wpAny_bind (wpAny_dictEpoch hod hdd ?_)))
  rw [if_neg (by simp)]
  refine wpAny_pure ?_
  have ge : es.size ≤ i := by rw [hsz]; exact hge
  simp only [show ¬ ((i : Int) < 0) from by omega, if_false, Int.toNat_natCast, Array.getElem?_eq_none ge]
  refine wpAny_bind (wpAny_bind (wpAny_typeNameOfWhole_keyiter hit.typeIs (wpAny_pure ?_)))
  refine show wpAny _ _ (setField (.ref it) 0 .none >>= _) _ _ s from wpAny_bind (wpAny_setField ho hd (by simp) ?_)
  refine show wpAny _ _ (newExc (.type "StopIteration") [] >>= _) _ _ _ from wpAny_bind ?_
  simp only [newExc, newTuple]
  refine wpAny_bind (wpAny_newObj_type (wpAny_bind (m := firstArgMember _ _) (wpAny_of_eq (a := Value.none) (by first | rfl | (simp only [firstArgMember]; rfl)) (wpAny_newObj_type ?_ (by size_fits)))) (by size_fits))
  simp only [raiseNew]
  refine wpAny_bind (wpAny_handled ?_)
  rw [show A.in1.handled = none from hh]
  exact wpAny_bind (wpAny_pure (wpAny_throw (hE _ _ (((Heap.SameBut.update ..).extBut.push _).push _) ⟨_, Heap.get?_push_size _ rfl, rfl⟩)))
end
theorem draws_keys {prog : Program} {w : World} {A : Around} (hh : A.handled = none) {it d : Addr} {n ep : Nat} {es : Array DictEntry} (hne : d ≠ it) (hsz : es.size = n) :
    Draws prog w A it [it, d] n (fun i v => ∃ en, es[i]? = some en ∧ v = en.key) (fun i h => h.IsKeyIter it d i n ep ∧ ∃ od, h.get? d = some od ∧ od.data = .dict es ep) where
  live := fun _ _ st => let ⟨o, ho, _⟩ := st.1; ⟨o, ho⟩
  frame := fun _ _ _ st hk => ⟨st.1.at fun o e => hk it (by simp) o e, let ⟨od, h1, h2⟩ := st.2; ⟨od, hk d (by simp) od h1, h2⟩⟩
  item := fun i s Q E hi st hQ => by
    obtain ⟨h1, od, h2, h3⟩ := st
    have hx : es[i]? = some (es[i]'(by omega)) := Array.getElem?_eq_getElem (by omega)
    exact nk_item h1 h2 h3 hsz hx fun h' it' sb => hQ _ h' s.toks ⟨_, hx, rfl⟩ ⟨it', od, (sb.2 d hne).trans h2, h3⟩ sb
  done := fun s Q E st hE => by
    obtain ⟨h1, od, h2, h3⟩ := st
    exact nk_end hh h1 h2 h3 hsz (Nat.le_refl _) hE
theorem begins_keys (d : Addr) (es : Array DictEntry) (ep : Nat) (hd : (d == sysModules) = false) : Begins (.ref d) { cls := .type "dict_keyiterator", data := .fields #[.ref d, .int 0 0, .int es.size 0, .int ep 0] } fun h => ∃ o, h.get? d = some o ∧ o.ExactDict ∧ o.data = .dict es ep where
  iter := fun prog w A E s Q ⟨o, h1, h2, h3⟩ h => iter_keys hd h1 h2 h3 h
  keeps := fun h h' ⟨o, h1, h2⟩ hk => ⟨o, hk d o h1, h2⟩
  free := rfl
theorem meets_enum1 {v : Value} {o : Obj} {H : Heap → Prop} (B : Begins v o H) : Meets (Builtin.«enumerate.__new__» ⟨[.type "enumerate", v], []⟩) (fun _ R s => H s.heap ∧
      R (.ok (.ret (.ref (s.heap.push o).objs.size))) { s with heap := (s.heap.push o).push { cls := .type "enumerate", data := .fields #[.none, .bool false, .ref s.heap.objs.size, rawInt 0, .none, .none] } }) :=
  .of_wp fun prog w A R s h => by
    obtain ⟨hp, g, d, tk, os⟩ := s
    obtain ⟨h1, h⟩ := h
    have q1 : ∀ {A : Around} {E : Value → Shared → Prop} {Q : Value → Shared → Prop}, Q (.ref hp.objs.size) ⟨hp.push o, g, d, tk, os⟩ → wpAny (model prog w) A (pyIter v) Q E ⟨hp, g, d, tk, os⟩ := fun {A E Q} q => B.iter prog w A E ⟨hp, g, d, tk, os⟩ Q h1 q
    have hsub := sub_enumerate
    wp_walk
    refine wpAny_stack_any fun st => wpAny_pure ?_
    split
    · rename_i c _ _ _ _ _
      cases (c == Value.type "enumerate") <;>
      · wp_walk using q1
        exact ⟨_, rfl, h⟩
    · wp_walk using q1
      exact ⟨_, rfl, h⟩
end TY
namespace TY
open PySem PySem.Spec PyProof.Rows L2 Evl
def IteDT (d : Addr) (o : Obj) (kvs : List (List L2.Key × V)) : It :=
  ⟨fun i H => H d = some (.frz o (.dT kvs)) ∧ i < kvs.length, fun i H v H' => ∃ T k x q, kvs[i]? = some (k, x) ∧ v = .ref T ∧ H T = none ∧ H q = some (.tup (k.map kV)) ∧ H' = upd H T (.tup [.int (i : Nat), .ref q]), fun i H => H d = some (.frz o (.dT kvs)) ∧ kvs.length ≤ i⟩
theorem turn_enumDT {P : Program} {w : World} {K : PySem.W.Frag} {elts : List Expr} {kk : Nat} {tpos : Pos} {kvs : List (List L2.Key × V)} {d e it : Addr} {o : Obj} {es : Array DictEntry} {ep : Nat} (hod : o.data = .dict es ep) (hed : e ≠ d) (hid : d ≠ it) :
    Turn P w K (.Tuple elts kk tpos) (IteDT d o kvs) [e, it] e (fun i h => (∃ old, IsEnum h e it ((i : Nat) : Int) old) ∧ h.IsKeyIter it d i kvs.length ep ∧ e ≠ it) where
  mem := by simp
  obj := fun i h st b hb => by
    obtain ⟨⟨old, he⟩, ⟨oi, ho, hc, hd⟩, _⟩ := st
    rcases (show b = e ∨ b = it by simpa using hb) with z | z
    · subst z
      exact ⟨_, he, fun v j => nomatch j⟩
    · subst z
      refine ⟨oi, ho, fun v j => ?_⟩
      rw [hd] at j
      cases j
  keep := fun i h h' st k => let ⟨⟨old, he⟩, hi, hne⟩ := st; ⟨⟨old, k e (by simp) _ he⟩, hi.at fun ob q => k it (by simp) ob q, hne⟩
  item := by
    intro X hP hw hK hc i pins s σ H E I hf st hg
    subst hP hw hK
    obtain ⟨⟨old, he⟩, hit, hne⟩ := st
    obtain ⟨hdh, hlt⟩ := hg
    obtain ⟨hs, hgd, hx, es', ep', hdt, hsz, ent⟩ := I.frzT hdh
    obtain ⟨rfl, rfl⟩ := dict_ep hod hdt
    obtain ⟨⟨k, x⟩, hkv⟩ : ∃ p, kvs[i]? = some p := ⟨kvs[i], List.getElem?_eq_getElem hlt⟩
    obtain ⟨en, q, hen, hkey, hq⟩ := ent i k x hkv
    have el : e < s.heap.objs.size := Heap.lt_size he
    have il : it < s.heap.objs.size := by obtain ⟨_, z, _⟩ := hit; exact Heap.lt_size z
    refine wpAny_pyNext_enum_itemD (draws_keys (A := X.A.in1) (ep := ep') (I.ok.hd hc) hid hsz) he ⟨hit, o, hgd, hdt⟩ hlt hne (by simp [hne, hed]) fun v h' tk hv ho st' hT hz hk => ?_
    obtain ⟨en', h1, rfl⟩ := hv
    rw [hen] at h1
    cases h1
    rw [hkey] at ho hT
    refine ⟨_, rfl, wpAny_letOwnedTupleGo_enum (s := { s with heap := h', toks := tk + 1 }) ho fun h'' he' sb => ?_⟩
    have hT2 : h''.get? s.heap.objs.size = some { cls := .type "tuple", data := .seq #[.int i tk, .ref q] } := (sb.2 _ (Nat.ne_of_gt el)).trans hT
    have new : ObjOk X.prog X.w (upd H s.heap.objs.size (.tup [.int (i : Nat), .ref q])) h'' s.heap.objs.size (.tup [.int (i : Nat), .ref q]) :=
      ⟨by show 2 ≤ sizeLine; decide, [.int i tk, .ref q], .cons ⟨_, rfl⟩ (.cons rfl .nil), ⟨_, hT2, rfl, _, rfl⟩⟩
    have I1 : Inv X pins σ (upd H s.heap.objs.size (.tup [.int (i : Nat), .ref q])) { s with heap := h'', toks := tk + 1 } := I.turnedNew (ch := [e, it]) (fun b ob hb z => by
      simp only [List.mem_cons, List.not_mem_nil, or_false, not_or] at hb
      exact (sb.2 b hb.1).trans (hk b ob hb.1 hb.2 z)) hf (Nat.le_refl _) new
    refine ⟨.ref s.heap.objs.size, _, I1, rfl, ⟨_, k, x, q, hkv, rfl, I.hok.fresh (Nat.le_refl _), hq, rfl⟩, ⟨⟨.ref q, ?_⟩, st'.1.at fun ob z => (sb.2 it (Ne.symm hne)).trans z, hne⟩, fun b hb => ?_⟩
    · have e1 : ((i + 1 : Nat) : Int) = (i : Int) + 1 := by omega
      rw [e1]
      exact he'
    · have lt : b < s.heap.objs.size := by
        rcases (show b = e ∨ b = it by simpa using hb) with z | z
        · rw [z]
          exact el
        · rw [z]
          exact il
      rw [upd_ne (Nat.ne_of_lt lt)]
      exact (hf b hb).1
  done := by
    intro X hP hw hK hc i pins s σ H E I hf st hg
    subst hP hw hK
    obtain ⟨⟨old, he⟩, hit, hne⟩ := st
    obtain ⟨hdh, hge⟩ := hg
    obtain ⟨hs, hgd, hx, es', ep', hdt, hsz, ent⟩ := I.frzT hdh
    obtain ⟨rfl, rfl⟩ := dict_ep hod hdt
    have hh : X.A.handled = none := I.ok.hd hc
    obtain ⟨f0, f1, f2, f3, f4, f5⟩ := hf it (by simp)
    have ty : s.TypeIs (.ref e) "enumerate" := ⟨_, he, rfl⟩
    unfold pyNext
    refine wpAny_bind (wpAny_attempt (wpAny_callSpecial?_slot (name := Str.ofString "__next__") ty F.slot_enumerate_next (wpAny_call_entry F.slot_enumerate_next ty F.entry_enumerate_next ?_ (F.args_enumerate_next_1 _))))
    refine show wpAny _ _ (field (.ref e) 2 >>= _) _ _ _ from wpAny_bind (wpAny_field he rfl (x := .ref it) rfl ?_)
    refine wpAny_bind (nk_end hh hit hgd hdt hsz hge fun h' z hx' ⟨ob, ho, hcl⟩ => ?_)
    exact wpAny_bind (wpAny_isInstance (T := "StopIteration") (b := true) ⟨ob, ho, hcl⟩ isSubtype_stop (wpAny_pure ⟨rfl, I.turned (t' := s.toks) (fun b ob hb z => hx' b ob hb z) f0 f1 f3 f4 f5⟩))
  self := fun A i s Q E st h => let ⟨⟨_, he⟩, _⟩ := st; wpAny_pyIter_enum he h
/-- enumerate(d), d a locked dict -/
def iEnumDT (ta : TA) : TI := fun σ H R => ta σ H fun vs H1 => ∃ d od kvs, vs = [.ref d] ∧ H1 d = some (.frz od (.dT kvs)) ∧ R (IteDT d od kvs) H1
theorem pi_enumDT {X : Cx} {e : Expr} {ta : TA} {p pos tpos : Pos} {elts : List Expr} {kk : Nat} (hg : Gl X "enumerate") (hm : X.mg "enumerate" = none) (ha : PA X [e] ta) (hs : starEach [e] X.env = [(false, eval e X.env)] := by rfl) :
    PI X (.Tuple elts kk tpos) (.Call (.Name "enumerate" p) [e] [] pos) (iEnumDT ta) := by
  refine ⟨fun pins s σ H R I h => ?_⟩
  refine Call_ (ld_blt I hg hm boot_enumerate (PyProof.Rows.callWith_type1 (thn (ha.run pos pins s σ H _ I h) fun us s1 ⟨vs, H1, I1, r1, q1⟩ => ?_) hs rfl))
  obtain ⟨d, od, kvs, rfl, hd, q⟩ := q1
  obtain ⟨u, rfl, ru⟩ := vals1 r1
  cases ru
  obtain ⟨hsm, hgd, hx, es, ep, hdt, hsz, ent⟩ := I1.frzT hd
  have dl : d < s1.heap.objs.size := Heap.lt_size hgd
  refine callType_new F.called_enumerate (by decide) (F.typeCall_enumerate_1 _) (F.newCall_enumerate_1 _) (fun obj => F.args_object_init_2 obj _) F.entry_enumerate_new (meets_enum1 (begins_keys d es ep hsm)) ⟨⟨od, hgd, hx, hdt⟩, ?_⟩
  generalize hn : s1.heap.objs.size = n at dl
  generalize hob : ({ cls := .type "dict_keyiterator", data := .fields #[.ref d, .int 0 0, .int es.size 0, .int ep 0] } : Obj) = ob
  have hz : (s1.heap.push ob).objs.size = n + 1 := (Heap.size_push ..).trans (by rw [hn])
  refine show _ ∧ _ from ?_
  rw [hz]
  have he : IsEnum ((s1.heap.push ob).push { cls := .type "enumerate", data := .fields #[.none, .bool false, .ref n, rawInt 0, .none, .none] }) (n + 1) n 0 .none := by
    have := Heap.get?_push_size (s1.heap.push ob) (o := { cls := .type "enumerate", data := .fields #[.none, .bool false, .ref n, rawInt 0, .none, .none] }) rfl
    rw [hz] at this
    exact this
  have hi : ((s1.heap.push ob).push { cls := .type "enumerate", data := .fields #[.none, .bool false, .ref n, rawInt 0, .none, .none] }).get? n = some ob := Heap.get?_push_of_some _ (by
    rw [← hn]
    exact Heap.get?_push_size _ (by rw [← hob]; rfl))
  refine ⟨⟨_, he, rfl⟩, wpAny_pyIter_enum he ?_⟩
  have I3 : Inv X pins σ H1 { s1 with heap := (s1.heap.push ob).push { cls := .type "enumerate", data := .fields #[.none, .bool false, .ref n, rawInt 0, .none, .none] } } := I1.kept (t' := s1.toks) fun b o z => Heap.get?_push_of_some _ (Heap.get?_push_of_some _ z)
  refine ⟨n + 1, [n + 1, n], _, _, _, rfl, I3, turn_enumDT hdt (Nat.ne_of_gt (Nat.lt_succ_of_lt dl)) (Nat.ne_of_lt dl), ⟨⟨.none, he⟩, ⟨ob, hi, by rw [← hob], by rw [← hob, hsz]; rfl⟩, Nat.succ_ne_self _⟩, fun b hb => ?_, q⟩
  have hle : s1.heap.objs.size ≤ b := by
    rw [hn]
    rcases (show b = n + 1 ∨ b = n by simpa using hb) with z | z
    · rw [z]
      exact Nat.le_succ _
    · rw [z]
      exact Nat.le_refl _
  exact I1.fpOk hle (I1.hok.fresh hle)
/-! ### {tuple: value} -/
def tDispT (tk tv : TE) : TE := fun σ H Q => ∀ p, H p = none → tk σ (upd H p (.dT [])) fun x H1 => tv σ H1 fun y H2 => H2 p = some (.dT []) ∧ ∃ b k, x = .ref b ∧ H2 b = some (.tup (k.map kV)) ∧ Q (.ref p) (upd H2 p (.dT [(k, y)]))
theorem pe_dispT {X : Cx} {pos : Pos} {key val : Expr} {tk tv : TE} (hk : PE X key tk) (hv : PE X val tv) (hu : X.A.units + 1 < cLine) : PE X (.Dict [some key] [val] pos) (tDispT tk tv) := by
  refine ⟨fun pins s σ H Q I q => ?_⟩
  have hn := I.hok.fresh (Nat.le_refl s.heap.objs.size)
  have I1 := I.laid (a := s.heap.objs.size) (o := .dT []) (h' := s.heap.push { cls := .type "dict", data := .dict #[] }) (t' := s.toks) (fun _ _ q => Heap.get?_push_of_some _ q) (Nat.le_refl _) (dt_empty s.heap I.big)
  have hsh := zip_pairTrees [some key] [val] X.env pos rfl rfl
  have hlen := pairTrees_length [some key] [val] X.env pos rfl rfl
  have hne : pairTrees [some key] [val] X.env pos ≠ [] := fun z => by
    rw [z] at hlen
    simp at hlen
  have h1 : (pairTrees [some key] [val] X.env pos).length ≤ 15 := by
    rw [hlen]
    exact Nat.le_of_ble_eq_true rfl
  rw [arm_eval_Dict, hsh, dictDisplay_pairs _ hne (by omega)]
  refine wpAny_bind (wpAny_standAt (wpAny_bind (wpAny_subDictH (knd := tupleKind (mixKind X.prog X.w)) (show X.A.units < cLine by omega) h1 ?_)))
  refine pairTrees_cons_walk (thn (hk.run pins _ σ _ _ I1 (q _ hn)) fun u s2 ⟨x, H1, I2, rx, q1⟩ => thn (hv.run pins s2 σ H1 _ I2 q1) fun u2 s3 ⟨y, H2, I3, ry, hp, b, k, hx, hb, q2⟩ => pairTrees_nil_walk ?_)
  subst hx
  obtain rfl : u = Value.ref b := rx
  obtain ⟨z, hd, xs, rel, dd⟩ := dt_of I3.hok hp
  cases rel
  refine ⟨[(k, b, u2)], ⟨rfl, rfl, key_of I3.hok hb, trivial⟩, dd, fun h' tk dd' sb => wpAny_pure ⟨.ref s.heap.objs.size, _, ?_, rfl, q2⟩⟩
  have dd2 : h'.DictOfH (tupleKind (mixKind X.prog X.w)) s.heap.objs.size [(k, b, u2)] := dd'
  obtain ⟨ob, es, ep, hq, h2, h3, h4, _, h5⟩ := dd2
  refine d_write I3 (by rw [hp]; exact True.intro) sb ⟨ob, hq⟩ ⟨by show 1 ≤ sizeLine; decide, hd, [(k, b, u2)], .cons ⟨rfl, ?_, ry⟩ .nil, ob, es, ep, hq, h2, h3, h4, h5⟩
  rw [upd_ne (ne_of hb hp (fun z => nomatch z))]
  exact hb
end TY


namespace TY
open PySem PySem.Spec PyProof.Rows L2 Evl
/-! ### the laws' own helpers -/
def topS (i : Nat) : Stmt := PySem.Challenge.pw_tailyard_k43_whole_text_of.main.body.getD i (.Pass ⟨0, 0, 0, 0⟩)
abbrev s__law_cell_at : Stmt := topS 19
theorem sc__law_cell_at : FnScope ["_law_script", "_law_k"] ["_law_script", "_law_k"] (defScope s__law_cell_at) := ⟨rfl, rfl, rfl, by decide +kernel, rfl, by decide +kernel, by decide +kernel⟩
abbrev s__law_mixed : Stmt := topS 20
theorem sc__law_mixed : FnScope ["_law_script", "_law_k", "_law_drawn_here"] ["_law_script", "_law_k"] (defScope s__law_mixed) := ⟨rfl, rfl, rfl, by decide +kernel, rfl, by decide +kernel, by decide +kernel⟩
abbrev s__law_drawn : Stmt := topS 21
theorem sc__law_drawn : FnScope ["_law_number", "_law_k", "_law_drawn_here"] ["_law_number", "_law_k"] (defScope s__law_drawn) := ⟨rfl, rfl, rfl, by decide +kernel, rfl, by decide +kernel, by decide +kernel⟩
abbrev s__law_text : Stmt := topS 22
theorem sc__law_text : FnScope ["_law_number", "_law_most", "_law_letters", "_law_many", "_law_found", "_law_k", "_law_by"] ["_law_number", "_law_most"] (defScope s__law_text) := ⟨rfl, rfl, rfl, by decide +kernel, rfl, by decide +kernel, by decide +kernel⟩
section
variable {P : Program} {w : World} {K : PySem.W.Frag} {mg : Str → Option Value} {base : Heap}
theorem ok__law_cell_at {f : Addr} {fd : FuncData} (F : Fun K "_law_cell_at" "_law_cell_at" s__law_cell_at f fd) (T_ : Nm mg) : FnOk P w K mg base CX0 1 f fd ["_law_script", "_law_k"] (spCell K) := by
  refine F.ok sc__law_cell_at (fun vs H Q E h => ?_) (fun cdv A outer s H vs Q E hr h => ?_)
  · obtain ⟨a, ns, k, rfl, _⟩ := h
    rfl
  · obtain ⟨a, ns, k, rfl, hS, q⟩ := h
    refine ⟨_, (pss_cons (ps_if (pt_cmpR op_lt (pv 1) (pe_callB (kC K rLenS call_len_seq) (by rfl) T_.n_len PySem.boot_len (pa_cons (pv 0) pa_nil)) (nomark _))
      (pss_one (ps_ret (pe_ix (kI K rIxL ix_list) (pv 0) (pv 1) (fun _ _ => rfl))))
      pss_nil)
      (pss_one (ps_ret pe_int))), ?_⟩
    refine q_when (b := decide ((k : Int) < ((ns.map V.int).length : Int))) (et_test (ev_op (ev_var rfl) (ev_len (ev_var rfl) hS) rv_I0)) (fun hb H1 e1 => ?_) (fun hb H1 e1 => ?_)
    · have hk := of_decide_eq_true hb
      rw [List.length_map] at hk
      exact s_ret (v := .int (cellV ns k)) (ev_op (ev_var rfl) (ev_var rfl) (rv_ixL (ex_l e1 hS) (cell_in (by omega)))) fun H2 e2 => q _ (e1.trans e2)
    · have hk := of_decide_eq_false hb
      rw [List.length_map] at hk
      have e0 : cellV ns k = 0 := by
        unfold cellV
        rw [List.getD_eq_getElem?_getD, List.getElem?_eq_none (by omega)]
        rfl
      exact s_ret (v := .int (cellV ns k)) (by rw [e0]; exact ev_c) fun H2 e2 => q _ (e1.trans e2)
theorem ok__law_mixed {f : Addr} {fd : FuncData} (F : Fun K "_law_mixed" "_law_mixed" s__law_mixed f fd) (T_ : Nm mg) (c__law_cell_at : Cl P w K mg base 1 "_law_cell_at" (spCell K)) : FnOk P w K mg base CX0 2 f fd ["_law_script", "_law_k"] (spMixed K) := by
  refine F.ok sc__law_mixed (fun vs H Q E h => ?_) (fun cdv A outer s H vs Q E hr h => ?_)
  · obtain ⟨a, ns, k, rfl, _⟩ := h
    rfl
  · obtain ⟨a, ns, k, rfl, hS, hk, q⟩ := h
    refine ⟨_, (pss_cons (ps_set (i := 2) sc__law_mixed.nd rfl (.inl rfl) (pe_op op_mod (pe_op op_mul (pe_op op_add (pe_op op_add (pe_cl c__law_cell_at hr (by first | decide | omega) (by rfl) (pa_cons (pv 0) (pa_cons (pv 1) pa_nil))) (pe_op op_mul pe_int (pv 1))) pe_int) pe_int) pe_int))
      (pss_one (ps_ret (pe_op op_mod (pe_op op_add (pe_op op_add (pe_op op_mul (pv 2) (pv 2)) (pe_op op_mul pe_int (pv 2))) (pv 1)) pe_int)))), ?_⟩
    have hm : ∀ x : Int, 0 ≤ x % 2147483647 ∧ x % 2147483647 < 2147483647 := fun x => ⟨Int.emod_nonneg _ (by decide), Int.emod_lt_of_pos _ (by decide)⟩
    refine q_asg (v := .int ((cellV ns k + 7919 * (k : Int) + 1) * 48271 % 2147483647)) (ev_op (ev_op (ev_op (ev_op (ev_cl (ea_cons (ev_var rfl) (ea_cons (ev_var rfl) ea_nil)) (sv_cell hS)) (ev_op ev_c (ev_var rfl) (rv_I (.inl ⟨by decide, by decide⟩))) rv_I0) ev_c rv_I0) ev_c (rv_I (.inr ⟨by decide, by decide⟩))) ev_c (rv_I (by decide))) fun H1 e1 => ?_
    exact s_ret (v := .int (mixV ns k)) (ev_op (ev_op (ev_op (ev_op (ev_var rfl) (ev_var rfl) (rv_I (.inl ⟨by have := hm ((cellV ns k + 7919 * (k : Int) + 1) * 48271); omega, by have := hm ((cellV ns k + 7919 * (k : Int) + 1) * 48271); omega⟩))) (ev_op ev_c (ev_var rfl) (rv_I (.inl ⟨by decide, by decide⟩))) rv_I0) (ev_var rfl) rv_I0) ev_c (rv_I (by decide))) fun H2 e2 => q _ (e1.trans e2)
theorem ok__law_drawn {f : Addr} {fd : FuncData} (F : Fun K "_law_drawn" "_law_drawn" s__law_drawn f fd) (T_ : Nm mg) : FnOk P w K mg base CX0 1 f fd ["_law_number", "_law_k"] spDrawn := by
  refine F.ok sc__law_drawn (fun vs H Q E h => ?_) (fun cdv A outer s H vs Q E hr h => ?_)
  · obtain ⟨n, k, rfl, _⟩ := h
    rfl
  · obtain ⟨n, k, rfl, hk, q⟩ := h
    refine ⟨_, (pss_cons (ps_set (i := 2) sc__law_drawn.nd rfl (.inl rfl) (pe_op op_mod (pe_op op_mul (pe_op op_add (pe_op op_add (pv 0) (pe_op op_mul pe_int (pv 1))) pe_int) pe_int) pe_int))
      (pss_one (ps_ret (pe_op op_mod (pe_op op_add (pe_op op_add (pe_op op_mul (pv 2) (pv 2)) (pe_op op_mul pe_int (pv 2))) (pv 1)) pe_int)))), ?_⟩
    have hm : ∀ x : Int, 0 ≤ x % 2147483647 ∧ x % 2147483647 < 2147483647 := fun x => ⟨Int.emod_nonneg _ (by decide), Int.emod_lt_of_pos _ (by decide)⟩
    refine q_asg (v := .int ((n + 104729 * (k : Int) + 17) * 69621 % 2147483647)) (ev_op (ev_op (ev_op (ev_op (ev_var rfl) (ev_op ev_c (ev_var rfl) (rv_I (.inl ⟨by decide, by decide⟩))) rv_I0) ev_c rv_I0) ev_c (rv_I (.inr ⟨by decide, by decide⟩))) ev_c (rv_I (by decide))) fun H1 e1 => ?_
    exact s_ret (v := .int (drawV n k)) (ev_op (ev_op (ev_op (ev_op (ev_var rfl) (ev_var rfl) (rv_I (.inl ⟨by have := hm ((n + 104729 * (k : Int) + 17) * 69621); omega, by have := hm ((n + 104729 * (k : Int) + 17) * 69621); omega⟩))) (ev_op ev_c (ev_var rfl) (rv_I (.inl ⟨by decide, by decide⟩))) rv_I0) (ev_var rfl) rv_I0) ev_c (rv_I (by decide))) fun H2 e2 => q _ (e1.trans e2)
theorem ok__law_text {f : Addr} {fd : FuncData} (F : Fun K "_law_text" "_law_text" s__law_text f fd) (T_ : Nm mg) (c__law_drawn : Cl P w K mg base 1 "_law_drawn" spDrawn) : FnOk P w K mg base CX0 2 f fd ["_law_number", "_law_most"] spText := by
  refine F.ok sc__law_text (fun vs H Q E h => ?_) (fun cdv A outer s H vs Q E hr h => ?_)
  · obtain ⟨n, m, rfl, _⟩ := h
    rfl
  · obtain ⟨n, m, rfl, hn, hm, q⟩ := h
    refine ⟨_, (pss_cons (ps_set (i := 2) sc__law_text.nd rfl (.inl rfl) (pe_ix (kI K rIxT ix_tup) (pe_tup (pa_cons pe_str (pa_cons pe_str (pa_cons pe_str (pa_cons pe_str (pa_cons pe_str (pa_cons pe_str (pa_cons pe_str (pa_cons pe_str pa_nil))))))))) (pe_op op_mod (pv 0) pe_int) (fun _ _ => rfl)))
      (pss_cons (ps_set (i := 3) sc__law_text.nd rfl (.inl rfl) (pe_op op_mod (pe_op op_fdiv (pv 0) pe_int) (pe_op op_add (pv 1) pe_int)))
      (pss_cons (ps_set (i := 4) sc__law_text.nd rfl (.inl rfl) pe_str)
      (pss_cons (ps_for PassesOwn.never rfl (pi_range1 (by rfl) T_.n_range (pa_cons (pv 3) pa_nil)) (pg_name (i := 5) sc__law_text.nd rfl (.inl rfl))
      (pss_one (ps_set (i := 4) sc__law_text.nd rfl (.inl rfl) (pe_op op_add_str (pv 4) (pe_ix ix_str (pv 2) (pe_op op_mod (pe_cl c__law_drawn hr (by first | decide | omega) (by rfl) (pa_cons (pv 0) (pa_cons (pv 5) pa_nil))) (pe_callB call_len_str (by rfl) T_.n_len PySem.boot_len (pa_cons (pv 2) pa_nil))) (fun _ _ => rfl))))))
      (pss_cons (ps_if (PW.pt (pw_and (pt_cmpR op_eq (pe_op op_mod (pe_op op_fdiv (pv 0) pe_int) pe_int) pe_int (nomark _)) (pw_and1 (pt_cmpR op_gt (pv 3) pe_int (nomark _)))))
      (pss_cons (ps_set (i := 6) sc__law_text.nd rfl (.inl rfl) (pe_op op_add pe_int (pe_op op_mod (pe_op op_fdiv (pv 0) pe_int) (pe_op op_sub (pv 3) pe_int))))
      (pss_one (ps_set (i := 4) sc__law_text.nd rfl (.inl rfl) (pe_slice sl_str (pe_op op_mulS (pe_slice sl_str (pv 4) po_none (po_some (pv 6))) (pv 3)) po_none (po_some (pv 3))))))
      pss_nil)
      (pss_one (ps_ret (pv 4)))))))), ?_⟩
    have hl := letters_ok hn
    have hc := manyV_le hn m
    have h8 : n % 8 = ((n % 8).toNat : Int) := by omega
    have ht : (tbl.map PyData.str)[(n % 8).toNat]? = some (.str (S (lettersV n))) := by
      rw [List.getElem?_map, tbl_at hn]
      rfl
    refine q_asg (v := .str (S (lettersV n))) (EvD.str (ed_ixT (ds := tbl.map PyData.str) (j := (n % 8).toNat) (ed_tup (ead_cons (ed_str ev_c) (ead_cons (ed_str ev_c) (ead_cons (ed_str ev_c) (ead_cons (ed_str ev_c) (ead_cons (ed_str ev_c) (ead_cons (ed_str ev_c) (ead_cons (ed_str ev_c) (ead_cons (ed_str ev_c) ead_nil)))))))) (by decide)) (ev_is (ev_op (ev_var rfl) ev_c (rv_I (by decide))) (congrArg V.int h8)) ht)) fun H1 e1 => ?_
    refine q_asg (v := .int (manyV n m : Int)) (ev_is (ev_op (ev_op (ev_var rfl) ev_c (rv_I ⟨by decide, by decide⟩)) (ev_op (ev_var rfl) ev_c rv_I0) (rv_I (by show (0 : Int) < (m : Int) + 1; omega))) (congrArg V.int (manyV_int hn m))) fun H2 e2 => ?_
    refine q_asg (v := .str (S [])) (ev_is ev_c rfl) fun H3 e3 => ?_
    refine q_forR1 (n := (manyV n m : Int)) (ea_cons (ev_var rfl) ea_nil) (by omega) (fun i σ' H' => (∃ y, σ' = [some (.int n), some (.int (m : Int)), some (.str (S (lettersV n))), some (.int (manyV n m : Int)), some (.str (S (baseV n i))), y, none]) ∧ Ex H3 H')
      (fun H4 e4 => ⟨⟨none, rfl⟩, e4⟩) ?_ ?_
    · rintro i σ' H' hi ⟨⟨y, rfl⟩, e4⟩
      obtain ⟨j, hj, hx⟩ := draw_ix hn i
      have hi2 : i < manyV n m := by omega
      refine s_asg (v := .str (S (baseV n (i + 1)))) ?_ fun H5 e5 => ⟨⟨_, rfl⟩, e4.trans e5⟩
      have e0 : baseV n (i + 1) = baseV n i ++ [(lettersV n).getD (drawV n i % ((lettersV n).length : Int)).toNat 0] := by
        unfold baseV
        rw [List.range_succ, List.map_append]
        rfl
      rw [e0]
      refine ev_addS (ev_var rfl) (ev_ixS (j := j) (ev_var rfl) (ev_is (ev_op (ev_cl (ea_cons (ev_var rfl) (ea_cons (ev_var rfl) ea_nil)) (sv_drawn (by omega))) (ev_lenStr (ev_var rfl) (by omega)) (rv_I (by show (0 : Int) < _; omega))) (congrArg V.int hj)) (by omega) hx) (by rw [baseV_len]; show i + 1 ≤ 100000; omega)
    · rintro σ' H' ⟨⟨y, rfl⟩, e4⟩
      rw [Int.toNat_natCast]
      have e03 : Ex H H' := ((e1.trans e2).trans e3).trans e4
      refine q_when (b := decide (n / 800 % 3 = 1) && decide ((1 : Int) < (manyV n m : Int))) (et_and (et_test (ev_eqI (ev_op (ev_op (ev_var rfl) ev_c (rv_I ⟨by decide, by decide⟩)) ev_c (rv_I (by decide))) ev_c)) (fun _ => et_test (ev_op (ev_var rfl) ev_c rv_I0))) (fun hb H5 e5 => ?_) (fun hb H5 e5 => ?_)
      · have hc1 : 1 < manyV n m := by
          rw [Bool.and_eq_true] at hb
          have := of_decide_eq_true hb.2
          omega
        refine q_asg (v := .int (byV n (manyV n m) : Int)) (ev_is (ev_op ev_c (ev_op (ev_op (ev_var rfl) ev_c (rv_I ⟨by decide, by decide⟩)) (ev_op (ev_var rfl) ev_c rv_I0) (rv_I (by show (0 : Int) < (manyV n m : Int) - 1; omega))) rv_I0) (congrArg V.int (byV_int hn hc1))) fun H6 e6 => ?_
        have hb1 : (baseV n (manyV n m)).length ≤ 100 := by rw [baseV_len]; omega
        have hb2 : ((baseV n (manyV n m)).take (byV n (manyV n m))).length ≤ 100 := by rw [List.length_take]; omega
        refine s_asg (v := .str (S (textV n m))) ?_ fun H7 e7 => ?_
        · have e0 : textV n m = ((List.replicate (manyV n m) ((baseV n (manyV n m)).take (byV n (manyV n m)))).flatten).take (manyV n m) := by
            unfold textV
            rw [if_pos hb]
          rw [e0]
          refine ev_to (ev_mulS (ev_to (ev_var rfl) (ev_var rfl) (by omega)) (ev_var rfl) (by omega) (by omega)) (ev_var rfl) ?_
          rw [List.length_flatten, List.map_replicate, List.sum_replicate_nat]
          have : manyV n m * ((baseV n (manyV n m)).take (byV n (manyV n m))).length ≤ 100 * 100 := Nat.mul_le_mul (by omega) hb2
          omega
        · exact s_ret (v := .str (S (textV n m))) (ev_var rfl) fun H8 e8 => q _ (((e03.trans e5).trans (e6.trans e7)).trans e8)
      · have e0 : baseV n (manyV n m) = textV n m := by
          unfold textV
          rw [if_neg (by rw [hb]; decide)]
        rw [e0]
        exact s_ret (v := .str (S (textV n m))) (ev_var rfl) fun H8 e8 => q _ ((e03.trans e5).trans e8)
end

end TY
namespace TY
open PySem PySem.Spec PyProof.Rows L2 Evl
/-! ### all parts -/
def subsAt (l : List Nat) (i k : Nat) : List (List Nat) := (List.range k).map fun d => (l.drop i).take (d + 1)
def subsTo (l : List Nat) (i : Nat) : List (List Nat) := (List.range i).flatMap fun a => subsAt l a (l.length - a)
def allParts (l : List Nat) : List (List Nat) := (subsTo l l.length).foldl addT [[]]
theorem subsAt_zero (l : List Nat) (i : Nat) : subsAt l i 0 = [] := rfl
theorem subsAt_succ (l : List Nat) (i k : Nat) : subsAt l i (k + 1) = subsAt l i k ++ [(l.drop i).take (k + 1)] := by
  unfold subsAt
  rw [List.range_succ, List.map_append]
  rfl
theorem subsTo_succ (l : List Nat) (i : Nat) : subsTo l (i + 1) = subsTo l i ++ subsAt l i (l.length - i) := by
  unfold subsTo
  rw [List.range_succ, List.flatMap_append]
  simp
theorem subsAt_len (l : List Nat) (i k : Nat) : (subsAt l i k).length = k := by simp [subsAt]
theorem subsTo_len (l : List Nat) : ∀ i : Nat, (subsTo l i).length ≤ i * l.length
  | 0 => by simp [subsTo]
  | i + 1 => by
    rw [subsTo_succ, List.length_append, subsAt_len]
    have h1 := subsTo_len l i
    rw [Nat.add_mul, Nat.one_mul]
    omega
theorem foldl_addT_len : ∀ (xs ks : List (List Nat)), (xs.foldl addT ks).length ≤ ks.length + xs.length
  | [], ks => by simp
  | x :: xs, ks => by
    have h1 := foldl_addT_len xs (addT ks x)
    have h2 := addT_len ks x
    rw [List.foldl_cons, List.length_cons]
    omega
theorem foldl_addT_nodup : ∀ (xs ks : List (List Nat)), ks.Nodup → (xs.foldl addT ks).Nodup
  | [], ks, h => h
  | x :: xs, ks, h => foldl_addT_nodup xs (addT ks x) (addT_nodup h x)
theorem foldl_addT_mem {y : List Nat} : ∀ (xs ks : List (List Nat)), y ∈ xs.foldl addT ks ↔ y ∈ ks ∨ y ∈ xs
  | [], ks => by simp
  | x :: xs, ks => by
    rw [List.foldl_cons, foldl_addT_mem xs (addT ks x), addT_mem, List.mem_cons]
    constructor
    · rintro ((h | h) | h)
      · exact .inl h
      · exact .inr (.inl h)
      · exact .inr (.inr h)
    · rintro (h | h | h)
      · exact .inl (.inl h)
      · exact .inl (.inr h)
      · exact .inr h
theorem parts_len {l : List Nat} {i k : Nat} (hl : l.length ≤ 100) (hi : i ≤ 100) (hk : k ≤ 100) : ((subsTo l i ++ subsAt l i k).foldl addT [[]]).length < 100000 := by
  have h1 := foldl_addT_len (subsTo l i ++ subsAt l i k) [[]]
  rw [List.length_append, subsAt_len] at h1
  have h2 := subsTo_len l i
  have h3 : i * l.length ≤ 100 * 100 := Nat.mul_le_mul hi hl
  rw [List.length_singleton] at h1
  omega
theorem allParts_len {l : List Nat} (hl : l.length ≤ 100) : (allParts l).length < 30000 := by
  have h1 := foldl_addT_len (subsTo l l.length) [[]]
  have h2 := subsTo_len l l.length
  have h3 : l.length * l.length ≤ 100 * 100 := Nat.mul_le_mul hl hl
  rw [List.length_singleton] at h1
  unfold allParts
  omega
theorem allParts_nodup (l : List Nat) : (allParts l).Nodup := foldl_addT_nodup _ _ (by simp)
theorem subsTo_mem {l p : List Nat} {n : Nat} : p ∈ subsTo l n ↔ ∃ i k, i < n ∧ k < l.length - i ∧ p = (l.drop i).take (k + 1) := by
  unfold subsTo subsAt
  simp only [List.mem_flatMap, List.mem_map, List.mem_range]
  constructor
  · rintro ⟨i, hi, k, hk, rfl⟩
    exact ⟨i, k, hi, hk, rfl⟩
  · rintro ⟨i, k, hi, hk, rfl⟩
    exact ⟨i, hi, k, hk, rfl⟩
theorem allParts_mem {l p : List Nat} : p ∈ allParts l ↔ p <:+: l := by
  unfold allParts
  rw [foldl_addT_mem, List.mem_singleton, subsTo_mem]
  constructor
  · rintro (rfl | ⟨i, k, hi, hk, rfl⟩)
    · exact List.nil_infix
    · exact (List.take_prefix _ _).isInfix.trans (List.drop_suffix _ _).isInfix
  · rintro ⟨a, b, h⟩
    cases hp : p with
    | nil => exact .inl rfl
    | cons x r =>
      right
      rw [hp] at h
      have hl := congrArg List.length h
      simp only [List.length_append, List.length_cons] at hl
      refine ⟨a.length, r.length, by omega, by omega, ?_⟩
      rw [← h, List.append_assoc, List.drop_left, List.take_append_of_le_length (by simp), List.take_of_length_le (by simp)]
theorem allParts_nil (l : List Nat) : [] ∈ allParts l := allParts_mem.mpr List.nil_infix
theorem allParts_pos (l : List Nat) : 0 < (allParts l).length := List.length_pos_of_mem (allParts_nil l)
theorem allParts_le {l p : List Nat} (h : p ∈ allParts l) : p.length ≤ l.length := (allParts_mem.mp h).length_le
/-- by length, then by letters -/
def rk (l : List Nat) : PyData := .tuple [.int (l.length : Int), .str (S l)]
def ranked (ks : List (List Nat)) : List (List Nat) := ks.mergeSort (PySem.W.dataLe false rk)
def sortedParts (l : List Nat) : List (List Nat) := ranked (allParts l)
theorem ranked_len (ks : List (List Nat)) : (ranked ks).length = ks.length := List.length_mergeSort ks
theorem ranked_mem {ks : List (List Nat)} {x : List Nat} : x ∈ ranked ks ↔ x ∈ ks := (List.mergeSort_perm ks _).mem_iff
theorem rk_alike (ks : List (List Nat)) : PySem.W.AllAlike (ks.map rk) := PySem.W.AllAlike.of fun b b' => by simp [rk, PySem.W.alike, PySem.W.alikeAll]
theorem rk_sortable (ks : List (List Nat)) : PySem.W.Sortable (ks.map rk) := PySem.W.Sortable.tuples fun b => ⟨_, _, rfl⟩
theorem rk_depth (l : List Nat) : (rk l).depth ≤ 10 := by
  unfold rk
  simp [PyData.depth, PyData.depthAll]
theorem rk_sort (ks : List (List Nat)) : (ks.map rk).mergeSort (PySem.W.dataLe false id) = (ranked ks).map rk := by
  unfold ranked
  rw [PySem.W.sort_maps (r := PySem.W.dataLe false rk) (s := PySem.W.dataLe false id) rk (fun _ _ _ _ => rfl)]
def spRank : Sp := fun vs H Q _ => ∃ l : List Nat, vs = [.str (S l)] ∧ l.length ≤ 1000 ∧ ∀ v H', Ex H H' → Td H' v (rk l) → Q v H'
def spAll : Sp := fun vs H Q _ => ∃ l : List Nat, vs = [.str (S l)] ∧ l.length ≤ 100 ∧ ∀ p H', H p = none → Ex H H' → H' p = some (.dK (kvsT (allParts l))) → Q (.ref p) H'
/-- a list of texts -/
def spList (f : List Nat → List (List Nat)) : Sp := fun vs H Q _ => ∃ l : List Nat, vs = [.str (S l)] ∧ l.length ≤ 100 ∧ ∀ p xs H', H p = none → Ex H H' → H' p = some (.lst xs) → TdAll H' xs ((f l).map fun l => .str (S l)) → Q (.ref p) H'
def spStrs (f : List Nat → List (List Nat)) : Sp := fun vs H Q _ => ∃ l : List Nat, vs = [.str (S l)] ∧ l.length ≤ 100 ∧ ∀ v H', Ex H H' → Td H' v (.tuple ((f l).map fun l => .str (S l))) → Q v H'
theorem sd_rank {H : Hp} {l : List Nat} (hl : l.length ≤ 1000) : SpD spRank [.str (S l)] H (rk l) := fun H1 e Q q E => ⟨l, rfl, hl, q⟩
theorem sdt_all {H : Hp} {l : List Nat} (hl : l.length ≤ 100) : SpDT spAll [.str (S l)] H (allParts l) := fun H1 e Q q E => ⟨l, rfl, hl, q⟩
theorem sn_list {f : List Nat → List (List Nat)} {H : Hp} {l : List Nat} (hl : l.length ≤ 100) : SpN (spList f) [.str (S l)] H ((f l).map fun l => .str (S l)) := fun H1 e Q q E => ⟨l, rfl, hl, q⟩
theorem sd_strs {f : List Nat → List (List Nat)} {H : Hp} {l : List Nat} (hl : l.length ≤ 100) : SpD (spStrs f) [.str (S l)] H (.tuple ((f l).map fun l => .str (S l))) := fun H1 e Q q E => ⟨l, rfl, hl, q⟩
theorem en_sortKey {X : Cx} {k : Nat} {σ : L2.St} {H : Hp} {te : TE} {ks : List (List Nat)} {f : Addr} {fd : FuncData} {ps : List Str} (F : FnOk X.prog X.w X.K X.mg X.base CX0 k f fd ps spRank) (hb : Binds X.K fd ps []) (h : EvDT te σ H ks) (hz : ks.length ≤ 30000) (hl : ∀ l ∈ ks, l.length ≤ 1000) :
    EvN (tCKw (rSortKey X k) (tCons te tNil) (tCons (tC (.ref f)) tNil)) σ H ((ranked ks).map fun l => .str (S l)) := fun H1 e Q q =>
  h H1 e _ fun p H2 hp e2 h2 => by
    refine ⟨.ref p, f, fd, ps, spRank, List Nat, fun l => .str (S l), rk, ks, rfl, rfl, F, hb, ?_, rk_alike ks, rk_sortable ks, by omega, fun b _ => rk_depth b, fun b hb => sd_rank (hl b hb), fun r H3 hr e3 h3 => ?_⟩
    · have c := coll_dict (X := X) (.inl h2)
      have e0 : ((kvsT ks).map fun e => kV e.1) = ks.map fun l => V.str (S l) := by
        unfold kvsT
        rw [List.map_map]
        rfl
      rw [e0] at c
      exact c
    · refine q r _ H3 (fresh_back e2 hr) (e2.trans e3) h3 ?_
      have := TdAll.of_strs (H := H3) ((ranked ks).map S)
      rw [List.map_map, List.map_map] at this
      exact this

end TY
namespace TY
open PySem PySem.Spec PyProof.Rows L2 Evl
/-! ### the machine, in plain lists -/
def goalN (l E : List Nat) (c : Nat) : List Nat := (E.filter fun e => decide (l[e]? = some c)).map (· + 1)
def addK (l ks : List Nat) (e : Nat) : List Nat := match l[e]? with
  | none => ks
  | some c => if c ∈ ks then ks else ks ++ [c]
def keysN (l E : List Nat) : List Nat := E.foldl (addK l) []
def lettersN (l E : List Nat) : List Nat := (keysN l E).mergeSort fun a b => decide (a ≤ b)
def nextsN (l E : List Nat) : List (Nat × List Nat) := (lettersN l E).map fun c => (c, goalN l E c)
theorem addK_nodup {l ks : List Nat} {e : Nat} (h : ks.Nodup) : (addK l ks e).Nodup := by
  unfold addK
  split
  · exact h
  · split
    · exact h
    · rename_i c _ hn
      exact List.nodup_append.mpr ⟨h, by simp, fun a ha b hb z => by
        rw [List.mem_singleton] at hb
        exact hn (by rw [← hb, ← z]; exact ha)⟩
theorem addK_mem {l ks : List Nat} {e c : Nat} : c ∈ addK l ks e ↔ c ∈ ks ∨ l[e]? = some c := by
  unfold addK
  split
  · rename_i h
    rw [h]
    simp
  · rename_i d h
    rw [h]
    split
    · rename_i hd
      constructor
      · exact .inl
      · rintro (z | z)
        · exact z
        · cases z
          exact hd
    · rw [List.mem_append, List.mem_singleton, Option.some.injEq]
      constructor
      · rintro (z | z)
        · exact .inl z
        · exact .inr z.symm
      · rintro (z | z)
        · exact .inl z
        · exact .inr z.symm
theorem foldK_nodup (l : List Nat) : ∀ (E ks : List Nat), ks.Nodup → (E.foldl (addK l) ks).Nodup
  | [], _, h => h
  | _ :: E, _, h => foldK_nodup l E _ (addK_nodup h)
theorem foldK_mem (l : List Nat) {c : Nat} : ∀ (E ks : List Nat), c ∈ E.foldl (addK l) ks ↔ c ∈ ks ∨ ∃ e ∈ E, l[e]? = some c
  | [], ks => by simp
  | e :: E, ks => by
    rw [List.foldl_cons, foldK_mem l E, addK_mem]
    simp only [List.mem_cons, exists_eq_or_imp]
    constructor
    · rintro ((z | z) | z)
      · exact .inl z
      · exact .inr (.inl z)
      · exact .inr (.inr z)
    · rintro (z | z | z)
      · exact .inl (.inl z)
      · exact .inl (.inr z)
      · exact .inr z
theorem keysN_nodup (l E : List Nat) : (keysN l E).Nodup := foldK_nodup l E [] List.nodup_nil
theorem keysN_mem {l E : List Nat} {c : Nat} : c ∈ keysN l E ↔ ∃ e ∈ E, l[e]? = some c := by
  unfold keysN
  rw [foldK_mem]
  simp
theorem keysN_snoc (l E : List Nat) (e : Nat) : keysN l (E ++ [e]) = addK l (keysN l E) e := by
  unfold keysN
  rw [List.foldl_append]
  rfl
theorem keysN_len (l E : List Nat) : (keysN l E).length ≤ E.length := by
  have : ∀ (E ks : List Nat), (E.foldl (addK l) ks).length ≤ ks.length + E.length := by
    intro E
    induction E with
    | nil => intro ks; exact Nat.le_refl _
    | cons e E ih =>
      intro ks
      have h1 := ih (addK l ks e)
      have h2 : (addK l ks e).length ≤ ks.length + 1 := by
        unfold addK
        split
        · omega
        · split
          · omega
          · simp
      rw [List.foldl_cons, List.length_cons]
      omega
  have := this E []
  rw [List.length_nil, Nat.zero_add] at this
  exact this
theorem tl_nat : PySem.W.TotalLe fun a b : Nat => decide (a ≤ b) where
  trans a b c h1 h2 := decide_eq_true (Nat.le_trans (of_decide_eq_true h1) (of_decide_eq_true h2))
  total a b := (Nat.le_total a b).elim (fun h => .inl (decide_eq_true h)) fun h => .inr (decide_eq_true h)
theorem lettersN_perm (l E : List Nat) : (lettersN l E).Perm (keysN l E) := List.mergeSort_perm _ _
theorem lettersN_mem {l E : List Nat} {c : Nat} : c ∈ lettersN l E ↔ ∃ e ∈ E, l[e]? = some c := by rw [(lettersN_perm l E).mem_iff, keysN_mem]
theorem lettersN_sorted (l E : List Nat) : (lettersN l E).Pairwise (· < ·) := by
  have h1 : (lettersN l E).Pairwise fun a b => a ≤ b := (PySem.W.sort_pairwise tl_nat (keysN l E)).imp fun h => of_decide_eq_true h
  have h2 : (lettersN l E).Nodup := (lettersN_perm l E).nodup_iff.mpr (keysN_nodup l E)
  exact h1.imp₂ (fun a b h1 h2 => by omega) h2
theorem goalN_ne {l E : List Nat} {c : Nat} : goalN l E c ≠ [] ↔ c ∈ lettersN l E := by
  rw [lettersN_mem]
  unfold goalN
  rw [ne_eq, List.map_eq_nil_iff, List.filter_eq_nil_iff]
  constructor
  · intro h
    refine Classical.byContradiction fun z => h fun e he hq => z ⟨e, he, of_decide_eq_true hq⟩
  · rintro ⟨e, he, hq⟩ h
    exact h e he (decide_eq_true hq)
theorem nextsN_mem {l E : List Nat} {p : Nat × List Nat} : p ∈ nextsN l E ↔ p.2 = goalN l E p.1 ∧ p.2 ≠ [] := by
  unfold nextsN
  rw [List.mem_map]
  constructor
  · rintro ⟨c, hc, rfl⟩
    exact ⟨rfl, goalN_ne.mpr hc⟩
  · rintro ⟨h1, h2⟩
    refine ⟨p.1, goalN_ne.mp (h1 ▸ h2), ?_⟩
    rw [← h1]
/-- where a word ends -/
def endN (l w : List Nat) : List Nat := (List.range (l.length + 1)).filter fun e => decide (w <:+ l.take e)
theorem endN_mem {l w : List Nat} {e : Nat} : e ∈ endN l w ↔ e ≤ l.length ∧ w <:+ l.take e := by
  unfold endN
  rw [List.mem_filter, List.mem_range, decide_eq_true_eq]
  constructor
  · rintro ⟨a, b⟩
    exact ⟨by omega, b⟩
  · rintro ⟨a, b⟩
    exact ⟨by omega, b⟩
theorem endN_nil (l : List Nat) : endN l [] = List.range (l.length + 1) := List.filter_eq_self.mpr fun e _ => decide_eq_true (List.nil_suffix)
theorem suffix_snoc {w x : List Nat} {c d : Nat} : (w ++ [c]) <:+ (x ++ [d]) ↔ w <:+ x ∧ c = d := by
  constructor
  · rintro ⟨t, h⟩
    rw [← List.append_assoc] at h
    have h1 := List.append_inj' h rfl
    exact ⟨⟨t, h1.1⟩, by simpa using h1.2⟩
  · rintro ⟨⟨t, rfl⟩, rfl⟩
    exact ⟨t, by rw [List.append_assoc]⟩
theorem goal_end (l w : List Nat) (c : Nat) : goalN l (endN l w) c = endN l (w ++ [c]) := by
  unfold goalN
  have e1 : endN l w = ((List.range l.length).filter fun e => decide (w <:+ l.take e)) ++ ([l.length].filter fun e => decide (w <:+ l.take e)) := by
    unfold endN
    rw [List.range_succ, List.filter_append]
  have e2 : ([l.length].filter fun e => decide (w <:+ l.take e)).filter (fun e => decide (l[e]? = some c)) = [] := by
    rw [List.filter_eq_nil_iff]
    intro x hx
    have : x = l.length := by simpa using (List.mem_filter.mp hx).1
    rw [this]
    simp
  rw [e1, List.filter_append, e2, List.append_nil]
  have e3 : endN l (w ++ [c]) = ((List.range l.length).filter fun e => decide ((w ++ [c]) <:+ l.take (e + 1))).map (· + 1) := by
    unfold endN
    rw [List.range_succ_eq_map, List.filter_cons, if_neg (by
      rw [List.take_zero, decide_eq_true_eq, List.suffix_nil]
      simp), List.filter_map]
    rfl
  rw [e3, List.filter_filter]
  congr 1
  refine List.filter_congr fun e he => ?_
  have hlt := List.mem_range.mp he
  have e4 : l.take (e + 1) = l.take e ++ [l[e]] := List.take_succ_eq_append_getElem hlt
  have e5 : l[e]? = some l[e] := List.getElem?_eq_getElem hlt
  rw [e4, e5, ← Bool.decide_and, decide_eq_decide, suffix_snoc, Option.some.injEq]
  exact ⟨fun ⟨a, b⟩ => ⟨b, a.symm⟩, fun ⟨a, b⟩ => ⟨b.symm, a⟩⟩
theorem endN_ne {l w : List Nat} : endN l w ≠ [] ↔ w <:+: l := by
  constructor
  · intro h
    obtain ⟨e, he⟩ := List.exists_mem_of_ne_nil _ h
    obtain ⟨h1, h2⟩ := endN_mem.mp he
    exact h2.isInfix.trans (List.take_prefix e l).isInfix
  · rintro ⟨u, v, rfl⟩ z
    have : (u ++ w).length ∈ endN (u ++ w ++ v) w := endN_mem.mpr ⟨by simp only [List.length_append]; omega, by
      rw [List.take_left]
      exact List.suffix_append _ _⟩
    rw [z] at this
    cases this
theorem infix_snoc {l w : List Nat} {c : Nat} (h : (w ++ [c]) <:+: l) : w <:+: l := (List.prefix_append w [c]).isInfix.trans h
/-! ### rooms -/
def addG (T : List (List Nat)) (p : Nat × List Nat) : List (List Nat) := if p.2 ∈ T then T else T ++ [p.2]
def stepN (l : List Nat) (T : List (List Nat)) (i : Nat) : List (List Nat) := (nextsN l (T.getD i [])).foldl addG T
def bfsN (l : List Nat) : Nat → Nat → List (List Nat) → List (List Nat)
  | 0, _, T => T
  | f + 1, i, T => if i < T.length then bfsN l f (i + 1) (stepN l T i) else T
def mostR (l : List Nat) : Nat := (allParts l).length
def roomsT (l : List Nat) : List (List Nat) := bfsN l (mostR l) 0 [endN l []]
/-- what holds of rooms on the way: none twice, each is where a part ends -/
structure GoodT (l : List Nat) (T : List (List Nat)) : Prop where
  nodup : T.Nodup
  parts : ∀ E ∈ T, ∃ w, w <:+: l ∧ E = endN l w
theorem nodup_le {α β : Type} (f : β → α) : ∀ (xs : List α) (ys : List β), xs.Nodup → (∀ x ∈ xs, ∃ y ∈ ys, f y = x) → xs.length ≤ ys.length
  | [], ys, _, _ => Nat.zero_le _
  | x :: xs, ys, hn, h => by
    obtain ⟨y, hy, hxy⟩ := h x List.mem_cons_self
    obtain ⟨a, b, rfl⟩ := List.append_of_mem hy
    have hn' := List.nodup_cons.mp hn
    have := nodup_le f xs (a ++ b) hn'.2 fun z hz => by
      obtain ⟨u, hu, e⟩ := h z (List.mem_cons_of_mem _ hz)
      refine ⟨u, ?_, e⟩
      rw [List.mem_append, List.mem_cons] at hu
      rw [List.mem_append]
      rcases hu with q | q | q
      · exact .inl q
      · rw [q, hxy] at e
        rw [← e] at hz
        exact absurd hz hn'.1
      · exact .inr q
    rw [List.length_append] at this
    rw [List.length_cons, List.length_append, List.length_cons]
    omega
theorem GoodT.len {l : List Nat} {T : List (List Nat)} (h : GoodT l T) : T.length ≤ mostR l := nodup_le (endN l) T (allParts l) h.nodup fun E hE => by
  obtain ⟨w, h1, h2⟩ := h.parts E hE
  exact ⟨w, allParts_mem.mpr h1, h2.symm⟩
theorem good_one (l : List Nat) : GoodT l [endN l []] := ⟨by simp, fun E hE => ⟨[], List.nil_infix, by simpa using hE⟩⟩
theorem good_addG {l : List Nat} {T : List (List Nat)} {p : Nat × List Nat} (h : GoodT l T) (hp : ∃ w, w <:+: l ∧ p.2 = endN l w) : GoodT l (addG T p) := by
  unfold addG
  split
  · exact h
  · rename_i hn
    refine ⟨List.nodup_append.mpr ⟨h.nodup, by simp, fun a ha b hb z => ?_⟩, fun E hE => ?_⟩
    · rw [List.mem_singleton] at hb
      exact hn (by rw [← hb, ← z]; exact ha)
    · rcases List.mem_append.mp hE with z | z
      · exact h.parts E z
      · rw [List.mem_singleton] at z
        rw [z]
        exact hp
theorem good_foldG {l : List Nat} : ∀ (ps : List (Nat × List Nat)) (T : List (List Nat)), GoodT l T → (∀ p ∈ ps, ∃ w, w <:+: l ∧ p.2 = endN l w) → GoodT l (ps.foldl addG T)
  | [], _, h, _ => h
  | p :: ps, T, h, hp => good_foldG ps _ (good_addG h (hp p List.mem_cons_self)) fun q hq => hp q (List.mem_cons_of_mem _ hq)
theorem nexts_good {l E : List Nat} (hE : ∃ w, w <:+: l ∧ E = endN l w) : ∀ p ∈ nextsN l E, ∃ w, w <:+: l ∧ p.2 = endN l w := fun p hp => by
  obtain ⟨h1, h2⟩ := nextsN_mem.mp hp
  obtain ⟨w, _, rfl⟩ := hE
  rw [goal_end] at h1
  exact ⟨w ++ [p.1], endN_ne.mp (h1 ▸ h2), h1⟩
theorem good_step {l : List Nat} {T : List (List Nat)} {i : Nat} (h : GoodT l T) (hi : i < T.length) : GoodT l (stepN l T i) := by
  unfold stepN
  refine good_foldG _ _ h (nexts_good ?_)
  rw [List.getD_eq_getElem?_getD, List.getElem?_eq_getElem hi]
  exact h.parts _ (List.getElem_mem hi)
theorem addG_prefix (T : List (List Nat)) (p : Nat × List Nat) : T <+: addG T p := by
  unfold addG
  split
  · exact List.prefix_rfl
  · exact List.prefix_append _ _
theorem foldG_prefix : ∀ (ps : List (Nat × List Nat)) (T : List (List Nat)), T <+: ps.foldl addG T
  | [], _ => List.prefix_rfl
  | p :: ps, T => (addG_prefix T p).trans (foldG_prefix ps _)
theorem foldG_mem : ∀ (ps : List (Nat × List Nat)) (T : List (List Nat)), ∀ p ∈ ps, p.2 ∈ ps.foldl addG T
  | q :: ps, T, p, hp => by
    rcases List.mem_cons.mp hp with z | z
    · subst z
      rw [List.foldl_cons]
      refine (foldG_prefix ps _).subset ?_
      unfold addG
      split
      · assumption
      · exact List.mem_append_right _ (by simp)
    · exact foldG_mem ps _ p z
theorem step_prefix (l : List Nat) (T : List (List Nat)) (i : Nat) : T <+: stepN l T i := foldG_prefix _ _
theorem bfs_prefix (l : List Nat) : ∀ (f i : Nat) (T : List (List Nat)), T <+: bfsN l f i T
  | 0, _, _ => List.prefix_rfl
  | f + 1, i, T => by
    unfold bfsN
    split
    · exact (step_prefix l T i).trans (bfs_prefix l f _ _)
    · exact List.prefix_rfl
theorem bfs_good {l : List Nat} : ∀ (f i : Nat) (T : List (List Nat)), GoodT l T → GoodT l (bfsN l f i T)
  | 0, _, _, h => h
  | f + 1, i, T, h => by
    unfold bfsN
    split
    · exact bfs_good f _ _ (good_step h (by assumption))
    · exact h
/-- each room's goals are rooms -/
theorem bfs_closed {l : List Nat} : ∀ (f i : Nat) (T : List (List Nat)), GoodT l T → mostR l ≤ f + i → (∀ j, j < i → j < T.length → ∀ p ∈ nextsN l (T.getD j []), p.2 ∈ T) →
    ∀ E ∈ bfsN l f i T, ∀ p ∈ nextsN l E, p.2 ∈ bfsN l f i T
  | 0, i, T, h, hf, hc, E, hE, p, hp => by
    obtain ⟨j, hj, rfl⟩ := List.mem_iff_getElem.mp hE
    have hl := h.len
    have hj2 : j < T.length := hj
    refine hc j (by omega) hj2 p ?_
    rw [List.getD_eq_getElem?_getD, List.getElem?_eq_getElem hj2]
    exact hp
  | f + 1, i, T, h, hf, hc, E, hE, p, hp => by
    unfold bfsN at hE ⊢
    by_cases hi : i < T.length
    · rw [if_pos hi] at hE ⊢
      refine bfs_closed f (i + 1) _ (good_step h hi) (by omega) (fun j hj hj2 q hq => ?_) E hE p hp
      have hpre := step_prefix l T i
      have hjT : j < T.length := by omega
      have e0 : (stepN l T i).getD j [] = T.getD j [] := by
        obtain ⟨u, hu⟩ := hpre
        rw [← hu, List.getD_eq_getElem?_getD, List.getD_eq_getElem?_getD, List.getElem?_append_left hjT]
      rw [e0] at hq
      by_cases hji : j < i
      · exact hpre.subset (hc j hji hjT q hq)
      · have : j = i := by omega
        subst this
        exact foldG_mem _ _ q hq
    · rw [if_neg hi] at hE ⊢
      obtain ⟨j, hj, rfl⟩ := List.mem_iff_getElem.mp hE
      refine hc j (by omega) hj p ?_
      rw [List.getD_eq_getElem?_getD, List.getElem?_eq_getElem hj]
      exact hp
theorem rooms_good (l : List Nat) : GoodT l (roomsT l) := bfs_good _ _ _ (good_one l)
theorem rooms_closed {l E : List Nat} (hE : E ∈ roomsT l) : ∀ p ∈ nextsN l E, p.2 ∈ roomsT l := bfs_closed (mostR l) 0 [endN l []] (good_one l) (by omega) (fun j hj _ => absurd hj (by omega)) E hE
theorem rooms_zero (l : List Nat) : (roomsT l)[0]? = some (endN l []) := by
  obtain ⟨u, hu⟩ := bfs_prefix l (mostR l) 0 [endN l []]
  show (bfsN l (mostR l) 0 [endN l []])[0]? = _
  rw [← hu]
  rfl
theorem rooms_len (l : List Nat) : (roomsT l).length ≤ mostR l := (rooms_good l).len
theorem rooms_pos (l : List Nat) : 0 < (roomsT l).length := by
  have := rooms_zero l
  cases h : roomsT l with
  | nil =>
    rw [h] at this
    cases this
  | cons a b => simp
theorem rec_snoc {P : List Nat → Prop} (h0 : P []) (h1 : ∀ w c, P w → P (w ++ [c])) (w : List Nat) : P w := by
  have : ∀ (n : Nat) (w : List Nat), w.length = n → P w := by
    intro n
    induction n with
    | zero =>
      intro w hw
      rw [List.length_eq_zero_iff.mp hw]
      exact h0
    | succ n ih =>
      intro w hw
      have hne : w ≠ [] := fun z => by
        rw [z] at hw
        cases hw
      rw [← List.dropLast_concat_getLast hne]
      refine h1 _ _ (ih _ ?_)
      rw [List.length_dropLast]
      omega
  exact this _ w rfl
theorem part_room {l : List Nat} (w : List Nat) : w <:+: l → endN l w ∈ roomsT l := by
  refine rec_snoc (P := fun w => w <:+: l → endN l w ∈ roomsT l) (fun _ => List.mem_of_getElem? (rooms_zero l)) (fun w c ih h => ?_) w
  refine rooms_closed (ih (infix_snoc h)) (c, endN l (w ++ [c])) (nextsN_mem.mpr ⟨(goal_end l w c).symm, endN_ne.mpr h⟩)
/-- the number of a room -/
def numN (l E : List Nat) : Nat := (roomsT l).idxOf E
theorem num_lt {l E : List Nat} (h : E ∈ roomsT l) : numN l E < (roomsT l).length := List.idxOf_lt_length_of_mem h
theorem num_get {l E : List Nat} (h : E ∈ roomsT l) : (roomsT l)[numN l E]? = some E := by
  rw [List.getElem?_eq_getElem (num_lt h)]
  exact congrArg some (List.getElem_idxOf (num_lt h))
theorem num_of {l E : List Nat} {i : Nat} (h : (roomsT l)[i]? = some E) : numN l E = i := by
  obtain ⟨hi, e⟩ := List.getElem?_eq_some_iff.mp h
  have hE : E ∈ roomsT l := e ▸ List.getElem_mem hi
  have h1 := num_get hE
  obtain ⟨h3, h4⟩ := List.getElem?_eq_some_iff.mp h1
  exact (List.getElem_inj (h₀ := h3) (h₁ := hi) (rooms_good l).nodup).mp (h4.trans e.symm)
def linesN (l E : List Nat) : List (Nat × Nat) := (nextsN l E).map fun p => (p.1, numN l p.2)

end TY
namespace TY
open PySem PySem.Spec PyProof.Rows L2 Evl
/-! ### nexts -/
def encE (E : List Nat) : PyData := .tuple (E.map fun (e : Nat) => .int (e : Int))
def encX (p : Nat × List Nat) : PyData := .tuple [.str (S [p.1]), encE p.2]
structure Book (H0 : Hp) (d : Addr) (l E : List Nat) (ad : Nat → Addr) (H' : Hp) : Prop where
  dict : H' d = some (.dK ((keysN l E).map fun c => ((Sum.inr (S [c]) : Key), V.ref (ad c))))
  lists : ∀ c ∈ keysN l E, H' (ad c) = some (.lst ((goalN l E c).map fun (e : Nat) => V.int (e : Int)))
  apart : ∀ c ∈ keysN l E, ad c ≠ d ∧ H0 (ad c) = none
  inj : ∀ c ∈ keysN l E, ∀ c' ∈ keysN l E, ad c = ad c' → c = c'
  old : Ex H0 H'
theorem S1_inj {a b : Nat} (h : S [a] = S [b]) : a = b := by
  have := S_inj h
  simpa using this
theorem bk_any (ad : Nat → Addr) (c : Nat) : ∀ ks : List Nat, (ks.map fun c => ((Sum.inr (S [c]) : Key), V.ref (ad c))).any (fun kv => decide (kv.1 = Sum.inr (S [c]))) = decide (c ∈ ks)
  | [] => by simp
  | k :: ks => by
    rw [List.map_cons, List.any_cons, bk_any ad c ks]
    by_cases h : k = c
    · subst h
      simp
    · have h2 : ¬ ((Sum.inr (S [k]) : Key) = Sum.inr (S [c])) := fun z => h (S1_inj (Sum.inr.inj z))
      have h3 : ¬ c = k := fun z => h z.symm
      simp [h2, h3]
theorem bk_val (ad : Nat → Addr) (c : Nat) : ∀ ks : List Nat, valV (ks.map fun c => ((Sum.inr (S [c]) : Key), V.ref (ad c))) (Sum.inr (S [c])) = if c ∈ ks then some (.ref (ad c)) else none
  | [] => by simp [valV]
  | k :: ks => by
    rw [List.map_cons]
    by_cases h : k = c
    · subst h
      rw [valV_pos rfl, if_pos List.mem_cons_self]
    · rw [valV_neg (fun z => h (S1_inj (Sum.inr.inj z))), bk_val ad c ks]
      have h3 : ¬ c = k := fun z => h z.symm
      simp [h3]
theorem bk_put {ad : Nat → Addr} {c : Nat} {p : Addr} {ks : List Nat} (h : c ∉ ks) : putK (ks.map fun c => ((Sum.inr (S [c]) : Key), V.ref (ad c))) (Sum.inr (S [c])) (.ref p) = (ks ++ [c]).map fun k => ((Sum.inr (S [k]) : Key), V.ref (if k = c then p else ad k)) := by
  unfold putK
  rw [bk_any, if_neg (by simpa using h), List.map_append]
  congr 1
  · refine List.map_congr_left fun k hk => ?_
    rw [if_neg (fun z => h (by rw [← show k = c from z]; exact hk))]
  · simp
theorem goalN_snoc (l E : List Nat) (e c : Nat) : goalN l (E ++ [e]) c = goalN l E c ++ (if l[e]? = some c then [e + 1] else []) := by
  unfold goalN
  rw [List.filter_append, List.map_append]
  congr 1
  by_cases h : l[e]? = some c
  · rw [if_pos h, List.filter_cons, if_pos (decide_eq_true h)]
    rfl
  · rw [if_neg h, List.filter_cons, if_neg (by simpa using h)]
    rfl
theorem goalN_len (l E : List Nat) (c : Nat) : (goalN l E c).length ≤ E.length := by
  unfold goalN
  rw [List.length_map]
  exact List.length_filter_le _ _
section
variable {K : PySem.W.Frag} {σ : L2.St} {H : Hp} {td ty te : TE} {d p : Addr} {kvs : List (Key × V)} {k : Key} {v : V} {xs : List V} {D : Ends}
theorem tx_ne {a : Addr} {ys : List V} (hd : H d = some (.dK kvs)) (h : H a = some (.tup ys)) : a ≠ d := fun z => by
  rw [z, hd] at h
  cases h
/-- d.setdefault(k, []).append(v), the key there -/
theorem s_setapp1 (hd : H d = some (.dK kvs)) (h1 : Ev td σ H (.ref d)) (h2 : Ev ty σ H (kV k)) (h3 : ∀ H, Ev te σ H v) (hz : kvs.length < 100000) (hk : valV kvs k = some (.ref p)) (hp : H p = some (.lst xs)) (hx : xs.length < 100000)
    (q : ∀ Hf, (∀ a o, a ≠ p → H a = some o → Hf a = some o) → Hf p = some (.lst (xs ++ [v])) → D.nx σ Hf) :
    tDrop (tBM K "list" rAppend (tDSetd td ty (tLst tNil)) (tCons te tNil)) D σ H :=
  h1 H (Ex.refl H) _ fun H1 e1 => ⟨d, rfl, .inl ⟨kvs, .inl (e1 _ _ hd)⟩, h2 H1 e1 _ fun H2 e2 => ⟨Nat.zero_le _, fun r hr => by
    have e3 : Ex H (upd H2 r (.lst [])) := (e1.trans e2).trans (Ex.new hr)
    refine ⟨kvs, k, e3 _ _ hd, rfl, sz_lt hz, fun v' hv => ?_, fun hv => ?_⟩
    · rw [hk] at hv
      cases hv
      refine ⟨Or.inl ⟨rfl, xs, sq_of (e3 _ _ hp)⟩, h3 _ _ (Ex.refl _) _ fun H4 e4 => ⟨p, xs, v, rfl, rfl, e4 _ _ (e3 _ _ hp), sz_lt hx, q _ (fun a o ha ho => ?_) upd_same⟩⟩
      rw [upd_ne ha]
      exact e4 _ _ (e3 _ _ ho)
    · rw [hk] at hv
      cases hv⟩⟩
/-- .. the key new -/
theorem s_setapp2 (hd : H d = some (.dK kvs)) (h1 : Ev td σ H (.ref d)) (h2 : Ev ty σ H (kV k)) (h3 : ∀ H, Ev te σ H v) (hz : kvs.length < 100000) (hk : valV kvs k = none)
    (q : ∀ r Hf, H r = none → (∀ a o, a ≠ d → H a = some o → Hf a = some o) → Hf d = some (.dK (putK kvs k (.ref r))) → Hf r = some (.lst [v]) → D.nx σ Hf) :
    tDrop (tBM K "list" rAppend (tDSetd td ty (tLst tNil)) (tCons te tNil)) D σ H :=
  h1 H (Ex.refl H) _ fun H1 e1 => ⟨d, rfl, .inl ⟨kvs, .inl (e1 _ _ hd)⟩, h2 H1 e1 _ fun H2 e2 => ⟨Nat.zero_le _, fun r hr => by
    have e3 : Ex H (upd H2 r (.lst [])) := (e1.trans e2).trans (Ex.new hr)
    have hrd : r ≠ d := fun z => by
      rw [z, (e1.trans e2) _ _ hd] at hr
      cases hr
    refine ⟨kvs, k, e3 _ _ hd, rfl, sz_lt hz, fun v' hv => ?_, fun _ => ?_⟩
    · rw [hk] at hv
      cases hv
    · have hp : (upd (upd H2 r (.lst [])) d (.dK (putK kvs k (.ref r)))) r = some (.lst []) := by rw [upd_ne hrd, upd_same]
      refine ⟨Or.inl ⟨rfl, [], sq_of hp⟩, h3 _ _ (Ex.refl _) _ fun H4 e4 => ⟨r, [], v, rfl, rfl, e4 _ _ hp, Nat.lt_of_lt_of_le (Nat.zero_lt_one) (by decide), q r _ (fresh_back (e1.trans e2) hr) (fun a o ha ho => ?_) ?_ upd_same⟩⟩
      · have har : a ≠ r := fun z => by
          rw [z, fresh_back (e1.trans e2) hr] at ho
          cases ho
        rw [upd_ne har]
        refine e4 _ _ ?_
        rw [upd_ne ha]
        exact e3 _ _ ho
      · rw [upd_ne (Ne.symm hrd)]
        exact e4 _ _ upd_same⟩⟩
theorem ev_dget {x : V} (h1 : Ev td σ H (.ref d)) (h2 : Ev ty σ H (kV k)) (hd : H d = some (.dK kvs)) (hk : valV kvs k = some x) : Ev (tDGet td ty) σ H x := fun H1 e Q q =>
  h1 H1 e _ fun H2 e2 => h2 H2 (e.trans e2) _ fun H3 e3 => ⟨d, x, rfl, by
    have := DGet.k (k := k) (((e.trans e2).trans e3) _ _ hd)
    rw [hk] at this
    exact this, q H3 (e2.trans e3)⟩
end
theorem rising_letters : ∀ zs : List Nat, sortedS (zs.map fun c => S [c]) = true → zs.Pairwise (· ≤ ·) := by
  have key : ∀ (zs : List Nat) (a : Nat), risingS (S [a]) (zs.map fun c => S [c]) = true → (a :: zs).Pairwise (· ≤ ·) := by
    intro zs
    induction zs with
    | nil => intro a _; simp
    | cons b zs ih =>
      intro a h
      rw [List.map_cons] at h
      unfold risingS at h
      rw [Bool.and_eq_true] at h
      have h2 := ih b h.2
      have hab : a ≤ b := by
        have h1 := h.1
        have e0 : ltCps (S [b]).cps.toList (S [a]).cps.toList = decide (b < a) := by
          show ltCps [b] [a] = _
          simp [ltCps]
        rw [e0] at h1
        simpa using h1
      exact List.pairwise_cons.mpr ⟨fun x hx => by
        rcases List.mem_cons.mp hx with z | z
        · rw [z]
          exact hab
        · exact Nat.le_trans hab ((List.pairwise_cons.mp h2).1 x z), h2⟩
  intro zs h
  cases zs with
  | nil => exact .nil
  | cons a zs => exact key zs a h

theorem sorted_uniq {ks zs : List Nat} (hp : zs.Perm ks) (hs : zs.Pairwise (· ≤ ·)) : zs = ks.mergeSort fun a b => decide (a ≤ b) :=
  List.Perm.eq_of_pairwise (fun a b _ _ h1 h2 => Nat.le_antisymm h1 h2) hs ((PySem.W.sort_pairwise tl_nat ks).imp fun h => of_decide_eq_true h) (hp.trans (List.mergeSort_perm _ _).symm)
theorem td_signs {H : Hp} : ∀ zs : List Nat, TdAll H ((zs.map fun c => S [c]).map V.str) ((zs.map fun c => [c]).map fun l => .str (S l))
  | [] => .nil
  | z :: zs => .cons (.str _) (td_signs zs)
theorem td_nats {H : Hp} : ∀ zs : List Nat, TdAll H (zs.map fun (e : Nat) => V.int (e : Int)) (zs.map fun (e : Nat) => .int (e : Int))
  | [] => .nil
  | z :: zs => .cons (.int _) (td_nats zs)
def spNexts : Sp := fun vs H Q _ => ∃ (v : V) (E l : List Nat), vs = [v, .str (S l)] ∧ Td H v (encE E) ∧ E.length ≤ 60 ∧ l.length ≤ 100 ∧ ∀ p xs H', H p = none → Ex H H' → H' p = some (.lst xs) → TdAll H' xs ((nextsN l E).map encX) → Q (.ref p) H'
theorem sn_nexts {H : Hp} {v : V} {E l : List Nat} (h : Td H v (encE E)) (hE : E.length ≤ 60) (hl : l.length ≤ 100) : SpN spNexts [v, .str (S l)] H ((nextsN l E).map encX) := fun H1 e Q q Er => ⟨v, E, l, rfl, Td.ex e h, hE, hl, q⟩
abbrev s_nexts : Stmt := topS 10
theorem sc_nexts : FnScope ["ends", "text", "found", "place", "letter"] ["ends", "text"] (defScope s_nexts) := ⟨rfl, rfl, rfl, by decide +kernel, rfl, by decide +kernel, by decide +kernel⟩
section
variable {P : Program} {w : World} {K : PySem.W.Frag} {mg : Str → Option Value} {base : Heap}
theorem ok_nexts {f : Addr} {fd : FuncData} (F : Fun K "nexts" "nexts" s_nexts f fd) (T_ : Nm mg) : FnOk P w K mg base CX0 1 f fd ["ends", "text"] spNexts := by
  refine F.ok sc_nexts (fun vs H Q E h => ?_) (fun cdv A outer s H vs Q E hr h => ?_)
  · obtain ⟨v, E, l, rfl, _⟩ := h
    rfl
  · obtain ⟨v, E, l, rfl, hv, hE, hl, q⟩ := h
    refine ⟨_, (pss_cons (ps_set (i := 2) sc_nexts.nd rfl (.inr rfl) pe_dnewK)
      (pss_cons (ps_for PassesOwn.never rfl (pi_tupK K (pv 0)) (pg_name (i := 3) sc_nexts.nd rfl (.inl rfl))
      (pss_one (ps_if (pt_cmpR op_lt (pv 3) (pe_callB call_len_str (by rfl) T_.n_len PySem.boot_len (pa_cons (pv 1) pa_nil)) (nomark _))
      (pss_one (ps_expr (pe_bm PySem.F.plainAttrs_list PySem.F.slot_list_append PySem.F.type_list_append mt_append (pe_dsetd (pv 2) (pe_ix ix_str (pv 1) (pv 3) (fun _ _ => rfl)) (pe_lst pa_nil) ⟨rfl, rfl, rfl, rfl⟩) (pa_cons (pe_op op_add (pv 3) pe_int) pa_nil))))
      pss_nil)))
      (pss_one (ps_ret (pe_lc (own := [("letter", 4)]) (g := gName 4) (tt := tYes) rfl sc_nexts.nd (pi_listK K (pe_callB (call_sortedD rfl) (by rfl) T_.n_sorted bt_sorted (pa_cons (pv 2) pa_nil))) (blkOk_by (N := ["ends", "text", "found", "place", "letter"]) (sc := defScope s_nexts) (by decide +kernel)) (fun _ _ _ _ _ => (pg_name (i := 4) sc_nexts.nd rfl (Or.inl rfl))) (fun _ _ _ _ _ => pts_nil) (fun _ _ _ _ _ => (pe_tup (pa_cons (pv 4) (pa_cons (pe_tupleOfK K (by rfl) T_.n_tuple (pe_dget (hu_of hr) (pv 2) (pv 4) (fun _ _ => rfl))) pa_nil))))))))), ?_⟩
    refine show tSeq (tAsg tDNewK (gName 2)) _ _ _ H from fun d hd => ?_
    have e0 : Ex H (upd H d (.dK [])) := Ex.new hd
    have hv0 := Td.ex e0 hv
    refine q_forIT (es := E.map fun (e : Nat) => .int (e : Int)) (eit_tup (ed_var rfl hv0)) (fun H1 i σ' H' => (∃ y, σ' = [some v, some (.str (S l)), some (.ref d), y, none]) ∧ ExT H1 H' ∧ Td H' v (encE E) ∧ ∃ ad, Book H d l (E.take i) ad H')
      (fun H1 e1 => ⟨⟨none, rfl⟩, ExT.of (Ex.refl _), Td.ex e1 hv0, fun _ => 0, ⟨e1 _ _ upd_same, fun c hc => (by cases hc), fun c hc => (by cases hc), fun c hc => (by cases hc), e0.trans e1⟩⟩) (fun H1 i σ' H' p => p.2.1) ?_ ?_
    · rintro H1 i dt x σ' H2 H3 e1 hi ⟨⟨y, rfl⟩, t2, hv2, ad, B⟩ e3 hx
      have hiE : i < E.length := by
        have := (List.getElem?_eq_some_iff.mp hi).1
        rwa [List.length_map] at this
      have hge : E[i]? = some E[i] := List.getElem?_eq_getElem hiE
      rw [List.getElem?_map, hge] at hi
      cases hi
      cases hx.int_
      have htk : E.take (i + 1) = E.take i ++ [E[i]] := List.take_succ_eq_append_getElem hiE
      have hlE : (E.take i).length ≤ 60 := by
        rw [List.length_take]
        omega
      generalize E[i] = e at *
      generalize E.take i = E' at *
      rw [htk]
      have hd3 := e3 _ _ B.dict
      refine s_when (b := decide ((e : Int) < (l.length : Int))) (et_test (ev_op (ev_var rfl) (ev_lenStr (ev_var rfl) (by omega)) rv_I0)) (fun hb H4 e4 => ?_) (fun hb H4 e4 => ?_)
      · have hlt : e < l.length := by
          have := of_decide_eq_true hb
          omega
        have hle : l[e]? = some l[e] := List.getElem?_eq_getElem hlt
        generalize l[e] = c at hle
        have hd4 := e4 _ _ hd3
        have e34 := e3.trans e4
        have hkn : (keysN l E').length ≤ 60 := Nat.le_trans (keysN_len l E') hlE
        have hgl := goalN_len l E' c
        have hv4 := Td.ex e34 hv2
        have hte : ∀ H, Ev (tOp (rI0 fun i j => V.int (i + j)) (tVar 3) (tC (.int 1))) [some v, some (.str (S l)), some (.ref d), some (.int (e : Int)), none] H (.int ((e + 1 : Nat) : Int)) := fun H => ev_op (ev_var rfl) ev_c rv_I0
        by_cases hc : c ∈ keysN l E'
        · have hk : keysN l (E' ++ [e]) = keysN l E' := by
            rw [keysN_snoc]
            unfold addK
            rw [hle]
            exact if_pos hc
          refine s_setapp1 hd4 (ev_var rfl) (ev_ixS (c := c) (ev_var rfl) (ev_var rfl) (by omega) hle) hte (by rw [List.length_map]; omega) ((bk_val ad c _).trans (if_pos hc)) (e34 _ _ (B.lists c hc)) (by rw [List.length_map]; omega) fun Hf h1 h2 => ?_
          have tf : ExT H4 Hf := fun a xs ha => h1 a _ (fun z => by
            rw [z, e34 _ _ (B.lists c hc)] at ha
            cases ha) ha
          refine ⟨⟨_, rfl⟩, fun a xs ha => tf _ _ (e34 _ _ (t2 _ _ ha)), Td.ext tf hv4, ad, ?_⟩
          refine ⟨?_, fun k hk' => ?_, fun k hk' => ?_, fun k hk' k2 hk2 => ?_, fun a o ha => ?_⟩
          · rw [hk]
            exact h1 d _ (Ne.symm (B.apart c hc).1) hd4
          · rw [hk] at hk'
            rw [goalN_snoc, hle]
            by_cases hkc : k = c
            · subst hkc
              rw [if_pos rfl, List.map_append]
              exact h2
            · rw [if_neg (fun z => hkc (Option.some.inj z).symm), List.append_nil]
              exact h1 _ _ (fun z => hkc (B.inj k hk' c hc z)) (e34 _ _ (B.lists k hk'))
          · rw [hk] at hk'
            exact B.apart k hk'
          · rw [hk] at hk' hk2
            exact B.inj k hk' k2 hk2
          · refine h1 a o (fun z => ?_) (e34 _ _ (B.old _ _ ha))
            rw [z, (B.apart c hc).2] at ha
            cases ha
        · have hk : keysN l (E' ++ [e]) = keysN l E' ++ [c] := by
            rw [keysN_snoc]
            unfold addK
            rw [hle]
            exact if_neg hc
          have hg0 : goalN l E' c = [] := by
            refine Classical.byContradiction fun z => hc ?_
            exact (lettersN_perm l E').mem_iff.mp (goalN_ne.mp z)
          refine s_setapp2 hd4 (ev_var rfl) (ev_ixS (c := c) (ev_var rfl) (ev_var rfl) (by omega) hle) hte (by rw [List.length_map]; omega) ((bk_val ad c _).trans (if_neg hc)) fun r Hf hr h1 h2 h3 => ?_
          have tf : ExT H4 Hf := fun a xs ha => h1 a _ (tx_ne hd4 ha) ha
          have hne : ∀ k ∈ keysN l E', ad k ≠ r := fun k hk' z => by
            have := e34 _ _ (B.lists k hk')
            rw [z, hr] at this
            cases this
          have hrd : r ≠ d := fun z => by
            rw [z, hd4] at hr
            cases hr
          rw [bk_put hc] at h2
          refine ⟨⟨_, rfl⟩, fun a xs ha => tf _ _ (e34 _ _ (t2 _ _ ha)), Td.ext tf hv4, fun k => if k = c then r else ad k, ?_⟩
          refine ⟨?_, fun k hk' => ?_, fun k hk' => ?_, fun k hk' k2 hk2 z => ?_, fun a o ha => ?_⟩
          · rw [hk]
            exact h2
          · rw [hk] at hk'
            rw [goalN_snoc, hle]
            by_cases hkc : k = c
            · subst hkc
              rw [if_pos rfl, if_pos rfl, hg0]
              exact h3
            · rw [if_neg hkc, if_neg (fun z => hkc (Option.some.inj z).symm), List.append_nil]
              have hk2 : k ∈ keysN l E' := by
                rcases List.mem_append.mp hk' with z | z
                · exact z
                · exact absurd (List.mem_singleton.mp z) hkc
              exact h1 _ _ (B.apart k hk2).1 (e34 _ _ (B.lists k hk2))
          · rw [hk] at hk'
            by_cases hkc : k = c
            · rw [if_pos hkc]
              exact ⟨hrd, fresh_back ((B.old.trans e3).trans e4) hr⟩
            · rw [if_neg hkc]
              rcases List.mem_append.mp hk' with z | z
              · exact B.apart k z
              · exact absurd (List.mem_singleton.mp z) hkc
          · rw [hk] at hk' hk2
            by_cases h5 : k = c
            · by_cases h6 : k2 = c
              · rw [h5, h6]
              · rw [if_pos h5, if_neg h6] at z
                rcases List.mem_append.mp hk2 with y | y
                · exact absurd z.symm (hne k2 y)
                · exact absurd (List.mem_singleton.mp y) h6
            · rcases List.mem_append.mp hk' with y | y
              · by_cases h6 : k2 = c
                · rw [if_neg h5, if_pos h6] at z
                  exact absurd z (hne k y)
                · rw [if_neg h5, if_neg h6] at z
                  rcases List.mem_append.mp hk2 with y2 | y2
                  · exact B.inj k y k2 y2 z
                  · exact absurd (List.mem_singleton.mp y2) h6
              · exact absurd (List.mem_singleton.mp y) h5
          · refine h1 a o (fun z => ?_) (e34 _ _ (B.old _ _ ha))
            rw [z, hd] at ha
            cases ha
      · have hge2 : l[e]? = none := by
          have := of_decide_eq_false hb
          exact List.getElem?_eq_none (by omega)
        have hk : keysN l (E' ++ [e]) = keysN l E' := by
          rw [keysN_snoc]
          unfold addK
          rw [hge2]
        have hg : ∀ c, goalN l (E' ++ [e]) c = goalN l E' c := fun c => by
          rw [goalN_snoc, hge2, if_neg (by simp), List.append_nil]
        have e34 := e3.trans e4
        refine ⟨⟨_, rfl⟩, fun a xs ha => e34 _ _ (t2 _ _ ha), Td.ex e34 hv2, ad, ?_⟩
        refine ⟨by rw [hk]; exact e34 _ _ B.dict, fun k hk' => ?_, fun k hk' => ?_, fun k hk' k2 hk2 => ?_, B.old.trans e34⟩
        · rw [hk] at hk'
          rw [hg]
          exact e34 _ _ (B.lists k hk')
        · rw [hk] at hk'
          exact B.apart k hk'
        · rw [hk] at hk' hk2
          exact B.inj k hk' k2 hk2
    · rintro H1 σ' H2 e1 ⟨⟨y, rfl⟩, t2, hv2, ad, B⟩
      rw [List.length_map, List.take_of_length_le (Nat.le_refl _)] at B
      have hkn := keysN_len l E
      refine s_retN (ds := (nextsN l E).map encX) ?_ fun p xs H3 hp e3 h3 hx => q p xs H3 (fresh_back B.old hp) (B.old.trans e3) h3 hx
      have hll : (lettersN l E).length = (keysN l E).length := (lettersN_perm l E).length_eq
      have es : (nextsN l E).map encX = (((lettersN l E).map fun c => [c]).filter fun _ => true).map fun u => encX (u.headD 0, goalN l E (u.headD 0)) := by
        unfold nextsN
        rw [List.filter_eq_self.mpr (fun _ _ => rfl), List.map_map, List.map_map]
        rfl
      rw [es]
      refine en_lcS ((lettersN l E).map fun c => [c]) (fun _ => true) _ (ei_new ?_) (by rw [List.length_map]; omega) fun u hu H3 e3 => ⟨et_yes, fun _ => ?_⟩
      · intro H3 e3 Q' q'
        refine ev_var (i := 2) rfl H3 e3 _ fun H4 e4 => ?_
        have hd4 := (e3.trans e4) _ _ B.dict
        refine ⟨d, _, (keysN l E).map fun c => S [c], rfl, .inl hd4, by rw [List.map_map, List.map_map]; rfl, by rw [List.length_map]; omega, fun ys p hys hso hp => ?_⟩
        obtain ⟨zs, hz1, hz2⟩ : ∃ zs : List Nat, ys = zs.map (fun c => S [c]) ∧ zs.Perm (keysN l E) := by
          refine ⟨ys.map fun s => s.cps.toList.headD 0, ?_, ?_⟩
          · rw [List.map_map]
            refine (List.map_id ys).symm.trans (List.map_congr_left fun y hy => ?_)
            obtain ⟨c, _, rfl⟩ := List.mem_map.mp (hys.mem_iff.mp hy)
            rfl
          · have := hys.map fun s : Str => s.cps.toList.headD 0
            rw [List.map_map] at this
            exact this.trans (List.Perm.of_eq (List.map_id _))
        subst hz1
        have hz3 : zs = lettersN l E := sorted_uniq hz2 (rising_letters zs hso)
        subst hz3
        refine q' p _ _ (fresh_back e4 hp) (e4.trans (Ex.new hp)) upd_same (td_signs _)
      · obtain ⟨c, hc, rfl⟩ := List.mem_map.mp hu
        have hck : c ∈ keysN l E := (lettersN_perm l E).mem_iff.mp hc
        refine ed_tup (ead_cons (ed_str (ev_var rfl)) (ead_cons (ed_tupL (ev_dget (k := Sum.inr (S [c])) (ev_var rfl) (ev_var rfl) (e3 _ _ B.dict) ((bk_val ad c _).trans (if_pos hck))) (e3 _ _ (B.lists c hck)) (td_nats _)) ead_nil)) (Nat.le_of_ble_eq_true rfl)
end

end TY
namespace TY
open PySem PySem.Spec PyProof.Rows L2 Evl
/-! ### the book of rooms -/
def keyE (E : List Nat) : List Key := E.map fun (e : Nat) => (Sum.inl (e : Int) : Key)
def kvsF : Nat → List (List Nat) → List (List Key × V)
  | _, [] => []
  | n, E :: Ts => (keyE E, .int (n : Int)) :: kvsF (n + 1) Ts
theorem keyE_inj {E E' : List Nat} (h : keyE E = keyE E') : E = E' := by
  unfold keyE at h
  refine List.map_inj_right (f := fun (e : Nat) => (Sum.inl (e : Int) : Key)) (fun a b z => ?_) |>.mp h
  have := Sum.inl.inj z
  omega
theorem kvsF_len : ∀ (n : Nat) (Ts : List (List Nat)), (kvsF n Ts).length = Ts.length
  | _, [] => rfl
  | n, E :: Ts => by
    show (kvsF (n + 1) Ts).length + 1 = _
    rw [kvsF_len, List.length_cons]
theorem kvsF_val (E : List Nat) : ∀ (n : Nat) (Ts : List (List Nat)), valV (kvsF n Ts) (keyE E) = if E ∈ Ts then some (.int ((n + Ts.idxOf E : Nat) : Int)) else none
  | _, [] => by simp [kvsF, valV]
  | n, F :: Ts => by
    unfold kvsF
    by_cases h : F = E
    · subst h
      rw [valV_pos rfl, if_pos List.mem_cons_self, List.idxOf_cons_self, Nat.add_zero]
    · rw [valV_neg (fun z => h (keyE_inj z)), kvsF_val E (n + 1) Ts]
      have h3 : ¬ E = F := fun z => h z.symm
      by_cases hm : E ∈ Ts
      · rw [if_pos hm, if_pos (List.mem_cons_of_mem _ hm)]
        have e1 : (F :: Ts).idxOf E = Ts.idxOf E + 1 := by
          rw [List.idxOf_cons, show (F == E) = false by simpa using h]
          rfl
        rw [e1]
        congr 3
        omega
      · rw [if_neg hm, if_neg (by simp [h3, hm])]
theorem kvsF_snoc (E : List Nat) : ∀ (n : Nat) (Ts : List (List Nat)), kvsF n (Ts ++ [E]) = kvsF n Ts ++ [(keyE E, .int ((n + Ts.length : Nat) : Int))]
  | n, [] => rfl
  | n, F :: Ts => by
    show _ :: kvsF (n + 1) (Ts ++ [E]) = (_ :: kvsF (n + 1) Ts) ++ _
    rw [kvsF_snoc E (n + 1) Ts, List.cons_append]
    congr 5
    rw [List.length_cons]
    omega
theorem kvsF_put {E : List Nat} {Ts : List (List Nat)} (h : E ∉ Ts) : putK (kvsF 0 Ts) (keyE E) (.int (Ts.length : Int)) = kvsF 0 (Ts ++ [E]) := by
  unfold putK
  have h1 : ((kvsF 0 Ts).any fun kv => decide (kv.1 = keyE E)) = false := by
    rw [valV_any, kvsF_val, if_neg h]
    rfl
  rw [h1, if_neg (by simp), kvsF_snoc, Nat.zero_add]
theorem key_at {H : Hp} {v : V} {E : List Nat} (h : Td H v (encE E)) : ∃ b, v = .ref b ∧ H b = some (.tup ((keyE E).map kV)) := by
  obtain ⟨b, xs, rfl, h1, h2⟩ := h.tup_
  refine ⟨b, rfl, ?_⟩
  have e0 : (E.map fun (e : Nat) => PyData.int (e : Int)) = (E.map fun (e : Nat) => (e : Int)).map PyData.int := by
    rw [List.map_map]
    rfl
  rw [e0] at h2
  rw [h1, h2.ints]
  congr 2
  unfold keyE
  rw [List.map_map, List.map_map]
  rfl
section
variable {K : PySem.W.Frag} {σ : L2.St} {H : Hp} {td ty te tv tl : TE} {d b : Addr} {g v : V} {E : List Nat} {Ts : List (List Nat)} {D : Ends} {es : List PyData}
theorem ev_dgetT (h1 : Ev td σ H (.ref d)) (h2 : Ev ty σ H g) (hg : Td H g (encE E)) (hd : H d = some (.dT (kvsF 0 Ts))) (hk : E ∈ Ts) : Ev (tDGet td ty) σ H (.int (Ts.idxOf E : Int)) := fun H1 e Q q =>
  h1 H1 e _ fun H2 e2 => h2 H2 (e.trans e2) _ fun H3 e3 => by
    have e13 := (e.trans e2).trans e3
    obtain ⟨b, rfl, hb⟩ := key_at (Td.ex e13 hg)
    have := DGet.t (k := keyE E) (e13 _ _ hd) hb
    rw [kvsF_val, if_pos hk, Nat.zero_add] at this
    exact ⟨d, _, rfl, this, q H3 (e2.trans e3)⟩
theorem ev_niT (h2 : Ev ty σ H g) (h1 : Ev td σ H (.ref d)) (hg : Td H g (encE E)) (hd : H d = some (.dT (kvsF 0 Ts))) : Ev (tDNotIn ty td) σ H (.bl (!decide (E ∈ Ts))) := fun H1 e Q q =>
  h2 H1 e _ fun H2 e2 => h1 H2 (e.trans e2) _ fun H3 e3 => by
    have e13 := (e.trans e2).trans e3
    obtain ⟨b, rfl, hb⟩ := key_at (Td.ex e13 hg)
    have := DGet.t (k := keyE E) (e13 _ _ hd) hb
    refine ⟨d, _, rfl, this, ?_⟩
    have e0 : (valV (kvsF 0 Ts) (keyE E)).isSome = decide (E ∈ Ts) := by
      rw [kvsF_val]
      by_cases z : E ∈ Ts
      · rw [if_pos z, decide_eq_true z]
        rfl
      · rw [if_neg z, decide_eq_false z]
        rfl
    rw [e0]
    exact q H3 (e2.trans e3)
theorem ev_lenR (h1 : Ev td σ H (.ref d)) (hd : H d = some (.dT (kvsF 0 Ts))) : Ev (tCB rLenT (tCons td tNil)) σ H (.int (Ts.length : Int)) := fun H1 e Q q =>
  h1 H1 e _ fun H2 e2 => ⟨d, _, rfl, (e.trans e2) _ _ hd, by
    rw [kvsF_len]
    exact q H2 e2⟩
theorem q_putR {tz : TS} (h1 : Ev tv σ H (.int (Ts.length : Int))) (h2 : Ev td σ H (.ref d)) (h3 : Ev ty σ H g) (hg : Td H g (encE E)) (hd : H d = some (.dT (kvsF 0 Ts))) (hn : E ∉ Ts) (hz : Ts.length < 100000)
    (k : ∀ H1, Ex H H1 → tz D σ (upd H1 d (.dT (kvsF 0 (Ts ++ [E]))))) : tSeq (sDPut td ty tv) tz D σ H := h1 H (Ex.refl H) _ fun H2 e2 => h2 H2 e2 _ fun H3 e3 => h3 H3 (e2.trans e3) _ fun H4 e4 => by
  have e := (e2.trans e3).trans e4
  obtain ⟨b, rfl, hb⟩ := key_at (Td.ex e hg)
  refine ⟨d, _, rfl, DPut.t (k := keyE E) (e _ _ hd) hb (by rw [kvsF_len]; exact sz_lt hz), ?_⟩
  rw [kvsF_put hn]
  exact k H4 e
theorem s_putR (h1 : Ev tv σ H (.int (Ts.length : Int))) (h2 : Ev td σ H (.ref d)) (h3 : Ev ty σ H g) (hg : Td H g (encE E)) (hd : H d = some (.dT (kvsF 0 Ts))) (hn : E ∉ Ts) (hz : Ts.length < 100000)
    (k : ∀ H1, Ex H H1 → D.nx σ (upd H1 d (.dT (kvsF 0 (Ts ++ [E]))))) : sDPut td ty tv D σ H := h1 H (Ex.refl H) _ fun H2 e2 => h2 H2 e2 _ fun H3 e3 => h3 H3 (e2.trans e3) _ fun H4 e4 => by
  have e := (e2.trans e3).trans e4
  obtain ⟨b, rfl, hb⟩ := key_at (Td.ex e hg)
  refine ⟨d, _, rfl, DPut.t (k := keyE E) (e _ _ hd) hb (by rw [kvsF_len]; exact sz_lt hz), ?_⟩
  rw [kvsF_put hn]
  exact k H4 e
/-- over a new list, while others are stored in -/
theorem q_forN {tg : TG} {tu tz : TS} (h : EvN tl σ H es) (Pv : Addr → List V → Nat → L2.St → Hp → Prop) (h0 : ∀ p xs H1, H p = none → Ex H H1 → H1 p = some (.lst xs) → TdAll H1 xs es → Pv p xs 0 σ H1) (hl : ∀ p xs i σ' H', Pv p xs i σ' H' → H' p = some (.lst xs))
    (hs : ∀ p xs i x σ' H', xs[i]? = some x → Pv p xs i σ' H' → tg x σ' H' fun σ2 H2 => tu { D with nx := Pv p xs (i + 1), ct := Pv p xs (i + 1), bk := tz D } σ2 H2) (hd : ∀ p xs σ' H', Pv p xs xs.length σ' H' → tz D σ' H') : tSeq (tFor (iList K tl) tg tu) tz D σ H :=
  h H (Ex.refl H) _ fun p xs H1 hp e h1 hx => ⟨p, rfl, ⟨xs, sq_of h1⟩, for_list (Pv p xs) (h0 p xs H1 hp e h1 hx) (fun i σ' H' _ q => sq_of (hl p xs i σ' H' q)) (hs p xs) (hd p xs)⟩
end
def encLn (p : Nat × Nat) : PyData := .tuple [.str (S [p.1]), .int (p.2 : Int)]
def spLines : Sp := fun vs H Q _ => ∃ (v : V) (d : Addr) (E l : List Nat) (Ts : List (List Nat)), vs = [v, .ref d, .str (S l)] ∧ Td H v (encE E) ∧ H d = some (.dT (kvsF 0 Ts)) ∧ (∀ p ∈ nextsN l E, p.2 ∈ Ts) ∧ E.length ≤ 60 ∧ l.length ≤ 100 ∧
  ∀ u H', Ex H H' → Td H' u (.tuple (((nextsN l E).map fun p => (p.1, Ts.idxOf p.2)).map encLn)) → Q u H'
theorem sd_lines {H : Hp} {v : V} {d : Addr} {E l : List Nat} {Ts : List (List Nat)} (h : Td H v (encE E)) (hd : H d = some (.dT (kvsF 0 Ts))) (hm : ∀ p ∈ nextsN l E, p.2 ∈ Ts) (hE : E.length ≤ 60) (hl : l.length ≤ 100) :
    SpD spLines [v, .ref d, .str (S l)] H (.tuple (((nextsN l E).map fun p => (p.1, Ts.idxOf p.2)).map encLn)) := fun H1 e Q q Er => ⟨v, d, E, l, Ts, rfl, Td.ex e h, e _ _ hd, hm, hE, hl, q⟩
theorem nextsN_len (l E : List Nat) : (nextsN l E).length ≤ E.length := by
  unfold nextsN
  rw [List.length_map, (lettersN_perm l E).length_eq]
  exact keysN_len l E
/-- the two books, as rooms are found -/
structure Todo (t d : Addr) (T : List (List Nat)) (H : Hp) : Prop where
  lst : ∃ ys, H t = some (.lst ys) ∧ TdAll H ys (T.map encE)
  dict : H d = some (.dT (kvsF 0 T))
theorem Todo.ex {t d : Addr} {T : List (List Nat)} {H H' : Hp} (e : Ex H H') (h : Todo t d T H) : Todo t d T H' := by
  obtain ⟨⟨ys, h1, h2⟩, h3⟩ := h
  exact ⟨⟨ys, e _ _ h1, TdAll.ex e h2⟩, e _ _ h3⟩
def OutTD (t d : Addr) (H H' : Hp) : Prop := ∀ a o, a ≠ t → a ≠ d → H a = some o → H' a = some o
theorem OutTD.ex {t d : Addr} {H H' H'' : Hp} (h : OutTD t d H H') (e : Ex H' H'') : OutTD t d H H'' := fun a o h1 h2 h3 => e _ _ (h a o h1 h2 h3)
def spTodo : Sp := fun vs H Q _ => ∃ (t d : Addr) (l : List Nat), vs = [.ref t, .ref d, .str (S l)] ∧ t ≠ d ∧ Todo t d [endN l []] H ∧ l.length ≤ 50 ∧ ∀ H', OutTD t d H H' → Todo t d (roomsT l) H' → Q (.ref t) H'
abbrev s_lines_of : Stmt := topS 12
theorem sc_lines_of : FnScope ["ends", "numbers", "text", "letter", "goal"] ["ends", "numbers", "text"] (defScope s_lines_of) := ⟨rfl, rfl, rfl, by decide +kernel, rfl, by decide +kernel, by decide +kernel⟩
abbrev s_todo_of : Stmt := topS 11
theorem sc_todo_of : FnScope ["todo", "numbers", "text", "at", "letter", "goal"] ["todo", "numbers", "text"] (defScope s_todo_of) := ⟨rfl, rfl, rfl, by decide +kernel, rfl, by decide +kernel, by decide +kernel⟩
theorem endN_len (l w : List Nat) : (endN l w).length ≤ l.length + 1 := by
  unfold endN
  have := List.length_filter_le (fun e => decide (w <:+ l.take e)) (List.range (l.length + 1))
  rw [List.length_range] at this
  exact this
theorem GoodT.short {l : List Nat} {T : List (List Nat)} (h : GoodT l T) {E : List Nat} (hE : E ∈ T) : E.length ≤ l.length + 1 := by
  obtain ⟨w, _, rfl⟩ := h.parts E hE
  exact endN_len l w
section
variable {P : Program} {w : World} {K : PySem.W.Frag} {mg : Str → Option Value} {base : Heap}
theorem ok_lines_of {f : Addr} {fd : FuncData} (F : Fun K "lines_of" "lines_of" s_lines_of f fd) (T_ : Nm mg) (c_nexts : Cl P w K mg base 1 "nexts" spNexts) : FnOk P w K mg base CX0 2 f fd ["ends", "numbers", "text"] spLines := by
  refine F.ok sc_lines_of (fun vs H Q E h => ?_) (fun cdv A outer s H vs Q E hr h => ?_)
  · obtain ⟨v, d, E, l, Ts, rfl, _⟩ := h
    rfl
  · obtain ⟨v, d, E, l, Ts, rfl, hv, hd, hm, hE, hl, q⟩ := h
    refine ⟨_, (pss_one (ps_ret (pe_tupleOfK K (by rfl) T_.n_tuple (pe_lc (own := [("letter", 3), ("goal", 4)]) (g := gTup K 2 (gCons (gName 3) (gCons (gName 4) gNil))) (tt := tYes) rfl sc_lines_of.nd (pi_listK K (pe_cl c_nexts hr (by first | decide | omega) (by rfl) (pa_cons (pv 0) (pa_cons (pv 2) pa_nil)))) (blkOk_by (N := ["ends", "numbers", "text", "letter", "goal"]) (sc := defScope s_lines_of) (by decide +kernel)) (fun _ _ _ _ _ => (pg_tup rfl (pgs_cons (pg_name (i := 3) sc_lines_of.nd rfl (Or.inl rfl)) (pgs_cons (pg_name (i := 4) sc_lines_of.nd rfl (Or.inl rfl)) pgs_nil)))) (fun _ _ _ _ _ => pts_nil) (fun _ _ _ _ _ => (pe_tup (pa_cons (pv 3) (pa_cons (pe_dget (hu_of hr) (pv 1) (pv 4) (fun _ _ => rfl)) pa_nil)))))))), ?_⟩
    refine s_retD (d := .tuple (((nextsN l E).map fun p => (p.1, Ts.idxOf p.2)).map encLn)) (ed_tupOf ?_) q
    have e0 : ((nextsN l E).map fun p => (p.1, Ts.idxOf p.2)).map encLn = ((nextsN l E).filter fun _ => true).map fun p => encLn (p.1, Ts.idxOf p.2) := by
      rw [List.filter_eq_self.mpr (fun _ _ => rfl), List.map_map]
      rfl
    rw [e0]
    have hn := nextsN_len l E
    refine en_lcA encX (nextsN l E) (fun _ => true) _ (ei_new (en_call (ea_cons (ev_var rfl) (ea_cons (ev_var rfl) ea_nil)) (sn_nexts hv hE hl))) (by omega) fun p hp x H1 e1 hx => ?_
    obtain ⟨a, xs, rfl, ha, hxs⟩ := hx.tup_
    cases hxs with
    | cons h1 hxs => cases hxs with
      | cons h2 hxs =>
        cases hxs
        cases h1.str_
        exact ⟨_, bnd_pair ha, rfl, et_yes, fun _ => ed_tup (ead_cons (ed_str (ev_var rfl)) (ead_cons (ed_int (ev_dgetT (ev_var rfl) (ev_var rfl) h2 (e1 _ _ hd) (hm p hp))) ead_nil)) (Nat.le_of_ble_eq_true rfl)⟩
theorem ok_todo_of {f : Addr} {fd : FuncData} (F : Fun K "todo_of" "todo_of" s_todo_of f fd) (T_ : Nm mg) (c_nexts : Cl P w K mg base 1 "nexts" spNexts) : FnOk P w K mg base CX0 2 f fd ["todo", "numbers", "text"] spTodo := by
  refine F.ok sc_todo_of (fun vs H Q E h => ?_) (fun cdv A outer s H vs Q E hr h => ?_)
  · obtain ⟨t, d, l, rfl, _⟩ := h
    rfl
  · obtain ⟨t, d, l, rfl, htd, hT, hl, q⟩ := h
    refine ⟨_, (pss_cons (ps_set (i := 3) sc_todo_of.nd rfl (.inl rfl) pe_int)
      (pss_cons (ps_while PassesOwn.never (pt_cmpR op_lt (pv 3) (pe_callB (kC K rLenS call_len_seq) (by rfl) T_.n_len PySem.boot_len (pa_cons (pv 0) pa_nil)) (nomark _))
      (pss_cons (ps_for PassesOwn.never rfl (pi_listK K (pe_cl c_nexts hr (by first | decide | omega) (by rfl) (pa_cons (pe_ix (kI K rIxL ix_list) (pv 0) (pv 3) (fun _ _ => rfl)) (pa_cons (pv 2) pa_nil)))) (pg_tup rfl (pgs_cons (pg_name (i := 4) sc_todo_of.nd rfl (.inl rfl)) (pgs_cons (pg_name (i := 5) sc_todo_of.nd rfl (.inl rfl)) pgs_nil)))
      (pss_one (ps_if (pt_cmp (pc_dnotin (hu_of hr) (pv 5) (pv 1)))
      (pss_cons (ps_dput (hu_of hr) (pv 1) (pv 5) (pe_callB call_len_dT (by rfl) T_.n_len PySem.boot_len (pa_cons (pv 1) pa_nil)) rfl)
      (pss_one (ps_expr (pe_bm PySem.F.plainAttrs_list PySem.F.slot_list_append PySem.F.type_list_append mt_append (pv 0) (pa_cons (pv 5) pa_nil)))))
      pss_nil)))
      (pss_one (ps_set (i := 3) sc_todo_of.nd rfl (.inl rfl) (pe_op op_add (pv 3) pe_int)))))
      (pss_one (ps_ret (pv 0))))), ?_⟩
    refine q_asg (v := .int ((0 : Nat) : Int)) ev_c fun H1 e1 => ?_
    have hmost : mostR l < 30000 := allParts_len (by omega)
    refine q_while (fun m σ' H' => ∃ i T, m + i = mostR l ∧ (∃ x y, σ' = [some (.ref t), some (.ref d), some (.str (S l)), some (.int (i : Int)), x, y]) ∧ OutTD t d H H' ∧ Todo t d T H' ∧ GoodT l T ∧ bfsN l m i T = roomsT l) (mostR l)
      ⟨0, [endN l []], rfl, ⟨_, _, rfl⟩, fun a o _ _ h => e1 _ _ h, hT.ex e1, good_one l, rfl⟩ ?_
    rintro m σ' H2 ⟨i, T, hm, ⟨x, y, rfl⟩, hO, hTd, hG, hb⟩
    obtain ⟨ys, hys, hyd⟩ := hTd.lst
    have hlen := hG.len
    have hyl : ys.length = T.length := by rw [hyd.len, List.length_map]
    refine ⟨decide ((i : Int) < (T.length : Int)), et_test (ev_op (ev_var rfl) (ev_is (ev_len (ev_var rfl) (sq_of hys)) (congrArg V.int (by rw [hyl]))) rv_I0), fun hlt H3 e3 => ?_, fun hge H3 e3 => ?_⟩
    · have hi : i < T.length := by
        have := of_decide_eq_true hlt
        omega
      obtain ⟨m, rfl⟩ : ∃ m', m = m' + 1 := ⟨m - 1, by omega⟩
      have hb2 : bfsN l m (i + 1) (stepN l T i) = roomsT l := by
        have : bfsN l (m + 1) i T = bfsN l m (i + 1) (stepN l T i) := by
          rw [bfsN, if_pos hi]
        rw [← this]
        exact hb
      refine ⟨fun σ2 H' => (∃ x y, σ2 = [some (.ref t), some (.ref d), some (.str (S l)), some (.int ((i + 1 : Nat) : Int)), x, y]) ∧ OutTD t d H H' ∧ Todo t d (stepN l T i) H', ?_, ?_⟩
      · rintro σ2 H' ⟨h1, h2, h3⟩
        exact ⟨m, by omega, i + 1, _, by omega, h1, h2, h3, good_step hG hi, hb2⟩
      have hT3 := hTd.ex e3
      have hO3 := hO.ex e3
      obtain ⟨ys, hys, hyd⟩ := hT3.lst
      have hgE : T[i]? = some T[i] := List.getElem?_eq_getElem hi
      have hyi : (T.map encE)[i]? = some (encE T[i]) := by
        rw [List.getElem?_map, hgE]
        rfl
      obtain ⟨z, hz, hzd⟩ := hyd.get' hyi
      have hst : stepN l T i = (nextsN l T[i]).foldl addG T := by
        unfold stepN
        rw [List.getD_eq_getElem?_getD, hgE]
        rfl
      have hsh : T[i].length ≤ 60 := by
        have := hG.short (List.getElem_mem hi)
        omega
      rw [hst]
      have hgood := nexts_good (hG.parts T[i] (List.getElem_mem hi))
      generalize T[i] = E0 at hzd hsh hgood
      have hnl := nextsN_len l E0
      refine q_forN (es := (nextsN l E0).map encX) (en_call (ea_cons (ev_op (ev_var rfl) (ev_var rfl) (rv_ixL (sq_of hys) (atI_nat hz))) (ea_cons (ev_var rfl) ea_nil)) (sn_nexts hzd hsh (by omega)))
        (fun p xs j σ2 H' => (∃ x y, σ2 = [some (.ref t), some (.ref d), some (.str (S l)), some (.int (i : Int)), x, y]) ∧ OutTD t d H H' ∧ Todo t d (((nextsN l E0).take j).foldl addG T) H' ∧ H' p = some (.lst xs) ∧ TdAll H' xs ((nextsN l E0).map encX) ∧ p ≠ t ∧ p ≠ d)
        (fun p xs H4 hp e4 h4 hx => ⟨⟨_, _, rfl⟩, hO3.ex e4, hT3.ex e4, h4, hx, fun z => ?_, fun z => ?_⟩) (fun p xs j σ2 H' q => q.2.2.2.1) ?_ ?_
      · rw [z, hys] at hp
        cases hp
      · rw [z, hT3.dict] at hp
        cases hp
      · rintro p xs j x0 σ2 H4 hx0 ⟨⟨x1, y1, rfl⟩, hO4, hT4, hp4, hx4, hpt, hpd⟩
        obtain ⟨dt, hdt, hxd⟩ := hx4.get hx0
        have hj : j < (nextsN l E0).length := by
          have := (List.getElem?_eq_some_iff.mp hx0).1
          rw [hx4.len, List.length_map] at this
          exact this
        have hgj : (nextsN l E0)[j]? = some (nextsN l E0)[j] := List.getElem?_eq_getElem hj
        rw [List.getElem?_map, hgj] at hdt
        cases hdt
        have htk : (nextsN l E0).take (j + 1) = (nextsN l E0).take j ++ [(nextsN l E0)[j]] := List.take_succ_eq_append_getElem hj
        have hG4 : GoodT l (((nextsN l E0).take j).foldl addG T) := good_foldG _ _ hG fun q hq => hgood q (List.mem_of_mem_take hq)
        rw [htk, List.foldl_append, List.foldl_cons, List.foldl_nil]
        generalize (nextsN l E0)[j] = pr at *
        generalize ((nextsN l E0).take j).foldl addG T = T4 at *
        have hT4l := hG4.len
        obtain ⟨a, ws, rfl, ha, hws⟩ := hxd.tup_
        cases hws with
        | cons w1 hws => cases hws with
          | cons w2 hws =>
            cases hws
            cases w1.str_
            refine bnd_pair ha _ ?_
            refine s_when (b := !decide (pr.2 ∈ T4)) (et_test (ev_niT (ev_var rfl) (ev_var rfl) w2 hT4.dict)) (fun hb H5 e5 => ?_) (fun hb H5 e5 => ?_)
            · have hnm : pr.2 ∉ T4 := by simpa using hb
              have hT5 := hT4.ex e5
              have w25 := Td.ex e5 w2
              refine q_putR (ev_lenR (ev_var rfl) hT5.dict) (ev_var rfl) (ev_var rfl) w25 hT5.dict hnm (by omega) fun H6 e6 => ?_
              obtain ⟨zs, hz1, hz2⟩ := (hT5.ex e6).lst
              have hd6 := (hT5.ex e6).dict
              have t6 : ExT H6 (upd H6 d (.dT (kvsF 0 (T4 ++ [pr.2])))) := fun a xs ha => by
                rw [upd_ne (fun z => by rw [z, hd6] at ha; cases ha)]
                exact ha
              have hz7 : (upd H6 d (.dT (kvsF 0 (T4 ++ [pr.2])))) t = some (.lst zs) := by rw [upd_ne htd]; exact hz1
              have hzl : zs.length = T4.length := by rw [hz2.len, List.length_map]
              refine s_app hz7 (ev_var rfl) (ev_var rfl) (by omega) fun H8 e8 => ?_
              have t8 : ∀ u : HO, ExT H8 (upd H8 t u) := fun u => ExT.updL (e8 _ _ hz7)
              have tall : ∀ u : HO, ExT H6 (upd H8 t u) := fun u a xs ha => t8 u _ _ (e8 _ _ (t6 _ _ ha))
              refine ⟨⟨_, _, rfl⟩, fun a o h1 h2 h3 => ?_, ⟨⟨_, upd_same, ?_⟩, ?_⟩, ?_, TdAll.ext (tall _) (TdAll.ex (e5.trans e6) hx4), hpt, hpd⟩
              · rw [upd_ne h1]
                refine e8 _ _ ?_
                rw [upd_ne h2]
                exact (e5.trans e6) _ _ (hO4 a o h1 h2 h3)
              · unfold addG
                rw [if_neg hnm, List.map_append]
                exact TdAll.append (TdAll.ext (tall _) hz2) (TdAll.one (Td.ext (tall _) (Td.ex e6 w25)))
              · unfold addG
                rw [if_neg hnm, upd_ne (Ne.symm htd)]
                exact e8 _ _ upd_same
              · rw [upd_ne hpt]
                refine e8 _ _ ?_
                rw [upd_ne hpd]
                exact (e5.trans e6) _ _ hp4
            · have hm4 : pr.2 ∈ T4 := by simpa using hb
              have ea : addG T4 pr = T4 := if_pos hm4
              rw [ea]
              exact ⟨⟨_, _, rfl⟩, hO4.ex e5, hT4.ex e5, e5 _ _ hp4, TdAll.ex e5 hx4, hpt, hpd⟩
      · rintro p xs σ2 H4 ⟨⟨x1, y1, rfl⟩, hO4, hT4, hp4, hx4, hpt, hpd⟩
        have hxl : xs.length = (nextsN l E0).length := by rw [hx4.len, List.length_map]
        rw [hxl, List.take_of_length_le (Nat.le_refl _)] at hT4
        exact s_asg (v := .int ((i + 1 : Nat) : Int)) (ev_op (ev_var rfl) ev_c rv_I0) fun H5 e5 => ⟨⟨_, _, rfl⟩, hO4.ex e5, hT4.ex e5⟩
    · have hi : T.length ≤ i := by
        have := of_decide_eq_false hge
        omega
      have hTr : T = roomsT l := by
        rw [← hb]
        cases m with
        | zero => rfl
        | succ m => rw [bfsN, if_neg (by omega)]
      rw [hTr] at hTd
      exact s_ret (v := .ref t) (ev_var rfl) fun H4 e4 => q H4 ((hO.ex e3).ex e4) ((hTd.ex e3).ex e4)
end

end TY
namespace TY
open PySem PySem.Spec PyProof.Rows L2 Evl
/-! ### machine -/
def endsN (l : List Nat) : List Nat := (List.range (roomsT l).length).filter fun i => decide (l.length ∈ (roomsT l).getD i [])
def roomD (l E : List Nat) : PyData := .tuple ((linesN l E).map encLn)
def machD (l : List Nat) : PyData := .tuple [.tuple ((roomsT l).map (roomD l)), encE (endsN l)]
def spMach : Sp := fun vs H Q _ => ∃ l : List Nat, vs = [.str (S l)] ∧ l.length ≤ 50 ∧ ∀ v H', Ex H H' → Td H' v (machD l) → Q v H'
theorem sd_mach {H : Hp} {l : List Nat} (hl : l.length ≤ 50) : SpD spMach [.str (S l)] H (machD l) := fun H1 e Q q E => ⟨l, rfl, hl, q⟩
theorem encE_ints (E : List Nat) : encE E = .tuple ((E.map fun (e : Nat) => (e : Int)).map .int) := by
  unfold encE
  rw [List.map_map]
  rfl
section
variable {K : PySem.W.Frag} {σ : L2.St} {H : Hp} {td ty te tk tv tl : TE} {tA : TA} {d b : Addr} {g v : V} {E : List Nat} {Ts : List (List Nat)} {D : Ends} {es : List PyData}
theorem q_asgDisp {tz : TS} {i : Nat} (hk : EvD tk σ H (encE E)) (hv : Ev tv σ H (.int ((0 : Nat) : Int))) (k : ∀ d H1, H d = none → Ex H H1 → H1 d = some (.dT (kvsF 0 [E])) → tz D (σ.set i (some (.ref d))) H1) : tSeq (tAsg (tDispT tk tv) (gName i)) tz D σ H :=
  fun d hd => hk _ (Ex.new hd) _ fun v H2 e2 hv' => hv H2 ((Ex.new hd).trans e2) _ fun H3 e3 => by
    obtain ⟨b, rfl, hb⟩ := key_at (Td.ex e3 hv')
    exact ⟨(e2.trans e3) _ _ upd_same, b, keyE E, rfl, hb, k d _ hd (Ex.mut ((Ex.new hd).trans (e2.trans e3)) hd) upd_same⟩
theorem keys_td : ∀ {n : Nat} {Ts : List (List Nat)} {bs : List Addr}, IsKeys H (kvsF n Ts) bs → TdAll H (bs.map V.ref) (Ts.map encE)
  | _, [], bs, h => by
    cases h
    exact .nil
  | n, E :: Ts, bs, h => by
    unfold kvsF at h
    cases h with
    | cons h1 h2 =>
      refine .cons ?_ (keys_td h2)
      refine .tup h1 ?_
      have e0 : (keyE E).map kV = E.map fun (e : Nat) => V.int (e : Int) := by
        unfold keyE
        rw [List.map_map]
        rfl
      rw [e0]
      exact td_nats E
theorem en_listDT (h : Ev td σ H (.ref d)) (hd : H d = some (.dT (kvsF 0 Ts))) : EvN (tCB (fun xs H Q => ∃ d kvs, xs = [V.ref d] ∧ Rd H d (.dT kvs) ∧ ∀ p bs, H p = none → IsKeys H kvs bs → Q (.ref p) (upd H p (.lst (bs.map V.ref)))) (tCons td tNil)) σ H (Ts.map encE) := fun H1 e Q q =>
  h H1 e _ fun H2 e2 => ⟨d, _, rfl, .inl ((e.trans e2) _ _ hd), fun p bs hp hb => q p _ _ (fresh_back e2 hp) (e2.trans (Ex.new hp)) upd_same (TdAll.ex (Ex.new hp) (keys_td hb))⟩
theorem s_appD {r : Addr} {rs : List V} {dd : PyData} (hr : H r = some (.lst rs)) (ha : Ev td σ H (.ref r)) (h : EvD te σ H dd) (hz : rs.length < 100000) (k : ∀ v H1, Ex H H1 → Td H1 v dd → D.nx σ (upd H1 r (.lst (rs ++ [v])))) :
    tDrop (tBM K "list" rAppend td (tCons te tNil)) D σ H := ha H (Ex.refl H) _ fun H1 e1 =>
  ⟨Or.inl ⟨rfl, rs, sq_of (e1 _ _ hr)⟩, h H1 e1 _ fun v H2 e2 hv => ⟨r, rs, v, rfl, rfl, (e1.trans e2) _ _ hr, sz_lt hz, k v H2 (e1.trans e2) hv⟩⟩
theorem q_forC {sp : Sp} {vs : List V} {Er : XK} {tg : TG} {tu tz : TS} (h : EvA tA σ H vs) (k : ∀ H1, Ex H H1 → sp vs H1 (fun x H2 => tFor (iList K (tC x)) tg tu { D with nx := tz D } σ H2) Er) : tSeq (tFor (iList K (tCall sp [] Er tA)) tg tu) tz D σ H :=
  h H (Ex.refl H) _ fun H1 e1 => by
    show sp (vs ++ []) H1 _ Er
    rw [List.append_nil]
    exact k H1 e1
theorem ei_enumDT (h : Ev td σ H (.ref d)) {o : Obj} (hd : H d = some (.frz o (.dT (kvsF 0 Ts)))) : EvI (iEnumDT (tCons td tNil)) σ H ((Ts.zipIdx).map fun p => .tuple [.int (p.2 : Int), encE p.1]) := fun H1 e R q =>
  h H1 e _ fun H2 e2 => ⟨d, o, kvsF 0 Ts, rfl, (e.trans e2) _ _ hd, by
    have hl : ((Ts.zipIdx).map fun p => PyData.tuple [.int (p.2 : Int), encE p.1]).length = (kvsF 0 Ts).length := by rw [List.length_map, List.length_zipIdx, kvsF_len]
    refine q _ (fun H3 => H3 d = some (.frz o (.dT (kvsF 0 Ts)))) H2 e2 (fun H3 e3 => ((e.trans e2).trans e3) _ _ hd) ⟨fun i H3 hi g => ⟨g, by rw [← hl]; exact hi⟩, fun H3 g => ⟨g, by rw [hl]; exact Nat.le_refl _⟩, fun i H3 x H4 hi g y => ?_⟩
    obtain ⟨T, k, x', qq, hk, rfl, hT, hq, rfl⟩ := y
    have hi2 : i < Ts.length := by
      rw [hl, kvsF_len] at hi
      exact hi
    have key : ∀ (n : Nat) (Ts : List (List Nat)) (i : Nat), (kvsF n Ts)[i]? = Ts[i]?.map fun E => (keyE E, V.int ((n + i : Nat) : Int)) := by
      intro n Ts
      induction Ts generalizing n with
      | nil => intro i; rfl
      | cons F Ts ih =>
        intro i
        cases i with
        | zero => rfl
        | succ i =>
          show (kvsF (n + 1) Ts)[i]? = _
          rw [ih (n + 1) i, List.getElem?_cons_succ]
          congr 2
          funext E
          congr 3
          omega
    rw [key, List.getElem?_eq_getElem hi2] at hk
    cases hk
    refine ⟨Ex.new hT, .tuple [.int (i : Int), encE Ts[i]], ?_, .tup upd_same (.cons (.int _) (.cons ?_ .nil))⟩
    · rw [List.getElem?_map, List.getElem?_zipIdx, List.getElem?_eq_getElem hi2]
      simp
    · refine Td.ex (Ex.new hT) (.tup hq ?_)
      have e0 : (keyE Ts[i]).map kV = Ts[i].map fun (e : Nat) => V.int (e : Int) := by
        unfold keyE
        rw [List.map_map]
        rfl
      rw [e0]
      exact td_nats _⟩
theorem ed_tupRg {ta : TE} {n : Int} (h : Ev ta σ H (.int n)) (ok : RgOk 0 n) : EvD (tTupRg (tRg1 ta)) σ H (.tuple ((List.range (n - 0).toNat).map fun (i : Nat) => .int (0 + (i : Int)))) := fun H1 e Q q =>
  h H1 e _ fun H2 e2 => ⟨n, rfl, ok, fun p hp => q _ _ (e2.trans (Ex.new hp)) (.tup upd_same (by
    have h := TdAll.of_ints (H := upd H2 p (.tup (rgV 0 n))) ((List.range (n - 0).toNat).map fun (i : Nat) => 0 + (i : Int))
    rw [List.map_map, List.map_map] at h
    exact h))⟩
end
theorem ends_filter (l : List Nat) : ((roomsT l).zipIdx.filter fun p => decide ((l.length : Int) ∈ p.1.map fun (e : Nat) => (e : Int))).map (fun p => PyData.int (p.2 : Int)) = (endsN l).map fun (i : Nat) => .int (i : Int) := by
  have e0 : (roomsT l).zipIdx = (List.range (roomsT l).length).map fun i => ((roomsT l).getD i [], i) := by
    refine List.ext_getElem (by rw [List.length_zipIdx, List.length_map, List.length_range]) fun i h1 h2 => ?_
    rw [List.getElem_zipIdx, List.getElem_map, List.getElem_range, List.getD_eq_getElem?_getD, List.getElem?_eq_getElem (by rw [List.length_zipIdx] at h1; exact h1)]
    simp
  rw [e0, List.filter_map, List.map_map]
  unfold endsN
  have e1 : ((fun p : List Nat × Nat => decide ((l.length : Int) ∈ p.1.map fun (e : Nat) => (e : Int))) ∘ fun i => ((roomsT l).getD i [], i)) = fun i => decide (l.length ∈ (roomsT l).getD i []) := by
    funext i
    show decide ((l.length : Int) ∈ ((roomsT l).getD i []).map fun (e : Nat) => (e : Int)) = _
    rw [decide_eq_decide, List.mem_map]
    constructor
    · rintro ⟨e, he, z⟩
      have : e = l.length := by omega
      rw [← this]
      exact he
    · intro h
      exact ⟨_, h, rfl⟩
  rw [e1]
  rfl
abbrev s_machine : Stmt := topS 9
theorem sc_machine : FnScope ["text", "numbers", "todo", "rooms", "ends", "room"] ["text"] (defScope s_machine) := ⟨rfl, rfl, rfl, by decide +kernel, rfl, by decide +kernel, by decide +kernel⟩
section
variable {P : Program} {w : World} {K : PySem.W.Frag} {mg : Str → Option Value} {base : Heap}
theorem ok_machine {f : Addr} {fd : FuncData} (F : Fun K "machine" "machine" s_machine f fd) (T_ : Nm mg) (c_todo_of : Cl P w K mg base 2 "todo_of" spTodo) (c_lines_of : Cl P w K mg base 2 "lines_of" spLines) : FnOk P w K mg base CX0 3 f fd ["text"] spMach := by
  refine F.ok sc_machine (fun vs H Q E h => ?_) (fun cdv A outer s H vs Q E hr h => ?_)
  · obtain ⟨l, rfl, _⟩ := h
    rfl
  · obtain ⟨l, rfl, hl, q⟩ := h
    refine ⟨_, (pss_cons (ps_set (i := 1) sc_machine.nd rfl (.inl rfl) (pe_dispT (pe_tupRg rfl (by rfl) T_.n_tuple (prg_1 (by rfl) T_.n_range (pe_op op_add (pe_callB call_len_str (by rfl) T_.n_len PySem.boot_len (pa_cons (pv 0) pa_nil)) pe_int))) pe_int (hu_of hr)))
      (pss_cons (ps_set (i := 2) sc_machine.nd rfl (.inl rfl) (pe_callTy (call_list_dT rfl) (by rfl) T_.n_list bt_list (pa_cons (pv 1) pa_nil)))
      (pss_cons (ps_set (i := 3) sc_machine.nd rfl (.inl rfl) (pe_lst pa_nil))
      (pss_cons (ps_for PassesOwn.never rfl (pi_listK K (pe_cl c_todo_of hr (by first | decide | omega) (by rfl) (pa_cons (pv 2) (pa_cons (pv 1) (pa_cons (pv 0) pa_nil))))) (pg_name (i := 4) sc_machine.nd rfl (.inl rfl))
      (pss_one (ps_expr (pe_bm PySem.F.plainAttrs_list PySem.F.slot_list_append PySem.F.type_list_append mt_append (pv 3) (pa_cons (pe_cl c_lines_of hr (by first | decide | omega) (by rfl) (pa_cons (pv 4) (pa_cons (pv 1) (pa_cons (pv 0) pa_nil)))) pa_nil)))))
      (pss_one (ps_ret (pe_tup (pa_cons (pe_tupleOfK K (by rfl) T_.n_tuple (pv 3)) (pa_cons (pe_tupleOfK K (by rfl) T_.n_tuple (pe_lock (pe_lc (own := [("room", 5), ("ends", 4)]) (g := gTup K 2 (gCons (gName 5) (gCons (gName 4) gNil))) rfl sc_machine.nd (pi_enumDT (by rfl) T_.n_enumerate (pa_cons (pv 1) pa_nil)) (blkOk_by (N := ["text", "numbers", "todo", "rooms", "ends", "room"]) (sc := defScope s_machine) (by decide +kernel)) (fun _ _ _ _ _ => (pg_tup rfl (pgs_cons (pg_name (i := 5) sc_machine.nd rfl (Or.inl rfl)) (pgs_cons (pg_name (i := 4) sc_machine.nd rfl (Or.inl rfl)) pgs_nil)))) (fun _ _ _ _ _ => (pts_one (pt_cmpR (kO K (fun K => rIn K false) op_in_seq) (pe_callB call_len_str (by rfl) T_.n_len PySem.boot_len (pa_cons (pv 0) pa_nil)) (pv 4) rfl))) (fun _ _ _ _ _ => (pv 5))))) pa_nil))))))))), ?_⟩
    have he0 : encE (endN l []) = .tuple ((List.range (((l.length : Int) + 1) - 0).toNat).map fun (i : Nat) => .int (0 + (i : Int))) := by
      rw [endN_nil]
      unfold encE
      have e0 : (((l.length : Int) + 1) - 0).toNat = l.length + 1 := by omega
      rw [e0]
      congr 1
      exact List.map_congr_left fun i _ => by rw [Int.zero_add]
    refine q_asgDisp (E := endN l []) ?_ ev_c fun d H1 hd e1 hd1 => ?_
    · rw [he0]
      exact ed_tupRg (ev_op (ev_lenStr (ev_var rfl) (by omega)) ev_c rv_I0) (RgOk.of_le (by omega) (by omega) (by omega) (by omega))
    refine q_asgN (en_listDT (Ts := [endN l []]) (ev_var rfl) hd1) fun t ys H2 ht e2 ht2 hy2 => ?_
    have htd : t ≠ d := fun z => by
      rw [z, hd1] at ht
      cases ht
    refine q_asgN (en_lst ead_nil (by decide)) fun r rs H3 hr3 e3 hr33 hrs => ?_
    cases hrs
    have hrt : r ≠ t := fun z => by
      rw [z, ht2] at hr3
      cases hr3
    have hrd : r ≠ d := fun z => by
      rw [z, e2 _ _ hd1] at hr3
      cases hr3
    have hrooms := rooms_len l
    have hmost : mostR l < 30000 := allParts_len (by omega)
    refine q_forC (ea_cons (ev_var rfl) (ea_cons (ev_var rfl) (ea_cons (ev_var rfl) ea_nil))) fun H4 e4 => ?_
    have e34 := e3.trans e4
    refine ⟨t, d, l, rfl, htd, ⟨⟨ys, e34 _ _ ht2, TdAll.ex e34 hy2⟩, (e2.trans e34) _ _ hd1⟩, hl, fun H5 hO hT => ?_⟩
    obtain ⟨zs, hz1, hz2⟩ := hT.lst
    have hzl : zs.length = (roomsT l).length := by rw [hz2.len, List.length_map]
    have hOH : Ex H H5 := fun a o ha => hO a o (fun z => by
      rw [z, fresh_back e1 ht] at ha
      cases ha) (fun z => by
      rw [z, hd] at ha
      cases ha) (((e1.trans e2).trans e34) _ _ ha)
    have hr5 : H5 r = some (.lst []) := hO _ _ hrt hrd (e4 _ _ hr33)
    refine s_forLn (a := t) (xs := zs) ev_c (sq_of hz1) (fun i σ' H' => (∃ x, σ' = [some (.str (S l)), some (.ref d), some (.ref t), some (.ref r), x, none]) ∧ Ex H H' ∧ Todo t d (roomsT l) H' ∧ H' t = some (.lst zs) ∧ ∃ rs, H' r = some (.lst rs) ∧ TdAll H' rs (((roomsT l).take i).map (roomD l))) (fun H6 e6 => ⟨⟨_, rfl⟩, hOH.trans e6, hT.ex e6, e6 _ _ hz1, [], e6 _ _ hr5, .nil⟩) (fun i σ' H' _ q => sq_of q.2.2.2.1) ?_ ?_
    · rintro i x σ' H6 hx ⟨⟨x4, rfl⟩, hO6, hT6, hz6, rs, hr6, hrs6⟩
      obtain ⟨ws, hw1, hw2⟩ := hT6.lst
      obtain rfl : ws = zs := by
        rw [hz6] at hw1
        injection hw1 with z
        injection z with z
        exact z.symm
      obtain ⟨dt, hdt, hxd⟩ := hw2.get hx
      have hi : i < (roomsT l).length := by
        have := (List.getElem?_eq_some_iff.mp hx).1
        omega
      have hgE : (roomsT l)[i]? = some (roomsT l)[i] := List.getElem?_eq_getElem hi
      rw [List.getElem?_map, hgE] at hdt
      cases hdt
      have htk : (roomsT l).take (i + 1) = (roomsT l).take i ++ [(roomsT l)[i]] := List.take_succ_eq_append_getElem hi
      have hmem : (roomsT l)[i] ∈ roomsT l := List.getElem_mem hi
      rw [htk, List.map_append]
      generalize (roomsT l)[i] = E0 at *
      have hsh : E0.length ≤ 60 := by
        have := (rooms_good l).short hmem
        omega
      have hrl : rs.length ≤ 30000 := by
        have := hrs6.len
        rw [this, List.length_map, List.length_take]
        omega
      refine s_appD hr6 (ev_var rfl) (dd := roomD l E0) (ed_call (ea_cons (ev_var rfl) (ea_cons (ev_var rfl) (ea_cons (ev_var rfl) ea_nil))) (sd_lines hxd hT6.dict (rooms_closed hmem) hsh (by omega))) (by omega) fun v H8 e78 hv => ?_
      have hr8 := e78 _ _ hr6
      have t8 : ∀ u : HO, ExT H8 (upd H8 r u) := fun u => ExT.updL hr8
      refine ⟨⟨_, rfl⟩, Ex.mut (hO6.trans e78) (fresh_back (e1.trans e2) hr3), ?_, ?_, _, upd_same, TdAll.append (TdAll.ext (t8 _) (TdAll.ex e78 hrs6)) (TdAll.one (Td.ext (t8 _) hv))⟩
      · refine ⟨⟨ws, ?_, TdAll.ext (t8 _) (TdAll.ex e78 hw2)⟩, ?_⟩
        · rw [upd_ne (Ne.symm hrt)]
          exact e78 _ _ hz6
        · rw [upd_ne (Ne.symm hrd)]
          exact e78 _ _ hT6.dict
      · rw [upd_ne (Ne.symm hrt)]
        exact e78 _ _ hz6
    · rintro σ' H6 ⟨⟨x4, rfl⟩, hO6, hT6, hz6, rs, hr6, hrs6⟩
      rw [hzl, List.take_of_length_le (Nat.le_refl _)] at hrs6
      refine s_retD (d := machD l) (ed_tup (ead_cons (ed_tupL (ev_var rfl) hr6 hrs6) (ead_cons (ed_tupOf ?_) ead_nil)) (Nat.le_of_ble_eq_true rfl)) fun v H7 e7 => q v H7 (hO6.trans e7)
      rw [← ends_filter l]
      refine en_lock hT6.dict (by trivial) fun o => ?_
      refine en_lcA (fun p : List Nat × Nat => .tuple [.int (p.2 : Int), encE p.1]) (roomsT l).zipIdx _ _ (ei_enumDT (ev_var rfl) upd_same) (by rw [List.length_zipIdx]; omega) fun p hp x H7 e7 hx => ?_
      obtain ⟨a, ws, rfl, ha, hws⟩ := hx.tup_
      cases hws with
      | cons w1 hws => cases hws with
        | cons w2 hws =>
          cases hws
          cases w1.int_
          refine ⟨_, bnd_pair ha, rfl, et_test (ev_inTI (ev_lenStr (ev_var rfl) (by omega)) (ed_var rfl ?_)), fun _ => ed_int (ev_var rfl)⟩
          rw [encE_ints] at w2
          exact w2
end

end TY
namespace TY
open PySem PySem.Spec PyProof.Rows L2 Evl
/-! ### led -/
theorem td_two {H : Hp} {ws : List V} {d1 d2 : PyData} (h : TdAll H ws [d1, d2]) : ∃ x y, ws = [x, y] ∧ Td H x d1 ∧ Td H y d2 := by
  cases h with
  | cons h1 h => cases h with
    | cons h2 h =>
      cases h
      exact ⟨_, _, rfl, h1, h2⟩
def stepR (R : List (List (Nat × Nat))) (r c : Nat) : Option Nat := (((R.getD r []).filter fun p => decide (p.1 = c)).map Prod.snd).head?
def ledN (R : List (List (Nat × Nat))) : Nat → List Nat → Option Nat
  | r, [] => some r
  | r, c :: w => match stepR R r c with
    | none => none
    | some r' => ledN R r' w
def optV : Option Nat → V
  | none => .non
  | some r => .int (r : Int)
def roomsD (R : List (List (Nat × Nat))) : PyData := .tuple (R.map fun ln => .tuple (ln.map encLn))
structure GoodR (R : List (List (Nat × Nat))) : Prop where
  pos : 0 < R.length
  lt : ∀ ln ∈ R, ∀ p ∈ ln, p.2 < R.length
  small : ∀ ln ∈ R, ln.length ≤ 1000
  few : R.length ≤ 30000
theorem step_lt {R : List (List (Nat × Nat))} (h : GoodR R) {r c r' : Nat} (e : stepR R r c = some r') : r' < R.length := by
  unfold stepR at e
  have hm := List.mem_of_head? e
  obtain ⟨p, hp, rfl⟩ := List.mem_map.mp hm
  have hp2 := (List.mem_filter.mp hp).1
  by_cases hr : r < R.length
  · rw [List.getD_eq_getElem?_getD, List.getElem?_eq_getElem hr] at hp2
    exact h.lt _ (List.getElem_mem hr) p hp2
  · rw [List.getD_eq_getElem?_getD, List.getElem?_eq_none (by omega)] at hp2
    cases hp2
theorem led_lt {R : List (List (Nat × Nat))} (h : GoodR R) : ∀ (w : List Nat) (r r' : Nat), r < R.length → ledN R r w = some r' → r' < R.length
  | [], r, r', hr, e => by
    cases e
    exact hr
  | c :: w, r, r', hr, e => by
    unfold ledN at e
    cases hs : stepR R r c with
    | none =>
      rw [hs] at e
      cases e
    | some r2 =>
      rw [hs] at e
      exact led_lt h w r2 r' (step_lt h hs) e
/-- the lines of the machine -/
def linesR (l : List Nat) : List (List (Nat × Nat)) := (roomsT l).map (linesN l)
theorem linesR_len (l : List Nat) : (linesR l).length = (roomsT l).length := List.length_map ..
theorem linesN_mem {l E : List Nat} {p : Nat × Nat} : p ∈ linesN l E ↔ goalN l E p.1 ≠ [] ∧ p.2 = numN l (goalN l E p.1) := by
  unfold linesN
  rw [List.mem_map]
  constructor
  · rintro ⟨q, hq, rfl⟩
    obtain ⟨h1, h2⟩ := nextsN_mem.mp hq
    exact ⟨h1 ▸ h2, by show numN l q.2 = numN l (goalN l E q.1); rw [h1]⟩
  · rintro ⟨h1, h2⟩
    exact ⟨(p.1, goalN l E p.1), nextsN_mem.mpr ⟨rfl, h1⟩, by rw [← h2]⟩
theorem linesN_sorted (l E : List Nat) : (linesN l E).Pairwise fun p q => p.1 < q.1 := by
  unfold linesN nextsN
  rw [List.map_map, List.pairwise_map]
  exact lettersN_sorted l E
theorem linesN_len (l E : List Nat) : (linesN l E).length ≤ E.length := by
  unfold linesN
  rw [List.length_map]
  exact nextsN_len l E
theorem good_lines {l : List Nat} (hl : l.length ≤ 60) : GoodR (linesR l) where
  pos := by
    rw [linesR_len]
    exact rooms_pos l
  lt := fun ln hln p hp => by
    obtain ⟨E, hE, rfl⟩ := List.mem_map.mp hln
    obtain ⟨h1, h2⟩ := linesN_mem.mp hp
    rw [linesR_len, h2]
    exact num_lt (rooms_closed hE (p.1, goalN l E p.1) (nextsN_mem.mpr ⟨rfl, h1⟩))
  small := fun ln hln => by
    obtain ⟨E, hE, rfl⟩ := List.mem_map.mp hln
    have := (rooms_good l).short hE
    have := linesN_len l E
    omega
  few := by
    rw [linesR_len]
    have := rooms_len l
    have := allParts_len (l := l) (by omega)
    unfold mostR at *
    omega
theorem filter_letter {l E : List Nat} (c : Nat) : (((linesN l E).filter fun p => decide (p.1 = c)).map Prod.snd).head? = if goalN l E c ≠ [] then some (numN l (goalN l E c)) else none := by
  by_cases h : goalN l E c ≠ []
  · rw [if_pos h]
    have hm : (c, numN l (goalN l E c)) ∈ (linesN l E).filter fun p => decide (p.1 = c) := List.mem_filter.mpr ⟨linesN_mem.mpr ⟨h, rfl⟩, decide_eq_true rfl⟩
    cases hf : (linesN l E).filter fun p => decide (p.1 = c) with
    | nil =>
      rw [hf] at hm
      cases hm
    | cons q qs =>
      have hq : q ∈ (linesN l E).filter fun p => decide (p.1 = c) := by
        rw [hf]
        exact List.mem_cons_self
      obtain ⟨h1, h2⟩ := List.mem_filter.mp hq
      have h3 := (linesN_mem.mp h1).2
      rw [of_decide_eq_true h2] at h3
      rw [List.map_cons, List.head?_cons, h3]
  · rw [if_neg h]
    have : (linesN l E).filter (fun p => decide (p.1 = c)) = [] := by
      rw [List.filter_eq_nil_iff]
      intro p hp hc
      have h1 := (linesN_mem.mp hp).1
      rw [of_decide_eq_true hc] at h1
      exact h h1
    rw [this]
    rfl
theorem step_lines {l u : List Nat} {c : Nat} (hu : u <:+: l) : stepR (linesR l) (numN l (endN l u)) c = if (u ++ [c]) <:+: l then some (numN l (endN l (u ++ [c]))) else none := by
  have hE := part_room u hu
  unfold stepR linesR
  rw [List.getD_eq_getElem?_getD, List.getElem?_map, num_get hE]
  show (((linesN l (endN l u)).filter fun p => decide (p.1 = c)).map Prod.snd).head? = _
  rw [filter_letter, goal_end]
  by_cases h : (u ++ [c]) <:+: l
  · rw [if_pos h, if_pos (endN_ne.mpr h)]
  · rw [if_neg h, if_neg (fun z => h (endN_ne.mp z))]
theorem led_lines {l : List Nat} : ∀ (w u : List Nat), u <:+: l → ledN (linesR l) (numN l (endN l u)) w = if (u ++ w) <:+: l then some (numN l (endN l (u ++ w))) else none
  | [], u, hu => by
    rw [List.append_nil, if_pos hu]
    rfl
  | c :: w, u, hu => by
    unfold ledN
    rw [step_lines hu]
    have e : u ++ c :: w = (u ++ [c]) ++ w := by rw [List.append_assoc]; rfl
    by_cases h : (u ++ [c]) <:+: l
    · rw [if_pos h, e]
      exact led_lines w (u ++ [c]) h
    · rw [if_neg h, if_neg (fun z => h ?_)]
      rw [e] at z
      exact (List.prefix_append _ w).isInfix.trans z
theorem num_zero (l : List Nat) : numN l (endN l []) = 0 := num_of (rooms_zero l)
theorem led_word (l w : List Nat) : ledN (linesR l) 0 w = if w <:+: l then some (numN l (endN l w)) else none := by
  have := led_lines (l := l) w [] List.nil_infix
  rw [num_zero, List.nil_append] at this
  exact this
theorem machD_eq (l : List Nat) : machD l = .tuple [roomsD (linesR l), encE (endsN l)] := by
  unfold machD roomsD linesR
  rw [List.map_map]
  rfl
def spLed : Sp := fun vs H Q _ => ∃ (v : V) (R : List (List (Nat × Nat))) (w : List Nat), vs = [v, .str (S w)] ∧ Td H v (roomsD R) ∧ GoodR R ∧ w.length ≤ 1000 ∧ ∀ H', Ex H H' → Q (optV (ledN R 0 w)) H'
theorem sv_led {H : Hp} {v : V} {R : List (List (Nat × Nat))} {w : List Nat} (h : Td H v (roomsD R)) (hR : GoodR R) (hw : w.length ≤ 1000) : SpV spLed [v, .str (S w)] H (optV (ledN R 0 w)) := fun H1 e Q q Er => ⟨v, R, w, rfl, Td.ex e h, hR, hw, q⟩
theorem led_drop {R : List (List (Nat × Nat))} {r c : Nat} {w : List Nat} {i : Nat} (h : w[i]? = some c) : ledN R r (w.drop i) = match stepR R r c with
    | none => none
    | some r' => ledN R r' (w.drop (i + 1)) := by
  obtain ⟨hi, e⟩ := List.getElem?_eq_some_iff.mp h
  rw [List.drop_eq_getElem_cons hi, e]
  rfl

end TY
namespace TY
open PySem PySem.Spec PyProof.Rows L2 Evl
/-! ### where -/
def rngV (n : Nat) : List Int := (List.range n).map fun (i : Nat) => (i : Int)
theorem rngV_mem {n : Nat} {x : Int} (h : x ∈ rngV n) : 0 ≤ x ∧ x < n := by
  obtain ⟨i, hi, rfl⟩ := List.mem_map.mp h
  have := List.mem_range.mp hi
  omega
theorem rngV_len (n : Nat) : (rngV n).length = n := by simp [rngV]
theorem ei_rngV {σ : L2.St} {H : Hp} {tA : TA} {n : Nat} (h : EvA tA σ H [.int (n : Int)]) (hn : n ≤ 40000) : EvI (iRng1 tA) σ H ((rngV n).map .int) := by
  have q := ei_rng1 h hn
  unfold rngV
  rw [List.map_map]
  exact q
def whereV (t p : List Nat) : List Int := (rngV (t.length + 1)).filter fun s => decide ((t.drop s.toNat).take p.length = p)
theorem whereV_len (t p : List Nat) : (whereV t p).length ≤ t.length + 1 := by
  have h1 := List.length_filter_le (fun s : Int => decide ((t.drop s.toNat).take p.length = p)) (rngV (t.length + 1))
  rw [rngV_len] at h1
  exact h1
def spWhere : Sp := fun vs H Q _ => ∃ t p : List Nat, vs = [.str (S t), .str (S p)] ∧ t.length ≤ 100 ∧ p.length ≤ 1000 ∧ ∀ v H', Ex H H' → Td H' v (.tuple ((whereV t p).map .int)) → Q v H'
theorem sd_where {H : Hp} {t p : List Nat} (ht : t.length ≤ 100) (hp : p.length ≤ 1000) : SpD spWhere [.str (S t), .str (S p)] H (.tuple ((whereV t p).map .int)) := fun H1 e Q q E => ⟨t, p, rfl, ht, hp, q⟩

end TY
namespace TY
open PySem PySem.Spec PyProof.Rows L2 Evl
/-! ### the form of a machine -/
section
variable {K : PySem.W.Frag} {σ : L2.St} {H : Hp} {ta tb : TE} {x : V}
theorem ev_isN' (h : Ev ta σ H x) : Ev (tOp (fun x y H Q => y = .non ∧ Q (.bl (decide (x = .non))) H) ta (tC .non)) σ H (.bl (decide (x = .non))) := fun H1 e Q q =>
  h H1 e _ fun H2 e2 => ⟨rfl, q H2 e2⟩
theorem ev_notN' (h : Ev ta σ H x) : Ev (tOp (fun x y H Q => y = .non ∧ Q (.bl (!decide (x = .non))) H) ta (tC .non)) σ H (.bl (!decide (x = .non))) := fun H1 e Q q =>
  h H1 e _ fun H2 e2 => ⟨rfl, q H2 e2⟩
theorem rv_geS {a b : List Nat} : RV (fun x y H Q => ∃ i j, x = .str i ∧ y = .str j ∧ Q (.bl (!decide (i.cps.toList < j.cps.toList))) H) (.str (S a)) (.str (S b)) H (.bl (!decide (a < b))) := fun H1 e Q q => ⟨S a, S b, rfl, rfl, q H1 (Ex.refl _)⟩
theorem ev_chain' {r r' : R2} {tc : TE} {y z : V} {a b : Bool} (h1 : Ev ta σ H x) (h2 : Ev tb σ H y) (q1 : RV r x y H (.bl a)) (h3 : a = true → Ev tc σ H z) (q2 : a = true → RV r' y z H (.bl b)) : Ev (tChain r r' ta tb tc) σ H (.bl (a && b)) := fun H1 e Q q =>
  h1 H1 e _ fun H2 e2 => h2 H2 (e.trans e2) _ fun H3 e3 => q1 H3 ((e.trans e2).trans e3) _ fun H4 e4 => by
    have e14 := (e2.trans e3).trans e4
    refine ⟨a, rfl, ?_⟩
    cases a with
    | false => exact q H4 e14
    | true => exact h3 rfl H4 (e.trans e14) _ fun H5 e5 => q2 rfl H5 ((e.trans e14).trans e5) Q fun H6 e6 => q H6 ((e14.trans e5).trans e6)
end
structure FormR (R : List (List (Nat × Nat))) (es : List Nat) : Prop where
  good : GoodR R
  sorted : ∀ ln ∈ R, ln.Pairwise fun p q => p.1 < q.1
  ends : es = (List.range R.length).filter fun i => decide (i ∈ es)
  low : ∀ ln ∈ R, ∀ p ∈ ln, p.1 < 0x110000
theorem form_mach {l : List Nat} (hl : l.length ≤ 60) (hc : ∀ c ∈ l, c < 0x110000) : FormR (linesR l) (endsN l) where
  good := good_lines hl
  sorted := fun ln hln => by
    obtain ⟨E, _, rfl⟩ := List.mem_map.mp hln
    exact linesN_sorted l E
  low := fun ln hln p hp => by
    obtain ⟨E, _, rfl⟩ := List.mem_map.mp hln
    obtain ⟨e, _, he⟩ := lettersN_mem.mp (goalN_ne.mp (linesN_mem.mp hp).1)
    exact hc _ (List.mem_of_getElem? he)
  ends := by
    rw [linesR_len]
    conv => lhs; unfold endsN
    refine List.filter_congr fun i hi => ?_
    rw [decide_eq_decide]
    unfold endsN
    rw [List.mem_filter]
    exact ⟨fun h => ⟨hi, decide_eq_true h⟩, fun h => of_decide_eq_true h.2⟩
def spWhole : Sp := fun vs H Q _ => ∃ i : Int, vs = [.int i] ∧ ∀ H', Ex H H' → Q (.bl true) H'
theorem sv_whole {H : Hp} {i : Int} : SpV spWhole [.int i] H (.bl true) := fun H1 e Q q E => ⟨i, rfl, q⟩
def spRoom : Sp := fun vs H Q _ => ∃ (v : V) (ln : List (Nat × Nat)) (n : Nat), vs = [v, .int (n : Int)] ∧ Td H v (.tuple (ln.map encLn)) ∧ ln.length ≤ 1000 ∧ (∀ p ∈ ln, p.2 < n) ∧ ln.Pairwise (fun p q => p.1 < q.1) ∧ ∀ H', Ex H H' → Q (.bl true) H'
theorem sv_room {H : Hp} {v : V} {ln : List (Nat × Nat)} {n : Nat} (h : Td H v (.tuple (ln.map encLn))) (hz : ln.length ≤ 1000) (hl : ∀ p ∈ ln, p.2 < n) (hs : ln.Pairwise fun p q => p.1 < q.1) : SpV spRoom [v, .int (n : Int)] H (.bl true) := fun H1 e Q q E => ⟨v, ln, n, rfl, Td.ex e h, hz, hl, hs, q⟩
def spForm : Sp := fun vs H Q _ => ∃ (v : V) (R : List (List (Nat × Nat))) (es : List Nat), vs = [v] ∧ Td H v (.tuple [roomsD R, encE es]) ∧ FormR R es ∧ ∀ H', Ex H H' → Q (.bl true) H'
theorem sv_form {H : Hp} {v : V} {R : List (List (Nat × Nat))} {es : List Nat} (h : Td H v (.tuple [roomsD R, encE es])) (hF : FormR R es) : SpV spForm [v] H (.bl true) := fun H1 e Q q E => ⟨v, R, es, rfl, Td.ex e h, hF, q⟩
theorem tyx_tup {K : PySem.W.Frag} {H : Hp} {v : V} {ds : List PyData} (h : Td H v (.tuple ds)) : ∀ H', Ex H H' → TyX K H' v (.type "tuple") := fun H' e => by
  obtain ⟨a, xs, rfl, h1, _⟩ := (Td.ex e h).tup_
  exact .base (.tup h1)
theorem can_all : ∀ {xs : List PyData}, (∀ x ∈ xs, x.canLay0 = true) → PyData.canLayAll0 xs = true
  | [], _ => by simp [PyData.canLayAll0]
  | x :: xs, h => by
    rw [PyData.canLayAll0, h x List.mem_cons_self, can_all fun y hy => h y (List.mem_cons_of_mem _ hy)]
    rfl
theorem dep_all {k : Nat} : ∀ {xs : List PyData}, (∀ x ∈ xs, x.depth ≤ k) → PyData.depthAll xs ≤ k
  | [], _ => by simp [PyData.depthAll]
  | x :: xs, h => by
    have h1 := h x List.mem_cons_self
    have h2 := dep_all (k := k) fun y hy => h y (List.mem_cons_of_mem _ hy)
    rw [PyData.depthAll]
    omega
theorem can_sign {c : Nat} (h : c < 0x110000) : (PyData.str (S [c])).canLay0 = true := by
  rw [PyData.canLay0]
  unfold PyData.strOk
  show [c].toArray.all (· < 0x110000) = true
  simp only [List.all_toArray, List.all_eq_true, decide_eq_true_eq]
  intro x hx
  rw [List.mem_singleton] at hx
  rw [hx]
  exact h
theorem ok_line {p : Nat × Nat} (h : p.1 < 0x110000) : (encLn p).canLay0 = true ∧ (encLn p).depth ≤ 1 := by
  unfold encLn
  refine ⟨?_, by simp [PyData.depth, PyData.depthAll]⟩
  rw [PyData.canLay0]
  refine can_all fun x hx => ?_
  simp only [List.mem_cons, List.not_mem_nil, or_false] at hx
  rcases hx with rfl | rfl
  · exact can_sign h
  · rw [PyData.canLay0]
theorem ok_rooms {R : List (List (Nat × Nat))} (h : ∀ ln ∈ R, ∀ p ∈ ln, p.1 < 0x110000) : (roomsD R).canLay0 = true ∧ (roomsD R).depth ≤ 3 := by
  have hr : ∀ ln ∈ R, (PyData.tuple (ln.map encLn)).canLay0 = true ∧ (PyData.tuple (ln.map encLn)).depth ≤ 2 := fun ln hln => by
    refine ⟨?_, ?_⟩
    · rw [PyData.canLay0]
      refine can_all fun x hx => ?_
      obtain ⟨p, hp, rfl⟩ := List.mem_map.mp hx
      exact (ok_line (h ln hln p hp)).1
    · have : PyData.depthAll (ln.map encLn) ≤ 1 := dep_all fun x hx => by
        obtain ⟨p, hp, rfl⟩ := List.mem_map.mp hx
        exact (ok_line (h ln hln p hp)).2
      rw [PyData.depth]
      omega
  unfold roomsD
  refine ⟨?_, ?_⟩
  · rw [PyData.canLay0]
    refine can_all fun x hx => ?_
    obtain ⟨ln, hln, rfl⟩ := List.mem_map.mp hx
    exact (hr ln hln).1
  · have : PyData.depthAll (R.map fun ln => .tuple (ln.map encLn)) ≤ 2 := dep_all fun x hx => by
      obtain ⟨ln, hln, rfl⟩ := List.mem_map.mp hx
      exact (hr ln hln).2
    rw [PyData.depth]
    omega
theorem shaped_of {d : PyData} (h1 : d.canLay0 = true) (h2 : d.depth ≤ 64) : SeqAt.shaped d = true := by
  unfold SeqAt.shaped
  rw [h1, decide_eq_true h2]
  rfl
theorem shaped_rooms {R : List (List (Nat × Nat))} (h : ∀ ln ∈ R, ∀ p ∈ ln, p.1 < 0x110000) : SeqAt.shaped (roomsD R) = true := shaped_of (ok_rooms h).1 (Nat.le_trans (ok_rooms h).2 (by decide))
theorem filter_none {α : Type} (xs : List α) : (xs.filter fun _ => false) = [] := List.filter_eq_nil_iff.mpr fun _ _ h => by cases h
theorem shaped_t0 : SeqAt.shaped (.tuple []) = true := shaped_ints []

end TY
namespace TY
open PySem PySem.Spec PyProof.Rows L2 Evl
/-! ### the machine, by the law -/
abbrev s__law_nexts : Stmt := topS 23
theorem sc__law_nexts : FnScope ["_law_ends", "_law_text_here", "_law_found", "_law_place", "_law_letter"] ["_law_ends", "_law_text_here"] (defScope s__law_nexts) := ⟨rfl, rfl, rfl, by decide +kernel, rfl, by decide +kernel, by decide +kernel⟩
abbrev s__law_machine : Stmt := topS 24
theorem sc__law_machine : FnScope ["_law_text_here", "_law_todo", "_law_rooms", "_law_at", "_law_lines", "_law_letter", "_law_goal", "_law_room"] ["_law_text_here"] (defScope s__law_machine) := ⟨rfl, rfl, rfl, by decide +kernel, rfl, by decide +kernel, by decide +kernel⟩
theorem hu65m {A : Around} {k : Nat} (hr : Room k A) : A.units + 65 < cLine := by
  have := hr.un
  omega
theorem bkV_any (av : Nat → V) (c : Nat) : ∀ ks : List Nat, (ks.map fun c => ((Sum.inr (S [c]) : Key), av c)).any (fun kv => decide (kv.1 = Sum.inr (S [c]))) = decide (c ∈ ks)
  | [] => by simp
  | k :: ks => by
    rw [List.map_cons, List.any_cons, bkV_any av c ks]
    by_cases h : k = c
    · subst h
      simp
    · have h2 : ¬ ((Sum.inr (S [k]) : Key) = Sum.inr (S [c])) := fun z => h (S1_inj (Sum.inr.inj z))
      have h3 : ¬ c = k := fun z => h z.symm
      simp [h2, h3]
theorem bkV_val (av : Nat → V) (c : Nat) : ∀ ks : List Nat, valV (ks.map fun c => ((Sum.inr (S [c]) : Key), av c)) (Sum.inr (S [c])) = if c ∈ ks then some (av c) else none
  | [] => by simp [valV]
  | k :: ks => by
    rw [List.map_cons]
    by_cases h : k = c
    · subst h
      rw [valV_pos rfl, if_pos List.mem_cons_self]
    · rw [valV_neg (fun z => h (S1_inj (Sum.inr.inj z))), bkV_val av c ks]
      have h3 : ¬ c = k := fun z => h z.symm
      by_cases hm : c ∈ ks
      · rw [if_pos hm, if_pos (List.mem_cons_of_mem _ hm)]
      · rw [if_neg hm, if_neg (by rw [List.mem_cons, not_or]; exact ⟨h3, hm⟩)]
theorem bkV_put {av : Nat → V} {c : Nat} {v : V} {ks : List Nat} : putK (ks.map fun c => ((Sum.inr (S [c]) : Key), av c)) (Sum.inr (S [c])) v = (if c ∈ ks then ks else ks ++ [c]).map fun k => ((Sum.inr (S [k]) : Key), if k = c then v else av k) := by
  unfold putK
  rw [bkV_any]
  by_cases h : c ∈ ks
  · rw [if_pos (decide_eq_true h), if_pos h, List.map_map]
    refine List.map_congr_left fun k _ => ?_
    show (if (Sum.inr (S [k]) : Key) = Sum.inr (S [c]) then ((Sum.inr (S [k]) : Key), v) else ((Sum.inr (S [k]) : Key), av k)) = _
    by_cases e : k = c
    · rw [if_pos (by rw [e]), if_pos e]
    · rw [if_neg (fun z => e (S1_inj (Sum.inr.inj z))), if_neg e]
  · rw [if_neg (by simpa using h), if_neg h, List.map_append]
    congr 1
    · refine List.map_congr_left fun k hk => ?_
      rw [if_neg (fun z => h (by rw [← show k = c from z]; exact hk))]
    · simp
theorem idx_first {g : List Nat} : ∀ (T : List (List Nat)) (m : Nat), m < T.idxOf g → T[m]? ≠ some g
  | [], m, h => by simp
  | F :: T, m, h => by
    rw [List.idxOf_cons] at h
    by_cases e : F = g
    · rw [show (F == g) = true by simpa using e] at h
      exact absurd h (Nat.not_lt_zero _)
    · rw [show (F == g) = false by simpa using e] at h
      have h : m < T.idxOf g + 1 := h
      cases m with
      | zero =>
        rw [List.getElem?_cons_zero]
        exact fun z => e (Option.some.inj z)
      | succ m =>
        rw [List.getElem?_cons_succ]
        exact idx_first T m (by omega)
theorem any_enc (g : List Nat) : ∀ T : List (List Nat), (T.map encE).any (fun z => PyData.eqv z (encE g)) = decide (g ∈ T)
  | [] => by simp
  | F :: T => by
    have e0 : PyData.eqv (encE F) (encE g) = decide (F = g) := by
      rw [encE_ints, encE_ints, eqv_tints]
      rw [decide_eq_decide]
      constructor
      · intro z
        exact (List.map_inj_right fun a b h => by omega).mp z
      · intro z
        rw [z]
    rw [List.map_cons, List.any_cons, e0, any_enc g T]
    by_cases h : F = g
    · simp [h]
    · have : ¬ g = F := fun z => h z.symm
      simp [h, this]
theorem shaped_E (E : List Nat) : SeqAt.shaped (encE E) = true := by
  rw [encE_ints]
  exact shaped_ints _
theorem canL_E (T : List (List Nat)) : (PyData.list (T.map encE)).canLay0 = true ∧ (PyData.list (T.map encE)).depth ≤ 2 := by
  refine ⟨?_, ?_⟩
  · rw [PyData.canLay0]
    refine can_all fun x hx => ?_
    obtain ⟨E, _, rfl⟩ := List.mem_map.mp hx
    exact SeqAt.canLay_of_shaped (shaped_E E)
  · have : PyData.depthAll (T.map encE) ≤ 1 := dep_all fun x hx => by
      obtain ⟨E, _, rfl⟩ := List.mem_map.mp hx
      rw [encE_ints, PyData.depth, dep_ints]
      exact Nat.le_refl _
    rw [PyData.depth]
    omega
theorem shaped_EL (T : List (List Nat)) : SeqAt.shaped (.list (T.map encE)) = true := shaped_of (canL_E T).1 (Nat.le_trans (canL_E T).2 (by decide))
section
variable {K : PySem.W.Frag} {σ : L2.St} {H : Hp} {td ty tv tx ta tb : TE} {d p : Addr} {kvs : List (Key × V)} {k : Key} {D : Ends} {dd : PyData} {xs : List V} {ds : List PyData}
theorem s_putD (h1 : EvD tv σ H dd) (h2 : Ev td σ H (.ref d)) (h3 : Ev ty σ H (kV k)) (hd : H d = some (.dK kvs)) (hz : kvs.length < 100000) (kk : ∀ v H1, Ex H H1 → Td H1 v dd → D.nx σ (upd H1 d (.dK (putK kvs k v)))) : sDPut td ty tv D σ H :=
  h1 H (Ex.refl H) _ fun v H2 e2 hv => h2 H2 e2 _ fun H3 e3 => h3 H3 (e2.trans e3) _ fun H4 e4 => ⟨d, _, rfl, DPut.k (((e2.trans e3).trans e4) _ _ hd) (sz_lt hz), kk v H4 ((e2.trans e3).trans e4) (Td.ex (e3.trans e4) hv)⟩
theorem ed_dget2 {d0 : PyData} (h1 : Ev td σ H (.ref d)) (h2 : Ev ty σ H (kV k)) (h3 : EvD tx σ H d0) (hd : H d = some (.dK kvs)) (hk : ∀ v, valV kvs k = some v → Td H v dd) (hn : valV kvs k = none → d0 = dd) : EvD (tDGet2 td ty tx) σ H dd := fun H1 e Q q =>
  h1 H1 e _ fun H2 e2 => ⟨d, rfl, .inl ⟨_, .inl ((e.trans e2) _ _ hd)⟩, h2 H2 (e.trans e2) _ fun H3 e3 => h3 H3 ((e.trans e2).trans e3) _ fun z H4 e4 hz => ⟨_, DGet.k (((e.trans e2).trans (e3.trans e4)) _ _ hd), by
    cases hq : valV kvs k with
    | none => exact q z H4 ((e2.trans e3).trans e4) (hn hq ▸ hz)
    | some v => exact q v H4 ((e2.trans e3).trans e4) (Td.ex ((e.trans e2).trans (e3.trans e4)) (hk v hq))⟩⟩
theorem ed_dget {x : V} (h1 : Ev td σ H (.ref d)) (h2 : Ev ty σ H (kV k)) (hd : H d = some (.dK kvs)) (hk : valV kvs k = some x) (hx : Td H x dd) : EvD (tDGet td ty) σ H dd := fun H1 e Q q => ev_dget h1 h2 hd hk H1 e Q fun H2 e2 => q x H2 e2 (Td.ex (e.trans e2) hx)
/-- an item of a list that stands -/
theorem ed_ixLs {j : Nat} (h : Ev ta σ H (.ref p)) (hp : H p = some (.lst xs)) (hx : TdAll H xs ds) (hi : Ev tb σ H (.int (j : Int))) (hj : ds[j]? = some dd) : EvD (tOp (rIxL K) ta tb) σ H dd := fun H1 e Q q =>
  h H1 e _ fun H2 e2 => hi H2 (e.trans e2) _ fun H3 e3 => by
    obtain ⟨x, h1, h2⟩ := hx.get' hj
    have e13 := (e.trans e2).trans e3
    exact ⟨p, xs, (j : Int), x, rfl, rfl, sq_of (e13 _ _ hp), atI_nat h1, q x H3 (e2.trans e3) (Td.ex e13 h2)⟩
theorem ev_niDD {g : List Nat} {T : List (List Nat)} (h : EvQ K ta σ H (encE g)) (h2 : EvQ K tb σ H (.list (T.map encE))) : Ev (tOp (rNotInD K) ta tb) σ H (.bl (!decide (g ∈ T))) := fun H1 e Q q =>
  h H1 e _ fun v H2 e2 hv => h2 H2 (e.trans e2) _ fun u H3 e3 hu => ⟨_, _, Dp.ext e3 hv, hu, shaped_E g, shaped_EL T, by
    rw [any_enc]
    exact q H3 (e2.trans e3)⟩
theorem ev_index {g : List Nat} {T : List (List Nat)} (h : Ev ta σ H (.ref p)) (hp : H p = some (.lst xs)) (hx : TdAll H xs (T.map encE)) (h2 : EvD tb σ H (encE g)) (hg : g ∈ T) : Ev (tBM K "list" (rIndexD K) ta (tCons tb tNil)) σ H (.int (T.idxOf g : Int)) := fun H1 e Q q =>
  h H1 e _ fun H2 e2 => ⟨Or.inl ⟨rfl, xs, sq_of ((e.trans e2) _ _ hp)⟩, h2 H2 (e.trans e2) _ fun v H3 e3 hv => by
    have e13 := (e.trans e2).trans e3
    have hlt := List.idxOf_lt_length_of_mem hg
    have hat : T[T.idxOf g]? = some g := by
      rw [List.getElem?_eq_getElem hlt]
      exact congrArg some (List.getElem_idxOf hlt)
    have eqv_E : ∀ F : List Nat, PyData.eqv (encE F) (encE g) = decide (F = g) := fun F => by
      rw [encE_ints, encE_ints, eqv_tints, decide_eq_decide]
      constructor
      · intro z
        exact (List.map_inj_right fun a b h => by omega).mp z
      · intro z
        rw [z]
    refine ⟨p, v, encE g, T.map encE, T.idxOf g, encE g, rfl, rfl, .lst (sq_of (e13 _ _ hp)) (TdAll.ex e13 hx).dp, hv.dp, shaped_EL T, shaped_E g, by rw [List.getElem?_map, hat]; rfl, by rw [eqv_E, decide_eq_true rfl], fun m z' hm hz' => ?_, q H3 (e2.trans e3)⟩
    rw [List.getElem?_map] at hz'
    obtain ⟨F, hF, rfl⟩ := Option.map_eq_some_iff.mp hz'
    rw [eqv_E, decide_eq_false_iff_not]
    intro hFg
    rw [hFg] at hF
    exact idx_first T m hm hF⟩
end

theorem idx_pre {T T' : List (List Nat)} {g : List Nat} (h : T <+: T') (hg : g ∈ T) : T.idxOf g = T'.idxOf g := by
  obtain ⟨u, rfl⟩ := h
  rw [List.idxOf_append, if_pos hg]
theorem goal_none {l E : List Nat} {c : Nat} (h : c ∉ keysN l E) : goalN l E c = [] := Classical.byContradiction fun z => h ((lettersN_perm l E).mem_iff.mp (goalN_ne.mp z))
section
variable {P : Program} {w : World} {K : PySem.W.Frag} {mg : Str → Option Value} {base : Heap}
theorem ok__law_nexts {f : Addr} {fd : FuncData} (F : Fun K "_law_nexts" "_law_nexts" s__law_nexts f fd) (T_ : Nm mg) : FnOk P w K mg base CX0 1 f fd ["_law_ends", "_law_text_here"] spNexts := by
  refine F.ok sc__law_nexts (fun vs H Q E h => ?_) (fun cdv A outer s H vs Q E hr h => ?_)
  · obtain ⟨v, E, l, rfl, _⟩ := h
    rfl
  · obtain ⟨v, E, l, rfl, hv, hE, hl, q⟩ := h
    refine ⟨_, (pss_cons (ps_set (i := 2) sc__law_nexts.nd rfl (.inr rfl) pe_dnewK)
      (pss_cons (ps_for PassesOwn.never rfl (pi_tupK K (pv 0)) (pg_name (i := 3) sc__law_nexts.nd rfl (.inl rfl))
      (pss_one (ps_if (pt_cmpR op_lt (pv 3) (pe_callB call_len_str (by rfl) T_.n_len PySem.boot_len (pa_cons (pv 1) pa_nil)) (nomark _))
      (pss_one (ps_dput (hu_of hr) (pv 2) (pe_ix ix_str (pv 1) (pv 3) (fun _ _ => rfl)) (pe_op (kO K rCatA op_catA) (pe_dget2 (hu_of hr) (pv 2) (pe_ix ix_str (pv 1) (pv 3) (fun _ _ => rfl)) (pe_tup pa_nil) ⟨rfl, rfl, rfl, rfl⟩) (pe_tup (pa_cons (pe_op op_add (pv 3) pe_int) pa_nil))) rfl))
      pss_nil)))
      (pss_one (ps_ret (pe_lc (own := [("_law_letter", 4)]) (g := gName 4) (tt := tYes) rfl sc__law_nexts.nd (pi_listK K (pe_callB (call_sortedD rfl) (by rfl) T_.n_sorted bt_sorted (pa_cons (pv 2) pa_nil))) (blkOk_by (N := ["_law_ends", "_law_text_here", "_law_found", "_law_place", "_law_letter"]) (sc := defScope s__law_nexts) (by decide +kernel)) (fun _ _ _ _ _ => (pg_name (i := 4) sc__law_nexts.nd rfl (Or.inl rfl))) (fun _ _ _ _ _ => pts_nil) (fun _ _ _ _ _ => (pe_tup (pa_cons (pv 4) (pa_cons (pe_dget (hu_of hr) (pv 2) (pv 4) (fun _ _ => rfl)) pa_nil))))))))), ?_⟩
    refine show tSeq (tAsg tDNewK (gName 2)) _ _ _ H from fun d hd => ?_
    have e0 : Ex H (upd H d (.dK [])) := Ex.new hd
    have hv0 := Td.ex e0 hv
    refine q_forIT (es := E.map fun (e : Nat) => .int (e : Int)) (eit_tup (ed_var rfl hv0)) (fun H1 i σ' H' => (∃ y, σ' = [some v, some (.str (S l)), some (.ref d), y, none]) ∧ ExT H1 H' ∧ Td H' v (encE E) ∧ Ex H H' ∧ ∃ av : Nat → V, H' d = some (.dK ((keysN l (E.take i)).map fun c => ((Sum.inr (S [c]) : Key), av c))) ∧ ∀ c ∈ keysN l (E.take i), Td H' (av c) (encE (goalN l (E.take i) c)))
      (fun H1 e1 => ⟨⟨none, rfl⟩, ExT.of (Ex.refl _), Td.ex e1 hv0, e0.trans e1, fun _ => .non, e1 _ _ upd_same, fun c hc => (by cases hc)⟩) (fun H1 i σ' H' p => p.2.1) ?_ ?_
    · rintro H1 i dt x σ' H2 H3 e1 hi ⟨⟨y, rfl⟩, t2, hv2, o2, av, hd2, ha2⟩ e3 hx
      have hiE : i < E.length := by
        have := (List.getElem?_eq_some_iff.mp hi).1
        rwa [List.length_map] at this
      have hge : E[i]? = some E[i] := List.getElem?_eq_getElem hiE
      rw [List.getElem?_map, hge] at hi
      cases hi
      cases hx.int_
      have htk : E.take (i + 1) = E.take i ++ [E[i]] := List.take_succ_eq_append_getElem hiE
      have hlE : (E.take i).length ≤ 60 := by
        rw [List.length_take]
        omega
      generalize E[i] = e at *
      generalize E.take i = E' at *
      rw [htk]
      refine s_when (b := decide ((e : Int) < (l.length : Int))) (et_test (ev_op (ev_var rfl) (ev_lenStr (ev_var rfl) (by omega)) rv_I0)) (fun hb H4 e4 => ?_) (fun hb H4 e4 => ?_)
      · have hlt : e < l.length := by
          have := of_decide_eq_true hb
          omega
        have hle : l[e]? = some l[e] := List.getElem?_eq_getElem hlt
        generalize l[e] = c at hle
        have e34 := e3.trans e4
        have hd4 := e34 _ _ hd2
        have hkn : (keysN l E').length ≤ 60 := Nat.le_trans (keysN_len l E') hlE
        have hgl := goalN_len l E' c
        have ixS : Ev (tOp rIxS (tVar 1) (tVar 3)) [some v, some (.str (S l)), some (.ref d), some (.int (e : Int)), none] H4 (kV (Sum.inr (S [c]))) := ev_ixS (c := c) (ev_var rfl) (ev_var rfl) (by omega) hle
        have hval : EvD (tOp (rCatA K) (tDGet2 (tVar 2) (tOp rIxS (tVar 1) (tVar 3)) (tTup tNil)) (tTup (tCons (tOp (rI0 fun i j => V.int (i + j)) (tVar 3) (tC (.int 1))) tNil))) [some v, some (.str (S l)), some (.ref d), some (.int (e : Int)), none] H4 (encE (goalN l (E' ++ [e]) c)) := by
          have hgs : encE (goalN l (E' ++ [e]) c) = .tuple (((goalN l E' c).map fun (e : Nat) => PyData.int (e : Int)) ++ [.int ((e + 1 : Nat) : Int)]) := by
            rw [goalN_snoc, if_pos hle]
            unfold encE
            rw [List.map_append]
            rfl
          rw [hgs]
          refine ed_catA (ed_dget2 (dd := encE (goalN l E' c)) (ev_var rfl) ixS (ed_tup ead_nil (Nat.le_of_ble_eq_true rfl)) hd4 (fun x hx => ?_) fun hx => ?_) (ed_tup (ead_cons (ed_int (ev_is (ev_op (ev_var rfl) ev_c rv_I0) rfl)) ead_nil) (Nat.le_of_ble_eq_true rfl)) (by rw [List.length_map]; simp only [List.length_singleton]; omega)
          · rw [bkV_val] at hx
            split at hx
            · cases hx
              exact Td.ex e34 (ha2 c (by assumption))
            · cases hx
          · rw [bkV_val] at hx
            split at hx
            · cases hx
            · rw [goal_none (by assumption)]
              rfl
        refine s_putD hval (ev_var rfl) ixS hd4 (by rw [List.length_map]; omega) fun u H5 e5 hu => ?_
        have hd5 := e5 _ _ hd4
        have t5 : ∀ z : HO, ExT H5 (upd H5 d z) := fun z a xs ha => by
          rw [upd_ne (fun y => by rw [y, hd5] at ha; cases ha)]
          exact ha
        rw [bkV_put]
        have hks : (if c ∈ keysN l E' then keysN l E' else keysN l E' ++ [c]) = keysN l (E' ++ [e]) := by
          rw [keysN_snoc]
          unfold addK
          rw [hle]
        rw [hks]
        refine ⟨⟨_, rfl⟩, fun a xs ha => t5 _ _ _ (e5 _ _ (e34 _ _ (t2 _ _ ha))), Td.ext (t5 _) (Td.ex (e34.trans e5) hv2), Ex.mut ((o2.trans e34).trans e5) hd, fun k => if k = c then u else av k, upd_same, fun k hk => ?_⟩
        by_cases hkc : k = c
        · subst hkc
          refine show Td _ (if k = k then u else av k) _ from ?_
          rw [if_pos rfl]
          exact Td.ext (t5 _) hu
        · refine show Td _ (if k = c then u else av k) _ from ?_
          rw [if_neg hkc, goalN_snoc, if_neg (fun z => hkc (by rw [hle] at z; exact (Option.some.inj z).symm)), List.append_nil]
          have hk2 : k ∈ keysN l E' := by
            rw [← hks] at hk
            split at hk
            · exact hk
            · rcases List.mem_append.mp hk with z | z
              · exact z
              · exact absurd (List.mem_singleton.mp z) hkc
          exact Td.ext (t5 _) (Td.ex (e34.trans e5) (ha2 k hk2))
      · have hge2 : l[e]? = none := by
          have := of_decide_eq_false hb
          exact List.getElem?_eq_none (by omega)
        have hk : keysN l (E' ++ [e]) = keysN l E' := by
          rw [keysN_snoc]
          unfold addK
          rw [hge2]
        have hg : ∀ c, goalN l (E' ++ [e]) c = goalN l E' c := fun c => by
          rw [goalN_snoc, hge2, if_neg (by simp), List.append_nil]
        have e34 := e3.trans e4
        refine ⟨⟨_, rfl⟩, fun a xs ha => e34 _ _ (t2 _ _ ha), Td.ex e34 hv2, o2.trans e34, av, by rw [hk]; exact e34 _ _ hd2, fun k hk' => ?_⟩
        rw [hk] at hk'
        rw [hg]
        exact Td.ex e34 (ha2 k hk')
    · rintro H1 σ' H2 e1 ⟨⟨y, rfl⟩, t2, hv2, o2, av, hd2, ha2⟩
      rw [List.length_map, List.take_of_length_le (Nat.le_refl _)] at hd2 ha2
      have hkn := keysN_len l E
      refine s_retN (ds := (nextsN l E).map encX) ?_ fun p xs H3 hp e3 h3 hx => q p xs H3 (fresh_back o2 hp) (o2.trans e3) h3 hx
      have hll : (lettersN l E).length = (keysN l E).length := (lettersN_perm l E).length_eq
      have es : (nextsN l E).map encX = (((lettersN l E).map fun c => [c]).filter fun _ => true).map fun u => encX (u.headD 0, goalN l E (u.headD 0)) := by
        unfold nextsN
        rw [List.filter_eq_self.mpr (fun _ _ => rfl), List.map_map, List.map_map]
        rfl
      rw [es]
      refine en_lcS ((lettersN l E).map fun c => [c]) (fun _ => true) _ (ei_new ?_) (by rw [List.length_map]; omega) fun u hu H3 e3 => ⟨et_yes, fun _ => ?_⟩
      · intro H3 e3 Q' q'
        refine ev_var (i := 2) rfl H3 e3 _ fun H4 e4 => ?_
        have hd4 := (e3.trans e4) _ _ hd2
        refine ⟨d, _, (keysN l E).map fun c => S [c], rfl, .inl hd4, by rw [List.map_map, List.map_map]; rfl, by rw [List.length_map]; omega, fun ys p hys hso hp => ?_⟩
        obtain ⟨zs, hz1, hz2⟩ : ∃ zs : List Nat, ys = zs.map (fun c => S [c]) ∧ zs.Perm (keysN l E) := by
          refine ⟨ys.map fun s => s.cps.toList.headD 0, ?_, ?_⟩
          · rw [List.map_map]
            refine (List.map_id ys).symm.trans (List.map_congr_left fun y hy => ?_)
            obtain ⟨c, _, rfl⟩ := List.mem_map.mp (hys.mem_iff.mp hy)
            rfl
          · have := hys.map fun s : Str => s.cps.toList.headD 0
            rw [List.map_map] at this
            exact this.trans (List.Perm.of_eq (List.map_id _))
        subst hz1
        have hz3 : zs = lettersN l E := sorted_uniq hz2 (rising_letters zs hso)
        subst hz3
        exact q' p _ _ (fresh_back e4 hp) (e4.trans (Ex.new hp)) upd_same (td_signs _)
      · obtain ⟨c, hc, rfl⟩ := List.mem_map.mp hu
        have hck : c ∈ keysN l E := (lettersN_perm l E).mem_iff.mp hc
        exact ed_tup (ead_cons (ed_str (ev_var rfl)) (ead_cons (ed_dget (dd := encE (goalN l E c)) (k := Sum.inr (S [c])) (ev_var rfl) (ev_var rfl) (e3 _ _ hd2) ((bkV_val av c _).trans (if_pos hck)) (Td.ex e3 (ha2 c hck))) ead_nil)) (Nat.le_of_ble_eq_true rfl)
end

end TY
namespace TY
open PySem PySem.Spec PyProof.Rows L2 Evl
theorem take_pre {α : Type} {xs : List α} (i : Nat) : xs.take i <+: xs := List.take_prefix i xs
section
variable {P : Program} {w : World} {K : PySem.W.Frag} {mg : Str → Option Value} {base : Heap}
theorem ok__law_machine {f : Addr} {fd : FuncData} (F : Fun K "_law_machine" "_law_machine" s__law_machine f fd) (T_ : Nm mg) (c__law_nexts : Cl P w K mg base 1 "_law_nexts" spNexts) : FnOk P w K mg base CX0 2 f fd ["_law_text_here"] spMach := by
  refine F.ok sc__law_machine (fun vs H Q E h => ?_) (fun cdv A outer s H vs Q E hr h => ?_)
  · obtain ⟨l, rfl, _⟩ := h
    rfl
  · obtain ⟨l, rfl, hl, q⟩ := h
    refine ⟨_, (pss_cons (ps_set (i := 1) sc__law_machine.nd rfl (.inr rfl) (pe_lst (pa_cons (pe_tupRg rfl (by rfl) T_.n_tuple (prg_1 (by rfl) T_.n_range (pe_op op_add (pe_callB call_len_str (by rfl) T_.n_len PySem.boot_len (pa_cons (pv 0) pa_nil)) pe_int))) pa_nil)))
      (pss_cons (ps_set (i := 2) sc__law_machine.nd rfl (.inl rfl) (pe_lst pa_nil))
      (pss_cons (ps_set (i := 3) sc__law_machine.nd rfl (.inl rfl) pe_int)
      (pss_cons (ps_while PassesOwn.never (pt_cmpR op_lt (pv 3) (pe_callB (kC K rLenS call_len_seq) (by rfl) T_.n_len PySem.boot_len (pa_cons (pv 1) pa_nil)) (nomark _))
      (pss_cons (ps_set (i := 4) sc__law_machine.nd rfl (.inl rfl) (pe_lst pa_nil))
      (pss_cons (ps_for PassesOwn.never rfl (pi_listK K (pe_cl c__law_nexts hr (by first | decide | omega) (by rfl) (pa_cons (pe_ix (kI K rIxL ix_list) (pv 1) (pv 3) (fun _ _ => rfl)) (pa_cons (pv 0) pa_nil)))) (pg_tup rfl (pgs_cons (pg_name (i := 5) sc__law_machine.nd rfl (.inl rfl)) (pgs_cons (pg_name (i := 6) sc__law_machine.nd rfl (.inl rfl)) pgs_nil)))
      (pss_cut (ps_if (pt_cmpR (kO K rNotInD (op_notInD (hu65m hr))) (pv 6) (pv 1) rfl)
      (pss_one (ps_expr (pe_bm PySem.F.plainAttrs_list PySem.F.slot_list_append PySem.F.type_list_append mt_append (pv 1) (pa_cons (pv 6) pa_nil))))
      pss_nil)
      (pss_one (ps_expr (pe_bm PySem.F.plainAttrs_list PySem.F.slot_list_append PySem.F.type_list_append mt_append (pv 4) (pa_cons (pe_tup (pa_cons (pv 5) (pa_cons (pe_bm PySem.F.plainAttrs_list PySem.F.slot_list_index PySem.F.type_list_index (kM K rIndexD (mt_indexD (hu65m hr))) (pv 1) (pa_cons (pv 6) pa_nil)) pa_nil))) pa_nil))))))
      (pss_cut (ps_expr (pe_bm PySem.F.plainAttrs_list PySem.F.slot_list_append PySem.F.type_list_append mt_append (pv 2) (pa_cons (pe_tupleOfK K (by rfl) T_.n_tuple (pv 4)) pa_nil)))
      (pss_one (ps_set (i := 3) sc__law_machine.nd rfl (.inl rfl) (pe_op op_add (pv 3) pe_int)))))))
      (pss_one (ps_ret (pe_tup (pa_cons (pe_tupleOfK K (by rfl) T_.n_tuple (pv 2)) (pa_cons (pe_tupleOfK K (by rfl) T_.n_tuple (pe_lc (own := [("_law_room", 7)]) (g := gName 7) rfl sc__law_machine.nd (pi_range1 (by rfl) T_.n_range (pa_cons (pe_callB (kC K rLenS call_len_seq) (by rfl) T_.n_len PySem.boot_len (pa_cons (pv 1) pa_nil)) pa_nil)) (blkOk_by (N := ["_law_text_here", "_law_todo", "_law_rooms", "_law_at", "_law_lines", "_law_letter", "_law_goal", "_law_room"]) (sc := defScope s__law_machine) (by decide +kernel)) (fun _ _ _ _ _ => (pg_name (i := 7) sc__law_machine.nd rfl (Or.inl rfl))) (fun _ _ _ _ _ => (pts_one (pt_cmpR (kO K (fun K => rIn K false) op_in_seq) (pe_callB call_len_str (by rfl) T_.n_len PySem.boot_len (pa_cons (pv 0) pa_nil)) (pe_ix (kI K rIxL ix_list) (pv 1) (pv 7) (fun _ _ => rfl)) rfl))) (fun _ _ _ _ _ => (pv 7)))) pa_nil))))))))), ?_⟩
    have he0 : encE (endN l []) = .tuple ((List.range (((l.length : Int) + 1) - 0).toNat).map fun (i : Nat) => .int (0 + (i : Int))) := by
      rw [endN_nil]
      unfold encE
      have e0 : (((l.length : Int) + 1) - 0).toNat = l.length + 1 := by omega
      rw [e0]
      congr 1
      exact List.map_congr_left fun i _ => by rw [Int.zero_add]
    have hmost : mostR l < 30000 := allParts_len (by omega)
    have hrooms := rooms_len l
    refine q_asgN (ds := [encE (endN l [])]) (en_lst (ead_cons ?_ ead_nil) (Nat.le_of_ble_eq_true rfl)) fun t ys H1 ht e1 ht1 hy1 => ?_
    · rw [he0]
      exact ed_tupRg (ev_op (ev_lenStr (ev_var rfl) (by omega)) ev_c rv_I0) (RgOk.of_le (by omega) (by omega) (by omega) (by omega))
    refine q_asgN (en_lst ead_nil (by decide)) fun r rs H2 hr2 e2 hr22 hrs => ?_
    cases hrs
    have hrt : r ≠ t := fun z => by
      rw [z, ht1] at hr2
      cases hr2
    refine q_asg (v := .int ((0 : Nat) : Int)) ev_c fun H3 e3 => ?_
    have e23 := e2.trans e3
    refine q_while (fun m σ' H' => ∃ i T, m + i = mostR l ∧ (∃ x4 x5 x6, σ' = [some (.str (S l)), some (.ref t), some (.ref r), some (.int (i : Int)), x4, x5, x6, none]) ∧ Ex H H' ∧ (∃ ys, H' t = some (.lst ys) ∧ TdAll H' ys (T.map encE)) ∧ (∃ rs, H' r = some (.lst rs) ∧ TdAll H' rs (((roomsT l).take i).map (roomD l))) ∧ GoodT l T ∧ bfsN l m i T = roomsT l ∧ i ≤ T.length) (mostR l)
      ⟨0, [endN l []], rfl, ⟨_, _, _, rfl⟩, e1.trans e23, ⟨ys, e23 _ _ ht1, TdAll.ex e23 hy1⟩, ⟨[], e3 _ _ hr22, .nil⟩, good_one l, rfl, Nat.zero_le _⟩ ?_
    rintro m σ' H4 ⟨i, T, hm, ⟨x4, x5, x6, rfl⟩, o4, ⟨ys, hys, hyd⟩, ⟨rs, hrs, hrd⟩, hG, hb, hiT⟩
    have hlen := hG.len
    have hyl : ys.length = T.length := by rw [hyd.len, List.length_map]
    refine ⟨decide ((i : Int) < (T.length : Int)), et_test (ev_op (ev_var rfl) (ev_is (ev_len (ev_var rfl) (sq_of hys)) (congrArg V.int (by rw [hyl]))) rv_I0), fun hlt H5 e5 => ?_, fun hge H5 e5 => ?_⟩
    · have hi : i < T.length := by
        have := of_decide_eq_true hlt
        omega
      obtain ⟨m, rfl⟩ : ∃ m', m = m' + 1 := ⟨m - 1, by omega⟩
      have hb2 : bfsN l m (i + 1) (stepN l T i) = roomsT l := by
        have : bfsN l (m + 1) i T = bfsN l m (i + 1) (stepN l T i) := by
          rw [bfsN, if_pos hi]
        rw [← this]
        exact hb
      have hpre : stepN l T i <+: roomsT l := by
        rw [← hb2]
        exact bfs_prefix l _ _ _
      have hTpre : T <+: roomsT l := (step_prefix l T i).trans hpre
      have hgE : T[i]? = some T[i] := List.getElem?_eq_getElem hi
      have hgR : (roomsT l)[i]? = some T[i] := by
        obtain ⟨u, hu⟩ := hTpre
        rw [← hu, List.getElem?_append_left hi, hgE]
      refine ⟨fun σ2 H' => (∃ x4 x5 x6, σ2 = [some (.str (S l)), some (.ref t), some (.ref r), some (.int ((i + 1 : Nat) : Int)), x4, x5, x6, none]) ∧ Ex H H' ∧ (∃ ys, H' t = some (.lst ys) ∧ TdAll H' ys ((stepN l T i).map encE)) ∧ (∃ rs, H' r = some (.lst rs) ∧ TdAll H' rs (((roomsT l).take (i + 1)).map (roomD l))), ?_, ?_⟩
      · rintro σ2 H' ⟨h1, h2, h3, h4⟩
        have hsl := (step_prefix l T i).length_le
        exact ⟨m, by omega, i + 1, _, by omega, h1, h2, h3, h4, good_step hG hi, hb2, by omega⟩
      have o5 := o4.trans e5
      have hys5 := e5 _ _ hys
      have hyd5 := TdAll.ex e5 hyd
      have hrs5 := e5 _ _ hrs
      have hrd5 := TdAll.ex e5 hrd
      refine q_asgN (en_lst ead_nil (by decide)) fun n ln H6 hn6 e6 hn66 hln => ?_
      cases hln
      have hnt : n ≠ t := fun z => by
        rw [z, hys5] at hn6
        cases hn6
      have hnr : n ≠ r := fun z => by
        rw [z, hrs5] at hn6
        cases hn6
      have hst : stepN l T i = (nextsN l T[i]).foldl addG T := by
        unfold stepN
        rw [List.getD_eq_getElem?_getD, hgE]
        rfl
      have hsh : T[i].length ≤ 60 := by
        have := hG.short (List.getElem_mem hi)
        omega
      have htk0 : (roomsT l).take (i + 1) = (roomsT l).take i ++ [T[i]] := by
        obtain ⟨hlt2, he2⟩ := List.getElem?_eq_some_iff.mp hgR
        rw [List.take_succ_eq_append_getElem hlt2, he2]
      have hTi : (T.map encE)[i]? = some (encE T[i]) := by
        rw [List.getElem?_map, hgE]
        rfl
      rw [hst, htk0]
      rw [hst] at hpre
      have hgood := nexts_good (hG.parts T[i] (List.getElem_mem hi))
      generalize T[i] = E0 at hsh hgood hpre hTi
      have hnl := nextsN_len l E0
      have hrl : rs.length ≤ 30000 := by
        rw [hrd.len, List.length_map, List.length_take]
        omega
      have hys6 := e6 _ _ hys5
      have hyd6 := TdAll.ex e6 hyd5
      refine q_forN (es := (nextsN l E0).map encX) (fun H7 e7 Q' q' => ?_)
        (fun p xs j σ2 H' => (∃ x5 x6, σ2 = [some (.str (S l)), some (.ref t), some (.ref r), some (.int (i : Int)), some (.ref n), x5, x6, none]) ∧ Ex H H' ∧ (∃ ys, H' t = some (.lst ys) ∧ TdAll H' ys ((((nextsN l E0).take j).foldl addG T).map encE)) ∧ (∃ rs, H' r = some (.lst rs) ∧ TdAll H' rs (((roomsT l).take i).map (roomD l))) ∧ (∃ ln, H' n = some (.lst ln) ∧ TdAll H' ln ((((nextsN l E0).take j).map fun p => (p.1, numN l p.2)).map encLn)) ∧ H' p = some (.lst xs) ∧ TdAll H' xs ((nextsN l E0).map encX) ∧ p ≠ t ∧ p ≠ n)
        (fun p xs H7 hp e7 h7 hx => ⟨⟨_, _, rfl⟩, (o5.trans e6).trans e7, ⟨ys, e7 _ _ hys6, TdAll.ex e7 hyd6⟩, ⟨rs, (e6.trans e7) _ _ hrs5, TdAll.ex (e6.trans e7) hrd5⟩, ⟨[], e7 _ _ hn66, .nil⟩, h7, hx, fun z => ?_, fun z => ?_⟩) (fun p xs j σ2 H' q => q.2.2.2.2.2.1) ?_ ?_
      · refine ed_ixLs (K := K) (ev_var (i := 1) rfl) hys6 hyd6 (ev_var (i := 3) rfl) hTi H7 e7 _ fun z H8 e8 hz => ?_
        exact ⟨.str (S l), rfl, z, E0, l, rfl, hz, hsh, by omega, fun p xs H9 hp e9 h9 hx => q' p xs H9 (fresh_back e8 hp) (e8.trans e9) h9 hx⟩
      · rw [z, hys6] at hp
        cases hp
      · rw [z, hn66] at hp
        cases hp
      · rintro p xs j x0 σ2 H7 hx0 ⟨⟨z5, z6, rfl⟩, o7, ⟨ys7, hys7, hyd7⟩, ⟨rs7, hrs7, hrd7⟩, ⟨ln7, hln7, hlnd7⟩, hp7, hx7, hpt, hpn⟩
        obtain ⟨dt, hdt, hxd⟩ := hx7.get hx0
        have hj : j < (nextsN l E0).length := by
          have := (List.getElem?_eq_some_iff.mp hx0).1
          rw [hx7.len, List.length_map] at this
          exact this
        have hgj : (nextsN l E0)[j]? = some (nextsN l E0)[j] := List.getElem?_eq_getElem hj
        rw [List.getElem?_map, hgj] at hdt
        cases hdt
        have htk : (nextsN l E0).take (j + 1) = (nextsN l E0).take j ++ [(nextsN l E0)[j]] := List.take_succ_eq_append_getElem hj
        have hG4 : GoodT l (((nextsN l E0).take j).foldl addG T) := good_foldG _ _ hG fun q hq => hgood q (List.mem_of_mem_take hq)
        have hpre5 : ((nextsN l E0).take (j + 1)).foldl addG T <+: roomsT l := by
          refine List.IsPrefix.trans ?_ hpre
          have : (nextsN l E0).foldl addG T = ((nextsN l E0).drop (j + 1)).foldl addG (((nextsN l E0).take (j + 1)).foldl addG T) := by
            rw [← List.foldl_append, List.take_append_drop]
          rw [this]
          exact foldG_prefix _ _
        have hlnl : ln7.length ≤ 60 := by
          rw [hlnd7.len, List.length_map, List.length_map, List.length_take]
          omega
        rw [htk, List.foldl_append, List.foldl_cons, List.foldl_nil] at hpre5
        rw [htk, List.foldl_append, List.foldl_cons, List.foldl_nil, List.map_append, List.map_append]
        generalize (nextsN l E0)[j] = pr at *
        generalize ((nextsN l E0).take j).foldl addG T = T4 at *
        have hT4l := hG4.len
        obtain ⟨a, ws, rfl, ha, hws⟩ := hxd.tup_
        obtain ⟨w1, w2, rfl, hw1, hw2⟩ := td_two hws
        cases hw1.str_
        refine bnd_pair ha _ ?_
        refine ⟨fun σ' H' => σ' = [some (.str (S l)), some (.ref t), some (.ref r), some (.int (i : Int)), some (.ref n), some (.str (S [pr.1])), some w2, none] ∧ Ex H H' ∧ (∃ ys, H' t = some (.lst ys) ∧ TdAll H' ys ((addG T4 pr).map encE)) ∧ (∃ rs, H' r = some (.lst rs) ∧ TdAll H' rs (((roomsT l).take i).map (roomD l))) ∧ H' n = some (.lst ln7) ∧ TdAll H' ln7 ((((nextsN l E0).take j).map fun p => (p.1, numN l p.2)).map encLn) ∧ H' p = some (.lst xs) ∧ TdAll H' xs ((nextsN l E0).map encX) ∧ Td H' w2 (encE pr.2), ?_, ?_⟩
        · refine s_when (b := !decide (pr.2 ∈ T4)) (et_test (ev_niDD (eq_d (ed_var rfl hw2)) (eq_l (ev_var rfl) hys7 hyd7))) (fun hb H8 e8 => ?_) (fun hb H8 e8 => ?_)
          · have hnm : pr.2 ∉ T4 := by simpa using hb
            have hys8 := e8 _ _ hys7
            have hzl : ys7.length = T4.length := by rw [hyd7.len, List.length_map]
            refine s_app hys8 (ev_var rfl) (ev_var rfl) (by omega) fun H9 e9 => ?_
            have e89 := e8.trans e9
            have t9 : ∀ u : HO, ExT H9 (upd H9 t u) := fun u => ExT.updL (e9 _ _ hys8)
            have ea : addG T4 pr = T4 ++ [pr.2] := if_neg hnm
            refine ⟨rfl, Ex.mut (o7.trans e89) ht, ⟨_, upd_same, ?_⟩, ⟨rs7, by rw [upd_ne hrt]; exact e89 _ _ hrs7, TdAll.ext (t9 _) (TdAll.ex e89 hrd7)⟩, by rw [upd_ne hnt]; exact e89 _ _ hln7, TdAll.ext (t9 _) (TdAll.ex e89 hlnd7), by rw [upd_ne hpt]; exact e89 _ _ hp7, TdAll.ext (t9 _) (TdAll.ex e89 hx7), Td.ext (t9 _) (Td.ex e89 hw2)⟩
            rw [ea, List.map_append]
            exact TdAll.append (TdAll.ext (t9 _) (TdAll.ex e89 hyd7)) (TdAll.one (Td.ext (t9 _) (Td.ex e89 hw2)))
          · have hm4 : pr.2 ∈ T4 := by simpa using hb
            have ea : addG T4 pr = T4 := if_pos hm4
            exact ⟨rfl, o7.trans e8, ⟨ys7, e8 _ _ hys7, by rw [ea]; exact TdAll.ex e8 hyd7⟩, ⟨rs7, e8 _ _ hrs7, TdAll.ex e8 hrd7⟩, e8 _ _ hln7, TdAll.ex e8 hlnd7, e8 _ _ hp7, TdAll.ex e8 hx7, Td.ex e8 hw2⟩
        · rintro σ' H8 ⟨rfl, o8, ⟨ys8, hys8, hyd8⟩, ⟨rs8, hrs8, hrd8⟩, hln8, hlnd8, hp8, hx8, hw8⟩
          have hmem : pr.2 ∈ addG T4 pr := by
            unfold addG
            split
            · assumption
            · exact List.mem_append_right _ (by simp)
          have hidx : (addG T4 pr).idxOf pr.2 = numN l pr.2 := idx_pre hpre5 hmem
          refine s_appD hln8 (ev_var rfl) (dd := encLn (pr.1, numN l pr.2)) (ed_tup (ead_cons (ed_str (ev_var rfl)) (ead_cons (ed_int (ev_is (ev_index (ev_var rfl) hys8 hyd8 (ed_var rfl hw8) hmem) (by rw [hidx]))) ead_nil)) (Nat.le_of_ble_eq_true rfl)) (by omega) fun v9 H9 e9 hv9 => ?_
          have hln9 := e9 _ _ hln8
          have t9 : ∀ u : HO, ExT H9 (upd H9 n u) := fun u => ExT.updL hln9
          exact ⟨⟨_, _, rfl⟩, Ex.mut (o8.trans e9) (fresh_back o5 hn6), ⟨ys8, by rw [upd_ne (Ne.symm hnt)]; exact e9 _ _ hys8, TdAll.ext (t9 _) (TdAll.ex e9 hyd8)⟩, ⟨rs8, by rw [upd_ne (Ne.symm hnr)]; exact e9 _ _ hrs8, TdAll.ext (t9 _) (TdAll.ex e9 hrd8)⟩, ⟨_, upd_same, TdAll.append (TdAll.ext (t9 _) (TdAll.ex e9 hlnd8)) (TdAll.one (Td.ext (t9 _) hv9))⟩, by rw [upd_ne hpn]; exact e9 _ _ hp8, TdAll.ext (t9 _) (TdAll.ex e9 hx8), hpt, hpn⟩
      · rintro p xs σ2 H7 ⟨⟨z5, z6, rfl⟩, o7, ⟨ys7, hys7, hyd7⟩, ⟨rs7, hrs7, hrd7⟩, ⟨ln7, hln7, hlnd7⟩, hp7, hx7, hpt, hpn⟩
        have hxl : xs.length = (nextsN l E0).length := by rw [hx7.len, List.length_map]
        rw [hxl, List.take_of_length_le (Nat.le_refl _)] at hyd7 hlnd7
        have hrl7 : rs7.length ≤ 30000 := by
          rw [hrd7.len, List.length_map, List.length_take]
          omega
        refine ⟨fun σ' H' => (∃ x5 x6, σ' = [some (.str (S l)), some (.ref t), some (.ref r), some (.int (i : Int)), some (.ref n), x5, x6, none]) ∧ Ex H H' ∧ (∃ ys, H' t = some (.lst ys) ∧ TdAll H' ys (((nextsN l E0).foldl addG T).map encE)) ∧ (∃ rs, H' r = some (.lst rs) ∧ TdAll H' rs (((roomsT l).take i ++ [E0]).map (roomD l))), ?_, ?_⟩
        · refine s_appD hrs7 (ev_var rfl) (dd := roomD l E0) (ed_tupL (ev_var rfl) hln7 hlnd7) (by omega) fun v8 H8 e8 hv8 => ?_
          have hrs8 := e8 _ _ hrs7
          have t8 : ∀ u : HO, ExT H8 (upd H8 r u) := fun u => ExT.updL hrs8
          refine ⟨⟨_, _, rfl⟩, Ex.mut (o7.trans e8) (fresh_back e1 hr2), ⟨ys7, by rw [upd_ne (Ne.symm hrt)]; exact e8 _ _ hys7, TdAll.ext (t8 _) (TdAll.ex e8 hyd7)⟩, ⟨_, upd_same, ?_⟩⟩
          rw [List.map_append]
          exact TdAll.append (TdAll.ext (t8 _) (TdAll.ex e8 hrd7)) (TdAll.one (Td.ext (t8 _) hv8))
        · rintro σ' H8 ⟨⟨y5, y6, rfl⟩, o8, ⟨ys8, hys8, hyd8⟩, ⟨rs8, hrs8, hrd8⟩⟩
          exact s_asg (v := .int ((i + 1 : Nat) : Int)) (ev_op (ev_var rfl) ev_c rv_I0) fun H9 e9 => ⟨⟨_, _, _, rfl⟩, o8.trans e9, ⟨ys8, e9 _ _ hys8, TdAll.ex e9 hyd8⟩, ⟨rs8, e9 _ _ hrs8, TdAll.ex e9 hrd8⟩⟩
    · have hi : T.length ≤ i := by
        have := of_decide_eq_false hge
        omega
      have hTr : T = roomsT l := by
        rw [← hb]
        cases m with
        | zero => rfl
        | succ m => rw [bfsN, if_neg (by omega)]
      subst hTr
      rw [List.take_of_length_le hi] at hrd
      have hys5 := e5 _ _ hys
      have hyd5 := TdAll.ex e5 hyd
      refine s_retD (d := machD l) (ed_tup (ead_cons (ed_tupL (ev_var rfl) (e5 _ _ hrs) (TdAll.ex e5 hrd)) (ead_cons (ed_tupOf ?_) ead_nil)) (Nat.le_of_ble_eq_true rfl)) fun v H6 e6 => q v H6 ((o4.trans e5).trans e6)
      have e0 : (endsN l).map (fun (i : Nat) => PyData.int (i : Int)) = ((rngV (roomsT l).length).filter fun s => decide (l.length ∈ (roomsT l).getD s.toNat [])).map .int := by
        unfold endsN rngV
        rw [List.filter_map, List.map_map]
        rfl
      rw [e0]
      refine en_lcI (rngV (roomsT l).length) _ .int (ei_rngV (ea_cons (ev_is (ev_len (ev_var rfl) (sq_of hys5)) (congrArg V.int (by rw [hyl]))) ea_nil) (by omega)) (by rw [rngV_len]; omega) fun s hs H6 e6 => ?_
      have hs2 := rngV_mem hs
      obtain ⟨k, rfl⟩ : ∃ k : Nat, s = (k : Int) := ⟨s.toNat, by omega⟩
      have hkl : k < (roomsT l).length := by omega
      have hkg : (roomsT l)[k]? = some (roomsT l)[k] := List.getElem?_eq_getElem hkl
      rw [Int.toNat_natCast, List.getD_eq_getElem?_getD, hkg]
      refine ⟨et_is (et_test (ev_inTI (ns := ((roomsT l)[k]).map fun (e : Nat) => (e : Int)) (ev_lenStr (ev_var rfl) (by omega)) ?_)) ?_, fun _ => ed_int (ev_var rfl)⟩
      · have := ed_ixLs (K := K) (dd := encE (roomsT l)[k]) (j := k) (ev_var (i := 1) (σ := [some (.str (S l)), some (.ref t), some (.ref r), some (.int (i : Int)), x4, x5, x6, some (.int (k : Int))]) (H := H6) rfl) (e6 _ _ hys5) (TdAll.ex e6 hyd5) (ev_var (i := 7) rfl) (by rw [List.getElem?_map, hkg]; rfl)
        rw [encE_ints] at this
        exact this
      · rw [decide_eq_decide, List.mem_map]
        constructor
        · rintro ⟨e, he, z⟩
          have : e = l.length := by omega
          rw [← this]
          exact he
        · intro h
          exact ⟨_, h, rfl⟩
end

end TY
namespace TY
open PySem PySem.Spec PyProof.Rows L2 Evl
/-! ### things: data with lists, of bounded form -/
inductive Sm : Nat → PyData → Prop
  | non {k : Nat} : Sm k .none
  | bl {k : Nat} (b : Bool) : Sm k (.bool b)
  | int {k : Nat} (i : Int) : Sm k (.int i)
  | str {k : Nat} {x : Str} (h : PyData.strOk x = true) (hl : x.length ≤ 1000) : Sm k (.str x)
  | lst {k : Nat} {xs : List PyData} (hl : xs.length ≤ 63) (h : ∀ x ∈ xs, Sm k x) : Sm (k + 1) (.list xs)
  | tup {k : Nat} {xs : List PyData} (hl : xs.length ≤ 63) (h : ∀ x ∈ xs, Sm k x) : Sm (k + 1) (.tuple xs)
theorem Sm.can {k : Nat} {d : PyData} (h : Sm k d) : d.canLay0 = true := by
  induction h with
  | non => rw [PyData.canLay0]
  | bl b => rw [PyData.canLay0]
  | int i => rw [PyData.canLay0]
  | str h _ => rw [PyData.canLay0]; exact h
  | lst _ _ ih => rw [PyData.canLay0]; exact can_all ih
  | tup _ _ ih => rw [PyData.canLay0]; exact can_all ih
theorem Sm.dep {k : Nat} {d : PyData} (h : Sm k d) : d.depth ≤ k := by
  induction h with
  | non => rw [PyData.depth]; exact Nat.zero_le _
  | bl b => rw [PyData.depth]; exact Nat.zero_le _
  | int i => rw [PyData.depth]; exact Nat.zero_le _
  | str _ _ => rw [PyData.depth]; exact Nat.zero_le _
  | lst _ _ ih => rw [PyData.depth]; have := dep_all ih; omega
  | tup _ _ ih => rw [PyData.depth]; have := dep_all ih; omega
theorem Sm.mono {k : Nat} {d : PyData} (h : Sm k d) : ∀ {j : Nat}, k ≤ j → Sm j d := by
  induction h with
  | non => exact fun _ => .non
  | bl b => exact fun _ => .bl b
  | int i => exact fun _ => .int i
  | str h hl => exact fun _ => .str h hl
  | lst hl _ ih =>
    intro j hj
    obtain ⟨j, rfl⟩ : ∃ j', j = j' + 1 := ⟨j - 1, by omega⟩
    exact .lst hl fun x hx => ih x hx (by omega)
  | tup hl _ ih =>
    intro j hj
    obtain ⟨j, rfl⟩ : ∃ j', j = j' + 1 := ⟨j - 1, by omega⟩
    exact .tup hl fun x hx => ih x hx (by omega)
theorem Sm.shaped {k : Nat} {d : PyData} (h : Sm k d) (hk : k ≤ 64) : SeqAt.shaped d = true := shaped_of h.can (Nat.le_trans h.dep hk)
theorem Sm.item {k : Nat} {xs : List PyData} (h : Sm k (.tuple xs)) : xs.length ≤ 63 ∧ ∀ x ∈ xs, Sm k x := by
  cases h with
  | tup hl h => exact ⟨hl, fun x hx => (h x hx).mono (Nat.le_succ _)⟩
theorem DpAll.len {K : PySem.W.Frag} {H : Hp} : ∀ {vs : List V} {ds : List PyData}, DpAll K H vs ds → vs.length = ds.length
  | _, _, .nil => rfl
  | _, _, .cons _ h => by rw [List.length_cons, List.length_cons, DpAll.len h]
theorem DpAll.get {K : PySem.W.Frag} {H : Hp} : ∀ {vs : List V} {ds : List PyData} {i : Nat} {x : V}, DpAll K H vs ds → vs[i]? = some x → ∃ d, ds[i]? = some d ∧ Dp K H x d
  | _, _, 0, x, .cons h _, e => by
    cases e
    exact ⟨_, rfl, h⟩
  | _, _, i + 1, x, .cons _ hs, e => DpAll.get (i := i) hs e
theorem DpAll.get' {K : PySem.W.Frag} {H : Hp} : ∀ {vs : List V} {ds : List PyData} {i : Nat} {d : PyData}, DpAll K H vs ds → ds[i]? = some d → ∃ x, vs[i]? = some x ∧ Dp K H x d
  | _, _, 0, d, .cons h _, e => by
    cases e
    exact ⟨_, rfl, h⟩
  | _, _, i + 1, d, .cons _ hs, e => DpAll.get' (i := i) hs e
theorem DpAll.append {K : PySem.W.Frag} {H : Hp} : ∀ {vs ws : List V} {ds es : List PyData}, DpAll K H vs ds → DpAll K H ws es → DpAll K H (vs ++ ws) (ds ++ es)
  | _, _, _, _, .nil, h => h
  | _, _, _, _, .cons h hs, h2 => .cons h (DpAll.append hs h2)
theorem DpAll.cut {K : PySem.W.Frag} {H : Hp} : ∀ {xs : List V} {ds : List PyData}, DpAll K H xs ds → ∀ i j, DpAll K H ((xs.drop i).take j) ((ds.drop i).take j)
  | _, _, .nil, i, j => by
    rw [List.drop_nil, List.drop_nil, List.take_nil, List.take_nil]
    exact .nil
  | _, _, .cons h hs, 0, 0 => .nil
  | _, _, .cons h hs, 0, j + 1 => .cons h (DpAll.cut hs 0 j)
  | _, _, .cons h hs, i + 1, j => DpAll.cut hs i j
/-- what is walked, items with lists in them -/
def EvIQ (K : PySem.W.Frag) (wi : TI) (σ : L2.St) (H : Hp) (es : List PyData) : Prop := ∀ H1, Ex H H1 → ∀ R : It → Hp → Prop,
  (∀ (J : It) (G : Hp → Prop) H2, Ex H1 H2 → (∀ H3, Ex H2 H3 → G H3) → Walk J es.length G (fun i H x H' => Ex H H' ∧ ∃ e, es[i]? = some e ∧ Dp K H' x e) → R J H2) → wi σ H1 R
def tyN : PyData → String
  | .none => "NoneType"
  | .bool _ => "bool"
  | .int _ => "int"
  | .str _ => "str"
  | .list _ => "list"
  | .tuple _ => "tuple"
  | .dict _ => "dict"
def isT : PyData → Bool | .tuple _ => true | _ => false
def isS : PyData → Bool | .str _ => true | _ => false
def isI : PyData → Bool | .int _ => true | .bool _ => true | _ => false
def isB : PyData → Bool | .bool _ => true | _ => false
theorem tyx_dp {K : PySem.W.Frag} {H : Hp} {v : V} {d : PyData} (h : Dp K H v d) : TyX K H v (.type (tyN d)) := by
  cases h with
  | non => exact .base .non
  | bl b => exact .base (.bl b)
  | int i => exact .base (.int i)
  | str x => exact .base (.str x)
  | lst hs _ =>
    rcases hs with (h | ⟨o, h⟩) | ⟨o, its, n, h, hc, _⟩
    · exact .base (.lst h)
    · exact .base (.frz h)
    · exact .kList h hc
  | tup hs _ =>
    rcases hs with (h | ⟨o, h⟩) | ⟨o, its, n, h, hc, _⟩
    · exact .base (.tup h)
    · exact .fTuple h
    · exact .kTuple h hc
section
variable {K : PySem.W.Frag} {σ : L2.St} {H : Hp} {te ta tb : TE} {v : V} {d : PyData} {ds es : List PyData} {i : Nat}
theorem EvQ.mono {H' : Hp} (e : Ex H H') (h : EvQ K te σ H d) : EvQ K te σ H' d := fun H1 a Q q => h H1 (e.trans a) Q q
theorem eq_var (hi : σ[i]? = some (some v)) (h : Dp K H v d) : EvQ K (tVar i) σ H d := fun H1 e Q q => ev_var hi H1 e Q fun H2 e2 => q v H2 e2 (Dp.ext (e.trans e2) h)
theorem ev_isQ {C : String} {b : Bool} (h : EvQ K te σ H d) (hb : kitB (tyN d) C = some b) : Ev (tCB (rIsi K) (tCons te (tCons (tC (.ty C)) tNil))) σ H (.bl b) := fun H1 e Q q =>
  h H1 e _ fun u H2 e2 hu => ⟨u, .ty C, .type (tyN d), .type C, b, rfl, .ty _, tyx_dp hu, kit_ty hb, q H2 e2⟩
theorem kit_T (d : PyData) (hd : ∀ kvs, d ≠ .dict kvs) : kitB (tyN d) "tuple" = some (isT d) :=
  match d, hd with
  | .none, _ => show kitB "NoneType" "tuple" = some false from by decide +kernel
  | .bool _, _ => show kitB "bool" "tuple" = some false from by decide +kernel
  | .int _, _ => show kitB "int" "tuple" = some false from by decide +kernel
  | .str _, _ => show kitB "str" "tuple" = some false from by decide +kernel
  | .list _, _ => show kitB "list" "tuple" = some false from by decide +kernel
  | .tuple _, _ => show kitB "tuple" "tuple" = some true from by decide +kernel
  | .dict kvs, hd => absurd rfl (hd kvs)
theorem kit_S (d : PyData) (hd : ∀ kvs, d ≠ .dict kvs) : kitB (tyN d) "str" = some (isS d) :=
  match d, hd with
  | .none, _ => show kitB "NoneType" "str" = some false from by decide +kernel
  | .bool _, _ => show kitB "bool" "str" = some false from by decide +kernel
  | .int _, _ => show kitB "int" "str" = some false from by decide +kernel
  | .str _, _ => show kitB "str" "str" = some true from by decide +kernel
  | .list _, _ => show kitB "list" "str" = some false from by decide +kernel
  | .tuple _, _ => show kitB "tuple" "str" = some false from by decide +kernel
  | .dict kvs, hd => absurd rfl (hd kvs)
theorem kit_I (d : PyData) (hd : ∀ kvs, d ≠ .dict kvs) : kitB (tyN d) "int" = some (isI d) :=
  match d, hd with
  | .none, _ => show kitB "NoneType" "int" = some false from by decide +kernel
  | .bool _, _ => show kitB "bool" "int" = some true from by decide +kernel
  | .int _, _ => show kitB "int" "int" = some true from by decide +kernel
  | .str _, _ => show kitB "str" "int" = some false from by decide +kernel
  | .list _, _ => show kitB "list" "int" = some false from by decide +kernel
  | .tuple _, _ => show kitB "tuple" "int" = some false from by decide +kernel
  | .dict kvs, hd => absurd rfl (hd kvs)
theorem kit_B (d : PyData) (hd : ∀ kvs, d ≠ .dict kvs) : kitB (tyN d) "bool" = some (isB d) :=
  match d, hd with
  | .none, _ => show kitB "NoneType" "bool" = some false from by decide +kernel
  | .bool _, _ => show kitB "bool" "bool" = some true from by decide +kernel
  | .int _, _ => show kitB "int" "bool" = some false from by decide +kernel
  | .str _, _ => show kitB "str" "bool" = some false from by decide +kernel
  | .list _, _ => show kitB "list" "bool" = some false from by decide +kernel
  | .tuple _, _ => show kitB "tuple" "bool" = some false from by decide +kernel
  | .dict kvs, hd => absurd rfl (hd kvs)
theorem Sm.nod {k : Nat} (h : Sm k d) : ∀ kvs, d ≠ .dict kvs := fun kvs e => by
  subst e
  cases h
theorem ev_lenQ (h : EvQ K te σ H (.tuple ds)) : Ev (tCB (rLenS K) (tCons te tNil)) σ H (.int (ds.length : Int)) := fun H1 e Q q =>
  h H1 e _ fun u H2 e2 hu => by
    cases hu with
    | tup hs ha => exact ⟨_, _, rfl, .inr hs, by rw [DpAll.len ha]; exact q H2 e2⟩
theorem eq_ixT {j : Nat} (h : EvQ K ta σ H (.tuple ds)) (hi : Ev tb σ H (.int (j : Int))) (hj : ds[j]? = some d) : EvQ K (tOp (rIxT K) ta tb) σ H d := fun H1 e Q q =>
  h H1 e _ fun u H2 e2 hu => hi H2 (e.trans e2) _ fun H3 e3 => by
    cases hu with
    | tup hs ha =>
      obtain ⟨x, hx, hxd⟩ := DpAll.get' ha hj
      exact ⟨_, _, (j : Int), x, rfl, rfl, ex_t e3 hs, atI_nat hx, q x H3 (e2.trans e3) (Dp.ext e3 hxd)⟩
theorem ev_strQ {x : Str} (h : EvQ K te σ H (.str x)) : Ev te σ H (.str x) := fun H1 e Q q => h H1 e Q fun u H2 e2 hu => by
  cases hu
  exact q H2 e2
theorem ev_intQ {x : Int} (h : EvQ K te σ H (.int x)) : Ev te σ H (.int x) := fun H1 e Q q => h H1 e Q fun u H2 e2 hu => by
  cases hu
  exact q H2 e2
theorem ev_blQ {x : Bool} (h : EvQ K te σ H (.bool x)) : Ev te σ H (.bl x) := fun H1 e Q q => h H1 e Q fun u H2 e2 hu => by
  cases hu
  exact q H2 e2
theorem eq_of (h : Ev te σ H v) (hv : ∀ H', Dp K H' v d) : EvQ K te σ H d := fun H1 e Q q => h H1 e Q fun H2 e2 => q v H2 e2 (hv H2)
theorem ei_tupQ (h : EvQ K te σ H (.tuple es)) : EvIQ K (iTup K te) σ H es := fun H1 e R q =>
  h H1 e _ fun u H2 e2 hu => by
    cases hu with
    | tup hs ha =>
      rename_i p xs
      have hl := DpAll.len ha
      refine ⟨p, rfl, ⟨xs, hs⟩, q _ (fun H3 => Ex H2 H3) H2 e2 (fun H3 e3 => e3) ⟨fun i H3 hi g => ⟨xs, xs[i]'(by omega), ex_t g hs, by simp⟩, fun H3 g => ⟨xs, ex_t g hs, by omega⟩, fun i H3 x H4 hi g y => ?_⟩⟩
      obtain ⟨rfl, hy⟩ := y
      obtain ⟨d, h3, h4⟩ := DpAll.get ha (hy xs (ex_t g hs))
      exact ⟨Ex.refl _, d, h3, Dp.ext g h4⟩
theorem en_lcQ {wi : TI} {g : TG} {tt : TT} {vs : List Nat} (as : List PyData) (f : PyData → Bool) (w : PyData → PyData) (h : EvIQ K wi σ H as) (hz : as.length ≤ 40000)
    (hb : ∀ a ∈ as, ∀ x H1, Ex H H1 → Dp K H1 x a → ∃ σ2, Bnd g x (wipe σ vs) H1 σ2 ∧ wipe σ2 vs = wipe σ vs ∧ EvT tt σ2 H1 (f a) ∧ (f a = true → EvD te σ2 H1 (w a))) :
    EvN (tLc wi g tt te vs) σ H ((as.filter f).map w) := fun H0 e Q q => h H0 e _ fun J G H1 e1 hG hW D hD => by
  have key : ∀ n, n ≤ as.length → (((as.take n).filter f).map w).length ≤ 40000 := fun n hn => by
    rw [List.length_map]
    have := List.length_filter_le f (as.take n)
    rw [List.length_take] at this
    omega
  refine lc_it hW (fun i H' => Ex H1 H' ∧ ∃ acc, H' D = some (.lst acc) ∧ TdAll H' acc (((as.take i).filter f).map w)) ⟨Ex.new hD, [], upd_same, .nil⟩ (fun i H' hi p => hG H' p.1) ?_ ?_
  · rintro i x H2 H3 hi ⟨e2, acc, ha, hacc⟩ ⟨e3, b, hbm, hx⟩
    obtain ⟨σ2, b1, b2, b3, b4⟩ := hb b (List.mem_of_getElem? hbm) x H3 (((e.trans e1).trans e2).trans e3) hx
    refine b1 _ ⟨b2, ?_⟩
    have htake : as.take (i + 1) = as.take i ++ [b] := by
      rw [List.take_add_one, hbm]
      rfl
    refine b3 H3 (Ex.refl _) _ fun H4 e4 => ?_
    cases hf : f b with
    | true =>
      refine show te σ2 H4 _ from b4 hf H4 e4 _ fun v H5 e5 hv => ?_
      have haD : H5 D = some (.lst acc) := e5 _ _ (e4 _ _ (e3 _ _ ha))
      have eT : ExT H5 (upd H5 D (.lst (acc ++ [v]))) := ExT.updL haD
      refine ⟨acc, haD, ?_, Ex.mut (((e2.trans e3).trans e4).trans e5) hD, acc ++ [v], upd_same, ?_⟩
      · have h1 := hacc.len
        have h2 := key i (Nat.le_of_lt hi)
        exact sz_lt (by omega)
      · have h1 : ([b].filter f).map w = [w b] := by
          rw [List.filter_cons, if_pos hf]
          rfl
        rw [htake, List.filter_append, List.map_append, h1]
        exact TdAll.append (TdAll.ext eT (TdAll.ex ((e3.trans e4).trans e5) hacc)) (TdAll.one (Td.ext eT hv))
    | false =>
      refine show Ex H1 H4 ∧ _ from ⟨(e2.trans e3).trans e4, acc, e4 _ _ (e3 _ _ ha), ?_⟩
      have h1 : ([b].filter f).map w = [] := by
        rw [List.filter_cons, if_neg (by rw [hf]; decide)]
        rfl
      rw [htake, List.filter_append, List.map_append, h1, List.append_nil]
      exact TdAll.ex (e3.trans e4) hacc
  · rintro H2 ⟨e2, acc, ha, hacc⟩
    rw [List.take_of_length_le (Nat.le_refl _)] at hacc
    exact q D acc H2 (fresh_back e1 hD) (e1.trans e2) ha hacc
end

end TY
namespace TY
open PySem PySem.Spec PyProof.Rows L2 Evl
/-! ### the form, of anything -/
def EvAQ (K : PySem.W.Frag) (ta : TA) (σ : L2.St) (H : Hp) (ds : List PyData) : Prop := ∀ H1, Ex H H1 → ∀ Q : List V → Hp → Prop, (∀ vs H2, Ex H1 H2 → DpAll K H2 vs ds → Q vs H2) → ta σ H1 Q
section
variable {K : PySem.W.Frag} {σ : L2.St} {H : Hp} {te ta tb : TE} {tA : TA} {v z : V} {d : PyData} {ds es : List PyData}
theorem eqa_nil : EvAQ K tNil σ H [] := fun H1 e Q q => q [] H1 (Ex.refl H1) .nil
theorem eqa_cons (h : EvQ K te σ H d) (hs : EvAQ K tA σ H ds) : EvAQ K (tCons te tA) σ H (d :: ds) := fun H1 e Q q =>
  h H1 e _ fun v H2 e2 hv => hs H2 (e.trans e2) _ fun vs H3 e3 hvs => q (v :: vs) H3 (e2.trans e3) (.cons (Dp.ext e3 hv) hvs)
theorem ev_callQ {sp : Sp} {E : XK} (h : EvAQ K tA σ H ds) (hs : ∀ vs H1, Ex H H1 → DpAll K H1 vs ds → SpV sp vs H1 z) : Ev (tCall sp [] E tA) σ H z := fun H1 e Q q =>
  h H1 e _ fun vs H2 e2 hv => by
    show sp (vs ++ []) H2 Q E
    rw [List.append_nil]
    exact hs vs H2 (e.trans e2) hv H2 (Ex.refl H2) Q (fun H3 e3 => q H3 (e2.trans e3)) E
theorem eq_int {i : Int} (h : Ev te σ H (.int i)) : EvQ K te σ H (.int i) := fun H1 e Q q => h H1 e Q fun H2 e2 => q _ H2 e2 (.int i)
theorem eq_str {x : Str} (h : Ev te σ H (.str x)) : EvQ K te σ H (.str x) := fun H1 e Q q => h H1 e Q fun H2 e2 => q _ H2 e2 (.str x)
theorem ev_lenX {x : Str} (h : Ev te σ H (.str x)) (hz : x.length ≤ 1000) : Ev (tCB rLenStr (tCons te tNil)) σ H (.int (x.length : Int)) := fun H1 e Q q =>
  h H1 e _ fun H2 e2 => ⟨x, rfl, sz_of (by omega), q H2 e2⟩
end
def wholeB (d : PyData) : Bool := isI d && !isB d
def lineB (n : Nat) : PyData → Bool
  | .tuple [.str x, .int i] => decide (x.length = 1) && (decide (0 ≤ i) && decide (i < (n : Int)))
  | _ => false
def roomB (n : Nat) : PyData → Bool
  | .tuple ls => ls.all (lineB n)
  | _ => false
def formB : PyData → Bool
  | .tuple [.tuple rs, .tuple _] => decide (rs ≠ []) && rs.all (roomB rs.length)
  | _ => false
theorem wholeB_iff {d : PyData} : wholeB d = true ↔ ∃ i, d = .int i := by
  constructor
  · intro h
    cases d with
    | int i => exact ⟨i, rfl⟩
    | bool b => cases h
    | none => cases h
    | str x => cases h
    | list x => cases h
    | tuple x => cases h
    | dict x => cases h
  · rintro ⟨i, rfl⟩
    rfl
theorem lineB_two {n : Nat} {x : Str} {i : Int} : lineB n (.tuple [.str x, .int i]) = (decide (x.length = 1) && (decide (0 ≤ i) && decide (i < (n : Int)))) := rfl
theorem not_f {p : Prop} [Decidable p] (h : (!decide p) = false) : p := by
  by_cases hp : p
  · exact hp
  · rw [decide_eq_false hp] at h
    cases h
theorem Sm.at0 {k : Nat} {ds : List PyData} (h : Sm k (.tuple ds)) {i : Nat} {d : PyData} (e : ds[i]? = some d) : Sm k d := h.item.2 d (List.mem_of_getElem? e)
def spWholeQ (K : PySem.W.Frag) : Sp := fun vs H Q _ => ∃ (v : V) (d : PyData) (k : Nat), vs = [v] ∧ Dp K H v d ∧ Sm k d ∧ ∀ H', Ex H H' → Q (.bl (wholeB d)) H'
def spLineQ (K : PySem.W.Frag) : Sp := fun vs H Q _ => ∃ (v : V) (d : PyData) (k n : Nat), vs = [v, .int (n : Int)] ∧ Dp K H v d ∧ Sm k d ∧ ∀ H', Ex H H' → Q (.bl (lineB n d)) H'
def spFormQ (K : PySem.W.Frag) : Sp := fun vs H Q _ => ∃ (v : V) (d : PyData) (k : Nat), vs = [v] ∧ Dp K H v d ∧ Sm k d ∧ ∀ H', Ex H H' → Q (.bl (formB d)) H'
theorem sv_wholeQ {K : PySem.W.Frag} {H : Hp} {v : V} {d : PyData} {k : Nat} (h : Dp K H v d) (hs : Sm k d) : SpV (spWholeQ K) [v] H (.bl (wholeB d)) := fun H1 e Q q E => ⟨v, d, k, rfl, Dp.ext e h, hs, q⟩
theorem sv_lineQ {K : PySem.W.Frag} {H : Hp} {v : V} {d : PyData} {k n : Nat} (h : Dp K H v d) (hs : Sm k d) : SpV (spLineQ K) [v, .int (n : Int)] H (.bl (lineB n d)) := fun H1 e Q q E => ⟨v, d, k, n, rfl, Dp.ext e h, hs, q⟩
theorem sv_formQ {K : PySem.W.Frag} {H : Hp} {v : V} {d : PyData} {k : Nat} (h : Dp K H v d) (hs : Sm k d) : SpV (spFormQ K) [v] H (.bl (formB d)) := fun H1 e Q q E => ⟨v, d, k, rfl, Dp.ext e h, hs, q⟩
abbrev s_is_whole : Stmt := topS 13
theorem sc_is_whole : FnScope ["thing"] ["thing"] (defScope s_is_whole) := ⟨rfl, rfl, rfl, by decide +kernel, rfl, by decide +kernel, by decide +kernel⟩
abbrev s_is_line : Stmt := topS 14
theorem sc_is_line : FnScope ["thing", "many"] ["thing", "many"] (defScope s_is_line) := ⟨rfl, rfl, rfl, by decide +kernel, rfl, by decide +kernel, by decide +kernel⟩
abbrev s_has_form : Stmt := topS 15
theorem sc_has_form : FnScope ["thing", "room", "line"] ["thing"] (defScope s_has_form) := ⟨rfl, rfl, rfl, by decide +kernel, rfl, by decide +kernel, by decide +kernel⟩
section
variable {P : Program} {w : World} {K : PySem.W.Frag} {mg : Str → Option Value} {base : Heap}
theorem ok_is_whole {f : Addr} {fd : FuncData} (F : Fun K "is_whole" "is_whole" s_is_whole f fd) (T_ : Nm mg) : FnOk P w K mg base CX0 1 f fd ["thing"] (spWholeQ K) := by
  refine F.ok sc_is_whole (fun vs H Q E h => ?_) (fun cdv A outer s H vs Q E hr h => ?_)
  · obtain ⟨v, d, k, rfl, _⟩ := h
    rfl
  · obtain ⟨v, d, k, rfl, hv, hs, q⟩ := h
    refine ⟨_, (pss_one (ps_ret (pe_and (pe_callB (kC K rIsi call_isi) (by rfl) T_.n_isinstance bt_isinstance (pa_cons (pv 0) (pa_cons (pe_bltn (v := .ty "int") (by rfl) T_.n_int bt_int rfl) pa_nil))) (pe_one (pe_not (pe_callB (kC K rIsi call_isi) (by rfl) T_.n_isinstance bt_isinstance (pa_cons (pv 0) (pa_cons (pe_bltn (v := .ty "bool") (by rfl) T_.n_bool bt_bool rfl) pa_nil)))))))), ?_⟩
    exact s_ret (v := .bl (wholeB d)) (ev_andV (ev_isQ (eq_var rfl hv) (kit_I d hs.nod)) fun _ => ev_notV (ev_isQ (eq_var rfl hv) (kit_B d hs.nod))) q
theorem ok_is_line {f : Addr} {fd : FuncData} (F : Fun K "is_line" "is_line" s_is_line f fd) (T_ : Nm mg) (c_is_whole : Cl P w K mg base 1 "is_whole" (spWholeQ K)) : FnOk P w K mg base CX0 2 f fd ["thing", "many"] (spLineQ K) := by
  refine F.ok sc_is_line (fun vs H Q E h => ?_) (fun cdv A outer s H vs Q E hr h => ?_)
  · obtain ⟨v, d, k, n, rfl, _⟩ := h
    rfl
  · obtain ⟨v, d, k, n, rfl, hv, hs, q⟩ := h
    refine ⟨_, (pss_cons (ps_if (PW.pt (pw_or (pt_not (pt_val (pe_callB (kC K rIsi call_isi) (by rfl) T_.n_isinstance bt_isinstance (pa_cons (pv 0) (pa_cons (pe_bltn (v := .ty "tuple") (by rfl) T_.n_tuple bt_tuple rfl) pa_nil))))) (pw_or (pt_cmpR op_ne (pe_callB (kC K rLenS call_len_seq) (by rfl) T_.n_len PySem.boot_len (pa_cons (pv 0) pa_nil)) pe_int (nomark _)) (pw_or (pt_not (pt_val (pe_callB (kC K rIsi call_isi) (by rfl) T_.n_isinstance bt_isinstance (pa_cons (pe_ix (kI K rIxT ix_tup) (pv 0) pe_int (fun _ _ => rfl)) (pa_cons (pe_bltn (v := .ty "str") (by rfl) T_.n_str bt_str rfl) pa_nil))))) (pw_or1 (pt_cmpR op_ne (pe_callB call_len_str (by rfl) T_.n_len PySem.boot_len (pa_cons (pe_ix (kI K rIxT ix_tup) (pv 0) pe_int (fun _ _ => rfl)) pa_nil)) pe_int (nomark _)))))))
      (pss_one (ps_ret pe_bl))
      pss_nil)
      (pss_one (ps_ret (pe_and (pe_cl c_is_whole hr (by first | decide | omega) (by rfl) (pa_cons (pe_ix (kI K rIxT ix_tup) (pv 0) pe_int (fun _ _ => rfl)) pa_nil)) (pe_one (pe_chain op_le op_lt pe_int (pe_ix (kI K rIxT ix_tup) (pv 0) pe_int (fun _ _ => rfl)) (pv 1))))))), ?_⟩
    have hT : EvT _ _ H _ := et_not (et_B (ev_isQ (σ := L2.start ["thing", "many"] [v, .int (n : Int)]) (eq_var (i := 0) rfl hv) (kit_T d hs.nod)))
    have no : ∀ (hn : lineB n d = false), ∀ H', Ex H H' → Q (.bl false) H' := fun hn => by rw [hn] at q; exact q
    by_cases h1 : isT d = true
    · obtain ⟨ds, rfl⟩ : ∃ ds, d = .tuple ds := by
        cases d with
        | tuple ds => exact ⟨ds, rfl⟩
        | int i => cases h1
        | bool b => cases h1
        | none => cases h1
        | str x => cases h1
        | list x => cases h1
        | dict x => cases h1
      by_cases h2 : ds.length = 2
      · match ds, h2 with
        | [a, b], _ =>
          have ha := hs.at0 (i := 0) rfl
          have hb := hs.at0 (i := 1) rfl
          have d0 : ∀ σ : L2.St, σ[0]? = some (some v) → ∀ H', Ex H H' → EvQ K (tOp (rIxT K) (tVar 0) (tC (.int 0))) σ H' a := fun σ hσ H' e => eq_ixT (j := 0) (eq_var hσ (Dp.ext e hv)) (ev_is ev_c rfl) rfl
          have d1 : ∀ σ : L2.St, σ[0]? = some (some v) → ∀ H', Ex H H' → EvQ K (tOp (rIxT K) (tVar 0) (tC (.int 1))) σ H' b := fun σ hσ H' e => eq_ixT (j := 1) (eq_var hσ (Dp.ext e hv)) (ev_is ev_c rfl) rfl
          by_cases h3 : isS a = true
          · obtain ⟨x, rfl⟩ : ∃ x, a = .str x := by
              cases a with
              | str x => exact ⟨x, rfl⟩
              | int i => cases h3
              | bool b => cases h3
              | none => cases h3
              | tuple x => cases h3
              | list x => cases h3
              | dict x => cases h3
            have hxl : x.length ≤ 1000 := by
              cases ha with
              | str _ hl => exact hl
            refine q_when (b := !decide ((x.length : Int) = 1)) (et_is (et_or hT fun _ => et_or (et_test (ev_neI (ev_lenQ (eq_var rfl hv)) ev_c)) fun _ => et_or (et_not (et_B (ev_isQ (d0 _ rfl _ (Ex.refl _)) (kit_S _ ha.nod)))) fun _ => et_test (ev_neI (ev_lenX (ev_strQ (d0 _ rfl _ (Ex.refl _))) hxl) ev_c)) rfl) (fun hb2 H1 e1 => ?_) (fun hb2 H1 e1 => ?_)
            · have hx : ¬ x.length = 1 := fun z => by
                rw [z] at hb2
                cases hb2
              refine s_ret (v := .bl false) ev_c fun H2 e2 => no ?_ H2 (e1.trans e2)
              unfold lineB
              split
              · rename_i y i heq
                cases heq
                rw [decide_eq_false hx, Bool.false_and]
              · rfl
            · have hx : x.length = 1 := by
                have := not_f hb2
                omega
              by_cases h4 : wholeB b = true
              · obtain ⟨i, rfl⟩ := wholeB_iff.mp h4
                have h1i : ∀ H', Ex H H' → Ev (tOp (rIxT K) (tVar 0) (tC (.int 1))) (L2.start ["thing", "many"] [v, .int (n : Int)]) H' (.int i) := fun H' e => ev_intQ (d1 _ rfl H' e)
                refine s_ret (v := .bl (lineB n (.tuple [.str x, .int i]))) (ev_is (ev_andV (ev_callQ (eqa_cons (d1 _ rfl _ e1) eqa_nil) (fun vs H2 e2 hvs => by
                  cases hvs with
                  | cons h h' =>
                    cases h'
                    exact sv_wholeQ h hb)) fun _ => ev_chain' ev_c (h1i _ e1) rv_I0 (fun _ => ev_var rfl) (fun _ => rv_I0)) (congrArg V.bl ?_)) fun H2 e2 => q H2 (e1.trans e2)
                rw [lineB_two, decide_eq_true hx]
                rfl
              · rw [Bool.not_eq_true] at h4
                refine s_ret (v := .bl false) (ev_is (ev_andV (b := false) (ev_callQ (eqa_cons (d1 _ rfl _ e1) eqa_nil) (fun vs H2 e2 hvs => by
                  cases hvs with
                  | cons h h' =>
                    cases h'
                    exact sv_wholeQ h hb)) fun z => by rw [h4] at z; cases z) (by rw [h4]; rfl)) fun H2 e2 => no ?_ H2 (e1.trans e2)
                unfold lineB
                split
                · rename_i y i heq
                  cases heq
                  cases h4
                · rfl
          · rw [Bool.not_eq_true] at h3
            refine q_when (b := true) (et_is (et_or hT fun _ => et_or (et_test (ev_neI (ev_lenQ (eq_var rfl hv)) ev_c)) fun _ => et_or (b := true) (et_not (et_B (ev_isQ (d0 _ rfl _ (Ex.refl _)) (kit_S _ ha.nod)))) fun z => by rw [h3] at z; cases z) (by rw [h3]; rfl)) (fun _ H1 e1 => ?_) (fun z => by cases z)
            refine s_ret (v := .bl false) ev_c fun H2 e2 => no ?_ H2 (e1.trans e2)
            unfold lineB
            split
            · rename_i y i heq
              cases heq
              cases h3
            · rfl
      · refine q_when (b := true) (et_is (et_or hT fun _ => et_or (b := true) (et_test (ev_neI (ev_lenQ (eq_var rfl hv)) ev_c)) fun z => by
          have := not_f z
          exact absurd (by omega) h2) (by
          have : decide ((ds.length : Int) = 2) = false := decide_eq_false (by omega)
          rw [this]
          rfl)) (fun _ H1 e1 => ?_) (fun z => by cases z)
        refine s_ret (v := .bl false) ev_c fun H2 e2 => no ?_ H2 (e1.trans e2)
        unfold lineB
        split
        · rename_i y i heq
          cases heq
          exact absurd rfl h2
        · rfl
    · rw [Bool.not_eq_true] at h1
      refine q_when (b := true) (et_is (et_or (b := true) hT fun z => by rw [h1] at z; cases z) (by rw [h1]; rfl)) (fun _ H1 e1 => ?_) (fun z => by cases z)
      refine s_ret (v := .bl false) ev_c fun H2 e2 => no ?_ H2 (e1.trans e2)
      unfold lineB
      split
      · cases h1
      · rfl
end

end TY
namespace TY
open PySem PySem.Spec PyProof.Rows L2 Evl
theorem isT_iff {d : PyData} : isT d = true ↔ ∃ ds, d = .tuple ds := by
  constructor
  · intro h
    cases d with
    | tuple ds => exact ⟨ds, rfl⟩
    | int i => cases h
    | bool b => cases h
    | none => cases h
    | str x => cases h
    | list x => cases h
    | dict x => cases h
  · rintro ⟨i, rfl⟩
    rfl
theorem isS_iff {d : PyData} : isS d = true ↔ ∃ x, d = .str x := by
  constructor
  · intro h
    cases d with
    | str ds => exact ⟨ds, rfl⟩
    | int i => cases h
    | bool b => cases h
    | none => cases h
    | tuple x => cases h
    | list x => cases h
    | dict x => cases h
  · rintro ⟨i, rfl⟩
    rfl
theorem formB_two {rs es : List PyData} : formB (.tuple [.tuple rs, .tuple es]) = (decide (rs ≠ []) && rs.all (roomB rs.length)) := rfl
theorem roomB_tup {n : Nat} {r : PyData} (h : roomB n r = true) : isT r = true := by
  cases r with
  | tuple ds => rfl
  | int i => cases h
  | bool b => cases h
  | none => cases h
  | str x => cases h
  | list x => cases h
  | dict x => cases h
theorem bools_of {α : Type} (f : α → Bool) (as : List α) : (as.map f).map PyData.bool = (as.filter fun _ => true).map fun a => PyData.bool (f a) := by
  rw [List.map_map, List.filter_eq_self.mpr (fun _ _ => rfl)]
  rfl
section
variable {P : Program} {w : World} {K : PySem.W.Frag} {mg : Str → Option Value} {base : Heap}
theorem ok_has_form {f : Addr} {fd : FuncData} (F : Fun K "has_form" "has_form" s_has_form f fd) (T_ : Nm mg) (c_is_line : Cl P w K mg base 2 "is_line" (spLineQ K)) : FnOk P w K mg base CX0 3 f fd ["thing"] (spFormQ K) := by
  refine F.ok sc_has_form (fun vs H Q E h => ?_) (fun cdv A outer s H vs Q E hr h => ?_)
  · obtain ⟨v, d, k, rfl, _⟩ := h
    rfl
  · obtain ⟨v, d, k, rfl, hv, hs, q⟩ := h
    refine ⟨_, (pss_cons (ps_if (PW.pt (pw_or (pt_not (pt_val (pe_callB (kC K rIsi call_isi) (by rfl) T_.n_isinstance bt_isinstance (pa_cons (pv 0) (pa_cons (pe_bltn (v := .ty "tuple") (by rfl) T_.n_tuple bt_tuple rfl) pa_nil))))) (pw_or (pt_cmpR op_ne (pe_callB (kC K rLenS call_len_seq) (by rfl) T_.n_len PySem.boot_len (pa_cons (pv 0) pa_nil)) pe_int (nomark _)) (pw_or (pt_not (pt_val (pe_callB (kC K rIsi call_isi) (by rfl) T_.n_isinstance bt_isinstance (pa_cons (pe_ix (kI K rIxT ix_tup) (pv 0) pe_int (fun _ _ => rfl)) (pa_cons (pe_bltn (v := .ty "tuple") (by rfl) T_.n_tuple bt_tuple rfl) pa_nil))))) (pw_or1 (pt_cmpR op_eq (pe_callB (kC K rLenS call_len_seq) (by rfl) T_.n_len PySem.boot_len (pa_cons (pe_ix (kI K rIxT ix_tup) (pv 0) pe_int (fun _ _ => rfl)) pa_nil)) pe_int (nomark _)))))))
      (pss_one (ps_ret pe_bl))
      pss_nil)
      (pss_cons (ps_if (PW.pt (pw_or (pt_not (pt_val (pe_callB (kC K rIsi call_isi) (by rfl) T_.n_isinstance bt_isinstance (pa_cons (pe_ix (kI K rIxT ix_tup) (pv 0) pe_int (fun _ _ => rfl)) (pa_cons (pe_bltn (v := .ty "tuple") (by rfl) T_.n_tuple bt_tuple rfl) pa_nil))))) (pw_or1 (pt_not (pt_val (pe_callB (kC K rAll (cr_all rfl)) (by rfl) T_.n_all bt_all (pa_cons (pe_lc (own := [("room", 1)]) (g := gName 1) (tt := tYes) rfl sc_has_form.nd (pi_tupK K (pe_ix (kI K rIxT ix_tup) (pv 0) pe_int (fun _ _ => rfl))) (blkOk_by (N := ["thing", "room", "line"]) (sc := defScope s_has_form) (by decide +kernel)) (fun _ _ _ _ _ => (pg_name (i := 1) sc_has_form.nd rfl (Or.inl rfl))) (fun _ _ _ _ _ => pts_nil) (fun _ _ _ _ _ => (pe_callB (kC K rIsi call_isi) (by rfl) T_.n_isinstance bt_isinstance (pa_cons (pv 1) (pa_cons (pe_bltn (v := .ty "tuple") (by rfl) T_.n_tuple bt_tuple rfl) pa_nil))))) pa_nil)))))))
      (pss_one (ps_ret pe_bl))
      pss_nil)
      (pss_one (ps_ret (pe_callB (kC K rAll (cr_all rfl)) (by rfl) T_.n_all bt_all (pa_cons (pe_lc (own := [("room", 1)]) (g := gName 1) (tt := tYes) rfl sc_has_form.nd (pi_tupK K (pe_ix (kI K rIxT ix_tup) (pv 0) pe_int (fun _ _ => rfl))) (blkOk_by (N := ["thing", "room", "line"]) (sc := defScope s_has_form) (by decide +kernel)) (fun _ _ _ _ _ => (pg_name (i := 1) sc_has_form.nd rfl (Or.inl rfl))) (fun _ _ _ _ _ => pts_nil) (fun _ _ _ _ _ => (pe_callB (kC K rAll (cr_all rfl)) (by rfl) T_.n_all bt_all (pa_cons (pe_lc (own := [("line", 2)]) (g := gName 2) (tt := tYes) rfl sc_has_form.nd (pi_tupK K (pv 1)) (blkOk_by (N := ["thing", "room", "line"]) (by rfl)) (fun _ _ _ _ _ => (pg_name (i := 2) sc_has_form.nd rfl (Or.inl rfl))) (fun _ _ _ _ _ => pts_nil) (fun _ _ _ _ _ => (pe_cl c_is_line hr (by first | decide | omega) (by rfl) (pa_cons (pv 2) (pa_cons (pe_callB (kC K rLenS call_len_seq) (by rfl) T_.n_len PySem.boot_len (pa_cons (pe_ix (kI K rIxT ix_tup) (pv 0) pe_int (fun _ _ => rfl)) pa_nil)) pa_nil))))) pa_nil)))) pa_nil)))))), ?_⟩
    have hT : EvT _ _ H _ := et_not (et_B (ev_isQ (σ := L2.start ["thing", "room", "line"] [v]) (eq_var (i := 0) rfl hv) (kit_T d hs.nod)))
    have no : ∀ (hn : formB d = false), ∀ H', Ex H H' → Q (.bl false) H' := fun hn => by rw [hn] at q; exact q
    by_cases h1 : isT d = true
    · obtain ⟨ds, rfl⟩ := isT_iff.mp h1
      by_cases h2 : ds.length = 2
      · match ds, h2 with
        | [a, b], _ =>
          have ha := hs.at0 (i := 0) rfl
          have hb := hs.at0 (i := 1) rfl
          have d0 : ∀ σ : L2.St, σ[0]? = some (some v) → ∀ H', Ex H H' → EvQ K (tOp (rIxT K) (tVar 0) (tC (.int 0))) σ H' a := fun σ hσ H' e => eq_ixT (j := 0) (eq_var hσ (Dp.ext e hv)) (ev_is ev_c rfl) rfl
          have d1 : ∀ σ : L2.St, σ[0]? = some (some v) → ∀ H', Ex H H' → EvQ K (tOp (rIxT K) (tVar 0) (tC (.int 1))) σ H' b := fun σ hσ H' e => eq_ixT (j := 1) (eq_var hσ (Dp.ext e hv)) (ev_is ev_c rfl) rfl
          by_cases h3 : isT a = true
          · obtain ⟨rs, rfl⟩ := isT_iff.mp h3
            have hrs := ha.item
            refine q_when (b := decide ((rs.length : Int) = 0)) (et_is (et_or hT fun _ => et_or (et_test (ev_neI (ev_lenQ (eq_var rfl hv)) ev_c)) fun _ => et_or (et_not (et_B (ev_isQ (d0 _ rfl _ (Ex.refl _)) (kit_T _ ha.nod)))) fun _ => et_test (ev_eqI (ev_lenQ (d0 _ rfl _ (Ex.refl _))) ev_c)) rfl) (fun hb2 H1 e1 => ?_) (fun hb2 H1 e1 => ?_)
            · have hx : rs = [] := List.eq_nil_of_length_eq_zero (by have := of_decide_eq_true hb2; omega)
              refine s_ret (v := .bl false) ev_c fun H2 e2 => no ?_ H2 (e1.trans e2)
              subst hx
              cases b <;> rfl
            · have hx : rs ≠ [] := fun z => by
                have := of_decide_eq_false hb2
                rw [z] at this
                exact this rfl
              refine q_when (b := !isT b || !((rs.map isT).all id)) (et_or (et_not (et_B (ev_isQ (d1 _ rfl _ e1) (kit_T _ hb.nod)))) fun _ => et_not (et_B (ev_all' (by
                rw [bools_of]
                exact en_lcQ rs (fun _ => true) _ (ei_tupQ (d0 _ rfl _ e1)) (by omega) fun r hr x H2 e2 hxr => ⟨_, bnd_name, rfl, et_yes, fun _ => ed_bl (ev_isQ (eq_var rfl hxr) (kit_T r (hrs.2 r hr).nod))⟩)))) (fun hb3 H2 e2 => ?_) (fun hb3 H2 e2 => ?_)
              · refine s_ret (v := .bl false) ev_c fun H3 e3 => no ?_ H3 ((e1.trans e2).trans e3)
                rw [Bool.or_eq_true, Bool.not_eq_true', Bool.not_eq_true'] at hb3
                rcases hb3 with h | h
                · cases b <;> first | rfl | cases h
                · by_cases hbt : isT b = true
                  · obtain ⟨es, rfl⟩ := isT_iff.mp hbt
                    rw [formB_two, Bool.and_eq_false_iff]
                    refine .inr ?_
                    rw [← Bool.not_eq_true]
                    intro z
                    rw [List.all_eq_true] at z
                    have : (rs.map isT).all id = true := by
                      rw [List.all_map, List.all_eq_true]
                      exact fun r hr => roomB_tup (z r hr)
                    rw [this] at h
                    cases h
                  · cases b <;> first | rfl | exact absurd rfl hbt
              · rw [Bool.or_eq_false_iff, Bool.not_eq_false', Bool.not_eq_false'] at hb3
                obtain ⟨es, rfl⟩ := isT_iff.mp hb3.1
                have hall : ∀ r ∈ rs, isT r = true := by
                  have := hb3.2
                  rw [List.all_map, List.all_eq_true] at this
                  exact this
                have e12 := e1.trans e2
                refine s_ret (v := .bl (formB (.tuple [.tuple rs, .tuple es]))) (ev_is (ev_all' (bs := rs.map (roomB rs.length)) ?_) (congrArg V.bl ?_)) fun H3 e3 => q H3 (e12.trans e3)
                · rw [bools_of]
                  refine en_lcQ rs (fun _ => true) _ (ei_tupQ (d0 _ rfl _ e12)) (by omega) fun r hr x H3 e3 hxr => ⟨_, bnd_name, rfl, et_yes, fun _ => ?_⟩
                  obtain ⟨ls, rfl⟩ := isT_iff.mp (hall r hr)
                  have hls := (hrs.2 _ hr).item
                  refine ed_bl (ev_is (ev_all' (bs := ls.map (lineB rs.length)) ?_) (congrArg V.bl (by rw [List.all_map]; rfl)))
                  rw [bools_of]
                  refine en_lcQ ls (fun _ => true) _ (ei_tupQ (eq_var rfl hxr)) (by omega) fun ln hln y H4 e4 hyl => ⟨_, bnd_name, rfl, et_yes, fun _ => ?_⟩
                  refine ed_bl (ev_callQ (eqa_cons (eq_var rfl hyl) (eqa_cons (eq_int (ev_lenQ (d0 _ rfl _ ((e12.trans e3).trans e4)))) eqa_nil)) fun vs H5 e5 hvs => ?_)
                  cases hvs with
                  | cons g1 g2 =>
                    cases g2 with
                    | cons g3 g4 =>
                      cases g3
                      cases g4
                      exact sv_lineQ g1 (hls.2 ln hln)
                · rw [formB_two, decide_eq_true hx, Bool.true_and, List.all_map]
                  rfl
          · rw [Bool.not_eq_true] at h3
            refine q_when (b := true) (et_is (et_or hT fun _ => et_or (et_test (ev_neI (ev_lenQ (eq_var rfl hv)) ev_c)) fun _ => et_or (b := true) (et_not (et_B (ev_isQ (d0 _ rfl _ (Ex.refl _)) (kit_T _ ha.nod)))) fun z => by rw [h3] at z; cases z) (by rw [h3]; rfl)) (fun _ H1 e1 => ?_) (fun z => by cases z)
            refine s_ret (v := .bl false) ev_c fun H2 e2 => no ?_ H2 (e1.trans e2)
            cases a <;> first | rfl | cases h3
      · refine q_when (b := true) (et_is (et_or hT fun _ => et_or (b := true) (et_test (ev_neI (ev_lenQ (eq_var rfl hv)) ev_c)) fun z => by
          have := not_f z
          exact absurd (by omega) h2) (by
          have : decide ((ds.length : Int) = 2) = false := decide_eq_false (by omega)
          rw [this]
          rfl)) (fun _ H1 e1 => ?_) (fun z => by cases z)
        refine s_ret (v := .bl false) ev_c fun H2 e2 => no ?_ H2 (e1.trans e2)
        unfold formB
        split
        · rename_i y i heq
          cases heq
          exact absurd rfl h2
        · rfl
    · rw [Bool.not_eq_true] at h1
      refine q_when (b := true) (et_is (et_or (b := true) hT fun z => by rw [h1] at z; cases z) (by rw [h1]; rfl)) (fun _ H1 e1 => ?_) (fun z => by cases z)
      refine s_ret (v := .bl false) ev_c fun H2 e2 => no ?_ H2 (e1.trans e2)
      cases d <;> first | rfl | cases h1
end

end TY
namespace TY
open PySem PySem.Spec PyProof.Rows L2 Evl
/-! ### layers of rooms, each with a word -/
theorem inl_inj' {a b : Nat} (h : (Sum.inl (a : Int) : Key) = Sum.inl (b : Int)) : a = b := by
  have := Sum.inl.inj h
  omega
def putL (g : Nat) (x : List Nat) : List (Nat × List Nat) → List (Nat × List Nat)
  | [] => [(g, x)]
  | (r, y) :: ws => if r = g then (r, x) :: ws else (r, y) :: putL g x ws
def getL : List (Nat × List Nat) → Nat → List Nat
  | [], _ => []
  | (r, x) :: ws, g => if r = g then x else getL ws g
def kvsL (ws : List (Nat × List Nat)) : List (Key × V) := ws.map fun p => ((Sum.inl (p.1 : Int) : Key), V.str (S p.2))
theorem kvsL_val (g : Nat) : ∀ ws : List (Nat × List Nat), valV (kvsL ws) (Sum.inl (g : Int)) = if g ∈ ws.map Prod.fst then some (.str (S (getL ws g))) else none
  | [] => by simp [kvsL, valV]
  | (r, x) :: ws => by
    show valV (_ :: kvsL ws) _ = _
    by_cases h : r = g
    · subst h
      rw [valV_pos rfl, if_pos (by simp)]
      unfold getL
      rw [if_pos rfl]
    · have ev : getL ((r, x) :: ws) g = getL ws g := if_neg h
      rw [valV_neg (fun z => h (inl_inj' z)), kvsL_val g ws, ev]
      have h3 : ¬ g = r := fun z => h z.symm
      by_cases hm : g ∈ ws.map Prod.fst
      · rw [if_pos hm, if_pos (by rw [List.map_cons]; exact List.mem_cons_of_mem _ hm)]
      · rw [if_neg hm, if_neg (by rw [List.map_cons, List.mem_cons, not_or]; exact ⟨h3, hm⟩)]
theorem getL_of {ws : List (Nat × List Nat)} : (ws.map Prod.fst).Nodup → ∀ p ∈ ws, getL ws p.1 = p.2 := by
  induction ws with
  | nil => intro _ p hp; cases hp
  | cons q ws ih =>
    obtain ⟨r, x⟩ := q
    intro hn p hp
    have hn' := List.nodup_cons.mp hn
    rcases List.mem_cons.mp hp with z | z
    · rw [z]
      exact if_pos rfl
    · have hne : ¬ r = p.1 := fun e => hn'.1 (by
        rw [e]
        exact List.mem_map.mpr ⟨p, z, rfl⟩)
      exact (if_neg hne).trans (ih hn'.2 p z)
theorem putL_keys (x : List Nat) (g : Nat) : ∀ ws : List (Nat × List Nat), (putL g x ws).map Prod.fst = if g ∈ ws.map Prod.fst then ws.map Prod.fst else ws.map Prod.fst ++ [g]
  | [] => rfl
  | (r, y) :: ws => by
    unfold putL
    by_cases h : r = g
    · rw [if_pos h, if_pos (by simp [h])]
      rfl
    · rw [if_neg h, List.map_cons, putL_keys x g ws]
      have h3 : ¬ g = r := fun z => h z.symm
      by_cases hm : g ∈ ws.map Prod.fst
      · rw [if_pos hm, if_pos (by rw [List.map_cons]; exact List.mem_cons_of_mem _ hm)]
        rfl
      · rw [if_neg hm, if_neg (by simp only [List.map_cons, List.mem_cons, not_or]; exact ⟨h3, hm⟩)]
        rfl
theorem putL_key {x : List Nat} {g k : Nat} {ws : List (Nat × List Nat)} : k ∈ (putL g x ws).map Prod.fst ↔ k ∈ ws.map Prod.fst ∨ g = k := by
  rw [putL_keys]
  by_cases hm : g ∈ ws.map Prod.fst
  · rw [if_pos hm]
    exact ⟨.inl, fun h => h.elim id fun z => by rw [← z]; exact hm⟩
  · rw [if_neg hm, List.mem_append, List.mem_singleton]
    exact ⟨fun h => h.imp id fun z => z.symm, fun h => h.imp id fun z => z.symm⟩
theorem putL_nodup {x : List Nat} {g : Nat} {ws : List (Nat × List Nat)} (h : (ws.map Prod.fst).Nodup) : ((putL g x ws).map Prod.fst).Nodup := by
  rw [putL_keys]
  split
  · exact h
  · rename_i hn
    exact List.nodup_append.mpr ⟨h, by simp, fun a ha b hb z => by
      rw [List.mem_singleton] at hb
      exact hn (by rw [← hb, ← z]; exact ha)⟩
theorem putL_mem {x : List Nat} {g : Nat} {p : Nat × List Nat} : ∀ {ws : List (Nat × List Nat)}, p ∈ putL g x ws → p = (g, x) ∨ p ∈ ws
  | [], h => .inl (List.mem_singleton.mp h)
  | (r, y) :: ws, h => by
    unfold putL at h
    split at h
    · rename_i e
      rcases List.mem_cons.mp h with z | z
      · left
        rw [z, e]
      · exact .inr (List.mem_cons_of_mem _ z)
    · rcases List.mem_cons.mp h with z | z
      · exact .inr (by rw [z]; exact List.mem_cons_self)
      · exact (putL_mem z).imp id fun z => List.mem_cons_of_mem _ z
theorem kvsL_put {x : List Nat} {g : Nat} : ∀ ws : List (Nat × List Nat), (ws.map Prod.fst).Nodup → putK (kvsL ws) (Sum.inl (g : Int)) (.str (S x)) = kvsL (putL g x ws)
  | [], _ => rfl
  | (r, y) :: ws, hn => by
    have hn' := List.nodup_cons.mp hn
    by_cases h : r = g
    · subst h
      unfold putL
      rw [if_pos rfl]
      unfold putK kvsL
      rw [if_pos (by simp)]
      rw [List.map_cons, List.map_cons, List.map_cons]
      congr 1
      · rw [if_pos rfl]
      · rw [List.map_map]
        refine List.map_congr_left fun p hp => ?_
        refine if_neg fun z => hn'.1 ?_
        have : p.1 = r := inl_inj' z
        rw [← this]
        exact List.mem_map.mpr ⟨p, hp, rfl⟩
    · have ih := kvsL_put (x := x) (g := g) ws hn'.2
      have ea : putL g x ((r, y) :: ws) = (r, y) :: putL g x ws := if_neg h
      rw [ea]
      have hne : ¬ (Sum.inl (r : Int) : Key) = Sum.inl (g : Int) := fun z => h (inl_inj' z)
      show _ = (Sum.inl (r : Int), V.str (S y)) :: kvsL (putL g x ws)
      rw [← ih]
      unfold putK
      have e0 : ((kvsL ((r, y) :: ws)).any fun kv => decide (kv.1 = Sum.inl (g : Int))) = ((kvsL ws).any fun kv => decide (kv.1 = Sum.inl (g : Int))) := by
        show (decide ((Sum.inl (r : Int) : Key) = Sum.inl (g : Int)) || _) = _
        rw [decide_eq_false hne, Bool.false_or]
        rfl
      rw [e0]
      split
      · show (if _ then _ else _) :: _ = _
        rw [if_neg hne]
        rfl
      · rfl
theorem ex_cons {α : Type} {P : α → Prop} {a : α} {as : List α} : (∃ x ∈ a :: as, P x) ↔ P a ∨ ∃ x ∈ as, P x := by
  constructor
  · rintro ⟨x, hx, h⟩
    rcases List.mem_cons.mp hx with rfl | z
    · exact .inl h
    · exact .inr ⟨x, z, h⟩
  · rintro (h | ⟨x, hx, h⟩)
    · exact ⟨a, List.mem_cons_self, h⟩
    · exact ⟨x, List.mem_cons_of_mem _ hx, h⟩
def lineL (x : List Nat) (M : List (Nat × List Nat)) (p : Nat × Nat) : List (Nat × List Nat) := putL p.2 (x ++ [p.1]) M
def roomL (R : List (List (Nat × Nat))) (M : List (Nat × List Nat)) (q : Nat × List Nat) : List (Nat × List Nat) := (R.getD q.1 []).foldl (lineL q.2) M
theorem lines_key {x : List Nat} {k : Nat} : ∀ (ls : List (Nat × Nat)) (M : List (Nat × List Nat)), k ∈ (ls.foldl (lineL x) M).map Prod.fst ↔ k ∈ M.map Prod.fst ∨ ∃ p ∈ ls, p.2 = k
  | [], M => by simp
  | p :: ls, M => by
    rw [List.foldl_cons, lines_key ls]
    unfold lineL
    rw [putL_key, ex_cons, or_assoc]
theorem rooms_key {R : List (List (Nat × Nat))} {k : Nat} : ∀ (L : List (Nat × List Nat)) (M : List (Nat × List Nat)), k ∈ (L.foldl (roomL R) M).map Prod.fst ↔ k ∈ M.map Prod.fst ∨ ∃ q ∈ L, ∃ p ∈ R.getD q.1 [], p.2 = k
  | [], M => by simp
  | q :: L, M => by
    rw [List.foldl_cons, rooms_key L]
    have h1 : k ∈ (roomL R M q).map Prod.fst ↔ _ := lines_key _ _
    rw [h1, ex_cons, or_assoc]
/-- a layer on the way: all rooms there, words of t letters -/
structure PreR (R : List (List (Nat × Nat))) (t : Nat) (L : List (Nat × List Nat)) : Prop where
  nodup : (L.map Prod.fst).Nodup
  lt : ∀ p ∈ L, p.1 < R.length
  len : ∀ p ∈ L, p.2.length = t
  mach : ∀ w, R = linesR w → ∀ p ∈ L, p.2 <:+: w ∧ p.1 = numN w (endN w p.2)
theorem PreR.nil {R : List (List (Nat × Nat))} {t : Nat} : PreR R t [] := ⟨by simp, fun p h => (by cases h), fun p h => (by cases h), fun w _ p h => (by cases h)⟩
theorem PreR.size {R : List (List (Nat × Nat))} {t : Nat} {L : List (Nat × List Nat)} (h : PreR R t L) : L.length ≤ R.length := by
  have := nodup_le (id : Nat → Nat) (L.map Prod.fst) (List.range R.length) h.nodup fun x hx => by
    obtain ⟨p, hp, rfl⟩ := List.mem_map.mp hx
    exact ⟨p.1, List.mem_range.mpr (h.lt p hp), rfl⟩
  rw [List.length_map, List.length_range] at this
  exact this
theorem PreR.put {R : List (List (Nat × Nat))} {t g : Nat} {x : List Nat} {L : List (Nat × List Nat)} (h : PreR R t L) (hg : g < R.length) (hx : x.length = t) (hm : ∀ w, R = linesR w → x <:+: w ∧ g = numN w (endN w x)) : PreR R t (putL g x L) where
  nodup := putL_nodup h.nodup
  lt := fun p hp => by
    rcases putL_mem hp with rfl | z
    · exact hg
    · exact h.lt p z
  len := fun p hp => by
    rcases putL_mem hp with rfl | z
    · exact hx
    · exact h.len p z
  mach := fun w hw p hp => by
    rcases putL_mem hp with rfl | z
    · exact hm w hw
    · exact h.mach w hw p z
theorem line_of {w u : List Nat} (hu : u <:+: w) : (linesR w).getD (numN w (endN w u)) [] = linesN w (endN w u) := by
  unfold linesR
  rw [List.getD_eq_getElem?_getD, List.getElem?_map, num_get (part_room u hu)]
  rfl
theorem PreR.line {R : List (List (Nat × Nat))} (hG : GoodR R) {t : Nat} {q : Nat × List Nat} (hq : q.1 < R.length) (hql : q.2.length = t) (hqm : ∀ w, R = linesR w → q.2 <:+: w ∧ q.1 = numN w (endN w q.2)) {p : Nat × Nat} (hp : p ∈ R.getD q.1 []) {M : List (Nat × List Nat)} (h : PreR R (t + 1) M) : PreR R (t + 1) (lineL q.2 M p) := by
  refine h.put ?_ (by rw [List.length_append, hql]; rfl) fun w hw => ?_
  · rw [List.getD_eq_getElem?_getD, List.getElem?_eq_getElem hq] at hp
    exact hG.lt _ (List.getElem_mem hq) p hp
  · obtain ⟨h1, h2⟩ := hqm w hw
    subst hw
    rw [h2, line_of h1] at hp
    obtain ⟨h3, h4⟩ := linesN_mem.mp hp
    rw [goal_end] at h3 h4
    exact ⟨endN_ne.mp h3, h4⟩
theorem PreR.lines {R : List (List (Nat × Nat))} (hG : GoodR R) {t : Nat} {q : Nat × List Nat} (hq : q.1 < R.length) (hql : q.2.length = t) (hqm : ∀ w, R = linesR w → q.2 <:+: w ∧ q.1 = numN w (endN w q.2)) : ∀ (ls : List (Nat × Nat)) (M : List (Nat × List Nat)), (∀ p ∈ ls, p ∈ R.getD q.1 []) → PreR R (t + 1) M → PreR R (t + 1) (ls.foldl (lineL q.2) M)
  | [], M, _, h => h
  | p :: ls, M, hls, h => PreR.lines hG hq hql hqm ls _ (fun p hp => hls p (List.mem_cons_of_mem _ hp)) (PreR.line hG hq hql hqm (hls p List.mem_cons_self) h)
theorem PreR.rooms {R : List (List (Nat × Nat))} (hG : GoodR R) {t : Nat} {L0 : List (Nat × List Nat)} (h0 : PreR R t L0) : ∀ (L M : List (Nat × List Nat)), (∀ q ∈ L, q ∈ L0) → PreR R (t + 1) M → PreR R (t + 1) (L.foldl (roomL R) M)
  | [], M, _, h => h
  | q :: L, M, hL, h => by
    have hq := hL q List.mem_cons_self
    exact PreR.rooms hG h0 L _ (fun p hp => hL p (List.mem_cons_of_mem _ hp)) (PreR.lines hG (h0.lt q hq) (h0.len q hq) (fun w hw => h0.mach w hw q hq) _ _ (fun p hp => hp) h)
/-- a whole layer -/
structure LayR (R : List (List (Nat × Nat))) (t : Nat) (L : List (Nat × List Nat)) : Prop where
  pre : PreR R t L
  all : ∀ w, R = linesR w → ∀ u, u <:+: w → u.length = t → numN w (endN w u) ∈ L.map Prod.fst
theorem lay_zero {R : List (List (Nat × Nat))} (hG : GoodR R) : LayR R 0 [(0, [])] where
  pre := (PreR.nil (t := 0)).put (g := 0) (x := []) hG.pos rfl fun w hw => ⟨List.nil_infix, (num_zero w).symm⟩
  all := fun w hw u hu hl => by
    have : u = [] := List.eq_nil_of_length_eq_zero hl
    subst this
    rw [num_zero]
    exact List.mem_singleton.mpr rfl
theorem lay_next {R : List (List (Nat × Nat))} (hG : GoodR R) {t : Nat} {L : List (Nat × List Nat)} (h : LayR R t L) : LayR R (t + 1) (L.foldl (roomL R) []) where
  pre := PreR.rooms hG h.pre L [] (fun _ hq => hq) .nil
  all := fun w hw u hu hl => by
    obtain ⟨v, c, rfl⟩ : ∃ v c, u = v ++ [c] := by
      have hne : u ≠ [] := fun z => by
        rw [z] at hl
        cases hl
      exact ⟨u.dropLast, u.getLast hne, (List.dropLast_concat_getLast hne).symm⟩
    have hv := infix_snoc hu
    have hvl : v.length = t := by
      rw [List.length_append] at hl
      have : ([c] : List Nat).length = 1 := rfl
      omega
    have hk := h.all w hw v hv hvl
    obtain ⟨q, hq, hqe⟩ := List.mem_map.mp hk
    rw [rooms_key]
    refine .inr ⟨q, hq, (c, numN w (endN w (v ++ [c]))), ?_, rfl⟩
    rw [hqe, hw, line_of hv, linesN_mem]
    rw [goal_end]
    exact ⟨endN_ne.mpr hu, rfl⟩
/-- the word so far -/
structure WdR (R : List (List (Nat × Nat))) (t : Nat) (u : List Nat) : Prop where
  zero : t = 0 → u = []
  len : 0 < t → u.length + 1 = t
  mach : ∀ w, R = linesR w → u <:+: w
def Longest (R : List (List (Nat × Nat))) (u : List Nat) : Prop := u.length ≤ 25 ∧ ∀ w, R = linesR w → (w.length ≤ 24 → u = w) ∧ (24 < w.length → 24 < u.length)
theorem longest_end {R : List (List (Nat × Nat))} {t : Nat} {L : List (Nat × List Nat)} {u : List Nat} (hL : LayR R t L) (hW : WdR R t u) (ht : t ≤ 26) (he : L = [] ∨ 24 < u.length) : Longest R u := by
  have hul : u.length ≤ 25 := by
    by_cases h : t = 0
    · rw [hW.zero h]
      exact Nat.zero_le _
    · have := hW.len (by omega)
      omega
  refine ⟨hul, fun w hw => ?_⟩
  have hi := hW.mach w hw
  have hle := hi.length_le
  rcases he with he | he
  · have hlt : w.length < t := Classical.byContradiction fun z => by
      have h1 : (w.take t) <:+: w := (List.take_prefix t w).isInfix
      have h2 := hL.all w hw _ h1 (by rw [List.length_take]; omega)
      rw [he] at h2
      cases h2
    have hl2 := hW.len (by omega)
    have hlen : u.length = w.length := by omega
    exact ⟨fun _ => hi.eq_of_length hlen, fun h => by omega⟩
  · exact ⟨fun h => by omega, fun _ => he⟩

end TY
namespace TY
open PySem PySem.Spec PyProof.Rows L2 Evl
/-! ### is_text -/
def alph : List Nat := ("abcdefghijklmnopqrstuvwxyz" : Str).cps.toList
theorem alph_mem {c : Nat} : c ∈ alph ↔ 97 ≤ c ∧ c ≤ 122 := by
  have h1 : ∀ x ∈ alph, 97 ≤ x ∧ x ≤ 122 := by decide +kernel
  have h2 : ∀ k : Nat, k < 26 → 97 + k ∈ alph := by decide +kernel
  constructor
  · exact h1 c
  · rintro ⟨h3, h4⟩
    have h5 := h2 (c - 97) (by omega)
    have e : 97 + (c - 97) = c := by omega
    rw [e] at h5
    exact h5
def isTextV (l : List Nat) : Bool := decide (l.length ≤ 24) && l.all fun c => decide (c ∈ alph)
theorem isTextV_of {l : List Nat} (h : Low l) (hl : l.length ≤ 24) : isTextV l = true := by
  unfold isTextV
  rw [decide_eq_true hl, Bool.true_and, List.all_eq_true]
  intro c hc
  exact decide_eq_true (alph_mem.mpr (h c hc))
/-- a value that is no text -/
def NoStr (K : PySem.W.Frag) (H : Hp) (v : V) : Prop := ∃ T, kitB T "str" = some false ∧ TyX K H v (.type T)
section
variable {K : PySem.W.Frag} {σ : L2.St} {H H' : Hp} {te ta tb : TE} {tA : TA} {v : V}
theorem TyOf.ex {t : Value} (e : Ex H H') (h : TyOf K H v t) : TyOf K H' v t := by
  cases h with
  | non => exact .non
  | bl b => exact .bl b
  | int i => exact .int i
  | str x => exact .str x
  | flt x => exact .flt x
  | lst h => exact .lst (e _ _ h)
  | frz h => exact .frz (e _ _ h)
  | tup h => exact .tup (e _ _ h)
  | dK h => exact .dK (e _ _ h)
  | dT h => exact .dT (e _ _ h)
  | ins h c a b d f => exact .ins (e _ _ h) c a b d f
theorem TyX.ex {t : Value} (e : Ex H H') (h : TyX K H v t) : TyX K H' v t := by
  cases h with
  | base h => exact .base (TyOf.ex e h)
  | byt b => exact .byt b
  | set h => exact .set (e _ _ h)
  | kList h c => exact .kList h c
  | kTuple h c => exact .kTuple h c
  | kDict h c => exact .kDict h c
  | fTuple h => exact .fTuple (e _ _ h)
  | fDict h => exact .fDict (e _ _ h)
theorem NoStr.ex (e : Ex H H') (h : NoStr K H v) : NoStr K H' v := by
  obtain ⟨T, h1, h2⟩ := h
  exact ⟨T, h1, TyX.ex e h2⟩
theorem NoStr.lst {a : Addr} {xs : List V} (h : H a = some (.lst xs)) : NoStr K H (.ref a) := ⟨"list", by decide +kernel, .base (.lst h)⟩
theorem NoStr.tup {a : Addr} {xs : List V} (h : H a = some (.tup xs)) : NoStr K H (.ref a) := ⟨"tuple", by decide +kernel, .base (.tup h)⟩
theorem NoStr.int (i : Int) : NoStr K H (.int i) := ⟨"int", by decide +kernel, .base (.int i)⟩
theorem NoStr.bl (b : Bool) : NoStr K H (.bl b) := ⟨"bool", by decide +kernel, .base (.bl b)⟩
theorem NoStr.non : NoStr K H .non := ⟨"NoneType", by decide +kernel, .base .non⟩
/-- what evaluates to something of which P -/
def EvP (te : TE) (σ : L2.St) (H : Hp) (P : Hp → V → Prop) : Prop := ∀ H1, Ex H H1 → ∀ Q : VK, (∀ v H2, Ex H1 H2 → P H2 v → Q v H2) → te σ H1 Q
def EvAP (ta : TA) (σ : L2.St) (H : Hp) (n : Nat) (P : Hp → V → Prop) : Prop := ∀ H1, Ex H H1 → ∀ Q : List V → Hp → Prop, (∀ vs H2, Ex H1 H2 → vs.length = n → (∀ v ∈ vs, P H2 v) → Q vs H2) → ta σ H1 Q
variable {P : Hp → V → Prop}
theorem ep_ev (h : Ev te σ H v) (hp : ∀ H', Ex H H' → P H' v) : EvP te σ H P := fun H1 e Q q => h H1 e Q fun H2 e2 => q v H2 e2 (hp H2 (e.trans e2))
theorem ep_n {ds : List PyData} (h : EvN te σ H ds) (hp : ∀ H' a xs, H' a = some (.lst xs) → P H' (.ref a)) : EvP te σ H P := fun H1 e Q q => h H1 e Q fun p xs H2 _ e2 h2 _ => q _ H2 e2 (hp H2 p xs h2)
theorem ep_u {ds : List PyData} (h : EvD te σ H (.tuple ds)) (hp : ∀ H' a xs, H' a = some (.tup xs) → P H' (.ref a)) : EvP te σ H P := fun H1 e Q q => h H1 e Q fun v H2 e2 hv => by
  obtain ⟨a, xs, rfl, h1, _⟩ := hv.tup_
  exact q _ H2 e2 (hp H2 a xs h1)
theorem eap_nil : EvAP tNil σ H 0 P := fun H1 e Q q => q [] H1 (Ex.refl H1) rfl (fun v hv => by cases hv)
theorem eap_cons {n : Nat} (hP : ∀ H H' v, Ex H H' → P H v → P H' v) (h : EvP te σ H P) (hs : EvAP tA σ H n P) : EvAP (tCons te tA) σ H (n + 1) P := fun H1 e Q q =>
  h H1 e _ fun v H2 e2 hv => hs H2 (e.trans e2) _ fun vs H3 e3 hl hvs => q (v :: vs) H3 (e2.trans e3) (by rw [List.length_cons, hl]) fun x hx => by
    rcases List.mem_cons.mp hx with rfl | hx
    · exact hP _ _ _ e3 hv
    · exact hvs x hx
theorem ep_ixL {n j : Nat} (hP : ∀ H H' v, Ex H H' → P H v → P H' v) (h : EvAP tA σ H n P) (hi : Ev tb σ H (.int (j : Int))) (hj : j < n) (hn : n ≤ 100000) : EvP (tOp (rIxL K) (tLst tA) tb) σ H P := fun H1 e Q q =>
  h H1 e _ fun vs H2 e2 hl hvs => ⟨sz_of (by omega), fun p hp => hi _ ((e.trans e2).trans (Ex.new hp)) _ fun H3 e3 => by
    have hj2 : j < vs.length := by omega
    refine ⟨p, vs, (j : Int), vs[j], rfl, rfl, sq_of (e3 _ _ upd_same), atI_nat (List.getElem?_eq_getElem hj2), q _ H3 ((e2.trans (Ex.new hp)).trans e3) ?_⟩
    exact hP _ _ _ ((Ex.new hp).trans e3) (hvs _ (List.getElem_mem hj2))⟩
theorem s_asgP {D : Ends} {i : Nat} (h : EvP te σ H P) (k : ∀ v H1, Ex H H1 → P H1 v → D.nx (σ.set i (some v)) H1) : tAsg te (gName i) D σ H := h H (Ex.refl H) _ fun v H1 e hv => k v H1 e hv
theorem ev_all {bs : List Bool} (h : EvN te σ H (bs.map .bool)) : Ev (tCB (rAll K) (tCons te tNil)) σ H (.bl (bs.all id)) := fun H1 e Q q =>
  h H1 e _ fun p xs H2 hp e2 h2 h3 => by
    cases h3.bls
    exact ⟨p, bs, rfl, sq_of h2, q H2 e2⟩
theorem ev_inSign {c : Nat} {l : List Nat} (h : Ev ta σ H (.str (S [c]))) (h2 : Ev tb σ H (.str (S l))) : Ev (tOp (fun x y H Q => ∃ (c : Nat) (z : Str), x = .str ⟨#[c]⟩ ∧ y = .str z ∧ Q (.bl (decide (c ∈ z.cps.toList))) H) ta tb) σ H (.bl (decide (c ∈ l))) := fun H1 e Q q =>
  h H1 e _ fun H2 e2 => h2 H2 (e.trans e2) _ fun H3 e3 => ⟨c, S l, rfl, rfl, q H3 (e2.trans e3)⟩
end
def spIsText (K : PySem.W.Frag) : Sp := fun vs H Q _ => ∃ x, vs = [x] ∧ ((∃ l, x = .str (S l) ∧ l.length ≤ 1000 ∧ ∀ H', Ex H H' → Q (.bl (isTextV l)) H') ∨ (NoStr K H x ∧ ∀ H', Ex H H' → Q (.bl false) H'))
/-- the text's own constants -/
structure Gm (mg : Str → Option Value) : Prop where
  g_MOST : ∃ u, mg "MOST" = some u ∧ RelV (.int 24) u
  g_LETTERS : ∃ u, mg "LETTERS" = some u ∧ RelV (.str "abcdefghijklmnopqrstuvwxyz") u
abbrev s_is_text : Stmt := topS 7
theorem sc_is_text : FnScope ["thing", "sign"] ["thing"] (defScope s_is_text) := ⟨rfl, rfl, rfl, by decide +kernel, rfl, by decide +kernel, by decide +kernel⟩
section
variable {P : Program} {w : World} {K : PySem.W.Frag} {mg : Str → Option Value} {base : Heap}
theorem ok_is_text {f : Addr} {fd : FuncData} (F : Fun K "is_text" "is_text" s_is_text f fd) (T_ : Nm mg) (G_ : Gm mg) : FnOk P w K mg base CX0 1 f fd ["thing"] (spIsText K) := by
  refine F.ok sc_is_text (fun vs H Q E h => ?_) (fun cdv A outer s H vs Q E hr h => ?_)
  · obtain ⟨x, rfl, _⟩ := h
    rfl
  · obtain ⟨x, rfl, h⟩ := h
    refine ⟨_, (pss_one (ps_ret (pe_and (pe_callB (kC K rIsi call_isi) (by rfl) T_.n_isinstance bt_isinstance (pa_cons (pv 0) (pa_cons (pe_bltn (v := .ty "str") (by rfl) T_.n_str bt_str rfl) pa_nil))) (pe_and (pe_cmpR op_le (pe_callB call_len_str (by rfl) T_.n_len PySem.boot_len (pa_cons (pv 0) pa_nil)) (pe_gc (by rfl) G_.g_MOST) (nomark _)) (pe_one (pe_callB (kC K rAll (cr_all rfl)) (by rfl) T_.n_all bt_all (pa_cons (pe_lc (own := [("sign", 1)]) (g := gName 1) (tt := tYes) rfl sc_is_text.nd (pi_str (pv 0)) (blkOk_by (N := ["thing", "sign"]) (sc := defScope s_is_text) (by decide +kernel)) (fun _ _ _ _ _ => (pg_name (i := 1) sc_is_text.nd rfl (Or.inl rfl))) (fun _ _ _ _ _ => pts_nil) (fun _ _ _ _ _ => (pe_cmpR op_in_sign (pv 1) (pe_gc (by rfl) G_.g_LETTERS) rfl))) pa_nil))))))), ?_⟩
    rcases h with ⟨l, rfl, hl, q⟩ | ⟨⟨T, hT, hx⟩, q⟩
    · refine s_ret (v := .bl (isTextV l)) (ev_is (ev_andV (ev_isi (T := "str") (b := true) (ea_cons (ev_var rfl) (ea_cons ev_c ea_nil)) (fun H' _ => .base (.str _)) (by decide +kernel) (.ty _)) fun _ => ev_andV (ev_op (ev_lenStr (ev_var rfl) (by omega)) ev_c rv_I0) fun _ => ev_all (bs := l.map fun c => decide (c ∈ alph)) ?_) (congrArg V.bl ?_)) q
      · have e0 : (l.map fun c => decide (c ∈ alph)).map PyData.bool = (l.filter fun _ => true).map fun c => PyData.bool (decide (c ∈ alph)) := by
          rw [List.map_map, List.filter_eq_self.mpr (fun _ _ => rfl)]
          rfl
        rw [e0]
        refine en_lcA (fun c => PyData.str (S [c])) l (fun _ => true) _ (ei_str (ev_var rfl)) (by omega) fun c hc x H1 e1 hx => ?_
        cases hx.str_
        exact ⟨_, bnd_name, rfl, et_yes, fun _ => ed_bl (ev_inSign (ev_var rfl) (ev_is ev_c rfl))⟩
      · unfold isTextV
        have e0 : decide ((l.length : Int) ≤ 24) = decide (l.length ≤ 24) := by
          by_cases h : l.length ≤ 24
          · rw [decide_eq_true h, decide_eq_true (by omega)]
          · rw [decide_eq_false h, decide_eq_false (by omega)]
        rw [e0, Bool.true_and, List.all_map]
        rfl
    · exact s_ret (v := .bl false) (ev_is (ev_andV (b := false) (ev_isi (T := T) (b := false) (ea_cons (ev_var rfl) (ea_cons ev_c ea_nil)) (fun H' e => TyX.ex e hx) hT (.ty _)) fun z => by cases z) rfl) q
end

end TY
namespace TY
open PySem PySem.Spec PyProof.Rows L2 Evl
section
variable {K : PySem.W.Frag} {σ : L2.St} {H H0 : Hp} {td ty te tv : TE} {d b : Addr} {od : Obj} {ws : List (Nat × List Nat)} {D : Ends} {g : Nat} {x : List Nat} {ys : List V} {es : List PyData}
theorem s_forKL {j : Nat} {tu : TS} (h : Ev td σ H (.ref d)) (hd : H d = some (.frz od (.dK (kvsL ws)))) (Pv : Nat → L2.St → Hp → Prop) (h0 : ∀ H1, Ex H H1 → Pv 0 σ H1) (hG : ∀ i σ' H', Pv i σ' H' → H' d = some (.frz od (.dK (kvsL ws))))
    (hs : ∀ i p σ' H', ws[i]? = some p → Pv i σ' H' → tu { D with nx := Pv (i + 1), ct := Pv (i + 1), bk := D.nx } (σ'.set j (some (.int (p.1 : Int)))) H') (he : ∀ σ' H', Pv ws.length σ' H' → D.nx σ' H') : tFor (iKeys td) (gName j) tu D σ H :=
  h H (Ex.refl H) _ fun H1 e1 => ⟨d, od, rfl, .inl ⟨kvsL ws, e1 _ _ hd, for_it walk_keys Pv (h0 H1 e1) (fun i σ' H' _ p => hG i σ' H' p) (fun i x σ' H2 H3 hi p y => by
    obtain ⟨rfl, k, v, hk, rfl⟩ := y
    unfold kvsL at hk
    rw [List.getElem?_map] at hk
    cases hq : ws[i]? with
    | none =>
      rw [hq] at hk
      cases hk
    | some q =>
      rw [hq] at hk
      cases hk
      exact hs i q σ' _ hq p) (fun σ' H' p => he σ' H' (by
        unfold kvsL at p
        rw [List.length_map] at p
        exact p))⟩⟩
theorem ev_dgetL (h1 : Ev td σ H (.ref d)) (h2 : Ev ty σ H (.int (g : Int))) (hd : Rd H d (.dK (kvsL ws))) (hk : g ∈ ws.map Prod.fst) : Ev (tDGet td ty) σ H (.str (S (getL ws g))) := fun H1 e Q q =>
  h1 H1 e _ fun H2 e2 => h2 H2 (e.trans e2) _ fun H3 e3 => ⟨d, _, rfl, .inl ⟨kvsL ws, Sum.inl (g : Int), hd.elim (fun z => .inl (((e.trans e2).trans e3) _ _ z)) (fun ⟨o, z⟩ => .inr ⟨o, ((e.trans e2).trans e3) _ _ z⟩), rfl, by rw [kvsL_val, if_pos hk]⟩, q H3 (e2.trans e3)⟩
theorem s_putL (h1 : Ev tv σ H (.str (S x))) (h2 : Ev td σ H (.ref d)) (h3 : Ev ty σ H (.int (g : Int))) (hd : H d = some (.dK (kvsL ws))) (hn : (ws.map Prod.fst).Nodup) (hz : ws.length < 100000)
    (k : ∀ H1, Ex H H1 → D.nx σ (upd H1 d (.dK (kvsL (putL g x ws))))) : sDPut td ty tv D σ H := h1 H (Ex.refl H) _ fun H2 e2 => h2 H2 e2 _ fun H3 e3 => h3 H3 (e2.trans e3) _ fun H4 e4 => by
  have e := (e2.trans e3).trans e4
  refine ⟨d, _, rfl, DPut.k (k := Sum.inl (g : Int)) (e _ _ hd) (by unfold kvsL; rw [List.length_map]; exact sz_lt hz), ?_⟩
  rw [kvsL_put ws hn]
  exact k H4 e
theorem ev_lenK {kvs : List (Key × V)} (h : Ev td σ H (.ref d)) (hd : H d = some (.dK kvs)) : Ev (tCB (fun xs H Q => ∃ a kvs, xs = [V.ref a] ∧ H a = some (.dK kvs) ∧ Q (.int kvs.length) H) (tCons td tNil)) σ H (.int (kvs.length : Int)) := fun H1 e Q q =>
  h H1 e _ fun H2 e2 => ⟨d, kvs, rfl, (e.trans e2) _ _ hd, q H2 e2⟩
/-- a value of the least key -/
theorem q_first {tz : TS} {i : Nat} (h : ∀ H', Ex H H' → Ev td σ H' (.ref d)) (hd : H d = some (.dK (kvsL ws))) (hne : ws ≠ []) (hn : (ws.map Prod.fst).Nodup) (hz : ws.length < 64) (k : ∀ p ∈ ws, ∀ H1, Ex H H1 → tz D (σ.set i (some (.str (S p.2)))) H1) :
    tSeq (tAsg (tDGet td (tOp (rIxL K) (tCB (fun xs H Q => ∃ (a : Addr) (kvs : List (Key × V)) (ks : List Int), xs = [.ref a] ∧ Rd H a (.dK kvs) ∧ kvs.map (·.1) = ks.map Sum.inl ∧ ks.length < 64 ∧
      ∀ (ys : List Int) (p : Addr), ys.Perm ks → ys.Pairwise (· ≤ ·) → H p = none → Q (.ref p) (upd H p (.lst (ys.map V.int)))) (tCons td tNil)) (tC (.int 0)))) (gName i)) tz D σ H :=
  h H (Ex.refl H) H (Ex.refl H) _ fun H2 e2 => h H2 e2 H2 (Ex.refl _) _ fun H3 e3 => by
    have e := e2.trans e3
    refine ⟨d, kvsL ws, ws.map fun p => (p.1 : Int), rfl, .inl (e _ _ hd), by unfold kvsL; rw [List.map_map, List.map_map]; rfl, by rw [List.length_map]; exact hz, fun ys r hp _ hr => ?_⟩
    cases ys with
    | nil =>
      have := hp.length_eq
      rw [List.length_map] at this
      exact absurd (List.eq_nil_of_length_eq_zero this.symm) hne
    | cons y ys =>
      have hy := hp.mem_iff.mp List.mem_cons_self
      obtain ⟨p, hpm, rfl⟩ := List.mem_map.mp hy
      refine ⟨r, _, 0, V.int (p.1 : Int), rfl, rfl, sq_of upd_same, atI_nat (j := 0) rfl, ?_⟩
      have e4 := e.trans (Ex.new (o := .lst (((p.1 : Int) :: ys).map V.int)) hr)
      refine ⟨d, _, rfl, .inl ⟨kvsL ws, Sum.inl (p.1 : Int), .inl (e4 _ _ hd), rfl, by rw [kvsL_val, if_pos (List.mem_map.mpr ⟨p, hpm, rfl⟩)]⟩, ?_⟩
      rw [getL_of hn p hpm]
      exact k p hpm _ e4
/-- over a tuple that stood at the start, while others are stored in -/
theorem s_forB {tg : TG} {tu : TS} (he : Ev te σ H (.ref b)) (hb : SqT K H0 b ys) (hd : DpAll K H0 ys es) (e0 : Ex H0 H) (Pv : Nat → L2.St → Hp → Prop) (h0 : ∀ H1, Ex H H1 → Pv 0 σ H1) (hx : ∀ i σ' H', Pv i σ' H' → Ex H0 H')
    (hs : ∀ i e x σ' H', es[i]? = some e → Pv i σ' H' → Dp K H' x e → tg x σ' H' fun σ2 H2 => tu { D with nx := Pv (i + 1), ct := Pv (i + 1), bk := D.nx } σ2 H2)
    (hend : ∀ σ' H', Pv es.length σ' H' → D.nx σ' H') : tFor (iTup K te) tg tu D σ H := he H (Ex.refl H) _ fun H1 e1 => by
  have hl := DpAll.len hd
  refine ⟨b, rfl, ⟨ys, ex_t (e0.trans e1) hb⟩, for_it (n := es.length) (G := fun H3 => Ex H0 H3) (Y := fun i H x H' => H' = H ∧ ∃ e, es[i]? = some e ∧ Dp K H x e) ?w Pv (h0 H1 e1) (fun i σ' H' _ p => hx i σ' H' p) (fun i x σ' H2 H3 hi p y => ?_) hend⟩
  case w =>
    refine ⟨fun i H3 hi g => ⟨ys, ys[i]'(by omega), ex_t g hb, by simp⟩, fun H3 g => ⟨ys, ex_t g hb, by omega⟩, fun i H3 x H4 hi g y => ?_⟩
    obtain ⟨rfl, hy⟩ := y
    obtain ⟨d, h3, h4⟩ := DpAll.get hd (hy ys (ex_t g hb))
    exact ⟨rfl, d, h3, Dp.ext g h4⟩
  · obtain ⟨rfl, e, h1, h2⟩ := y
    exact hs i e x σ' _ h1 p h2
theorem ev_ixB {ta tb : TE} {a : Addr} {j : Nat} {xs : List V} {z : V} (h : Ev ta σ H (.ref a)) (hi : Ev tb σ H (.int (j : Int))) (ha : SqT K H a xs) (hx : xs[j]? = some z) : Ev (tOp (rIxT K) ta tb) σ H z := fun H1 e Q q =>
  h H1 e _ fun H2 e2 => hi H2 (e.trans e2) _ fun H3 e3 => ⟨a, xs, (j : Int), z, rfl, rfl, ex_t ((e.trans e2).trans e3) ha, atI_nat hx, q H3 (e2.trans e3)⟩
theorem dp_two {v : V} {d1 d2 : PyData} (h : Dp K H v (.tuple [d1, d2])) : ∃ a x y, v = .ref a ∧ SqT K H a [x, y] ∧ Dp K H x d1 ∧ Dp K H y d2 := by
  cases h with
  | tup hs ha =>
    cases ha with
    | cons h1 h2 =>
      cases h2 with
      | cons h3 h4 =>
        cases h4
        exact ⟨_, _, _, rfl, hs, h1, h3⟩
theorem bnd_pairQ {i j : Nat} {a : Addr} {x y : V} (h : SqT K H a [x, y]) : Bnd (gTup K 2 (gCons (gName i) (gCons (gName j) gNil))) (.ref a) σ H ((σ.set i (some x)).set j (some y)) := fun Q q =>
  ⟨a, [x, y], rfl, h, rfl, x, [y], rfl, y, [], rfl, rfl, q⟩
end
def spLong (K : PySem.W.Frag) : Sp := fun vs H Q _ => ∃ (v : V) (R : List (List (Nat × Nat))), vs = [v] ∧ Dp K H v (roomsD R) ∧ GoodR R ∧ R.length ≤ 63 ∧ ∀ u, Longest R u → ∀ H', Ex H H' → Q (.str (S u)) H'
abbrev s_longest_word : Stmt := topS 16
theorem sc_longest_word : FnScope ["rooms", "layer", "word", "more", "room", "letter", "goal"] ["rooms"] (defScope s_longest_word) := ⟨rfl, rfl, rfl, by decide +kernel, rfl, by decide +kernel, by decide +kernel⟩
section
variable {P : Program} {w : World} {K : PySem.W.Frag} {mg : Str → Option Value} {base : Heap}
theorem ok_longest_word {f : Addr} {fd : FuncData} (F : Fun K "longest_word" "longest_word" s_longest_word f fd) (T_ : Nm mg) (G_ : Gm mg) : FnOk P w K mg base CX0 1 f fd ["rooms"] (spLong K) := by
  refine F.ok sc_longest_word (fun vs H Q E h => ?_) (fun cdv A outer s H vs Q E hr h => ?_)
  · obtain ⟨v, R, rfl, _⟩ := h
    rfl
  · obtain ⟨v, R, rfl, hv, hG, h63, q⟩ := h
    obtain ⟨a, xs, rfl, ha, hxs⟩ : ∃ a xs, v = .ref a ∧ SqT K H a xs ∧ DpAll K H xs (R.map fun ln => .tuple (ln.map encLn)) := by
      cases hv with
      | tup hs ha => exact ⟨_, _, rfl, hs, ha⟩
    refine ⟨_, (pss_cons (ps_set (i := 1) sc_longest_word.nd rfl (.inl rfl) (pe_disp (pps_cons pe_int pe_str pps_nil) (by rfl) (by rfl) (fun z => by cases z) (by decide)))
      (pss_cons (ps_set (i := 2) sc_longest_word.nd rfl (.inl rfl) pe_str)
      (pss_cons (ps_while PassesOwn.never (PW.pt (pw_and (pt_cmpR op_gt (pe_callB call_lenD (by rfl) T_.n_len PySem.boot_len (pa_cons (pv 1) pa_nil)) pe_int (nomark _)) (pw_and1 (pt_cmpR op_le (pe_callB call_len_str (by rfl) T_.n_len PySem.boot_len (pa_cons (pv 2) pa_nil)) (pe_gc (by rfl) G_.g_MOST) (nomark _)))))
      (pss_cons (ps_set (i := 2) sc_longest_word.nd rfl (.inl rfl) (pe_dget (hu_of hr) (pv 1) (pe_ix (kI K rIxL ix_list) (pe_callB (call_sortedDI rfl) (by rfl) T_.n_sorted bt_sorted (pa_cons (pv 1) pa_nil)) pe_int (fun _ _ => rfl)) (fun _ _ => rfl)))
      (pss_cons (ps_set (i := 3) sc_longest_word.nd rfl (.inl rfl) pe_dnewK)
      (pss_cons (ps_lock (ps_for PassesOwn.never rfl (pi_keys (pv 1)) (pg_name (i := 4) sc_longest_word.nd rfl (.inl rfl))
      (pss_one (ps_for PassesOwn.never rfl (pi_tupK K (pe_ix (kI K rIxT ix_tup) (pv 0) (pv 4) (fun _ _ => rfl))) (pg_tup rfl (pgs_cons (pg_name (i := 5) sc_longest_word.nd rfl (.inl rfl)) (pgs_cons (pg_name (i := 6) sc_longest_word.nd rfl (.inl rfl)) pgs_nil)))
      (pss_one (ps_dput (hu_of hr) (pv 3) (pv 6) (pe_op op_add_str (pe_dget (hu_of hr) (pv 1) (pv 4) (fun _ _ => rfl)) (pv 5)) rfl))))))
      (pss_one (ps_set (i := 1) sc_longest_word.nd rfl (.inl rfl) (pv 3)))))))
      (pss_one (ps_ret (pv 2)))))), ?_⟩
    refine show tSeq (tAsg (tDisp [(tC (.int 0), tC (.str ""))]) (gName 1)) _ _ _ H from fun d hd => ⟨upd_same, [((Sum.inl (0 : Int) : Key), V.str "")], rfl, Nat.le_of_ble_eq_true rfl, ?_⟩
    have hd0 : (upd (upd H d (.dK [])) d (.dK (mergeK [] [((Sum.inl (0 : Int) : Key), V.str "")]))) d = some (.dK (kvsL [(0, [])])) := upd_same
    have e0 : Ex H (upd (upd H d (.dK [])) d (.dK (mergeK [] [((Sum.inl (0 : Int) : Key), V.str "")]))) := Ex.mut (Ex.new hd) hd
    generalize upd (upd H d (.dK [])) d (.dK (mergeK [] [((Sum.inl (0 : Int) : Key), V.str "")])) = H1 at hd0 e0
    refine show tSeq (tAsg (tC (.str "")) (gName 2)) _ _ (([some (.ref a), none, none, none, none, none, none] : L2.St).set 1 (some (.ref d))) _ from ?_
    refine q_asg (v := .str (S [])) (ev_is ev_c rfl) fun H2 e2 => ?_
    refine q_while (fun m σ' H' => ∃ t L u d, m + t = 26 ∧ (∃ x3 x4 x5 x6, σ' = [some (.ref a), some (.ref d), some (.str (S u)), x3, x4, x5, x6]) ∧ Ex H H' ∧ H d = none ∧ H' d = some (.dK (kvsL L)) ∧ LayR R t L ∧ WdR R t u) 26
      ⟨0, [(0, [])], [], d, rfl, ⟨_, _, _, _, rfl⟩, e0.trans e2, hd, e2 _ _ hd0, lay_zero hG, ⟨fun _ => rfl, fun z => absurd z (by decide), fun w _ => List.nil_infix⟩⟩ ?_
    rintro mm σ' H3 ⟨t, L, u, d, hmt, ⟨x3, x4, x5, x6, rfl⟩, e3, hdn, hd3, hL, hW⟩
    have hLl := hL.pre.size
    have hul : u.length ≤ 26 := by
      by_cases h : t = 0
      · rw [hW.zero h]
        exact Nat.zero_le _
      · have := hW.len (by omega)
        omega
    refine ⟨_, et_and (et_test (ev_op (ev_lenK (ev_var rfl) hd3) ev_c rv_I0)) fun _ => et_test (ev_op (ev_lenStr (ev_var rfl) (by omega)) ev_c rv_I0), fun hb H4 e4 => ?_, fun hb H4 e4 => ?_⟩
    · rw [Bool.and_eq_true] at hb
      have hb1 := of_decide_eq_true hb.1
      have hb2 := of_decide_eq_true hb.2
      have hne : L ≠ [] := fun z => by
        rw [z] at hb1
        exact absurd hb1 (by decide)
      have ht : t ≤ 25 := by
        by_cases h : t = 0
        · omega
        · have := hW.len (by omega)
          omega
      refine ⟨fun σ2 H2 => ∃ L' u' d', (∃ x3 x4 x5 x6, σ2 = [some (.ref a), some (.ref d'), some (.str (S u')), x3, x4, x5, x6]) ∧ Ex H H2 ∧ H d' = none ∧ H2 d' = some (.dK (kvsL L')) ∧ LayR R (t + 1) L' ∧ WdR R (t + 1) u', fun σ2 H2 ⟨L', u', d', h1, h2, h3, h4, h5, h6⟩ => ⟨mm - 1, by omega, t + 1, L', u', d', by omega, h1, h2, h3, h4, h5, h6⟩, ?_⟩
      refine q_first (fun H' e => ev_var rfl) (e4 _ _ hd3) hne hL.pre.nodup (by omega) fun p0 hp0 H5 e5 => ?_
      have hW' : WdR R (t + 1) p0.2 := ⟨fun z => by omega, fun _ => by rw [hL.pre.len p0 hp0], fun w hw => (hL.pre.mach w hw p0 hp0).1⟩
      have hd5 := (e4.trans e5) _ _ hd3
      have e05 := (e3.trans e4).trans e5
      refine show tSeq (tAsg tDNewK (gName 3)) _ _ _ H5 from fun m hm => ?_
      have hmn : H m = none := fresh_back e05 hm
      have hmd : m ≠ d := fun z => by
        rw [z, hd5] at hm
        cases hm
      have hd6 : (upd H5 m (.dK [])) d = some (.dK (kvsL L)) := by rw [upd_ne (Ne.symm hmd)]; exact hd5
      have e06 : Ex H (upd H5 m (.dK [])) := e05.trans (Ex.new hm)
      have hm6 : (upd H5 m (.dK [])) m = some (.dK (kvsL [])) := upd_same
      generalize upd H5 m (.dK []) = H6 at hd6 e06 hm6
      refine ⟨d, .dK (kvsL L), hd6, trivial, fun od => ?_⟩
      refine s_forKL (ws := L) (od := od) (d := d) (ev_var rfl) upd_same
        (fun i σ' H' => (∃ x4 x5 x6, σ' = [some (.ref a), some (.ref d), some (.str (S p0.2)), some (.ref m), x4, x5, x6]) ∧ Ex H H' ∧ H' d = some (.frz od (.dK (kvsL L))) ∧ H' m = some (.dK (kvsL ((L.take i).foldl (roomL R) []))))
        (fun H7 e7 => ⟨⟨_, _, _, rfl⟩, (Ex.mut e06 hdn).trans e7, e7 _ _ upd_same, e7 _ _ (by rw [upd_ne hmd]; exact hm6)⟩) (fun i σ' H' q => q.2.2.1) ?_ ?_
      · rintro i p σ' H7 hp ⟨⟨y4, y5, y6, rfl⟩, e07, hd7, hm7⟩
        obtain ⟨hiw, hpe⟩ := List.getElem?_eq_some_iff.mp hp
        have hpm : p ∈ L := List.mem_of_getElem? hp
        have htk : L.take (i + 1) = L.take i ++ [p] := by rw [List.take_succ_eq_append_getElem hiw, hpe]
        have hacc : PreR R (t + 1) ((L.take i).foldl (roomL R) []) := PreR.rooms hG hL.pre _ _ (fun q hq => List.mem_of_mem_take hq) .nil
        have hnx : (L.take (i + 1)).foldl (roomL R) [] = roomL R ((L.take i).foldl (roomL R) []) p := by
          rw [htk, List.foldl_append]
          rfl
        rw [hnx]
        generalize (L.take i).foldl (roomL R) [] = acc at hm7 hacc
        have hplR := hL.pre.lt p hpm
        have hpl := hL.pre.len p hpm
        have hpmach := fun w hw => hL.pre.mach w hw p hpm
        have hln : R[p.1]? = some R[p.1] := List.getElem?_eq_getElem hplR
        have hrl : roomL R acc p = (R[p.1]).foldl (lineL p.2) acc := by
          unfold roomL
          rw [List.getD_eq_getElem?_getD, hln]
          rfl
        have hin : ∀ c ∈ R[p.1], c ∈ R.getD p.1 [] := fun c hc => by
          rw [List.getD_eq_getElem?_getD, hln]
          exact hc
        rw [hrl]
        generalize R[p.1] = ln at hln hin
        obtain ⟨xr, hxr, hxd⟩ := DpAll.get' hxs (i := p.1) (d := .tuple (ln.map encLn)) (by rw [List.getElem?_map, hln]; rfl)
        obtain ⟨b, zs, rfl, hb, hzs⟩ : ∃ b zs, xr = .ref b ∧ SqT K H b zs ∧ DpAll K H zs (ln.map encLn) := by
          cases hxd with
          | tup hs ha => exact ⟨_, _, rfl, hs, ha⟩
        refine s_forB (H0 := H) (b := b) (ys := zs) (es := ln.map encLn) (ev_ixB (ev_var rfl) (ev_var rfl) (ex_t e07 ha) hxr) hb hzs e07
          (fun j σ' H' => (∃ y5 y6, σ' = [some (.ref a), some (.ref d), some (.str (S p0.2)), some (.ref m), some (.int (p.1 : Int)), y5, y6]) ∧ Ex H H' ∧ H' d = some (.frz od (.dK (kvsL L))) ∧ H' m = some (.dK (kvsL ((ln.take j).foldl (lineL p.2) acc))))
          (fun H8 e8 => ⟨⟨_, _, rfl⟩, e07.trans e8, e8 _ _ hd7, e8 _ _ hm7⟩) (fun j σ' H' q => q.2.1) ?_ ?_
        · rintro j dt x σ' H8 hj ⟨⟨z5, z6, rfl⟩, e08, hd8, hm8⟩ hx
          have hjl : j < ln.length := by
            have := (List.getElem?_eq_some_iff.mp hj).1
            rwa [List.length_map] at this
          have hgj : ln[j]? = some ln[j] := List.getElem?_eq_getElem hjl
          rw [List.getElem?_map, hgj] at hj
          cases hj
          have htk2 : ln.take (j + 1) = ln.take j ++ [ln[j]] := List.take_succ_eq_append_getElem hjl
          have hacc2 : PreR R (t + 1) ((ln.take j).foldl (lineL p.2) acc) := PreR.lines hG hplR hpl hpmach _ _ (fun c hc => hin c (List.mem_of_mem_take hc)) hacc
          have hst : (ln.take (j + 1)).foldl (lineL p.2) acc = putL (ln[j]).2 (p.2 ++ [(ln[j]).1]) ((ln.take j).foldl (lineL p.2) acc) := by
            rw [htk2, List.foldl_append]
            rfl
          rw [hst]
          generalize ln[j] = c at hx
          generalize (ln.take j).foldl (lineL p.2) acc = acc2 at hm8 hacc2
          obtain ⟨b2, u1, u2, rfl, hb2', hu1, hu2⟩ := dp_two hx
          cases hu1
          cases hu2
          refine bnd_pairQ hb2' _ ?_
          have hz2 := hacc2.size
          refine s_putL (ws := acc2) (g := c.2) (x := p.2 ++ [c.1]) (ev_addS (ev_is (ev_dgetL (ws := L) (g := p.1) (ev_var rfl) (ev_var rfl) (.inr ⟨od, hd8⟩) (List.mem_map.mpr ⟨p, hpm, rfl⟩)) (by rw [getL_of hL.pre.nodup p hpm])) (ev_var rfl) (by show p.2.length + 1 ≤ 100000; omega)) (ev_var rfl) (ev_var rfl) hm8 hacc2.nodup (by omega) fun H9 e9 =>
            ⟨⟨_, _, rfl⟩, Ex.mut (e08.trans e9) hmn, by rw [upd_ne (Ne.symm hmd)]; exact e9 _ _ hd8, upd_same⟩
        · rintro σ' H8 ⟨⟨z5, z6, rfl⟩, e08, hd8, hm8⟩
          rw [List.length_map, List.take_of_length_le (Nat.le_refl _)] at hm8
          exact ⟨⟨_, _, _, rfl⟩, e08, hd8, hm8⟩
      · rintro σ' H7 ⟨⟨y4, y5, y6, rfl⟩, e07, hd7, hm7⟩
        rw [List.take_of_length_le (Nat.le_refl _)] at hm7
        refine ⟨hd7, ?_⟩
        exact s_asg (v := .ref m) (ev_var rfl) fun H8 e8 => ⟨L.foldl (roomL R) [], p0.2, m, ⟨_, _, _, _, rfl⟩, (Ex.mut e07 hdn).trans e8, hmn, e8 _ _ (by rw [upd_ne hmd]; exact hm7), lay_next hG hL, hW'⟩
    · rw [Bool.and_eq_false_iff] at hb
      have he : L = [] ∨ 24 < u.length := by
        rcases hb with hb | hb
        · have := of_decide_eq_false hb
          unfold kvsL at this
          rw [List.length_map] at this
          exact .inl (List.eq_nil_of_length_eq_zero (by omega))
        · have := of_decide_eq_false hb
          exact .inr (by omega)
      exact s_ret (v := .str (S u)) (ev_var rfl) fun H5 e5 => q u (longest_end hL hW (by omega) he) H5 ((e3.trans e4).trans e5)
end

end TY
namespace TY
open PySem PySem.Spec PyProof.Rows L2 Evl
/-! ### data without true and false, without lists -/
mutual
def exactD : PyData → Bool
  | .int _ => true
  | .str _ => true
  | .tuple xs => exactAll xs
  | _ => false
def exactAll : List PyData → Bool
  | [] => true
  | x :: xs => exactD x && exactAll xs
end
theorem exactAll_iff : ∀ {xs : List PyData}, exactAll xs = true ↔ ∀ x ∈ xs, exactD x = true
  | [] => by simp [exactAll]
  | x :: xs => by
    rw [exactAll, Bool.and_eq_true, exactAll_iff, List.forall_mem_cons]
mutual
theorem exact_eq : ∀ (a b : PyData), exactD a = true → exactD b = true → PyData.eqv a b = true → a = b
  | .int i, b, _, hb, h => by
    cases b with
    | int j =>
      rw [PyData.eqv] at h
      rw [eq_of_beq h]
    | bool c => simp [exactD] at hb
    | none => simp [exactD] at hb
    | str x => simp [PyData.eqv] at h
    | list x => simp [exactD] at hb
    | tuple x => simp [PyData.eqv] at h
    | dict x => simp [exactD] at hb
  | .str i, b, _, hb, h => by
    cases b with
    | str j =>
      rw [PyData.eqv] at h
      rw [eq_of_beq h]
    | bool c => simp [exactD] at hb
    | none => simp [exactD] at hb
    | int x => simp [PyData.eqv] at h
    | list x => simp [exactD] at hb
    | tuple x => simp [PyData.eqv] at h
    | dict x => simp [exactD] at hb
  | .tuple xs, b, ha, hb, h => by
    cases b with
    | tuple ys =>
      rw [PyData.eqv] at h
      rw [exactD] at ha hb
      rw [exactAll_eq xs ys ha hb h]
    | bool c => simp [exactD] at hb
    | none => simp [exactD] at hb
    | int x => simp [PyData.eqv] at h
    | list x => simp [exactD] at hb
    | str x => simp [PyData.eqv] at h
    | dict x => simp [exactD] at hb
  | .none, b, ha, hb, h => by simp [exactD] at ha
  | .bool _, b, ha, hb, h => by simp [exactD] at ha
  | .list _, b, ha, hb, h => by simp [exactD] at ha
  | .dict _, b, ha, hb, h => by simp [exactD] at ha
theorem exactAll_eq : ∀ (xs ys : List PyData), exactAll xs = true → exactAll ys = true → PyData.eqvAll xs ys = true → xs = ys
  | [], [], _, _, _ => rfl
  | [], y :: ys, _, _, h => by simp [PyData.eqvAll] at h
  | x :: xs, [], _, _, h => by simp [PyData.eqvAll] at h
  | x :: xs, y :: ys, ha, hb, h => by
    rw [exactAll, Bool.and_eq_true] at ha hb
    rw [PyData.eqvAll, Bool.and_eq_true] at h
    rw [exact_eq x y ha.1 hb.1 h.1, exactAll_eq xs ys ha.2 hb.2 h.2]
end
mutual
theorem exact_refl : ∀ (a : PyData), exactD a = true → PyData.eqv a a = true
  | .int i, _ => by rw [PyData.eqv]; exact beq_self_eq_true i
  | .str i, _ => by rw [PyData.eqv]; exact beq_self_eq_true i
  | .tuple xs, h => by
    rw [PyData.eqv]
    rw [exactD] at h
    exact exactAll_refl xs h
  | .none, ha => by simp [exactD] at ha
  | .bool _, ha => by simp [exactD] at ha
  | .list _, ha => by simp [exactD] at ha
  | .dict _, ha => by simp [exactD] at ha
theorem exactAll_refl : ∀ (xs : List PyData), exactAll xs = true → PyData.eqvAll xs xs = true
  | [], _ => by rw [PyData.eqvAll]
  | x :: xs, h => by
    rw [exactAll, Bool.and_eq_true] at h
    rw [PyData.eqvAll, exact_refl x h.1, exactAll_refl xs h.2]
    rfl
end
theorem exact_tup {xs : List PyData} : exactD (.tuple xs) = true ↔ ∀ x ∈ xs, exactD x = true := by rw [exactD, exactAll_iff]
theorem exact_line (p : Nat × Nat) : exactD (encLn p) = true := by simp [encLn, exactD, exactAll]
theorem exact_rooms (R : List (List (Nat × Nat))) : exactD (roomsD R) = true := exact_tup.mpr fun x hx => by
  obtain ⟨ln, _, rfl⟩ := List.mem_map.mp hx
  exact exact_tup.mpr fun y hy => by
    obtain ⟨p, _, rfl⟩ := List.mem_map.mp hy
    exact exact_line p
theorem exact_E (E : List Nat) : exactD (encE E) = true := by
  rw [encE_ints]
  refine exact_tup.mpr fun x hx => ?_
  obtain ⟨i, _, rfl⟩ := List.mem_map.mp hx
  rfl
theorem exact_mach (w : List Nat) : exactD (machD w) = true := by
  rw [machD_eq]
  refine exact_tup.mpr fun x hx => ?_
  simp only [List.mem_cons, List.not_mem_nil, or_false] at hx
  rcases hx with rfl | rfl
  · exact exact_rooms _
  · exact exact_E _
theorem encLn_inj {p q : Nat × Nat} (h : encLn p = encLn q) : p = q := by
  unfold encLn at h
  have h1 := PyData.tuple.inj h
  have h2 := List.cons.inj h1
  have h3 := S_inj (PyData.str.inj h2.1)
  have h4 := PyData.int.inj (List.cons.inj h2.2).1
  have h5 : p.1 = q.1 := (List.cons.inj h3).1
  have h6 : p.2 = q.2 := by omega
  exact Prod.ext h5 h6
theorem map_inj {α β : Type} {f : α → β} (hf : ∀ a b, f a = f b → a = b) : ∀ {xs ys : List α}, xs.map f = ys.map f → xs = ys
  | [], [], _ => rfl
  | [], y :: ys, h => by cases h
  | x :: xs, [], h => by cases h
  | x :: xs, y :: ys, h => by
    rw [List.map_cons, List.map_cons] at h
    have h2 := List.cons.inj h
    rw [hf _ _ h2.1, map_inj hf h2.2]
theorem roomsD_inj {R R' : List (List (Nat × Nat))} (h : roomsD R = roomsD R') : R = R' :=
  map_inj (fun _ _ z => map_inj (fun _ _ => encLn_inj) (PyData.tuple.inj z)) (PyData.tuple.inj h)
theorem lineB_enc {n : Nat} {d : PyData} (h : lineB n d = true) : ∃ p : Nat × Nat, d = encLn p ∧ p.2 < n := by
  unfold lineB at h
  split at h
  · rename_i x i
    rw [Bool.and_eq_true, Bool.and_eq_true] at h
    have h1 := of_decide_eq_true h.1
    have h2 := of_decide_eq_true h.2.1
    have h3 := of_decide_eq_true h.2.2
    have hx : ∃ c, x = S [c] := by
      rw [S_eq x] at h1 ⊢
      rw [S_len] at h1
      generalize x.cps.toList = l at h1
      match l, h1 with
      | [c], _ => exact ⟨c, rfl⟩
    obtain ⟨c, rfl⟩ := hx
    refine ⟨(c, i.toNat), ?_, ?_⟩
    · unfold encLn
      have : ((i.toNat : Nat) : Int) = i := by omega
      rw [this]
    · show i.toNat < n
      omega
  · cases h
theorem lineB_of {n : Nat} {p : Nat × Nat} (h : p.2 < n) : lineB n (encLn p) = true := by
  unfold encLn
  rw [lineB_two, S_len, decide_eq_true (show [p.1].length = 1 from rfl), decide_eq_true (by omega), decide_eq_true (by omega)]
  rfl
theorem lines_enc {n : Nat} : ∀ {ls : List PyData}, ls.all (lineB n) = true → ∃ ln : List (Nat × Nat), ls = ln.map encLn ∧ ∀ p ∈ ln, p.2 < n
  | [], _ => ⟨[], rfl, fun p hp => by cases hp⟩
  | d :: ls, h => by
    rw [List.all_cons, Bool.and_eq_true] at h
    obtain ⟨p, rfl, hp⟩ := lineB_enc h.1
    obtain ⟨ln, rfl, hln⟩ := lines_enc h.2
    exact ⟨p :: ln, rfl, fun q hq => by
      rcases List.mem_cons.mp hq with rfl | z
      · exact hp
      · exact hln q z⟩
theorem rooms_enc {n : Nat} : ∀ {rs : List PyData}, rs.all (roomB n) = true → ∃ R : List (List (Nat × Nat)), rs = R.map (fun ln => .tuple (ln.map encLn)) ∧ ∀ ln ∈ R, ∀ p ∈ ln, p.2 < n
  | [], _ => ⟨[], rfl, fun p hp => by cases hp⟩
  | d :: rs, h => by
    rw [List.all_cons, Bool.and_eq_true] at h
    obtain ⟨ls, rfl⟩ := isT_iff.mp (roomB_tup h.1)
    obtain ⟨ln, rfl, hln⟩ := lines_enc (show ls.all (lineB n) = true from h.1)
    obtain ⟨R, rfl, hR⟩ := rooms_enc h.2
    exact ⟨ln :: R, rfl, fun q hq => by
      rcases List.mem_cons.mp hq with rfl | z
      · exact hln
      · exact hR q z⟩
theorem Sm.rooms {k : Nat} {R : List (List (Nat × Nat))} (h : Sm k (roomsD R)) : R.length ≤ 63 ∧ ∀ ln ∈ R, ln.length ≤ 63 := by
  obtain ⟨h1, h2⟩ := h.item
  rw [List.length_map] at h1
  refine ⟨h1, fun ln hln => ?_⟩
  have := (h2 (.tuple (ln.map encLn)) (List.mem_map.mpr ⟨ln, hln, rfl⟩)).item.1
  rw [List.length_map] at this
  exact this
theorem form_good {k : Nat} {d : PyData} (h : formB d = true) (hs : Sm k d) : ∃ R es, d = .tuple [roomsD R, .tuple es] ∧ GoodR R ∧ R.length ≤ 63 := by
  unfold formB at h
  split at h
  · rename_i rs es
    rw [Bool.and_eq_true] at h
    have hne := of_decide_eq_true h.1
    obtain ⟨R, rfl, hR⟩ := rooms_enc h.2
    have h3 := (hs.at0 (i := 0) (d := roomsD R) rfl).rooms
    rw [List.length_map] at hR
    refine ⟨R, es, rfl, ⟨?_, hR, fun ln hln => by have := h3.2 ln hln; omega, by omega⟩, h3.1⟩
    rw [List.length_pos_iff]
    rintro rfl
    exact hne rfl
  · cases h
theorem form_machB {w : List Nat} (hw : w.length ≤ 60) : formB (machD w) = true := by
  have hG := good_lines hw
  rw [machD_eq]
  unfold encE roomsD
  rw [formB_two, Bool.and_eq_true]
  refine ⟨decide_eq_true fun z => ?_, ?_⟩
  · have := hG.pos
    rw [List.map_eq_nil_iff.mp z] at this
    cases this
  · rw [List.all_eq_true, List.length_map]
    intro r hr
    obtain ⟨ln, hln, rfl⟩ := List.mem_map.mp hr
    show (ln.map encLn).all (lineB _) = true
    rw [List.all_eq_true]
    intro x hx
    obtain ⟨p, hp, rfl⟩ := List.mem_map.mp hx
    exact lineB_of (hG.lt ln hln p hp)
theorem mach_parts {w : List Nat} {R : List (List (Nat × Nat))} {es : List PyData} (h : PyData.tuple [roomsD R, .tuple es] = machD w) : R = linesR w ∧ .tuple es = encE (endsN w) := by
  rw [machD_eq] at h
  have h1 := List.cons.inj (PyData.tuple.inj h)
  exact ⟨roomsD_inj h1.1, (List.cons.inj h1.2).1⟩
theorem isText_len {w : List Nat} (h : isTextV w = true) : w.length ≤ 24 := by
  unfold isTextV at h
  rw [Bool.and_eq_true] at h
  exact of_decide_eq_true h.1
theorem longest_mach {w u : List Nat} {R : List (List (Nat × Nat))} {es : List PyData} (h : PyData.tuple [roomsD R, .tuple es] = machD w) (hw : isTextV w = true) (hu : Longest R u) : u = w := (hu.2 w (mach_parts h).1).1 (isText_len hw)
theorem whole_E (E : List Nat) : ∀ {es : List PyData}, .tuple es = encE E → es.all wholeB = true := fun {es} h => by
  rw [encE_ints] at h
  rw [PyData.tuple.inj h, List.all_eq_true]
  intro x hx
  obtain ⟨i, _, rfl⟩ := List.mem_map.mp hx
  rfl
theorem mach_of {w : List Nat} {R : List (List (Nat × Nat))} {es : List PyData} (h : PyData.eqv (machD w) (.tuple [roomsD R, .tuple es]) = true) (he : es.all wholeB = true) : machD w = .tuple [roomsD R, .tuple es] := by
  refine exact_eq _ _ (exact_mach w) (exact_tup.mpr fun x hx => ?_) h
  simp only [List.mem_cons, List.not_mem_nil, or_false] at hx
  rcases hx with rfl | rfl
  · exact exact_rooms R
  · refine exact_tup.mpr fun y hy => ?_
    obtain ⟨i, rfl⟩ := wholeB_iff.mp (List.all_eq_true.mp he y hy)
    rfl
theorem text_low {w : List Nat} (h : isTextV w = true) : ∀ c ∈ w, c < 0x110000 := fun c hc => by
  unfold isTextV at h
  rw [Bool.and_eq_true, List.all_eq_true] at h
  have := alph_mem.mp (of_decide_eq_true (h.2 c hc))
  omega
theorem shaped_machD {w : List Nat} (hl : w.length ≤ 60) (hc : ∀ c ∈ w, c < 0x110000) : SeqAt.shaped (machD w) = true := by
  rw [machD_eq]
  have h1 := ok_rooms (form_mach hl hc).low
  have h2 : (encE (endsN w)).canLay0 = true ∧ (encE (endsN w)).depth ≤ 3 := by
    rw [encE_ints]
    refine ⟨?_, ?_⟩
    · rw [PyData.canLay0]
      exact can_ints _
    · rw [PyData.depth, dep_ints]
      decide
  refine shaped_of ?_ ?_
  · rw [PyData.canLay0]
    refine can_all fun x hx => ?_
    simp only [List.mem_cons, List.not_mem_nil, or_false] at hx
    rcases hx with rfl | rfl
    · exact h1.1
    · exact h2.1
  · have : PyData.depthAll [roomsD (linesR w), encE (endsN w)] ≤ 3 := dep_all fun x hx => by
      simp only [List.mem_cons, List.not_mem_nil, or_false] at hx
      rcases hx with rfl | rfl
      · exact h1.2
      · exact h2.2
    rw [PyData.depth]
    omega

end TY
namespace TY
open PySem PySem.Spec PyProof.Rows L2 Evl

abbrev s_text_of : Stmt := topS 17
theorem sc_text_of : FnScope ["thing", "word", "room"] ["thing"] (defScope s_text_of) := ⟨rfl, rfl, rfl, by decide +kernel, rfl, by decide +kernel, by decide +kernel⟩
/-- what the text's errors must say -/
structure Exs (K : PySem.W.Frag) (mg : Str → Option Value) (C CT CM : Addr) : Prop where
  gP : mg "NoMachine" = some (.ref C)
  xP : PySem.W.excIn K C [.type "ValueError", .type "Exception", .type "BaseException", .type "object"] "ValueError.__new__" = true
  kP : PySem.W.keepIn K (.ref C) = true
  bP : PySem.W.subIn K (.ref C) (.type "BaseException") = some true
  tP : PySem.W.typeIn K (.ref C) = some (.type "type")
  sP : PySem.W.subIn K (.ref C) (.ref C) = some true
  exc : ExcC K C
  gT : mg "TailError" = some (.ref CT)
  kT : PySem.W.kitOne K (.ref C) (.ref CT) = some true
  gM : mg "NoPack" = some (.ref CM)
  kM : PySem.W.kitOne K (.ref C) (.ref CM) = some false
  nV : mg "ValueError" = none
  kV : PySem.W.kitOne K (.ref C) (.type "ValueError") = some true
theorem kit_ref {K : PySem.W.Frag} {t : Value} {C : Addr} {b : Bool} (hd : PySem.W.hasDictIn K C = true) (ht : PySem.W.typeIn K (.ref C) = some (.type "type")) (hs : PySem.W.subIn K t (.ref C) = some b) : PySem.W.kitCls K t (.ref C) = some b := by
  obtain ⟨cd, hc, _⟩ := PySem.W.any_some hd
  show (if ((PySem.W.clsIn K C).isSome && PySem.W.typeIn K (.ref C) == some (.type "type")) = true then PySem.W.subIn K t (.ref C) else none) = some b
  rw [if_pos (by rw [hc, ht]; rfl)]
  exact hs
theorem kit_one {K : PySem.W.Frag} {t c : Value} {b : Bool} (h : PySem.W.kitCls K t c = some b) (hs : PySem.W.subIn K t t = some true) (hc : PySem.W.subIn K t c = some b) : PySem.W.kitOne K t c = some b := by
  unfold PySem.W.kitOne
  by_cases e : (t == c) = true
  · rw [if_pos e]
    have e2 : t = c := eq_of_beq e
    rw [← e2, hs] at hc
    exact hc
  · rw [if_neg e]
    exact h
/-- a def that may raise, called by its name -/
structure ClX (P : Program) (w : World) (K : PySem.W.Frag) (mg : Str → Option Value) (base : Heap) (k : Nat) (x : Str) (sp : Sp) : Prop where
  ex : ∃ (f : Addr) (fd : FuncData) (ps : List Str), FnOk P w K mg base (L2.CX P w) k f fd ps sp ∧ mg x = some (.ref f) ∧ PySem.W.keepIn K (.ref f) = true ∧ Binds K fd ps []
theorem Fun.okX {P : Program} {w : World} {K : PySem.W.Frag} {mg : Str → Option Value} {base : Heap} {x qual : Str} {st : Stmt} {f : Addr} {fd : FuncData} {N ps : List Str} {k : Nat} {sp : Sp} (F : Fun K x qual st f fd) (S : FnScope N ps (defScope st)) (len : ∀ vs H Q E, sp vs H Q E → vs.length = ps.length)
    (hbody : ∀ (cdv : Value) (A : Around) (outer : List Env) (s : Shared) (H : Hp) (vs : List V) (Q : VK) (E : XK), Room k (A.deeper (envOfC qual (defScope st) s.heap.objs.size f cdv)) → sp vs H Q E →
      ∃ t, PSs (cxOf (L2.CX P w) P w K mg base N qual (defScope st) f cdv A outer s H E) (defBody st) t ∧ t { nx := fun _ H' => Q .non H', rt := Q } (start N vs) H) : FnOk P w K mg base (L2.CX P w) (k + 1) f fd ps sp := by
  obtain ⟨oc, od, kV, doc, pm, an, cdv, ct, osl, rfl, lk, hcd⟩ := F.ex
  exact fn_of lk hcd S len fun A outer s H vs Q E hr hsp => hbody cdv A outer s H vs Q E hr hsp
section
variable {K : PySem.W.Frag} {σ : L2.St} {H : Hp} {tA : TA} {sp : Sp} {ds : List PyData} {E : XK} {D : Ends} {tz : TS}
theorem q_asgCQ {i : Nat} (h : EvAQ K tA σ H ds) (k : ∀ vs H1, Ex H H1 → DpAll K H1 vs ds → sp vs H1 (fun v H2 => tz D (σ.set i (some v)) H2) E) : tSeq (tAsg (tCall sp [] E tA) (gName i)) tz D σ H :=
  h H (Ex.refl H) _ fun vs H1 e1 hv => by
    show sp (vs ++ []) H1 _ E
    rw [List.append_nil]
    exact k vs H1 e1 hv
theorem sv_isText {x : List Nat} (h : x.length ≤ 1000) : SpV (spIsText K) [.str (S x)] H (.bl (isTextV x)) := fun H1 e Q q E => ⟨_, rfl, .inl ⟨x, rfl, h, q⟩⟩
end
def spTextOf (K : PySem.W.Frag) (C : Addr) : Sp := fun vs H Q E => ∃ (v : V) (d : PyData) (k : Nat), vs = [v] ∧ Dp K H v d ∧ Sm k d ∧ k ≤ 60 ∧ (∀ w, isTextV w = true → d = machD w → ∀ H', Ex H H' → Q (.str (S w)) H') ∧ ((∀ w, isTextV w = true → d ≠ machD w) → ∀ H', Ex H H' → E (.ref C) none H')
section
variable {Pr : Program} {w : World} {K : PySem.W.Frag} {mg : Str → Option Value} {base : Heap} {C CT CM : Addr}
theorem ok_text_of {f : Addr} {fd : FuncData} (F : Fun K "text_of" "text_of" s_text_of f fd) (T_ : Nm mg) (c_has_form : Cl Pr w K mg base 3 "has_form" (spFormQ K)) (c_longest_word : Cl Pr w K mg base 1 "longest_word" (spLong K)) (c_is_text : Cl Pr w K mg base 1 "is_text" (spIsText K))
    (c_machine : Cl Pr w K mg base 3 "machine" spMach) (c_is_whole : Cl Pr w K mg base 1 "is_whole" (spWholeQ K)) (E_ : Exs K mg C CT CM) : FnOk Pr w K mg base (L2.CX Pr w) 4 f fd ["thing"] (spTextOf K C) := by
  refine Fun.okX F sc_text_of (fun vs H Q E h => ?_) (fun cdv A outer s H vs Q E hr h => ?_)
  · obtain ⟨v, d, k, rfl, _⟩ := h
    rfl
  · obtain ⟨v, d, k, rfl, hv, hs, hk, q, qe⟩ := h
    refine ⟨_, (pss_cons (ps_if (pt_not (pt_val (pe_cl c_has_form hr (by first | decide | omega) (by rfl) (pa_cons (pv 0) pa_nil))))
      (pss_one (ps_raise rfl (takes_of rfl rfl rfl rfl) (pmk_own PySem.F.excBase_ValueError E_.xP E_.gP E_.kP (raises_own E_.bP E_.tP) rfl)))
      pss_nil)
      (pss_cons (ps_set (i := 1) sc_text_of.nd rfl (.inl rfl) (pe_cl c_longest_word hr (by first | decide | omega) (by rfl) (pa_cons (pe_ix (kI K rIxT ix_tup) (pv 0) pe_int (fun _ _ => rfl)) pa_nil)))
      (pss_cons (ps_if (PW.pt (pw_or (pt_not (pt_val (pe_cl c_is_text hr (by first | decide | omega) (by rfl) (pa_cons (pv 1) pa_nil)))) (pw_or (pt_cmpR (kO K rNeD (op_neD (hu64 hr))) (pe_cl c_machine hr (by first | decide | omega) (by rfl) (pa_cons (pv 1) pa_nil)) (pv 0) (nomark _)) (pw_or1 (pt_not (pt_val (pe_callB (kC K rAll (cr_all rfl)) (by rfl) T_.n_all bt_all (pa_cons (pe_lc (own := [("room", 2)]) (g := gName 2) (tt := tYes) rfl sc_text_of.nd (pi_tupK K (pe_ix (kI K rIxT ix_tup) (pv 0) pe_int (fun _ _ => rfl))) (blkOk_by (N := ["thing", "word", "room"]) (sc := defScope s_text_of) (by decide +kernel)) (fun _ _ _ _ _ => (pg_name (i := 2) sc_text_of.nd rfl (Or.inl rfl))) (fun _ _ _ _ _ => pts_nil) (fun _ _ _ _ _ => (pe_cl c_is_whole hr (by first | decide | omega) (by rfl) (pa_cons (pv 2) pa_nil)))) pa_nil))))))))
      (pss_one (ps_raise rfl (takes_of rfl rfl rfl rfl) (pmk_own PySem.F.excBase_ValueError E_.xP E_.gP E_.kP (raises_own E_.bP E_.tP) rfl)))
      pss_nil)
      (pss_one (ps_ret (pv 1)))))), ?_⟩
    refine q_when (b := !formB d) (et_not (et_B (ev_callQ (eqa_cons (eq_var rfl hv) eqa_nil) fun vs H1 e1 hvs => by
      cases hvs with
      | cons h h' =>
        cases h'
        exact sv_formQ h hs))) (fun hb H1 e1 => ?_) (fun hb H1 e1 => ?_)
    · refine qe (fun w hw hd => ?_) H1 e1
      rw [hd, form_machB (by have := isText_len hw; omega)] at hb
      cases hb
    · rw [Bool.not_eq_false'] at hb
      obtain ⟨R, es, rfl, hG, h63⟩ := form_good hb hs
      have d0 : ∀ σ : L2.St, σ[0]? = some (some v) → ∀ H', Ex H H' → EvQ K (tOp (rIxT K) (tVar 0) (tC (.int 0))) σ H' (roomsD R) := fun σ hσ H' e => eq_ixT (j := 0) (eq_var hσ (Dp.ext e hv)) (ev_is ev_c rfl) rfl
      have d1 : ∀ σ : L2.St, σ[0]? = some (some v) → ∀ H', Ex H H' → EvQ K (tOp (rIxT K) (tVar 0) (tC (.int 1))) σ H' (.tuple es) := fun σ hσ H' e => eq_ixT (j := 1) (eq_var hσ (Dp.ext e hv)) (ev_is ev_c rfl) rfl
      refine q_asgCQ (eqa_cons (d0 _ rfl _ e1) eqa_nil) fun vs H2 e2 hvs => ?_
      cases hvs with
      | cons hr0 h' =>
        cases h'
        refine ⟨_, R, rfl, hr0, hG, h63, fun u hu H3 e3 => ?_⟩
        have e13 := (e1.trans e2).trans e3
        have hul := hu.1
        have hes := (hs.at0 (i := 1) (d := .tuple es) rfl).item
        by_cases ht : isTextV u = true
        · have hu24 := isText_len ht
          refine q_when (b := !PyData.eqv (machD u) (.tuple [roomsD R, .tuple es]) || !((es.map wholeB).all id)) (et_is (et_or (et_not (et_B (ev_cl (ea_cons (ev_var rfl) ea_nil) (sv_isText (by omega))))) fun _ => et_or (et_test (ev_neD (eq_d (ed_call (ea_cons (ev_var rfl) ea_nil) (sd_mach (by omega)))) (eq_var rfl (Dp.ext e13 hv)) (shaped_machD (by omega) (fun c hc => text_low ht c hc)) (hs.shaped (by omega)))) fun _ => et_not (et_B (ev_all' (bs := es.map wholeB) (by
            rw [bools_of]
            exact en_lcQ es (fun _ => true) _ (ei_tupQ (d1 _ rfl _ e13)) (by omega) fun r hr x H4 e4 hxr => ⟨_, bnd_name, rfl, et_yes, fun _ => ed_bl (ev_callQ (eqa_cons (eq_var rfl hxr) eqa_nil) fun vs H5 e5 hvs => by
              cases hvs with
              | cons h h' =>
                cases h'
                exact sv_wholeQ h (hes.2 r hr))⟩)))) (by rw [ht]; rfl)) (fun hb2 H4 e4 => ?_) (fun hb2 H4 e4 => ?_)
          · refine qe (fun w hw hd => ?_) H4 (e13.trans e4)
            have huw := longest_mach hd hw hu
            subst huw
            rw [hd, exact_refl _ (exact_mach u), List.all_map] at hb2
            have := whole_E _ (mach_parts hd).2
            rw [show (es.all (id ∘ wholeB)) = es.all wholeB from rfl, this] at hb2
            cases hb2
          · rw [Bool.or_eq_false_iff, Bool.not_eq_false', Bool.not_eq_false', List.all_map] at hb2
            have hd := mach_of hb2.1 hb2.2
            exact s_ret (v := .str (S u)) (ev_var rfl) fun H5 e5 => q u ht hd.symm H5 ((e13.trans e4).trans e5)
        · rw [Bool.not_eq_true] at ht
          refine q_when (b := true) (et_is (et_or (b := true) (et_not (et_B (ev_cl (ea_cons (ev_var rfl) ea_nil) (sv_isText (by omega))))) fun z => by rw [ht] at z; cases z) (by rw [ht]; rfl)) (fun _ H4 e4 => ?_) (fun z => by cases z)
          refine qe (fun w hw hd => ?_) H4 (e13.trans e4)
          have huw := longest_mach hd hw hu
          subst huw
          rw [hw] at ht
          cases ht
end

end TY
namespace TY
open PySem PySem.Spec PyProof.Rows L2 Evl
abbrev s__law_told : Stmt := topS 31
theorem sc__law_told : FnScope ["_law_thing", "_law_found", "e", "_law_good"] ["_law_thing"] (defScope s__law_told) := ⟨rfl, rfl, rfl, by decide +kernel, rfl, by decide +kernel, by decide +kernel⟩
theorem bt_ValueError : bootBuiltins "ValueError" = some (.type "ValueError") := by decide +kernel
theorem pss_eq {X : Cx} {b : List Stmt} {p : Prop} {t : TS} (h : p → PSs X b t) : PSs X b (fun D σ H => p ∧ t D σ H) := ⟨fun pins s σ H D I hh => (h hh.1).run pins s σ H D I hh.2⟩
section
variable {K : PySem.W.Frag} {σ : L2.St} {H : Hp} {ta tb : TE} {tA : TA} {x z : V} {vs : List V}
theorem ev_ixNew {j : Nat} (h : EvA tA σ H vs) (hi : ∀ H', Ev tb σ H' (.int (j : Int))) (hj : vs[j]? = some z) (hz : vs.length ≤ 1000) : Ev (tOp (rIxL K) (tLst tA) tb) σ H z := fun H1 e Q q =>
  h H1 e _ fun H2 e2 => ⟨sz_of (by omega), fun p hp => hi _ _ (Ex.refl _) _ fun H3 e3 => ⟨p, vs, (j : Int), z, rfl, rfl, sq_of (e3 _ _ upd_same), atI_nat hj, q H3 ((e2.trans (Ex.new hp)).trans e3)⟩⟩
theorem s_asgS {D : Ends} {i : Nat} {sp : Sp} {E : L2.St → XK} (h : EvA tA σ H vs) (k : ∀ H1, Ex H H1 → sp vs H1 (fun v H2 => D.nx (σ.set i (some v)) H2) (E σ)) : tAsg (tCallS sp E tA) (gName i) D σ H := h H (Ex.refl H) _ k
theorem ev_isN (h : Ev ta σ H x) : Ev (tOp (fun x y H Q => y = .non ∧ Q (.bl (decide (x = .non))) H) ta (tC .non)) σ H (.bl (decide (x = .non))) := fun H1 e Q q =>
  h H1 e _ fun H2 e2 => ⟨rfl, q H2 e2⟩
theorem ev_isE {D a : Addr} {c : V} {cv : Value} {b : Bool} (h : EvA tA σ H [.ref a, c]) (hc : ∀ u, RelV c u → u = cv) (hk : PySem.W.kitOne K (.ref D) cv = some b) : Ev (tCB (rIsE K D a) tA) σ H (.bl b) := fun H1 e Q q =>
  h H1 e _ fun H2 e2 => ⟨c, cv, b, rfl, hc, hk, q H2 e2⟩
end
def spTold (K : PySem.W.Frag) : Sp := fun vs H Q _ => ∃ (v : V) (d : PyData) (k : Nat), vs = [v] ∧ Dp K H v d ∧ Sm k d ∧ k ≤ 60 ∧ (∀ w, isTextV w = true → d = machD w → ∀ H', Ex H H' → Q (.str (S w)) H') ∧ ((∀ w, isTextV w = true → d ≠ machD w) → ∀ H', Ex H H' → Q .non H')
section
variable {Pr : Program} {w : World} {K : PySem.W.Frag} {mg : Str → Option Value} {base : Heap} {C CT CM : Addr}
theorem ok__law_told {f : Addr} {fd : FuncData} (F : Fun K "_law_told" "_law_told" s__law_told f fd) (T_ : Nm mg) (c_text_of : ClX Pr w K mg base 4 "text_of" (spTextOf K C)) (E_ : Exs K mg C CT CM) (hEx : PySem.W.exmOne K (.ref C) (.ref C) = some true) : FnOk Pr w K mg base CX0 5 f fd ["_law_thing"] (spTold K) := by
  refine F.ok sc__law_told (fun vs H Q E h => ?_) (fun cdv A outer s H vs Q E hr h => ?_)
  · obtain ⟨v, d, k, rfl, _⟩ := h
    rfl
  · obtain ⟨v, d, k, rfl, hv, hs, hk, q, qe⟩ := h
    obtain ⟨fu, fdu, psu, Fu, hmu, kpu, bu⟩ := c_text_of.ex
    refine ⟨_, (pss_cons (ps_try_as (i := 2) rfl rfl sc__law_told.nd rfl rfl ⟨rfl, by decide, .inl E_.gP⟩ L2.takes0
      (fun W pn xe tk _ => pss_one (ps_set (i := 1) sc__law_told.nd rfl (.inl rfl) (pe_callS Fu hr rfl hmu kpu bu (fun σ => passAt tk σ) (pa_cons (pv 0) pa_nil))))
      (fun a oe cls d pn hz hf => pss_eq (p := cls = .ref C ∧ d = none) fun hcd => pss_cons (ps_set (i := 3) sc__law_told.nd rfl (.inl rfl) (pe_and (pe_callB (call_isE (D := C) E_.exc (by rw [← hcd.1, ← hcd.2]; exact hz) hf) (by rfl) T_.n_isinstance bt_isinstance (pa_cons (pv 2) (pa_cons (pe_glob (v := .ref CT) (by rfl) E_.gT rfl) pa_nil)))
        (pe_and (pe_callB (call_isE (D := C) E_.exc (by rw [← hcd.1, ← hcd.2]; exact hz) hf) (by rfl) T_.n_isinstance bt_isinstance (pa_cons (pv 2) (pa_cons (pe_bltn (v := .ty "ValueError") (by rfl) E_.nV bt_ValueError rfl) pa_nil)))
        (pe_one (pe_not (pe_callB (call_isE (D := C) E_.exc (by rw [← hcd.1, ← hcd.2]; exact hz) hf) (by rfl) T_.n_isinstance bt_isinstance (pa_cons (pv 2) (pa_cons (pe_glob (v := .ref CM) (by rfl) E_.gM rfl) pa_nil))))))))
        (pss_one (ps_ret (pe_ix (kI K rIxL ix_list) (pe_lst (pa_cons pe_int (pa_cons pe_non pa_nil))) (pe_callTy call_int1 (by rfl) T_.n_int bt_int (pa_cons (pv 3) pa_nil)) (fun _ _ => rfl))))))
      (pss_one (ps_ret (pe_ix (kI K rIxL ix_list) (pe_lst (pa_cons (pv 1) (pa_cons pe_int pa_nil))) (pe_callTy call_int1 (by rfl) T_.n_int bt_int (pa_cons (pe_cmpR op_isN (pv 1) pe_non (nomark _)) pa_nil)) (fun _ _ => rfl))))), ?_⟩
    have ea2 : EvA (tCons (tVar 0) tNil) (L2.start ["_law_thing", "_law_found", "e", "_law_good"] [v]) H [v] := ea_cons (ev_var rfl) ea_nil
    show tAsg (tCallS _ _ _) (gName 1) _ _ _
    refine s_asgS ea2 fun H1 e1 => ?_
    refine ⟨v, d, k, rfl, Dp.ext e1 hv, hs, hk, fun u hu hd H2 e2 => ?_, fun hng H2 e2 => ⟨true, hEx, fun _ a ha => ⟨⟨rfl, rfl⟩, ?_⟩, fun z => by cases z⟩⟩
    · exact s_ret (v := .str (S u)) (ev_ixNew (j := 0) (ea_cons (ev_var rfl) (ea_cons ev_c ea_nil)) (fun H' => ev_is (ev_intB (ev_isN (ev_var rfl))) rfl) rfl (Nat.le_of_ble_eq_true rfl)) fun H3 e3 => q u hu hd H3 ((e1.trans e2).trans e3)
    · refine q_asg (v := .bl true) (ev_is (ev_andV (ev_isE (b := true) (ea_cons (ev_var rfl) (ea_cons ev_c ea_nil)) (fun u hu => hu) E_.kT) fun _ => ev_andV (ev_isE (b := true) (ea_cons (ev_var rfl) (ea_cons ev_c ea_nil)) (fun u hu => hu) E_.kV) fun _ => ev_notV (ev_isE (b := false) (ea_cons (ev_var rfl) (ea_cons ev_c ea_nil)) (fun u hu => hu) E_.kM)) rfl) fun H3 e3 => ?_
      exact s_ret (v := .non) (ev_ixNew (j := 1) (ea_cons ev_c (ea_cons ev_c ea_nil)) (fun H' => ev_is (ev_intB (ev_var rfl)) rfl) rfl (Nat.le_of_ble_eq_true rfl)) fun H4 e4 => qe hng H4 (((e1.trans e2).trans e3).trans e4)
end

end TY
namespace TY
open PySem PySem.Spec PyProof.Rows L2 Evl
/-! ### a tuple turned round -/
section
variable {prog : Program} {w : World} {A : Around} {E : Value → Shared → Prop} {s : Shared}
theorem places_back (n : Nat) : Builtin.Slice.slicePlaces ((n : Int) - 1) (-1) (-1) = n := by
  unfold Builtin.Slice.slicePlaces
  rw [if_neg (by decide)]
  by_cases h : (n : Int) - 1 > -1
  · rw [if_pos h, show (-(-1 : Int)) = 1 from rfl, Int.ediv_one]
    omega
  · rw [if_neg h]
    omega
theorem slice_back {sl : Addr} {vs : Value} {n : Nat} {Q : Int × Int × Nat → Shared → Prop} (hs : s.heap.IsSliceOf sl .none .none vs) (ps : IsPart vs (some (-1))) (h : Q (((n : Int) - 1), -1, n) s) :
    wpAny (model prog w) A (Builtin.Slice.sliceApplied (.ref sl) (pure (n : Int))) Q E s := by
  obtain ⟨os, hos, -, hds⟩ := hs
  unfold Builtin.Slice.sliceApplied Builtin.Slice.sliceFields
  refine wpAny_bind (wpAny_bind (wpAny_field hos hds (x := .none) rfl (wpAny_bind (wpAny_field hos hds (x := .none) rfl (wpAny_bind (wpAny_field hos hds (x := vs) rfl (wpAny_pure ?_)))))))
  refine wpAny_bind (HT.slicePart_ ps ?_)
  refine show wpAny _ _ (if ((-1 : Int) == 0) = true then _ else _) _ _ s from ?_
  rw [if_neg (by decide)]
  refine wpAny_bind (HT.slicePart_ .none (wpAny_bind (HT.slicePart_ .none (wpAny_bind (wpAny_pure ?_)))))
  refine show wpAny _ _ (pure (((n : Int) - 1), (-1 : Int), Builtin.Slice.slicePlaces ((n : Int) - 1) (-1) (-1))) _ _ s from ?_
  rw [places_back]
  exact wpAny_pure h
theorem pick_back (xs : List Value) : ((List.range xs.length).filterMap fun (m : Nat) => xs.toArray[(((xs.length : Int) - 1) + (m : Int) * -1).toNat]?) = xs.reverse := by
  have e : ∀ m ∈ List.range xs.length, xs.toArray[(((xs.length : Int) - 1) + (m : Int) * -1).toNat]? = some (xs.reverse.getD m .none) := fun m hm => by
    have hm := List.mem_range.mp hm
    have e1 : (((xs.length : Int) - 1) + (m : Int) * -1).toNat = xs.length - 1 - m := by omega
    rw [e1, List.getElem?_toArray, List.getD_eq_getElem?_getD, List.getElem?_reverse hm, List.getElem?_eq_getElem (by omega)]
    rfl
  have e2 : ∀ ms : List Nat, (∀ m ∈ ms, m ∈ List.range xs.length) → (ms.filterMap fun (m : Nat) => xs.toArray[(((xs.length : Int) - 1) + (m : Int) * -1).toNat]?) = ms.map fun m => xs.reverse.getD m .none := fun ms => by
    induction ms with
    | nil => intro _; rfl
    | cons m ms ih =>
      intro h
      rw [List.filterMap_cons, e m (h m List.mem_cons_self), List.map_cons, ← ih fun k hk => h k (List.mem_cons_of_mem _ hk)]
  rw [e2 _ fun _ h => h]
  refine List.ext_getElem (by simp) fun i h1 h2 => ?_
  rw [List.getElem_map, List.getElem_range, List.getD_eq_getElem?_getD, List.getElem?_eq_getElem h2]
  rfl
theorem item_back {t sl : Addr} {xs : List Value} {vs : Value} {Q : Value → Shared → Prop} (ht : IsTup s.heap t xs.toArray) (hs : s.heap.IsSliceOf sl .none .none vs) (ps : IsPart vs (some (-1)))
    (h : Q (.ref s.heap.objs.size) { s with heap := s.heap.push { cls := .type "tuple", data := .seq xs.reverse.toArray } }) (hz : xs.length ≤ sizeLine) : wpAny (model prog w) A (getItem (.ref t) (.ref sl)) Q E s := by
  have hT : s.TypeIs (.ref sl) "slice" := by
    obtain ⟨os, h1, h2, _⟩ := id hs
    exact ⟨os, h1, h2⟩
  have hok : sizeOk (.seq xs.reverse.toArray) := by
    show xs.reverse.toArray.size ≤ sizeLine
    rw [List.size_toArray, List.length_reverse]
    exact hz
  unfold getItem
  try (with_reducible refine wpAny_holding ?_)
  first | (refine wpAny_bind (wpAny_pure ?_)) | skip
  refine wpAny_bind (wpAny_sequenceKey ht.typeIs (by decide) (wpAny_bind (wpAny_callSpecial?_slot (name := Str.ofString "__getitem__") ht.typeIs PyProof.Rows.slot_tuple_getitem (wpAny_call_entry PyProof.Rows.slot_tuple_getitem ht.typeIs entry_tuple_getitem ?_ (args_tuple_getitem _ _)))))
  refine show wpAny _ _ (Builtin.Tuple.tupleItemsOf (.ref t) >>= _) _ _ s from wpAny_bind (tupleItemsOf_ ht (wpAny_bind (wpAny_typeOf hT ?_)))
  rw [if_pos (by decide)]
  refine wpAny_bind (slice_back hs ps ?_)
  have hno : ¬ (((((xs.toArray.size : Nat) : Int) - 1) == 0 && (-1 : Int) == 1 && xs.toArray.size == xs.toArray.size) = true) := by
    rw [Bool.and_eq_true, Bool.and_eq_true]
    rintro ⟨⟨_, z⟩, _⟩
    exact absurd (eq_of_beq z) (by decide)
  refine show wpAny _ _ (if ((((xs.toArray.size : Nat) : Int) - 1) == 0 && (-1 : Int) == 1 && xs.toArray.size == xs.toArray.size) = true then _ else _) _ _ s from ?_
  rw [if_neg hno, List.size_toArray, pick_back]
  first
    | (exact wpAny_bind (m := Builtin.Tuple.tupleExact _) (wpAny_newObj_type (wpAny_pure ⟨_, rfl, wpAny_pure h⟩) hok))
    | (exact wpAny_bind (m := Builtin.Tuple.tupleExact _) (wpAny_newObj_type (wpAny_bind (wpAny_pure (wpAny_pure ⟨_, rfl, wpAny_pure h⟩))) hok))
    | (exact wpAny_bind (wpAny_bind (m := Builtin.Tuple.tupleExact _) (wpAny_newObj_type (wpAny_pure (wpAny_pure ⟨_, rfl, wpAny_pure h⟩)) hok)))
    | (exact wpAny_bind (wpAny_bind (m := Builtin.Tuple.tupleExact _) (wpAny_newObj_type (wpAny_pure ⟨_, rfl, wpAny_pure h⟩) hok)))
end
def tRevT (K : PySem.W.Frag) (te : TE) : TE := fun σ H Q => te σ H fun x H1 => ∃ a xs, x = .ref a ∧ SqT K H1 a xs ∧ ∀ p, H1 p = none → Q (.ref p) (upd H1 p (.tup xs.reverse))
theorem pe_revT {X : Cx} {e : Expr} {te : TE} {k : Nat} {p1 p2 p3 pos : Pos} (he : PE X e te) : PE X (.Subscript e (.Slice none none (some (.UnaryOp .USub (.Constant (.int 1) k p1) p2)) p3) pos) (tRevT X.K te) := by
  refine ⟨fun pins s σ H Q I h => Subscript_ (thn (he.run pins s σ H _ I h) fun v s1 ⟨x, H1, I1, r1, q1⟩ => ?_)⟩
  obtain ⟨a, xs, rfl, hx, q⟩ := q1
  cases r1
  have hst : PO X (some (.UnaryOp .USub (.Constant (.int 1) k p1) p2)) (tPart (tUn (rU fun i => .int (-i)) (tC (.int 1)))) := po_some (pe_un un_neg pe_int)
  refine wpAny_Slice (thn (po_none.run pins s1 σ H1 (fun o H2 => o = none ∧ H2 = H1) I1 ⟨rfl, rfl⟩) fun vl s2 ⟨l, H2, I2, pl, el, e2⟩ => thn (po_none.run pins s2 σ H2 (fun o H3 => o = none ∧ H3 = H2) I2 ⟨rfl, rfl⟩) fun vu s3 ⟨u, H3, I3, pu, eu, e3⟩ => ?_)
  subst el eu e3 e2
  cases pl
  cases pu
  refine thn (hst.run pins s3 σ _ (fun o H4 => o = some (-1) ∧ H4 = _) I3 ⟨1, rfl, -1, rfl, rfl, rfl⟩) fun vs s4 ⟨o, H4, I4, ps, eo, e4⟩ => ?_
  subst eo e4
  have I5 := I4.kept (h' := s4.heap.push { cls := .type "slice", data := .fields #[.none, .none, vs] }) (t' := s4.toks) fun b ob q => Heap.get?_push_of_some _ q
  obtain ⟨its, r, ht, hz⟩ := I5.tuple hx
  refine show wpAny (model X.prog X.w) X.A (subscriptTail e (.Slice none none (some (.UnaryOp .USub (.Constant (.int 1) k p1) p2)) p3) (.ref a) (.ref s4.heap.objs.size)) (EP X pins σ Q) X.xe { s4 with heap := s4.heap.push { cls := .type "slice", data := .fields #[.none, .none, vs] } } from ?_
  refine tail_any (ops := [.ref a, .ref s4.heap.objs.size]) ht.typeIs (PyProof.Rows.slot_tuple_getitem.lookup) ?_ (by with_unfolding_all rfl)
  refine item_back ht (Heap.IsSliceOf.new _ .none .none vs) ps ?_ (by rw [← r.length]; exact hz)
  exact ⟨.ref _, _, I5.laid (t' := s4.toks) (o := .tup xs.reverse) (fun b ob q => Heap.get?_push_of_some _ q) (Nat.le_refl _) ⟨by rw [List.length_reverse]; exact hz, _, r.reverse, IsTup.new _ _⟩, rfl, q _ (I5.hok.fresh (Nat.le_refl _))⟩

end TY
namespace TY
open PySem PySem.Spec PyProof.Rows L2 Evl
/-! ### things, put together -/
section
variable {K : PySem.W.Frag} {σ : L2.St} {H : Hp} {te ta tb : TE} {tA : TA} {v : V} {d : PyData} {ds es : List PyData} {D : Ends} {tz : TS}
theorem dp_tup (h : Dp K H v (.tuple ds)) : ∃ a xs, v = .ref a ∧ SqT K H a xs ∧ DpAll K H xs ds := by
  cases h with
  | tup hs ha => exact ⟨_, _, rfl, hs, ha⟩
theorem dp_lst (h : Dp K H v (.list ds)) : ∃ a xs, v = .ref a ∧ SqL K H a xs ∧ DpAll K H xs ds := by
  cases h with
  | lst hs ha => exact ⟨_, _, rfl, hs, ha⟩
theorem eq_lst (h : EvAQ K tA σ H ds) (hz : ds.length ≤ 100000) : EvQ K (tLst tA) σ H (.list ds) := fun H1 e Q q =>
  h H1 e _ fun vs H2 e2 hvs => ⟨sz_of (by rw [DpAll.len hvs]; exact hz), fun p hp => q _ _ (e2.trans (Ex.new hp)) (.lst (sq_of upd_same) (DpAll.ext (Ex.new hp) hvs))⟩
theorem eq_tup (h : EvAQ K tA σ H ds) (hz : ds.length ≤ 100000) : EvQ K (tTup tA) σ H (.tuple ds) := fun H1 e Q q =>
  h H1 e _ fun vs H2 e2 hvs => ⟨sz_of (by rw [DpAll.len hvs]; exact hz), fun p hp => q _ _ (e2.trans (Ex.new hp)) (.tup (st_of upd_same) (DpAll.ext (Ex.new hp) hvs))⟩
theorem eq_ixL {j : Nat} (h : EvQ K ta σ H (.list ds)) (hi : Ev tb σ H (.int (j : Int))) (hj : ds[j]? = some d) : EvQ K (tOp (rIxL K) ta tb) σ H d := fun H1 e Q q =>
  h H1 e _ fun u H2 e2 hu => hi H2 (e.trans e2) _ fun H3 e3 => by
    obtain ⟨a, xs, rfl, hs, ha⟩ := dp_lst hu
    obtain ⟨x, hx, hxd⟩ := DpAll.get' ha hj
    exact ⟨_, _, (j : Int), x, rfl, rfl, ex_l e3 hs, atI_nat hx, q x H3 (e2.trans e3) (Dp.ext e3 hxd)⟩
theorem eq_catA (h : EvQ K ta σ H (.tuple ds)) (h2 : EvQ K tb σ H (.tuple es)) (hz : ds.length + es.length ≤ 100000) : EvQ K (tOp (rCatA K) ta tb) σ H (.tuple (ds ++ es)) := fun H1 e Q q =>
  h H1 e _ fun v H2 e2 hv => h2 H2 (e.trans e2) _ fun w H3 e3 hw => by
    obtain ⟨a, xs, rfl, h3, h4⟩ := dp_tup hv
    obtain ⟨b, ys, rfl, h5, h6⟩ := dp_tup hw
    have h4' := DpAll.ext e3 h4
    have hl1 := DpAll.len h4'
    have hl2 := DpAll.len h6
    refine ⟨a, b, xs, ys, rfl, rfl, ex_t e3 h3, h5, sz_of (by omega), fun z => ?_, fun _ z => ?_, fun _ _ p hp => ?_⟩
    · subst z
      cases h4
      exact q _ H3 (e2.trans e3) (.tup h5 h6)
    · subst z
      cases h6
      rw [List.append_nil] at q
      exact q _ H3 (e2.trans e3) (.tup (ex_t e3 h3) h4')
    · exact q _ _ ((e2.trans e3).trans (Ex.new hp)) (.tup (st_of upd_same) (DpAll.ext (Ex.new hp) (DpAll.append h4' h6)))
theorem eq_cutA {tl th : TO} {lo hi : Option Int} (h : EvQ K te σ H (.tuple ds)) (h1 : EvO tl σ H lo) (h2 : EvO th σ H hi) (he : es = (ds.drop (HT.sIx ds.length 0 lo)).take (HT.sIx ds.length ds.length hi - HT.sIx ds.length 0 lo)) : EvQ K (tSl (rSlA K) te tl th) σ H (.tuple es) := fun H1 e Q q =>
  h H1 e _ fun v H2 e2 hv => h1 H2 (e.trans e2) _ fun H3 e3 => h2 H3 ((e.trans e2).trans e3) _ fun H4 e4 => by
    obtain ⟨p, xs, rfl, hp, hx⟩ := dp_tup hv
    have e24 := e3.trans e4
    have hx4 := DpAll.ext e24 hx
    refine ⟨p, xs, rfl, ex_t e24 hp, fun hw => ?_, fun _ r hr => ?_⟩
    · refine q _ _ (e2.trans e24) ?_
      rw [DpAll.len hx4] at hw
      rw [he, hw.1, hw.2, List.drop_zero, Nat.sub_zero, List.take_of_length_le (Nat.le_refl _)]
      exact .tup (ex_t e24 hp) hx4
    · refine q _ _ (e2.trans (e24.trans (Ex.new hr))) (.tup (st_of upd_same) ?_)
      rw [he]
      unfold cutV
      rw [DpAll.len hx4]
      exact DpAll.ext (Ex.new hr) (DpAll.cut hx4 _ _)
theorem eq_toA {k : Nat} (h : EvQ K te σ H (.tuple ds)) {th : TO} (h2 : EvO th σ H (some (k : Int))) : EvQ K (tSl (rSlA K) te tNoPart th) σ H (.tuple (ds.take k)) := eq_cutA h eo_none h2 (by
  rw [HT.sIx_none, HT.sIx_nat, List.drop_zero, Nat.sub_zero]
  by_cases hk : k ≤ ds.length
  · rw [Nat.min_eq_left hk]
  · rw [Nat.min_eq_right (by omega), List.take_of_length_le (Nat.le_refl _), List.take_of_length_le (by omega)])
theorem eq_fromA {k : Nat} (h : EvQ K te σ H (.tuple ds)) {tl : TO} (h2 : EvO tl σ H (some (k : Int))) : EvQ K (tSl (rSlA K) te tl tNoPart) σ H (.tuple (ds.drop k)) := eq_cutA h h2 eo_none (by
  rw [HT.sIx_none, HT.sIx_nat]
  by_cases hk : k ≤ ds.length
  · rw [Nat.min_eq_left hk, List.take_of_length_le (by rw [List.length_drop]; omega)]
  · rw [Nat.min_eq_right (by omega), List.drop_of_length_le (by omega), List.drop_of_length_le (by omega), List.take_nil])
theorem eq_initA (h : EvQ K te σ H (.tuple ds)) {th : TO} (h2 : EvO th σ H (some (-1))) : EvQ K (tSl (rSlA K) te tNoPart th) σ H (.tuple ds.dropLast) := eq_cutA h eo_none h2 (by
  rw [HT.sIx_none, List.drop_zero, Nat.sub_zero, List.dropLast_eq_take]
  congr 1
  unfold HT.sIx
  simp
  omega)
theorem eq_lastA (h : EvQ K te σ H (.tuple ds)) {tl : TO} (h2 : EvO tl σ H (some (-1))) : EvQ K (tSl (rSlA K) te tl tNoPart) σ H (.tuple (ds.drop (ds.length - 1))) := eq_cutA h h2 eo_none (by
  have e0 : HT.sIx ds.length 0 (some (-1)) = ds.length - 1 := by
    unfold HT.sIx
    simp
    omega
  rw [HT.sIx_none, e0, List.take_of_length_le (by rw [List.length_drop]; omega)])
theorem DpAll.reverse {xs : List V} : ∀ {ds : List PyData}, DpAll K H xs ds → DpAll K H xs.reverse ds.reverse := by
  induction xs with
  | nil =>
    intro ds h
    cases h
    exact .nil
  | cons x xs ih =>
    intro ds h
    cases h with
    | cons h hs =>
      rw [List.reverse_cons, List.reverse_cons]
      exact DpAll.append (ih hs) (.cons h .nil)
theorem eq_revT (h : EvQ K te σ H (.tuple ds)) : EvQ K (tRevT K te) σ H (.tuple ds.reverse) := fun H1 e Q q =>
  h H1 e _ fun v H2 e2 hv => by
    obtain ⟨p, xs, rfl, hp, hx⟩ := dp_tup hv
    exact ⟨p, xs, rfl, hp, fun r hr => q _ _ (e2.trans (Ex.new hr)) (.tup (st_of upd_same) (DpAll.ext (Ex.new hr) (DpAll.reverse hx)))⟩
theorem eq_listOf (h : EvQ K te σ H (.tuple ds)) : EvQ K (tCB (rListS K) (tCons te tNil)) σ H (.list ds) := fun H1 e Q q =>
  h H1 e _ fun v H2 e2 hv => by
    obtain ⟨p, xs, rfl, hp, hx⟩ := dp_tup hv
    exact ⟨p, xs, rfl, .inr hp, fun l hl => q _ _ (e2.trans (Ex.new hl)) (.lst (sq_of upd_same) (DpAll.ext (Ex.new hl) hx))⟩
theorem eq_twiceA (h : EvQ K ta σ H (.tuple ds)) (h2 : Ev tb σ H (.int 2)) (hne : ds ≠ []) (hz : ds.length ≤ 1000) : EvQ K (tOp (rRepT K) ta tb) σ H (.tuple (ds ++ ds)) := fun H1 e Q q =>
  h H1 e _ fun v H2 e2 hv => h2 H2 (e.trans e2) _ fun H3 e3 => by
    obtain ⟨p, xs, rfl, hp, hx⟩ := dp_tup hv
    have hx3 := DpAll.ext e3 hx
    have hl := DpAll.len hx3
    have e0 : (List.replicate (2 : Int).toNat xs).flatten = xs ++ xs := by
      show (List.replicate 2 xs).flatten = _
      simp [List.replicate]
    refine ⟨p, 2, xs, rfl, rfl, ex_t e3 hp, fun z => ?_, by decide, by decide, by omega, fun r hr => q _ _ ((e2.trans e3).trans (Ex.new hr)) ?_⟩
    · rw [z] at hl
      exact hne (List.eq_nil_of_length_eq_zero hl.symm)
    · rw [e0]
      exact .tup (st_of upd_same) (DpAll.ext (Ex.new hr) (DpAll.append hx3 hx3))
theorem s_retQ (h : EvQ K te σ H d) (k : ∀ v H1, Ex H H1 → Dp K H1 v d → D.rt v H1) : tRet te D σ H := h H (Ex.refl H) _ k
theorem q_asgQ {i : Nat} (h : EvQ K te σ H d) (k : ∀ v H1, Ex H H1 → Dp K H1 v d → tz D (σ.set i (some v)) H1) : tSeq (tAsg te (gName i)) tz D σ H := h H (Ex.refl H) _ k
theorem eq_bl {b : Bool} (h : Ev te σ H (.bl b)) : EvQ K te σ H (.bool b) := fun H1 e Q q => h H1 e Q fun H2 e2 => q _ H2 e2 (.bl b)
theorem eq_non (h : Ev te σ H .non) : EvQ K te σ H .none := fun H1 e Q q => h H1 e Q fun H2 e2 => q _ H2 e2 .non
end

end TY
namespace TY
open PySem PySem.Spec PyProof.Rows L2 Evl
/-! ### a machine, spoilt -/
inductive Rw : Nat → PyData → Prop
  | int {k : Nat} (j : Nat) (h : j < 64) : Rw k (.int (j : Int))
  | str {k : Nat} {x : Str} (h : PyData.strOk x = true) (hl : x.length ≤ 1000) : Rw k (.str x)
  | tup {k : Nat} {xs : List PyData} (hl : xs.length ≤ 31) (h : ∀ x ∈ xs, Rw k x) : Rw (k + 1) (.tuple xs)
theorem Rw.sm {k : Nat} {d : PyData} (h : Rw k d) : Sm k d := by
  induction h with
  | int j _ => exact .int _
  | str h hl => exact .str h hl
  | tup hl _ ih => exact .tup (by omega) ih
theorem Sm.t0 {k : Nat} : Sm (k + 1) (.tuple []) := .tup (Nat.zero_le _) fun x hx => by cases hx
theorem Sm.t1 {k : Nat} {a : PyData} (h : Sm k a) : Sm (k + 1) (.tuple [a]) := .tup (Nat.le_of_ble_eq_true rfl) fun x hx => by
  rw [List.mem_singleton] at hx
  rw [hx]
  exact h
theorem Sm.t2 {k : Nat} {a b : PyData} (h : Sm k a) (h2 : Sm k b) : Sm (k + 1) (.tuple [a, b]) := .tup (Nat.le_of_ble_eq_true rfl) fun x hx => by
  simp only [List.mem_cons, List.not_mem_nil, or_false] at hx
  rcases hx with rfl | rfl
  · exact h
  · exact h2
theorem Sm.lt {k : Nat} {x : List Nat} (h : ∀ c ∈ x, c < 128) (hl : x.length ≤ 1000) : Sm k (.str (S x)) := .str (by
  unfold PyData.strOk
  show x.toArray.all (· < 0x110000) = true
  simp only [List.all_toArray, List.all_eq_true, decide_eq_true_eq]
  intro c hc
  have := h c hc
  omega) (by rw [S_len]; exact hl)
def oddD : List PyData := [.int (-1), .int 0, .int 1, .int 2, .bool true, .bool false, .none, .str (S []), .str (S [97]), .str (S [97, 98]), .tuple [], .list [], .tuple [.str (S [97]), .int 1], .tuple [.tuple [.str (S [97]), .int 1]], .tuple [.tuple []], .tuple [.tuple [], .tuple [.int 0]], .str (S [98]), .tuple [.int 0]]
theorem odd_sm : ∀ d ∈ oddD, Sm 4 d := by
  have ha : ∀ {k : Nat}, Sm k (.str (S [97])) := .lt (by decide) (by decide)
  intro d hd
  simp only [oddD, List.mem_cons, List.not_mem_nil, or_false] at hd
  rcases hd with rfl | rfl | rfl | rfl | rfl | rfl | rfl | rfl | rfl | rfl | rfl | rfl | rfl | rfl | rfl | rfl | rfl | rfl
  · exact .int _
  · exact .int _
  · exact .int _
  · exact .int _
  · exact .bl _
  · exact .bl _
  · exact .non
  · exact .lt (by decide) (by decide)
  · exact ha
  · exact .lt (by decide) (by decide)
  · exact .t0
  · exact .lst (Nat.zero_le _) fun x hx => by cases hx
  · exact .t2 ha (.int _)
  · exact .t1 (.t2 ha (.int _))
  · exact .t1 .t0
  · exact .t2 .t0 (.t1 (.int _))
  · exact .lt (by decide) (by decide)
  · exact .t1 (.int _)
def spOdd (K : PySem.W.Frag) : Sp := fun vs H Q _ => ∃ n : Int, vs = [.int n] ∧ 0 ≤ n ∧ ∀ v d H', Ex H H' → Dp K H' v d → Sm 4 d → Q v H'
def spSpoilt (K : PySem.W.Frag) : Nat → Sp
  | 0 => fun _ _ _ _ => False
  | N + 1 => fun vs H Q _ => ∃ (v : V) (d : PyData) (n : Int) (m k : Nat), vs = [v, .int n, .int (m : Int)] ∧ m ≤ N ∧ 0 ≤ n ∧ Dp K H v d ∧ Rw k d ∧ ∀ v' d' H', Ex H H' → Dp K H' v' d' → Sm (k + 5) d' → Q v' H'
theorem str_int_ok : ∀ j : Nat, j < 64 → PyData.strOk (toString (j : Int) : Str) = true ∧ (toString (j : Int) : Str).length ≤ 1000 := by decide +kernel
theorem log_small {j : Nat} (h : j < 64) : ((j : Int)).natAbs.log2 < 1920 := by
  have : ∀ j : Nat, j < 64 → ((j : Int)).natAbs.log2 < 1920 := by decide +kernel
  exact this j h
theorem shaped_i1 (i : Int) : SeqAt.shaped (.int i) = true := shaped_of (by rw [PyData.canLay0]) (by rw [PyData.depth]; decide)
abbrev s__law_odd : Stmt := topS 29
theorem sc__law_odd : FnScope ["_law_number", "_law_some"] ["_law_number"] (defScope s__law_odd) := ⟨rfl, rfl, rfl, by decide +kernel, rfl, by decide +kernel, by decide +kernel⟩
abbrev s__law_spoilt : Stmt := topS 30
theorem sc__law_spoilt : FnScope ["_law_thing", "_law_number", "_law_deep", "_law_at", "_law_part"] ["_law_thing", "_law_number", "_law_deep"] (defScope s__law_spoilt) := ⟨rfl, rfl, rfl, by decide +kernel, rfl, by decide +kernel, by decide +kernel⟩
section
variable {P : Program} {w : World} {K : PySem.W.Frag} {mg : Str → Option Value} {base : Heap}
theorem ev_strI {σ : L2.St} {H : Hp} {te : TE} {i : Int} (h : Ev te σ H (.int i)) (hz : i.natAbs.log2 < 1920) : Ev (tCB (fun xs H Q => ∃ i, xs = [.int i] ∧ i.natAbs.log2 < 1920 ∧ Q (.str (toString i)) H) (tCons te tNil)) σ H (.str (toString i)) := fun H1 e Q q =>
  h H1 e _ fun H2 e2 => ⟨i, rfl, hz, q H2 e2⟩
theorem ok__law_odd {f : Addr} {fd : FuncData} (F : Fun K "_law_odd" "_law_odd" s__law_odd f fd) (T_ : Nm mg) : FnOk P w K mg base CX0 1 f fd ["_law_number"] (spOdd K) := by
  refine F.ok sc__law_odd (fun vs H Q E h => ?_) (fun cdv A outer s H vs Q E hr h => ?_)
  · obtain ⟨n, rfl, _⟩ := h
    rfl
  · obtain ⟨n, rfl, hn, q⟩ := h
    refine ⟨_, (pss_cons (ps_set (i := 1) sc__law_odd.nd rfl (.inl rfl) (pe_lst (pa_cons (pe_un un_neg pe_int) (pa_cons pe_int (pa_cons pe_int (pa_cons pe_int (pa_cons pe_bl (pa_cons pe_bl (pa_cons pe_non (pa_cons pe_str (pa_cons pe_str (pa_cons pe_str (pa_cons (pe_tup pa_nil) (pa_cons (pe_lst pa_nil) (pa_cons (pe_tup (pa_cons pe_str (pa_cons pe_int pa_nil))) (pa_cons (pe_tup (pa_cons (pe_tup (pa_cons pe_str (pa_cons pe_int pa_nil))) pa_nil)) (pa_cons (pe_tup (pa_cons (pe_tup pa_nil) pa_nil)) (pa_cons (pe_tup (pa_cons (pe_tup pa_nil) (pa_cons (pe_tup (pa_cons pe_int pa_nil)) pa_nil))) (pa_cons pe_str (pa_cons (pe_tup (pa_cons pe_int pa_nil)) pa_nil))))))))))))))))))))
      (pss_one (ps_ret (pe_ix (kI K rIxL ix_list) (pv 1) (pe_op op_mod (pv 0) pe_int) (fun _ _ => rfl))))), ?_⟩
    have ha : EvQ K (tC (.str "a")) (L2.start ["_law_number", "_law_some"] [V.int n]) H (.str (S [97])) := eq_str (ev_is ev_c rfl)
    have hi : ∀ i : Int, EvQ K (tC (.int i)) (L2.start ["_law_number", "_law_some"] [V.int n]) H (.int i) := fun i => eq_int ev_c
    have ht : EvQ K (tTup tNil) (L2.start ["_law_number", "_law_some"] [V.int n]) H (.tuple []) := eq_tup eqa_nil (by decide)
    refine q_asgQ (d := .list oddD) (eq_lst (eqa_cons (eq_int (ev_un ev_c ru_neg)) (eqa_cons (hi 0) (eqa_cons (hi 1) (eqa_cons (hi 2) (eqa_cons (eq_bl ev_c) (eqa_cons (eq_bl ev_c) (eqa_cons (eq_non ev_c) (eqa_cons (eq_str (ev_is ev_c rfl)) (eqa_cons ha (eqa_cons (eq_str (ev_is ev_c rfl)) (eqa_cons ht (eqa_cons (eq_lst eqa_nil (by decide)) (eqa_cons (eq_tup (eqa_cons ha (eqa_cons (hi 1) eqa_nil)) (by decide)) (eqa_cons (eq_tup (eqa_cons (eq_tup (eqa_cons ha (eqa_cons (hi 1) eqa_nil)) (by decide)) eqa_nil) (by decide)) (eqa_cons (eq_tup (eqa_cons ht eqa_nil) (by decide)) (eqa_cons (eq_tup (eqa_cons ht (eqa_cons (eq_tup (eqa_cons (hi 0) eqa_nil) (by decide)) eqa_nil)) (by decide)) (eqa_cons (eq_str (ev_is ev_c rfl)) (eqa_cons (eq_tup (eqa_cons (hi 0) eqa_nil) (by decide)) eqa_nil)))))))))))))))))) (by decide)) fun v H1 e1 hv => ?_
    have j0 : 0 ≤ n % 18 := Int.emod_nonneg _ (by decide)
    have j1 : n % 18 < 18 := Int.emod_lt_of_pos _ (by decide)
    obtain ⟨j, hj⟩ : ∃ j : Nat, n % 18 = (j : Int) := ⟨(n % 18).toNat, by omega⟩
    have hjl : j < oddD.length := by
      show j < 18
      omega
    exact s_retQ (eq_ixL (j := j) (eq_var rfl hv) (ev_is (ev_op (ev_var rfl) ev_c (rv_I (by decide))) (congrArg V.int hj)) (List.getElem?_eq_getElem hjl)) fun u H2 e2 hu => q u _ H2 (e1.trans e2) hu (odd_sm _ (List.getElem_mem hjl))
theorem ok__law_spoilt {f : Addr} {fd : FuncData} (F : Fun K "_law_spoilt" "_law_spoilt" s__law_spoilt f fd) (T_ : Nm mg) (hm : mg "_law_spoilt" = some (.ref f)) (kp : PySem.W.keepIn K (.ref f) = true) (hbd : Binds K fd ["_law_thing", "_law_number", "_law_deep"] []) (c__law_odd : Cl P w K mg base 1 "_law_odd" (spOdd K)) : ∀ {N : Nat}, FnOk P w K mg base CX0 (N + 1) f fd ["_law_thing", "_law_number", "_law_deep"] (spSpoilt K N)
  | 0 => ⟨fun vs H Q E h => h.elim, fun A outer s H args us vs Q E hr he hb hv h => h.elim⟩
  | N + 1 => by
    have c__law_spoilt : Cl P w K mg base (N + 1) "_law_spoilt" (spSpoilt K N) := ⟨f, fd, _, ok__law_spoilt F T_ hm kp hbd c__law_odd (N := N), hm, kp, hbd⟩
    refine F.ok sc__law_spoilt (fun vs H Q E h => ?_) (fun cdv A outer s H vs Q E hr h => ?_)
    · obtain ⟨v, d, n, m, k, rfl, _⟩ := h
      rfl
    · obtain ⟨v, d, n, m, k, rfl, hm2, hn, hv, hw, q⟩ := h
      refine ⟨_, (pss_cons (ps_if (PW.pt (pw_and (pt_cmpR op_gt (pv 2) pe_int (nomark _)) (pw_and (pt_val (pe_callB (kC K rIsi call_isi) (by rfl) T_.n_isinstance bt_isinstance (pa_cons (pv 0) (pa_cons (pe_bltn (v := .ty "tuple") (by rfl) T_.n_tuple bt_tuple rfl) pa_nil)))) (pw_and (pt_cmpR op_gt (pe_callB (kC K rLenS call_len_seq) (by rfl) T_.n_len PySem.boot_len (pa_cons (pv 0) pa_nil)) pe_int (nomark _)) (pw_and1 (pt_cmpR op_gt (pe_op op_mod (pv 1) pe_int) pe_int (nomark _)))))))
      (pss_cons (ps_set (i := 3) sc__law_spoilt.nd rfl (.inl rfl) (pe_op op_mod (pe_op op_fdiv (pv 1) pe_int) (pe_callB (kC K rLenS call_len_seq) (by rfl) T_.n_len PySem.boot_len (pa_cons (pv 0) pa_nil))))
      (pss_cons (ps_set (i := 4) sc__law_spoilt.nd rfl (.inl rfl) (pe_cl c__law_spoilt hr (by first | decide | omega) (by rfl) (pa_cons (pe_ix (kI K rIxT ix_tup) (pv 0) (pv 3) (fun _ _ => rfl)) (pa_cons (pe_op op_fdiv (pv 1) pe_int) (pa_cons (pe_op op_sub (pv 2) pe_int) pa_nil)))))
      (pss_one (ps_ret (pe_op (kO K rCatA op_catA) (pe_op (kO K rCatA op_catA) (pe_slice (kL K rSlA sl_tupA) (pv 0) po_none (po_some (pv 3))) (pe_tup (pa_cons (pv 4) pa_nil))) (pe_slice (kL K rSlA sl_tupA) (pv 0) (po_some (pe_op op_add (pv 3) pe_int)) po_none))))))
      pss_nil)
      (pss_cons (ps_if (PW.pt (pw_and (pt_val (pe_callB (kC K rIsi call_isi) (by rfl) T_.n_isinstance bt_isinstance (pa_cons (pv 0) (pa_cons (pe_bltn (v := .ty "tuple") (by rfl) T_.n_tuple bt_tuple rfl) pa_nil)))) (pw_and (pt_cmpR op_gt (pe_callB (kC K rLenS call_len_seq) (by rfl) T_.n_len PySem.boot_len (pa_cons (pv 0) pa_nil)) pe_int (nomark _)) (pw_and1 (pt_cmpR op_eq (pe_op op_mod (pe_op op_fdiv (pv 1) pe_int) pe_int) pe_int (nomark _))))))
      (pss_one (ps_ret (pe_ix (kI K rIxL ix_list) (pe_lst (pa_cons (pe_callTy (kC K rListS call_list_of) (by rfl) T_.n_list bt_list (pa_cons (pv 0) pa_nil)) (pa_cons (pe_slice (kL K rSlA sl_tupA) (pv 0) po_none (po_some (pe_un un_neg pe_int))) (pa_cons (pe_op (kO K rCatA op_catA) (pv 0) (pe_slice (kL K rSlA sl_tupA) (pv 0) (po_some (pe_un un_neg pe_int)) po_none)) (pa_cons (pe_slice (kL K rSlA sl_tupA) (pv 0) (po_some pe_int) po_none) (pa_cons (pe_revT (pv 0)) (pa_cons (pe_op (kO K rRepT op_repT) (pv 0) pe_int) pa_nil))))))) (pe_op op_mod (pe_op op_fdiv (pv 1) pe_int) pe_int) (fun _ _ => rfl))))
      pss_nil)
      (pss_cons (ps_if (PW.pt (pw_and (pt_val (pe_callB (kC K rIsi call_isi) (by rfl) T_.n_isinstance bt_isinstance (pa_cons (pv 0) (pa_cons (pe_bltn (v := .ty "int") (by rfl) T_.n_int bt_int rfl) pa_nil)))) (pw_and1 (pt_cmpR op_eq (pe_op op_mod (pe_op op_fdiv (pv 1) pe_int) pe_int) pe_int (nomark _)))))
      (pss_one (ps_ret (pe_ix (kI K rIxL ix_list) (pe_lst (pa_cons (pe_callTy call_str_int (by rfl) T_.n_str bt_str (pa_cons (pv 0) pa_nil)) (pa_cons (pe_un un_neg (pv 0)) (pa_cons (pe_op op_add (pv 0) pe_int) (pa_cons (pe_cmpR (kO K rEqD (op_eqD (hu64 hr))) (pv 0) pe_int (nomark _)) (pa_cons (pe_op op_sub (pv 0) pe_int) pa_nil)))))) (pe_op op_mod (pe_op op_fdiv (pv 1) pe_int) pe_int) (fun _ _ => rfl))))
      pss_nil)
      (pss_one (ps_ret (pe_cl c__law_odd hr (by first | decide | omega) (by rfl) (pa_cons (pe_op op_fdiv (pv 1) pe_int) pa_nil))))))), ?_⟩
      have odd : ∀ σ : L2.St, σ[1]? = some (some (.int n)) → ∀ (D : Ends) (H1 : Hp), Ex H H1 → D.rt = Q → tRet (tCall (spOdd K) [] E0 (tCons (tOp (rI CDiv fun i j => .int (i / j)) (tVar 1) (tC (.int 6))) tNil)) D σ H1 := fun σ hσ D H1 e1 hD =>
        s_retC (ea_cons (ev_op (ev_var hσ) ev_c (rv_I ⟨by decide, by decide⟩)) ea_nil) fun H2 e2 => ⟨n / 6, rfl, Int.ediv_nonneg hn (by decide), fun u du H3 e3 hu hsu => by
          rw [hD]
          exact q u du H3 ((e1.trans e2).trans e3) hu (hsu.mono (by omega))⟩
      cases hw with
      | int j hj =>
        have hnod : ∀ kvs, PyData.int (j : Int) ≠ .dict kvs := fun _ z => by cases z
        have n1 : ∀ {H1 : Hp} (e1 : Ex H H1), EvT (tB (tCB (rIsi K) (tCons (tVar 0) (tCons (tC (.ty "tuple")) tNil)))) (L2.start ["_law_thing", "_law_number", "_law_deep", "_law_at", "_law_part"] [v, .int n, .int (m : Int)]) H1 false := fun e1 => et_B (ev_isQ (eq_var rfl (Dp.ext e1 hv)) (kit_T _ hnod))
        refine q_when (b := false) (et_is (et_and (et_test (ev_op (ev_var rfl) ev_c rv_I0)) fun _ => et_and (a := false) (b := false) (n1 (Ex.refl _)) fun z => by cases z) (Bool.and_false _)) (fun z => by cases z) fun _ H1 e1 => ?_
        refine q_when (b := false) (et_is (et_and (a := false) (b := false) (n1 e1) fun z => by cases z) rfl) (fun z => by cases z) fun _ H2 e2 => ?_
        have e12 := e1.trans e2
        cases hv
        refine q_when (et_and (et_B (ev_isQ (eq_var rfl (.int (j : Int))) (kit_I _ hnod))) fun _ => et_test (ev_eqI (ev_op (ev_op (ev_var rfl) ev_c (rv_I ⟨by decide, by decide⟩)) ev_c (rv_I (by decide))) ev_c)) (fun _ H3 e3 => ?_) fun _ H3 e3 => ?_
        · have e13 := e12.trans e3
          have j0 : 0 ≤ n / 12 % 5 := Int.emod_nonneg _ (by decide)
          have j1 : n / 12 % 5 < 5 := Int.emod_lt_of_pos _ (by decide)
          obtain ⟨r, hr2⟩ : ∃ r : Nat, n / 12 % 5 = (r : Int) := ⟨(n / 12 % 5).toNat, by omega⟩
          have hrl : r < [PyData.str (toString (j : Int)), .int (-(j : Int)), .int ((j : Int) + 1), .bool (PyData.eqv (.int (j : Int)) (.int 1)), .int ((j : Int) - 1)].length := by
            show r < 5
            omega
          have hall : ∀ x ∈ [PyData.str (toString (j : Int)), .int (-(j : Int)), .int ((j : Int) + 1), .bool (PyData.eqv (.int (j : Int)) (.int 1)), .int ((j : Int) - 1)], Sm (k + 5) x := fun x hx => by
            simp only [List.mem_cons, List.not_mem_nil, or_false] at hx
            rcases hx with rfl | rfl | rfl | rfl | rfl
            · exact .str (str_int_ok j hj).1 (str_int_ok j hj).2
            · exact .int _
            · exact .int _
            · exact .bl _
            · exact .int _
          exact s_retQ (eq_ixL (j := r) (eq_lst (eqa_cons (eq_str (ev_strI (ev_var rfl) (log_small hj))) (eqa_cons (eq_int (ev_un (ev_var rfl) ru_neg)) (eqa_cons (eq_int (ev_op (ev_var rfl) ev_c rv_I0)) (eqa_cons (eq_bl (ev_eqD (eq_int (ev_var rfl)) (eq_int ev_c) (shaped_i1 _) (shaped_i1 _))) (eqa_cons (eq_int (ev_op (ev_var rfl) ev_c rv_I0)) eqa_nil))))) (Nat.le_of_ble_eq_true rfl)) (ev_is (ev_op (ev_op (ev_var rfl) ev_c (rv_I ⟨by decide, by decide⟩)) ev_c (rv_I (by decide))) (congrArg V.int hr2)) (List.getElem?_eq_getElem hrl)) fun u H4 e4 hu => q u _ H4 (e13.trans e4) hu (hall _ (List.getElem_mem hrl))
        · exact odd _ rfl _ H3 (e12.trans e3) rfl
      | str hs hl =>
        rename_i x0
        have hnod : ∀ kvs, PyData.str x0 ≠ .dict kvs := fun _ z => by cases z
        have n1 : ∀ {H1 : Hp} (e1 : Ex H H1), EvT (tB (tCB (rIsi K) (tCons (tVar 0) (tCons (tC (.ty "tuple")) tNil)))) (L2.start ["_law_thing", "_law_number", "_law_deep", "_law_at", "_law_part"] [v, .int n, .int (m : Int)]) H1 false := fun e1 => et_B (ev_isQ (eq_var rfl (Dp.ext e1 hv)) (kit_T _ hnod))
        refine q_when (b := false) (et_is (et_and (et_test (ev_op (ev_var rfl) ev_c rv_I0)) fun _ => et_and (a := false) (b := false) (n1 (Ex.refl _)) fun z => by cases z) (Bool.and_false _)) (fun z => by cases z) fun _ H1 e1 => ?_
        refine q_when (b := false) (et_is (et_and (a := false) (b := false) (n1 e1) fun z => by cases z) rfl) (fun z => by cases z) fun _ H2 e2 => ?_
        refine q_when (b := false) (et_is (et_and (a := false) (b := false) (et_B (ev_isQ (eq_var rfl (Dp.ext (e1.trans e2) hv)) (kit_I _ hnod))) fun z => by cases z) rfl) (fun z => by cases z) fun _ H3 e3 => ?_
        exact odd _ rfl _ H3 ((e1.trans e2).trans e3) rfl
      | tup hl hx =>
        rename_i k ds
        have hnod : ∀ kvs, PyData.tuple ds ≠ .dict kvs := fun _ z => by cases z
        refine q_when (et_and (et_test (ev_op (ev_var rfl) ev_c rv_I0)) fun _ => et_and (et_B (ev_isQ (eq_var rfl hv) (kit_T _ hnod))) fun _ => et_and (et_test (ev_op (ev_lenQ (eq_var rfl hv)) ev_c rv_I0)) fun _ => et_test (ev_op (ev_op (ev_var rfl) ev_c (rv_I (by decide))) ev_c rv_I0)) (fun hb H1 e1 => ?_) fun _ H1 e1 => ?_
        · rw [Bool.and_eq_true, Bool.and_eq_true, Bool.and_eq_true] at hb
          have hm0 := of_decide_eq_true hb.1
          have hl0 := of_decide_eq_true hb.2.2.1
          have j0 : 0 ≤ n / 6 % (ds.length : Int) := Int.emod_nonneg _ (by omega)
          have j1 : n / 6 % (ds.length : Int) < (ds.length : Int) := Int.emod_lt_of_pos _ (by omega)
          obtain ⟨j, hj⟩ : ∃ j : Nat, n / 6 % (ds.length : Int) = (j : Int) := ⟨(n / 6 % (ds.length : Int)).toNat, by omega⟩
          have hjl : j < ds.length := by omega
          have hv1 := Dp.ext e1 hv
          refine q_asg (v := .int (j : Int)) (ev_is (ev_op (ev_op (ev_var rfl) ev_c (rv_I ⟨by decide, by decide⟩)) (ev_lenQ (eq_var rfl hv1)) (rv_I (by show (0 : Int) < (ds.length : Int); omega))) (congrArg V.int hj)) fun H2 e2 => ?_
          have hv2 := Dp.ext e2 hv1
          refine q_asgCQ (eqa_cons (eq_ixT (j := j) (eq_var rfl hv2) (ev_var rfl) (List.getElem?_eq_getElem hjl)) (eqa_cons (eq_int (ev_op (ev_var rfl) ev_c (rv_I ⟨by decide, by decide⟩))) (eqa_cons (eq_int (ev_op (ev_var rfl) ev_c rv_I0)) eqa_nil))) fun vs H3 e3 hvs => ?_
          cases hvs with
          | cons g1 g2 =>
            cases g2 with
            | cons g3 g4 =>
              cases g3
              cases g4 with
              | cons g5 g6 =>
                cases g5
                cases g6
                obtain ⟨N, rfl⟩ : ∃ N', N = N' + 1 := ⟨N - 1, by omega⟩
                refine ⟨_, _, n / 42, m - 1, k, ?_, by omega, Int.ediv_nonneg hn (by decide), g1, hx _ (List.getElem_mem hjl), fun u du H4 e4 hu hsu => ?_⟩
                · congr 1
                  congr 1
                  congr 1
                  exact congrArg V.int (by omega)
                · have hv4 := Dp.ext (e3.trans e4) hv2
                  have hlen : (ds.take j ++ [du] ++ ds.drop (j + 1)).length ≤ 63 := by
                    rw [List.length_append, List.length_append, List.length_take, List.length_drop, List.length_singleton]
                    omega
                  refine s_retQ (d := .tuple (ds.take j ++ [du] ++ ds.drop (j + 1))) (eq_catA (eq_catA (eq_toA (eq_var rfl hv4) (eo_some (ev_var rfl))) (eq_tup (eqa_cons (eq_var rfl hu) eqa_nil) (Nat.le_of_ble_eq_true rfl)) (by rw [List.length_take, List.length_singleton]; omega)) (eq_fromA (k := j + 1) (eq_var rfl hv4) (eo_some (ev_is (ev_op (ev_var rfl) ev_c rv_I0) rfl))) (by rw [List.length_append, List.length_take, List.length_drop, List.length_singleton]; omega)) fun z H5 e5 hz => q z _ H5 ((((e1.trans e2).trans e3).trans e4).trans e5) hz ?_
                  refine .tup hlen fun x hxm => ?_
                  rcases List.mem_append.mp hxm with y | y
                  · rcases List.mem_append.mp y with y | y
                    · exact (hx x (List.mem_of_mem_take y)).sm.mono (by omega)
                    · rw [List.mem_singleton] at y
                      rw [y]
                      exact hsu
                  · exact (hx x (List.mem_of_mem_drop y)).sm.mono (by omega)
        · have hv1 := Dp.ext e1 hv
          refine q_when (et_and (et_B (ev_isQ (eq_var rfl hv1) (kit_T _ hnod))) fun _ => et_and (et_test (ev_op (ev_lenQ (eq_var rfl hv1)) ev_c rv_I0)) fun _ => et_test (ev_eqI (ev_op (ev_op (ev_var rfl) ev_c (rv_I ⟨by decide, by decide⟩)) ev_c (rv_I (by decide))) ev_c)) (fun hb H2 e2 => ?_) fun _ H2 e2 => ?_
          · rw [Bool.and_eq_true, Bool.and_eq_true] at hb
            have hl0 := of_decide_eq_true hb.2.1
            have hv2 := Dp.ext e2 hv1
            have hne : ds ≠ [] := fun z => by
              rw [z] at hl0
              exact absurd hl0 (by decide)
            have j0 : 0 ≤ n / 12 % 6 := Int.emod_nonneg _ (by decide)
            have j1 : n / 12 % 6 < 6 := Int.emod_lt_of_pos _ (by decide)
            obtain ⟨r, hr2⟩ : ∃ r : Nat, n / 12 % 6 = (r : Int) := ⟨(n / 12 % 6).toNat, by omega⟩
            have hrl : r < [PyData.list ds, .tuple ds.dropLast, .tuple (ds ++ ds.drop (ds.length - 1)), .tuple (ds.drop 1), .tuple ds.reverse, .tuple (ds ++ ds)].length := by
              show r < 6
              omega
            have hall : ∀ x ∈ [PyData.list ds, .tuple ds.dropLast, .tuple (ds ++ ds.drop (ds.length - 1)), .tuple (ds.drop 1), .tuple ds.reverse, .tuple (ds ++ ds)], Sm (k + 1 + 5) x := fun x hx2 => by
              have hs : ∀ y ∈ ds, Sm k y := fun y hy => (hx y hy).sm
              refine Sm.mono (k := k + 1) ?_ (by omega)
              simp only [List.mem_cons, List.not_mem_nil, or_false] at hx2
              rcases hx2 with rfl | rfl | rfl | rfl | rfl | rfl
              · exact .lst (by omega) hs
              · exact .tup (by rw [List.length_dropLast]; omega) fun y hy => hs y (List.mem_of_mem_take (by rw [← List.dropLast_eq_take]; exact hy))
              · exact .tup (by rw [List.length_append, List.length_drop]; omega) fun y hy => (List.mem_append.mp hy).elim (hs y) fun hy => hs y (List.mem_of_mem_drop hy)
              · exact .tup (by rw [List.length_drop]; omega) fun y hy => hs y (List.mem_of_mem_drop hy)
              · exact .tup (by rw [List.length_reverse]; omega) fun y hy => hs y (List.mem_reverse.mp hy)
              · exact .tup (by rw [List.length_append]; omega) fun y hy => (List.mem_append.mp hy).elim (hs y) (hs y)
            exact s_retQ (eq_ixL (j := r) (eq_lst (eqa_cons (eq_listOf (eq_var rfl hv2)) (eqa_cons (eq_initA (eq_var rfl hv2) (eo_some (ev_is (ev_un ev_c ru_neg) rfl))) (eqa_cons (eq_catA (eq_var rfl hv2) (eq_lastA (eq_var rfl hv2) (eo_some (ev_is (ev_un ev_c ru_neg) rfl))) (by rw [List.length_drop]; omega)) (eqa_cons (eq_fromA (k := 1) (eq_var rfl hv2) (eo_some (ev_is ev_c rfl))) (eqa_cons (eq_revT (eq_var rfl hv2)) (eqa_cons (eq_twiceA (eq_var rfl hv2) ev_c hne (by omega)) eqa_nil)))))) (Nat.le_of_ble_eq_true rfl)) (ev_is (ev_op (ev_op (ev_var rfl) ev_c (rv_I ⟨by decide, by decide⟩)) ev_c (rv_I (by decide))) (congrArg V.int hr2)) (List.getElem?_eq_getElem hrl)) fun u H3 e3 hu => q u _ H3 ((e1.trans e2).trans e3) hu (hall _ (List.getElem_mem hrl))
          · refine q_when (b := false) (et_is (et_and (a := false) (b := false) (et_B (ev_isQ (eq_var rfl (Dp.ext e2 hv1)) (kit_I _ hnod))) fun z => by cases z) rfl) (fun z => by cases z) fun _ H3 e3 => ?_
            exact odd _ rfl _ H3 ((e1.trans e2).trans e3) rfl
end

end TY
namespace TY
open PySem PySem.Spec PyProof.Rows L2 Evl
/-! ### a strange word; whether a word is a text, by the law -/
theorem find_lt (l : List Nat) (c : Nat) : decide (Txt.find (S l) (S [c]) < 0) = !decide (c ∈ l) := by
  have h := PySem.StrLaws.found_one (S l) c
  rw [S_cps] at h
  unfold Txt.find
  rw [← h]
  show decide ((match Builtin.Str.occurrences (S l) ⟨#[c]⟩ 0 (S l).length 1 with | i :: _ => (i : Int) | [] => -1) < 0) = _
  cases Builtin.Str.occurrences (S l) ⟨#[c]⟩ 0 (S l).length 1 with
  | nil => rfl
  | cons i r =>
    have : ¬ ((i : Int) < 0) := by omega
    show decide ((i : Int) < 0) = _
    rw [decide_eq_false this]
    rfl
theorem ev_find {σ : L2.St} {H : Hp} {ta tb : TE} {a b : List Nat} (h : Ev ta σ H (.str (S a))) (h2 : Ev tb σ H (.str (S b))) : Ev (tM1 (fun x xs H Q => ∃ a b, x = .str a ∧ xs = [.str b] ∧ Q (.int (Txt.find a b)) H) ta tb) σ H (.int (Txt.find (S a) (S b))) := fun H1 e Q q =>
  h H1 e _ fun H2 e2 => ⟨⟨_, rfl⟩, h2 H2 (e.trans e2) _ fun H3 e3 => ⟨_, _, rfl, rfl, q H3 (e2.trans e3)⟩⟩
theorem isText_is (l : List Nat) : (decide ((l.length : Int) ≤ 24) && decide ((l.filter fun c => !decide (c ∈ alph)).map (fun c => PyData.str (S [c])) = [])) = isTextV l := by
  unfold isTextV
  have e0 : decide ((l.length : Int) ≤ 24) = decide (l.length ≤ 24) := by
    by_cases h : l.length ≤ 24
    · rw [decide_eq_true h, decide_eq_true (by omega)]
    · rw [decide_eq_false h, decide_eq_false (by omega)]
  rw [e0]
  congr 1
  rw [Bool.eq_iff_iff, decide_eq_true_eq, List.map_eq_nil_iff, List.filter_eq_nil_iff, List.all_eq_true]
  constructor
  · intro z c hc
    have := z c hc
    simpa using this
  · intro z c hc
    have := z c hc
    simpa using this
theorem shaped_signs {l : List Nat} (h : ∀ c ∈ l, c < 0x110000) (f : Nat → Bool) : SeqAt.shaped (.list ((l.filter f).map fun c => PyData.str (S [c]))) = true := by
  refine shaped_of ?_ ?_
  · rw [PyData.canLay0]
    refine can_all fun x hx => ?_
    obtain ⟨c, hc, rfl⟩ := List.mem_map.mp hx
    exact can_sign (h c (List.mem_filter.mp hc).1)
  · have : PyData.depthAll ((l.filter f).map fun c => PyData.str (S [c])) ≤ 0 := dep_all fun x hx => by
      obtain ⟨c, hc, rfl⟩ := List.mem_map.mp hx
      rw [PyData.depth]
      exact Nat.le_refl _
    rw [PyData.depth]
    omega
theorem flat_mem {l : List Nat} {n c : Nat} (h : c ∈ (List.replicate n l).flatten) : c ∈ l := by
  obtain ⟨x, hx, hc⟩ := List.mem_flatten.mp h
  rw [List.eq_of_mem_replicate hx] at hc
  exact hc
theorem flat_len (l : List Nat) (n : Nat) : (List.replicate n l).flatten.length = n * l.length := by
  induction n with
  | zero => simp
  | succ n ih => rw [List.replicate_succ, List.flatten_cons, List.length_append, ih, Nat.add_mul, Nat.one_mul, Nat.add_comm]
def spStrange : Sp := fun vs H Q _ => ∃ (l : List Nat) (n : Int), vs = [.str (S l), .int n] ∧ 0 ≤ n ∧ l.length ≤ 10 ∧ (∀ c ∈ l, c < 128) ∧ ∀ w : List Nat, w.length ≤ 30 → (∀ c ∈ w, c < 128) → ∀ H', Ex H H' → Q (.str (S w)) H'
def spIsTxt : Sp := fun vs H Q _ => ∃ l : List Nat, vs = [.str (S l)] ∧ l.length ≤ 1000 ∧ (∀ c ∈ l, c < 128) ∧ ∀ H', Ex H H' → Q (.bl (isTextV l)) H'
theorem sv_isTxt {H : Hp} {l : List Nat} (hl : l.length ≤ 1000) (hc : ∀ c ∈ l, c < 128) : SpV spIsTxt [.str (S l)] H (.bl (isTextV l)) := fun H1 e Q q E => ⟨l, rfl, hl, hc, q⟩
def odds : List Nat := ("A0 -_`{zZ~" : Str).cps.toList
abbrev s__law_strange : Stmt := topS 32
theorem sc__law_strange : FnScope ["_law_text_here", "_law_number", "_law_place"] ["_law_text_here", "_law_number"] (defScope s__law_strange) := ⟨rfl, rfl, rfl, by decide +kernel, rfl, by decide +kernel, by decide +kernel⟩
abbrev s__law_is_text : Stmt := topS 33
theorem sc__law_is_text : FnScope ["_law_word", "_law_sign"] ["_law_word"] (defScope s__law_is_text) := ⟨rfl, rfl, rfl, by decide +kernel, rfl, by decide +kernel, by decide +kernel⟩
section
variable {P : Program} {w : World} {K : PySem.W.Frag} {mg : Str → Option Value} {base : Heap}
theorem ok__law_is_text {f : Addr} {fd : FuncData} (F : Fun K "_law_is_text" "_law_is_text" s__law_is_text f fd) (T_ : Nm mg) : FnOk P w K mg base CX0 1 f fd ["_law_word"] spIsTxt := by
  refine F.ok sc__law_is_text (fun vs H Q E h => ?_) (fun cdv A outer s H vs Q E hr h => ?_)
  · obtain ⟨l, rfl, _⟩ := h
    rfl
  · obtain ⟨l, rfl, hl, hc, q⟩ := h
    refine ⟨_, (pss_one (ps_ret (pe_and (pe_cmpR op_le (pe_callB call_len_str (by rfl) T_.n_len PySem.boot_len (pa_cons (pv 0) pa_nil)) pe_int (nomark _)) (pe_one (pe_cmpR (kO K rEqD (op_eqD (hu64 hr))) (pe_lc (own := [("_law_sign", 1)]) (g := gName 1) rfl sc__law_is_text.nd (pi_str (pv 0)) (blkOk_by (N := ["_law_word", "_law_sign"]) (sc := defScope s__law_is_text) (by decide +kernel)) (fun _ _ _ _ _ => (pg_name (i := 1) sc__law_is_text.nd rfl (Or.inl rfl))) (fun _ _ _ _ _ => (pts_one (pt_cmpR op_lt (pe_m1 PySem.F.slot_str_find PySem.F.type_str_find mt_find pe_str (pv 1)) pe_int (nomark _)))) (fun _ _ _ _ _ => (pv 1))) (pe_lst pa_nil) (nomark _)))))), ?_⟩
    refine s_ret (v := .bl (isTextV l)) (ev_is (ev_andV (ev_op (ev_lenStr (ev_var rfl) (by omega)) ev_c rv_I0) fun _ => ev_is (ev_eqD (eq_n (en_lcA (fun c => PyData.str (S [c])) l (fun c => !decide (c ∈ alph)) (fun c => PyData.str (S [c])) (ei_str (ev_var rfl)) (by omega) fun c hc x H1 e1 hx => ?_)) (eq_n (en_lst ead_nil (by decide))) (shaped_signs (fun c h => by have := hc c h; omega) _) shaped_nil) (congrArg V.bl (eqv_nil _))) (congrArg V.bl (isText_is l))) q
    cases hx.str_
    exact ⟨_, bnd_name, rfl, et_is (et_test (ev_op (ev_find (a := alph) (ev_is ev_c rfl) (ev_var rfl)) ev_c rv_I0)) (find_lt alph c), fun _ => ed_str (ev_var rfl)⟩
theorem ok__law_strange {f : Addr} {fd : FuncData} (F : Fun K "_law_strange" "_law_strange" s__law_strange f fd) (T_ : Nm mg) : FnOk P w K mg base CX0 1 f fd ["_law_text_here", "_law_number"] spStrange := by
  refine F.ok sc__law_strange (fun vs H Q E h => ?_) (fun cdv A outer s H vs Q E hr h => ?_)
  · obtain ⟨l, n, rfl, _⟩ := h
    rfl
  · obtain ⟨l, n, rfl, hn, hl, hc, q⟩ := h
    refine ⟨_, (pss_cons (ps_if (pt_cmpR op_eq (pe_op op_mod (pv 1) pe_int) pe_int (nomark _))
      (pss_one (ps_ret (pe_slice sl_str (pe_op op_add_str (pe_op op_mulS (pv 0) pe_int) (pe_op op_mulS pe_str pe_int)) po_none (po_some pe_int))))
      pss_nil)
      (pss_cons (ps_if (pt_cmpR op_eq (pe_op op_mod (pv 1) pe_int) pe_int (nomark _))
      (pss_one (ps_ret (pe_slice sl_str (pe_op op_add_str (pe_op op_mulS (pv 0) pe_int) (pe_op op_mulS pe_str pe_int)) po_none (po_some (pe_op op_add pe_int (pe_op op_mod (pe_op op_fdiv (pv 1) pe_int) pe_int))))))
      pss_nil)
      (pss_cons (ps_set (i := 2) sc__law_strange.nd rfl (.inl rfl) (pe_op op_mod (pe_op op_fdiv (pv 1) pe_int) (pe_op op_add (pe_callB call_len_str (by rfl) T_.n_len PySem.boot_len (pa_cons (pv 0) pa_nil)) pe_int)))
      (pss_one (ps_ret (pe_op op_add_str (pe_op op_add_str (pe_slice sl_str (pv 0) po_none (po_some (pv 2))) (pe_ix ix_str pe_str (pe_op op_mod (pe_op op_fdiv (pv 1) pe_int) pe_int) (fun _ _ => rfl))) (pe_slice sl_str (pv 0) (po_some (pv 2)) po_none))))))), ?_⟩
    have f1 := flat_len l 24
    have f2 := flat_len l 30
    have f3 := flat_len [97] 24
    have f4 := flat_len [97, 98] 15
    have l1 : [97].length = 1 := rfl
    have l2 : [97, 98].length = 2 := rfl
    refine q_when (et_test (ev_eqI (ev_op (ev_var rfl) ev_c (rv_I (by decide))) ev_c)) (fun _ H1 e1 => ?_) fun _ H1 e1 => ?_
    · refine s_ret (v := .str (S (((List.replicate 24 l).flatten ++ (List.replicate 24 [97]).flatten).take 24))) (ev_to (k := 24) (ev_addS (ev_mulS (n := 24) (ev_var rfl) (ev_is ev_c rfl) (by omega) (by decide)) (ev_mulS (l := [97]) (n := 24) (ev_is ev_c rfl) (ev_is ev_c rfl) (by decide) (by decide)) (by omega)) (ev_is ev_c rfl) (by rw [List.length_append]; omega)) fun H2 e2 => q _ ?_ (fun c h => ?_) H2 (e1.trans e2)
      · rw [List.length_take]
        omega
      · rcases List.mem_append.mp (List.mem_of_mem_take h) with z | z
        · exact hc c (flat_mem z)
        · have := flat_mem z
          rw [List.mem_singleton] at this
          omega
    refine q_when (et_test (ev_eqI (ev_op (ev_var rfl) ev_c (rv_I (by decide))) ev_c)) (fun _ H2 e2 => ?_) fun _ H2 e2 => ?_
    · have j0 : 0 ≤ n / 3 % 6 := Int.emod_nonneg _ (by decide)
      have j1 : n / 3 % 6 < 6 := Int.emod_lt_of_pos _ (by decide)
      obtain ⟨r, hr2⟩ : ∃ r : Nat, 25 + n / 3 % 6 = (r : Int) := ⟨(25 + n / 3 % 6).toNat, by omega⟩
      refine s_ret (v := .str (S (((List.replicate 30 l).flatten ++ (List.replicate 15 [97, 98]).flatten).take r))) (ev_to (k := r) (ev_addS (ev_mulS (n := 30) (ev_var rfl) (ev_is ev_c rfl) (by omega) (by decide)) (ev_mulS (l := [97, 98]) (n := 15) (ev_is ev_c rfl) (ev_is ev_c rfl) (by decide) (by decide)) (by omega)) (ev_is (ev_op ev_c (ev_op (ev_op (ev_var rfl) ev_c (rv_I ⟨by decide, by decide⟩)) ev_c (rv_I (by decide))) rv_I0) (congrArg V.int hr2)) (by rw [List.length_append]; omega)) fun H3 e3 => q _ ?_ (fun c h => ?_) H3 ((e1.trans e2).trans e3)
      · rw [List.length_take]
        omega
      · rcases List.mem_append.mp (List.mem_of_mem_take h) with z | z
        · exact hc c (flat_mem z)
        · have := flat_mem z
          simp only [List.mem_cons, List.not_mem_nil, or_false] at this
          omega
    · have z1 : 0 ≤ n / 3 % ((l.length : Int) + 1) := Int.emod_nonneg _ (by omega)
      have z2 : n / 3 % ((l.length : Int) + 1) < (l.length : Int) + 1 := Int.emod_lt_of_pos _ (by omega)
      obtain ⟨pl, hpl⟩ : ∃ p : Nat, n / 3 % ((l.length : Int) + 1) = (p : Int) := ⟨(n / 3 % ((l.length : Int) + 1)).toNat, by omega⟩
      refine q_asg (v := .int (pl : Int)) (ev_is (ev_op (ev_op (ev_var rfl) ev_c (rv_I ⟨by decide, by decide⟩)) (ev_op (ev_lenStr (ev_var rfl) (by omega)) ev_c rv_I0) (rv_I (by show (0 : Int) < (l.length : Int) + 1; omega))) (congrArg V.int hpl)) fun H3 e3 => ?_
      have s1 : 0 ≤ n / 33 % 10 := Int.emod_nonneg _ (by decide)
      have s2 : n / 33 % 10 < 10 := Int.emod_lt_of_pos _ (by decide)
      have s3 : odds.length = 10 := by decide +kernel
      have s4 : ∀ x ∈ odds, x < 128 := by decide +kernel
      obtain ⟨j, hj⟩ : ∃ j : Nat, n / 33 % 10 = (j : Int) := ⟨(n / 33 % 10).toNat, by omega⟩
      have hjl : j < odds.length := by omega
      have b1 : (l.take pl).length ≤ 10 := by rw [List.length_take]; omega
      have b2 : (l.drop pl).length ≤ 10 := by rw [List.length_drop]; omega
      refine s_ret (v := .str (S (l.take pl ++ [odds[j]] ++ l.drop pl))) (ev_addS (ev_addS (ev_to (ev_var rfl) (ev_var rfl) (by omega)) (ev_ixS (a := odds) (j := j) (ev_is ev_c rfl) (ev_is (ev_op (ev_op (ev_var rfl) ev_c (rv_I ⟨by decide, by decide⟩)) ev_c (rv_I (by decide))) (congrArg V.int hj)) (by omega) (List.getElem?_eq_getElem hjl)) (by rw [List.length_singleton]; omega)) (ev_from (ev_var rfl) (ev_var rfl) (by omega)) (by rw [List.length_append, List.length_singleton]; omega)) fun H4 e4 => q _ ?_ (fun c h => ?_) H4 (((e1.trans e2).trans e3).trans e4)
      · rw [List.length_append, List.length_append, List.length_singleton]
        omega
      · rcases List.mem_append.mp h with z | z
        · rcases List.mem_append.mp z with z | z
          · exact hc c (List.mem_of_mem_take z)
          · rw [List.mem_singleton] at z
            rw [z]
            exact s4 _ (List.getElem_mem hjl)
        · exact hc c (List.mem_of_mem_drop z)
end

end TY
namespace TY
open PySem PySem.Spec PyProof.Rows L2 Evl
/-! ### the form by the law, of what is like a machine -/
theorem eqvAll_get : ∀ {xs ys : List PyData}, PyData.eqvAll xs ys = true → xs.length = ys.length ∧ ∀ (i : Nat) (x y : PyData), xs[i]? = some x → ys[i]? = some y → PyData.eqv x y = true
  | [], [], _ => ⟨rfl, fun i x y h => by simp at h⟩
  | [], _ :: _, h => by simp [PyData.eqvAll] at h
  | _ :: _, [], h => by simp [PyData.eqvAll] at h
  | x :: xs, y :: ys, h => by
    rw [PyData.eqvAll, Bool.and_eq_true] at h
    have ih := eqvAll_get h.2
    refine ⟨by rw [List.length_cons, List.length_cons, ih.1], fun i a b ha hb => ?_⟩
    cases i with
    | zero =>
      cases ha
      cases hb
      exact h.1
    | succ i => exact ih.2 i a b ha hb
theorem eqv_tup {d : PyData} {ys : List PyData} (h : PyData.eqv d (.tuple ys) = true) : ∃ xs, d = .tuple xs ∧ xs.length = ys.length ∧ ∀ (i : Nat) (x y : PyData), xs[i]? = some x → ys[i]? = some y → PyData.eqv x y = true := by
  cases d with
  | tuple xs =>
    rw [PyData.eqv] at h
    exact ⟨xs, rfl, eqvAll_get h⟩
  | none => simp [PyData.eqv] at h
  | bool b => simp [PyData.eqv] at h
  | int b => simp [PyData.eqv] at h
  | str b => simp [PyData.eqv] at h
  | list b => simp [PyData.eqv] at h
  | dict b => simp [PyData.eqv] at h
theorem eqv_str {d : PyData} {x : Str} (h : PyData.eqv d (.str x) = true) : d = .str x := by
  cases d with
  | str y =>
    rw [PyData.eqv] at h
    rw [eq_of_beq h]
  | none => simp [PyData.eqv] at h
  | bool b => simp [PyData.eqv] at h
  | int b => simp [PyData.eqv] at h
  | tuple b => simp [PyData.eqv] at h
  | list b => simp [PyData.eqv] at h
  | dict b => simp [PyData.eqv] at h
theorem eqv_int {d : PyData} {i : Int} (h : PyData.eqv d (.int i) = true) : exactD d = wholeB d := by
  cases d with
  | int y => simp [exactD, wholeB, isI, isB]
  | bool b => simp [exactD, wholeB, isI, isB]
  | none => simp [PyData.eqv] at h
  | str b => simp [PyData.eqv] at h
  | tuple b => simp [PyData.eqv] at h
  | list b => simp [PyData.eqv] at h
  | dict b => simp [PyData.eqv] at h
theorem near_line {x : PyData} {p : Nat × Nat} (h : PyData.eqv x (encLn p) = true) : ∃ g, x = .tuple [.str (S [p.1]), g] ∧ PyData.eqv g (.int (p.2 : Int)) = true := by
  unfold encLn at h
  obtain ⟨xs, rfl, hl, hi⟩ := eqv_tup h
  match xs, hl, hi with
  | [a, b], _, hi =>
    have h0 := eqv_str (hi 0 a _ rfl rfl)
    have h1 := hi 1 b _ rfl rfl
    rw [h0]
    exact ⟨b, rfl, h1⟩
/-- what is walked, of things that stood ahead of it -/
def EvIB (K : PySem.W.Frag) (wi : TI) (σ : L2.St) (H : Hp) (es : List PyData) : Prop := ∀ H1, Ex H H1 → ∀ R : It → Hp → Prop,
  (∀ (J : It) (G : Hp → Prop) H2, Ex H1 H2 → (∀ H3, Ex H2 H3 → G H3) → Walk J es.length G (fun i H x H' => Ex H H' ∧ ∃ e, es[i]? = some e ∧ Dp K H2 x e) → R J H2) → wi σ H1 R
section
variable {K : PySem.W.Frag} {σ : L2.St} {H : Hp} {te : TE} {es : List PyData}
theorem ei_tupB (h : EvQ K te σ H (.tuple es)) : EvIB K (iTup K te) σ H es := fun H1 e R q =>
  h H1 e _ fun u H2 e2 hu => by
    obtain ⟨p, xs, rfl, hs, ha⟩ := dp_tup hu
    have hl := DpAll.len ha
    refine ⟨p, rfl, ⟨xs, hs⟩, q _ (fun H3 => Ex H2 H3) H2 e2 (fun H3 e3 => e3) ⟨fun i H3 hi g => ⟨xs, xs[i]'(by omega), ex_t g hs, by simp⟩, fun H3 g => ⟨xs, ex_t g hs, by omega⟩, fun i H3 x H4 hi g y => ?_⟩⟩
    obtain ⟨rfl, hy⟩ := y
    obtain ⟨d, h3, h4⟩ := DpAll.get ha (hy xs (ex_t g hs))
    exact ⟨Ex.refl _, d, h3, h4⟩
/-- the items of which the test holds -/
theorem eq_lcV {wi : TI} {j : Nat} {tt : TT} {vs : List Nat} (as : List PyData) (f : PyData → Bool) (h : EvIB K wi σ H as) (hz : as.length ≤ 40000)
    (hb : ∀ a ∈ as, ∀ x H1, Ex H H1 → Dp K H1 x a → EvT tt ((wipe σ vs).set j (some x)) H1 (f a)) (hj : ∀ x : V, ((wipe σ vs).set j (some x))[j]? = some (some x)) (hw : ∀ x, wipe ((wipe σ vs).set j (some x)) vs = wipe σ vs := by intro _; rfl) :
    EvQ K (tLc wi (gName j) tt (tVar j) vs) σ H (.list (as.filter f)) := fun H0 e Q q => h H0 e _ fun J G H1 e1 hG hW D hD => by
  have key : ∀ n, n ≤ as.length → ((as.take n).filter f).length ≤ 40000 := fun n hn => by
    have := List.length_filter_le f (as.take n)
    rw [List.length_take] at this
    omega
  refine lc_it hW (fun i H' => Ex H1 H' ∧ ∃ acc, H' D = some (.lst acc) ∧ DpAll K H1 acc ((as.take i).filter f)) ⟨Ex.new hD, [], upd_same, .nil⟩ (fun i H' hi p => hG H' p.1) ?_ ?_
  · rintro i x H2 H3 hi ⟨e2, acc, ha, hacc⟩ ⟨e3, b, hbm, hx⟩
    have b3 := hb b (List.mem_of_getElem? hbm) x H3 (((e.trans e1).trans e2).trans e3) (Dp.ext (e2.trans e3) hx)
    refine show wipe ((wipe σ vs).set j (some x)) vs = wipe σ vs ∧ tt ((wipe σ vs).set j (some x)) H3 _ from ⟨hw x, ?_⟩
    have htake : as.take (i + 1) = as.take i ++ [b] := by
      rw [List.take_add_one, hbm]
      rfl
    refine b3 H3 (Ex.refl _) _ fun H4 e4 => ?_
    cases hf : f b with
    | true =>
      rw [if_pos rfl]
      refine ev_var (hj x) H4 (Ex.refl _) _ fun H5 e5 => ?_
      have haD : H5 D = some (.lst acc) := e5 _ _ (e4 _ _ (e3 _ _ ha))
      refine ⟨acc, haD, ?_, Ex.mut (((e2.trans e3).trans e4).trans e5) hD, acc ++ [x], upd_same, ?_⟩
      · have h1 := DpAll.len hacc
        have h2 := key i (Nat.le_of_lt hi)
        exact sz_lt (by omega)
      · have h1 : [b].filter f = [b] := by
          rw [List.filter_cons, if_pos hf]
          rfl
        rw [htake, List.filter_append, h1]
        exact DpAll.append hacc (.cons hx .nil)
    | false =>
      rw [if_neg (by decide)]
      refine ⟨(e2.trans e3).trans e4, acc, e4 _ _ (e3 _ _ ha), ?_⟩
      have h1 : [b].filter f = [] := by
        rw [List.filter_cons, if_neg (by rw [hf]; decide)]
        rfl
      rw [htake, List.filter_append, h1, List.append_nil]
      exact hacc
  · rintro H2 ⟨e2, acc, ha, hacc⟩
    rw [List.take_of_length_le (Nat.le_refl _)] at hacc
    exact q _ H2 (e1.trans e2) (.lst (sq_of ha) (DpAll.ext e2 hacc))
theorem s_forIQ {wi : TI} {g : TG} {tu : TS} {D : Ends} (h : EvIQ K wi σ H es) (Pv : Hp → Nat → L2.St → Hp → Prop) (h0 : ∀ H1, Ex H H1 → Pv H1 0 σ H1) (hx : ∀ H1 i σ' H', Pv H1 i σ' H' → Ex H1 H')
    (hs : ∀ H1 i e x σ' H' H'', Ex H H1 → es[i]? = some e → Pv H1 i σ' H' → Ex H' H'' → Dp K H'' x e → g x σ' H'' fun σ2 H2 => tu { D with nx := Pv H1 (i + 1), ct := Pv H1 (i + 1), bk := D.nx } σ2 H2)
    (hd : ∀ H1 σ' H', Ex H H1 → Pv H1 es.length σ' H' → D.nx σ' H') : tFor wi g tu D σ H := h H (Ex.refl H) _ fun J G H1 e1 hG hW =>
  for_it hW (Pv H1) (h0 H1 e1) (fun i σ' H' _ p => hG H' (hx _ _ _ _ p)) (fun i x σ' H' H'' _ p y => by
    obtain ⟨e2, e, he, hxe⟩ := y
    exact hs H1 i e x σ' H' H'' e1 he p e2 hxe) (fun σ' H' p => hd H1 σ' H' e1 p)
theorem q_forIQ {wi : TI} {g : TG} {tu tz : TS} {D : Ends} (h : EvIQ K wi σ H es) (Pv : Hp → Nat → L2.St → Hp → Prop) (h0 : ∀ H1, Ex H H1 → Pv H1 0 σ H1) (hx : ∀ H1 i σ' H', Pv H1 i σ' H' → Ex H1 H')
    (hs : ∀ H1 i e x σ' H' H'', Ex H H1 → es[i]? = some e → Pv H1 i σ' H' → Ex H' H'' → Dp K H'' x e → g x σ' H'' fun σ2 H2 => tu { D with nx := Pv H1 (i + 1), ct := Pv H1 (i + 1), bk := tz D } σ2 H2)
    (hd : ∀ H1 σ' H', Ex H H1 → Pv H1 es.length σ' H' → tz D σ' H') : tSeq (tFor wi g tu) tz D σ H := s_forIQ (D := { D with nx := tz D }) h Pv h0 hx hs hd
end
def spRoomE (K : PySem.W.Frag) : Sp := fun vs H Q _ => ∃ (v : V) (r : PyData) (k n : Nat) (ln : List (Nat × Nat)), vs = [v, .int (n : Int)] ∧ Dp K H v r ∧ Sm k r ∧ k ≤ 60 ∧ PyData.eqv r (.tuple (ln.map encLn)) = true ∧ (∀ p ∈ ln, p.2 < n) ∧ ln.Pairwise (fun p q => p.1 < q.1) ∧ ∀ H', Ex H H' → Q (.bl (exactD r)) H'
theorem sv_roomE {K : PySem.W.Frag} {H : Hp} {v : V} {r : PyData} {k n : Nat} {ln : List (Nat × Nat)} (h : Dp K H v r) (hs : Sm k r) (hk : k ≤ 60) (he : PyData.eqv r (.tuple (ln.map encLn)) = true) (hl : ∀ p ∈ ln, p.2 < n) (ho : ln.Pairwise fun p q => p.1 < q.1) : SpV (spRoomE K) [v, .int (n : Int)] H (.bl (exactD r)) := fun H1 e Q q E => ⟨v, r, k, n, ln, rfl, Dp.ext e h, hs, hk, he, hl, ho, q⟩
def spFormE (K : PySem.W.Frag) : Sp := fun vs H Q _ => ∃ (v : V) (d : PyData) (k : Nat) (R : List (List (Nat × Nat))) (es : List Nat), vs = [v] ∧ Dp K H v d ∧ Sm k d ∧ k ≤ 60 ∧ PyData.eqv d (.tuple [roomsD R, encE es]) = true ∧ FormR R es ∧ ∀ H', Ex H H' → Q (.bl (exactD d)) H'
theorem sv_formE {K : PySem.W.Frag} {H : Hp} {v : V} {d : PyData} {k : Nat} {R : List (List (Nat × Nat))} {es : List Nat} (h : Dp K H v d) (hs : Sm k d) (hk : k ≤ 60) (he : PyData.eqv d (.tuple [roomsD R, encE es]) = true) (hF : FormR R es) : SpV (spFormE K) [v] H (.bl (exactD d)) := fun H1 e Q q E => ⟨v, d, k, R, es, rfl, Dp.ext e h, hs, hk, he, hF, q⟩
abbrev s__law_whole : Stmt := topS 25
theorem sc__law_whole : FnScope ["_law_thing"] ["_law_thing"] (defScope s__law_whole) := ⟨rfl, rfl, rfl, by decide +kernel, rfl, by decide +kernel, by decide +kernel⟩
abbrev s__law_is_room : Stmt := topS 26
theorem sc__law_is_room : FnScope ["_law_thing", "_law_many", "_law_line", "_law_k"] ["_law_thing", "_law_many"] (defScope s__law_is_room) := ⟨rfl, rfl, rfl, by decide +kernel, rfl, by decide +kernel, by decide +kernel⟩
abbrev s__law_has_form : Stmt := topS 27
theorem sc__law_has_form : FnScope ["_law_thing", "_law_room"] ["_law_thing"] (defScope s__law_has_form) := ⟨rfl, rfl, rfl, by decide +kernel, rfl, by decide +kernel, by decide +kernel⟩
section
variable {P : Program} {w : World} {K : PySem.W.Frag} {mg : Str → Option Value} {base : Heap}
theorem ok__law_whole {f : Addr} {fd : FuncData} (F : Fun K "_law_whole" "_law_whole" s__law_whole f fd) (T_ : Nm mg) : FnOk P w K mg base CX0 1 f fd ["_law_thing"] (spWholeQ K) := by
  refine F.ok sc__law_whole (fun vs H Q E h => ?_) (fun cdv A outer s H vs Q E hr h => ?_)
  · obtain ⟨v, d, k, rfl, _⟩ := h
    rfl
  · obtain ⟨v, d, k, rfl, hv, hs, q⟩ := h
    refine ⟨_, (pss_one (ps_ret (pe_and (pe_callB (kC K rIsi call_isi) (by rfl) T_.n_isinstance bt_isinstance (pa_cons (pv 0) (pa_cons (pe_bltn (v := .ty "int") (by rfl) T_.n_int bt_int rfl) pa_nil))) (pe_one (pe_not (pe_callB (kC K rIsi call_isi) (by rfl) T_.n_isinstance bt_isinstance (pa_cons (pv 0) (pa_cons (pe_bltn (v := .ty "bool") (by rfl) T_.n_bool bt_bool rfl) pa_nil)))))))), ?_⟩
    exact s_ret (v := .bl (wholeB d)) (ev_andV (ev_isQ (eq_var rfl hv) (kit_I d hs.nod)) fun _ => ev_notV (ev_isQ (eq_var rfl hv) (kit_B d hs.nod))) q
theorem ok__law_is_room {f : Addr} {fd : FuncData} (F : Fun K "_law_is_room" "_law_is_room" s__law_is_room f fd) (T_ : Nm mg) (c__law_whole : Cl P w K mg base 1 "_law_whole" (spWholeQ K)) : FnOk P w K mg base CX0 2 f fd ["_law_thing", "_law_many"] (spRoomE K) := by
  refine F.ok sc__law_is_room (fun vs H Q E h => ?_) (fun cdv A outer s H vs Q E hr h => ?_)
  · obtain ⟨v, r, k, n, ln, rfl, _⟩ := h
    rfl
  · obtain ⟨v, r, k, n, ln, rfl, hv, hsm, hk, heq, hlt, hso, q⟩ := h
    refine ⟨_, (pss_cons (ps_if (pt_not (pt_val (pe_callB (kC K rIsi call_isi) (by rfl) T_.n_isinstance bt_isinstance (pa_cons (pv 0) (pa_cons (pe_bltn (v := .ty "tuple") (by rfl) T_.n_tuple bt_tuple rfl) pa_nil)))))
      (pss_one (ps_ret pe_bl))
      pss_nil)
      (pss_cons (ps_for PassesOwn.never rfl (pi_tupK K (pv 0)) (pg_name (i := 2) sc__law_is_room.nd rfl (.inl rfl))
      (pss_cons (ps_if (PW.pt (pw_or (pt_not (pt_val (pe_callB (kC K rIsi call_isi) (by rfl) T_.n_isinstance bt_isinstance (pa_cons (pv 2) (pa_cons (pe_bltn (v := .ty "tuple") (by rfl) T_.n_tuple bt_tuple rfl) pa_nil))))) (pw_or (pt_cmpR op_ne (pe_callB (kC K rLenS call_len_seq) (by rfl) T_.n_len PySem.boot_len (pa_cons (pv 2) pa_nil)) pe_int (nomark _)) (pw_or (pt_not (pt_val (pe_callB (kC K rIsi call_isi) (by rfl) T_.n_isinstance bt_isinstance (pa_cons (pe_ix (kI K rIxT ix_tup) (pv 2) pe_int (fun _ _ => rfl)) (pa_cons (pe_bltn (v := .ty "str") (by rfl) T_.n_str bt_str rfl) pa_nil))))) (pw_or1 (pt_cmpR op_ne (pe_callB call_len_str (by rfl) T_.n_len PySem.boot_len (pa_cons (pe_ix (kI K rIxT ix_tup) (pv 2) pe_int (fun _ _ => rfl)) pa_nil)) pe_int (nomark _)))))))
      (pss_one (ps_ret pe_bl))
      pss_nil)
      (pss_one (ps_if (PW.pt (pw_or (pt_not (pt_val (pe_cl c__law_whole hr (by first | decide | omega) (by rfl) (pa_cons (pe_ix (kI K rIxT ix_tup) (pv 2) pe_int (fun _ _ => rfl)) pa_nil)))) (pw_or1 (pt_not (pt_chain op_le op_lt pe_int (pe_ix (kI K rIxT ix_tup) (pv 2) pe_int (fun _ _ => rfl)) (pv 1))))))
      (pss_one (ps_ret pe_bl))
      pss_nil))))
      (pss_one (ps_ret (pe_cmpR (kO K rEqD (op_eqD (hu64 hr))) (pe_lc (own := [("_law_k", 3)]) (g := gName 3) rfl sc__law_is_room.nd (pi_range2 (by rfl) T_.n_range (pa_cons pe_int (pa_cons (pe_callB (kC K rLenS call_len_seq) (by rfl) T_.n_len PySem.boot_len (pa_cons (pv 0) pa_nil)) pa_nil))) (blkOk_by (N := ["_law_thing", "_law_many", "_law_line", "_law_k"]) (sc := defScope s__law_is_room) (by decide +kernel)) (fun _ _ _ _ _ => (pg_name (i := 3) sc__law_is_room.nd rfl (Or.inl rfl))) (fun _ _ _ _ _ => (pts_one (pt_cmpR op_ge_str (pe_ix (kI K rIxT ix_tup) (pe_ix (kI K rIxT ix_tup) (pv 0) (pe_op op_sub (pv 3) pe_int) (fun _ _ => rfl)) pe_int (fun _ _ => rfl)) (pe_ix (kI K rIxT ix_tup) (pe_ix (kI K rIxT ix_tup) (pv 0) (pv 3) (fun _ _ => rfl)) pe_int (fun _ _ => rfl)) (nomark _)))) (fun _ _ _ _ _ => (pv 3))) (pe_lst pa_nil) (nomark _)))))), ?_⟩
    obtain ⟨xs, rfl, hlen, hnear⟩ := eqv_tup heq
    rw [List.length_map] at hlen
    have hit := hsm.item
    refine q_when (b := false) (et_not (a := true) (et_B (ev_isQ (eq_var rfl hv) (kit_T _ hsm.nod)))) (fun hb => by cases hb) fun _ H1 e1 => ?_
    have hv1 := Dp.ext e1 hv
    refine q_forIQ (es := xs) (ei_tupQ (eq_var rfl hv1)) (fun H2 i σ' H' => (∃ x, σ' = [some v, some (.int (n : Int)), x, none]) ∧ Ex H2 H' ∧ Ex H H' ∧ ∀ m x, m < i → xs[m]? = some x → exactD x = true) (fun H2 e2 => ⟨⟨_, rfl⟩, Ex.refl _, e1.trans e2, fun m x hm => absurd hm (Nat.not_lt_zero m)⟩) (fun H2 i σ' H' p => p.2.1) ?_ ?_
    · rintro H2 i dt x σ' H' H3 e2 hi ⟨⟨y, rfl⟩, e3, e4, hex⟩ e5 hx
      have hil : i < ln.length := by
        have := (List.getElem?_eq_some_iff.mp hi).1
        omega
      have hgi : ln[i]? = some ln[i] := List.getElem?_eq_getElem hil
      have hp2 := hlt _ (List.getElem_mem hil)
      generalize ln[i] = p at hgi hp2
      obtain ⟨g, rfl, hg⟩ := near_line (hnear i dt (encLn p) hi (by rw [List.getElem?_map, hgi]; rfl))
      have hsd := hit.2 _ (List.mem_of_getElem? hi)
      have hsg := hsd.at0 (i := 1) (d := g) rfl
      have hss := hsd.at0 (i := 0) (d := .str (S [p.1])) rfl
      have h0 : ∀ H', Ex H3 H' → EvQ K (tOp (rIxT K) (tVar 2) (tC (.int 0))) [some v, some (.int (n : Int)), some x, none] H' (.str (S [p.1])) := fun H' e => eq_ixT (j := 0) (eq_var rfl (Dp.ext e hx)) (ev_is ev_c rfl) rfl
      have h1 : ∀ H', Ex H3 H' → EvQ K (tOp (rIxT K) (tVar 2) (tC (.int 1))) [some v, some (.int (n : Int)), some x, none] H' g := fun H' e => eq_ixT (j := 1) (eq_var rfl (Dp.ext e hx)) (ev_is ev_c rfl) rfl
      have hwh : ∀ H', Ex H3 H' → Ev (tCall (spWholeQ K) [] E0 (tCons (tOp (rIxT K) (tVar 2) (tC (.int 1))) tNil)) [some v, some (.int (n : Int)), some x, none] H' (.bl (wholeB g)) := fun H' e => ev_callQ (eqa_cons (h1 _ e) eqa_nil) fun vs H2 e2 hvs => by
        cases hvs with
        | cons g1 g2 =>
          cases g2
          exact sv_wholeQ g1 hsg
      refine q_when (b := false) (et_is (et_or (et_not (a := true) (et_B (ev_isQ (eq_var rfl hx) (kit_T _ hsd.nod)))) fun _ => et_or (et_test (ev_neI (ev_lenQ (eq_var rfl hx)) ev_c)) fun _ => et_or (et_not (a := true) (et_B (ev_isQ (h0 _ (Ex.refl _)) (kit_S _ hss.nod)))) fun _ =>
        et_test (ev_neI (ev_lenStr (ev_strQ (h0 _ (Ex.refl _))) (Nat.le_of_ble_eq_true rfl)) ev_c)) rfl) (fun hb => by cases hb) fun _ H4 e6 => ?_
      have e47 := (e4.trans e5).trans e6
      by_cases hw : wholeB g = true
      · obtain ⟨i2, rfl⟩ := wholeB_iff.mp hw
        have hi2 : i2 = (p.2 : Int) := by
          rw [PyData.eqv] at hg
          exact eq_of_beq hg
        subst hi2
        refine s_when (b := false) (et_is (et_or (et_not (a := true) (et_B (hwh _ e6))) fun _ => et_not (et_test (ev_chain' ev_c (ev_intQ (h1 _ e6)) rv_I0 (fun _ => ev_var rfl) (fun _ => rv_I0)))) ?_) (fun hb => by cases hb) fun _ H5 e7 => ⟨⟨_, rfl⟩, ((e3.trans e5).trans e6).trans e7, e47.trans e7, fun m z hm hz => ?_⟩
        · have : (p.2 : Int) < (n : Int) := by omega
          simp [this]
        · by_cases hmi : m = i
          · subst hmi
            rw [hi] at hz
            cases hz
            simp [exactD, exactAll]
          · exact hex m z (by omega) hz
      · rw [Bool.not_eq_true] at hw
        refine s_when (b := true) (et_is (et_or (a := true) (b := true) (et_is (et_not (et_B (hwh _ e6))) (by rw [hw]; rfl)) fun z => by cases z) rfl) (fun _ H5 e7 => s_ret (v := .bl false) ev_c fun H6 e8 => ?_) (fun hb => by cases hb)
        have hno : exactD (.tuple xs) = false := by
          rw [← Bool.not_eq_true, exact_tup]
          intro z
          have := z _ (List.mem_of_getElem? hi)
          rw [exactD, exactAll, exactAll, exactAll, eqv_int hg, hw] at this
          simp at this
        rw [hno] at q
        exact q H6 ((e47.trans e7).trans e8)
    · rintro H2 σ' H' e2 ⟨⟨y, rfl⟩, e3, e4, hex⟩
      have hE : exactD (.tuple xs) = true := exact_tup.mpr fun x hx => by
        obtain ⟨m, hm, rfl⟩ := List.mem_iff_getElem.mp hx
        exact hex m _ hm (List.getElem?_eq_getElem hm)
      have hxe := PyData.tuple.inj (exact_eq _ _ hE (exact_tup.mpr fun x hx => by
        obtain ⟨p, _, rfl⟩ := List.mem_map.mp hx
        exact exact_line p) heq)
      subst hxe
      rw [hE] at q
      have hv2 := Dp.ext e4 hv
      have hz := hit.1
      rw [List.length_map] at hz
      refine s_ret (v := .bl true) (ev_is (ev_eqD (eq_n (en_lcI ((List.range (((ln.length : Int)) - 1).toNat).map fun (i : Nat) => (1 : Int) + (i : Int)) (fun _ => false) .int ?_ (by rw [List.length_map, List.length_range]; omega) fun s hs H3 e5 => ⟨?_, fun z => by cases z⟩)) (eq_n (en_lst ead_nil (by decide))) (shaped_intsL _) shaped_nil) (congrArg V.bl (by rw [eqv_nil, filter_none]; rfl))) fun H3 e5 => q H3 (e4.trans e5)
      · rw [List.map_map]
        exact ei_rng2 (a := 1) (b := (ln.length : Int)) (ea_cons ev_c (ea_cons (ev_is (ev_lenQ (eq_var rfl hv2)) (by rw [List.length_map])) ea_nil)) (by omega) (by omega)
      · obtain ⟨j, hj, rfl⟩ := List.mem_map.mp hs
        have hj2 := List.mem_range.mp hj
        have hv3 := Dp.ext e5 hv2
        have g0 : ln[j]? = some (ln[j]'(by omega)) := List.getElem?_eq_getElem (by omega)
        have g1 : ln[j + 1]? = some (ln[j + 1]'(by omega)) := List.getElem?_eq_getElem (by omega)
        have hlt2 := List.pairwise_iff_getElem.mp hso j (j + 1) (by omega) (by omega) (by omega)
        generalize ln[j]'(by omega) = p0 at g0 hlt2
        generalize ln[j + 1]'(by omega) = p1 at g1 hlt2
        refine et_is (et_test (ev_op (ev_strQ (eq_ixT (K := K) (j := 0) (d := .str (S [p0.1])) (eq_ixT (j := j) (d := encLn p0) (eq_var rfl hv3) (ev_is (ev_op (ev_var rfl) ev_c rv_I0) (congrArg V.int (by omega))) (by rw [List.getElem?_map, g0]; rfl)) (ev_is ev_c rfl) rfl)) (ev_strQ (eq_ixT (K := K) (j := 0) (d := .str (S [p1.1])) (eq_ixT (j := j + 1) (d := encLn p1) (eq_var rfl hv3) (ev_is (ev_var rfl) (congrArg V.int (by omega))) (by rw [List.getElem?_map, g1]; rfl)) (ev_is ev_c rfl) rfl)) rv_geS)) ?_
        have : [p0.1] < [p1.1] := List.cons_lt_cons_iff.mpr (.inl hlt2)
        simp [this]
end

end TY
namespace TY
open PySem PySem.Spec PyProof.Rows L2 Evl
section
variable {P : Program} {w : World} {K : PySem.W.Frag} {mg : Str → Option Value} {base : Heap}
theorem exact_two {a b : PyData} : exactD (.tuple [a, b]) = (exactD a && exactD b) := by simp [exactD, exactAll]
theorem exact_rs {rs : List PyData} (h : ¬ (rs.filter fun r => !exactD r) = []) : exactD (.tuple rs) = false := by
  rw [← Bool.not_eq_true, exact_tup]
  intro z
  exact h (List.filter_eq_nil_iff.mpr fun r hr => by rw [z r hr]; decide)
theorem exact_all {rs : List PyData} (h : (rs.filter fun r => !exactD r) = []) : exactD (.tuple rs) = true := exact_tup.mpr fun r hr => by
  have := List.filter_eq_nil_iff.mp h r hr
  simpa using this
theorem ok__law_has_form {f : Addr} {fd : FuncData} (F : Fun K "_law_has_form" "_law_has_form" s__law_has_form f fd) (T_ : Nm mg) (c__law_whole : Cl P w K mg base 1 "_law_whole" (spWholeQ K)) (c__law_is_room : Cl P w K mg base 2 "_law_is_room" (spRoomE K)) : FnOk P w K mg base CX0 3 f fd ["_law_thing"] (spFormE K) := by
  refine F.ok sc__law_has_form (fun vs H Q E h => ?_) (fun cdv A outer s H vs Q E hr h => ?_)
  · obtain ⟨v, d, k, R, es, rfl, _⟩ := h
    rfl
  · obtain ⟨v, d, k, R, es, rfl, hv, hsm, hk, heq, hF, q⟩ := h
    refine ⟨_, (pss_cons (ps_if (PW.pt (pw_or (pt_not (pt_val (pe_callB (kC K rIsi call_isi) (by rfl) T_.n_isinstance bt_isinstance (pa_cons (pv 0) (pa_cons (pe_bltn (v := .ty "tuple") (by rfl) T_.n_tuple bt_tuple rfl) pa_nil))))) (pw_or (pt_cmpR op_ne (pe_callB (kC K rLenS call_len_seq) (by rfl) T_.n_len PySem.boot_len (pa_cons (pv 0) pa_nil)) pe_int (nomark _)) (pw_or (pt_not (pt_val (pe_callB (kC K rIsi call_isi) (by rfl) T_.n_isinstance bt_isinstance (pa_cons (pe_ix (kI K rIxT ix_tup) (pv 0) pe_int (fun _ _ => rfl)) (pa_cons (pe_bltn (v := .ty "tuple") (by rfl) T_.n_tuple bt_tuple rfl) pa_nil))))) (pw_or1 (pt_cmpR (kO K rEqD (op_eqD (hu64 hr))) (pe_ix (kI K rIxT ix_tup) (pv 0) pe_int (fun _ _ => rfl)) (pe_tup pa_nil) (nomark _)))))))
      (pss_one (ps_ret pe_bl))
      pss_nil)
      (pss_cons (ps_if (pt_cmpR (kO K rNeD (op_neD (hu64 hr))) (pe_lc (own := [("_law_room", 1)]) (g := gName 1) rfl sc__law_has_form.nd (pi_tupK K (pe_ix (kI K rIxT ix_tup) (pv 0) pe_int (fun _ _ => rfl))) (blkOk_by (N := ["_law_thing", "_law_room"]) (sc := defScope s__law_has_form) (by decide +kernel)) (fun _ _ _ _ _ => (pg_name (i := 1) sc__law_has_form.nd rfl (Or.inl rfl))) (fun _ _ _ _ _ => (pts_one (pt_not (pt_val (pe_cl c__law_is_room hr (by first | decide | omega) (by rfl) (pa_cons (pv 1) (pa_cons (pe_callB (kC K rLenS call_len_seq) (by rfl) T_.n_len PySem.boot_len (pa_cons (pe_ix (kI K rIxT ix_tup) (pv 0) pe_int (fun _ _ => rfl)) pa_nil)) pa_nil))))))) (fun _ _ _ _ _ => (pv 1))) (pe_lst pa_nil) (nomark _))
      (pss_one (ps_ret pe_bl))
      pss_nil)
      (pss_cons (ps_if (PW.pt (pw_or (pt_not (pt_val (pe_callB (kC K rIsi call_isi) (by rfl) T_.n_isinstance bt_isinstance (pa_cons (pe_ix (kI K rIxT ix_tup) (pv 0) pe_int (fun _ _ => rfl)) (pa_cons (pe_bltn (v := .ty "tuple") (by rfl) T_.n_tuple bt_tuple rfl) pa_nil))))) (pw_or1 (pt_cmpR (kO K rNeD (op_neD (hu64 hr))) (pe_lc (own := [("_law_room", 1)]) (g := gName 1) rfl sc__law_has_form.nd (pi_tupK K (pe_ix (kI K rIxT ix_tup) (pv 0) pe_int (fun _ _ => rfl))) (blkOk_by (N := ["_law_thing", "_law_room"]) (sc := defScope s__law_has_form) (by decide +kernel)) (fun _ _ _ _ _ => (pg_name (i := 1) sc__law_has_form.nd rfl (Or.inl rfl))) (fun _ _ _ _ _ => (pts_one (pt_not (pt_val (pe_cl c__law_whole hr (by first | decide | omega) (by rfl) (pa_cons (pv 1) pa_nil)))))) (fun _ _ _ _ _ => (pv 1))) (pe_lst pa_nil) (nomark _)))))
      (pss_one (ps_ret pe_bl))
      pss_nil)
      (pss_one (ps_ret (pe_cmpR (kO K rEqD (op_eqD (hu64 hr))) (pe_lc (own := [("_law_room", 1)]) (g := gName 1) rfl sc__law_has_form.nd (pi_range1 (by rfl) T_.n_range (pa_cons (pe_callB (kC K rLenS call_len_seq) (by rfl) T_.n_len PySem.boot_len (pa_cons (pe_ix (kI K rIxT ix_tup) (pv 0) pe_int (fun _ _ => rfl)) pa_nil)) pa_nil)) (blkOk_by (N := ["_law_thing", "_law_room"]) (sc := defScope s__law_has_form) (by decide +kernel)) (fun _ _ _ _ _ => (pg_name (i := 1) sc__law_has_form.nd rfl (Or.inl rfl))) (fun _ _ _ _ _ => (pts_one (pt_cmpR (kO K (fun K => rIn K false) op_in_seq) (pv 1) (pe_ix (kI K rIxT ix_tup) (pv 0) pe_int (fun _ _ => rfl)) rfl))) (fun _ _ _ _ _ => (pv 1))) (pe_callTy (kC K rListS call_list_of) (by rfl) T_.n_list bt_list (pa_cons (pe_ix (kI K rIxT ix_tup) (pv 0) pe_int (fun _ _ => rfl)) pa_nil)) (nomark _))))))), ?_⟩
    have hG := hF.good
    have hfew := hG.few
    obtain ⟨ds, rfl, hl2, hi2⟩ := eqv_tup heq
    match ds, hl2, hi2, heq, hv, hsm, q with
    | [a, b], _, hi2, heq, hv, hsm, q =>
      obtain ⟨rs, rfl, hrl, hri⟩ := eqv_tup (ys := R.map fun ln => .tuple (ln.map encLn)) (hi2 0 a _ rfl rfl)
      obtain ⟨gs, rfl, hgl, hgi⟩ := eqv_tup (ys := es.map fun (e : Nat) => .int (e : Int)) (hi2 1 b _ rfl rfl)
      rw [List.length_map] at hrl hgl
      have hsr := hsm.at0 (i := 0) (d := .tuple rs) rfl
      have hsg := hsm.at0 (i := 1) (d := .tuple gs) rfl
      have d0 : ∀ σ : L2.St, σ[0]? = some (some v) → ∀ H', Ex H H' → EvQ K (tOp (rIxT K) (tVar 0) (tC (.int 0))) σ H' (.tuple rs) := fun σ hσ H' e => eq_ixT (j := 0) (eq_var hσ (Dp.ext e hv)) (ev_is ev_c rfl) rfl
      have d1 : ∀ σ : L2.St, σ[0]? = some (some v) → ∀ H', Ex H H' → EvQ K (tOp (rIxT K) (tVar 0) (tC (.int 1))) σ H' (.tuple gs) := fun σ hσ H' e => eq_ixT (j := 1) (eq_var hσ (Dp.ext e hv)) (ev_is ev_c rfl) rfl
      refine q_when (b := false) (et_is (et_or (et_not (a := true) (et_B (ev_isQ (eq_var rfl hv) (kit_T _ hsm.nod)))) fun _ => et_or (et_test (ev_neI (ev_lenQ (eq_var rfl hv)) ev_c)) fun _ => et_or (et_not (a := true) (et_B (ev_isQ (d0 _ rfl _ (Ex.refl _)) (kit_T _ hsr.nod)))) fun _ => et_test (ev_eqD (d0 _ rfl _ (Ex.refl _)) (eq_d (ed_tup ead_nil (Nat.le_of_ble_eq_true rfl))) (hsr.shaped (by omega)) shaped_t0)) ?_) (fun hb => by cases hb) fun _ H1 e1 => ?_
      · have hp := hG.pos
        cases rs with
        | nil =>
          rw [List.length_nil] at hrl
          omega
        | cons a rs => simp [PyData.eqv, PyData.eqvAll]
      have hr63 := hsr.item
      have hg63 := hsg.item
      refine q_when (b := !decide ((rs.filter fun r => !exactD r) = [])) (et_test (ev_is (ev_neD (eq_lcV rs (fun r => !exactD r) (ei_tupB (d0 _ rfl _ e1)) (by omega) (fun r hr x H2 e2 hx => et_not (et_B (ev_callQ (eqa_cons (eq_var rfl hx) (eqa_cons (eq_int (ev_lenQ (d0 _ rfl _ (e1.trans e2)))) eqa_nil)) fun vs H3 e3 hvs => ?_))) (fun x => rfl)) (eq_n (en_lst ead_nil (by decide))) (Sm.shaped (k := k + 1) (.lst (by have := List.length_filter_le (fun r => !exactD r) rs; omega) fun y hy => hr63.2 y (List.mem_filter.mp hy).1) (by omega)) shaped_nil) (congrArg V.bl (by rw [eqv_nil])))) (fun hb H2 e2 => ?_) fun hb H2 e2 => ?_
      · cases hvs with
        | cons g1 g2 =>
          cases g2 with
          | cons g3 g4 =>
            cases g3
            cases g4
            obtain ⟨m, hm, rfl⟩ := List.mem_iff_getElem.mp hr
            have hmR : m < R.length := by omega
            have hin := List.getElem_mem hmR
            have he := hri m _ _ (List.getElem?_eq_getElem hm) (by rw [List.getElem?_map, List.getElem?_eq_getElem hmR]; rfl)
            rw [hrl]
            exact sv_roomE g1 (hr63.2 _ (List.getElem_mem hm)) hk he (fun p hp => hG.lt _ hin p hp) (hF.sorted _ hin)
      · have hno : exactD (.tuple [.tuple rs, .tuple gs]) = false := by
          rw [exact_two, exact_rs (fun z => by rw [z] at hb; simp at hb)]
          rfl
        rw [hno] at q
        exact s_ret (v := .bl false) ev_c fun H3 e3 => q H3 ((e1.trans e2).trans e3)
      have hEr : exactD (.tuple rs) = true := exact_all (by simpa using hb)
      have e12 := e1.trans e2
      have hgw : ∀ g ∈ gs, exactD g = wholeB g := fun g hg => by
        obtain ⟨m, hm, rfl⟩ := List.mem_iff_getElem.mp hg
        have hmE : m < es.length := by omega
        exact eqv_int (hgi m _ _ (List.getElem?_eq_getElem hm) (by rw [List.getElem?_map, List.getElem?_eq_getElem hmE]; rfl))
      refine q_when (b := !decide ((gs.filter fun g => !exactD g) = [])) (et_is (et_or (et_not (a := true) (et_B (ev_isQ (d1 _ rfl _ e12) (kit_T _ hsg.nod)))) fun _ => et_test (ev_is (ev_neD (eq_lcV gs (fun g => !exactD g) (ei_tupB (d1 _ rfl _ e12)) (by omega) (fun g hg x H3 e3 hx => et_not (et_B (ev_is (ev_callQ (eqa_cons (eq_var rfl hx) eqa_nil) fun vs H4 e4 hvs => ?_) (congrArg V.bl (hgw g hg).symm)))) (fun x => rfl)) (eq_n (en_lst ead_nil (by decide))) (Sm.shaped (k := k + 1) (.lst (by have := List.length_filter_le (fun r => !exactD r) gs; omega) fun y hy => hg63.2 y (List.mem_filter.mp hy).1) (by omega)) shaped_nil) (congrArg V.bl (by rw [eqv_nil]; rfl)))) rfl) (fun hb H3 e3 => ?_) fun hb3 H3 e3 => ?_
      · cases hvs with
        | cons g1 g2 =>
          cases g2
          exact sv_wholeQ g1 (hg63.2 g hg)
      · have hno : exactD (.tuple [.tuple rs, .tuple gs]) = false := by
          rw [exact_two, exact_rs (rs := gs) (fun z => by rw [z] at hb; simp at hb), Bool.and_false]
        rw [hno] at q
        exact s_ret (v := .bl false) ev_c fun H4 e4 => q H4 ((e12.trans e3).trans e4)
      have hEg : exactD (.tuple gs) = true := exact_all (by simpa using hb3)
      have hE : exactD (.tuple [.tuple rs, .tuple gs]) = true := by rw [exact_two, hEr, hEg]; rfl
      have hde := exact_eq _ _ hE (by rw [exact_two, exact_rooms, exact_E]; rfl) heq
      have h5 := List.cons.inj (PyData.tuple.inj hde)
      have hrs := h5.1
      have hgs := (List.cons.inj h5.2).1
      rw [hE] at q
      have e13 := e12.trans e3
      have hesl : es.length ≤ 30000 := by
        have := hF.ends
        have h2 := List.length_filter_le (fun i => decide (i ∈ es)) (List.range R.length)
        rw [← this, List.length_range] at h2
        omega
      rw [encE_ints] at hgs
      have hgs2 := PyData.tuple.inj hgs
      subst hgs2
      have isV : ∀ {te : TE} {σ : L2.St} {H' : Hp} {s : Int}, Ev te σ H' (.int s) → ∀ {tb : TE} {ns : List Int}, EvQ K tb σ H' (.tuple (ns.map .int)) → Ev (tOp (rIn K false) te tb) σ H' (.bl (decide (s ∈ ns))) := fun {te σ H' s} h {tb ns} h2 H1 e Q q =>
        h H1 e _ fun H2 e2 => h2 H2 (e.trans e2) _ fun v H3 e3 hv => by
          obtain ⟨a, xs, rfl, h3, h4⟩ := dp_tup hv
          have hxs : ∀ {vs : List V} {ns : List Int}, DpAll K H3 vs (ns.map .int) → vs = ns.map V.int := fun {vs} => by
            induction vs with
            | nil =>
              intro ns h
              cases ns with
              | nil => rfl
              | cons n ns => cases h
            | cons x vs ih =>
              intro ns h
              cases ns with
              | nil => cases h
              | cons n ns =>
                cases h with
                | cons h hs =>
                  cases h
                  rw [ih hs]
                  rfl
          cases hxs h4
          exact ⟨a, _, rfl, .inr h3, rfl, flat_ints ns, by
            show Q (.bl (inV (.int s) (ns.map V.int))) H3
            rw [inV_ints]
            exact q H3 (e2.trans e3)⟩
      refine s_ret (v := .bl true) (ev_is (ev_eqD (eq_n (en_lcI (rngV R.length) (fun s => decide (s ∈ es.map fun (e : Nat) => (e : Int))) .int (ei_rngV (ea_cons (ev_is (ev_lenQ (d0 _ rfl _ e13)) (by rw [hrl])) ea_nil) (by omega)) (by rw [rngV_len]; omega) fun s hs H4 e4 => ⟨et_test (isV (ev_var rfl) (d1 _ rfl _ (e13.trans e4))), fun _ => ed_int (ev_var rfl)⟩)) (eq_listOf (d1 _ rfl _ e13)) (shaped_intsL _) (shaped_intsL _)) (congrArg V.bl ?_)) fun H4 e4 => q H4 (e13.trans e4)
      rw [PyData.eqv, eqv_ints, decide_eq_true_eq]
      conv => rhs; rw [hF.ends]
      unfold rngV
      rw [List.filter_map]
      congr 1
      refine List.filter_congr fun i _ => ?_
      show decide ((i : Int) ∈ es.map fun (e : Nat) => (e : Int)) = decide (i ∈ es)
      rw [decide_eq_decide, List.mem_map]
      constructor
      · rintro ⟨e, he, z⟩
        have : e = i := by omega
        rw [← this]
        exact he
      · intro h
        exact ⟨i, h, rfl⟩
end

end TY
namespace TY
open PySem PySem.Spec PyProof.Rows L2 Evl
/-! ### side by side -/
theorem take_lt : ∀ (k : Nat) (v u : List Nat), v.take k < u.take k → v < u
  | 0, v, u, h => absurd h (by simp)
  | k + 1, [], [], h => absurd h (by simp)
  | k + 1, [], b :: u, h => List.nil_lt_cons b u
  | k + 1, a :: v, [], h => absurd h (by simp)
  | k + 1, a :: v, b :: u, h => by
    rw [List.take_succ_cons, List.take_succ_cons, List.cons_lt_cons_iff] at h
    rw [List.cons_lt_cons_iff]
    rcases h with h | ⟨h1, h2⟩
    · exact .inl h
    · exact .inr ⟨h1, take_lt k v u h2⟩
theorem take_le {k : Nat} {v u : List Nat} (h : v ≤ u) : v.take k ≤ u.take k := fun z => h (take_lt k u v z)
theorem tl_total (l : List Nat) : PySem.W.TotalLe fun i j : Nat => decide (l.drop i ≤ l.drop j) where
  trans a b c h1 h2 := decide_eq_true (List.le_trans (of_decide_eq_true h1) (of_decide_eq_true h2))
  total a b := (List.le_total (l.drop a) (l.drop b)).elim (fun h => .inl (decide_eq_true h)) fun h => .inr (decide_eq_true h)
def tailsN (l : List Nat) : List Nat := (List.range l.length).mergeSort fun i j => decide (l.drop i ≤ l.drop j)
theorem tailsN_perm (l : List Nat) : (tailsN l).Perm (List.range l.length) := List.mergeSort_perm _ _
theorem tailsN_len (l : List Nat) : (tailsN l).length = l.length := by
  rw [(tailsN_perm l).length_eq, List.length_range]
theorem tailsN_lt {l : List Nat} {i : Nat} (h : i ∈ tailsN l) : i < l.length := List.mem_range.mp ((tailsN_perm l).mem_iff.mp h)
theorem tailsN_sorted (l : List Nat) : (tailsN l).Pairwise fun i j => l.drop i ≤ l.drop j := (PySem.W.sort_pairwise (tl_total l) (List.range l.length)).imp fun h => of_decide_eq_true h

end TY
namespace TY
open PySem PySem.Spec PyProof.Rows L2 Evl
/-! ### how far texts begin alike -/
def lcpN : List Nat → List Nat → Nat
  | a :: x, b :: y => if a = b then lcpN x y + 1 else 0
  | _, _ => 0
theorem lcpN_le : ∀ x y : List Nat, lcpN x y ≤ x.length ∧ lcpN x y ≤ y.length
  | a :: x, b :: y => by
    unfold lcpN
    have := lcpN_le x y
    split
    · simp only [List.length_cons]
      omega
    · simp only [List.length_cons]
      omega
  | [], _ => by simp [lcpN]
  | _ :: _, [] => by simp [lcpN]
theorem lcpN_take : ∀ (x y : List Nat) (k : Nat), k ≤ lcpN x y → x.take k = y.take k
  | a :: x, b :: y, k, h => by
    unfold lcpN at h
    split at h
    · next e =>
      subst e
      cases k with
      | zero => rfl
      | succ k => rw [List.take_succ_cons, List.take_succ_cons, lcpN_take x y k (by omega)]
    · obtain rfl : k = 0 := by omega
      rfl
  | [], y, k, h => by
    obtain rfl : k = 0 := by simpa [lcpN] using h
    simp
  | _ :: _, [], k, h => by
    obtain rfl : k = 0 := by simpa [lcpN] using h
    simp
theorem lcpN_ge : ∀ (x y : List Nat) (k : Nat), x.take k = y.take k → k ≤ x.length → k ≤ y.length → k ≤ lcpN x y
  | _, _, 0, _, _, _ => Nat.zero_le _
  | a :: x, b :: y, k + 1, h, h1, h2 => by
    rw [List.take_succ_cons, List.take_succ_cons, List.cons.injEq] at h
    unfold lcpN
    rw [if_pos h.1]
    have := lcpN_ge x y k h.2 (by simpa using h1) (by simpa using h2)
    omega
  | [], _, k + 1, _, h1, _ => absurd h1 (by simp)
  | _ :: _, [], k + 1, _, _, h2 => absurd h2 (by simp)
theorem lcpN_more {x y : List Nat} (hne : x ≠ y) : x.take (lcpN x y + 1) ≠ y.take (lcpN x y + 1) := by
  intro h
  have h1 := lcpN_le x y
  have hl := congrArg List.length h
  rw [List.length_take, List.length_take] at hl
  by_cases hx : lcpN x y + 1 ≤ x.length
  · have := lcpN_ge x y _ h hx (by omega)
    omega
  · rw [List.take_of_length_le (by omega), List.take_of_length_le (by omega)] at h
    exact hne h
theorem pre_lcp {w x y : List Nat} (hy : w <+: y) : w <+: x ↔ w.length ≤ lcpN x y := by
  have ey := List.prefix_iff_eq_take.mp hy
  constructor
  · intro hx
    have ex := List.prefix_iff_eq_take.mp hx
    exact lcpN_ge x y _ (ex.symm.trans ey) hx.length_le hy.length_le
  · intro h
    have e := lcpN_take x y _ h
    rw [ey, ← e]
    exact List.take_prefix _ _
/-! ### parts by tails in order -/
/-- beginnings of each text of a list that the one ahead does not have -/
def fresh (p : List Nat) : List (List Nat) → List (List Nat)
  | [] => []
  | u :: ts => ((List.range' (lcpN p u + 1) (u.length - lcpN p u)).map fun k => u.take k) ++ fresh u ts
theorem fresh_mem : ∀ (ts : List (List Nat)) (p w : List Nat), (p :: ts).Pairwise (· ≤ ·) → (w ∈ fresh p ts ↔ (∃ t ∈ ts, w <+: t) ∧ ¬ w <+: p)
  | [], p, w, _ => by simp [fresh]
  | u :: ts, p, w, h => by
    have h1 := List.pairwise_cons.mp h
    have h2 := List.pairwise_cons.mp h1.2
    have ih := fresh_mem ts u w h1.2
    have hu : w ∈ ((List.range' (lcpN p u + 1) (u.length - lcpN p u)).map fun k => u.take k) ↔ w <+: u ∧ ¬ w <+: p := by
      rw [List.mem_map]
      have hle := lcpN_le p u
      constructor
      · rintro ⟨k, hk, rfl⟩
        rw [List.mem_range'_1] at hk
        refine ⟨List.take_prefix _ _, fun z => ?_⟩
        have := (pre_lcp (List.take_prefix k u)).mp z
        rw [List.length_take] at this
        omega
      · rintro ⟨hw, hn⟩
        refine ⟨w.length, ?_, (List.prefix_iff_eq_take.mp hw).symm⟩
        rw [List.mem_range'_1]
        have := hw.length_le
        have : ¬ w.length ≤ lcpN p u := fun z => hn ((pre_lcp hw).mpr z)
        omega
    unfold fresh
    rw [List.mem_append, hu, ih]
    constructor
    · rintro (⟨a, b⟩ | ⟨⟨t, ht, a⟩, b⟩)
      · exact ⟨⟨u, List.mem_cons_self, a⟩, b⟩
      · refine ⟨⟨t, List.mem_cons_of_mem _ ht, a⟩, fun z => b ?_⟩
        have l1 := take_le (k := w.length) (h1.1 u List.mem_cons_self)
        have l2 := take_le (k := w.length) (h2.1 t ht)
        rw [← List.prefix_iff_eq_take.mp z] at l1
        rw [← List.prefix_iff_eq_take.mp a] at l2
        exact List.prefix_iff_eq_take.mpr (List.le_antisymm l1 l2)
    · rintro ⟨⟨t, ht, a⟩, b⟩
      rcases List.mem_cons.mp ht with rfl | ht
      · exact .inl ⟨a, b⟩
      · by_cases hw : w <+: u
        · exact .inl ⟨hw, b⟩
        · exact .inr ⟨⟨t, ht, a⟩, hw⟩
theorem fresh_nodup : ∀ (ts : List (List Nat)) (p : List Nat), (p :: ts).Pairwise (· ≤ ·) → (fresh p ts).Nodup
  | [], p, _ => List.nodup_nil
  | u :: ts, p, h => by
    have h1 := List.pairwise_cons.mp h
    unfold fresh
    rw [List.nodup_append]
    refine ⟨?_, fresh_nodup ts u h1.2, fun a ha b hb e => ?_⟩
    · rw [List.Nodup, List.pairwise_map]
      refine List.Pairwise.imp_of_mem ?_ (List.pairwise_lt_range')
      intro a b ha hb hab e
      rw [List.mem_range'_1] at ha hb
      have hle := lcpN_le p u
      have := congrArg List.length e
      rw [List.length_take, List.length_take] at this
      omega
    · subst e
      obtain ⟨k, _, rfl⟩ := List.mem_map.mp ha
      exact ((fresh_mem ts u _ h1.2).mp hb).2 (List.take_prefix _ _)
theorem fresh_len : ∀ (ts : List (List Nat)) (p : List Nat), (fresh p ts).length + ((p :: ts).zip ts |>.map fun q => lcpN q.1 q.2).sum = (ts.map List.length).sum
  | [], p => rfl
  | u :: ts, p => by
    have ih := fresh_len ts u
    have hle := lcpN_le p u
    unfold fresh
    simp only [List.length_append, List.length_map, List.length_range', List.zip_cons_cons, List.map_cons, List.sum_cons]
    omega
theorem sum_tails : ∀ n : Nat, 2 * ((List.range n).map fun i => n - i).sum = n * (n + 1)
  | 0 => rfl
  | n + 1 => by
    rw [List.range_succ_eq_map, List.map_cons, List.sum_cons, List.map_map]
    have e : ((fun i => n + 1 - i) ∘ Nat.succ) = fun i => n - i := by
      funext i
      show n + 1 - (i + 1) = n - i
      omega
    rw [e, Nat.mul_add, sum_tails n, Nat.sub_zero, ← Nat.add_mul, Nat.mul_comm]
    congr 1
    omega
/-- the tails themselves, in order -/
def tailsL (l : List Nat) : List (List Nat) := (tailsN l).map fun k => l.drop k
/-- what neighbours have alike -/
def nearN (l : List Nat) : List Nat := ((tailsL l).zip ((tailsL l).drop 1)).map fun q => lcpN q.1 q.2
theorem sum_perm {xs ys : List Nat} (h : xs.Perm ys) : xs.sum = ys.sum := by
  induction h with
  | nil => rfl
  | cons x _ ih => rw [List.sum_cons, List.sum_cons, ih]
  | swap x y l => simp only [List.sum_cons]; omega
  | trans _ _ ih1 ih2 => exact ih1.trans ih2
theorem tailsL_sorted (l : List Nat) : ([] :: tailsL l).Pairwise (· ≤ ·) := by
  refine List.pairwise_cons.mpr ⟨fun t _ => List.nil_le t, ?_⟩
  unfold tailsL
  rw [List.pairwise_map]
  exact tailsN_sorted l
theorem parts_count (l : List Nat) : 2 * (allParts l).length + 2 * (nearN l).sum = 2 + l.length * (l.length + 1) := by
  have hs := tailsL_sorted l
  have hp : (allParts l).Perm ([] :: fresh [] (tailsL l)) := by
    refine (List.perm_ext_iff_of_nodup (allParts_nodup l) (List.nodup_cons.mpr ⟨fun z => ?_, fresh_nodup _ _ hs⟩)).mpr fun w => ?_
    · exact ((fresh_mem _ _ _ hs).mp z).2 (List.nil_prefix)
    · rw [allParts_mem, List.mem_cons, fresh_mem _ _ _ hs]
      constructor
      · intro h
        by_cases hw : w = []
        · exact .inl hw
        · right
          obtain ⟨u, v, e⟩ := h
          refine ⟨⟨l.drop u.length, ?_, ?_⟩, fun z => hw (List.prefix_nil.mp z)⟩
          · refine List.mem_map.mpr ⟨u.length, ?_, rfl⟩
            rw [(tailsN_perm l).mem_iff, List.mem_range, ← e]
            simp only [List.length_append]
            have : 0 < w.length := List.length_pos_iff.mpr hw
            omega
          · rw [← e, List.append_assoc, List.drop_left]
            exact List.prefix_append _ _
      · rintro (rfl | ⟨⟨t, ht, hw⟩, _⟩)
        · exact List.nil_infix
        · obtain ⟨k, _, rfl⟩ := List.mem_map.mp ht
          exact hw.isInfix.trans (List.drop_suffix k l).isInfix
  have hl := hp.length_eq
  rw [List.length_cons] at hl
  have hf := fresh_len (tailsL l) []
  have hnear : (([] :: tailsL l).zip (tailsL l) |>.map fun q => lcpN q.1 q.2).sum = (nearN l).sum := by
    unfold nearN
    cases h : tailsL l with
    | nil => rfl
    | cons t ts =>
      rw [List.zip_cons_cons, List.map_cons, List.sum_cons, List.drop_one, List.tail_cons]
      have : lcpN [] t = 0 := rfl
      rw [this, Nat.zero_add]
  have hsum : ((tailsL l).map List.length).sum = ((List.range l.length).map fun i => l.length - i).sum := by
    unfold tailsL
    rw [List.map_map]
    have e : (List.length ∘ fun k => l.drop k) = fun i => l.length - i := by
      funext i
      show (l.drop i).length = _
      rw [List.length_drop]
    rw [e]
    exact sum_perm ((tailsN_perm l).map _)
  have h2 := sum_tails l.length
  rw [hsum] at hf
  rw [hnear] at hf
  omega

end TY
namespace TY
open PySem PySem.Spec PyProof.Rows L2 Evl
/-! ### few rooms -/
def MaxW (l w : List Nat) : Prop := w <:+: l ∧ ∀ x, endN l (x :: w) ≠ endN l w
theorem endN_sub {l w : List Nat} (u : List Nat) {e : Nat} (h : e ∈ endN l (u ++ w)) : e ∈ endN l w := by
  obtain ⟨h1, h2⟩ := endN_mem.mp h
  exact endN_mem.mpr ⟨h1, (List.suffix_append u w).trans h2⟩
theorem endN_ext {l v w : List Nat} (h : ∀ e, e ∈ endN l v ↔ e ∈ endN l w) : endN l v = endN l w := by
  unfold endN at *
  refine List.filter_congr fun e he => ?_
  have := h e
  rw [List.mem_filter, List.mem_filter] at this
  rw [decide_eq_decide]
  constructor
  · intro z
    exact of_decide_eq_true (this.mp ⟨he, decide_eq_true z⟩).2
  · intro z
    exact of_decide_eq_true (this.mpr ⟨he, decide_eq_true z⟩).2
theorem endN_more {l w : List Nat} {x : Nat} (h : ∀ e ∈ endN l w, e ∈ endN l (x :: w)) : endN l (x :: w) = endN l w := endN_ext fun e => ⟨fun z => endN_sub [x] z, h e⟩
theorem max_of {l : List Nat} : ∀ (k : Nat) (v : List Nat), v <:+: l → l.length ≤ v.length + k → ∃ u, MaxW l u ∧ endN l u = endN l v
  | k, v, hv, hk => by
    by_cases h : ∀ x, endN l (x :: v) ≠ endN l v
    · exact ⟨v, ⟨hv, h⟩, rfl⟩
    · obtain ⟨x, hx⟩ := Classical.not_forall.mp h
      have hx := Classical.not_not.mp hx
      have hv2 : (x :: v) <:+: l := endN_ne.mp (by rw [hx]; exact endN_ne.mpr hv)
      have hl := hv2.length_le
      rw [List.length_cons] at hl
      cases k with
      | zero => omega
      | succ k =>
        obtain ⟨u, h1, h2⟩ := max_of k (x :: v) hv2 (by rw [List.length_cons]; omega)
        exact ⟨u, h1, h2.trans hx⟩
theorem max_suffix {l u t : List Nat} (ht : t ≠ []) (h : endN l (t ++ u) = endN l u) : ¬ MaxW l u := fun hm => by
  rw [← List.dropLast_concat_getLast ht, List.append_assoc] at h
  refine hm.2 (t.getLast ht) (endN_more fun e he => ?_)
  rw [← h] at he
  exact endN_sub t.dropLast he
theorem max_uniq {l u v : List Nat} (hu : MaxW l u) (hv : MaxW l v) (h : endN l u = endN l v) : u = v := by
  obtain ⟨e, he⟩ := List.exists_mem_of_ne_nil _ (endN_ne.mpr hu.1)
  have he2 := he
  rw [h] at he2
  have s1 := (endN_mem.mp he).2
  have s2 := (endN_mem.mp he2).2
  rcases Nat.le_total u.length v.length with hl | hl
  · obtain ⟨t, ht⟩ := List.suffix_of_suffix_length_le s1 s2 hl
    by_cases h0 : t = []
    · rw [h0] at ht
      exact ht
    · exact absurd hu (max_suffix h0 (by rw [ht]; exact h.symm))
  · obtain ⟨t, ht⟩ := List.suffix_of_suffix_length_le s2 s1 hl
    by_cases h0 : t = []
    · rw [h0] at ht
      exact ht.symm
    · exact absurd hv (max_suffix h0 (by rw [ht]; exact h))
/-- the longest word to a room -/
theorem maxE_ex (l : List Nat) : ∃ m : List Nat → List Nat, ∀ E ∈ roomsT l, MaxW l (m E) ∧ endN l (m E) = E := by
  have : ∀ E, ∃ u, E ∈ roomsT l → MaxW l u ∧ endN l u = E := fun E => by
    by_cases hE : E ∈ roomsT l
    · obtain ⟨w, hw, rfl⟩ := (rooms_good l).parts E hE
      obtain ⟨u, h1, h2⟩ := max_of l.length w hw (by omega)
      exact ⟨u, fun _ => ⟨h1, h2⟩⟩
    · exact ⟨[], fun z => absurd z hE⟩
  exact ⟨fun E => Classical.choose (this E), fun E hE => Classical.choose_spec (this E) hE⟩
/-! #### heads, turned round -/
theorem suf_rev {l w : List Nat} {e : Nat} (he : e ≤ l.length) : w <:+ l.take e ↔ w.reverse <+: l.reverse.drop (l.length - e) := by
  rw [← List.reverse_prefix, List.reverse_take]
def lcW (ts : List (List Nat)) (i : Nat) : List Nat := (ts.getD i []).take (lcpN (ts.getD i []) (ts.getD (i + 1) []))
theorem adj_change {α : Type} (f : Nat → α) : ∀ (d a : Nat), f a ≠ f (a + d) → ∃ i, a ≤ i ∧ i < a + d ∧ f i ≠ f (i + 1)
  | 0, a, h => absurd rfl h
  | d + 1, a, h => by
    by_cases h1 : f a = f (a + 1)
    · obtain ⟨i, h2, h3, h4⟩ := adj_change f d (a + 1) (by
        rw [← h1]
        rwa [show a + 1 + d = a + (d + 1) by omega])
      exact ⟨i, by omega, by omega, h4⟩
    · exact ⟨a, by omega, by omega, h1⟩
theorem tailsL_len (l : List Nat) : (tailsL l).length = l.length := by
  unfold tailsL
  rw [List.length_map, tailsN_len]
theorem tailsL_mem {l t : List Nat} : t ∈ tailsL l ↔ ∃ k, k < l.length ∧ t = l.drop k := by
  unfold tailsL
  rw [List.mem_map]
  constructor
  · rintro ⟨k, hk, rfl⟩
    exact ⟨k, tailsN_lt hk, rfl⟩
  · rintro ⟨k, hk, rfl⟩
    exact ⟨k, (tailsN_perm l).mem_iff.mpr (List.mem_range.mpr hk), rfl⟩
theorem getD_mem {ts : List (List Nat)} {i : Nat} (h : i < ts.length) : ts.getD i [] ∈ ts := by
  rw [List.getD_eq_getElem?_getD, List.getElem?_eq_getElem h]
  exact List.getElem_mem h
theorem tailsL_le {l : List Nat} {i j : Nat} (hij : i ≤ j) (hj : j < l.length) : (tailsL l).getD i [] ≤ (tailsL l).getD j [] := by
  have hl := tailsL_len l
  by_cases h : i = j
  · subst h
    exact List.le_refl _
  · have hp := (List.pairwise_cons.mp (tailsL_sorted l)).2
    rw [List.getD_eq_getElem?_getD, List.getD_eq_getElem?_getD, List.getElem?_eq_getElem (show i < (tailsL l).length by omega), List.getElem?_eq_getElem (show j < (tailsL l).length by omega)]
    exact List.pairwise_iff_getElem.mp hp i j (by omega) (by omega) (by omega)
/-- all between two that begin with a word do so -/
theorem pre_between {l w : List Nat} {i j k : Nat} (hij : i ≤ j) (hjk : j ≤ k) (hk : k < l.length) (h1 : w <+: (tailsL l).getD i []) (h2 : w <+: (tailsL l).getD k []) : w <+: (tailsL l).getD j [] := by
  have l1 := take_le (k := w.length) (tailsL_le (l := l) hij (by omega))
  have l2 := take_le (k := w.length) (tailsL_le (l := l) hjk hk)
  rw [← List.prefix_iff_eq_take.mp h1] at l1
  rw [← List.prefix_iff_eq_take.mp h2] at l2
  exact List.prefix_iff_eq_take.mpr (List.le_antisymm l1 l2)
theorem lc_of {w x y : List Nat} (h1 : w <+: x) (h2 : w <+: y) (hx : w.length < x.length) (hy : w.length < y.length) (hne : x[w.length]? ≠ y[w.length]?) : x.take (lcpN x y) = w := by
  have e1 := List.prefix_iff_eq_take.mp h1
  have e2 := List.prefix_iff_eq_take.mp h2
  have hge := lcpN_ge x y w.length (e1.symm.trans e2) (by omega) (by omega)
  have hle : lcpN x y ≤ w.length := by
    refine Classical.byContradiction fun z => hne ?_
    have := lcpN_take x y (w.length + 1) (by omega)
    have h3 := congrArg (fun t : List Nat => t[w.length]?) this
    simp only [List.getElem?_take] at h3
    rw [if_pos (by omega), if_pos (by omega)] at h3
    exact h3
  have : lcpN x y = w.length := by omega
  rw [this, ← e1]
/-- a longest word, turned round, is a head turned round, or what neighbours have alike -/
theorem max_where {l w : List Nat} (h : MaxW l w) : w.reverse ∈ [] :: tailsL l.reverse ∨ ∃ i, i + 1 < l.length ∧ w.reverse = lcW (tailsL l.reverse) i := by
  by_cases h0 : w = []
  · left
    rw [h0]
    exact List.mem_cons_self
  by_cases ht : w.reverse ∈ tailsL l.reverse
  · exact .inl (List.mem_cons_of_mem _ ht)
  right
  have hrl : l.reverse.length = l.length := List.length_reverse
  have hwl : 0 < w.length := List.length_pos_iff.mpr h0
  have hrw : w.reverse.length = w.length := List.length_reverse
  -- each place, as a tail of the turned text
  have at_ : ∀ e ∈ endN l w, ∃ i, i < l.length ∧ (tailsL l.reverse).getD i [] = l.reverse.drop (l.length - e) ∧ w.reverse <+: (tailsL l.reverse).getD i [] ∧ w.length < ((tailsL l.reverse).getD i []).length := fun e he => by
    obtain ⟨h1, h2⟩ := endN_mem.mp he
    have h3 := (suf_rev h1).mp h2
    have h4 := h2.length_le
    rw [List.length_take] at h4
    have hm : l.reverse.drop (l.length - e) ∈ tailsL l.reverse := tailsL_mem.mpr ⟨l.length - e, by omega, rfl⟩
    obtain ⟨i, hi, hie⟩ := List.mem_iff_getElem.mp hm
    have hd : (tailsL l.reverse).getD i [] = l.reverse.drop (l.length - e) := by
      rw [List.getD_eq_getElem?_getD, List.getElem?_eq_getElem hi, ← hie]
      rfl
    rw [tailsL_len, hrl] at hi
    refine ⟨i, hi, hd, by rw [hd]; exact h3, ?_⟩
    rw [hd]
    rcases Nat.lt_or_ge w.length (l.reverse.drop (l.length - e)).length with z | z
    · exact z
    · exfalso
      have h5 : w.reverse = l.reverse.drop (l.length - e) := h3.eq_of_length_le (by rw [hrw]; exact z)
      exact ht (h5 ▸ hm)
  obtain ⟨e0, he0⟩ := List.exists_mem_of_ne_nil _ (endN_ne.mpr h.1)
  obtain ⟨i0, hi0, hd0, hp0, hl0⟩ := at_ e0 he0
  -- some have another next letter
  have hex : ∃ e ∈ endN l w, (l.reverse.drop (l.length - e))[w.length]? ≠ (l.reverse.drop (l.length - e0))[w.length]? := by
    refine Classical.byContradiction fun z => ?_
    have hx : (l.reverse.drop (l.length - e0))[w.length]? = some ((l.reverse.drop (l.length - e0))[w.length]'(by rw [hd0] at hl0; exact hl0)) := List.getElem?_eq_getElem _
    generalize (l.reverse.drop (l.length - e0))[w.length]'(by rw [hd0] at hl0; exact hl0) = x at hx
    refine h.2 x (endN_more fun e he => ?_)
    have h1 := (endN_mem.mp he).1
    refine endN_mem.mpr ⟨h1, (suf_rev h1).mpr ?_⟩
    obtain ⟨i, _, hd, hp, hl⟩ := at_ e he
    have hx2 : (l.reverse.drop (l.length - e))[w.length]? = some x := by
      refine Classical.byContradiction fun y => z ⟨e, he, ?_⟩
      rw [hx]
      exact y
    rw [hd] at hp
    rw [List.reverse_cons]
    have e1 := List.prefix_iff_eq_take.mp hp
    rw [hrw] at e1
    rw [e1]
    obtain ⟨hlt, hxe⟩ := List.getElem?_eq_some_iff.mp hx2
    have : (l.reverse.drop (l.length - e)).take w.length ++ [x] = (l.reverse.drop (l.length - e)).take (w.length + 1) := by
      rw [List.take_succ_eq_append_getElem hlt, hxe]
    rw [this]
    exact List.take_prefix _ _
  obtain ⟨e1, he1, hne⟩ := hex
  obtain ⟨i1, hi1, hd1, hp1, hl1⟩ := at_ e1 he1
  rw [← hd0, ← hd1] at hne
  -- two neighbours with other next letters
  have key : ∀ a b, a ≤ b → b < l.length → w.reverse <+: (tailsL l.reverse).getD a [] → w.reverse <+: (tailsL l.reverse).getD b [] → ((tailsL l.reverse).getD a [])[w.length]? ≠ ((tailsL l.reverse).getD b [])[w.length]? → ∃ i, i + 1 < l.length ∧ w.reverse = lcW (tailsL l.reverse) i := by
    intro a b hab hb ha hb2 hn
    obtain ⟨i, h1, h2, h3⟩ := adj_change (fun i => ((tailsL l.reverse).getD i [])[w.length]?) (b - a) a (by
      rw [show a + (b - a) = b by omega]
      exact hn)
    have q1 := pre_between (l := l.reverse) (w := w.reverse) (i := a) (j := i) (k := b) h1 (by omega) (by omega) ha hb2
    have q2 := pre_between (l := l.reverse) (w := w.reverse) (i := a) (j := i + 1) (k := b) (by omega) (by omega) (by omega) ha hb2
    have longer : ∀ j, j < l.length → w.reverse <+: (tailsL l.reverse).getD j [] → w.reverse.length < ((tailsL l.reverse).getD j []).length := fun j hj hq => by
      rcases Nat.lt_or_ge w.reverse.length ((tailsL l.reverse).getD j []).length with z | z
      · exact z
      · exfalso
        have h5 := hq.eq_of_length_le z
        refine ht (h5 ▸ getD_mem ?_)
        rw [tailsL_len]
        omega
    refine ⟨i, by omega, ?_⟩
    unfold lcW
    refine (lc_of q1 q2 (longer i (by omega) q1) (longer (i + 1) (by omega) q2) ?_).symm
    rw [hrw]
    exact h3
  rcases Nat.le_total i0 i1 with z | z
  · exact key i0 i1 z hi1 hp0 hp1 fun y => hne y.symm
  · exact key i1 i0 z hi0 hp1 hp0 hne

end TY
namespace TY
open PySem PySem.Spec PyProof.Rows L2 Evl
theorem snoc_at {l w : List Nat} {c e : Nat} : (w ++ [c]) <:+ l.take (e + 1) ∧ e < l.length ↔ w <:+ l.take e ∧ l[e]? = some c := by
  constructor
  · rintro ⟨h, he⟩
    rw [List.take_succ_eq_append_getElem he, suffix_snoc] at h
    exact ⟨h.1, by rw [List.getElem?_eq_getElem he, h.2]⟩
  · rintro ⟨h, hc⟩
    obtain ⟨he, hce⟩ := List.getElem?_eq_some_iff.mp hc
    refine ⟨?_, he⟩
    rw [List.take_succ_eq_append_getElem he, suffix_snoc]
    exact ⟨h, hce.symm⟩
def BadI (l : List Nat) (i : Nat) : Prop := lcW (tailsL l.reverse) i ∈ [] :: tailsL l.reverse
open Classical in
theorem rooms_count (l : List Nat) : (roomsT l).length ≤ (l.length + 1) + ((List.range (l.length - 1)).filter fun i => decide (¬ BadI l i)).length := by
  obtain ⟨m, hm⟩ := maxE_ex l
  have := nodup_le (fun w : List Nat => endN l w.reverse) (roomsT l) (([] :: tailsL l.reverse) ++ ((List.range (l.length - 1)).filter fun i => decide (¬ BadI l i)).map (lcW (tailsL l.reverse))) (rooms_good l).nodup fun E hE => by
    obtain ⟨h1, h2⟩ := hm E hE
    refine ⟨(m E).reverse, ?_, by rw [List.reverse_reverse]; exact h2⟩
    rcases max_where h1 with z | ⟨i, hi, z⟩
    · exact List.mem_append_left _ z
    · by_cases hb : BadI l i
      · rw [z]
        exact List.mem_append_left _ hb
      · rw [z]
        exact List.mem_append_right _ (List.mem_map.mpr ⟨i, List.mem_filter.mpr ⟨List.mem_range.mpr (by omega), decide_eq_true hb⟩, rfl⟩)
  rw [List.length_append, List.length_cons, tailsL_len, List.length_reverse, List.length_map] at this
  exact this
open Classical in
theorem bad_one {l : List Nat} {i : Nat} (h : BadI l i) (hi : i < l.length - 1) : ((List.range (l.length - 1)).filter fun i => decide (¬ BadI l i)).length + 1 ≤ l.length - 1 := by
  have := nodup_le (id : Nat → Nat) (((List.range (l.length - 1)).filter fun i => decide (¬ BadI l i)) ++ [i]) (List.range (l.length - 1)) (List.nodup_append.mpr ⟨List.Pairwise.filter _ List.nodup_range, by simp, fun a ha b hb z => by
    rw [List.mem_singleton] at hb
    subst hb
    subst z
    exact of_decide_eq_true (List.mem_filter.mp ha).2 h⟩) fun x hx => by
    rcases List.mem_append.mp hx with z | z
    · exact ⟨x, (List.mem_filter.mp z).1, rfl⟩
    · rw [List.mem_singleton] at z
      exact ⟨x, List.mem_range.mpr (by omega), rfl⟩
  rw [List.length_append, List.length_range] at this
  exact this
open Classical in
theorem bad_two {l : List Nat} {i j : Nat} (h : BadI l i) (h2 : BadI l j) (hij : i ≠ j) (hi : i < l.length - 1) (hj : j < l.length - 1) : ((List.range (l.length - 1)).filter fun i => decide (¬ BadI l i)).length + 2 ≤ l.length - 1 := by
  have := nodup_le (id : Nat → Nat) (((List.range (l.length - 1)).filter fun i => decide (¬ BadI l i)) ++ [i, j]) (List.range (l.length - 1)) (List.nodup_append.mpr ⟨List.Pairwise.filter _ List.nodup_range, by simp [hij], fun a ha b hb z => by
    have hb2 : BadI l b := by
      simp only [List.mem_cons, List.not_mem_nil, or_false] at hb
      rcases hb with rfl | rfl
      · exact h
      · exact h2
    subst z
    exact of_decide_eq_true (List.mem_filter.mp ha).2 hb2⟩) fun x hx => by
    rcases List.mem_append.mp hx with z | z
    · exact ⟨x, (List.mem_filter.mp z).1, rfl⟩
    · refine ⟨x, List.mem_range.mpr ?_, rfl⟩
      simp only [List.mem_cons, List.not_mem_nil, or_false] at z
      omega
  rw [List.length_append, List.length_range] at this
  exact this
/-- where the head of one letter stands -/
theorem first_at {l : List Nat} {c : Nat} (hc : l[0]? = some c) : ∃ k, k < l.length ∧ (tailsL l.reverse).getD k [] = [c] := by
  obtain ⟨h0, e0⟩ := List.getElem?_eq_some_iff.mp hc
  have hd : l.reverse.drop (l.length - 1) = [c] := by
    cases l with
    | nil => cases h0
    | cons a l =>
      rw [List.reverse_cons, List.length_cons, Nat.add_sub_cancel]
      have : l.length = l.reverse.length := List.length_reverse.symm
      rw [this, List.drop_left]
      rw [← e0]
      rfl
  have hm : [c] ∈ tailsL l.reverse := tailsL_mem.mpr ⟨l.length - 1, by rw [List.length_reverse]; omega, hd.symm⟩
  obtain ⟨k, hk, hke⟩ := List.mem_iff_getElem.mp hm
  refine ⟨k, by rw [tailsL_len, List.length_reverse] at hk; exact hk, ?_⟩
  rw [List.getD_eq_getElem?_getD, List.getElem?_eq_getElem hk, ← hke]
  rfl
theorem take_one {c j : Nat} {ts : List (List Nat)} (h : [c] ∈ ts) : ([c] : List Nat).take j ∈ [] :: ts := by
  cases j with
  | zero => exact List.mem_cons_self
  | succ j => exact List.mem_cons_of_mem _ (by simpa using h)
theorem bad_next {l : List Nat} {c i k : Nat} (hk : k < l.length) (hkc : (tailsL l.reverse).getD k [] = [c]) (hi : i = k ∨ i + 1 = k) : BadI l i := by
  have hm : [c] ∈ tailsL l.reverse := by
    rw [← hkc]
    exact getD_mem (by rw [tailsL_len, List.length_reverse]; exact hk)
  unfold BadI lcW
  rcases hi with rfl | rfl
  · rw [hkc]
    exact take_one hm
  · rw [lcpN_take _ _ _ (Nat.le_refl _), hkc]
    exact take_one hm
theorem bad_head {l : List Nat} {i : Nat} (h : ((tailsL l.reverse).getD i []).head? ≠ ((tailsL l.reverse).getD (i + 1) []).head?) : BadI l i := by
  unfold BadI lcW
  have : lcpN ((tailsL l.reverse).getD i []) ((tailsL l.reverse).getD (i + 1) []) = 0 := by
    generalize (tailsL l.reverse).getD i [] = x at *
    generalize (tailsL l.reverse).getD (i + 1) [] = y at *
    cases x with
    | nil => rfl
    | cons a x => cases y with
      | nil => rfl
      | cons b y =>
        unfold lcpN
        rw [if_neg fun z => h (by rw [z]; rfl)]
  rw [this, List.take_zero]
  exact List.mem_cons_self
theorem rooms_small {l : List Nat} (h2 : 2 ≤ l.length) : (roomsT l).length + 1 ≤ 2 * l.length := by
  have hc : l[0]? = some (l[0]'(by omega)) := List.getElem?_eq_getElem _
  obtain ⟨k, hk, hkc⟩ := first_at hc
  have hcount := rooms_count l
  have : ∃ i, i < l.length - 1 ∧ BadI l i := by
    by_cases h0 : k = 0
    · exact ⟨0, by omega, bad_next hk hkc (.inl h0.symm)⟩
    · exact ⟨k - 1, by omega, bad_next hk hkc (.inr (by omega))⟩
  obtain ⟨i, hi, hb⟩ := this
  have := bad_one hb hi
  omega
/-- where the last letter has always the same one ahead, there is a room less -/
theorem rooms_less {l : List Nat} {z : Nat} (h3 : 3 ≤ l.length) (hz : l[l.length - 1]? = some z) (hm : ¬ MaxW l [z]) : (roomsT l).length + 2 ≤ 2 * l.length := by
  have hcount := rooms_count l
  have two : ∃ i j, i ≠ j ∧ i < l.length - 1 ∧ j < l.length - 1 ∧ BadI l i ∧ BadI l j := by
    refine Classical.byContradiction fun hno => ?_
    have hc : l[0]? = some (l[0]'(by omega)) := List.getElem?_eq_getElem _
    generalize l[0]'(by omega) = c at hc
    obtain ⟨k, hk, hkc⟩ := first_at hc
    have same : ∀ a, (∀ i, a ≤ i → i + 1 < l.length → i ≠ k → i + 1 ≠ k → ¬ BadI l i) → True := fun _ _ => trivial
    have hq : ∃ q, ∀ j, j < l.length → j ≠ k → ((tailsL l.reverse).getD j []).head? = q := by
      have bad_k : ∀ i j, i ≠ j → i < l.length - 1 → j < l.length - 1 → BadI l i → ¬ BadI l j := fun i j h1 h2 h3 h4 h5 => hno ⟨i, j, h1, h2, h3, h4, h5⟩
      by_cases h0 : k = 0
      · subst h0
        have b0 : BadI l 0 := bad_next hk hkc (.inl rfl)
        refine ⟨((tailsL l.reverse).getD 1 []).head?, fun j hj hj0 => ?_⟩
        refine Classical.byContradiction fun y => ?_
        obtain ⟨i, h1, h2, h4⟩ := adj_change (fun i => ((tailsL l.reverse).getD i []).head?) (j - 1) 1 (by
          rw [show 1 + (j - 1) = j by omega]
          exact fun e => y e.symm)
        exact bad_k 0 i (by omega) (by omega) (by omega) b0 (bad_head h4)
      · by_cases hk2 : k + 1 < l.length
        · exact absurd (bad_next hk hkc (.inl rfl)) (bad_k (k - 1) k (by omega) (by omega) (by omega) (bad_next hk hkc (.inr (by omega))))
        · have bk : BadI l (k - 1) := bad_next hk hkc (.inr (by omega))
          refine ⟨((tailsL l.reverse).getD 0 []).head?, fun j hj hjk => ?_⟩
          refine Classical.byContradiction fun y => ?_
          obtain ⟨i, h1, h2, h4⟩ := adj_change (fun i => ((tailsL l.reverse).getD i []).head?) j 0 (by
            rw [Nat.zero_add]
            exact fun e => y e.symm)
          exact bad_k (k - 1) i (by omega) (by omega) (by omega) bk (bad_head h4)
    obtain ⟨q, hq⟩ := hq
    have hall : ∀ j, 1 ≤ j → j < l.length → l[j]? = q := fun j h1 hj => by
      have hm2 : l.reverse.drop (l.length - 1 - j) ∈ tailsL l.reverse := tailsL_mem.mpr ⟨_, by rw [List.length_reverse]; omega, rfl⟩
      obtain ⟨i, hi, hie⟩ := List.mem_iff_getElem.mp hm2
      have hd : (tailsL l.reverse).getD i [] = l.reverse.drop (l.length - 1 - j) := by
        rw [List.getD_eq_getElem?_getD, List.getElem?_eq_getElem hi, ← hie]
        rfl
      rw [tailsL_len, List.length_reverse] at hi
      have hik : i ≠ k := fun e => by
        rw [e, hkc] at hd
        have := congrArg List.length hd
        rw [List.length_drop, List.length_reverse, List.length_singleton] at this
        omega
      have := hq i hi hik
      rw [hd, List.head?_drop, List.getElem?_reverse (by omega)] at this
      rw [← this]
      congr 1
      omega
    have hqz : q = some z := by rw [← hz, hall (l.length - 1) (by omega) (by omega)]
    have g1 : l[1]? = some z := by rw [hall 1 (by omega) (by omega), hqz]
    have g2 : l[2]? = some z := by rw [hall 2 (by omega) (by omega), hqz]
    have hzl : [z] <:+: l := by
      refine endN_ne.mp (List.ne_nil_of_mem (a := 2) (endN_mem.mpr ⟨by omega, ?_⟩))
      exact (snoc_at (w := []) (e := 1).mpr ⟨List.nil_suffix, g1⟩).1
    have : ∃ x, endN l [x, z] = endN l [z] := by
      refine Classical.byContradiction fun y => hm ⟨hzl, fun x e => y ⟨x, e⟩⟩
    obtain ⟨x, hx⟩ := this
    have m2 : 2 ∈ endN l [z] := endN_mem.mpr ⟨by omega, (snoc_at (w := []) (e := 1).mpr ⟨List.nil_suffix, g1⟩).1⟩
    have m3 : 3 ∈ endN l [z] := endN_mem.mpr ⟨by omega, (snoc_at (w := []) (e := 2).mpr ⟨List.nil_suffix, g2⟩).1⟩
    rw [← hx] at m2 m3
    have p2 := ((snoc_at (w := [x]) (c := z) (e := 1)).mp ⟨(endN_mem.mp m2).2, by omega⟩).1
    have p3 := ((snoc_at (w := [x]) (c := z) (e := 2)).mp ⟨(endN_mem.mp m3).2, by omega⟩).1
    have q0 := ((snoc_at (w := []) (c := x) (e := 0)).mp ⟨p2, by omega⟩).2
    have q1 := ((snoc_at (w := []) (c := x) (e := 1)).mp ⟨p3, by omega⟩).2
    have hxz : x = z := by
      rw [g1] at q1
      exact (Option.some.inj q1).symm
    subst hxz
    have m1 : 1 ∈ endN l [x] := endN_mem.mpr ⟨by omega, (snoc_at (w := []) (e := 0).mpr ⟨List.nil_suffix, q0⟩).1⟩
    rw [← hx] at m1
    have := (endN_mem.mp m1).2.length_le
    rw [List.length_take] at this
    simp only [List.length_cons, List.length_nil] at this
    omega
  obtain ⟨i, j, hij, hi, hj, bi, bj⟩ := two
  have := bad_two bi bj hij hi hj
  omega
/-! ### few lines -/
theorem split_len {α : Type} (p : α → Bool) : ∀ L : List α, L.length = (L.filter fun v => p v).length + (L.filter fun v => !p v).length
  | [] => rfl
  | a :: L => by
    have := split_len p L
    cases h : p a with
    | true =>
      rw [List.filter_cons, List.filter_cons, h, if_pos rfl, if_neg (by decide), List.length_cons, List.length_cons]
      omega
    | false =>
      rw [List.filter_cons, List.filter_cons, h, if_neg (by decide), if_pos (by decide), List.length_cons, List.length_cons]
      omega
def manyL (l : List Nat) : Nat := ((roomsT l).map fun E => (linesN l E).length).sum
theorem lettersN_eq {l w : List Nat} {c : Nat} : c ∈ lettersN l (endN l w) ↔ (w ++ [c]) <:+: l := by rw [← goalN_ne, goal_end, endN_ne]
theorem snoc_inj {u v : List Nat} {c d : Nat} (h : u ++ [c] = v ++ [d]) : u = v ∧ c = d := by
  have := List.append_inj' h rfl
  exact ⟨this.1, by simpa using this.2⟩
open Classical in
theorem lines_few {l : List Nat} (h3 : 3 ≤ l.length) : manyL l + 4 ≤ 3 * l.length := by
  obtain ⟨m, hm⟩ := maxE_ex l
  -- a word for each line
  have hlen : ((roomsT l).flatMap fun E => (lettersN l E).map fun c => m E ++ [c]).length = manyL l := by
    unfold manyL
    rw [List.length_flatMap]
    congr 1
    refine List.map_congr_left fun E _ => ?_
    unfold linesN nextsN
    rw [List.length_map, List.length_map, List.length_map]
  have hnd : ((roomsT l).flatMap fun E => (lettersN l E).map fun c => m E ++ [c]).Nodup := by
    rw [List.Nodup, List.pairwise_flatMap]
    refine ⟨fun E hE => ?_, ?_⟩
    · rw [List.pairwise_map]
      exact (lettersN_sorted l E).imp fun {a b} h z => by
        have := (snoc_inj z).2
        omega
    · refine List.Pairwise.imp_of_mem ?_ (rooms_good l).nodup
      intro E F hE hF hne x hx y hy z
      obtain ⟨c, _, rfl⟩ := List.mem_map.mp hx
      obtain ⟨d, _, rfl⟩ := List.mem_map.mp hy
      have := (snoc_inj z).1
      exact hne (by rw [← (hm E hE).2, ← (hm F hF).2, this])
  have hmem : ∀ v ∈ (roomsT l).flatMap fun E => (lettersN l E).map fun c => m E ++ [c], ∃ w c, v = w ++ [c] ∧ MaxW l w ∧ v <:+: l := fun v hv => by
    obtain ⟨E, hE, hv⟩ := List.mem_flatMap.mp hv
    obtain ⟨c, hc, rfl⟩ := List.mem_map.mp hv
    refine ⟨m E, c, rfl, (hm E hE).1, ?_⟩
    have h2 := (hm E hE).2
    rw [← h2] at hc
    exact lettersN_eq.mp hc
  generalize ((roomsT l).flatMap fun E => (lettersN l E).map fun c => m E ++ [c]) = L at *
  have hsplit : L.length = (L.filter fun v => decide (MaxW l v)).length + (L.filter fun v => !decide (MaxW l v)).length := split_len _ L
  -- those that are longest
  have hA : (L.filter fun v => decide (MaxW l v)).length ≤ (roomsT l).length - 1 := by
    have := nodup_le m (L.filter fun v => decide (MaxW l v)) ((roomsT l).drop 1) (List.Pairwise.filter _ hnd) fun v hv => by
      obtain ⟨h1, h2⟩ := List.mem_filter.mp hv
      have hmax := of_decide_eq_true h2
      obtain ⟨w, c, hvw, _, _⟩ := hmem v h1
      have hE := part_room v hmax.1
      refine ⟨endN l v, ?_, max_uniq (hm _ hE).1 hmax (hm _ hE).2⟩
      have hz := rooms_zero l
      cases hT : roomsT l with
      | nil =>
        rw [hT] at hE
        cases hE
      | cons E0 Ts =>
        rw [hT] at hE hz
        rw [List.drop_one, List.tail_cons]
        rcases List.mem_cons.mp hE with z | z
        · exfalso
          have hz2 : E0 = endN l [] := by simpa using hz
          rw [hz2] at z
          have h0 : 0 ∈ endN l [] := endN_mem.mpr ⟨Nat.zero_le _, List.nil_suffix⟩
          rw [← z, hvw] at h0
          have := (endN_mem.mp h0).2
          rw [List.take_zero, List.suffix_nil] at this
          simp at this
        · exact z
    rw [List.length_drop] at this
    exact this
  -- the others, by a place where they begin
  have hst : ∀ v, v <:+: l → ∃ s, ∃ e ∈ endN l v, s + v.length = e ∧ v <+: l.drop s := fun v hv => by
    obtain ⟨e, he⟩ := List.exists_mem_of_ne_nil _ (endN_ne.mpr hv)
    obtain ⟨h1, t, ht⟩ := endN_mem.mp he
    refine ⟨t.length, e, he, ?_, ?_⟩
    · have := congrArg List.length ht
      rw [List.length_append, List.length_take] at this
      omega
    · have h4 : l = t ++ (v ++ l.drop e) := by rw [← List.append_assoc, ht, List.take_append_drop]
      rw [h4, List.drop_left]
      exact List.prefix_append _ _
  obtain ⟨g, hg⟩ : ∃ g : List Nat → Nat, ∀ v, v <:+: l → ∃ e ∈ endN l v, g v + v.length = e ∧ v <+: l.drop (g v) := by
    have : ∀ v, ∃ s, v <:+: l → ∃ e ∈ endN l v, s + v.length = e ∧ v <+: l.drop s := fun v => by
      by_cases hv : v <:+: l
      · obtain ⟨s, h⟩ := hst v hv
        exact ⟨s, fun _ => h⟩
      · exact ⟨0, fun z => absurd z hv⟩
    exact ⟨fun v => Classical.choose (this v), fun v => Classical.choose_spec (this v)⟩
  have hB : ∀ N, (∀ v ∈ L.filter fun v => !decide (MaxW l v), 1 ≤ g v ∧ g v ≤ N) → (L.filter fun v => !decide (MaxW l v)).length ≤ N := fun N hN => by
    have := nodup_le (id : Nat → Nat) ((L.filter fun v => !decide (MaxW l v)).map g) (List.range' 1 N) (by
      rw [List.Nodup, List.pairwise_map]
      refine List.Pairwise.imp_of_mem ?_ (List.Pairwise.filter _ hnd)
      intro a b ha hb hne hab
      -- the shorter one is a beginning of the word ahead of the longer one's last letter
      have core : ∀ u v, u ∈ L.filter (fun v => !decide (MaxW l v)) → v ∈ L.filter (fun v => !decide (MaxW l v)) → g u = g v → u.length < v.length → False := fun u v hu hv huv hlt => by
        obtain ⟨u1, u2⟩ := List.mem_filter.mp hu
        obtain ⟨v1, v2⟩ := List.mem_filter.mp hv
        obtain ⟨_, _, _, _, hul⟩ := hmem u u1
        obtain ⟨w, c, hvw, hw, hvl⟩ := hmem v v1
        obtain ⟨_, _, _, pu⟩ := hg u hul
        obtain ⟨_, _, _, pv⟩ := hg v hvl
        rw [← huv] at pv
        have huw : u <+: w := by
          have : u <+: v := List.prefix_of_prefix_length_le pu pv (by omega)
          rw [hvw] at this
          rw [hvw, List.length_append, List.length_singleton] at hlt
          exact List.prefix_of_prefix_length_le this (List.prefix_append _ _) (by omega)
        obtain ⟨t, rfl⟩ := huw
        have hnm : ¬ MaxW l u := by simpa using u2
        have : ∃ x, endN l (x :: u) = endN l u := Classical.byContradiction fun y => hnm ⟨hul, fun x e => y ⟨x, e⟩⟩
        obtain ⟨x, hx⟩ := this
        refine hw.2 x (endN_more fun e he => ?_)
        obtain ⟨he1, y, hy⟩ := endN_mem.mp he
        have hye := congrArg List.length hy
        rw [List.length_append, List.length_append, List.length_take] at hye
        have htk : l.take (y.length + u.length) = y ++ u := by
          have h5 : l = (y ++ u) ++ (t ++ l.drop e) := by
            rw [List.append_assoc, ← List.append_assoc u, ← List.append_assoc y, hy, List.take_append_drop]
          rw [h5, ← List.length_append, List.take_left]
        have hin : y.length + u.length ∈ endN l u := endN_mem.mpr ⟨by omega, by rw [htk]; exact List.suffix_append _ _⟩
        rw [← hx] at hin
        have h6 := (endN_mem.mp hin).2
        rw [htk] at h6
        refine endN_mem.mpr ⟨he1, ?_⟩
        obtain ⟨y2, hy2⟩ := h6
        refine ⟨y2, ?_⟩
        rw [← hy, ← List.append_assoc y, ← hy2, List.append_assoc]
        rfl
      rcases Nat.lt_trichotomy a.length b.length with z | z | z
      · exact core a b ha hb hab z
      · obtain ⟨a1, _⟩ := List.mem_filter.mp ha
        obtain ⟨b1, _⟩ := List.mem_filter.mp hb
        obtain ⟨_, _, _, _, hal⟩ := hmem a a1
        obtain ⟨_, _, _, _, hbl⟩ := hmem b b1
        obtain ⟨_, _, _, pa⟩ := hg a hal
        obtain ⟨_, _, _, pb⟩ := hg b hbl
        rw [← hab] at pb
        exact hne ((List.prefix_of_prefix_length_le pa pb (by omega)).eq_of_length z)
      · exact core b a hb ha hab.symm z) fun x hx => by
      obtain ⟨v, hv, rfl⟩ := List.mem_map.mp hx
      have := hN v hv
      exact ⟨g v, List.mem_range'_1.mpr (by omega), rfl⟩
    rw [List.length_map, List.length_range'] at this
    exact this
  have hgen : ∀ v ∈ L.filter fun v => !decide (MaxW l v), 1 ≤ g v ∧ g v + v.length ≤ l.length ∧ 1 ≤ v.length ∧ v <+: l.drop (g v) ∧ ¬ MaxW l v := fun v hv => by
    obtain ⟨v1, v2⟩ := List.mem_filter.mp hv
    have hnm : ¬ MaxW l v := by simpa using v2
    obtain ⟨w, c, hvw, hw, hvl⟩ := hmem v v1
    obtain ⟨e, he, hge, hp⟩ := hg v hvl
    have he1 := (endN_mem.mp he).1
    have : ∃ x, endN l (x :: v) = endN l v := Classical.byContradiction fun y => hnm ⟨hvl, fun x e => y ⟨x, e⟩⟩
    obtain ⟨x, hx⟩ := this
    rw [← hx] at he
    have := (endN_mem.mp he).2.length_le
    rw [List.length_cons, List.length_take] at this
    have hv1 : 1 ≤ v.length := by
      rw [hvw, List.length_append, List.length_singleton]
      omega
    exact ⟨by omega, by omega, hv1, hp, hnm⟩
  have hroom := rooms_small (l := l) (by omega)
  have hpos := rooms_pos l
  have hzz : l[l.length - 1]? = some (l[l.length - 1]'(by omega)) := List.getElem?_eq_getElem _
  generalize l[l.length - 1]'(by omega) = z at hzz
  by_cases hmz : MaxW l [z]
  · have := hB (l.length - 2) fun v hv => by
      obtain ⟨h1, h2, h4, h5, h6⟩ := hgen v hv
      refine ⟨h1, ?_⟩
      refine Classical.byContradiction fun y => ?_
      have hgv : g v = l.length - 1 := by omega
      rw [hgv] at h5
      have hdr : l.drop (l.length - 1) = [z] := by
        obtain ⟨hlt, hze⟩ := List.getElem?_eq_some_iff.mp hzz
        rw [List.drop_eq_getElem_cons hlt, hze, show l.length - 1 + 1 = l.length by omega, List.drop_length]
      rw [hdr] at h5
      have hv1 : v.length = 1 := by omega
      have : v = [z] := h5.eq_of_length hv1
      rw [this] at h6
      exact h6 hmz
    omega
  · have h7 := rooms_less h3 hzz hmz
    have := hB (l.length - 1) fun v hv => by
      obtain ⟨h1, h2, h4, _, _⟩ := hgen v hv
      exact ⟨h1, by omega⟩
    omega
theorem rooms_tiny {l : List Nat} (h : l.length ≤ 1) : (roomsT l).length ≤ l.length + 1 := by
  have h1 := rooms_len l
  have h2 := foldl_addT_len (subsTo l l.length) [[]]
  have h3 := subsTo_len l l.length
  have h4 : mostR l = ((subsTo l l.length).foldl addT [[]]).length := rfl
  rw [h4] at h1
  have h5 : l.length * l.length ≤ l.length := by
    rcases Nat.le_one_iff_eq_zero_or_eq_one.mp h with z | z <;> simp [z]
  simp only [List.length_cons, List.length_nil] at h2
  omega

end TY
namespace TY
open PySem PySem.Spec PyProof.Rows L2 Evl
/-! ### k43 -/
theorem rooms_60 {l : List Nat} (h : l.length ≤ 30) : (roomsT l).length ≤ 60 := by
  by_cases h2 : 2 ≤ l.length
  · have := rooms_small h2
    omega
  · have := rooms_tiny (l := l) (by omega)
    omega
theorem rooms_20 {l : List Nat} (h : l.length ≤ 10) : (roomsT l).length ≤ 20 := by
  by_cases h2 : 2 ≤ l.length
  · have := rooms_small h2
    omega
  · have := rooms_tiny (l := l) (by omega)
    omega
theorem room_lines {l : List Nat} : ∀ ln ∈ linesR l, ln.length ≤ l.length + 1 := fun ln hln => by
  obtain ⟨E, hE, rfl⟩ := List.mem_map.mp hln
  obtain ⟨w, _, rfl⟩ := (rooms_good l).parts E hE
  unfold linesN nextsN
  rw [List.length_map, List.length_map, (lettersN_perm l _).length_eq]
  have h1 := keysN_len l (endN l w)
  have h2 : (endN l w).length ≤ l.length + 1 := by
    unfold endN
    have := List.length_filter_le (fun e => decide (w <:+ l.take e)) (List.range (l.length + 1))
    rw [List.length_range] at this
    exact this
  omega
theorem ends_few (l : List Nat) : (endsN l).length ≤ (roomsT l).length := by
  unfold endsN
  have := List.length_filter_le (fun i => decide (l.length ∈ (roomsT l).getD i [])) (List.range (roomsT l).length)
  rw [List.length_range] at this
  exact this
theorem ends_lt {l : List Nat} {e : Nat} (h : e ∈ endsN l) : e < (roomsT l).length := by
  unfold endsN at h
  exact List.mem_range.mp (List.mem_filter.mp h).1
theorem ok_sign {c : Nat} (h : c < 0x110000) : PyData.strOk (S [c]) = true ∧ (S [c]).length ≤ 1000 := by
  have := can_sign h
  rw [PyData.canLay0] at this
  exact ⟨this, by rw [S_len]; exact Nat.le_of_ble_eq_true rfl⟩
theorem rw_mach {l : List Nat} (h : l.length ≤ 10) (hc : ∀ c ∈ l, c < 128) : Rw 4 (machD l) := by
  have hF := form_mach (l := l) (by omega) (fun c h => by have := hc c h; omega)
  have hr := rooms_20 h
  have he := ends_few l
  rw [machD_eq]
  refine .tup (k := 3) (Nat.le_of_ble_eq_true rfl) fun x hx => ?_
  simp only [List.mem_cons, List.not_mem_nil, or_false] at hx
  rcases hx with rfl | rfl
  · refine .tup (k := 2) (by rw [List.length_map, linesR_len]; omega) fun x hx => ?_
    obtain ⟨ln, hln, rfl⟩ := List.mem_map.mp hx
    have := room_lines ln hln
    refine .tup (k := 1) (by rw [List.length_map]; omega) fun y hy => ?_
    obtain ⟨p, hp, rfl⟩ := List.mem_map.mp hy
    refine .tup (k := 0) (Nat.le_of_ble_eq_true rfl) fun z hz => ?_
    simp only [List.mem_cons, List.not_mem_nil, or_false] at hz
    have hs := ok_sign (hF.low ln hln p hp)
    have hlt := hF.good.lt ln hln p hp
    rw [linesR_len] at hlt
    rcases hz with rfl | rfl
    · exact .str hs.1 hs.2
    · exact .int _ (by omega)
  · refine .tup (k := 2) (by rw [List.length_map]; omega) fun x hx => ?_
    obtain ⟨e, hee, rfl⟩ := List.mem_map.mp hx
    have := ends_lt hee
    exact .int _ (by omega)
theorem sm_mach {l : List Nat} (h : l.length ≤ 30) (hc : ∀ c ∈ l, c < 128) : Sm 4 (machD l) := by
  have hF := form_mach (l := l) (by omega) (fun c h => by have := hc c h; omega)
  have hr := rooms_60 h
  have he := ends_few l
  rw [machD_eq]
  refine .tup (k := 3) (Nat.le_of_ble_eq_true rfl) fun x hx => ?_
  simp only [List.mem_cons, List.not_mem_nil, or_false] at hx
  rcases hx with rfl | rfl
  · refine .tup (k := 2) (by rw [List.length_map, linesR_len]; omega) fun x hx => ?_
    obtain ⟨ln, hln, rfl⟩ := List.mem_map.mp hx
    have := room_lines ln hln
    refine .tup (k := 1) (by rw [List.length_map]; omega) fun y hy => ?_
    obtain ⟨p, hp, rfl⟩ := List.mem_map.mp hy
    refine .tup (k := 0) (Nat.le_of_ble_eq_true rfl) fun z hz => ?_
    simp only [List.mem_cons, List.not_mem_nil, or_false] at hz
    have hs := ok_sign (hF.low ln hln p hp)
    rcases hz with rfl | rfl
    · exact .str hs.1 hs.2
    · exact .int _
  · refine .tup (k := 2) (by rw [List.length_map]; omega) fun x hx => ?_
    obtain ⟨e, hee, rfl⟩ := List.mem_map.mp hx
    exact .int _
theorem infix_lines {u w : List Nat} (h : linesR u = linesR w) : u <:+: w := by
  have h1 := led_word u u
  rw [if_pos (List.infix_refl u), h, led_word w u] at h1
  by_cases h2 : u <:+: w
  · exact h2
  · rw [if_neg h2] at h1
    cases h1
theorem machD_inj {u w : List Nat} (h : machD u = machD w) : u = w := by
  rw [machD_eq u] at h
  have h1 := (mach_parts (w := w) (R := linesR u) (es := (endsN u).map fun (e : Nat) => .int (e : Int)) h).1
  have h2 := infix_lines h1
  have h3 := infix_lines h1.symm
  exact h2.eq_of_length (Nat.le_antisymm h2.length_le h3.length_le)
def optS (w : List Nat) : PyData := if isTextV w = true then .str (S w) else .none
def optT (w : List Nat) : V := if isTextV w = true then .str (S w) else .non
section
variable {K : PySem.W.Frag} {σ : L2.St} {H : Hp} {te : TE} {tA : TA} {sp : Sp} {vs : List V} {ds : List PyData} {D : Ends} {E : XK} {w : List Nat}
theorem eq_optS (h : Ev te σ H (optT w)) : EvQ K te σ H (optS w) := by
  unfold optT at h
  unfold optS
  by_cases hw : isTextV w = true
  · rw [if_pos hw] at h ⊢
    exact eq_str h
  · rw [if_neg hw] at h ⊢
    exact eq_non h
theorem shaped_optS (hc : ∀ c ∈ w, c < 128) : SeqAt.shaped (optS w) = true := by
  unfold optS
  split
  · refine shaped_of ?_ (by rw [PyData.depth]; decide)
    rw [PyData.canLay0]
    unfold PyData.strOk
    show w.toArray.all (· < 0x110000) = true
    simp only [List.all_toArray, List.all_eq_true, decide_eq_true_eq]
    intro c h
    have := hc c h
    omega
  · exact shaped_of (by rw [PyData.canLay0]) (by rw [PyData.depth]; decide)
theorem eqv_optS (w : List Nat) : PyData.eqv (optS w) (optS w) = true := by
  unfold optS
  split
  · simp [PyData.eqv]
  · simp [PyData.eqv]
theorem sv_told (h : DpAll K H vs [machD w]) (hl : w.length ≤ 30) (hc : ∀ c ∈ w, c < 128) : SpV (spTold K) vs H (optT w) := fun H1 e Q q E => by
  cases h with
  | cons h1 h2 =>
    cases h2
    unfold optT at q
    refine ⟨_, _, 4, rfl, Dp.ext e h1, sm_mach hl hc, by omega, fun u hu hd => ?_, fun hno => ?_⟩
    · have := machD_inj hd
      subst this
      rw [if_pos hu] at q
      exact q
    · rw [if_neg (fun z => hno w z rfl)] at q
      exact q
theorem sv_formM (h : DpAll K H vs [machD w]) (hl : w.length ≤ 30) (hc : ∀ c ∈ w, c < 128) : SpV (spFormE K) vs H (.bl true) := by
  cases h with
  | cons h1 h2 =>
    cases h2
    have := sv_formE h1 (sm_mach hl hc) (Nat.le_of_ble_eq_true rfl) (R := linesR w) (es := endsN w) (by
      rw [← machD_eq]
      exact exact_refl _ (exact_mach w)) (form_mach (by omega) fun c h => by have := hc c h; omega)
    rw [exact_mach] at this
    exact this
theorem s_asgCQ {i : Nat} (h : EvAQ K tA σ H ds) (k : ∀ vs H1, Ex H H1 → DpAll K H1 vs ds → sp vs H1 (fun v H2 => D.nx (σ.set i (some v)) H2) E) : tAsg (tCall sp [] E tA) (gName i) D σ H :=
  h H (Ex.refl H) _ fun vs H1 e1 hv => by
    show sp (vs ++ []) H1 _ E
    rw [List.append_nil]
    exact k vs H1 e1 hv
end
abbrev s_law : Stmt := topS 34
theorem sc_law : FnScope ["_law_script", "_law_text_here", "_law_word", "_law_first", "_law_thing", "_law_number", "_law_found"] ["_law_script"] (defScope s_law) := ⟨rfl, rfl, rfl, by decide +kernel, rfl, by decide +kernel, by decide +kernel⟩
def spLaw (K : PySem.W.Frag) : Sp := fun vs H Q _ => ∃ (a : Addr) (ns : List Int), vs = [.ref a] ∧ SqL K H a (ns.map V.int) ∧ ns.length ≤ 63 ∧ ∀ H', Q (.bl true) H'
section
variable {P : Program} {w : World} {K : PySem.W.Frag} {mg : Str → Option Value} {base : Heap}
theorem ok_law {f : Addr} {fd : FuncData} (F : Fun K "law" "law" s_law f fd) (T_ : Nm mg) (c__law_mixed : Cl P w K mg base 2 "_law_mixed" (spMixed K)) (c__law_text : Cl P w K mg base 2 "_law_text" spText) (c__law_strange : Cl P w K mg base 1 "_law_strange" spStrange)
    (c__law_told : Cl P w K mg base 5 "_law_told" (spTold K)) (c__law_machine : Cl P w K mg base 2 "_law_machine" spMach) (c__law_is_text : Cl P w K mg base 1 "_law_is_text" spIsTxt) (c_machine : Cl P w K mg base 3 "machine" spMach) (c__law_has_form : Cl P w K mg base 3 "_law_has_form" (spFormE K)) (c__law_spoilt : Cl P w K mg base 6 "_law_spoilt" (spSpoilt K 5)) : FnOk P w K mg base CX0 7 f fd ["_law_script"] (spLaw K) := by
  refine F.ok sc_law (fun vs H Q E h => ?_) (fun cdv A outer s H vs Q E hr h => ?_)
  · obtain ⟨a, ns, rfl, _⟩ := h
    rfl
  · obtain ⟨a, ns, rfl, hS, hlen, q⟩ := h
    refine ⟨_, (pss_cons (ps_set (i := 1) sc_law.nd rfl (.inl rfl) (pe_cl c__law_text hr (by first | decide | omega) (by rfl) (pa_cons (pe_cl c__law_mixed hr (by first | decide | omega) (by rfl) (pa_cons (pv 0) (pa_cons pe_int pa_nil))) (pa_cons pe_int pa_nil))))
      (pss_cons (ps_if (pt_cmpR op_eq (pe_op op_mod (pe_cl c__law_mixed hr (by first | decide | omega) (by rfl) (pa_cons (pv 0) (pa_cons pe_int pa_nil))) pe_int) pe_int (nomark _))
      (pss_cons (ps_set (i := 2) sc_law.nd rfl (.inl rfl) (pe_cl c__law_strange hr (by first | decide | omega) (by rfl) (pa_cons (pv 1) (pa_cons (pe_op op_fdiv (pe_cl c__law_mixed hr (by first | decide | omega) (by rfl) (pa_cons (pv 0) (pa_cons pe_int pa_nil))) pe_int) pa_nil))))
      (pss_one (ps_ret (pe_cmpR (kO K rEqD (op_eqD (hu64 hr))) (pe_cl c__law_told hr (by first | decide | omega) (by rfl) (pa_cons (pe_cl c__law_machine hr (by first | decide | omega) (by rfl) (pa_cons (pv 2) pa_nil)) pa_nil)) (pe_ix (kI K rIxL ix_list) (pe_lst (pa_cons pe_non (pa_cons (pv 2) pa_nil))) (pe_callTy call_int1 (by rfl) T_.n_int bt_int (pa_cons (pe_cl c__law_is_text hr (by first | decide | omega) (by rfl) (pa_cons (pv 2) pa_nil)) pa_nil)) (fun _ _ => rfl)) (nomark _)))))
      pss_nil)
      (pss_cons (ps_set (i := 3) sc_law.nd rfl (.inl rfl) (pe_cl c__law_machine hr (by first | decide | omega) (by rfl) (pa_cons (pv 1) pa_nil)))
      (pss_cons (ps_if (PW.pt (pw_or (pt_cmpR (kO K rNeD (op_neD (hu64 hr))) (pe_cl c_machine hr (by first | decide | omega) (by rfl) (pa_cons (pv 1) pa_nil)) (pv 3) (nomark _)) (pw_or1 (pt_not (pt_val (pe_cl c__law_has_form hr (by first | decide | omega) (by rfl) (pa_cons (pe_cl c_machine hr (by first | decide | omega) (by rfl) (pa_cons (pv 1) pa_nil)) pa_nil)))))))
      (pss_one (ps_ret pe_bl))
      pss_nil)
      (pss_cons (ps_set (i := 4) sc_law.nd rfl (.inl rfl) (pv 3))
      (pss_cons (ps_set (i := 5) sc_law.nd rfl (.inl rfl) (pe_cl c__law_mixed hr (by first | decide | omega) (by rfl) (pa_cons (pv 0) (pa_cons pe_int pa_nil))))
      (pss_cut (ps_if (pt_cmpR op_gt (pe_op op_mod (pv 5) pe_int) pe_int (nomark _))
      (pss_one (ps_set (i := 4) sc_law.nd rfl (.inl rfl) (pe_cl c__law_spoilt hr (by first | decide | omega) (by rfl) (pa_cons (pv 3) (pa_cons (pe_cl c__law_mixed hr (by first | decide | omega) (by rfl) (pa_cons (pv 0) (pa_cons pe_int pa_nil))) (pa_cons (pe_op op_mod (pe_op op_fdiv (pv 5) pe_int) pe_int) pa_nil))))))
      pss_nil)
      (pss_cons (ps_set (i := 6) sc_law.nd rfl (.inl rfl) (pe_cl c__law_told hr (by first | decide | omega) (by rfl) (pa_cons (pv 4) pa_nil)))
      (pss_cons (ps_if (pt_cmpR op_eq (pe_op op_mod (pv 5) pe_int) pe_int (nomark _))
      (pss_one (ps_ret (pe_cmpR (kO K rEqD (op_eqD (hu64 hr))) (pv 6) (pv 1) (nomark _))))
      pss_nil)
      (pss_cons (ps_if (pt_cmpR op_isN (pv 6) pe_non (nomark _))
      (pss_one (ps_ret (pe_or (pe_cmpR (kO K rNeD (op_neD (hu64 hr))) (pv 4) (pv 3) (nomark _)) (pe_one (pe_not (pe_cl c__law_has_form hr (by first | decide | omega) (by rfl) (pa_cons (pv 4) pa_nil)))))))
      pss_nil)
      (pss_cons (ps_if (PW.pt (pw_or (pt_not (pt_val (pe_callB (kC K rIsi call_isi) (by rfl) T_.n_isinstance bt_isinstance (pa_cons (pv 6) (pa_cons (pe_bltn (v := .ty "str") (by rfl) T_.n_str bt_str rfl) pa_nil))))) (pw_or (pt_cmpR op_gt (pe_callB call_len_str (by rfl) T_.n_len PySem.boot_len (pa_cons (pv 6) pa_nil)) pe_int (nomark _)) (pw_or1 (pt_not (pt_val (pe_cl c__law_has_form hr (by first | decide | omega) (by rfl) (pa_cons (pv 4) pa_nil))))))))
      (pss_one (ps_ret pe_bl))
      pss_nil)
      (pss_one (ps_ret (pe_cmpR (kO K rEqD (op_eqD (hu64 hr))) (pe_cl c__law_machine hr (by first | decide | omega) (by rfl) (pa_cons (pv 6) pa_nil)) (pv 4) (nomark _))))))))))))))), ?_⟩
    have mx : ∀ (k : Nat), k ≤ 1000 → ∀ H1, Ex H H1 → SpV (spMixed K) [.ref a, .int (k : Int)] H1 (.int (mixV ns k)) := fun k hk H1 e => sv_mixed (ex_l e hS) hk
    refine q_asg (v := .str (S (textV (mixV ns 0) 10))) (ev_cl (ea_cons (ev_cl (ea_cons (ev_var rfl) (ea_cons ev_c ea_nil)) (mx 0 (by decide) _ (Ex.refl _))) (ea_cons ev_c ea_nil)) (sv_text (m := 10) (mixV_pos _ _) (by decide))) fun H1 e1 => ?_
    have hl := textV_len (mixV_pos ns 0) 10
    have hlow := textV_low (mixV_pos ns 0) 10
    generalize textV (mixV ns 0) 10 = l at hl hlow
    have hc : ∀ c ∈ l, c < 128 := fun c h => by
      have := hlow c h
      omega
    have hlt := isTextV_of hlow (by omega)
    have hn3 := mixV_pos ns 3
    refine q_when (et_test (ev_eqI (ev_op (ev_cl (ea_cons (ev_var rfl) (ea_cons ev_c ea_nil)) (mx 3 (by decide) _ e1)) ev_c (rv_I (by decide))) ev_c)) (fun _ H2 e2 => ?_) fun _ H2 e2 => ?_
    · refine q_asgC (ea_cons (ev_var rfl) (ea_cons (ev_op (ev_cl (ea_cons (ev_var rfl) (ea_cons ev_c ea_nil)) (mx 3 (by decide) _ (e1.trans e2))) ev_c (rv_I ⟨by decide, by decide⟩)) ea_nil)) fun H3 e3 => ⟨l, _, rfl, Int.ediv_nonneg hn3 (by decide), hl, hc, fun u hu huc H4 e4 => ?_⟩
      refine s_ret (v := .bl true) (ev_is (ev_eqD (eq_optS (ev_callQ (eqa_cons (eq_d (ed_call (ea_cons (ev_var rfl) ea_nil) (sd_mach (by omega)))) eqa_nil) fun vs H5 e5 hvs => sv_told hvs hu huc)) (eq_ixL (j := if isTextV u = true then 1 else 0) (d := optS u) (eq_lst (eqa_cons (eq_non ev_c) (eqa_cons (eq_str (ev_var rfl)) eqa_nil)) (Nat.le_of_ble_eq_true rfl)) (ev_is (ev_intB (ev_cl (ea_cons (ev_var rfl) ea_nil) (sv_isTxt (by omega) huc))) ?_) ?_) (shaped_optS huc) (shaped_optS huc)) (congrArg V.bl (eqv_optS u))) fun H5 _ => q H5
      · cases isTextV u <;> rfl
      · unfold optS
        cases isTextV u <;> rfl
    have hF := form_mach (l := l) (by omega) (fun c h => by have := hc c h; omega)
    have hsh := shaped_machD (w := l) (by omega) (fun c h => by have := hc c h; omega)
    have hsm := sm_mach (l := l) (by omega) hc
    have e12 := e1.trans e2
    refine q_asgD (ed_call (ea_cons (ev_var rfl) ea_nil) (sd_mach (l := l) (by omega))) fun v H3 e3 hv => ?_
    have hvd : ∀ {H'}, Ex H3 H' → Dp K H' v (machD l) := fun e => (Td.ex e hv).dp
    refine q_when (b := false) (et_is (et_or (et_test (ev_neD (eq_d (ed_call (ea_cons (ev_var rfl) ea_nil) (sd_mach (by omega)))) (eq_var rfl (hvd (Ex.refl _))) hsh hsh)) fun _ => et_not (et_B (ev_callQ (eqa_cons (eq_d (ed_call (ea_cons (ev_var rfl) ea_nil) (sd_mach (by omega)))) eqa_nil) fun vs H4 e4 hvs => sv_formM hvs (by omega) hc))) (by rw [exact_refl _ (exact_mach l)]; rfl)) (fun hb => by cases hb) fun _ H4 e4 => ?_
    refine q_asg (v := v) (ev_var rfl) fun H5 e5 => ?_
    have e35 := e4.trans e5
    have e15 := (e12.trans e3).trans e35
    refine q_asg (v := .int (mixV ns 1)) (ev_cl (ea_cons (ev_var rfl) (ea_cons ev_c ea_nil)) (mx 1 (by decide) _ e15)) fun H6 e6 => ?_
    have hn1 := mixV_pos ns 1
    generalize mixV ns 1 = n at hn1
    refine ⟨fun σ' H' => ∃ (u : V) (d : PyData), σ' = [some (.ref a), some (.str (S l)), none, some v, some u, some (.int n), none] ∧ Ex H3 H' ∧ Dp K H' u d ∧ Sm 9 d ∧ (n % 3 = 0 → d = machD l), ?_, ?_⟩
    · refine s_when (et_test (ev_op (ev_op (ev_var rfl) ev_c (rv_I (by decide))) ev_c rv_I0)) (fun hb H7 e7 => ?_) fun hb H7 e7 => ⟨v, machD l, rfl, (e35.trans e6).trans e7, hvd ((e35.trans e6).trans e7), hsm.mono (by omega), fun _ => rfl⟩
      have hb0 := of_decide_eq_true hb
      have e37 := (e35.trans e6).trans e7
      have j0 : 0 ≤ n / 3 % 5 := Int.emod_nonneg _ (by decide)
      have j1 : n / 3 % 5 < 5 := Int.emod_lt_of_pos _ (by decide)
      obtain ⟨m, hm⟩ : ∃ m : Nat, n / 3 % 5 = (m : Int) := ⟨(n / 3 % 5).toNat, by omega⟩
      refine s_asgCQ (eqa_cons (eq_var rfl (hvd e37)) (eqa_cons (eq_int (ev_cl (ea_cons (ev_var rfl) (ea_cons ev_c ea_nil)) (mx 2 (by decide) _ ((e12.trans e3).trans e37)))) (eqa_cons (eq_int (ev_is (ev_op (ev_op (ev_var rfl) ev_c (rv_I ⟨by decide, by decide⟩)) ev_c (rv_I (by decide))) (congrArg V.int hm))) eqa_nil))) fun vs H8 e8 hvs => ?_
      cases hvs with
      | cons g1 g2 =>
        cases g2 with
        | cons g3 g4 =>
          cases g3
          cases g4 with
          | cons g5 g6 =>
            cases g5
            cases g6
            have hm4 : m ≤ 4 := by omega
            exact ⟨_, _, mixV ns 2, m, 4, rfl, hm4, mixV_pos ns 2, g1, rw_mach hl hc, fun u du H9 e9 hu hsu => ⟨u, du, rfl, (e37.trans e8).trans e9, hu, hsu, fun z => by omega⟩⟩
    rintro σ' H7 ⟨u, d, rfl, e37, hu, hsd, hd0⟩
    refine q_asgCQ (eqa_cons (eq_var rfl hu) eqa_nil) fun vs H8 e8 hvs => ?_
    have hu8 := Dp.ext e8 hu
    cases hvs with
    | cons g1 g2 =>
      cases g2
      refine ⟨_, d, 9, rfl, g1, hsd, by omega, fun x hx hdx H9 e9 => ?_, fun hno H9 e9 => ?_⟩
      · subst hdx
        have hx24 := isText_len hx
        have hxc : ∀ c ∈ x, c < 128 := fun c h => by
          unfold isTextV at hx
          rw [Bool.and_eq_true, List.all_eq_true] at hx
          have := alph_mem.mp (of_decide_eq_true (hx.2 c h))
          omega
        have hu9 := Dp.ext e9 hu8
        have hshx := shaped_machD (w := x) (by omega) (fun c h => by have := hxc c h; omega)
        refine q_when (b := decide (n % 3 = 0)) (et_test (ev_eqI (ev_op (ev_var rfl) ev_c (rv_I (by decide))) ev_c)) (fun hb H10 e10 => ?_) fun hb H10 e10 => ?_
        · have := machD_inj (hd0 (of_decide_eq_true hb))
          subst this
          have hsx : SeqAt.shaped (.str (S x)) = true := by
            have := shaped_optS hxc
            unfold optS at this
            rw [if_pos hx] at this
            exact this
          exact s_ret (v := .bl true) (ev_is (ev_eqD (eq_str (ev_var rfl)) (eq_str (ev_var rfl)) hsx hsx) (by simp [PyData.eqv])) fun H11 _ => q H11
        refine q_when (b := false) (et_is (et_test (ev_isN (ev_var rfl))) rfl) (fun hb => by cases hb) fun _ H11 e11 => ?_
        refine q_when (b := false) (et_is (et_or (et_not (a := true) (et_B (ev_isi (T := "str") (b := true) (ea_cons (ev_var rfl) (ea_cons ev_c ea_nil)) (fun H' _ => .base (.str _)) (by decide +kernel) (.ty _)))) fun _ => et_or (et_test (ev_op (ev_lenStr (ev_var rfl) (by omega)) ev_c rv_I0)) fun _ => et_not (et_B (ev_callQ (eqa_cons (eq_var rfl (Dp.ext (e10.trans e11) hu9)) eqa_nil) fun vs H12 e12 hvs => sv_formM hvs (by omega) hxc))) ?_) (fun hb => by cases hb) fun _ H12 e12 => ?_
        · have : ¬ ((24 : Int) < (x.length : Int)) := by omega
          simp [this]
        · exact s_ret (v := .bl true) (ev_is (ev_eqD (eq_d (ed_call (ea_cons (ev_var rfl) ea_nil) (sd_mach (by omega)))) (eq_var rfl (Dp.ext ((e10.trans e11).trans e12) hu9)) hshx hshx) (congrArg V.bl (exact_refl _ (exact_mach x)))) fun H13 _ => q H13
      · have hu9 := Dp.ext e9 hu8
        refine q_when (b := decide (n % 3 = 0)) (et_test (ev_eqI (ev_op (ev_var rfl) ev_c (rv_I (by decide))) ev_c)) (fun hb => absurd (hd0 (of_decide_eq_true hb)) (hno l hlt)) fun hb H10 e10 => ?_
        refine q_when (b := true) (et_is (et_test (ev_isN (ev_var rfl))) rfl) (fun _ H11 e11 => ?_) (fun hb => by cases hb)
        have e311 := (e37.trans e8).trans ((e9.trans e10).trans e11)
        have hu11 := Dp.ext (e10.trans e11) hu9
        refine s_ret (v := .bl true) (ev_is (ev_orV (a := !PyData.eqv d (machD l)) (b := !exactD d) (ev_neD (eq_var rfl hu11) (eq_var rfl (hvd e311)) (hsd.shaped (by omega)) hsh) fun hz => ev_notV (ev_callQ (eqa_cons (eq_var rfl hu11) eqa_nil) fun vs H12 e12 hvs => ?_)) (congrArg V.bl ?_)) fun H12 _ => q H12
        · cases hvs with
          | cons k1 k2 =>
            cases k2
            exact sv_formE k1 hsd (by omega) (R := linesR l) (es := endsN l) (by rw [← machD_eq]; simpa using hz) hF
        · by_cases h1 : PyData.eqv d (machD l) = true
          · have : exactD d = false := by
              rw [← Bool.not_eq_true]
              intro h2
              exact hno l hlt (exact_eq _ _ h2 (exact_mach l) h1)
            rw [this, Bool.not_false, Bool.or_true]
          · rw [Bool.not_eq_true] at h1
            rw [h1]
            rfl
end

end TY
namespace TY
open PySem PySem.Spec PyProof.Rows L2 Evl
theorem all_mk {l : PySem.W.OpenLaw} {w : World} {K : PySem.W.Frag} {h : Heap} {mg : Str → Option Value} {fa f1 f2 f3 f4 f5 f6 f7 f8 f9 f10 f11 f12 f13 f14 f15 f16 f17 f18 f19 f20 f21 f22 f23 f24 f25 : Addr} (X : K.In h) (G : h.Ns mainGlobals mg) (hfa : mg "law" = some (.ref fa))
    {od1 an1 od2 an2 od3 an3 od4 an4 od5 an5 od6 an6 od7 an7 od8 an8 od9 an9 od10 an10 od11 an11 od12 an12 od13 an13 od14 an14 od15 an15 od16 an16 od17 an17 od18 an18 od19 an19 od20 an20 od21 an21 od22 an22 od23 an23 od24 an24 od25 an25 : Option Addr} {sl1 sl2 sl3 sl4 sl5 sl6 sl7 sl8 sl9 sl10 sl11 sl12 sl13 sl14 sl15 sl16 sl17 sl18 sl19 sl20 sl21 sl22 sl23 sl24 sl25 : Array (Option Value)} {oc1 kV1 dc1 pm1 cd1 ct1 oc2 kV2 dc2 pm2 cd2 ct2 oc3 kV3 dc3 pm3 cd3 ct3 oc4 kV4 dc4 pm4 cd4 ct4 oc5 kV5 dc5 pm5 cd5 ct5 oc6 kV6 dc6 pm6 cd6 ct6 oc7 kV7 dc7 pm7 cd7 ct7 oc8 kV8 dc8 pm8 cd8 ct8 oc9 kV9 dc9 pm9 cd9 ct9 oc10 kV10 dc10 pm10 cd10 ct10 oc11 kV11 dc11 pm11 cd11 ct11 oc12 kV12 dc12 pm12 cd12 ct12 oc13 kV13 dc13 pm13 cd13 ct13 oc14 kV14 dc14 pm14 cd14 ct14 oc15 kV15 dc15 pm15 cd15 ct15 oc16 kV16 dc16 pm16 cd16 ct16 oc17 kV17 dc17 pm17 cd17 ct17 oc18 kV18 dc18 pm18 cd18 ct18 oc19 kV19 dc19 pm19 cd19 ct19 oc20 kV20 dc20 pm20 cd20 ct20 oc21 kV21 dc21 pm21 cd21 ct21 oc22 kV22 dc22 pm22 cd22 ct22 oc23 kV23 dc23 pm23 cd23 ct23 oc24 kV24 dc24 pm24 cd24 ct24 oc25 kV25 dc25 pm25 cd25 ct25 : Value}
    (a1 : PySem.W.nsIn K mainGlobals "_law_cell_at" = some (some (.ref f1))) (l1 : K.lookup f1 = some ⟨oc1, od1, .func (PySem.W.fnOf "_law_cell_at" "_law_cell_at" (defArgs s__law_cell_at) (defBody s__law_cell_at) (defScope s__law_cell_at) .none kV1 dc1 pm1 an1 cd1 ct1), sl1⟩) (c1 : PySem.W.codeIn K cd1 "_law_cell_at" = true) (k1 : PySem.W.keepIn K (.ref f1) = true)
    (a2 : PySem.W.nsIn K mainGlobals "_law_mixed" = some (some (.ref f2))) (l2 : K.lookup f2 = some ⟨oc2, od2, .func (PySem.W.fnOf "_law_mixed" "_law_mixed" (defArgs s__law_mixed) (defBody s__law_mixed) (defScope s__law_mixed) .none kV2 dc2 pm2 an2 cd2 ct2), sl2⟩) (c2 : PySem.W.codeIn K cd2 "_law_mixed" = true) (k2 : PySem.W.keepIn K (.ref f2) = true)
    (a3 : PySem.W.nsIn K mainGlobals "_law_drawn" = some (some (.ref f3))) (l3 : K.lookup f3 = some ⟨oc3, od3, .func (PySem.W.fnOf "_law_drawn" "_law_drawn" (defArgs s__law_drawn) (defBody s__law_drawn) (defScope s__law_drawn) .none kV3 dc3 pm3 an3 cd3 ct3), sl3⟩) (c3 : PySem.W.codeIn K cd3 "_law_drawn" = true) (k3 : PySem.W.keepIn K (.ref f3) = true)
    (a4 : PySem.W.nsIn K mainGlobals "_law_text" = some (some (.ref f4))) (l4 : K.lookup f4 = some ⟨oc4, od4, .func (PySem.W.fnOf "_law_text" "_law_text" (defArgs s__law_text) (defBody s__law_text) (defScope s__law_text) .none kV4 dc4 pm4 an4 cd4 ct4), sl4⟩) (c4 : PySem.W.codeIn K cd4 "_law_text" = true) (k4 : PySem.W.keepIn K (.ref f4) = true)
    (a5 : PySem.W.nsIn K mainGlobals "nexts" = some (some (.ref f5))) (l5 : K.lookup f5 = some ⟨oc5, od5, .func (PySem.W.fnOf "nexts" "nexts" (defArgs s_nexts) (defBody s_nexts) (defScope s_nexts) .none kV5 dc5 pm5 an5 cd5 ct5), sl5⟩) (c5 : PySem.W.codeIn K cd5 "nexts" = true) (k5 : PySem.W.keepIn K (.ref f5) = true)
    (a6 : PySem.W.nsIn K mainGlobals "lines_of" = some (some (.ref f6))) (l6 : K.lookup f6 = some ⟨oc6, od6, .func (PySem.W.fnOf "lines_of" "lines_of" (defArgs s_lines_of) (defBody s_lines_of) (defScope s_lines_of) .none kV6 dc6 pm6 an6 cd6 ct6), sl6⟩) (c6 : PySem.W.codeIn K cd6 "lines_of" = true) (k6 : PySem.W.keepIn K (.ref f6) = true)
    (a7 : PySem.W.nsIn K mainGlobals "todo_of" = some (some (.ref f7))) (l7 : K.lookup f7 = some ⟨oc7, od7, .func (PySem.W.fnOf "todo_of" "todo_of" (defArgs s_todo_of) (defBody s_todo_of) (defScope s_todo_of) .none kV7 dc7 pm7 an7 cd7 ct7), sl7⟩) (c7 : PySem.W.codeIn K cd7 "todo_of" = true) (k7 : PySem.W.keepIn K (.ref f7) = true)
    (a8 : PySem.W.nsIn K mainGlobals "machine" = some (some (.ref f8))) (l8 : K.lookup f8 = some ⟨oc8, od8, .func (PySem.W.fnOf "machine" "machine" (defArgs s_machine) (defBody s_machine) (defScope s_machine) .none kV8 dc8 pm8 an8 cd8 ct8), sl8⟩) (c8 : PySem.W.codeIn K cd8 "machine" = true) (k8 : PySem.W.keepIn K (.ref f8) = true)
    (a9 : PySem.W.nsIn K mainGlobals "is_whole" = some (some (.ref f9))) (l9 : K.lookup f9 = some ⟨oc9, od9, .func (PySem.W.fnOf "is_whole" "is_whole" (defArgs s_is_whole) (defBody s_is_whole) (defScope s_is_whole) .none kV9 dc9 pm9 an9 cd9 ct9), sl9⟩) (c9 : PySem.W.codeIn K cd9 "is_whole" = true) (k9 : PySem.W.keepIn K (.ref f9) = true)
    (a10 : PySem.W.nsIn K mainGlobals "is_line" = some (some (.ref f10))) (l10 : K.lookup f10 = some ⟨oc10, od10, .func (PySem.W.fnOf "is_line" "is_line" (defArgs s_is_line) (defBody s_is_line) (defScope s_is_line) .none kV10 dc10 pm10 an10 cd10 ct10), sl10⟩) (c10 : PySem.W.codeIn K cd10 "is_line" = true) (k10 : PySem.W.keepIn K (.ref f10) = true)
    (a11 : PySem.W.nsIn K mainGlobals "has_form" = some (some (.ref f11))) (l11 : K.lookup f11 = some ⟨oc11, od11, .func (PySem.W.fnOf "has_form" "has_form" (defArgs s_has_form) (defBody s_has_form) (defScope s_has_form) .none kV11 dc11 pm11 an11 cd11 ct11), sl11⟩) (c11 : PySem.W.codeIn K cd11 "has_form" = true) (k11 : PySem.W.keepIn K (.ref f11) = true)
    (a12 : PySem.W.nsIn K mainGlobals "longest_word" = some (some (.ref f12))) (l12 : K.lookup f12 = some ⟨oc12, od12, .func (PySem.W.fnOf "longest_word" "longest_word" (defArgs s_longest_word) (defBody s_longest_word) (defScope s_longest_word) .none kV12 dc12 pm12 an12 cd12 ct12), sl12⟩) (c12 : PySem.W.codeIn K cd12 "longest_word" = true) (k12 : PySem.W.keepIn K (.ref f12) = true)
    (a13 : PySem.W.nsIn K mainGlobals "is_text" = some (some (.ref f13))) (l13 : K.lookup f13 = some ⟨oc13, od13, .func (PySem.W.fnOf "is_text" "is_text" (defArgs s_is_text) (defBody s_is_text) (defScope s_is_text) .none kV13 dc13 pm13 an13 cd13 ct13), sl13⟩) (c13 : PySem.W.codeIn K cd13 "is_text" = true) (k13 : PySem.W.keepIn K (.ref f13) = true)
    (a14 : PySem.W.nsIn K mainGlobals "text_of" = some (some (.ref f14))) (l14 : K.lookup f14 = some ⟨oc14, od14, .func (PySem.W.fnOf "text_of" "text_of" (defArgs s_text_of) (defBody s_text_of) (defScope s_text_of) .none kV14 dc14 pm14 an14 cd14 ct14), sl14⟩) (c14 : PySem.W.codeIn K cd14 "text_of" = true) (k14 : PySem.W.keepIn K (.ref f14) = true)
    (a15 : PySem.W.nsIn K mainGlobals "_law_told" = some (some (.ref f15))) (l15 : K.lookup f15 = some ⟨oc15, od15, .func (PySem.W.fnOf "_law_told" "_law_told" (defArgs s__law_told) (defBody s__law_told) (defScope s__law_told) .none kV15 dc15 pm15 an15 cd15 ct15), sl15⟩) (c15 : PySem.W.codeIn K cd15 "_law_told" = true) (k15 : PySem.W.keepIn K (.ref f15) = true)
    (a16 : PySem.W.nsIn K mainGlobals "_law_nexts" = some (some (.ref f16))) (l16 : K.lookup f16 = some ⟨oc16, od16, .func (PySem.W.fnOf "_law_nexts" "_law_nexts" (defArgs s__law_nexts) (defBody s__law_nexts) (defScope s__law_nexts) .none kV16 dc16 pm16 an16 cd16 ct16), sl16⟩) (c16 : PySem.W.codeIn K cd16 "_law_nexts" = true) (k16 : PySem.W.keepIn K (.ref f16) = true)
    (a17 : PySem.W.nsIn K mainGlobals "_law_machine" = some (some (.ref f17))) (l17 : K.lookup f17 = some ⟨oc17, od17, .func (PySem.W.fnOf "_law_machine" "_law_machine" (defArgs s__law_machine) (defBody s__law_machine) (defScope s__law_machine) .none kV17 dc17 pm17 an17 cd17 ct17), sl17⟩) (c17 : PySem.W.codeIn K cd17 "_law_machine" = true) (k17 : PySem.W.keepIn K (.ref f17) = true)
    (a18 : PySem.W.nsIn K mainGlobals "_law_whole" = some (some (.ref f18))) (l18 : K.lookup f18 = some ⟨oc18, od18, .func (PySem.W.fnOf "_law_whole" "_law_whole" (defArgs s__law_whole) (defBody s__law_whole) (defScope s__law_whole) .none kV18 dc18 pm18 an18 cd18 ct18), sl18⟩) (c18 : PySem.W.codeIn K cd18 "_law_whole" = true) (k18 : PySem.W.keepIn K (.ref f18) = true)
    (a19 : PySem.W.nsIn K mainGlobals "_law_is_room" = some (some (.ref f19))) (l19 : K.lookup f19 = some ⟨oc19, od19, .func (PySem.W.fnOf "_law_is_room" "_law_is_room" (defArgs s__law_is_room) (defBody s__law_is_room) (defScope s__law_is_room) .none kV19 dc19 pm19 an19 cd19 ct19), sl19⟩) (c19 : PySem.W.codeIn K cd19 "_law_is_room" = true) (k19 : PySem.W.keepIn K (.ref f19) = true)
    (a20 : PySem.W.nsIn K mainGlobals "_law_has_form" = some (some (.ref f20))) (l20 : K.lookup f20 = some ⟨oc20, od20, .func (PySem.W.fnOf "_law_has_form" "_law_has_form" (defArgs s__law_has_form) (defBody s__law_has_form) (defScope s__law_has_form) .none kV20 dc20 pm20 an20 cd20 ct20), sl20⟩) (c20 : PySem.W.codeIn K cd20 "_law_has_form" = true) (k20 : PySem.W.keepIn K (.ref f20) = true)
    (a21 : PySem.W.nsIn K mainGlobals "_law_odd" = some (some (.ref f21))) (l21 : K.lookup f21 = some ⟨oc21, od21, .func (PySem.W.fnOf "_law_odd" "_law_odd" (defArgs s__law_odd) (defBody s__law_odd) (defScope s__law_odd) .none kV21 dc21 pm21 an21 cd21 ct21), sl21⟩) (c21 : PySem.W.codeIn K cd21 "_law_odd" = true) (k21 : PySem.W.keepIn K (.ref f21) = true)
    (a22 : PySem.W.nsIn K mainGlobals "_law_spoilt" = some (some (.ref f22))) (l22 : K.lookup f22 = some ⟨oc22, od22, .func (PySem.W.fnOf "_law_spoilt" "_law_spoilt" (defArgs s__law_spoilt) (defBody s__law_spoilt) (defScope s__law_spoilt) .none kV22 dc22 pm22 an22 cd22 ct22), sl22⟩) (c22 : PySem.W.codeIn K cd22 "_law_spoilt" = true) (k22 : PySem.W.keepIn K (.ref f22) = true)
    (a23 : PySem.W.nsIn K mainGlobals "_law_strange" = some (some (.ref f23))) (l23 : K.lookup f23 = some ⟨oc23, od23, .func (PySem.W.fnOf "_law_strange" "_law_strange" (defArgs s__law_strange) (defBody s__law_strange) (defScope s__law_strange) .none kV23 dc23 pm23 an23 cd23 ct23), sl23⟩) (c23 : PySem.W.codeIn K cd23 "_law_strange" = true) (k23 : PySem.W.keepIn K (.ref f23) = true)
    (a24 : PySem.W.nsIn K mainGlobals "_law_is_text" = some (some (.ref f24))) (l24 : K.lookup f24 = some ⟨oc24, od24, .func (PySem.W.fnOf "_law_is_text" "_law_is_text" (defArgs s__law_is_text) (defBody s__law_is_text) (defScope s__law_is_text) .none kV24 dc24 pm24 an24 cd24 ct24), sl24⟩) (c24 : PySem.W.codeIn K cd24 "_law_is_text" = true) (k24 : PySem.W.keepIn K (.ref f24) = true)
    (a25 : PySem.W.nsIn K mainGlobals "law" = some (some (.ref f25))) (l25 : K.lookup f25 = some ⟨oc25, od25, .func (PySem.W.fnOf "law" "law" (defArgs s_law) (defBody s_law) (defScope s_law) .none kV25 dc25 pm25 an25 cd25 ct25), sl25⟩) (c25 : PySem.W.codeIn K cd25 "law" = true) (k25 : PySem.W.keepIn K (.ref f25) = true)
    (z_len : PySem.W.nsIn K mainGlobals "len" = some none)    (z_range : PySem.W.nsIn K mainGlobals "range" = some none)    (z_tuple : PySem.W.nsIn K mainGlobals "tuple" = some none)    (z_list : PySem.W.nsIn K mainGlobals "list" = some none)    (z_isinstance : PySem.W.nsIn K mainGlobals "isinstance" = some none)    (z_sorted : PySem.W.nsIn K mainGlobals "sorted" = some none)    (z_int : PySem.W.nsIn K mainGlobals "int" = some none)    (z_str : PySem.W.nsIn K mainGlobals "str" = some none)    (z_bool : PySem.W.nsIn K mainGlobals "bool" = some none)    (z_max : PySem.W.nsIn K mainGlobals "max" = some none)    (z_min : PySem.W.nsIn K mainGlobals "min" = some none)    (z_sum : PySem.W.nsIn K mainGlobals "sum" = some none)    (z_all : PySem.W.nsIn K mainGlobals "all" = some none)    (z_zip : PySem.W.nsIn K mainGlobals "zip" = some none)    (z_enumerate : PySem.W.nsIn K mainGlobals "enumerate" = some none)
    {t1 t2 : Tok} (gm : PySem.W.nsIn K mainGlobals "MOST" = some (some (.int 24 t1))) (gl : PySem.W.nsIn K mainGlobals "LETTERS" = some (some (.str "abcdefghijklmnopqrstuvwxyz" t2)))
    {xC xT xM : Addr} (xn : PySem.W.nsIn K mainGlobals "NoMachine" = some (some (.ref xC))) (xF : PySem.W.excIn K xC [.type "ValueError", .type "Exception", .type "BaseException", .type "object"] "ValueError.__new__" = true) (xk : PySem.W.keepIn K (.ref xC) = true) (xb : PySem.W.subIn K (.ref xC) (.type "BaseException") = some true) (xt : PySem.W.typeIn K (.ref xC) = some (.type "type")) (xs : PySem.W.subIn K (.ref xC) (.ref xC) = some true) (xe1 : PySem.W.findIn K (.ref xC) "__getattribute__" = some (some (.builtin "BaseException.__getattribute__"))) (xe2 : PySem.W.findIn K (.ref xC) "__getattr__" = some none) (xe3 : PySem.W.hasDictIn K xC = true) (xe4 : PySem.W.findIn K (.ref xC) "__class__" = some (some (.builtin "object.__class__"))) (xe5 : PySem.W.specialIn K (.builtin "object.__class__") "__get__" = some (some (.builtin "getset_descriptor.__get__"))) (xe6 : PySem.W.takesIn K (.builtin "object.__class__") = some true) (xe7 : PySem.W.mroIn K xC (.type "object") = some true) (xnT : PySem.W.nsIn K mainGlobals "TailError" = some (some (.ref xT))) (xdT : PySem.W.hasDictIn K xT = true) (xtT : PySem.W.typeIn K (.ref xT) = some (.type "type")) (xsT : PySem.W.subIn K (.ref xC) (.ref xT) = some true) (xnM : PySem.W.nsIn K mainGlobals "NoPack" = some (some (.ref xM))) (xdM : PySem.W.hasDictIn K xM = true) (xtM : PySem.W.typeIn K (.ref xM) = some (.type "type")) (xsM : PySem.W.subIn K (.ref xC) (.ref xM) = some false) (xnV : PySem.W.nsIn K mainGlobals "ValueError" = some none) (xsV : PySem.W.subIn K (.ref xC) (.type "ValueError") = some true)
    : ∃ fd : FuncData, (∀ (s : Shared) (v : Value), BindsTo s fd ⟨[v], []⟩ [("_law_script", v)]) ∧ ∀ base : Heap, K.In base → base.Ns mainGlobals mg → FnOk l.prog w K mg base CX0 7 fa fd ["_law_script"] (spLaw K) := by
  have e := hfa.symm.trans (PySem.W.mg_of X G a25)
  cases e
  have T_ : Nm mg := ⟨PySem.W.mg_none_of X G z_len, PySem.W.mg_none_of X G z_range, PySem.W.mg_none_of X G z_tuple, PySem.W.mg_none_of X G z_list, PySem.W.mg_none_of X G z_isinstance, PySem.W.mg_none_of X G z_sorted, PySem.W.mg_none_of X G z_int, PySem.W.mg_none_of X G z_str, PySem.W.mg_none_of X G z_bool, PySem.W.mg_none_of X G z_max, PySem.W.mg_none_of X G z_min, PySem.W.mg_none_of X G z_sum, PySem.W.mg_none_of X G z_all, PySem.W.mg_none_of X G z_zip, PySem.W.mg_none_of X G z_enumerate⟩
  have G_ : Gm mg := ⟨⟨_, PySem.W.mg_of X G gm, _, rfl⟩, ⟨_, PySem.W.mg_of X G gl, _, rfl⟩⟩
  have E_ : Exs K mg xC xT xM := ⟨PySem.W.mg_of X G xn, xF, xk, xb, xt, xs, ⟨xe1, xe2, xb, xe3, xe4, xe5, xe6, xe7⟩, PySem.W.mg_of X G xnT, kit_one (kit_ref xdT xtT xsT) xs xsT, PySem.W.mg_of X G xnM, kit_one (kit_ref xdM xtM xsM) xs xsM, PySem.W.mg_none_of X G xnV, kit_one (by show (if PySem.W.kitMeta "ValueError" = true then PySem.W.subIn K (.ref xC) (.type "ValueError") else none) = some true; rw [if_pos (by decide +kernel)]; exact xsV) xs xsV⟩; have hEx := PySem.W.exm_ref xb xe3 xt xs
  refine ⟨PySem.W.fnOf "law" "law" (defArgs s_law) (defBody s_law) (defScope s_law) .none kV25 dc25 pm25 an25 cd25 ct25, fun s v => .of_eq rfl, fun base _ _ => ?_⟩
  have F1 := fun_mk (st := s__law_cell_at) l1 c1 k1
  have c__law_cell_at : Cl l.prog w K mg base 1 "_law_cell_at" (spCell K) := ⟨f1, _, _, ok__law_cell_at F1 T_, PySem.W.mg_of X G a1, F1.kp, F1.binds (ps := ["_law_script", "_law_k"]) fun _ _ _ _ _ _ us hl => match us, hl with | [_, _], _ => rfl⟩
  have F2 := fun_mk (st := s__law_mixed) l2 c2 k2
  have c__law_mixed : Cl l.prog w K mg base 2 "_law_mixed" (spMixed K) := ⟨f2, _, _, ok__law_mixed F2 T_ c__law_cell_at, PySem.W.mg_of X G a2, F2.kp, F2.binds (ps := ["_law_script", "_law_k"]) fun _ _ _ _ _ _ us hl => match us, hl with | [_, _], _ => rfl⟩
  have F3 := fun_mk (st := s__law_drawn) l3 c3 k3
  have c__law_drawn : Cl l.prog w K mg base 1 "_law_drawn" spDrawn := ⟨f3, _, _, ok__law_drawn F3 T_, PySem.W.mg_of X G a3, F3.kp, F3.binds (ps := ["_law_number", "_law_k"]) fun _ _ _ _ _ _ us hl => match us, hl with | [_, _], _ => rfl⟩
  have F4 := fun_mk (st := s__law_text) l4 c4 k4
  have c__law_text : Cl l.prog w K mg base 2 "_law_text" spText := ⟨f4, _, _, ok__law_text F4 T_ c__law_drawn, PySem.W.mg_of X G a4, F4.kp, F4.binds (ps := ["_law_number", "_law_most"]) fun _ _ _ _ _ _ us hl => match us, hl with | [_, _], _ => rfl⟩
  have F5 := fun_mk (st := s_nexts) l5 c5 k5
  have c_nexts : Cl l.prog w K mg base 1 "nexts" spNexts := ⟨f5, _, _, ok_nexts F5 T_, PySem.W.mg_of X G a5, F5.kp, F5.binds (ps := ["ends", "text"]) fun _ _ _ _ _ _ us hl => match us, hl with | [_, _], _ => rfl⟩
  have F6 := fun_mk (st := s_lines_of) l6 c6 k6
  have c_lines_of : Cl l.prog w K mg base 2 "lines_of" spLines := ⟨f6, _, _, ok_lines_of F6 T_ c_nexts, PySem.W.mg_of X G a6, F6.kp, F6.binds (ps := ["ends", "numbers", "text"]) fun _ _ _ _ _ _ us hl => match us, hl with | [_, _, _], _ => rfl⟩
  have F7 := fun_mk (st := s_todo_of) l7 c7 k7
  have c_todo_of : Cl l.prog w K mg base 2 "todo_of" spTodo := ⟨f7, _, _, ok_todo_of F7 T_ c_nexts, PySem.W.mg_of X G a7, F7.kp, F7.binds (ps := ["todo", "numbers", "text"]) fun _ _ _ _ _ _ us hl => match us, hl with | [_, _, _], _ => rfl⟩
  have F8 := fun_mk (st := s_machine) l8 c8 k8
  have c_machine : Cl l.prog w K mg base 3 "machine" spMach := ⟨f8, _, _, ok_machine F8 T_ c_todo_of c_lines_of, PySem.W.mg_of X G a8, F8.kp, F8.binds (ps := ["text"]) fun _ _ _ _ _ _ us hl => match us, hl with | [_], _ => rfl⟩
  have F9 := fun_mk (st := s_is_whole) l9 c9 k9
  have c_is_whole : Cl l.prog w K mg base 1 "is_whole" (spWholeQ K) := ⟨f9, _, _, ok_is_whole F9 T_, PySem.W.mg_of X G a9, F9.kp, F9.binds (ps := ["thing"]) fun _ _ _ _ _ _ us hl => match us, hl with | [_], _ => rfl⟩
  have F10 := fun_mk (st := s_is_line) l10 c10 k10
  have c_is_line : Cl l.prog w K mg base 2 "is_line" (spLineQ K) := ⟨f10, _, _, ok_is_line F10 T_ c_is_whole, PySem.W.mg_of X G a10, F10.kp, F10.binds (ps := ["thing", "many"]) fun _ _ _ _ _ _ us hl => match us, hl with | [_, _], _ => rfl⟩
  have F11 := fun_mk (st := s_has_form) l11 c11 k11
  have c_has_form : Cl l.prog w K mg base 3 "has_form" (spFormQ K) := ⟨f11, _, _, ok_has_form F11 T_ c_is_line, PySem.W.mg_of X G a11, F11.kp, F11.binds (ps := ["thing"]) fun _ _ _ _ _ _ us hl => match us, hl with | [_], _ => rfl⟩
  have F12 := fun_mk (st := s_longest_word) l12 c12 k12
  have c_longest_word : Cl l.prog w K mg base 1 "longest_word" (spLong K) := ⟨f12, _, _, ok_longest_word F12 T_ G_, PySem.W.mg_of X G a12, F12.kp, F12.binds (ps := ["rooms"]) fun _ _ _ _ _ _ us hl => match us, hl with | [_], _ => rfl⟩
  have F13 := fun_mk (st := s_is_text) l13 c13 k13
  have c_is_text : Cl l.prog w K mg base 1 "is_text" (spIsText K) := ⟨f13, _, _, ok_is_text F13 T_ G_, PySem.W.mg_of X G a13, F13.kp, F13.binds (ps := ["thing"]) fun _ _ _ _ _ _ us hl => match us, hl with | [_], _ => rfl⟩
  have F14 := fun_mk (st := s_text_of) l14 c14 k14
  have c_text_of : ClX l.prog w K mg base 4 "text_of" (spTextOf K xC) := ⟨f14, _, _, ok_text_of F14 T_ c_has_form c_longest_word c_is_text c_machine c_is_whole E_, PySem.W.mg_of X G a14, F14.kp, F14.binds (ps := ["thing"]) fun _ _ _ _ _ _ us hl => match us, hl with | [_], _ => rfl⟩
  have F15 := fun_mk (st := s__law_told) l15 c15 k15
  have c__law_told : Cl l.prog w K mg base 5 "_law_told" (spTold K) := ⟨f15, _, _, ok__law_told F15 T_ c_text_of E_ hEx, PySem.W.mg_of X G a15, F15.kp, F15.binds (ps := ["_law_thing"]) fun _ _ _ _ _ _ us hl => match us, hl with | [_], _ => rfl⟩
  have F16 := fun_mk (st := s__law_nexts) l16 c16 k16
  have c__law_nexts : Cl l.prog w K mg base 1 "_law_nexts" spNexts := ⟨f16, _, _, ok__law_nexts F16 T_, PySem.W.mg_of X G a16, F16.kp, F16.binds (ps := ["_law_ends", "_law_text_here"]) fun _ _ _ _ _ _ us hl => match us, hl with | [_, _], _ => rfl⟩
  have F17 := fun_mk (st := s__law_machine) l17 c17 k17
  have c__law_machine : Cl l.prog w K mg base 2 "_law_machine" spMach := ⟨f17, _, _, ok__law_machine F17 T_ c__law_nexts, PySem.W.mg_of X G a17, F17.kp, F17.binds (ps := ["_law_text_here"]) fun _ _ _ _ _ _ us hl => match us, hl with | [_], _ => rfl⟩
  have F18 := fun_mk (st := s__law_whole) l18 c18 k18
  have c__law_whole : Cl l.prog w K mg base 1 "_law_whole" (spWholeQ K) := ⟨f18, _, _, ok__law_whole F18 T_, PySem.W.mg_of X G a18, F18.kp, F18.binds (ps := ["_law_thing"]) fun _ _ _ _ _ _ us hl => match us, hl with | [_], _ => rfl⟩
  have F19 := fun_mk (st := s__law_is_room) l19 c19 k19
  have c__law_is_room : Cl l.prog w K mg base 2 "_law_is_room" (spRoomE K) := ⟨f19, _, _, ok__law_is_room F19 T_ c__law_whole, PySem.W.mg_of X G a19, F19.kp, F19.binds (ps := ["_law_thing", "_law_many"]) fun _ _ _ _ _ _ us hl => match us, hl with | [_, _], _ => rfl⟩
  have F20 := fun_mk (st := s__law_has_form) l20 c20 k20
  have c__law_has_form : Cl l.prog w K mg base 3 "_law_has_form" (spFormE K) := ⟨f20, _, _, ok__law_has_form F20 T_ c__law_whole c__law_is_room, PySem.W.mg_of X G a20, F20.kp, F20.binds (ps := ["_law_thing"]) fun _ _ _ _ _ _ us hl => match us, hl with | [_], _ => rfl⟩
  have F21 := fun_mk (st := s__law_odd) l21 c21 k21
  have c__law_odd : Cl l.prog w K mg base 1 "_law_odd" (spOdd K) := ⟨f21, _, _, ok__law_odd F21 T_, PySem.W.mg_of X G a21, F21.kp, F21.binds (ps := ["_law_number"]) fun _ _ _ _ _ _ us hl => match us, hl with | [_], _ => rfl⟩
  have F22 := fun_mk (st := s__law_spoilt) l22 c22 k22
  have c__law_spoilt : Cl l.prog w K mg base 6 "_law_spoilt" (spSpoilt K 5) := ⟨f22, _, _, ok__law_spoilt F22 T_ (PySem.W.mg_of X G a22) F22.kp (F22.binds (ps := ["_law_thing", "_law_number", "_law_deep"]) fun _ _ _ _ _ _ us hl => match us, hl with | [_, _, _], _ => rfl) c__law_odd, PySem.W.mg_of X G a22, F22.kp, F22.binds (ps := ["_law_thing", "_law_number", "_law_deep"]) fun _ _ _ _ _ _ us hl => match us, hl with | [_, _, _], _ => rfl⟩
  have F23 := fun_mk (st := s__law_strange) l23 c23 k23
  have c__law_strange : Cl l.prog w K mg base 1 "_law_strange" spStrange := ⟨f23, _, _, ok__law_strange F23 T_, PySem.W.mg_of X G a23, F23.kp, F23.binds (ps := ["_law_text_here", "_law_number"]) fun _ _ _ _ _ _ us hl => match us, hl with | [_, _], _ => rfl⟩
  have F24 := fun_mk (st := s__law_is_text) l24 c24 k24
  have c__law_is_text : Cl l.prog w K mg base 1 "_law_is_text" spIsTxt := ⟨f24, _, _, ok__law_is_text F24 T_, PySem.W.mg_of X G a24, F24.kp, F24.binds (ps := ["_law_word"]) fun _ _ _ _ _ _ us hl => match us, hl with | [_], _ => rfl⟩
  have F25 := fun_mk (st := s_law) l25 c25 k25
  exact ok_law F25 T_ c__law_mixed c__law_text c__law_strange c__law_told c__law_machine c__law_is_text c_machine c__law_has_form c__law_spoilt
end TY
open PySem PySem.W PyProof.Rows
set_option maxHeartbeats 0 in
theorem PySem.Challenge.cw_tailyard_k43_whole_text_of_holds : PySem.Challenge.rw_tailyard_k43_whole_text_of.Holds := by
  w_on; o_law; k_head; (case hw => w_witness2)
  k_fill
  refine L2.walk_of (l := PySem.Challenge.rw_tailyard_k43_whole_text_of) (n := 63) (k := 7) (x := "_law_script") (CX := fun _ => L2.CX0) (sp := fun w => TY.spLaw _) rfl (by decide) rfl ⟨rfl, by decide, by decide⟩ (fun w h Y => PySem.W.kIn_of Y) ?F (fun _ _ a ns hl _ hS => ⟨a, ns, rfl, hS, hl, fun _ => rfl⟩) (fun _ _ _ _ _ h => h)
  case F =>
    intro w mg fa h KX G hmg
    refine' TY.all_mk KX G hmg ?a1 ?l1 ?c1 ?k1 ?a2 ?l2 ?c2 ?k2 ?a3 ?l3 ?c3 ?k3 ?a4 ?l4 ?c4 ?k4 ?a5 ?l5 ?c5 ?k5 ?a6 ?l6 ?c6 ?k6 ?a7 ?l7 ?c7 ?k7 ?a8 ?l8 ?c8 ?k8 ?a9 ?l9 ?c9 ?k9 ?a10 ?l10 ?c10 ?k10 ?a11 ?l11 ?c11 ?k11 ?a12 ?l12 ?c12 ?k12 ?a13 ?l13 ?c13 ?k13 ?a14 ?l14 ?c14 ?k14 ?a15 ?l15 ?c15 ?k15 ?a16 ?l16 ?c16 ?k16 ?a17 ?l17 ?c17 ?k17 ?a18 ?l18 ?c18 ?k18 ?a19 ?l19 ?c19 ?k19 ?a20 ?l20 ?c20 ?k20 ?a21 ?l21 ?c21 ?k21 ?a22 ?l22 ?c22 ?k22 ?a23 ?l23 ?c23 ?k23 ?a24 ?l24 ?c24 ?k24 ?a25 ?l25 ?c25 ?k25 ?z_len ?z_range ?z_tuple ?z_list ?z_isinstance ?z_sorted ?z_int ?z_str ?z_bool ?z_max ?z_min ?z_sum ?z_all ?z_zip ?z_enumerate ?gm ?gl ?xn ?xF ?xk ?xb ?xt ?xs ?xe1 ?xe2 ?xe3 ?xe4 ?xe5 ?xe6 ?xe7 ?xnT ?xdT ?xtT ?xsT ?xnM ?xdM ?xtM ?xsM ?xnV ?xsV
    (case a1 => k_is)
    (case l1 => k_is)
    (case c1 => k_is)
    (case k1 => k_is)
    (case a2 => k_is)
    (case l2 => k_is)
    (case c2 => k_is)
    (case k2 => k_is)
    (case a3 => k_is)
    (case l3 => k_is)
    (case c3 => k_is)
    (case k3 => k_is)
    (case a4 => k_is)
    (case l4 => k_is)
    (case c4 => k_is)
    (case k4 => k_is)
    (case a5 => k_is)
    (case l5 => k_is)
    (case c5 => k_is)
    (case k5 => k_is)
    (case a6 => k_is)
    (case l6 => k_is)
    (case c6 => k_is)
    (case k6 => k_is)
    (case a7 => k_is)
    (case l7 => k_is)
    (case c7 => k_is)
    (case k7 => k_is)
    (case a8 => k_is)
    (case l8 => k_is)
    (case c8 => k_is)
    (case k8 => k_is)
    (case a9 => k_is)
    (case l9 => k_is)
    (case c9 => k_is)
    (case k9 => k_is)
    (case a10 => k_is)
    (case l10 => k_is)
    (case c10 => k_is)
    (case k10 => k_is)
    (case a11 => k_is)
    (case l11 => k_is)
    (case c11 => k_is)
    (case k11 => k_is)
    (case a12 => k_is)
    (case l12 => k_is)
    (case c12 => k_is)
    (case k12 => k_is)
    (case a13 => k_is)
    (case l13 => k_is)
    (case c13 => k_is)
    (case k13 => k_is)
    (case a14 => k_is)
    (case l14 => k_is)
    (case c14 => k_is)
    (case k14 => k_is)
    (case a15 => k_is)
    (case l15 => k_is)
    (case c15 => k_is)
    (case k15 => k_is)
    (case a16 => k_is)
    (case l16 => k_is)
    (case c16 => k_is)
    (case k16 => k_is)
    (case a17 => k_is)
    (case l17 => k_is)
    (case c17 => k_is)
    (case k17 => k_is)
    (case a18 => k_is)
    (case l18 => k_is)
    (case c18 => k_is)
    (case k18 => k_is)
    (case a19 => k_is)
    (case l19 => k_is)
    (case c19 => k_is)
    (case k19 => k_is)
    (case a20 => k_is)
    (case l20 => k_is)
    (case c20 => k_is)
    (case k20 => k_is)
    (case a21 => k_is)
    (case l21 => k_is)
    (case c21 => k_is)
    (case k21 => k_is)
    (case a22 => k_is)
    (case l22 => k_is)
    (case c22 => k_is)
    (case k22 => k_is)
    (case a23 => k_is)
    (case l23 => k_is)
    (case c23 => k_is)
    (case k23 => k_is)
    (case a24 => k_is)
    (case l24 => k_is)
    (case c24 => k_is)
    (case k24 => k_is)
    (case a25 => k_is)
    (case l25 => k_is)
    (case c25 => k_is)
    (case k25 => k_is)
    (case z_len => k_is)
    (case z_range => k_is)
    (case z_tuple => k_is)
    (case z_list => k_is)
    (case z_isinstance => k_is)
    (case z_sorted => k_is)
    (case z_int => k_is)
    (case z_str => k_is)
    (case z_bool => k_is)
    (case z_max => k_is)
    (case z_min => k_is)
    (case z_sum => k_is)
    (case z_all => k_is)
    (case z_zip => k_is)
    (case z_enumerate => k_is)
    (case gm => k_is)
    (case gl => k_is)
    (case xn => k_is)
    (case xF => k_exc)
    (case xk => k_is)
    (case xb => k_is)
    (case xt => k_is)
    (case xs => k_is)
    (case xe1 => k_is)
    (case xe2 => k_is)
    (case xe3 => k_is)
    (case xe4 => k_is)
    (case xe5 => k_is)
    (case xe6 => k_is)
    (case xe7 => k_is)
    (case xnT => k_is)
    (case xdT => k_is)
    (case xtT => k_is)
    (case xsT => k_is)
    (case xnM => k_is)
    (case xdM => k_is)
    (case xtM => k_is)
    (case xsM => k_is)
    (case xnV => k_is)
    (case xsV => k_is)
#print axioms PySem.Challenge.cw_tailyard_k43_whole_text_of_holds
